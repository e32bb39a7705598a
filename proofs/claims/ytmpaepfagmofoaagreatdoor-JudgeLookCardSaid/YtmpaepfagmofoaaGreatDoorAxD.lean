/- Instructions, their classes, and what they read. -/
import Derived.Test.YtmpaepfagmofoaaGreatDoorAxC
set_option linter.all false
namespace Go.Ax
open Go Go.Conc
variable {H : HeapI}

/-- what the steps of one operation come to -/
def OpS (P : Program) (o : Oper) (a : Act) (w : World) (M : Mp) (σ : (St H)) (v : Value) (σ' : (St H)) : Prop :=
  ∀ (b : Frame) (k : List Item) (cs : List Frame) (ops : Array Oper) (i : Nat) (rest : List Nat), ops[i]? = some o → Region.wanted o (yielded ops a.tmps) = true →
  ∃ M' v' w', VRel M' v v' ∧ Goes M σ w M' σ' w' ∧
      Steps P (lone (b.at a (.inRegion ops (i :: rest) :: k)) cs w) (lone (b.at (a.put o.dst v') (.inRegion ops rest :: k)) cs w')

variable {P : Program} {n : Nat} {M : Mp} {σ σ' : (St H)} {w : World} {a : Act} {τ : Env} {o : Oper} {v : Value}

theorem fin_at {b : Frame} {k : List Item} {ops : Array Oper} {i : Nat} {rest : List Nat} (ho : ops[i]? = some o) (v : Value) :
    (b.at a (.inRegion ops (i :: rest) :: k)).finish v = b.at (a.put o.dst v) (.inRegion ops rest :: k) := by
  rw [Frame.finish_at, ho]; rfl

theorem OpS.of_did (h : Did P o a w M σ v σ') : OpS P o a w M σ v σ' := by
  obtain ⟨M', v', w', hr, hv, hg⟩ := h
  refine fun b k cs ops i rest ho hw => ⟨M', v', w', hv, hg, ?_⟩
  have hg := stepG_op (P := P) (b := b) (k := k) (cs := cs) (w := w) (rest := rest) ho hw
  refine .one (step_lone_go ?_)
  rcases hr with hr | ⟨hr, rfl⟩
  · rw [hg, ← fin_at ho]; simp [stepG.apply, hr]
  · rw [hg, ← fin_at ho]; simp [stepG.apply, hr]

/-- what a call gives, the model's function gives -/
def Does (P : Program) (f : FuncId) (args : List Value) (σ : (St H)) (v : Value) (σ' : (St H)) : Prop :=
  ∀ (M : Mp) (w : World) (args' : Array Value), Fresh M σ σ' → HRel M σ w → All2 (VRel M) args args'.toList →
    Calls P f args' w fun e w' => ∃ M' v', e = .returned v' ∧ VRel M' v v' ∧ Goes M σ w M' σ' w'

def CallOK (P : Program) (call : (CallF H)) : Prop := ∀ f args σ v σ', call f args σ = some (v, σ') → callable P f = true ∧ σ.nxt ≤ σ'.nxt ∧ Does P f args σ v σ'

theorem callFunc_run {f : FuncId} (hf : callable P f = true) (args : Array Value) (w : World) : (callFunc f args).run P w = .ok (.enter f args) w := by
  unfold callable at hf
  split at hf
  · rename_i fn hfn
    simp only [Bool.and_eq_true, Bool.not_eq_true'] at hf
    obtain ⟨h1, h2⟩ := hf
    have h2 : fn.name ≠ "runtime.NumGoroutine" := by simpa using h2
    have h3 : fn.body ≠ none := by intro e; rw [e] at h1; cases h1
    simp [callFunc, hfn, h2, h3]
  · cases hf

theorem OpS.of_enter {f : FuncId} {args : List Value} {args' : Array Value} (hr : (execOp a.eval o).run P w = .ok (.enter f args') w) (hd : Does P f args σ v σ')
    (fr : Fresh M σ σ') (hH : HRel M σ w) (hargs : All2 (VRel M) args args'.toList) : OpS P o a w M σ v σ' := by
  intro b k cs ops i rest ho hw
  obtain ⟨e, w'', frm, ⟨M', v', rfl, hv, hgo⟩, hsteps, _, hleave⟩ := hd M w args' fr hH hargs (b.at a (.inRegion ops (i :: rest) :: k) :: cs)
  refine ⟨M', v', w'', hv, hgo, ?_⟩
  have hg := stepG_op (P := P) (b := b) (k := k) (cs := cs) (w := w) (rest := rest) ho hw
  have henter : step P (lone (b.at a (.inRegion ops (i :: rest) :: k)) cs w) =
      .next (lone (Frame.enter P f args' .normal) (b.at a (.inRegion ops (i :: rest) :: k) :: cs) w) :=
    step_lone_go (by rw [hg]; simp [stepG.apply, hr, Frame.at])
  refine .head henter (Steps.trans hsteps (.one ?_))
  rw [← fin_at ho]; exact step_leave_returned hleave

theorem evs_nil : evs [] τ = [] := rfl
theorem evs_cons (x : Od) (xs : List Od) : evs (x :: xs) τ = ev x τ :: evs xs τ := rfl

theorem s_call {f : FuncId} {args : Array Operand} {ts : Array TypeId} {xs : List Od} {call : (CallF H)} (hC : CallOK P call)
    (ho : o.op = .call { callee := .value (.func f), args, argTypes := ts }) (hc : cods n args.toList = some xs) (hH : HRel M σ w) (hE : ERel n M τ a.tmps) (fr : Fresh M σ σ')
    (h : opCall f xs call τ σ = some (v, σ')) : OpS P o a w M σ v σ' := by
  obtain ⟨hcb, _, hd⟩ := hC _ _ _ _ _ h
  refine OpS.of_enter (f := f) (args' := args.map a.eval) ?_ hd fr hH (by rw [Array.toList_map]; exact cods_rel hE hc)
  simp only [execOp, ho, resolve, Sem.run_bind, Act.eval, Deferred.ofValue, Sem.run_pure, Result.andThen_ok, invoke, Array.append_empty, Array.empty_append]
  exact callFunc_run hcb _ _

theorem s_callv {x : Operand} {x' : Od} {args : Array Operand} {ts : Array TypeId} {xs : List Od} {call : (CallF H)} (hC : CallOK P call)
    (ho : o.op = .call { callee := .value x, args, argTypes := ts }) (hx : cod n x = some x') (hc : cods n args.toList = some xs) (hH : HRel M σ w) (hE : ERel n M τ a.tmps) (fr : Fresh M σ σ')
    (h : opCallv x' xs call τ σ = some (v, σ')) : OpS P o a w M σ v σ' := by
  have hrx := cod_rel hE hx
  unfold opCallv at h
  split at h
  · rename_i f first captured hv
    rw [hv] at hrx
    obtain ⟨hcb, _, hd⟩ := hC _ _ _ _ _ h
    obtain ⟨g, xs', ys', he, hv', h1, h2⟩ := hrx.func_inv
    injection he with he; subst he
    refine OpS.of_enter (f := f) (args' := xs' ++ args.map a.eval ++ ys') ?_ hd fr hH ?_
    · simp only [execOp, ho, resolve, Sem.run_bind, hv', Deferred.ofValue, Sem.run_pure, Result.andThen_ok, invoke]
      exact callFunc_run hcb _ _
    · simp only [Array.toList_append, Array.toList_map]
      exact (h1.append (cods_rel hE hc)).append h2
  · cases h

theorem comm_at {b : Frame} {k : List Item} {cs : List Frame} {ops : Array Oper} {i : Nat} {rest : List Nat} {cases' : Array CommCase} {bl : Bool} {sh : CommShape} (ho : ops[i]? = some o) (hw : Region.wanted o (yielded ops a.tmps) = true)
    (hr : (execOp a.eval o).run P w = .ok (.comm cases' bl sh) w) :
    ∃ es, stepG P true (G (b.at a (.inRegion ops (i :: rest) :: k)) cs) w = .comm (G (b.at a (.inRegion ops (i :: rest) :: k)) cs) cases' bl sh w es := by
  have hg := stepG_op (P := P) (b := b) (k := k) (cs := cs) (w := w) (rest := rest) ho hw
  have hb : (stepG P true (G (b.at a (.inRegion ops (i :: rest) :: k)) cs) w).bare = .comm (G (b.at a (.inRegion ops (i :: rest) :: k)) cs) cases' bl sh w := by
    show (stepG P true { frame := _, callers := cs, status := .running, dying := none } w).bare = _
    rw [hg]; simp [stepG.apply, hr, G]
  generalize stepG P true (G (b.at a (.inRegion ops (i :: rest) :: k)) cs) w = s at hb
  cases s <;> simp at hb
  obtain ⟨h1, h2, h3, h4, h5⟩ := hb
  subst h1; subst h2; subst h3; subst h4; subst h5
  exact ⟨_, rfl⟩

theorem put_chan {q B O x cap cap' s r s' r' : Nat} {buf : List Value} {nbuf : List Value} {nbuf' : Array Value} (hH : HRel M σ w) (hobj : σ.obj q = some (.chan cap buf s r)) (hM : M q = some (B, O, x)) (hlt : B < w.heap.size)
    (hrel : All2 (VRel M) nbuf nbuf'.toList) :
    Goes M σ w M (σ.put q (some (.chan cap' nbuf s' r'))) (w.setChan B cap' nbuf' false s' r' false) :=
  put_goes hH hobj rfl hM (.chan (heap_setChan w B cap' nbuf' false s' r' false hlt) hrel)
    (fun B' hB' => by simp [World.setChan, Array.getElem?_setIfInBounds, Ne.symm hB']) (size_setChan ..) rfl rfl rfl

theorem s_sel {cases' : Array SelectCase} {c : SelectCase} {send : Option Od} {z : Value} {c' : Od} {call : (CallF H)} (ho : o.op = .select cases' false) (hcs : cases'.toList = [c])
    (hz : zOf P c.elem = some z) (hc : cod n c.chan = some c') (hsend : (c.send = none ∧ send = none) ∨ ∃ x x', c.send = some x ∧ send = some x' ∧ cod n x = some x')
    (hH : HRel M σ w) (hE : ERel n M τ a.tmps) (h : opSel send z c' call τ σ = some (v, σ')) : OpS P o a w M σ v σ' := by
  have hrc := cod_rel hE hc
  obtain ⟨hzc, hzr⟩ := zOf_run hz
  have hcs' : cases' = #[c] := by apply Array.toList_inj.1; rw [hcs]
  subst hcs'
  have hrun : (execOp a.eval o).run P w = .ok (.comm #[{ chan := a.eval c.chan, send := c.send.map a.eval, zero := z }] false .select) w := by
    simp [go_sem, execOp, ho, hzr, Act.eval]
  intro b k cs ops i rest hoi hw
  obtain ⟨es, hst⟩ := comm_at (b := b) (k := k) (cs := cs) (rest := rest) hoi hw hrun
  have fin : ∀ v', b.at (a.put o.dst v') (.inRegion ops rest :: k) = (b.at a (.inRegion ops (i :: rest) :: k)).finish v' := fun v' => (fin_at hoi v').symm
  have hm1 : ∀ {l : List Value}, All2 (VRel M) l l → VRel M (.tuple l.toArray) (.tuple l.toArray) := fun h => .tuple h
  unfold opSel at h
  split at h
  · rename_i q hq
    rw [hq] at hrc
    split at h
    · rename_i cap buf sent rcvd hobj
      obtain ⟨B, O, xx, hM, hcv⟩ := hrc.chan_inv
      obtain ⟨B', O', x3, hM', hor⟩ := hH.at_ _ _ hobj
      rw [hM] at hM'; injection hM' with hM'; injection hM' with h1 h2; subst h1
      have hlt := hor.lt
      cases hor with
      | @chan _ _ _ _ buf' hb hrel =>
        rw [hcv] at hst
        split at h
        · rename_i xo
          rcases hsend with ⟨h1, h2⟩ | ⟨x, x', h1, h2, hx⟩
          · cases h2
          · injection h2 with h2; subst h2
            rw [h1] at hst
            have hrx := cod_rel hE hx
            have hlen := hrel.length
            cases hbl : Nat.blt buf.length cap with
            | true =>
              rw [hbl] at h
              have hl := Nat.le_of_ble_eq_true hbl
              obtain ⟨rfl, rfl⟩ := some_inj2 h
              refine ⟨M, .tuple #[goInt 0, .bool false], _, .tuple (.cons (.sc rfl) (.cons (.sc rfl) .nil)), put_chan (nbuf' := buf'.push (a.eval x)) (cap' := cap) (s' := sent + 1) (r' := rcvd) hH hobj hM hlt ?_, .one ?_⟩
              · rw [Array.toList_push]; exact hrel.append (.cons hrx .nil)
              · rw [fin]
                exact step_lone_select_send_room hst hb (by simp at hlen; omega)
            | false =>
              rw [hbl] at h
              have hl : cap ≤ buf.length := by
                rcases Nat.lt_or_ge buf.length cap with h | h
                · have : Nat.blt buf.length cap = true := Nat.ble_eq_true_of_le h
                  rw [this] at hbl; cases hbl
                · exact h
              obtain ⟨rfl, rfl⟩ := some_inj2 h
              refine ⟨M, .tuple #[goInt (-1), .bool false], w, .tuple (.cons (.sc rfl) (.cons (.sc rfl) .nil)), Goes.refl hH, .one ?_⟩
              rw [fin]
              exact step_lone_select_send_full hst hb (by simp at hlen; omega)
        · rcases hsend with ⟨h1, h2⟩ | ⟨x, x', h1, h2, hx⟩
          · rw [h1] at hst
            split at h
            · obtain ⟨rfl, rfl⟩ := some_inj2 h
              have hb0 : buf' = #[] := by have := hrel.length; simp at this; exact Array.eq_empty_of_size_eq_zero this.symm
              subst hb0
              refine ⟨M, .tuple #[goInt (-1), .bool false, z], w, .tuple (.cons (.sc rfl) (.cons (.sc rfl) (.cons (clo_rel M z hzc) .nil))), Goes.refl hH, .one ?_⟩
              rw [fin]
              exact step_lone_select_default hst hb
            · rename_i u us
              obtain ⟨rfl, rfl⟩ := some_inj2 h
              generalize hbl : buf'.toList = bl at hrel
              cases hrel with
              | @cons _ u' _ us' hr hrs =>
                have hbe : buf' = (u' :: us').toArray := by apply Array.toList_inj.1; rw [hbl]
                subst hbe
                refine ⟨M, .tuple #[goInt 0, .bool true, u'], _, .tuple (.cons (.sc rfl) (.cons (.sc rfl) (.cons hr .nil))), put_chan (nbuf' := us'.toArray) (cap' := cap) (s' := sent) (r' := rcvd + 1) hH hobj hM hlt ?_, .one ?_⟩
                · exact hrs
                · rw [fin]
                  have := step_lone_select_recv_buf hst hb (by simp)
                  simp at this
                  exact this
          · cases h2
    · cases h
  · rename_i hq
    rw [hq] at hrc
    rw [hrc.nilc_inv] at hst
    split at h
    · rcases hsend with ⟨h1, h2⟩ | ⟨x, x', h1, h2, hx⟩
      · cases h2
      · rw [h1] at hst
        obtain ⟨rfl, rfl⟩ := some_inj2 h
        refine ⟨M, .tuple #[goInt (-1), .bool false], w, .tuple (.cons (.sc rfl) (.cons (.sc rfl) .nil)), Goes.refl hH, .one ?_⟩
        rw [fin]
        exact step_lone_select_send_nil hst
    · rcases hsend with ⟨h1, h2⟩ | ⟨x, x', h1, h2, hx⟩
      · rw [h1] at hst
        obtain ⟨rfl, rfl⟩ := some_inj2 h
        refine ⟨M, .tuple #[goInt (-1), .bool false, z], w, .tuple (.cons (.sc rfl) (.cons (.sc rfl) (.cons (clo_rel M z hzc) .nil))), Goes.refl hH, .one ?_⟩
        rw [fin]
        exact step_lone_select_recv_nil hst
      · cases h2
  · cases h

end Go.Ax

namespace Go.Ax
open Go
variable {H : HeapI}

variable {P : Program} {n : Nat} {M : Mp} {σ σ' : (St H)} {w : World} {a : Act} {τ : Env} {o : Oper} {v : Value}

theorem bind_s {α β : Type} {x : Option α} {f : α → Option β} {r : β} (h : x.bind f = some r) : ∃ y, x = some y ∧ f y = some r := Option.bind_eq_some_iff.1 h
theorem map_s {α β : Type} {x : Option α} {f : α → β} {r : β} (h : x.map f = some r) : ∃ y, x = some y ∧ f y = r := Option.map_eq_some_iff.1 h
theorem bif_s {α : Type} {b : Bool} {x : Option α} {r : α} (h : (bif b then x else none) = some r) : b = true ∧ x = some r := by
  cases b
  · cases h
  · exact ⟨rfl, h⟩

theorem ceq_sound {neg : Bool} {t u : TypeId} {x y : Operand} {x' y' : Od} {op : AOp} {call : (CallF H)} (ho : o.op = .binOp (if neg then .neq else .eql) t x y u)
    (hc : ceq P neg (if neg then .neq else .eql) t x' y' y = some op) (hx : cod n x = some x') (hy : cod n y = some y') (hH : HRel M σ w) (hE : ERel n M τ a.tmps)
    (h : aop op call τ σ = some (v, σ')) : Did P o a w M σ v σ' := by
  unfold ceq at hc
  split at hc
  · injection hc with hc; subst hc; exact s_bin (call := call) ho hx hy hH hE h
  · injection hc with hc; subst hc; exact s_bin (call := call) ho hx hy hH hE h
  · obtain ⟨k, hk, hc⟩ := bind_s hc
    obtain ⟨hni, hc⟩ := bif_s hc
    injection hc with hc; subst hc
    unfold eqK at hk
    split at hk
    · rename_i hd; injection hk with hk; subst hk; exact s_eq_sc (call := call) ho hx hy hH hE hd h
    · rename_i hd; injection hk with hk; subst hk; exact s_eq_nilp (call := call) ho hx hy hH hE hd h
    · rename_i hd; injection hk with hk; subst hk; exact s_eq_nils (call := call) ho hx hy hH hE hd h
    · rename_i hd; injection hk with hk; subst hk; exact s_eq_nilm (call := call) ho hx hy hH hE hd h
    · rename_i hd; injection hk with hk; subst hk; exact s_eq_nilf (call := call) ho hx hy hH hE hd h
    · rename_i hd; injection hk with hk; subst hk; exact s_eq_nili (call := call) ho hx hy hH hE hd hni h
    · rename_i hd
      obtain ⟨hb, hk⟩ := bif_s hk
      obtain ⟨ks, hks, hk⟩ := map_s hk
      subst hk
      simp only [Bool.and_eq_true, Bool.not_eq_true'] at hb
      exact s_eq_agg (call := call) ho hx hy hH hE hd hks hb.1 hb.2 h
    · cases hk

theorem cbuiltin_sound {b : Builtin} {args : Array Operand} {ts : Array TypeId} {xs : List Od} {op : AOp} {call : (CallF H)} (ho : o.op = .call { callee := .builtin b, args, argTypes := ts })
    (hc : cbuiltin P b ts.toList xs = some op) (hx : cods n args.toList = some xs) (hH : HRel M σ w) (hE : ERel n M τ a.tmps) (fr : Fresh M σ σ')
    (h : aop op call τ σ = some (v, σ')) : Did P o a w M σ v σ' := by
  generalize htl : ts.toList = tl at hc
  unfold cbuiltin at hc
  split at hc
  · split at hc
    · rename_i hd; injection hc with hc; subst hc; exact s_len_str (call := call) ho htl hx hH hE hd h
    · rename_i hd; injection hc with hc; subst hc; exact s_len_slice (call := call) ho htl hx hH hE hd h
    · rename_i hd; injection hc with hc; subst hc; exact s_len_map (call := call) ho htl hx hH hE hd h
    · rename_i hd; injection hc with hc; subst hc; exact s_len_chan (call := call) ho htl hx hH hE hd h
    · rename_i hd; injection hc with hc; subst hc; exact s_lenc (call := call) ho htl hx hH (.inl ⟨_, hd⟩) h
    · rename_i hd
      split at hc
      · rename_i hd2; injection hc with hc; subst hc; exact s_lenc (call := call) ho htl hx hH (.inr ⟨_, _, hd, hd2⟩) h
      · cases hc
    · cases hc
  · split at hc
    · rename_i hd; injection hc with hc; subst hc; exact s_cap (call := call) ho htl hx hH hE hd h
    · cases hc
  · split at hc
    · rename_i hd
      unfold cappend at hc
      obtain ⟨size, hs, hc⟩ := bind_s hc
      obtain ⟨bytes, hb, hc⟩ := bind_s hc
      obtain ⟨z, hz, hc⟩ := bind_s hc
      obtain ⟨zs, hzs, hc⟩ := bind_s hc
      obtain ⟨hk, hc⟩ := bif_s hc
      injection hc with hc; subst hc
      simp only [Bool.and_eq_true] at hk
      exact s_append (call := call) ho htl hx hH hE hd hs hb hz hzs (Nat.eq_of_beq_eq_true hk.1.1) (Nat.le_of_ble_eq_true hk.1.2) fr h
    · cases hc
  · injection hc with hc; subst hc; exact s_mn (call := call) ho hx hH hE h
  · injection hc with hc; subst hc; exact s_mx (call := call) ho hx hH hE h
  · split at hc
    · rename_i hd
      obtain ⟨kk, hk, hc⟩ := bind_s hc
      injection hc with hc; subst hc
      exact s_delete (call := call) ho htl hd hk hx hH hE h
    · cases hc
  · cases hc

theorem s_alloc {t : TypeId} {z : Value} {call : (CallF H)} (ho : o.op = .alloc t) (hz : zOf P t = some z) (hH : HRel M σ w) (fr : Fresh M σ σ')
    (h : opBox (.const z) call τ σ = some (v, σ')) : Did P o a w M σ v σ' := by
  obtain ⟨hzc, hzr⟩ := zOf_run hz
  refine s_box (y := .const z) (τ := τ) (call := call) (t := t) (x' := z) (clo_rel M z hzc) ?_ hH fr h
  simp [execOp, ho, Sem.run_bind, Instr.alloc, hzr, newVar, newRow]

theorem s_boxx {t : TypeId} {x : Operand} {y : Od} {call : (CallF H)} (ho : o.op = .box t x) (hx : cod n x = some y) (hH : HRel M σ w) (hE : ERel n M τ a.tmps) (fr : Fresh M σ σ')
    (h : opBox y call τ σ = some (v, σ')) : Did P o a w M σ v σ' := by
  refine s_box (τ := τ) (call := call) (t := t) (x' := a.eval x) (cod_rel hE hx) ?_ hH fr h
  simp [execOp, ho, Sem.run_bind, Instr.box, newVar, newRow]

theorem op_sound {call : (CallF H)} {op : AOp} (hC : CallOK P call) (hcop : cop P n o.op = some op) (hH : HRel M σ w) (hE : ERel n M τ a.tmps) (fr : Fresh M σ σ')
    (h : aop op call τ σ = some (v, σ')) : OpS P o a w M σ v σ' := by
  generalize ho : o.op = oo at hcop
  unfold cop at hcop
  split at hcop
  · obtain ⟨y, hy, rfl⟩ := map_s hcop; exact .of_did (s_val (call := call) (.inl ho) hy hH hE h)
  · obtain ⟨y, hy, rfl⟩ := map_s hcop; exact .of_did (s_val (call := call) (.inr ho) hy hH hE h)
  · obtain ⟨x, hx, hcop⟩ := bind_s hcop
    obtain ⟨y, hy, hcop⟩ := bind_s hcop
    obtain ⟨z, hz, hcop⟩ := bind_s hcop
    injection hcop with hcop; subst hcop
    exact .of_did (s_pick (call := call) ho hx hy hz hH hE h)
  · rename_i t
    obtain ⟨z, hz, hcop⟩ := bind_s hcop
    injection hcop with hcop; subst hcop
    exact .of_did (s_alloc (call := call) ho hz hH fr h)
  · obtain ⟨y, hy, rfl⟩ := map_s hcop; exact .of_did (s_boxx (call := call) ho hy hH hE fr h)
  · -- build
    obtain ⟨z, hz, hcop⟩ := bind_s hcop
    split at hcop
    · rename_i ht
      obtain ⟨pl, hpl, hcop⟩ := bind_s hcop
      obtain ⟨ps, hps, hcop⟩ := bind_s hcop
      injection hcop with hcop; subst hcop
      exact .of_did (s_build_struct (call := call) ho hz ht hpl hps hH hE h)
    · rename_i ht
      obtain ⟨s, hs, hcop⟩ := bind_s hcop
      obtain ⟨ps, hps, hcop⟩ := bind_s hcop
      injection hcop with hcop; subst hcop
      exact .of_did (s_build_arr (call := call) ho hz ht hs hps hH hE h)
    · cases hcop
  · -- buildSlice
    split at hcop
    · rename_i ht
      obtain ⟨s, hs, hcop⟩ := bind_s hcop
      obtain ⟨z, hz, hcop⟩ := bind_s hcop
      obtain ⟨hb, hcop⟩ := bif_s hcop
      obtain ⟨ps, hps, hcop⟩ := bind_s hcop
      injection hcop with hcop; subst hcop
      simp only [Bool.and_eq_true] at hb
      exact .of_did (s_buildSlice (call := call) ho ht hs hz (Nat.eq_of_beq_eq_true hb.1.1) (Nat.le_of_ble_eq_true hb.1.2) (Nat.le_of_ble_eq_true hb.2) hps hH hE fr h)
    · cases hcop
  · -- load
    obtain ⟨s, hs, hcop⟩ := bind_s hcop
    obtain ⟨g, hg, hcop⟩ := bind_s hcop
    obtain ⟨x, hx, hcop⟩ := bind_s hcop
    injection hcop with hcop; subst hcop
    exact .of_did (s_load (call := call) ho hg hs hx hH hE h)
  · -- store
    obtain ⟨s, hs, hcop⟩ := bind_s hcop
    obtain ⟨x, hx, hcop⟩ := bind_s hcop
    obtain ⟨y, hy, hcop⟩ := bind_s hcop
    injection hcop with hcop; subst hcop
    exact .of_did (s_store (call := call) ho hs hx hy hH hE h)
  · obtain ⟨y, hy, rfl⟩ := map_s hcop; exact .of_did (s_nil (call := call) ho hy hH hE h)
  · -- binOp
    obtain ⟨x, hx, hcop⟩ := bind_s hcop
    obtain ⟨y, hy, hcop⟩ := bind_s hcop
    split at hcop
    · exact .of_did (ceq_sound (call := call) (neg := false) ho hcop hx hy hH hE h)
    · exact .of_did (ceq_sound (call := call) (neg := true) ho hcop hx hy hH hE h)
    · injection hcop with hcop; subst hcop
      exact .of_did (s_bin (call := call) ho hx hy hH hE h)
  · obtain ⟨y, hy, rfl⟩ := map_s hcop; exact .of_did (s_un (call := call) ho hy hH hE h)
  · -- convert
    obtain ⟨d, hd, hcop⟩ := bind_s hcop
    split at hcop
    · rename_i hk
      obtain ⟨y, hy, rfl⟩ := map_s hcop
      exact .of_did (s_conv (call := call) ho hd hk hy hH hE h)
    · cases hcop
  · -- makeFunc
    obtain ⟨x, hx, hcop⟩ := bind_s hcop
    obtain ⟨y, hy, hcop⟩ := bind_s hcop
    injection hcop with hcop; subst hcop
    exact .of_did (s_func (call := call) ho hx hy hH hE h)
  · -- makeMap
    split at hcop
    · injection hcop with hcop; subst hcop
      exact .of_did (s_mkMap (call := call) (τ := τ) ho (.inl rfl) hH fr h)
    · rename_i hk; injection hcop with hcop; subst hcop
      exact .of_did (s_mkMap (call := call) (τ := τ) ho (.inr ⟨_, _, _, _, rfl, hk⟩) hH fr h)
    · cases hcop
  · -- makeChan
    split at hcop
    · rename_i ht
      obtain ⟨b, hb, hcop⟩ := bind_s hcop
      obtain ⟨y, hy, hcop⟩ := bind_s hcop
      injection hcop with hcop; subst hcop
      exact .of_did (s_mkChan (call := call) ho ht hb hy hH hE fr h)
    · cases hcop
  · -- makeSlice
    split at hcop
    · rename_i ht
      obtain ⟨s, hs, hcop⟩ := bind_s hcop
      obtain ⟨b, hb, hcop⟩ := bind_s hcop
      obtain ⟨z, hz, hcop⟩ := bind_s hcop
      obtain ⟨x, hx, hcop⟩ := bind_s hcop
      obtain ⟨y, hy, hcop⟩ := bind_s hcop
      obtain ⟨hk, hcop⟩ := bif_s hcop
      injection hcop with hcop; subst hcop
      simp only [Bool.and_eq_true] at hk
      exact .of_did (s_mkSlice (call := call) ho ht hb hs hz (Nat.eq_of_beq_eq_true hk.1) (Nat.le_of_ble_eq_true hk.2) hx hy hH hE fr h)
    · cases hcop
  · -- slice
    obtain ⟨x, hx, hcop⟩ := bind_s hcop
    obtain ⟨lo, hlo, hcop⟩ := bind_s hcop
    obtain ⟨hi, hhi, hcop⟩ := bind_s hcop
    obtain ⟨mx, hmx, hcop⟩ := bind_s hcop
    split at hcop
    · rename_i ht
      obtain ⟨s, hs, hcop⟩ := bind_s hcop
      injection hcop with hcop; subst hcop
      exact .of_did (s_sliceArr (call := call) ho ht hs hx hlo hhi hmx hH hE h)
    · rename_i ht
      obtain ⟨s, hs, hcop⟩ := bind_s hcop
      injection hcop with hcop; subst hcop
      exact .of_did (s_slice (call := call) ho ht hs hx hlo hhi hmx hH hE h)
    · cases hcop
  · -- fieldAddr
    split at hcop
    · rename_i ht
      split at hcop
      · rename_i hf
        obtain ⟨s, hs, hcop⟩ := bind_s hcop
        obtain ⟨hb, hcop⟩ := bif_s hcop
        obtain ⟨y, hy, rfl⟩ := map_s hcop
        exact .of_did (s_fieldAddr (call := call) ho ht hf hs (Nat.le_of_ble_eq_true hb) hy hH hE h)
      · cases hcop
    · cases hcop
  · -- field
    split at hcop
    · rename_i ht
      split at hcop
      · rename_i hf
        obtain ⟨s, hs, hcop⟩ := bind_s hcop
        obtain ⟨g, hg, hcop⟩ := bind_s hcop
        obtain ⟨y, hy, rfl⟩ := map_s hcop
        exact .of_did (s_field (call := call) ho ht hf hs hg hy hH hE h)
      · cases hcop
    · cases hcop
  · -- indexAddr
    obtain ⟨x, hx, hcop⟩ := bind_s hcop
    obtain ⟨i, hi, hcop⟩ := bind_s hcop
    split at hcop
    · rename_i ht
      obtain ⟨s, hs, hcop⟩ := bind_s hcop
      injection hcop with hcop; subst hcop
      exact .of_did (s_indexArr (call := call) ho ht hs hx hi hH hE h)
    · rename_i ht
      obtain ⟨s, hs, hcop⟩ := bind_s hcop
      injection hcop with hcop; subst hcop
      exact .of_did (s_indexAddr (call := call) ho ht hs hx hi hH hE h)
    · cases hcop
  · -- index
    obtain ⟨x, hx, hcop⟩ := bind_s hcop
    obtain ⟨i, hi, hcop⟩ := bind_s hcop
    split at hcop
    · rename_i ht
      obtain ⟨s, hs, hcop⟩ := bind_s hcop
      obtain ⟨g, hg, hcop⟩ := bind_s hcop
      injection hcop with hcop; subst hcop
      exact .of_did (s_index (call := call) ho ht hs hg hx hi hH hE h)
    · cases hcop
  · -- lookup
    split at hcop
    · rename_i ht
      obtain ⟨kk, hk, hcop⟩ := bind_s hcop
      obtain ⟨z, hz, hcop⟩ := bind_s hcop
      obtain ⟨x, hx, hcop⟩ := bind_s hcop
      obtain ⟨y, hy, hcop⟩ := bind_s hcop
      injection hcop with hcop; subst hcop
      exact .of_did (s_lookup (call := call) ho ht hk hz hx hy hH hE h)
    · cases hcop
  · -- mapUpdate
    split at hcop
    · rename_i ht
      obtain ⟨kk, hk, hcop⟩ := bind_s hcop
      obtain ⟨x, hx, hcop⟩ := bind_s hcop
      obtain ⟨y, hy, hcop⟩ := bind_s hcop
      obtain ⟨z, hz, hcop⟩ := bind_s hcop
      injection hcop with hcop; subst hcop
      exact .of_did (s_mapUpdate (call := call) ho ht hk hx hy hz hH hE h)
    · cases hcop
  · -- mapEntry
    split at hcop
    · rename_i ht
      obtain ⟨kk, hk, hcop⟩ := bind_s hcop
      obtain ⟨z, hz, hcop⟩ := bind_s hcop
      obtain ⟨x, hx, hcop⟩ := bind_s hcop
      obtain ⟨y, hy, hcop⟩ := bind_s hcop
      injection hcop with hcop; subst hcop
      exact .of_did (s_mapEntry (call := call) ho ht hk hz hx hy hH hE h)
    · cases hcop
  · -- entryStore
    obtain ⟨x, hx, hcop⟩ := bind_s hcop
    obtain ⟨y, hy, hcop⟩ := bind_s hcop
    obtain ⟨z, hz, hcop⟩ := bind_s hcop
    injection hcop with hcop; subst hcop
    exact .of_did (s_entryStore (call := call) ho hx hy hz hH hE h)
  · obtain ⟨y, hy, rfl⟩ := map_s hcop; exact .of_did (s_extract (call := call) ho hy hH hE h)
  · -- call
    rename_i c
    obtain ⟨callee, args, ts⟩ := c
    obtain ⟨xs, hxs, hcop⟩ := bind_s hcop
    simp only at hcop hxs
    split at hcop
    · rename_i f _
      cases hb : isAdd P f with
      | true =>
        rw [hb] at hcop
        simp only [cond_true] at hcop
        split at hcop
        · injection hcop with hcop; subst hcop
          exact .of_did (s_add64 (call := call) ho hb hxs hH hE h)
        · cases hcop
      | false =>
        rw [hb] at hcop
        simp only [cond_false] at hcop
        injection hcop with hcop; subst hcop
        exact s_call (call := call) hC ho hxs hH hE fr h
    · obtain ⟨y, hy, rfl⟩ := map_s hcop
      exact s_callv (call := call) hC ho hy hxs hH hE fr h
    · exact .of_did (cbuiltin_sound (call := call) ho hcop hxs hH hE fr h)
    · cases hcop
  · -- select
    split at hcop
    · rename_i c hcs
      obtain ⟨z, hz, hcop⟩ := bind_s hcop
      obtain ⟨ch, hch, hcop⟩ := bind_s hcop
      split at hcop
      · rename_i hs
        obtain ⟨y, hy, rfl⟩ := map_s hcop
        exact s_sel (call := call) ho hcs hz hch (.inr ⟨_, _, hs, rfl, hy⟩) hH hE h
      · rename_i hs
        injection hcop with hcop; subst hcop
        exact s_sel (call := call) ho hcs hz hch (.inl ⟨hs, rfl⟩) hH hE h
    · cases hcop
  · cases hcop

end Go.Ax

namespace Go.Ax
open Go
variable {H : HeapI}

variable {P : Program} {n : Nat} {M : Mp} {σ σ' : (St H)} {w : World} {a : Act} {τ τ' : Env} {o : Oper} {v : Value} {call : (CallF H)}

theorem VRel.bool_back {u : Value} {b : Bool} (h : VRel M u (.bool b)) : u = .bool b := by cases h; rfl

theorem setD_ERel (hn : n ≤ 512) (h : ERel n M τ a.tmps) {d : Option Nat} (hd : dstOk n d = true) {M' : Mp} (le : M.le M') {v v' : Value} (hv : VRel M' v v') :
    ERel n M' (setD d v τ) (a.put d v').tmps := (h.mono le).put hn hd hv

theorem doOp_some {op : AOp} {d : Option Nat} (h : doOp op d call τ σ = some (τ', σ')) : ∃ v, aop op call τ σ = some (v, σ') ∧ τ' = setD d v τ := by
  unfold doOp at h
  cases hr : aop op call τ σ with
  | none => rw [hr] at h; cases h
  | some r =>
    obtain ⟨v, σ2⟩ := r
    rw [hr] at h
    obtain ⟨rfl, rfl⟩ := some_inj2 (show some (setD d v τ, σ2) = some (τ', σ') from h)
    exact ⟨v, rfl, rfl⟩

theorem ai_none {op : AOp} {d : Option Nat} : ai ⟨d, op, none⟩ call τ σ = doOp op d call τ σ := rfl
theorem ai_some {op : AOp} {d : Option Nat} {t : Nat} {b : Bool} : ai ⟨d, op, some (t, b)⟩ call τ σ = bif yes t b τ then doOp op d call τ σ else some (setD d undefV τ, σ) := by
  show (Bool.rec (some (setD d undefV τ, σ)) (doOp op d call τ σ) (yes t b τ) : (RE H)) = _
  cases yes t b τ <;> rfl

/-- the instruction is done, or passed over -/
theorem ai_cases {i : AI} (h : ai i call τ σ = some (τ', σ')) :
    (yesO i.guard τ = true ∧ ∃ v, aop i.op call τ σ = some (v, σ') ∧ τ' = setD i.dst v τ) ∨ (yesO i.guard τ = false ∧ τ' = setD i.dst undefV τ ∧ σ' = σ) := by
  obtain ⟨d, op, g⟩ := i
  cases g with
  | none =>
    rw [ai_none] at h
    exact .inl ⟨rfl, doOp_some h⟩
  | some p =>
    obtain ⟨t, b⟩ := p
    rw [ai_some] at h
    cases hy : yes t b τ with
    | true => rw [hy] at h; exact .inl ⟨hy, doOp_some h⟩
    | false =>
      rw [hy] at h
      obtain ⟨h1, h2⟩ := some_inj2 h
      exact .inr ⟨hy, h1.symm, h2.symm⟩

/-- what a compiled instruction is -/
theorem cai_cases (P : Program) (n : Nat) (ops : Array Oper) (o : Oper) :
    (∃ op g, cop P n o.op = some op ∧ cguard n ops.toList o.guard = some g ∧ dstOk n o.dst = true ∧ cai P n ops.toList o = ⟨o.dst, op, g⟩) ∨
    (∃ g, cguard n ops.toList o.guard = some g ∧ dstOk n o.dst = true ∧ cai P n ops.toList o = ⟨o.dst, .fail, g⟩) ∨ cai P n ops.toList o = ⟨none, .fail, none⟩ := by
  unfold cai
  cases h1 : cop P n o.op with
  | some op =>
    cases h2 : cguard n ops.toList o.guard with
    | some g =>
      cases h3 : dstOk n o.dst with
      | true => exact .inl ⟨op, g, rfl, rfl, rfl, rfl⟩
      | false => exact .inr (.inr rfl)
    | none => exact .inr (.inr rfl)
  | none =>
    cases h2 : cguard n ops.toList o.guard with
    | some g =>
      cases h3 : dstOk n o.dst with
      | true => exact .inr (.inl ⟨g, rfl, rfl, rfl⟩)
      | false => exact .inr (.inr rfl)
    | none => exact .inr (.inr rfl)

theorem guard_rel {ops : Array Oper} {g : Option (Nat × Bool)} (hg : cguard n ops.toList o.guard = some g) (hE : ERel n M τ a.tmps) : Region.wanted o (yielded ops a.tmps) = yesO g τ := by
  unfold Region.wanted
  cases ho : o.guard with
  | none =>
    rw [ho] at hg
    injection hg with hg; subst hg; rfl
  | some p =>
    obtain ⟨j, b⟩ := p
    rw [ho] at hg
    simp only [cguard] at hg
    split at hg
    · rename_i oj hoj
      split at hg
      · rename_i d hd
        obtain ⟨hdn, hg⟩ := bif_s hg
        injection hg with hg; subst hg
        have hdn := Nat.le_of_ble_eq_true hdn
        have hrel := hE.at_ d hdn
        have hsz : d < a.tmps.size := by rw [hE.size]; exact hdn
        have hget : a.tmps[d]? = some (a.tmps.getD d undef) := by simp [Array.getD_eq_getD_getElem?, hsz]
        have hy : yielded ops a.tmps j = match a.tmps.getD d undef with | .bool b => some b | _ => none := by
          have hoj' : ops[j]? = some oj := by simpa using hoj
          unfold yielded
          simp only [hoj', Option.bind_some, hd, hget]
          cases a.tmps.getD d undef <;> rfl
        show (yielded ops a.tmps j == some b) = yes d b τ
        rw [hy]
        rw [ev_tmp] at hrel
        unfold yes
        cases ht : Tr.get 9 τ d with
        | none =>
          rw [ht] at hrel
          generalize a.tmps.getD d undef = u at hrel
          cases u <;> first | rfl | (cases hrel.bool_back)
        | some u0 =>
          rw [ht] at hrel
          simp only [Option.getD_some] at hrel
          cases u0 with
          | bool b0 =>
            rw [hrel.bool_inv]
            cases b0 <;> cases b <;> rfl
          | _ =>
            generalize a.tmps.getD d undef = u at hrel
            cases u <;> first | rfl | (cases hrel.bool_back)
      · cases hg
    · cases hg

/-- one instruction's steps -/
def StepsTo (P : Program) (b : Frame) (k : List Item) (cs : List Frame) (ops : Array Oper) (i : Nat) (rest : List Nat) (n : Nat) (M : Mp) (a : Act) (σ : (St H)) (w : World) (τ' : Env) (σ' : (St H)) : Prop :=
  ∃ M' a' w', a'.defers = a.defers ∧ ERel n M' τ' a'.tmps ∧ Goes M σ w M' σ' w' ∧
    Steps P (lone (b.at a (.inRegion ops (i :: rest) :: k)) cs w) (lone (b.at a' (.inRegion ops rest :: k)) cs w')

theorem ai_sound (hC : CallOK P call) (hn : n ≤ 512) {ops : Array Oper} {i : Nat} (ho : ops[i]? = some o) (hH : HRel M σ w) (hE : ERel n M τ a.tmps) (fr : Fresh M σ σ')
    (h : ai (cai P n ops.toList o) call τ σ = some (τ', σ')) (b : Frame) (k : List Item) (cs : List Frame) (rest : List Nat) : StepsTo P b k cs ops i rest n M a σ w τ' σ' := by
  have skip : ∀ g, cguard n ops.toList o.guard = some g → dstOk n o.dst = true → yesO g τ = false → StepsTo P b k cs ops i rest n M a σ w (setD o.dst undefV τ) σ := fun g hg hd hy => by
    refine ⟨M, a.put o.dst undef, w, Act.put_defers a o.dst undef, hE.put hn hd (undef_rel M), Goes.refl hH, .one ?_⟩
    have hw := guard_rel (o := o) hg hE
    rw [hy] at hw
    have := step_op_skip (P := P) (b := b) (a := a) (k := k) (cs := cs) (w := w) (ops := ops) (i := i) (rest := rest) (by simp [ho, hw])
    simpa [ho] using this
  have fail : ∀ d g, ai ⟨d, .fail, g⟩ call τ σ = some (τ', σ') → yesO g τ = false ∧ τ' = setD d undefV τ ∧ σ' = σ := fun d g h => by
    rcases ai_cases h with ⟨_, v, h1, _⟩ | h1
    · cases h1
    · exact h1
  rcases cai_cases P n ops o with ⟨op, g, h1, h2, h3, h4⟩ | ⟨g, h2, h3, h4⟩ | h4
  · rw [h4] at h
    rcases ai_cases h with ⟨hy, v, hv, rfl⟩ | ⟨hy, rfl, rfl⟩
    · obtain ⟨M', v', w', hvr, hg, hs⟩ := op_sound hC h1 hH hE fr hv b k cs ops i rest ho (by rw [guard_rel h2 hE]; exact hy)
      exact ⟨M', a.put o.dst v', w', Act.put_defers a o.dst v', setD_ERel hn hE h3 hg.le hvr, hg, hs⟩
    · exact skip g h2 h3 hy
  · rw [h4] at h
    obtain ⟨hy, rfl, rfl⟩ := fail _ _ h
    exact skip g h2 h3 hy
  · rw [h4] at h
    obtain ⟨hy, _⟩ := fail _ _ h
    cases hy

theorem ais_nil : ais [] call τ σ = some (τ, σ) := rfl
theorem ais_cons {i : AI} {l : List AI} {r : Env × (St H)} (h : ais (i :: l) call τ σ = some r) : ∃ τ1 σ1, ai i call τ σ = some (τ1, σ1) ∧ ais l call τ1 σ1 = some r := by
  have h' : (Option.rec none (fun p => Prod.rec (fun τ' σ' => ais l call τ' σ') p) (ai i call τ σ) : (RE H)) = some r := h
  cases ha : ai i call τ σ with
  | none => rw [ha] at h'; cases h'
  | some p => obtain ⟨τ1, σ1⟩ := p; rw [ha] at h'; exact ⟨τ1, σ1, rfl, h'⟩

end Go.Ax

namespace Go.Ax
open Go
variable {H : HeapI}

variable {σ σ' : (St H)} {τ : Env} {v : Value} {call : (CallF H)}

/-- an operation that looks at no heap and turns none -/
def Pure (H : HeapI) (op : AOp) : Prop := ∀ (call : CallF H) τ (σ : St H) v σ', aop op call τ σ = some (v, σ') → σ' = σ ∧ ∀ (call2 : CallF H) (σ2 : St H), aop op call2 τ σ2 = some (v, σ2)

theorem pureR_inv {x : Option Value} (h : pureR σ x = some (v, σ')) : σ' = σ ∧ ∀ σ2 : St H, pureR σ2 x = some (v, σ2) := by
  obtain ⟨rfl, rfl⟩ := pureR_some h
  exact ⟨rfl, fun _ => rfl⟩
theorem some_inv {u : Value} (h : some (u, σ) = some (v, σ')) : σ' = σ ∧ ∀ σ2 : (St H), some (u, σ2) = some (v, σ2) := by
  obtain ⟨rfl, rfl⟩ := some_inj2 h
  exact ⟨rfl, fun _ => rfl⟩

theorem pure_of : ∀ op, klass op = .pure → Pure H op := by
  intro op hk call τ σ v σ' h
  cases op <;> simp only [klass, reduceCtorEq] at hk
  case val x => exact (some_inv h).imp id fun f _ => f
  case pick c x y =>
    change opPick c x y call τ σ = _ at h
    show _ ∧ ∀ call2 σ2, opPick c x y call2 τ σ2 = _
    unfold opPick at h ⊢
    split at h
    · exact (some_inv h).imp id fun f _ => f
    · exact (some_inv h).imp id fun f _ => f
    · cases h
  case build z ps =>
    change opBuild z ps call τ σ = _ at h
    show _ ∧ ∀ call2 σ2, opBuild z ps call2 τ σ2 = _
    unfold opBuild at h ⊢
    cases hp : putAll ps τ z with
    | none => rw [hp] at h; cases h
    | some cs => rw [hp] at h; exact (some_inv h).imp id fun f _ => f
  case nilCheck x =>
    change opNil x call τ σ = _ at h
    show _ ∧ ∀ call2 σ2, opNil x call2 τ σ2 = _
    unfold opNil at h ⊢
    split at h
    · exact (some_inv h).imp id fun f _ => f
    · cases h
  case bin op x y => exact (pureR_inv h).imp id fun f _ => f
  case eq k neg x y =>
    change opEq k neg x y call τ σ = _ at h
    show _ ∧ ∀ call2 σ2, opEq k neg x y call2 τ σ2 = _
    unfold opEq at h ⊢
    cases hp : aeq k (ev x τ) (ev y τ) with
    | none => rw [hp] at h; cases h
    | some b => rw [hp] at h; exact (some_inv h).imp id fun f _ => f
  case un op x => exact (pureR_inv h).imp id fun f _ => f
  case conv k x =>
    change opConv k x call τ σ = _ at h
    show _ ∧ ∀ call2 σ2, opConv k x call2 τ σ2 = _
    unfold opConv at h ⊢
    split at h
    · exact (some_inv h).imp id fun f _ => f
    · cases h
  case mkFunc f xs ys => exact (some_inv h).imp id fun f _ => f
  case slice size x lo hi mx =>
    change opSlice size x lo hi mx call τ σ = _ at h
    show _ ∧ ∀ call2 σ2, opSlice size x lo hi mx call2 τ σ2 = _
    unfold opSlice at h ⊢
    split at h
    · split at h
      · exact (pureR_inv h).imp id fun f _ => f
      · cases h
    · cases h
  case sliceArr n size x lo hi mx =>
    change opSliceArr n size x lo hi mx call τ σ = _ at h
    show _ ∧ ∀ call2 σ2, opSliceArr n size x lo hi mx call2 τ σ2 = _
    unfold opSliceArr at h ⊢
    split at h
    · split at h
      · exact (some_inv h).imp id fun f _ => f
      · cases h
    · cases h
  case fieldAddr off x =>
    change opFieldAddr off x call τ σ = _ at h
    show _ ∧ ∀ call2 σ2, opFieldAddr off x call2 τ σ2 = _
    unfold opFieldAddr at h ⊢
    split at h
    · exact (some_inv h).imp id fun f _ => f
    · cases h
  case field g size off x =>
    change opField g size off x call τ σ = _ at h
    show _ ∧ ∀ call2 σ2, opField g size off x call2 τ σ2 = _
    unfold opField at h ⊢
    split at h
    · exact (pureR_inv h).imp id fun f _ => f
    · cases h
  case indexAddr size x i =>
    change opIndexAddr size x i call τ σ = _ at h
    show _ ∧ ∀ call2 σ2, opIndexAddr size x i call2 τ σ2 = _
    unfold opIndexAddr at h ⊢
    split at h
    · split at h
      · rename_i hcond
        simp only [if_pos hcond]
        exact (some_inv h).imp id fun f _ => f
      · cases h
    · cases h
  case indexArr n size x i =>
    change opIndexArr n size x i call τ σ = _ at h
    show _ ∧ ∀ call2 σ2, opIndexArr n size x i call2 τ σ2 = _
    unfold opIndexArr at h ⊢
    split at h
    · split at h
      · rename_i hcond
        simp only [if_pos hcond]
        exact (some_inv h).imp id fun f _ => f
      · cases h
    · cases h
  case index g n size x i =>
    change opIndex g n size x i call τ σ = _ at h
    show _ ∧ ∀ call2 σ2, opIndex g n size x i call2 τ σ2 = _
    unfold opIndex at h ⊢
    split at h
    · split at h
      · rename_i hcond
        simp only [if_pos hcond]
        exact (pureR_inv h).imp id fun f _ => f
      · cases h
    · cases h
  case extract x i =>
    change opExtract x i call τ σ = _ at h
    show _ ∧ ∀ call2 σ2, opExtract x i call2 τ σ2 = _
    unfold opExtract at h ⊢
    split at h
    · exact (pureR_inv h).imp id fun f _ => f
    · cases h
  case cap x =>
    change opCap x call τ σ = _ at h
    show _ ∧ ∀ call2 σ2, opCap x call2 τ σ2 = _
    unfold opCap at h ⊢
    split at h
    · exact (some_inv h).imp id fun f _ => f
    · exact (some_inv h).imp id fun f _ => f
    · cases h
  case mn xs =>
    change opMn xs call τ σ = _ at h
    show _ ∧ ∀ call2 σ2, opMn xs call2 τ σ2 = _
    unfold opMn at h ⊢
    split at h
    · exact (pureR_inv h).imp id fun f _ => f
    · cases h
  case mx xs =>
    change opMx xs call τ σ = _ at h
    show _ ∧ ∀ call2 σ2, opMx xs call2 τ σ2 = _
    unfold opMx at h ⊢
    split at h
    · exact (pureR_inv h).imp id fun f _ => f
    · cases h
  case add64 x y c =>
    change opAdd64 x y c call τ σ = _ at h
    show _ ∧ ∀ call2 σ2, opAdd64 x y c call2 τ σ2 = _
    unfold opAdd64 at h ⊢
    split at h
    · split at h
      · rename_i hcond
        simp only [if_pos hcond]
        exact (some_inv h).imp id fun f _ => f
      · cases h
    · cases h

/-- all that is there is there -/
def St.sub (σ σ2 : (St H)) : Prop := ∀ b o, σ.obj b = some o → σ2.obj b = some o

/-- an operation that looks at the heap, and finds in a greater one what it found -/
def Reads (H : HeapI) (op : AOp) : Prop := ∀ (call : CallF H) τ (σ : St H) v σ', aop op call τ σ = some (v, σ') → σ' = σ ∧ ∀ (call2 : CallF H) (σ2 : St H), St.sub σ σ2 → aop op call2 τ σ2 = some (v, σ2)

theorem cells_sub {σ σ2 : (St H)} (hs : St.sub σ σ2) {b : Nat} {cs : List Value} (h : σ.cells b = some cs) : σ2.cells b = some cs := by
  obtain ⟨ro, z, ho⟩ := cells_obj h
  unfold St.cells
  rw [hs _ _ ho]

theorem map_sub {σ σ2 : (St H)} (hs : St.sub σ σ2) {m : Value} {es : List MapEntry} (h : σ.map m = some es) : σ2.map m = some es := by
  unfold St.map at h ⊢
  split at h
  · exact h
  · split at h
    · rename_i ho; rw [hs _ _ ho]; exact h
    · cases h
  · cases h

theorem reads_of : ∀ op, klass op = .read → Reads H op := by
  intro op hk call τ σ v σ' h
  cases op <;> simp only [klass, reduceCtorEq] at hk
  case load g size x =>
    change opLoad g size x call τ σ = _ at h
    show _ ∧ ∀ call2 σ2, _ → opLoad g size x call2 τ σ2 = _
    unfold opLoad at h ⊢
    split at h
    · obtain ⟨cs, h1, h2, rfl⟩ := loadAt_some h
      refine ⟨rfl, fun _ σ2 hs => ?_⟩
      unfold loadAt
      rw [cells_sub hs h1]
      show pureR σ2 _ = _
      rw [h2]; rfl
    · cases h
  case lookup kk z m k ok =>
    change opLookup kk z m k ok call τ σ = _ at h
    show _ ∧ ∀ call2 σ2, _ → opLookup kk z m k ok call2 τ σ2 = _
    unfold opLookup at h ⊢
    split at h
    · rename_i es hes
      cases hi : keyIs kk (ev k τ) with
      | false => rw [hi] at h; cases h
      | true =>
        rw [hi] at h
        simp only [cond_true] at h
        split at h
        · rename_i hf
          obtain ⟨e, f⟩ := some_inv h
          exact ⟨e, fun _ σ2 hs => by rw [map_sub hs hes]; simp only [hf, cond_true]; exact f σ2⟩
        · rename_i hf
          obtain ⟨e, f⟩ := some_inv h
          exact ⟨e, fun _ σ2 hs => by rw [map_sub hs hes]; simp only [hf, cond_true]; exact f σ2⟩
        · cases h
    · cases h
  case len k x =>
    change opLen k x call τ σ = _ at h
    show _ ∧ ∀ call2 σ2, _ → opLen k x call2 τ σ2 = _
    unfold opLen at h ⊢
    split at h
    · exact (some_inv h).imp id fun f _ _ _ => f _
    · exact (some_inv h).imp id fun f _ _ _ => f _
    · split at h
      · rename_i hes
        obtain ⟨e, f⟩ := some_inv h
        exact ⟨e, fun _ σ2 hs => by simp only [map_sub hs hes]; exact f σ2⟩
      · cases h
    · exact (some_inv h).imp id fun f _ _ _ => f _
    · split at h
      · rename_i ho
        obtain ⟨e, f⟩ := some_inv h
        exact ⟨e, fun _ σ2 hs => by simp only [hs _ _ ho]; exact f σ2⟩
      · cases h
    · cases h

/-- an operation that lays one new block -/
def Allocs (H : HeapI) (op : AOp) : Prop := ∀ (call : CallF H) τ (σ : St H) v σ', aop op call τ σ = some (v, σ') → ∃ o, o.writable = true ∧ H.ok σ.nxt = true ∧ σ' = ⟨H.set σ.heap σ.nxt (some o), σ.nxt + 1⟩ ∧
  ∀ (call2 : CallF H) (h2 : H.T), aop op call2 τ ⟨h2, σ.nxt⟩ = some (v, ⟨H.set h2 σ.nxt (some o), σ.nxt + 1⟩)

theorem fresh_inv {o : AObj} {f : Nat → Value} (h : fresh σ o f = some (v, σ')) : H.ok σ.nxt = true ∧ σ' = ⟨H.set σ.heap σ.nxt (some o), σ.nxt + 1⟩ ∧
    ∀ h2 : H.T, fresh (H := H) ⟨h2, σ.nxt⟩ o f = some (v, ⟨H.set h2 σ.nxt (some o), σ.nxt + 1⟩) := by
  unfold fresh at h ⊢
  cases hlt : H.ok σ.nxt with
  | false => rw [hlt] at h; cases h
  | true =>
    rw [hlt] at h
    obtain ⟨h1, h2⟩ := some_inj2 h
    subst h1; subst h2
    refine ⟨rfl, rfl, fun h2 => ?_⟩
    simp only [hlt]

theorem allocs_of : ∀ op, klass op = .alloc → Allocs H op := by
  intro op hk call τ σ v σ' h
  cases op <;> simp only [klass, reduceCtorEq] at hk
  case box x =>
    change opBox x call τ σ = _ at h
    show ∃ o, _ ∧ _ ∧ _ ∧ ∀ call2 h2, opBox x call2 τ _ = _
    unfold opBox at h ⊢
    obtain ⟨h0, h1, h2⟩ := fresh_inv h
    exact ⟨_, rfl, h0, h1, fun _ => h2⟩
  case buildSlice n z ps =>
    change opBuildSlice n z ps call τ σ = _ at h
    show ∃ o, _ ∧ _ ∧ _ ∧ ∀ call2 h2, opBuildSlice n z ps call2 τ _ = _
    unfold opBuildSlice at h ⊢
    cases hp : putAll ps τ z with
    | none => rw [hp] at h; cases h
    | some cs =>
      rw [hp] at h
      obtain ⟨h0, h1, h2⟩ := fresh_inv h
      exact ⟨_, rfl, h0, h1, fun _ => h2⟩
  case mkMap =>
    change opMkMap call τ σ = _ at h
    show ∃ o, _ ∧ _ ∧ _ ∧ ∀ call2 h2, opMkMap call2 τ _ = _
    unfold opMkMap at h ⊢
    obtain ⟨h0, h1, h2⟩ := fresh_inv h
    exact ⟨_, rfl, h0, h1, fun _ => h2⟩
  case mkChan bytes x =>
    change opMkChan bytes x call τ σ = _ at h
    show ∃ o, _ ∧ _ ∧ _ ∧ ∀ call2 h2, opMkChan bytes x call2 τ _ = _
    unfold opMkChan at h ⊢
    split at h
    · rename_i k m hm
      by_cases hc : 0 ≤ m ∧ m ≤ 2 ^ 40 ∧ m * bytes ≤ 2 ^ 40
      · rw [if_pos hc] at h
        obtain ⟨h0, h1, h2⟩ := fresh_inv h
        exact ⟨_, rfl, h0, h1, fun _ h3 => by rw [if_pos hc]; exact h2 h3⟩
      · rw [if_neg hc] at h; cases h
    · cases h
  case mkSlice bytes z l c =>
    change opMkSlice bytes z l c call τ σ = _ at h
    show ∃ o, _ ∧ _ ∧ _ ∧ ∀ call2 h2, opMkSlice bytes z l c call2 τ _ = _
    unfold opMkSlice at h ⊢
    split at h
    · rename_i k1 l1 k2 c1 hl hc
      by_cases hcc : 0 ≤ l1 ∧ l1 ≤ c1 ∧ c1 * bytes ≤ 2 ^ 40 ∧ c1 ≤ 2 ^ 40
      · rw [if_pos hcc] at h
        obtain ⟨h0, h1, h2⟩ := fresh_inv h
        exact ⟨_, rfl, h0, h1, fun _ h3 => by rw [if_pos hcc]; exact h2 h3⟩
      · rw [if_neg hcc] at h; cases h
    · cases h

end Go.Ax

namespace Go.Ax
open Go
variable {H : HeapI}

variable {σ σ' : (St H)} {τ τ1 τ2 : Env} {v : Value} {call : (CallF H)}

/-- the slots of a list are alike -/
def Alike (l : List Nat) (τ1 τ2 : Env) : Prop := ∀ t, t ∈ l → ev (.tmp t) τ1 = ev (.tmp t) τ2

theorem Alike.left {a b : List Nat} (h : Alike (a ++ b) τ1 τ2) : Alike a τ1 τ2 := fun t ht => h t (List.mem_append_left _ ht)
theorem Alike.right {a b : List Nat} (h : Alike (a ++ b) τ1 τ2) : Alike b τ1 τ2 := fun t ht => h t (List.mem_append_right _ ht)

theorem ev_congr {x : Od} (h : Alike (odT x) τ1 τ2) : ev x τ1 = ev x τ2 := by
  cases x with
  | tmp t => exact h t (List.mem_singleton.2 rfl)
  | const v => rfl
  | fn f => rfl

theorem evs_congr : ∀ {xs : List Od}, Alike (odsT xs) τ1 τ2 → evs xs τ1 = evs xs τ2
  | [], _ => rfl
  | x :: xs, h => by rw [evs_cons, evs_cons, ev_congr h.left, evs_congr h.right]

theorem putAll_nil (cs : List Value) : putAll [] τ cs = some cs := rfl
theorem putAll_step (p : Nat × Nat × Od) (ps : List (Nat × Nat × Od)) (cs : List Value) :
    putAll (p :: ps) τ cs = (fun (vs : List Value) => (Bool.rec none (Option.rec none (putAll ps τ) (put vs cs p.1)) (Nat.beq vs.length p.2.1) : Option (List Value))) (ev p.2.2 τ).cells.toList := rfl

theorem putAll_congr : ∀ {ps : List (Nat × Nat × Od)}, Alike (opsT ps) τ1 τ2 → putAll ps τ1 = putAll ps τ2
  | [], _ => rfl
  | p :: ps, h => by
    funext cs
    rw [putAll_step, putAll_step, ev_congr (show Alike (odT p.2.2) τ1 τ2 from h.left), putAll_congr (show Alike (opsT ps) τ1 τ2 from h.right)]

theorem evo_congr {x : Option Od} (h : Alike (optT x) τ1 τ2) : evo x τ1 = evo x τ2 := by
  cases x with
  | none => rfl
  | some x => exact congrArg some (ev_congr (show Alike (odT x) τ1 τ2 from h))

theorem aop_congr (op : AOp) (h : Alike (reads op) τ1 τ2) : aop op call τ1 σ = aop op call τ2 σ := by
  cases op
  case val x => show opVal x call τ1 σ = opVal x call τ2 σ; unfold opVal; rw [ev_congr h]
  case pick c x y =>
    show opPick c x y call τ1 σ = opPick c x y call τ2 σ; unfold opPick
    rw [ev_congr (x := c) h.left, ev_congr (x := x) h.right.left, ev_congr (x := y) h.right.right]
  case box x => show opBox x call τ1 σ = opBox x call τ2 σ; unfold opBox; rw [ev_congr h]
  case build z ps => show opBuild z ps call τ1 σ = opBuild z ps call τ2 σ; unfold opBuild; rw [putAll_congr h]
  case buildSlice n z ps => show opBuildSlice n z ps call τ1 σ = opBuildSlice n z ps call τ2 σ; unfold opBuildSlice; rw [putAll_congr h]
  case load g s x => show opLoad g s x call τ1 σ = opLoad g s x call τ2 σ; unfold opLoad; rw [ev_congr h]
  case store s x y => show opStore s x y call τ1 σ = opStore s x y call τ2 σ; unfold opStore; rw [ev_congr (x := x) h.left, ev_congr (x := y) h.right]
  case nilCheck x => show opNil x call τ1 σ = opNil x call τ2 σ; unfold opNil; rw [ev_congr h]
  case bin op x y => show opBin op x y call τ1 σ = opBin op x y call τ2 σ; unfold opBin; rw [ev_congr (x := x) h.left, ev_congr (x := y) h.right]
  case eq k neg x y => show opEq k neg x y call τ1 σ = opEq k neg x y call τ2 σ; unfold opEq; rw [ev_congr (x := x) h.left, ev_congr (x := y) h.right]
  case un op x => show opUn op x call τ1 σ = opUn op x call τ2 σ; unfold opUn; rw [ev_congr h]
  case conv k x => show opConv k x call τ1 σ = opConv k x call τ2 σ; unfold opConv; rw [ev_congr h]
  case mkFunc f xs ys => show opFunc f xs ys call τ1 σ = opFunc f xs ys call τ2 σ; unfold opFunc; rw [evs_congr (xs := xs) h.left, evs_congr (xs := ys) h.right]
  case mkMap => rfl
  case mkChan b x => show opMkChan b x call τ1 σ = opMkChan b x call τ2 σ; unfold opMkChan; rw [ev_congr h]
  case mkSlice b z x y => show opMkSlice b z x y call τ1 σ = opMkSlice b z x y call τ2 σ; unfold opMkSlice; rw [ev_congr (x := x) h.left, ev_congr (x := y) h.right]
  case slice s x lo hi mx =>
    show opSlice s x lo hi mx call τ1 σ = opSlice s x lo hi mx call τ2 σ; unfold opSlice
    rw [ev_congr (x := x) h.left, evo_congr (x := lo) h.right.left, evo_congr (x := hi) h.right.right.left, evo_congr (x := mx) h.right.right.right]
  case sliceArr n s x lo hi mx =>
    show opSliceArr n s x lo hi mx call τ1 σ = opSliceArr n s x lo hi mx call τ2 σ; unfold opSliceArr
    rw [ev_congr (x := x) h.left, evo_congr (x := lo) h.right.left, evo_congr (x := hi) h.right.right.left, evo_congr (x := mx) h.right.right.right]
  case fieldAddr off x => show opFieldAddr off x call τ1 σ = opFieldAddr off x call τ2 σ; unfold opFieldAddr; rw [ev_congr h]
  case field g s off x => show opField g s off x call τ1 σ = opField g s off x call τ2 σ; unfold opField; rw [ev_congr h]
  case indexAddr s x y => show opIndexAddr s x y call τ1 σ = opIndexAddr s x y call τ2 σ; unfold opIndexAddr; rw [ev_congr (x := x) h.left, ev_congr (x := y) h.right]
  case indexArr n s x y => show opIndexArr n s x y call τ1 σ = opIndexArr n s x y call τ2 σ; unfold opIndexArr; rw [ev_congr (x := x) h.left, ev_congr (x := y) h.right]
  case index g n s x y => show opIndex g n s x y call τ1 σ = opIndex g n s x y call τ2 σ; unfold opIndex; rw [ev_congr (x := x) h.left, ev_congr (x := y) h.right]
  case lookup kk z x y ok => show opLookup kk z x y ok call τ1 σ = opLookup kk z x y ok call τ2 σ; unfold opLookup; rw [ev_congr (x := x) h.left, ev_congr (x := y) h.right]
  case mapUpdate kk x y z =>
    show opMapUpdate kk x y z call τ1 σ = opMapUpdate kk x y z call τ2 σ; unfold opMapUpdate
    rw [ev_congr (x := x) h.left, ev_congr (x := y) h.right.left, ev_congr (x := z) h.right.right]
  case mapEntry kk z x y => show opMapEntry kk z x y call τ1 σ = opMapEntry kk z x y call τ2 σ; unfold opMapEntry; rw [ev_congr (x := x) h.left, ev_congr (x := y) h.right]
  case entryStore x y z =>
    show opEntryStore x y z call τ1 σ = opEntryStore x y z call τ2 σ; unfold opEntryStore
    rw [ev_congr (x := x) h.left, ev_congr (x := y) h.right.left, ev_congr (x := z) h.right.right]
  case extract x i => show opExtract x i call τ1 σ = opExtract x i call τ2 σ; unfold opExtract; rw [ev_congr h]
  case call f xs => show opCall f xs call τ1 σ = opCall f xs call τ2 σ; unfold opCall; rw [evs_congr h]
  case callv x xs => show opCallv x xs call τ1 σ = opCallv x xs call τ2 σ; unfold opCallv; rw [ev_congr (x := x) h.left, evs_congr (xs := xs) h.right]
  case len k x => show opLen k x call τ1 σ = opLen k x call τ2 σ; unfold opLen; rw [ev_congr h]
  case append s b z zs x y => show opAppend s b z zs x y call τ1 σ = opAppend s b z zs x y call τ2 σ; unfold opAppend; rw [ev_congr (x := x) h.left, ev_congr (x := y) h.right]
  case cap x => show opCap x call τ1 σ = opCap x call τ2 σ; unfold opCap; rw [ev_congr h]
  case mn xs => show opMn xs call τ1 σ = opMn xs call τ2 σ; unfold opMn; rw [evs_congr h]
  case mx xs => show opMx xs call τ1 σ = opMx xs call τ2 σ; unfold opMx; rw [evs_congr h]
  case delete kk x y => show opDelete kk x y call τ1 σ = opDelete kk x y call τ2 σ; unfold opDelete; rw [ev_congr (x := x) h.left, ev_congr (x := y) h.right]
  case sel s z c =>
    show opSel s z c call τ1 σ = opSel s z c call τ2 σ; unfold opSel
    rw [ev_congr (x := c) h.right]
    cases s with
    | none => rfl
    | some x =>
      have e : ev x τ1 = ev x τ2 := ev_congr (x := x) (show Alike (odT x) τ1 τ2 from h.left)
      simp only [e]
  case add64 x y z =>
    show opAdd64 x y z call τ1 σ = opAdd64 x y z call τ2 σ; unfold opAdd64
    rw [ev_congr (x := x) h.left, ev_congr (x := y) h.right.left, ev_congr (x := z) h.right.right]
  case fail => rfl

theorem yesO_congr {g : Option (Nat × Bool)} (h : Alike (gT g) τ1 τ2) : yesO g τ1 = yesO g τ2 := by
  cases g with
  | none => rfl
  | some p =>
    obtain ⟨t, b⟩ := p
    show yes t b τ1 = yes t b τ2
    have := h t (List.mem_singleton.2 rfl)
    rw [ev_tmp, ev_tmp] at this
    unfold yes
    cases h1 : Tr.get 9 τ1 t <;> cases h2 : Tr.get 9 τ2 t <;> rw [h1, h2] at this <;> simp only [Option.getD_some, Option.getD_none] at this
    · subst this; rfl
    · subst this; rfl
    · rw [this]

/-! numbers only grow -/
def GrowsC (call : (CallF H)) : Prop := ∀ f args σ v σ', call f args σ = some (v, σ') → σ.nxt ≤ σ'.nxt

theorem le_same {u : Value} {σ2 : (St H)} (h : some (u, σ2) = some (v, σ')) (he : σ2.nxt = σ.nxt) : σ.nxt ≤ σ'.nxt := by
  obtain ⟨_, rfl⟩ := some_inj2 h; omega

theorem fresh_le {σ2 : (St H)} {o : AObj} {f : Nat → Value} (h : fresh σ2 o f = some (v, σ')) (he : σ2.nxt = σ.nxt) : σ.nxt ≤ σ'.nxt := by
  obtain ⟨_, rfl, _⟩ := fresh_inv h
  show σ.nxt ≤ σ2.nxt + 1
  omega

theorem appendTo_le {zs : Bool} {size bytes : Nat} {base : Option Addr} {len cap n : Nat} {new : List Value} (h : appendTo zs σ size bytes base len cap n new = some (v, σ')) : σ.nxt ≤ σ'.nxt := by
  unfold appendTo growTo at h
  cases h1 : Nat.ble (len + n) cap with
  | true =>
    rw [h1] at h
    simp only [cond_true] at h
    split at h
    · exact le_same h rfl
    · cases h2 : Nat.beq n 0 with
      | true => rw [h2] at h; exact le_same h rfl
      | false =>
        rw [h2] at h
        simp only [cond_false] at h
        split at h
        · split at h
          · exact le_same h rfl
          · cases h
        · cases h
  | false =>
    rw [h1] at h
    simp only [cond_false] at h
    cases h2 : (Nat.ble ((len + n) * bytes) (2 ^ 40) && Nat.ble (len + n) (2 ^ 40)) with
    | false => rw [h2] at h; cases h
    | true =>
      rw [h2] at h
      simp only [cond_true] at h
      split at h
      · cases h3 : Nat.beq len 0 with
        | true => rw [h3] at h; simp only [cond_true] at h; exact fresh_le h rfl
        | false => rw [h3] at h; cases h
      · cases zs with
        | true => cases h
        | false =>
          simp only [cond_false] at h
          split at h
          · split at h
            · cases h
            · split at h
              · exact fresh_le h rfl
              · obtain ⟨_, h⟩ := bif_s h
                exact fresh_le h rfl
              · cases h
          · cases h

theorem aop_grows (hG : GrowsC call) (op : AOp) (h : aop op call τ σ = some (v, σ')) : σ.nxt ≤ σ'.nxt := by
  cases hk : klass op with
  | pure => rw [(pure_of op hk call τ σ v σ' h).1]; exact Nat.le_refl _
  | read => rw [(reads_of op hk call τ σ v σ' h).1]; exact Nat.le_refl _
  | alloc => obtain ⟨o, _, _, rfl, _⟩ := allocs_of op hk call τ σ v σ' h; exact Nat.le_succ _
  | eff =>
    cases op <;> simp only [klass, reduceCtorEq] at hk
    case store s x y =>
      change opStore s x y call τ σ = _ at h
      unfold opStore storeAt at h
      split at h
      · split at h
        · rename_i p _ _ cs z _
          cases h1 : Nat.beq (ev y τ).cells.toList.length s with
          | false => rw [h1] at h; cases h
          | true =>
            rw [h1] at h
            cases h2 : put (ev y τ).cells.toList cs p.off with
            | none => rw [h2] at h; cases h
            | some cs' => rw [h2] at h; exact le_same h rfl
        · cases h
      · cases h
    case mapUpdate kk m k x =>
      change opMapUpdate kk m k x call τ σ = _ at h
      unfold opMapUpdate at h
      split at h
      · split at h
        · cases hi : keyIs kk (ev k τ) with
          | false => rw [hi] at h; cases h
          | true =>
            rw [hi] at h
            simp only [cond_true] at h
            split at h
            · exact le_same h rfl
            · exact le_same h rfl
            · cases h
        · cases h
      · cases h
    case mapEntry kk z m k =>
      change opMapEntry kk z m k call τ σ = _ at h
      unfold opMapEntry at h
      split at h
      · split at h
        · cases hi : keyIs kk (ev k τ) with
          | false => rw [hi] at h; cases h
          | true =>
            rw [hi] at h
            simp only [cond_true] at h
            split at h
            · split at h
              · exact le_same h rfl
              · cases h
            · exact le_same h rfl
            · cases h
        · cases h
      · cases h
    case entryStore m s x =>
      change opEntryStore m s x call τ σ = _ at h
      unfold opEntryStore at h
      split at h
      · split at h
        · split at h
          · exact le_same h rfl
          · cases h
        · cases h
      · cases h
    case call f xs => exact hG _ _ _ _ _ h
    case callv x xs =>
      change opCallv x xs call τ σ = _ at h
      unfold opCallv at h
      split at h
      · exact hG _ _ _ _ _ h
      · cases h
    case append s b z zs x y =>
      change opAppend s b z zs x y call τ σ = _ at h
      unfold opAppend at h
      split at h
      · split at h
        · cases h
        · split at h
          · cases h
          · obtain ⟨_, h⟩ := bif_s h
            exact appendTo_le h
      · cases h
    case delete kk m k =>
      change opDelete kk m k call τ σ = _ at h
      unfold opDelete at h
      split at h
      · cases hi : keyIs kk (ev k τ) with
        | false => rw [hi] at h; cases h
        | true => rw [hi] at h; exact le_same h rfl
      · split at h
        · cases hi : keyIs kk (ev k τ) with
          | false => rw [hi] at h; cases h
          | true =>
            rw [hi] at h
            simp only [cond_true] at h
            split at h
            · exact le_same h rfl
            · exact le_same h rfl
            · cases h
        · cases h
      · cases h
    case sel s z c =>
      change opSel s z c call τ σ = _ at h
      unfold opSel at h
      split at h
      · split at h
        · split at h
          · rename_i cap buf _ _ _ _ _
            cases h1 : Nat.blt buf.length cap with
            | true => rw [h1] at h; exact le_same h rfl
            | false => rw [h1] at h; exact le_same h rfl
          · split at h
            · exact le_same h rfl
            · exact le_same h rfl
        · cases h
      · split at h
        · exact le_same h rfl
        · exact le_same h rfl
      · cases h
    case fail => cases h

theorem ai_grows (hG : GrowsC call) {i : AI} {τ' : Env} (h : ai i call τ σ = some (τ', σ')) : σ.nxt ≤ σ'.nxt := by
  rcases ai_cases h with ⟨_, v, hv, _⟩ | ⟨_, _, rfl⟩
  · exact aop_grows hG _ hv
  · exact Nat.le_refl _

theorem ais_grows (hG : GrowsC call) : ∀ {l : List AI} {τ τ' : Env} {σ σ' : (St H)}, ais l call τ σ = some (τ', σ') → σ.nxt ≤ σ'.nxt
  | [], _, _, _, _, h => by obtain ⟨_, rfl⟩ := some_inj2 h; exact Nat.le_refl _
  | i :: l, _, _, _, _, h => by
    obtain ⟨τ1, σ1, h1, h2⟩ := ais_cons h
    exact Nat.le_trans (ai_grows hG h1) (ais_grows hG h2)

end Go.Ax

