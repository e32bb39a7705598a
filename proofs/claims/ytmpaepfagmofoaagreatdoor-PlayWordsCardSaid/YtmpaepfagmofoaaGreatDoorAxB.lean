/- The plain steps of the abstract machine are steps of the model. -/
import Derived.Test.YtmpaepfagmofoaaGreatDoorAxA
import Derived.WalkSpells
import Derived.Laws.Strings
set_option linter.all false
namespace Go.Ax
open Go
variable {H : HeapI}

variable {P : Program} {n : Nat} {M : Mp} {σ σ' : (St H)} {w : World} {a : Act} {τ : Env} {o : Oper} {v : Value}

/-- the model's operation gives what the abstract one gave -/
def Did (P : Program) (o : Oper) (a : Act) (w : World) (M : Mp) (σ : (St H)) (v : Value) (σ' : (St H)) : Prop :=
  ∃ M' v' w', ((execOp a.eval o).run P w = .ok (.value v') w' ∨ ((execOp a.eval o).run P w = .ok .skip w' ∧ v' = undef)) ∧ VRel M' v v' ∧ Goes M σ w M' σ' w'

theorem Did.pure {v' : Value} (h : HRel M σ w) (hr : (execOp a.eval o).run P w = .ok (.value v') w) (hv : VRel M v v') : Did P o a w M σ v σ :=
  ⟨M, v', w, .inl hr, hv, Goes.refl h⟩

theorem some_inj2 {α β : Type} {a a' : α} {b b' : β} (h : some (a, b) = some (a', b')) : a = a' ∧ b = b' := by injection h with h; injection h with h1 h2; exact ⟨h1, h2⟩

theorem pureR_some {σ : (St H)} {x : Option Value} (h : pureR σ x = some (v, σ')) : x = some v ∧ σ' = σ := by
  cases x with
  | none => cases h
  | some y => obtain ⟨h1, h2⟩ := some_inj2 (show some (y, σ) = some (v, σ') from h); exact ⟨by rw [h1], h2.symm⟩

theorem s_val {x : Operand} {y : Od} {call : (CallF H)} (ho : o.op = .move x ∨ o.op = .assign x) (hc : cod n x = some y) (hH : HRel M σ w) (hE : ERel n M τ a.tmps)
    (h : opVal y call τ σ = some (v, σ')) : Did P o a w M σ v σ' := by
  obtain ⟨rfl, rfl⟩ := some_inj2 h
  refine Did.pure hH (v' := a.eval x) ?_ (cod_rel hE hc)
  rcases ho with ho | ho <;> simp [execOp, ho]

theorem VRel.bool_inv {b : Bool} {v' : Value} (h : VRel M (.bool b) v') : v' = .bool b := by cases h; rfl
theorem VRel.int_inv {k : IntKind} {m : Int} {v' : Value} (h : VRel M (.int k m) v') : v' = .int k m := by cases h; rfl
theorem VRel.string_inv {s : ByteArray} {v' : Value} (h : VRel M (.string s) v') : v' = .string s := by cases h; rfl
theorem VRel.agg_inv {cs : Array Value} {v' : Value} (h : VRel M (.agg cs) v') : ∃ cs', v' = .agg cs' ∧ All2 (VRel M) cs.toList cs'.toList := by
  cases h with
  | sc h => simp [cloS] at h
  | agg h => exact ⟨_, rfl, h⟩
theorem VRel.tuple_inv {cs : Array Value} {v' : Value} (h : VRel M (.tuple cs) v') : ∃ cs', v' = .tuple cs' ∧ All2 (VRel M) cs.toList cs'.toList := by
  cases h with
  | sc h => simp [cloS] at h
  | tuple h => exact ⟨_, rfl, h⟩
theorem VRel.ptr_inv {b o : Nat} {s : Option Nat} {v' : Value} (h : VRel M (.pointer (some ⟨b, o, s⟩)) v') : s = none ∧ ∃ B O x, M b = some (B, O, x) ∧ v' = .pointer (some ⟨B, O + o, none⟩) := by
  cases h with
  | sc h => simp [cloS] at h
  | ptr h => exact ⟨rfl, _, _, _, h, rfl⟩
theorem VRel.map_inv {b : Nat} {v' : Value} (h : VRel M (.map (some b)) v') : ∃ B O x, M b = some (B, O, x) ∧ v' = .map (some B) := by
  cases h with
  | sc h => simp [cloS] at h
  | map h => exact ⟨_, _, _, h, rfl⟩
theorem VRel.chan_inv {b : Nat} {v' : Value} (h : VRel M (.chan (some b)) v') : ∃ B O x, M b = some (B, O, x) ∧ v' = .chan (some B) := by
  cases h with
  | sc h => simp [cloS] at h
  | chan h => exact ⟨_, _, _, h, rfl⟩

theorem s_pick {c x y : Operand} {c' x' y' : Od} {call : (CallF H)} (ho : o.op = .pick c x y) (hc : cod n c = some c') (hx : cod n x = some x') (hy : cod n y = some y')
    (hH : HRel M σ w) (hE : ERel n M τ a.tmps) (h : opPick c' x' y' call τ σ = some (v, σ')) : Did P o a w M σ v σ' := by
  have hcr := cod_rel hE hc
  unfold opPick at h
  split at h
  · rename_i hv
    rw [hv] at hcr
    obtain ⟨rfl, rfl⟩ := some_inj2 h
    refine Did.pure hH (v' := a.eval x) ?_ (cod_rel hE hx)
    have : a.eval c = .bool true := hcr.bool_inv
    simp [execOp, ho, this, asBool]
  · rename_i hv
    rw [hv] at hcr
    obtain ⟨rfl, rfl⟩ := some_inj2 h
    refine Did.pure hH (v' := a.eval y) ?_ (cod_rel hE hy)
    have : a.eval c = .bool false := hcr.bool_inv
    simp [execOp, ho, this, asBool]
  · cases h

theorem szOf_run {t : TypeId} {s : Nat} (h : szOf P t = some s) (w : World) : (sizeOf t).run P w = .ok s w := by
  unfold szOf at h
  cases hi : P.info? t with
  | none => rw [hi] at h; cases h
  | some i => rw [hi] at h; injection h with h; simp [sizeOf, typeInfo, hi, h]

theorem zOf_run {t : TypeId} {z : Value} (h : zOf P t = some z) : clo z = true ∧ ∀ w, (zeroValue t).run P w = .ok z w := by
  unfold zOf at h
  simp only [Option.bind_eq_some_iff] at h
  obtain ⟨i, hi, z', hz, h⟩ := h
  cases hc : clo z' with
  | false => rw [hc] at h; cases h
  | true => rw [hc] at h; injection h with h; subst h; exact ⟨hc, fun w => by simp [zeroValue, typeInfo, hi, hz]⟩

theorem aggOf_run {t : TypeId} {g : Bool} (h : aggOf P t = some g) (w : World) : (isAgg t).run P w = .ok g w := by
  unfold aggOf at h
  cases hd : P.underlying t with
  | none => rw [hd] at h; cases h
  | some d =>
    rw [hd] at h; injection h with h; subst h
    simp only [isAgg, Sem.run_bind, run_underlying hd, Result.andThen_ok]
    cases d <;> rfl

/-- the cells of a new block -/
theorem cells_new {cs : List Value} {c : Array Value} {t : TypeId} (h : All2 (VRel M) cs c.toList) (ro : Bool) (z x : Nat) (hx : x * z = 0) :
    ∀ M' : Mp, M.le M' → ObjRel M' w.heap.size 0 x (w.alloc (.cells c t)) (.cells cs ro z) := fun M' le =>
  .cells (c := c) (e := t) (fr := (0, 0)) (by show (w.heap.push _)[w.heap.size]? = _; simp) (fun i v hi => by
    obtain ⟨v', hv, hr⟩ := h.get i v hi
    exact ⟨v', by simpa using hv, hr.mono le⟩) (by have := h.length; simp at this; omega) (fun _ => rfl) (fun _ => rfl)

theorem did_fresh_cells {cs : List Value} {c : Array Value} {t : TypeId} {z : Nat} {f g : Nat → Value} (hH : HRel M σ w) (fr : Fresh M σ σ')
    (h : fresh σ (.cells cs false z) f = some (v, σ')) (hcs : All2 (VRel M) cs c.toList)
    (hrun : (execOp a.eval o).run P w = .ok (.value (g w.heap.size)) (w.alloc (.cells c t)))
    (hfg : ∀ M' b B, M' b = some (B, 0, 0) → VRel M' (f b) (g B)) : Did P o a w M σ v σ' := by
  obtain ⟨M', rfl, hM, hg⟩ := fresh_goes hH h fr (.cells c t) 0 (cells_new hcs false z 0 (Nat.zero_mul z))
  exact ⟨M', _, _, .inl hrun, hfg M' _ _ hM, hg⟩

theorem s_box {y : Od} {t : TypeId} {x' : Value} {call : (CallF H)} (hv : VRel M (ev y τ) x')
    (hrun : (execOp a.eval o).run P w = .ok (.value (.pointer (some ⟨w.heap.size, 0, none⟩))) (w.alloc (.cells x'.cells t)))
    (hH : HRel M σ w) (fr : Fresh M σ σ') (h : opBox y call τ σ = some (v, σ')) : Did P o a w M σ v σ' :=
  did_fresh_cells (f := fun b => .pointer (some ⟨b, 0, none⟩)) (g := fun B => .pointer (some ⟨B, 0, none⟩)) hH fr h (cells_rel hv) hrun
    fun M' b B hb => by have := VRel.ptr (o := 0) hb; simpa using this

/-- a load of a value of type t -/
theorem mkv_load {g : Bool} {s : Nat} {t : TypeId} {cs : List Value} {B O off : Nat} {c : Array Value} {e : TypeId} {fr : Nat × Nat} {r : Value}
    (hg : aggOf P t = some g) (hs : szOf P t = some s) (hb : w.heap[B]? = some (.cells c e fr)) (hc : CellsAt M c O cs)
    (h : mkv g s cs off = some r) : ∃ r', (loadVar t ⟨B, O + off, none⟩).run P w = .ok r' w ∧ VRel M r r' := by
  cases g with
  | false =>
    have h' : one cs off = some r := h
    rw [one_eq] at h'
    obtain ⟨r', hr', hv⟩ := hc off r h'
    refine ⟨r', ?_, hv⟩
    have hcell : w.cell? ⟨B, O + off, none⟩ = some r' := by simp [World.cell?, hb, hr']
    simp [loadVar, aggOf_run hg, hcell]
  | true =>
    have h' : (Option.rec none (fun l => some (.agg ⟨l⟩)) (get cs s off) : Option Value) = some r := h
    cases hq : get cs s off with
    | none => rw [hq] at h'; cases h'
    | some l =>
      rw [hq] at h'
      injection h' with h'
      obtain ⟨hl, hl2⟩ := get_some cs s off l hq
      have hlen : l.length = s := by subst hl2; simp; omega
      -- the concrete cells
      let l' := (List.range s).map fun i => c.getD (O + off + i) undef
      have hcell : ∀ i v, l[i]? = some v → ∃ v', c[O + off + i]? = some v' ∧ VRel M v v' := fun i v hi => by
        have hi' : cs[off + i]? = some v := by
          subst hl2
          have := hi
          simp only [List.getElem?_take, List.getElem?_drop] at this
          split at this
          · exact this
          · cases this
        obtain ⟨v', hv', hr⟩ := hc (off + i) v hi'
        exact ⟨v', by rw [show O + off + i = O + (off + i) by omega]; exact hv', hr⟩
      have hl' : ∀ i, i < s → c[O + off + i]? = some (c.getD (O + off + i) undef) := fun i hi => by
        have : l[i]? = some l[i] := List.getElem?_eq_getElem (by omega)
        obtain ⟨v', hv', _⟩ := hcell i _ this
        simp [Array.getD_eq_getD_getElem?, hv']
      have hcs : ∀ j v, l'[j]? = some v → w.cell? ((⟨B, O + off, none⟩ : Addr).add j) = some v := fun j v hj => by
        have hjs : j < s := by
          by_cases hjs : j < s
          · exact hjs
          · simp [l', hjs] at hj
        have hv : v = c.getD (O + off + j) undef := by
          rw [show l'[j]? = some (c.getD (O + off + j) undef) from by simp [l', hjs]] at hj
          injection hj with hj; exact hj.symm
        rw [Addr.add_lit]
        unfold World.cell?
        rw [hb]
        show c[O + off + j]? = some v
        rw [hv]; exact hl' j hjs
      have hload := run_loadCells_list (P := P) w ⟨B, O + off, none⟩ l' hcs
      have hl'len : l'.length = s := by simp [l']
      rw [hl'len] at hload
      refine ⟨.agg l'.toArray, ?_, ?_⟩
      · simp [loadVar, aggOf_run hg, szOf_run hs, hload]
      · subst h'
        refine .agg (All2.of_get (by simp [hlen, hl'len]) fun i v hi => ?_)
        obtain ⟨v', hv', hr⟩ := hcell i v hi
        have his : i < s := by rw [← hlen]; exact (List.getElem?_eq_some_iff.1 hi).1
        refine ⟨v', ?_, hr⟩
        simp [l', his, Array.getD_eq_getD_getElem?, hv']

theorem cells_obj {b : Nat} {cs : List Value} (h : σ.cells b = some cs) : ∃ ro z, σ.obj b = some (.cells cs ro z) := by
  unfold St.cells at h
  cases ho : σ.obj b with
  | none => rw [ho] at h; cases h
  | some x =>
    rw [ho] at h
    cases x with
    | cells cs' ro z => injection h with h; subst h; exact ⟨ro, z, rfl⟩
    | map es c => cases h
    | chan a b c d => cases h

theorem loadAt_some {g : Bool} {s : Nat} {ad : Addr} (h : loadAt g s σ ad = some (v, σ')) : ∃ cs, σ.cells ad.block = some cs ∧ mkv g s cs ad.off = some v ∧ σ' = σ := by
  unfold loadAt at h
  cases hc : σ.cells ad.block with
  | none => rw [hc] at h; cases h
  | some cs =>
    rw [hc] at h
    obtain ⟨h1, h2⟩ := pureR_some (show pureR σ (mkv g s cs ad.off) = some (v, σ') from h)
    exact ⟨cs, rfl, h1, h2⟩

theorem s_load {t : TypeId} {x : Operand} {y : Od} {g : Bool} {s : Nat} {call : (CallF H)} (ho : o.op = .load t x) (hg : aggOf P t = some g) (hs : szOf P t = some s) (hc : cod n x = some y)
    (hH : HRel M σ w) (hE : ERel n M τ a.tmps) (h : opLoad g s y call τ σ = some (v, σ')) : Did P o a w M σ v σ' := by
  have hr := cod_rel hE hc
  unfold opLoad at h
  split at h
  · rename_i ad hv
    rw [hv] at hr
    obtain ⟨cs, hcs, hm, rfl⟩ := loadAt_some h
    generalize hx' : a.eval x = x' at hr
    cases hr with
    | sc hq => simp [cloS] at hq
    | ptr hM =>
      rename_i b off B O x
      obtain ⟨ro, z, hobj⟩ := cells_obj hcs
      obtain ⟨B', O', x'', hM', hobr⟩ := hH.at_ _ _ hobj
      rw [hM] at hM'; injection hM' with hM'; injection hM' with h1 h2; injection h2 with h2 h3; subst h1; subst h2; subst h3
      cases hobr with
      | cells hb hcells _ _ hz0 =>
        obtain ⟨r', hrun, hvr⟩ := mkv_load hg hs hb hcells hm
        refine Did.pure hH (v' := r') ?_ hvr
        simp [execOp, ho, hx', Instr.loadAt, Instr.sureAddr, hrun]
  · cases h

theorem cells_size_rel {M : Mp} {v v' : Value} (h : VRel M v v') : v'.cells.size = v.cells.toList.length := by
  have := (cells_rel h).length; simp at this; simp [this]

/-- stores a run of cells -/
theorem store_cells {B O off : Nat} {c : Array Value} {e : TypeId} {cs vs cs' : List Value} {vs' : List Value} {z x : Nat}
    (hb : w.heap[B]? = some (.cells c e (0, 0))) (hc : CellsAt M c O cs) (hfit : O + cs.length + x * z ≤ c.size) (hz0 : z = 0 → O = 0)
    (hp : put vs cs off = some cs') (hv : All2 (VRel M) vs vs') :
    ∃ w', (storeCells ⟨B, O + off, none⟩ vs').run P w = .ok () w' ∧ ObjRel M B O x w' (.cells cs' false z) ∧ (∀ B', B' ≠ B → w'.heap[B']? = w.heap[B']?) ∧ w'.heap.size = w.heap.size ∧ w'.tape = w.tape ∧ w'.os = w.os ∧ w'.output = w.output := by
  obtain ⟨hl, ho1, hcs'⟩ := put_some vs cs off cs' hp
  have hlen := hv.length
  have hone : ∀ u ∈ vs', u.oneCell' = true := fun u hu => by
    obtain ⟨i, hi⟩ := List.getElem?_of_mem hu
    have hi2 : i < vs.length := by rw [hlen]; exact (List.getElem?_eq_some_iff.1 hi).1
    obtain ⟨u', hu', hr⟩ := hv.get i vs[i] (List.getElem?_eq_getElem hi2)
    rw [hi] at hu'; injection hu' with hu'; subst hu'
    rw [← oneC_iff, ← hr.oneC]
    exact ho1 _ (List.getElem_mem hi2)
  have hst := run_storeCells_at P B (O + off) e vs' 0 c w hb (by omega) hone
  refine ⟨_, hst, ?_, ?_, ?_, rfl, rfl, rfl⟩
  · refine .cells (setRow_heap w B c _ e _ hb) ?_ ?_ (fun _ => rfl) hz0
    · intro i u hi
      subst hcs'
      simp only [Nat.add_zero]
      have htl : (c.toList.take (O + off)).length = O + off := by simp; omega
      rcases Nat.lt_or_ge i off with h1 | h1
      · -- ahead of it
        have hu : cs[i]? = some u := by
          simp only [List.append_assoc] at hi
          rw [List.getElem?_append_left (by simp; omega)] at hi
          simpa [List.getElem?_take, h1] using hi
        obtain ⟨u', hu', hr⟩ := hc i u hu
        refine ⟨u', ?_, hr⟩
        simp only [List.getElem?_toArray, List.append_assoc]
        rw [List.getElem?_append_left (by rw [htl]; omega), List.getElem?_take, if_pos (by omega)]
        simpa using hu'
      · rcases Nat.lt_or_ge i (off + vs.length) with h2 | h2
        · -- in it
          have hu : vs[i - off]? = some u := by
            simp only [List.append_assoc] at hi
            rw [List.getElem?_append_right (by simp; omega)] at hi
            have e1 : (cs.take off).length = off := by simp; omega
            rw [e1, List.getElem?_append_left (by omega)] at hi
            exact hi
          obtain ⟨u', hu', hr⟩ := hv.get _ u hu
          refine ⟨u', ?_, hr⟩
          simp only [List.getElem?_toArray, List.append_assoc]
          rw [List.getElem?_append_right (by rw [htl]; omega), htl, List.getElem?_append_left (by omega), show O + i - (O + off) = i - off by omega]
          exact hu'
        · -- behind it
          have hu : cs[i]? = some u := by
            rw [List.getElem?_append_right (by simp; omega)] at hi
            have e1 : (cs.take off ++ vs).length = off + vs.length := by simp; omega
            rw [e1, List.getElem?_drop, show off + vs.length + (i - (off + vs.length)) = i by omega] at hi
            exact hi
          obtain ⟨u', hu', hr⟩ := hc i u hu
          refine ⟨u', ?_, hr⟩
          simp only [List.getElem?_toArray]
          have e1 : (c.toList.take (O + off) ++ vs').length = O + off + vs'.length := by simp; omega
          rw [List.getElem?_append_right (by rw [e1]; omega), e1, List.getElem?_drop, show O + off + vs'.length + (O + i - (O + off + vs'.length)) = O + i by omega]
          simpa using hu'
    · subst hcs'
      simp; omega
  · intro B' hB'
    simp only [World.setRow, Array.getElem?_modify, if_neg (Ne.symm hB')]
  · simp [World.setRow]

end Go.Ax

namespace Go.Ax
open Go
variable {H : HeapI}

variable {P : Program} {n : Nat} {M : Mp} {σ σ' : (St H)} {w : World} {a : Act} {τ : Env} {o : Oper} {v : Value}

theorem storeAt_some {s : Nat} {p : Addr} {vs : List Value} (h : storeAt s p vs σ = some (v, σ')) :
    ∃ cs z cs', σ.obj p.block = some (.cells cs false z) ∧ vs.length = s ∧ put vs cs p.off = some cs' ∧ v = undefV ∧ σ' = σ.put p.block (some (.cells cs' false z)) := by
  unfold storeAt at h
  split at h
  · rename_i cs z hobj
    cases hb : Nat.beq vs.length s with
    | false => rw [hb] at h; cases h
    | true =>
      rw [hb] at h
      cases hp : put vs cs p.off with
      | none => rw [hp] at h; cases h
      | some cs' =>
        rw [hp] at h
        obtain ⟨h1, h2⟩ := some_inj2 (show some (undefV, σ.put p.block (some (.cells cs' false z))) = some (v, σ') from h)
        exact ⟨cs, z, cs', hobj, Nat.eq_of_beq_eq_true hb, hp, h1.symm, h2.symm⟩
  · cases h

theorem s_store {t : TypeId} {x y : Operand} {x' y' : Od} {s : Nat} {call : (CallF H)} (ho : o.op = .store t x y) (hs : szOf P t = some s) (hx : cod n x = some x') (hy : cod n y = some y')
    (hH : HRel M σ w) (hE : ERel n M τ a.tmps) (h : opStore s x' y' call τ σ = some (v, σ')) : Did P o a w M σ v σ' := by
  have hrx := cod_rel hE hx
  have hry := cod_rel hE hy
  unfold opStore at h
  split at h
  · rename_i p hv
    rw [hv] at hrx
    obtain ⟨cs, z, cs', hobj, hlen, hp, rfl, rfl⟩ := storeAt_some h
    obtain ⟨b, off, sp⟩ := p
    obtain ⟨rfl, B, O, xx, hM, hax⟩ := hrx.ptr_inv
    obtain ⟨B', O', x'', hM', hobr⟩ := hH.at_ _ _ hobj
    rw [hM] at hM'; injection hM' with hM'; injection hM' with h1 h2; injection h2 with h2 h3; subst h1; subst h2; subst h3
    cases hobr with
    | cells hb hcells hfit hfr hz0 =>
      rename_i c e fr
      obtain rfl := hfr rfl
      have hcr := cells_rel hry
      obtain ⟨w', hrun, hobj', hother, hsize, ht, hos, hout⟩ := store_cells (P := P) hb hcells hfit hz0 hp hcr
      refine ⟨M, undef, w', .inr ⟨?_, rfl⟩, undef_rel M, put_goes hH hobj rfl hM hobj' hother hsize ht hos hout⟩
      have hsz : (a.eval y).cells.size = s := by rw [cells_size_rel hry, hlen]
      simp [execOp, ho, hax, Instr.storeAt, Instr.sureAddr, storeVar, szOf_run hs, hsz, hrun]
  · cases h

theorem s_nil {x : Operand} {y : Od} {call : (CallF H)} (ho : o.op = .nilCheck x) (hc : cod n x = some y) (hH : HRel M σ w) (hE : ERel n M τ a.tmps)
    (h : opNil y call τ σ = some (v, σ')) : Did P o a w M σ v σ' := by
  have hr := cod_rel hE hc
  unfold opNil at h
  split at h
  · rename_i p hv
    rw [hv] at hr
    obtain ⟨rfl, rfl⟩ := some_inj2 h
    obtain ⟨b, off, sp⟩ := p
    have hr' := hr
    obtain ⟨rfl, B, O, xx, hM, hax⟩ := hr.ptr_inv
    refine Did.pure hH (v' := a.eval x) ?_ hr'
    simp [execOp, ho, hax]
  · cases h

theorem eqGuard_not {op : BinOp} (h1 : op ≠ .eql) (h2 : op ≠ .neq) (t : TypeId) (x y : Operand) (u u' : Value) : eqGuard op t x y u u' = pure () := by
  cases op <;> first | rfl | contradiction

theorem binInt_run {op : BinOp} {t : TypeId} {k : IntKind} {p q : Int} {r : Value} (hop : op ≠ .shl ∧ op ≠ .shr) (h : binInt op k p q = some r) (w : World) :
    (binOp op t (.int k p) (.int k q)).run P w = .ok r w := by
  cases op with
  | shl => simp at hop
  | shr => simp at hop
  | quo =>
    simp only [binInt] at h
    split at h
    · cases h
    · injection h with h; subst h; rename_i hq; simp [binOp_quo, Op.intDiv, hq]
  | rem =>
    simp only [binInt] at h
    split at h
    · cases h
    · injection h with h; subst h; rename_i hq; simp [binOp_rem, Op.intDiv, hq]
  | add => injection h with h; subst h; simp [binOp_add, Op.intArith]
  | sub => injection h with h; subst h; simp [binOp_sub, Op.intArith]
  | mul => injection h with h; subst h; simp [binOp_mul, Op.intArith]
  | and => injection h with h; subst h; simp [binOp_and, Op.intBits]
  | or => injection h with h; subst h; simp [binOp_or, Op.intBits]
  | xor => injection h with h; subst h; simp [binOp_xor, Op.intBits]
  | andNot => injection h with h; subst h; simp [binOp_andNot, Op.intBits]
  | eql => injection h with h; subst h; rw [binOp_eql]; simp; rfl
  | neq => injection h with h; subst h; rw [binOp_neq]; simp; rfl
  | lss => injection h with h; subst h; simp [binOp_lss]
  | leq => injection h with h; subst h; simp [binOp_leq]
  | gtr => injection h with h; subst h; simp [binOp_gtr]
  | geq => injection h with h; subst h; simp [binOp_geq]

theorem binStr_run {op : BinOp} {t : TypeId} {p q : ByteArray} {r : Value} (h : binStr op p.data.toList q.data.toList = some r) (w : World) :
    (binOp op t (.string p) (.string q)).run P w = .ok r w := by
  have hb : ∀ op, binOp op t (.string p) (.string q) = Op.stringOp op p q := fun op => by cases op <;> rfl
  rw [hb]
  cases op <;> simp only [binStr] at h <;> try (cases h; done)
  · split at h
    · rename_i hl
      injection h with h; subst h
      have hs : ¬ ((p.size + q.size : Nat) : Int) > IntKind.i64.max := by
        have e1 : p.size = p.data.toList.length := rfl
        have e2 : q.size = q.data.toList.length := rfl
        rw [IntKind.max_i64, e1, e2]; omega
      simp only [Op.stringOp, if_neg hs, Sem.run_pure]
      congr 2
    · cases h
  · injection h with h; subst h
    simp [Op.stringOp, ByteArray.toList_eq]
  · injection h with h; subst h
    simp [Op.stringOp, ByteArray.toList_eq]

theorem intBin_run {op : BinOp} {t : TypeId} {x y v : Value} (h : abin op x y = some v) (w : World) : (binOp op t x y).run P w = .ok v w := by
  unfold abin at h
  split at h
  · split at h
    · cases h
    · rename_i hb
      injection h with h; subst h
      simp [binOp_shl, Op.shift, hb]
  · split at h
    · cases h
    · rename_i hb
      injection h with h; subst h
      simp [binOp_shr, Op.shift, hb]
  · rename_i h1 h2
    split at h
    · rename_i hk
      subst hk
      exact binInt_run ⟨h1, h2⟩ h w
    · cases h
  · exact binStr_run h w
  · cases h

theorem abin_shape {op : BinOp} {x y v : Value} (h : abin op x y = some v) : (∃ k p k' q, x = .int k p ∧ y = .int k' q) ∨ (∃ p q, x = .string p ∧ y = .string q) := by
  unfold abin at h
  split at h
  · exact .inl ⟨_, _, _, _, rfl, rfl⟩
  · exact .inl ⟨_, _, _, _, rfl, rfl⟩
  · exact .inl ⟨_, _, _, _, rfl, rfl⟩
  · exact .inr ⟨_, _, rfl, rfl⟩
  · cases h

theorem abin_clo {op : BinOp} {x y v : Value} (h : abin op x y = some v) : cloS v = true := by
  unfold abin at h
  split at h
  · split at h <;> first | (cases h; done) | (injection h with h; subst h; rfl)
  · split at h <;> first | (cases h; done) | (injection h with h; subst h; rfl)
  · split at h
    · cases op <;> simp only [binInt] at h <;> first | (injection h with h; subst h; rfl) | (split at h <;> first | (cases h; done) | (injection h with h; subst h; rfl)) | (cases h)
    · cases h
  · cases op <;> simp only [binStr] at h <;> first | (injection h with h; subst h; rfl) | (split at h <;> first | (cases h; done) | (injection h with h; subst h; rfl)) | (cases h)
  · cases h

theorem s_bin {op : BinOp} {t u : TypeId} {x y : Operand} {x' y' : Od} {call : (CallF H)} (ho : o.op = .binOp op t x y u) (hx : cod n x = some x') (hy : cod n y = some y')
    (hH : HRel M σ w) (hE : ERel n M τ a.tmps) (h : opBin op x' y' call τ σ = some (v, σ')) : Did P o a w M σ v σ' := by
  have hrx := cod_rel hE hx
  have hry := cod_rel hE hy
  obtain ⟨hb, rfl⟩ := pureR_some (show pureR σ (abin op (ev x' τ) (ev y' τ)) = some (v, σ') from h)
  have e : a.eval x = ev x' τ ∧ a.eval y = ev y' τ := by
    rcases abin_shape hb with ⟨k, p, k', q, e1, e2⟩ | ⟨p, q, e1, e2⟩
    · rw [e1] at hrx; rw [e2] at hry; exact ⟨by rw [e1]; exact hrx.int_inv, by rw [e2]; exact hry.int_inv⟩
    · rw [e1] at hrx; rw [e2] at hry; exact ⟨by rw [e1]; exact hrx.string_inv, by rw [e2]; exact hry.string_inv⟩
  refine Did.pure hH (v' := v) ?_ (.sc (abin_clo hb))
  have hg : eqGuard op t x y (ev x' τ) (ev y' τ) = pure () := by
    rcases abin_shape hb with ⟨k, p, k', q, e1, e2⟩ | ⟨p, q, e1, e2⟩
    · rw [e1]; exact eqGuard_at_int ..
    · rw [e1]; exact eqGuard_at_string ..
  simp [execOp, ho, e.1, e.2, hg, intBin_run hb]

theorem s_un {op : UnOp} {t : TypeId} {x : Operand} {x' : Od} {call : (CallF H)} (ho : o.op = .unOp op t x) (hx : cod n x = some x')
    (hH : HRel M σ w) (hE : ERel n M τ a.tmps) (h : opUn op x' call τ σ = some (v, σ')) : Did P o a w M σ v σ' := by
  have hrx := cod_rel hE hx
  obtain ⟨hb, rfl⟩ := pureR_some (show pureR σ (aun op (ev x' τ)) = some (v, σ') from h)
  unfold aun at hb
  split at hb
  · rename_i k m e
    rw [e] at hrx
    injection hb with hb; subst hb
    refine Did.pure hH ?_ (.sc rfl)
    simp [execOp, ho, hrx.int_inv, Op.unary, Op.intArith]
  · rename_i b e
    rw [e] at hrx
    injection hb with hb; subst hb
    refine Did.pure hH ?_ (.sc rfl)
    simp [execOp, ho, hrx.bool_inv, Op.unary]
  · cases hb

theorem s_conv {s d : TypeId} {k : IntKind} {x : Operand} {x' : Od} {ds : TypeDesc} {call : (CallF H)} (ho : o.op = .convert s d x) (hs : P.underlying s = some ds) (hd : P.underlying d = some (.int k)) (hx : cod n x = some x')
    (hH : HRel M σ w) (hE : ERel n M τ a.tmps) (h : opConv k x' call τ σ = some (v, σ')) : Did P o a w M σ v σ' := by
  have hrx := cod_rel hE hx
  unfold opConv at h
  split at h
  · rename_i k' m e
    rw [e] at hrx
    obtain ⟨rfl, rfl⟩ := some_inj2 h
    refine Did.pure hH ?_ (.sc rfl)
    simp [execOp, ho, hrx.int_inv, convert, run_underlying hs, run_underlying hd, Conv.intToInt]
  · cases h

theorem s_func {f : FuncId} {xs ys : Array Operand} {xs' ys' : List Od} {call : (CallF H)} (ho : o.op = .makeFunc (.func f) xs ys) (hx : cods n xs.toList = some xs') (hy : cods n ys.toList = some ys')
    (hH : HRel M σ w) (hE : ERel n M τ a.tmps) (h : opFunc f xs' ys' call τ σ = some (v, σ')) : Did P o a w M σ v σ' := by
  obtain ⟨rfl, rfl⟩ := some_inj2 h
  refine Did.pure hH (v' := .func (.func f) (xs.map a.eval) (ys.map a.eval)) ?_ (.func ?_ ?_)
  · simp [execOp, ho, Instr.makeFunc]
  · simpa using cods_rel hE hx
  · simpa using cods_rel hE hy

theorem s_fieldAddr {t : TypeId} {x : Operand} {x' : Od} {i : Nat} {fs : Array Field} {f : Field} {s : Nat} {call : (CallF H)} (ho : o.op = .fieldAddr t x i) (ht : P.underlying t = some (.struct fs))
    (hf : fs[i]? = some f) (hs : szOf P f.type = some s) (hs0 : 0 < s) (hx : cod n x = some x')
    (hH : HRel M σ w) (hE : ERel n M τ a.tmps) (h : opFieldAddr f.offset x' call τ σ = some (v, σ')) : Did P o a w M σ v σ' := by
  have hr := cod_rel hE hx
  unfold opFieldAddr at h
  split at h
  · rename_i p hv
    rw [hv] at hr
    obtain ⟨rfl, rfl⟩ := some_inj2 h
    obtain ⟨b, off, sp⟩ := p
    obtain ⟨rfl, B, O, xx, hM, hax⟩ := hr.ptr_inv
    refine Did.pure hH (v' := .pointer (some ⟨B, O + (off + f.offset), none⟩)) ?_ (.ptr hM)
    have h0 : ¬ s = 0 := by omega
    simp [execOp, ho, Instr.fieldAt, run_underlying ht, hf, hax, Instr.sureAddr, fieldPlace, szOf_run hs, h0, Addr.add_lit, Nat.add_assoc]
  · cases h

/-- a part of an aggregate in hand -/
theorem mkv_part {g : Bool} {s off : Nat} {t : TypeId} {cs : List Value} {c : Array Value} {r : Value}
    (hg : aggOf P t = some g) (hs : szOf P t = some s) (hc : All2 (VRel M) cs c.toList) (h : mkv g s cs off = some r) (w : World) :
    ∃ r', (part t c off).run P w = .ok r' w ∧ VRel M r r' := by
  cases g with
  | false =>
    have h' : one cs off = some r := h
    rw [one_eq] at h'
    obtain ⟨r', hr', hv⟩ := hc.get off r h'
    refine ⟨r', ?_, hv⟩
    have : c[off]? = some r' := by simpa using hr'
    simp [part, aggOf_run hg, this]
  | true =>
    have h' : (Option.rec none (fun l => some (.agg ⟨l⟩)) (get cs s off) : Option Value) = some r := h
    cases hq : get cs s off with
    | none => rw [hq] at h'; cases h'
    | some l =>
      rw [hq] at h'
      injection h' with h'
      obtain ⟨hl, hl2⟩ := get_some cs s off l hq
      have hlen := hc.length
      refine ⟨.agg (c.extract off (off + s)), ?_, ?_⟩
      · simp [part, aggOf_run hg, szOf_run hs]
      · subst h'
        refine .agg (All2.of_get ?_ fun i u hi => ?_)
        · subst hl2; simp at hlen ⊢; omega
        · subst hl2
          simp only [List.getElem?_take, List.getElem?_drop] at hi
          split at hi
          · rename_i his
            obtain ⟨u', hu', hr⟩ := hc.get _ u hi
            refine ⟨u', ?_, hr⟩
            simp only [Array.toList_extract, List.extract_eq_take_drop, List.getElem?_take, List.getElem?_drop]
            rw [if_pos (by omega)]; exact hu'
          · cases hi

theorem s_field {t : TypeId} {x : Operand} {x' : Od} {i : Nat} {fs : Array Field} {f : Field} {s : Nat} {g : Bool} {call : (CallF H)} (ho : o.op = .field t x i) (ht : P.underlying t = some (.struct fs))
    (hf : fs[i]? = some f) (hs : szOf P f.type = some s) (hg : aggOf P f.type = some g) (hx : cod n x = some x')
    (hH : HRel M σ w) (hE : ERel n M τ a.tmps) (h : opField g s f.offset x' call τ σ = some (v, σ')) : Did P o a w M σ v σ' := by
  have hr := cod_rel hE hx
  unfold opField at h
  split at h
  · rename_i cs hv
    rw [hv] at hr
    obtain ⟨hm, rfl⟩ := pureR_some h
    obtain ⟨cs', hax, hcs⟩ := hr.agg_inv
    obtain ⟨r', hrun, hvr⟩ := mkv_part hg hs hcs hm w
    refine Did.pure hH (v' := r') ?_ hvr
    simp [execOp, ho, Instr.field, run_underlying ht, hf, hax, asAgg, hrun]
  · cases h

theorem VRel.slice_inv {p : Addr} {l c : Nat} {v' : Value} (h : VRel M (.slice (some p) l c) v') :
    (∃ p' c', v' = .slice (some p') l c') ∧ (l ≠ 0 → ∃ B O x, M p.block = some (B, O, x) ∧ ∃ c', v' = .slice (some ⟨B, O + p.off, none⟩) l c') := by
  cases h with
  | sc h => simp [cloS] at h
  | slE h => exact ⟨⟨_, _, rfl⟩, fun _ => ⟨_, _, _, h, _, rfl⟩⟩
  | slL h => exact ⟨⟨_, _, rfl⟩, fun _ => ⟨_, _, _, h, _, rfl⟩⟩
  | slU => exact ⟨⟨_, _, rfl⟩, fun h => absurd rfl h⟩

theorem s_indexAddr {t e : TypeId} {x i : Operand} {x' i' : Od} {s : Nat} {call : (CallF H)} (ho : o.op = .indexAddr t x i) (ht : P.underlying t = some (.slice e)) (hs : szOf P e = some s) (hx : cod n x = some x') (hi : cod n i = some i')
    (hH : HRel M σ w) (hE : ERel n M τ a.tmps) (h : opIndexAddr s x' i' call τ σ = some (v, σ')) : Did P o a w M σ v σ' := by
  have hrx := cod_rel hE hx
  have hri := cod_rel hE hi
  unfold opIndexAddr at h
  split at h
  · rename_i p len c k m hvx hvi
    rw [hvx] at hrx; rw [hvi] at hri
    split at h
    · rename_i hb
      obtain ⟨rfl, rfl⟩ := some_inj2 h
      obtain ⟨_, hsl⟩ := hrx.slice_inv
      obtain ⟨B, O, xx, hM, c', hax⟩ := hsl (by omega)
      refine Did.pure hH (v' := .pointer (some ⟨B, O + (p.off + m.toNat * s), none⟩)) ?_ (.ptr hM)
      simp [execOp, ho, Instr.indexAt, asIntOf, hri.int_inv, run_underlying ht, hax, hb, szOf_run hs, Addr.add_lit, Nat.add_assoc]
    · cases h
  · cases h

theorem s_indexArr {t e : TypeId} {x i : Operand} {x' i' : Od} {l s : Nat} {call : (CallF H)} (ho : o.op = .indexAddr t x i) (ht : P.underlying t = some (.array l e)) (hs : szOf P e = some s) (hx : cod n x = some x') (hi : cod n i = some i')
    (hH : HRel M σ w) (hE : ERel n M τ a.tmps) (h : opIndexArr l s x' i' call τ σ = some (v, σ')) : Did P o a w M σ v σ' := by
  have hrx := cod_rel hE hx
  have hri := cod_rel hE hi
  unfold opIndexArr at h
  split at h
  · rename_i p k m hvx hvi
    rw [hvx] at hrx; rw [hvi] at hri
    split at h
    · rename_i hb
      obtain ⟨rfl, rfl⟩ := some_inj2 h
      obtain ⟨b, off, sp⟩ := p
      obtain ⟨rfl, B, O, xx, hM, hax⟩ := hrx.ptr_inv
      refine Did.pure hH (v' := .pointer (some ⟨B, O + (off + m.toNat * s), none⟩)) ?_ (.ptr hM)
      simp [execOp, ho, Instr.indexAt, asIntOf, hri.int_inv, run_underlying ht, hax, Instr.sureAddr, hb, szOf_run hs, Addr.add_lit, Nat.add_assoc]
    · cases h
  · cases h

theorem s_index {t e : TypeId} {x i : Operand} {x' i' : Od} {l s : Nat} {g : Bool} {call : (CallF H)} (ho : o.op = .index t x i) (ht : P.underlying t = some (.array l e)) (hs : szOf P e = some s) (hg : aggOf P e = some g) (hx : cod n x = some x') (hi : cod n i = some i')
    (hH : HRel M σ w) (hE : ERel n M τ a.tmps) (h : opIndex g l s x' i' call τ σ = some (v, σ')) : Did P o a w M σ v σ' := by
  have hrx := cod_rel hE hx
  have hri := cod_rel hE hi
  unfold opIndex at h
  split at h
  · rename_i cs k m hvx hvi
    rw [hvx] at hrx; rw [hvi] at hri
    split at h
    · rename_i hb
      obtain ⟨hm, rfl⟩ := pureR_some h
      obtain ⟨cs', hax, hcs⟩ := hrx.agg_inv
      obtain ⟨r', hrun, hvr⟩ := mkv_part hg hs hcs hm w
      refine Did.pure hH (v' := r') ?_ hvr
      simp [execOp, ho, Instr.index, asIntOf, hri.int_inv, run_underlying ht, hax, hb, szOf_run hs, hrun]
    · cases h
  · cases h

theorem s_extract {x : Operand} {x' : Od} {i : Nat} {call : (CallF H)} (ho : o.op = .extract x i) (hx : cod n x = some x')
    (hH : HRel M σ w) (hE : ERel n M τ a.tmps) (h : opExtract x' i call τ σ = some (v, σ')) : Did P o a w M σ v σ' := by
  have hr := cod_rel hE hx
  unfold opExtract at h
  split at h
  · rename_i vs hv
    rw [hv] at hr
    obtain ⟨hm, rfl⟩ := pureR_some h
    rw [one_eq] at hm
    obtain ⟨vs', hax, hvs⟩ := hr.tuple_inv
    obtain ⟨r', hr', hvr⟩ := hvs.get i v hm
    have : vs'[i]? = some r' := by simpa using hr'
    refine Did.pure hH (v' := r') ?_ hvr
    simp [execOp, ho, Instr.extract, hax, this]
  · cases h

end Go.Ax

namespace Go.Ax
open Go
variable {H : HeapI}

variable {P : Program} {n : Nat} {M : Mp} {σ σ' : (St H)} {w : World} {a : Act} {τ : Env} {o : Oper} {v : Value}

theorem All2.take {α β : Type} {r : α → β → Prop} : ∀ {as : List α} {bs : List β} (k : Nat), All2 r as bs → All2 r (as.take k) (bs.take k)
  | _, _, 0, _ => by simpa using All2.nil
  | _, _, _ + 1, .nil => by simpa using All2.nil
  | _, _, k + 1, .cons x y => by simpa using All2.cons x (All2.take k y)
theorem All2.drop {α β : Type} {r : α → β → Prop} : ∀ {as : List α} {bs : List β} (k : Nat), All2 r as bs → All2 r (as.drop k) (bs.drop k)
  | _, _, 0, h => by simpa using h
  | _, _, _ + 1, .nil => by simpa using All2.nil
  | _, _, k + 1, .cons _ y => by simpa using All2.drop k y

theorem fold_set (off : Nat) : ∀ (vs : List Value) (k : Nat) (cs : Array Value), off + k + vs.length ≤ cs.size →
    ((vs.zipIdx k).foldl (fun (cs : Array Value) (p : Value × Nat) => cs.setIfInBounds (off + p.2) p.1) cs).toList = cs.toList.take (off + k) ++ vs ++ cs.toList.drop (off + k + vs.length)
  | [], k, cs, _ => by simp
  | v :: vs, k, cs, h => by
    simp only [List.zipIdx_cons, List.foldl_cons]
    rw [fold_set off vs (k + 1) _ (by simp at h ⊢; omega)]
    have e := list_seg_step cs.toList (off + k) v vs (by simp at h ⊢; omega)
    simpa [Array.toList_setIfInBounds, Nat.add_assoc] using e

theorem putAll_cons (p : Nat × Nat × Od) (ps : List (Nat × Nat × Od)) (cs r : List Value) (h : putAll (p :: ps) τ cs = some r) :
    (ev p.2.2 τ).cells.toList.length = p.2.1 ∧ ∃ cs', put (ev p.2.2 τ).cells.toList cs p.1 = some cs' ∧ putAll ps τ cs' = some r := by
  have h' : (Bool.rec none (Option.rec none (putAll ps τ) (put (ev p.2.2 τ).cells.toList cs p.1)) (Nat.beq (ev p.2.2 τ).cells.toList.length p.2.1) : Option (List Value)) = some r := h
  cases hb : Nat.beq (ev p.2.2 τ).cells.toList.length p.2.1 with
  | false => rw [hb] at h'; cases h'
  | true =>
    rw [hb] at h'
    cases hp : put (ev p.2.2 τ).cells.toList cs p.1 with
    | none => rw [hp] at h'; cases h'
    | some cs' => rw [hp] at h'; exact ⟨Nat.eq_of_beq_eq_true hb, cs', rfl, h'⟩

theorem fill_rel {place : Nat → Option (Nat × Nat)} (hE : ERel n M τ a.tmps) : ∀ (ps : List (Nat × Operand)) (ps' : List (Nat × Nat × Od)) (cs r : List Value) (cs' : Array Value),
    cparts n place ps = some ps' → All2 (VRel M) cs cs'.toList → putAll ps' τ cs = some r →
    ∃ r', Instr.fill place cs' (ps.map fun p => (p.1, a.eval p.2)) = some r' ∧ All2 (VRel M) r r'.toList
  | [], ps', cs, r, cs', hc, hcs, h => by
    injection hc with hc; subst hc
    injection h with h; subst h
    exact ⟨cs', rfl, hcs⟩
  | (i, x) :: ps, ps', cs, r, cs', hc, hcs, h => by
    simp only [cparts, Option.bind_eq_some_iff] at hc
    obtain ⟨⟨off, s⟩, hpl, y, hy, ps'', hps, e⟩ := hc
    injection e with e; subst e
    obtain ⟨hl, cs₁, hput, hrest⟩ := putAll_cons _ _ _ _ h
    simp only at hl hput
    obtain ⟨hfit, _, hcs₁⟩ := put_some _ _ _ _ hput
    have hv := cod_rel hE hy
    have hcl := cells_rel hv
    have hsz : (a.eval x).cells.size = s := by rw [cells_size_rel hv, hl]
    have hlen := hcs.length
    have hfit' : off + (a.eval x).cells.size ≤ cs'.size := by rw [hsz, ← hl]; simp at hlen; omega
    let c₁ := (a.eval x).cells.zipIdx.foldl (fun (cs : Array Value) (p : Value × Nat) => cs.setIfInBounds (off + p.2) p.1) cs'
    have hc₁ : c₁.toList = cs'.toList.take off ++ (a.eval x).cells.toList ++ cs'.toList.drop (off + (a.eval x).cells.toList.length) := by
      have := fold_set off (a.eval x).cells.toList 0 cs' (by simpa using hfit')
      simp only [Nat.add_zero] at this
      rw [← this]
      show (Array.foldl _ cs' ((a.eval x).cells.zipIdx)).toList = _
      rw [← Array.foldl_toList]
      simp
    have hrel : All2 (VRel M) cs₁ c₁.toList := by
      rw [hc₁, hcs₁, hcl.length]
      exact ((hcs.take _).append hcl).append (hcs.drop _)
    obtain ⟨r', hr', hrr⟩ := fill_rel hE ps ps'' cs₁ r c₁ hps hrel hrest
    refine ⟨r', ?_, hrr⟩
    simp only [List.map_cons, Instr.fill, hpl]
    have hcond : ((a.eval x).cells.size ≠ s || off + (a.eval x).cells.size > cs'.size) = false := by
      simp [hsz]; rw [← hsz]; exact hfit'
    rw [if_neg (by rw [hcond]; simp)]
    exact hr'

theorem places_run : ∀ (fs : List Field) (pl : List (Nat × Nat)), places P fs = some pl → ∀ w, (fs.mapM fun f => do pure (f.offset, ← sizeOf f.type) : Sem (List (Nat × Nat))).run P w = .ok pl w
  | [], pl, h, w => by injection h with h; subst h; simp
  | f :: fs, pl, h, w => by
    simp only [places, Option.bind_eq_some_iff] at h
    obtain ⟨s, hs, r, hr, e⟩ := h
    injection e with e; subst e
    have ih := places_run fs r hr w
    simp only [List.mapM_cons, Sem.run_bind, szOf_run hs, Result.andThen_ok, Sem.run_pure, ih]

theorem arr_mapM {α β : Type} (f : α → Sem β) (xs : Array α) (r : List β) (w : World) (h : (xs.toList.mapM f).run P w = .ok r w) : (xs.mapM f).run P w = .ok r.toArray w := by
  rw [Array.mapM_eq_mapM_toList]
  simp [h]

theorem s_build_struct {t : TypeId} {ps : Array (Nat × Operand)} {ps' : List (Nat × Nat × Od)} {fs : Array Field} {pl : List (Nat × Nat)} {z : Value} {call : (CallF H)} (ho : o.op = .build t ps)
    (hz : zOf P t = some z) (ht : P.underlying t = some (.struct fs)) (hpl : places P fs.toList = some pl) (hc : cparts n (pl[·]?) ps.toList = some ps')
    (hH : HRel M σ w) (hE : ERel n M τ a.tmps) (h : opBuild z.cells.toList ps' call τ σ = some (v, σ')) : Did P o a w M σ v σ' := by
  have h' : (Option.rec none (fun cs => some (.agg ⟨cs⟩, σ)) (putAll ps' τ z.cells.toList) : (R H)) = some (v, σ') := h
  cases hp : putAll ps' τ z.cells.toList with
  | none => rw [hp] at h'; cases h'
  | some r =>
    rw [hp] at h'
    obtain ⟨rfl, rfl⟩ := some_inj2 h'
    obtain ⟨hzc, hzr⟩ := zOf_run hz
    obtain ⟨r', hr', hrr⟩ := fill_rel (place := (pl[·]?)) hE ps.toList ps' z.cells.toList r z.cells hc (cells_rel (clo_rel M z hzc)) hp
    refine Did.pure hH (v' := .agg r') ?_ (.agg hrr)
    have hm := arr_mapM (P := P) (fun f => do pure (f.offset, ← sizeOf f.type)) fs pl w (places_run _ _ hpl w)
    simp only [execOp, ho, Instr.build, Sem.run_bind, hzr, Result.andThen_ok, run_underlying ht, hm]
    simp
    rw [hr']
    simp

theorem s_build_arr {t e : TypeId} {l : Nat} {ps : Array (Nat × Operand)} {ps' : List (Nat × Nat × Od)} {s : Nat} {z : Value} {call : (CallF H)} (ho : o.op = .build t ps)
    (hz : zOf P t = some z) (ht : P.underlying t = some (.array l e)) (hs : szOf P e = some s) (hc : cparts n (fun i => some (i * s, s)) ps.toList = some ps')
    (hH : HRel M σ w) (hE : ERel n M τ a.tmps) (h : opBuild z.cells.toList ps' call τ σ = some (v, σ')) : Did P o a w M σ v σ' := by
  have h' : (Option.rec none (fun cs => some (.agg ⟨cs⟩, σ)) (putAll ps' τ z.cells.toList) : (R H)) = some (v, σ') := h
  cases hp : putAll ps' τ z.cells.toList with
  | none => rw [hp] at h'; cases h'
  | some r =>
    rw [hp] at h'
    obtain ⟨rfl, rfl⟩ := some_inj2 h'
    obtain ⟨hzc, hzr⟩ := zOf_run hz
    obtain ⟨r', hr', hrr⟩ := fill_rel (place := fun i => some (i * s, s)) hE ps.toList ps' z.cells.toList r z.cells hc (cells_rel (clo_rel M z hzc)) hp
    refine Did.pure hH (v' := .agg r') ?_ (.agg hrr)
    simp only [execOp, ho, Instr.build, Sem.run_bind, hzr, Result.andThen_ok, run_underlying ht, szOf_run hs]
    simp
    rw [hr']
    simp

/-- n copies of a zero, as the model writes them -/
theorem rep_cells (z : Value) (hz : 0 < z.cells.toList.length) (l : Nat) :
    ((Array.range (l * z.cells.toList.length)).map (fun i => z.cells[i % z.cells.size]!)).toList = rep z.cells.toList l := by
  apply List.ext_getElem?
  intro i
  by_cases hi : i < l * z.cells.toList.length
  · rw [rep_get z.cells.toList hz l i hi]
    have hm : i % z.cells.toList.length < z.cells.toList.length := Nat.mod_lt _ hz
    have e : z.cells.size = z.cells.toList.length := by simp
    simp only [Array.toList_map, List.getElem?_map, Array.toList_range, List.getElem?_range hi, Option.map_some, e]
    rw [List.getElem?_eq_getElem hm]
    congr 1
    rw [getElem!_pos z.cells _ (by rw [e]; exact hm)]
    simp
  · rw [List.getElem?_eq_none (by simp at hi ⊢; omega), List.getElem?_eq_none (by rw [rep_length]; omega)]

theorem cloL_rep {z : List Value} (h : cloL z = true) : ∀ l, cloL (rep z l) = true
  | 0 => rfl
  | l + 1 => by
    have : ∀ (x y : List Value), cloL x = true → cloL y = true → cloL (x ++ y) = true := by
      intro x
      induction x with
      | nil => intro y _ h; exact h
      | cons u x ih => intro y h1 h2; simp only [cloL, Bool.and_eq_true, List.cons_append] at *; exact ⟨h1.1, ih y h1.2 h2⟩
    exact this _ _ h (cloL_rep h l)

theorem clo_cells {z : Value} (h : clo z = true) : All2 (VRel M) z.cells.toList z.cells.toList := cells_rel (clo_rel M z h)

theorem All2.rep {z z' : List Value} (h : All2 (VRel M) z z') : ∀ l, All2 (VRel M) (Ax.rep z l) (Ax.rep z' l)
  | 0 => .nil
  | l + 1 => h.append (All2.rep h l)

theorem s_buildSlice {t e : TypeId} {l : Nat} {ps : Array (Nat × Operand)} {ps' : List (Nat × Nat × Od)} {s : Nat} {z : Value} {call : (CallF H)} (ho : o.op = .buildSlice t l ps)
    (ht : P.underlying t = some (.slice e)) (hs : szOf P e = some s) (hz : zOf P e = some z) (hzs : z.cells.toList.length = s) (hs0 : 0 < s) (hbig : l * s ≤ 65536)
    (hc : cparts n (fun i => some (i * s, s)) ps.toList = some ps')
    (hH : HRel M σ w) (hE : ERel n M τ a.tmps) (fr : Fresh M σ σ') (h : opBuildSlice l (rep z.cells.toList l) ps' call τ σ = some (v, σ')) : Did P o a w M σ v σ' := by
  have h' : (Option.rec none (fun cs => fresh σ (.cells cs false 1) fun b => .slice (some ⟨b, 0, none⟩) l l) (putAll ps' τ (rep z.cells.toList l)) : (R H)) = some (v, σ') := h
  cases hp : putAll ps' τ (rep z.cells.toList l) with
  | none => rw [hp] at h'; cases h'
  | some r =>
    rw [hp] at h'
    obtain ⟨hzc, hzr⟩ := zOf_run hz
    let z0 : Array Value := (Array.range (l * s)).map (fun i => z.cells[i % z.cells.size]!)
    have hz0 : z0.toList = rep z.cells.toList l := by have := rep_cells z (by omega) l; rw [hzs] at this; exact this
    obtain ⟨r', hr', hrr⟩ := fill_rel (place := fun i => some (i * s, s)) hE ps.toList ps' _ r z0 hc (by rw [hz0]; exact (clo_cells hzc).rep l) hp
    refine did_fresh_cells (c := r') (t := e) (f := fun b => .slice (some ⟨b, 0, none⟩) l l) (g := fun B => .slice (some ⟨B, 0, none⟩) l l) hH fr h' hrr ?_ fun M' b B hb => by
      have := VRel.slE (o := 0) (l := l) (c := l) hb; simpa using this
    have hbig' : ¬ l * s > 2 ^ 24 := by omega
    have hr2 : Instr.fill (fun i => some (i * s, s)) z0 (ps.map fun p => (p.1, a.eval p.2)).toList = some r' := by simpa using hr'
    have hrun : (Instr.buildSlice t l (ps.map fun p => (p.1, a.eval p.2))).run P w = .ok (.slice (some ⟨w.heap.size, 0, none⟩) l l) (w.alloc (.cells r' e)) := by
      simp only [Instr.buildSlice, Sem.run_bind, run_underlying ht, szOf_run hs, Result.andThen_ok, if_neg hbig', Sem.run_ite, hzr, Sem.run_pure]
      by_cases hl : l * s = 0
      · have e0 : (Array.map (fun x => (#[] : Array Value)[x % (#[] : Array Value).size]!) (Array.range (l * s))) = z0 := by simp [z0, hl]
        rw [if_pos hl, e0, hr2]
        simp [newRow]
      · rw [if_neg hl]
        show Sem.run P (match Instr.fill (fun i => some (i * s, s)) z0 _ with | some cells => _ | x => _) w = _
        rw [hr2]
        simp [newRow]
    simp only [execOp, ho, Sem.run_bind]
    simp only [hrun, Result.andThen_ok, Sem.run_pure]

theorem s_mkMap {t : TypeId} {r : Option Operand} {call : (CallF H)} (ho : o.op = .makeMap t r) (hr : r = none ∨ ∃ k m kt e, r = some (.const (.int k m)) ∧ P.underlying t = some (.map kt e))
    (hH : HRel M σ w) (fr : Fresh M σ σ') (h : opMkMap call τ σ = some (v, σ')) : Did P o a w M σ v σ' := by
  obtain ⟨M', rfl, hM, hg⟩ := fresh_goes hH (show fresh σ (.map [] 0) (fun b => .map (some b)) = some (v, σ') from h) fr (.map #[] 0) 0
    (fun M' _ => .map (by show (w.heap.push _)[w.heap.size]? = _; simp) .nil)
  refine ⟨M', .map (some w.heap.size), _, .inl ?_, .map hM, hg⟩
  rcases hr with rfl | ⟨k, m, kt, e, rfl, ht⟩
  · simp [execOp, ho, Instr.makeMap]
  · simp [execOp, ho, Instr.makeMap, run_underlying ht, Act.eval, asInt, asIntOf]

theorem byOf_run {t : TypeId} {b : Nat} (h : byOf P t = some b) : ∃ i, P.info? t = some i ∧ i.bytes = b := by
  unfold byOf at h
  cases hi : P.info? t with
  | none => rw [hi] at h; cases h
  | some i => rw [hi] at h; injection h with h; exact ⟨i, rfl, h⟩

theorem s_mkChan {t e : TypeId} {d : ChanDir} {b : Nat} {x : Operand} {x' : Od} {call : (CallF H)} (ho : o.op = .makeChan t x) (ht : P.underlying t = some (.chan d e)) (hb : byOf P e = some b) (hx : cod n x = some x')
    (hH : HRel M σ w) (hE : ERel n M τ a.tmps) (fr : Fresh M σ σ') (h : opMkChan b x' call τ σ = some (v, σ')) : Did P o a w M σ v σ' := by
  have hrx := cod_rel hE hx
  unfold opMkChan at h
  split at h
  · rename_i k m hv
    rw [hv] at hrx
    split at h
    · rename_i hc
      obtain ⟨M', rfl, hM, hg⟩ := fresh_goes hH h fr (.chan m.toNat #[] false 0 0 false) 0 (fun M' _ => .chan (by show (w.heap.push _)[w.heap.size]? = _; simp) .nil)
      refine ⟨M', .chan (some w.heap.size), _, .inl ?_, .chan hM, hg⟩
      obtain ⟨i, hi, hib⟩ := byOf_run hb
      have hcond : ¬ (m < 0 ∨ m > IntKind.i64.max ∨ (i.bytes : Int) * m > 2 ^ 48 - 112) := by
        rw [IntKind.max_i64, hib, Int.mul_comm]; omega
      simp only [execOp, ho, Instr.makeChan, hrx.int_inv, asInt, asIntOf, run_underlying ht, typeInfo, Sem.run_bind, Sem.run_pure, Result.andThen_ok, run_program, hi, Sem.run_ite, if_neg hcond]
      simp
    · cases h
  · cases h

theorem wrap_small {m : Int} (h0 : 0 ≤ m) (h1 : m ≤ 2 ^ 40) : IntKind.i64.wrap m = m := by
  have e : IntKind.i64.wrap m = (if (true && decide (m % (2 ^ 64 : Int) ≥ (2 ^ 63 : Int))) = true then m % (2 ^ 64 : Int) - (2 ^ 64 : Int) else m % (2 ^ 64 : Int)) := rfl
  rw [e]
  have : m % (2 ^ 64 : Int) = m := Int.emod_eq_of_lt h0 (by omega)
  rw [this, if_neg (by simp; omega)]

theorem s_mkSlice {t e : TypeId} {b s : Nat} {x y : Operand} {x' y' : Od} {z : Value} {call : (CallF H)} (ho : o.op = .makeSlice t x y) (ht : P.underlying t = some (.slice e)) (hb : byOf P e = some b) (hs : szOf P e = some s)
    (hz : zOf P e = some z) (hzs : z.cells.toList.length = s) (hs0 : 0 < s) (hx : cod n x = some x') (hy : cod n y = some y')
    (hH : HRel M σ w) (hE : ERel n M τ a.tmps) (fr : Fresh M σ σ') (h : opMkSlice b z.cells.toList x' y' call τ σ = some (v, σ')) : Did P o a w M σ v σ' := by
  have hrx := cod_rel hE hx
  have hry := cod_rel hE hy
  unfold opMkSlice at h
  split at h
  · rename_i k l k' c hvx hvy
    rw [hvx] at hrx; rw [hvy] at hry
    split at h
    · rename_i hc
      obtain ⟨hzc, hzr⟩ := zOf_run hz
      obtain ⟨h1, h2, h3, h4⟩ := hc
      let z0 : Array Value := (Array.range (c.toNat * s)).map (fun i => z.cells[i % z.cells.size]!)
      have hz0 : z0.toList = rep z.cells.toList c.toNat := by have := rep_cells z (by omega) c.toNat; rw [hzs] at this; exact this
      refine did_fresh_cells (c := z0) (t := e) (f := fun b => .slice (some ⟨b, 0, none⟩) l.toNat c.toNat) (g := fun B => .slice (some ⟨B, 0, none⟩) l.toNat c.toNat) hH fr h (by rw [hz0]; exact (clo_cells hzc).rep _) ?_ fun M' b B hb => by
        have := VRel.slE (o := 0) (l := l.toNat) (c := c.toNat) hb; simpa using this
      obtain ⟨i, hi, hib⟩ := byOf_run hb
      have hl := wrap_small h1 (by omega)
      have hcw := wrap_small (m := c) (by omega) h4
      have hbc : ¬ ((c < 0 ∨ (i.bytes : Int) * c > 2 ^ 48)) := by rw [hib, Int.mul_comm]; omega
      have hguard : ¬ ((decide (c < 0) || decide ((i.bytes : Int) * c > 2 ^ 48) || decide (l < 0) || decide (l > c)) = true) := by
        simp only [Bool.or_eq_true, decide_eq_true_eq]
        rw [hib, Int.mul_comm]; omega
      have hrun : (Instr.makeSlice t (.int k l) (.int k' c)).run P w = .ok (.slice (some ⟨w.heap.size, 0, none⟩) l.toNat c.toNat) (w.alloc (.cells z0 e)) := by
        simp only [Instr.makeSlice, Sem.run_bind, run_underlying ht, szOf_run hs, Result.andThen_ok, Sem.run_ite, hzr, Sem.run_pure, asInt, asIntOf, typeInfo, run_program, hi, hl, hcw, if_neg hguard, run_askRoom]
        by_cases hl : c.toNat * s = 0
        · have e0 : (Array.map (fun x => (#[] : Array Value)[x % (#[] : Array Value).size]!) (Array.range (c.toNat * s))) = z0 := by simp [z0, hl]
          rw [if_pos hl, e0]
          simp [newRow]
        · rw [if_neg hl]
          simp [newRow, z0]
      simp only [execOp, ho, Sem.run_bind, hrx.int_inv, hry.int_inv]
      simp only [hrun, Result.andThen_ok, Sem.run_pure]
    · cases h
  · cases h

end Go.Ax

namespace Go.Ax
open Go
variable {H : HeapI}

variable {P : Program} {n : Nat} {M : Mp} {σ σ' : (St H)} {w : World} {a : Act} {τ : Env} {o : Oper} {v : Value}

theorem bound_run {x x' : Value} {y y' m : Nat} {c : BoundsCode} (h : bound x y = some m) (hr : VRel M x x') (hy : y ≤ y') (w : World) :
    (Instr.sliceBound x' y' c).run P w = .ok m w ∧ m ≤ y := by
  unfold bound at h
  split at h
  · rename_i k i
    split at h
    · rename_i hi
      injection h with h; subst h
      rw [hr.int_inv]
      have hi' : 0 ≤ i ∧ i ≤ (y' : Int) := ⟨hi.1, by omega⟩
      simp [Instr.sliceBound, asIntOf, hi']
      omega
    · cases h
  · cases h

/-- the optional operands of a slice expression -/
inductive ORel (M : Mp) : Option Value → Option Value → Prop
  | none : ORel M none none
  | some {x x'} : VRel M x x' → ORel M (some x) (some x')

theorem copt_rel (hE : ERel n M τ a.tmps) {x : Option Operand} {y : Option Od} (h : copt n x = some y) : ORel M (evo y τ) (x.map a.eval) := by
  cases x with
  | none => injection h with h; subst h; exact .none
  | some x =>
    simp only [copt] at h
    cases hc : cod n x with
    | none => rw [hc] at h; cases h
    | some z => rw [hc] at h; injection h with h; subst h; exact .some (cod_rel hE hc)

theorem bounds_run {len cap cap' l h m : Nat} {lo hi mx lo' hi' mx' : Option Value} {b : Bool} (hb : bounds len cap lo hi mx = some (l, h, m)) (h1 : ORel M lo lo') (h2 : ORel M hi hi') (h3 : ORel M mx mx')
    (hcap : cap ≤ cap') (w : World) :
    (Instr.sliceBounds b len cap' lo' hi' mx').run P w = .ok (l, h, if mx.isSome then m else cap') w ∧ l ≤ h ∧ h ≤ m ∧ m ≤ cap ∧ (mx.isSome = false → m = cap) := by
  unfold bounds at hb
  split at hb
  · cases hb
  · rename_i m₀ hm
    split at hb
    · cases hb
    · rename_i h₀ hh
      split at hb
      · cases hb
      · rename_i l₀ hl
        cases hble : Nat.ble h₀ m₀ with
        | false => rw [hble] at hb; cases hb
        | true =>
          rw [hble] at hb
          injection hb with hb; injection hb with e1 e2; injection e2 with e2 e3
          subst e1; subst e2; subst e3
          have hhm := Nat.le_of_ble_eq_true hble
          cases h3 with
          | none =>
            injection hm with hm; subst hm
            cases h2 with
            | none =>
              injection hh with hh; subst hh
              cases h1 with
              | none =>
                injection hl with hl; subst hl
                exact ⟨by simp [Instr.sliceBounds], Nat.zero_le _, hhm, Nat.le_refl _, fun _ => rfl⟩
              | some hr =>
                obtain ⟨q1, q2⟩ := bound_run (P := P) (c := .sliceB) hl hr (Nat.le_refl _) w
                exact ⟨by simp [Instr.sliceBounds, q1], q2, hhm, Nat.le_refl _, fun _ => rfl⟩
            | some hr2 =>
              obtain ⟨p1, p2⟩ := bound_run (P := P) (c := if b then .sliceAcap else .sliceAlen) hh hr2 hcap w
              cases h1 with
              | none =>
                injection hl with hl; subst hl
                exact ⟨by simp [Instr.sliceBounds, p1], Nat.zero_le _, hhm, Nat.le_refl _, fun _ => rfl⟩
              | some hr =>
                obtain ⟨q1, q2⟩ := bound_run (P := P) (c := .sliceB) hl hr (Nat.le_refl _) w
                exact ⟨by simp [Instr.sliceBounds, p1, q1], q2, hhm, Nat.le_refl _, fun _ => rfl⟩
          | some hr3 =>
            obtain ⟨m1, m2⟩ := bound_run (P := P) (c := if b then .slice3Acap else .slice3Alen) hm hr3 hcap w
            cases h2 with
            | none => cases hh
            | some hr2 =>
              obtain ⟨p1, p2⟩ := bound_run (P := P) (c := .slice3B) hh hr2 (Nat.le_refl _) w
              cases h1 with
              | none =>
                injection hl with hl; subst hl
                exact ⟨by simp [Instr.sliceBounds, p1, m1], Nat.zero_le _, hhm, m2, fun e => by simp at e⟩
              | some hr =>
                obtain ⟨q1, q2⟩ := bound_run (P := P) (c := .slice3C) hl hr (Nat.le_refl _) w
                exact ⟨by simp [Instr.sliceBounds, p1, q1, m1], q2, hhm, m2, fun e => by simp at e⟩

theorem evo_isSome {x : Option Operand} {y : Option Od} (h : copt n x = some y) : (evo y τ).isSome = y.isSome := by
  cases y <;> rfl

theorem s_slice {t e : TypeId} {x : Operand} {lo hi mx : Option Operand} {x' : Od} {lo' hi' mx' : Option Od} {s : Nat} {call : (CallF H)} (ho : o.op = .slice t x lo hi mx) (ht : P.underlying t = some (.slice e)) (hs : szOf P e = some s)
    (hx : cod n x = some x') (hlo : copt n lo = some lo') (hhi : copt n hi = some hi') (hmx : copt n mx = some mx')
    (hH : HRel M σ w) (hE : ERel n M τ a.tmps) (h : opSlice s x' lo' hi' mx' call τ σ = some (v, σ')) : Did P o a w M σ v σ' := by
  have hrx := cod_rel hE hx
  unfold opSlice at h
  split at h
  · rename_i p len cap hv
    rw [hv] at hrx
    split at h
    · rename_i l hh m hb
      obtain ⟨hsv, rfl⟩ := pureR_some h
      have r1 := copt_rel hE hlo
      have r2 := copt_rel hE hhi
      have r3 := copt_rel hE hmx
      have hsome : (evo mx' τ).isSome = mx'.isSome := evo_isSome (n := n) (x := mx) hmx
      have key : ∀ (p' : Option Addr) (cap' : Nat), cap ≤ cap' → a.eval x = .slice p' len cap' →
          (execOp a.eval o).run P w = .ok (.value (.slice (if (if mx'.isSome then m else cap') = l then p' else p'.map (·.add (l * s))) (hh - l) ((if mx'.isSome then m else cap') - l))) w := by
        intro p' cap' hc hax
        obtain ⟨hrun, _⟩ := bounds_run (P := P) (b := true) hb r1 r2 r3 hc w
        rw [hsome] at hrun
        simp only [execOp, ho, Instr.sliceAt, Sem.run_bind, run_underlying ht, Result.andThen_ok, hax, Instr.slice, hrun, szOf_run hs, Sem.run_pure]
      have hbd := (bounds_run (P := P) (b := true) hb r1 r2 r3 (Nat.le_refl cap) w).2
      rw [hsome] at hbd
      obtain ⟨hlh, hhm, hmc, hmn⟩ := hbd
      have hbl : ∀ x y : Nat, (bif Nat.beq x y then (0 : Nat) else 1) = if x = y then 0 else 1 := fun x y => by
        by_cases hxy : x = y
        · subst hxy; rw [beq_yes]; simp
        · rw [beq_no hxy, if_neg hxy]; rfl
      generalize hx2 : a.eval x = x2 at hrx
      cases hrx with
      | sc hq =>
        cases p with
        | some p => simp [cloS] at hq
        | none =>
          injection hsv with hsv; subst hsv
          refine Did.pure hH (key none cap (Nat.le_refl _) hx2) ?_
          have e : (if mx'.isSome then m else cap) = m := by split; · rfl
                                                             · rename_i hf; exact (hmn (by simpa using hf)).symm
          rw [e]
          have : (if m = l then (none : Option Addr) else Option.map (fun x => Addr.add x (l * s)) none) = none := by split <;> rfl
          rw [this]
          exact .sc rfl
      | slE hM =>
        rename_i b off B O xx
        injection hsv with hsv; subst hsv
        refine Did.pure hH (key _ cap (Nat.le_refl _) hx2) ?_
        have e : (if mx'.isSome then m else cap) = m := by split; · rfl
                                                           · rename_i hf; exact (hmn (by simpa using hf)).symm
        rw [e]
        by_cases hml : m = l
        · subst hml
          simp only [beq_yes, cond_true, if_true]
          exact .slE hM
        · simp only [beq_no hml, cond_false, if_neg hml, Option.map_some, Addr.add_lit, Nat.add_assoc]
          exact .slE hM
      | slL hM =>
        rename_i b off B O xx
        have hkey := key _ (cap + xx) (Nat.le_add_right _ _) hx2
        simp only [sliceV] at hsv
        cases hf : mx'.isSome with
        | true =>
          rw [hf] at hsv hkey
          simp only [cond_true] at hsv
          injection hsv with hsv; subst hsv
          refine Did.pure hH hkey ?_
          simp only [if_true]
          by_cases hml : m = l
          · subst hml
            simp only [beq_yes, cond_true, if_true]
            exact .slE hM
          · simp only [beq_no hml, cond_false, if_neg hml, Option.map_some, Addr.add_lit, Nat.add_assoc]
            exact .slE hM
        | false =>
          rw [hf] at hsv hkey
          simp only [cond_false] at hsv
          have hmc' := hmn hf
          subst hmc'
          by_cases hml : m = l
          · subst hml
            rw [beq_yes] at hsv
            by_cases hl0 : 0 < m
            · have : Nat.blt 0 m = true := Nat.ble_eq_true_of_le hl0
              rw [this] at hsv
              simp only [Bool.and_self, cond_true] at hsv
              injection hsv with hsv; subst hsv
              refine Did.pure hH hkey ?_
              simp only [Bool.false_eq_true, if_false]
              have e : hh - m = 0 := by omega
              rw [e]
              have : ∃ q, (if m + xx = m then some (⟨B, O + off, none⟩ : Addr) else Option.map (fun x => Addr.add x (m * s)) (some ⟨B, O + off, none⟩)) = some q := by
                split
                · exact ⟨_, rfl⟩
                · exact ⟨_, rfl⟩
              obtain ⟨q, hq⟩ := this
              rw [hq]
              exact .slU
            · have h0 : m = 0 := by omega
              subst h0
              have : Nat.blt 0 0 = false := rfl
              rw [this] at hsv
              simp only [Bool.and_false, cond_false] at hsv
              injection hsv with hsv; subst hsv
              refine Did.pure hH hkey ?_
              simp only [Bool.false_eq_true, if_false, Nat.zero_mul, Nat.add_zero, Nat.zero_add, Nat.sub_zero]
              have : (if xx = 0 then some (⟨B, O + off, none⟩ : Addr) else Option.map (fun x => Addr.add x 0) (some ⟨B, O + off, none⟩)) = some ⟨B, O + off, none⟩ := by
                split
                · rfl
                · simp [Addr.add]
              rw [this]
              have := VRel.slL (o := off) (l := hh) (c := 0) hM
              simpa using this
          · rw [beq_no hml] at hsv
            simp only [Bool.false_and, cond_false] at hsv
            injection hsv with hsv; subst hsv
            refine Did.pure hH hkey ?_
            simp only [Bool.false_eq_true, if_false]
            have hne : ¬ m + xx = l := by omega
            rw [if_neg hne, Option.map_some, Addr.add_lit, Nat.add_assoc, show m + xx - l = m - l + xx by omega]
            exact .slL hM
      | slU => simp [sliceV] at hsv
    · cases h
  · cases h

theorem s_sliceArr {t e : TypeId} {N : Nat} {x : Operand} {lo hi mx : Option Operand} {x' : Od} {lo' hi' mx' : Option Od} {s : Nat} {call : (CallF H)} (ho : o.op = .slice t x lo hi mx) (ht : P.underlying t = some (.array N e)) (hs : szOf P e = some s)
    (hx : cod n x = some x') (hlo : copt n lo = some lo') (hhi : copt n hi = some hi') (hmx : copt n mx = some mx')
    (hH : HRel M σ w) (hE : ERel n M τ a.tmps) (h : opSliceArr N s x' lo' hi' mx' call τ σ = some (v, σ')) : Did P o a w M σ v σ' := by
  have hrx := cod_rel hE hx
  unfold opSliceArr at h
  split at h
  · rename_i b off hv
    rw [hv] at hrx
    split at h
    · rename_i l hh m hb
      obtain ⟨rfl, rfl⟩ := some_inj2 h
      obtain ⟨_, B, O, xx, hM, hax⟩ := hrx.ptr_inv
      obtain ⟨hrun, hlh, hhm, hmc, hmn⟩ := bounds_run (P := P) (b := false) hb (copt_rel hE hlo) (copt_rel hE hhi) (copt_rel hE hmx) (Nat.le_refl N) w
      have hsome : (evo mx' τ).isSome = mx'.isSome := evo_isSome (n := n) (x := mx) hmx
      have e : (if (evo mx' τ).isSome then m else N) = m := by split; · rfl
                                                               · rename_i hf; exact (hmn (by simpa using hf)).symm
      rw [e] at hrun
      refine Did.pure hH (v' := .slice (some (if m = l then ⟨B, O + off, none⟩ else ⟨B, O + (off + l * s), none⟩)) (hh - l) (m - l)) ?_ ?_
      · simp only [execOp, ho, Instr.sliceAt, Sem.run_bind, run_underlying ht, Result.andThen_ok, hax, Instr.sureAddr, Sem.run_pure, hrun, szOf_run hs, Addr.add_lit, Nat.add_assoc]
      · by_cases hml : m = l
        · subst hml
          simp only [beq_yes, cond_true, if_true]
          exact .slE hM
        · simp only [beq_no hml, cond_false, if_neg hml]
          exact .slE hM
    · cases h
  · cases h

end Go.Ax

namespace Go.Ax
open Go
variable {H : HeapI}

variable {P : Program} {n : Nat} {M : Mp} {σ σ' : (St H)} {w : World} {a : Act} {τ : Env} {o : Oper} {v : Value}

theorem equal_succ (t : TypeId) (x y : Value) : Op.equal t x y = Op.equalIn (9999 + 1) t x y := rfl

theorem binOp_eq_other {t : TypeId} {x y : Value} (h : (∃ b, x = .bool b) ∨ (∃ p q, x = .pointer p ∧ y = .pointer q) ∨ (∃ p l c, x = .slice p l c) ∨ (∃ r, x = .map r) ∨ x = .nilFunc ∨ (∃ f p q, x = .func f p q) ∨ x = .nilIface ∨ (∃ cs, x = .agg cs)) :
    binOp .eql t x y = (do pure (.bool (← Op.equal t x y))) ∧ binOp .neq t x y = (do pure (.bool (!(← Op.equal t x y)))) := by
  rcases h with ⟨b, rfl⟩ | ⟨p, q, rfl, rfl⟩ | ⟨p, l, c, rfl⟩ | ⟨r, rfl⟩ | rfl | ⟨f, p, q, rfl⟩ | rfl | ⟨cs, rfl⟩ <;> first | exact ⟨rfl, rfl⟩ | (cases y <;> exact ⟨rfl, rfl⟩)

/-- a comparison that is no number's -/
theorem s_eq_of {neg : Bool} {t u : TypeId} {x y : Operand} {vx vy : Value} {b : Bool} (ho : o.op = .binOp (if neg then .neq else .eql) t x y u) (hx : a.eval x = vx) (hy : a.eval y = vy)
    (hg : eqGuard (if neg then .neq else .eql) t x y vx vy = pure () ∨ (eqGuard (if neg then .neq else .eql) t x y vx vy).run P w = .ok () w)
    (hs : (∃ b, vx = .bool b) ∨ (∃ p q, vx = .pointer p ∧ vy = .pointer q) ∨ (∃ p l c, vx = .slice p l c) ∨ (∃ r, vx = .map r) ∨ vx = .nilFunc ∨ (∃ f p q, vx = .func f p q) ∨ vx = .nilIface ∨ (∃ cs, vx = .agg cs))
    (he : (Op.equal t vx vy).run P w = .ok b w) (hH : HRel M σ w) : Did P o a w M σ (.bool (neg != b)) σ := by
  refine Did.pure hH (v' := .bool (neg != b)) ?_ (.sc rfl)
  obtain ⟨e1, e2⟩ := binOp_eq_other (t := t) (y := vy) hs
  have hg' : (eqGuard (if neg then .neq else .eql) t x y vx vy).run P w = .ok () w := by
    rcases hg with hg | hg
    · rw [hg]; rfl
    · exact hg
  cases neg with
  | false =>
    simp only [Bool.false_eq_true, if_false] at ho hg'
    simp only [execOp, ho, hx, hy, Sem.run_bind, hg', Result.andThen_ok, e1, he, Sem.run_pure]
    cases b <;> rfl
  | true =>
    simp only [if_true] at ho hg'
    simp only [execOp, ho, hx, hy, Sem.run_bind, hg', Result.andThen_ok, e2, he, Sem.run_pure]
    cases b <;> rfl

theorem VRel.nilp_inv {v' : Value} (h : VRel M (.pointer none) v') : v' = .pointer none := by cases h; rfl
theorem VRel.nils_inv {l c : Nat} {v' : Value} (h : VRel M (.slice none l c) v') : v' = .slice none l c := by cases h; rfl
theorem VRel.nilm_inv {v' : Value} (h : VRel M (.map none) v') : v' = .map none := by cases h; rfl
theorem VRel.nilc_inv {v' : Value} (h : VRel M (.chan none) v') : v' = .chan none := by cases h; rfl
theorem VRel.nilf_inv {v' : Value} (h : VRel M .nilFunc v') : v' = .nilFunc := by cases h; rfl
theorem VRel.nili_inv {v' : Value} (h : VRel M .nilIface v') : v' = .nilIface := by cases h; rfl
theorem VRel.pointer_inv {p : Option Addr} {v' : Value} (h : VRel M (.pointer p) v') : ∃ q : Option Addr, v' = .pointer q ∧ q.isNone = p.isNone := by
  cases h with
  | sc h => exact ⟨p, rfl, rfl⟩
  | ptr h => exact ⟨_, rfl, rfl⟩
theorem VRel.sl_inv {p : Option Addr} {l c : Nat} {v' : Value} (h : VRel M (.slice p l c) v') : ∃ (q : Option Addr) (c' : Nat), v' = .slice q l c' ∧ q.isNone = p.isNone := by
  cases h with
  | sc h => exact ⟨p, c, rfl, rfl⟩
  | slE h => exact ⟨_, _, rfl, rfl⟩
  | slL h => exact ⟨_, _, rfl, rfl⟩
  | slU => exact ⟨_, _, rfl, rfl⟩
theorem VRel.mp_inv {p : Option Nat} {v' : Value} (h : VRel M (.map p) v') : ∃ q : Option Nat, v' = .map q ∧ q.isNone = p.isNone := by
  cases h with
  | sc h => exact ⟨p, rfl, rfl⟩
  | map h => exact ⟨_, rfl, rfl⟩
theorem VRel.func_inv {f : Fn} {xs ys : Array Value} {v' : Value} (h : VRel M (.func f xs ys) v') : ∃ g xs' ys', f = .func g ∧ v' = .func (.func g) xs' ys' ∧ All2 (VRel M) xs.toList xs'.toList ∧ All2 (VRel M) ys.toList ys'.toList := by
  cases h with
  | sc h => simp [cloS] at h
  | func a b => exact ⟨_, _, _, rfl, rfl, a, b⟩

/-- a comparison's guard asks nothing of what is no aggregate and no nil interface value -/
theorem eqGuard_free (neg : Bool) (t : TypeId) (x y : Operand) {u : Value} (u' : Value) (h1 : ∀ cs, u ≠ .agg cs) (h2 : u ≠ .nilIface) : eqGuard (if neg then .neq else .eql) t x y u u' = pure () := by
  cases neg <;> cases u <;> first | rfl | (exact absurd rfl (h1 _)) | (exact absurd rfl h2)

section
variable {t : TypeId} (d : Nat) (w : World)
theorem eqIn_bool (hd : P.underlying t = some .bool) (p q : Bool) : (Op.equalIn (d + 1) t (.bool p) (.bool q)).run P w = .ok (p == q) w := by
  simp only [Op.equalIn, Sem.run_bind, run_underlying hd, Result.andThen_ok, Sem.run_pure]
theorem eqIn_nilp {e : TypeId} (hd : P.underlying t = some (.pointer e)) (q : Option Addr) : (Op.equalIn (d + 1) t (.pointer none) (.pointer q)).run P w = .ok q.isNone w := by
  simp only [Op.equalIn, Sem.run_bind, run_underlying hd, Result.andThen_ok, Sem.run_pure]
theorem eqIn_nilp2 {e : TypeId} (hd : P.underlying t = some (.pointer e)) (q : Addr) : (Op.equalIn (d + 1) t (.pointer (some q)) (.pointer none)).run P w = .ok false w := by
  simp only [Op.equalIn, Sem.run_bind, run_underlying hd, Result.andThen_ok, Sem.run_pure]
theorem eqIn_nils {e : TypeId} (hd : P.underlying t = some (.slice e)) (l c l' c' : Nat) (q : Option Addr) : (Op.equalIn (d + 1) t (.slice none l c) (.slice q l' c')).run P w = .ok q.isNone w := by
  simp only [Op.equalIn, Sem.run_bind, run_underlying hd, Result.andThen_ok, Sem.run_pure]
theorem eqIn_nils2 {e : TypeId} (hd : P.underlying t = some (.slice e)) (l c l' c' : Nat) (q : Addr) : (Op.equalIn (d + 1) t (.slice (some q) l c) (.slice none l' c')).run P w = .ok false w := by
  simp only [Op.equalIn, Sem.run_bind, run_underlying hd, Result.andThen_ok, Sem.run_pure]
theorem eqIn_nilm {k e : TypeId} (hd : P.underlying t = some (.map k e)) (q : Option Nat) : (Op.equalIn (d + 1) t (.map none) (.map q)).run P w = .ok q.isNone w := by
  simp only [Op.equalIn, Sem.run_bind, run_underlying hd, Result.andThen_ok, Sem.run_pure]
theorem eqIn_nilm2 {k e : TypeId} (hd : P.underlying t = some (.map k e)) (q : Nat) : (Op.equalIn (d + 1) t (.map (some q)) (.map none)).run P w = .ok false w := by
  simp only [Op.equalIn, Sem.run_bind, run_underlying hd, Result.andThen_ok, Sem.run_pure]
theorem eqIn_nilf {ps rs : Array TypeId} {b : Bool} (hd : P.underlying t = some (.func ps rs b)) : (Op.equalIn (d + 1) t .nilFunc .nilFunc).run P w = .ok true w := by
  simp only [Op.equalIn, Sem.run_bind, run_underlying hd, Result.andThen_ok, Sem.run_pure]
theorem eqIn_nilf2 {ps rs : Array TypeId} {b : Bool} (hd : P.underlying t = some (.func ps rs b)) (f : Fn) (x y : Array Value) : (Op.equalIn (d + 1) t (.func f x y) .nilFunc).run P w = .ok false w := by
  simp only [Op.equalIn, Sem.run_bind, run_underlying hd, Result.andThen_ok, Sem.run_pure]
theorem eqIn_nili {ms : Array (String × TypeId)} (hd : P.underlying t = some (.interface ms)) : (Op.equalIn (d + 1) t .nilIface .nilIface).run P w = .ok true w := by
  simp only [Op.equalIn, Sem.run_bind, run_underlying hd, Result.andThen_ok, Sem.run_pure]
end

theorem opEq_some {k : EqK} {neg : Bool} {x' y' : Od} {call : (CallF H)} (h : opEq k neg x' y' call τ σ = some (v, σ')) : ∃ b, aeq k (ev x' τ) (ev y' τ) = some b ∧ v = .bool (neg != b) ∧ σ' = σ := by
  have h' : (Option.rec none (fun b => some (.bool (neg != b), σ)) (aeq k (ev x' τ) (ev y' τ)) : (R H)) = some (v, σ') := h
  cases hq : aeq k (ev x' τ) (ev y' τ) with
  | none => rw [hq] at h'; cases h'
  | some b => rw [hq] at h'; obtain ⟨h1, h2⟩ := some_inj2 h'; exact ⟨b, rfl, h1.symm, h2.symm⟩

section
variable {neg : Bool} {t u : TypeId} {x y : Operand} {x' y' : Od} {call : (CallF H)} (ho : o.op = .binOp (if neg then .neq else .eql) t x y u) (hx : cod n x = some x') (hy : cod n y = some y') (hH : HRel M σ w) (hE : ERel n M τ a.tmps)
include ho hx hy hH hE

theorem s_eq_sc (hd : P.underlying t = some .bool) (h : opEq .sc neg x' y' call τ σ = some (v, σ')) : Did P o a w M σ v σ' := by
  obtain ⟨b, hq, rfl, rfl⟩ := opEq_some h
  have hrx := cod_rel hE hx
  have hry := cod_rel hE hy
  unfold aeq at hq
  split at hq <;> first | (rename_i e _ _; cases e; done) | (rename_i e _; cases e; done) | (cases hq; done) | skip
  rename_i p q e1 e2
  rw [e1] at hrx; rw [e2] at hry
  injection hq with hq; subst hq
  exact s_eq_of ho hrx.bool_inv hry.bool_inv (.inl (eqGuard_free neg t x y _ (by simp) (by simp))) (.inl ⟨_, rfl⟩) (by rw [equal_succ]; exact eqIn_bool _ _ hd _ _) hH

theorem s_eq_nilp {e : TypeId} (hd : P.underlying t = some (.pointer e)) (h : opEq .nilp neg x' y' call τ σ = some (v, σ')) : Did P o a w M σ v σ' := by
  obtain ⟨b, hq, rfl, rfl⟩ := opEq_some h
  have hrx := cod_rel hE hx
  have hry := cod_rel hE hy
  unfold aeq at hq
  split at hq <;> first | (rename_i e _ _; cases e; done) | (rename_i e _; cases e; done) | (cases hq; done) | skip
  · rename_i q e1 e2
    rw [e1] at hrx; rw [e2] at hry
    injection hq with hq; subst hq
    obtain ⟨q', hq', hn⟩ := hry.pointer_inv
    exact s_eq_of ho hrx.nilp_inv hq' (.inl (eqGuard_free neg t x y _ (by simp) (by simp))) (.inr (.inl ⟨_, _, rfl, rfl⟩)) (by rw [equal_succ, ← hn]; exact eqIn_nilp _ _ hd _) hH
  · rename_i q hne _ e1 e2
    rw [e1] at hrx; rw [e2] at hry
    injection hq with hq; subst hq
    obtain ⟨q', hq', hn⟩ := hrx.pointer_inv
    cases q' with
    | none =>
      cases q with
      | none => exact (hne rfl).elim
      | some _ => simp at hn
    | some q' => exact s_eq_of ho hq' hry.nilp_inv (.inl (eqGuard_free neg t x y _ (by simp) (by simp))) (.inr (.inl ⟨_, _, rfl, rfl⟩)) (by rw [equal_succ]; exact eqIn_nilp2 _ _ hd _) hH

theorem s_eq_nils {e : TypeId} (hd : P.underlying t = some (.slice e)) (h : opEq .nils neg x' y' call τ σ = some (v, σ')) : Did P o a w M σ v σ' := by
  obtain ⟨b, hq, rfl, rfl⟩ := opEq_some h
  have hrx := cod_rel hE hx
  have hry := cod_rel hE hy
  unfold aeq at hq
  split at hq <;> first | (rename_i e _ _; cases e; done) | (rename_i e _; cases e; done) | (cases hq; done) | skip
  · rename_i q _ _ e1 e2
    rw [e1] at hrx; rw [e2] at hry
    injection hq with hq; subst hq
    obtain ⟨q', c', hq', hn⟩ := hry.sl_inv
    exact s_eq_of ho hrx.nils_inv hq' (.inl (eqGuard_free neg t x y _ (by simp) (by simp))) (.inr (.inr (.inl ⟨_, _, _, rfl⟩))) (by rw [equal_succ, ← hn]; exact eqIn_nils _ _ hd _ _ _ _ _) hH
  · rename_i q _ _ _ _ hne _ e1 e2
    rw [e1] at hrx; rw [e2] at hry
    injection hq with hq; subst hq
    obtain ⟨q', c', hq', hn⟩ := hrx.sl_inv
    cases q' with
    | none =>
      cases q with
      | none => exact (hne rfl).elim
      | some _ => simp at hn
    | some q' => exact s_eq_of ho hq' hry.nils_inv (.inl (eqGuard_free neg t x y _ (by simp) (by simp))) (.inr (.inr (.inl ⟨_, _, _, rfl⟩))) (by rw [equal_succ]; exact eqIn_nils2 _ _ hd _ _ _ _ _) hH

theorem s_eq_nilm {k e : TypeId} (hd : P.underlying t = some (.map k e)) (h : opEq .nilm neg x' y' call τ σ = some (v, σ')) : Did P o a w M σ v σ' := by
  obtain ⟨b, hq, rfl, rfl⟩ := opEq_some h
  have hrx := cod_rel hE hx
  have hry := cod_rel hE hy
  unfold aeq at hq
  split at hq <;> first | (rename_i e _ _; cases e; done) | (rename_i e _; cases e; done) | (cases hq; done) | skip
  · rename_i q e1 e2
    rw [e1] at hrx; rw [e2] at hry
    injection hq with hq; subst hq
    obtain ⟨q', hq', hn⟩ := hry.mp_inv
    exact s_eq_of ho hrx.nilm_inv hq' (.inl (eqGuard_free neg t x y _ (by simp) (by simp))) (.inr (.inr (.inr (.inl ⟨_, rfl⟩)))) (by rw [equal_succ, ← hn]; exact eqIn_nilm _ _ hd _) hH
  · rename_i q hne _ e1 e2
    rw [e1] at hrx; rw [e2] at hry
    injection hq with hq; subst hq
    obtain ⟨q', hq', hn⟩ := hrx.mp_inv
    cases q' with
    | none =>
      cases q with
      | none => exact (hne rfl).elim
      | some _ => simp at hn
    | some q' => exact s_eq_of ho hq' hry.nilm_inv (.inl (eqGuard_free neg t x y _ (by simp) (by simp))) (.inr (.inr (.inr (.inl ⟨_, rfl⟩)))) (by rw [equal_succ]; exact eqIn_nilm2 _ _ hd _) hH

theorem s_eq_nilf {ps rs : Array TypeId} {vb : Bool} (hd : P.underlying t = some (.func ps rs vb)) (h : opEq .nilf neg x' y' call τ σ = some (v, σ')) : Did P o a w M σ v σ' := by
  obtain ⟨b, hq, rfl, rfl⟩ := opEq_some h
  have hrx := cod_rel hE hx
  have hry := cod_rel hE hy
  unfold aeq at hq
  split at hq <;> first | (rename_i e _ _; cases e; done) | (rename_i e _; cases e; done) | (cases hq; done) | skip
  · rename_i e1 e2
    rw [e1] at hrx; rw [e2] at hry
    injection hq with hq; subst hq
    exact s_eq_of ho hrx.nilf_inv hry.nilf_inv (.inl (eqGuard_free neg t x y _ (by simp) (by simp))) (.inr (.inr (.inr (.inr (.inl rfl))))) (by rw [equal_succ]; exact eqIn_nilf _ _ hd) hH
  · rename_i f p q e1 e2
    rw [e1] at hrx; rw [e2] at hry
    injection hq with hq; subst hq
    obtain ⟨g, xs, ys, rfl, hq', _, _⟩ := hrx.func_inv
    exact s_eq_of ho hq' hry.nilf_inv (.inl (eqGuard_free neg t x y _ (by simp) (by simp))) (.inr (.inr (.inr (.inr (.inr (.inl ⟨_, _, _, rfl⟩)))))) (by rw [equal_succ]; exact eqIn_nilf2 _ _ hd _ _ _) hH

theorem s_eq_nili {ms : Array (String × TypeId)} (hd : P.underlying t = some (.interface ms)) (hni : nilOk .nili y = true) (h : opEq .nili neg x' y' call τ σ = some (v, σ')) : Did P o a w M σ v σ' := by
  obtain ⟨b, hq, rfl, rfl⟩ := opEq_some h
  have hrx := cod_rel hE hx
  have hry := cod_rel hE hy
  unfold aeq at hq
  split at hq <;> first | (rename_i e _ _; cases e; done) | (rename_i e _; cases e; done) | (cases hq; done) | skip
  rename_i e1 e2
  rw [e1] at hrx; rw [e2] at hry
  injection hq with hq; subst hq
  have hyc : ∃ c, y = .const c := by
    cases y <;> first | exact ⟨_, rfl⟩ | (simp [nilOk] at hni)
  obtain ⟨c, rfl⟩ := hyc
  exact s_eq_of ho hrx.nili_inv hry.nili_inv (.inl (by cases neg <;> simp [eqGuard_nil_constR])) (.inr (.inr (.inr (.inr (.inr (.inr (.inl rfl))))))) (by rw [equal_succ]; exact eqIn_nili _ _ hd) hH

end

/-! aggregates of scalars -/
theorem flat_cons {f : Field} {fs : List Field} {k : Nat} {ks : List Bool} (h : flat P (f :: fs) k = some ks) :
    f.offset = k ∧ f.name ≠ "_" ∧ ∃ b ks', ks = b :: ks' ∧ (∃ d, P.underlying f.type = some d ∧ ((b = true ∧ ∃ kk, d = .int kk) ∨ (b = false ∧ d = .bool))) ∧ flat P fs (k + 1) = some ks' := by
  simp only [flat] at h
  cases hb : (Nat.beq f.offset k && !(f.name == "_")) with
  | false => rw [hb] at h; cases h
  | true =>
    rw [hb] at h
    simp only [Bool.and_eq_true, Bool.not_eq_true', beq_eq_false_iff_ne] at hb
    refine ⟨Nat.eq_of_beq_eq_true hb.1, hb.2, ?_⟩
    simp only [cond_true] at h
    split at h
    · rename_i kk hd
      cases hf : flat P fs (k + 1) with
      | none => rw [hf] at h; cases h
      | some r => rw [hf] at h; injection h with h; exact ⟨true, r, h.symm, ⟨_, hd, .inl ⟨rfl, _, rfl⟩⟩, rfl⟩
    · rename_i hd
      cases hf : flat P fs (k + 1) with
      | none => rw [hf] at h; cases h
      | some r => rw [hf] at h; injection h with h; exact ⟨false, r, h.symm, ⟨_, hd, .inr ⟨rfl, rfl⟩⟩, rfl⟩
    · cases h

theorem part_scalar {t : TypeId} {d : TypeDesc} (hd : P.underlying t = some d) (hk : isA d = false) (c : Array Value) (k : Nat) (u : Value) (hc : c[k]? = some u) (w : World) : (part t c k).run P w = .ok u w := by
  have : (isAgg t).run P w = .ok false w := by
    simp only [isAgg, Sem.run_bind, run_underlying hd, Result.andThen_ok]
    cases d <;> first | rfl | (simp [isA] at hk)
  simp [part, this, hc]

theorem scEq_run {d : TypeDesc} {t : TypeId} {k : Bool} {x y : Value} {b : Bool} (hd : P.underlying t = some d) (hk : (k = true ∧ ∃ kk, d = .int kk) ∨ (k = false ∧ d = .bool)) (h : scEq k x y = some b) (m : Nat) (w : World) :
    (Op.equalIn (m + 1) t x y).run P w = .ok b w ∧ (∀ M x', VRel M x x' → x' = x) ∧ (∀ M y', VRel M y y' → y' = y) := by
  unfold scEq at h
  split at h
  · split at h
    · rename_i hj
      subst hj
      injection h with h; subst h
      rcases hk with ⟨_, kk, rfl⟩ | ⟨hk, _⟩
      · refine ⟨?_, fun M x' h => h.int_inv, fun M x' h => h.int_inv⟩
        simp [Op.equalIn, run_underlying hd]
        rfl
      · cases hk
    · cases h
  · injection h with h; subst h
    rcases hk with ⟨hk, _⟩ | ⟨_, rfl⟩
    · cases hk
    · refine ⟨eqIn_bool _ _ hd _ _, fun M x' h => h.bool_inv, fun M x' h => h.bool_inv⟩
  · cases h

theorem aggLoop (m : Nat) (w : World) (cx cy : Array Value) : ∀ (fs : List Field) (k : Nat) (ks : List Bool) (xs ys : List Value) (b : Bool),
    flat P fs k = some ks → aggEq ks xs ys = some b → (∀ i u, xs[i]? = some u → ∃ u', cx[k + i]? = some u' ∧ VRel M u u') → (∀ i u, ys[i]? = some u → ∃ u', cy[k + i]? = some u' ∧ VRel M u u') →
    (forIn fs ((none, ()) : Option Bool × Unit) (fun f _ =>
      if f.name ≠ "_" then do
        let p ← part f.type cx f.offset
        let q ← part f.type cy f.offset
        let r ← Op.equalIn (m + 1) f.type p q
        if (!r) = true then pure (ForInStep.done (some false, ())) else pure (ForInStep.yield (none, ()))
      else pure (ForInStep.yield (none, ()))) : Sem (Option Bool × Unit)).run P w = .ok (if b then none else some false, ()) w
  | [], k, ks, xs, ys, b, hf, h, _, _ => by
    injection hf with hf; subst hf
    injection h with h; subst h
    simp
  | f :: fs, k, ks, xs, ys, b, hf, h, hx, hy => by
    obtain ⟨ho, hn, kb, ks', rfl, ⟨d, hd, hdk⟩, hrest⟩ := flat_cons hf
    have hda : isA d = false := by rcases hdk with ⟨_, kk, rfl⟩ | ⟨_, rfl⟩ <;> rfl
    cases xs with
    | nil => simp [aggEq] at h
    | cons x xs =>
      cases ys with
      | nil => simp [aggEq] at h
      | cons y ys =>
        simp only [aggEq] at h
        cases hsc : scEq kb x y with
        | none => rw [hsc] at h; cases h
        | some c =>
          rw [hsc] at h
          obtain ⟨hrun, hxe, hye⟩ := scEq_run hd hdk hsc m w
          obtain ⟨x', hx', hxr⟩ := hx 0 x (by simp)
          obtain ⟨y', hy', hyr⟩ := hy 0 y (by simp)
          obtain rfl := hxe _ _ hxr
          obtain rfl := hye _ _ hyr
          simp only [Nat.add_zero] at hx' hy'
          have p1 := part_scalar hd hda cx k _ hx' w
          have p2 := part_scalar hd hda cy k _ hy' w
          rw [← ho] at p1 p2
          cases c with
          | false =>
            injection h with h; subst h
            simp only [List.forIn_cons, ne_eq, hn, not_false_eq_true, if_true, Sem.run_bind, p1, p2, hrun, Result.andThen_ok, Sem.run_ite, Bool.not_false, Sem.run_pure, Bool.false_eq_true, if_false]
          | true =>
            have ih := aggLoop m w cx cy fs (k + 1) ks' xs ys b hrest h
              (fun i u hi => by have := hx (i + 1) u (by simpa using hi); rwa [show k + (i + 1) = k + 1 + i by omega] at this)
              (fun i u hi => by have := hy (i + 1) u (by simpa using hi); rwa [show k + (i + 1) = k + 1 + i by omega] at this)
            simp only [List.forIn_cons, ne_eq, hn, not_false_eq_true, if_true, Sem.run_bind, p1, p2, hrun, Result.andThen_ok, Sem.run_ite, Bool.not_true, Sem.run_pure, Bool.false_eq_true, if_false]
            simpa using ih

theorem s_eq_agg {neg : Bool} {t u : TypeId} {x y : Operand} {x' y' : Od} {fs : Array Field} {ks : List Bool} {call : (CallF H)} (ho : o.op = .binOp (if neg then .neq else .eql) t x y u) (hx : cod n x = some x') (hy : cod n y = some y') (hH : HRel M σ w) (hE : ERel n M τ a.tmps)
    (hd : P.underlying t = some (.struct fs)) (hf : flat P fs.toList 0 = some ks) (hst : P.stoodInHeld t = false) (hgt : P.eqGuardType P.depth t = false) (h : opEq (.agg ks) neg x' y' call τ σ = some (v, σ')) : Did P o a w M σ v σ' := by
  obtain ⟨b, hq, rfl, rfl⟩ := opEq_some h
  have hrx := cod_rel hE hx
  have hry := cod_rel hE hy
  unfold aeq at hq
  split at hq <;> first | (rename_i e _ _; cases e; done) | (rename_i e _; cases e; done) | (cases hq; done) | skip
  rename_i ks' p q e0 e1 e2
  cases e0
  rw [e1] at hrx; rw [e2] at hry
  obtain ⟨p', hp', hpr⟩ := hrx.agg_inv
  obtain ⟨q', hq', hqr⟩ := hry.agg_inv
  have hg : (eqGuard (if neg then .neq else .eql) t x y (.agg p') (.agg q')).run P w = .ok () w := by
    cases neg <;> simp [eqGuard, hgt]
  refine s_eq_of ho hp' hq' (.inr hg) (.inr (.inr (.inr (.inr (.inr (.inr (.inr ⟨_, rfl⟩))))))) ?_ hH
  rw [equal_succ]
  have hl := aggLoop (P := P) 9998 w p' q' fs.toList 0 ks p.toList q.toList b hf hq
    (fun i u hi => by obtain ⟨u', hu', hr⟩ := hpr.get i u hi; exact ⟨u', by simpa using hu', hr⟩)
    (fun i u hi => by obtain ⟨u', hu', hr⟩ := hqr.get i u hi; exact ⟨u', by simpa using hu', hr⟩)
  show Sem.run P (Op.equalIn ((9998 + 1) + 1) t _ _) w = _
  generalize 9998 + 1 = mm at hl
  simp only [Op.equalIn, Sem.run_bind, run_underlying hd, Result.andThen_ok, Sem.run_ite, run_program, hst, Bool.false_eq_true, if_false]
  rw [← Array.forIn_toList, hl]
  cases b <;> rfl

end Go.Ax

