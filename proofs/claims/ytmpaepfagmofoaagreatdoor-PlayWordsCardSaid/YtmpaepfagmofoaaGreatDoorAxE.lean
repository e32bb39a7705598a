/- Regions that draw their order. -/
import Derived.Test.YtmpaepfagmofoaaGreatDoorAxD
import Derived.Orders
set_option linter.all false
namespace Go.Ax
open Go
variable {H : HeapI}

theorem maskOf_bit (ms : List (Nat × Nat)) : ∀ (es : List Edge) (s j : Nat), (maskOf ms es s).testBit j = true ↔
    s.testBit j = true ∨ ∃ e ∈ es, Region.binds .any e = true ∧ (e.on = j ∨ ∃ m, ms.lookup e.on = some m ∧ m.testBit j = true)
  | [], s, j => by simp [maskOf]
  | e :: es, s, j => by
    cases hb : Region.binds .any e with
    | false =>
      have : maskOf ms (e :: es) s = maskOf ms es s := by show (bif Region.binds .any e then _ else _) = _; rw [hb]; rfl
      rw [this, maskOf_bit ms es s j]
      constructor
      · rintro (h | ⟨e', h1, h2, h3⟩)
        · exact .inl h
        · exact .inr ⟨e', List.mem_cons_of_mem _ h1, h2, h3⟩
      · rintro (h | ⟨e', h1, h2, h3⟩)
        · exact .inl h
        · rcases List.mem_cons.1 h1 with rfl | h1
          · rw [hb] at h2; cases h2
          · exact .inr ⟨e', h1, h2, h3⟩
    | true =>
      have : maskOf ms (e :: es) s = maskOf ms es (s ||| 2 ^ e.on ||| (match ms.lookup e.on with | some m => m | none => 0)) := by show (bif Region.binds .any e then _ else _) = _; rw [hb]; rfl
      rw [this, maskOf_bit ms es _ j]
      have hbit : (s ||| 2 ^ e.on ||| (match ms.lookup e.on with | some m => m | none => 0)).testBit j = true ↔ s.testBit j = true ∨ (e.on = j ∨ ∃ m, ms.lookup e.on = some m ∧ m.testBit j = true) := by
        rw [Nat.testBit_or, Nat.testBit_or, Nat.testBit_two_pow]
        cases hl : ms.lookup e.on with
        | none => simp
        | some m => simp [or_assoc]
      rw [hbit]
      constructor
      · rintro ((h | h) | ⟨e', h1, h2, h3⟩)
        · exact .inl h
        · exact .inr ⟨e, List.mem_cons_self .., hb, h⟩
        · exact .inr ⟨e', List.mem_cons_of_mem _ h1, h2, h3⟩
      · rintro (h | ⟨e', h1, h2, h3⟩)
        · exact .inl (.inl h)
        · rcases List.mem_cons.1 h1 with rfl | h1
          · exact .inl (.inr h3)
          · exact .inr ⟨e', h1, h2, h3⟩

section
variable (P : Program) (n : Nat) (ops : List Oper)

/-- what a node says -/
structure NodeOf (ns : List Nd) (m : Nat) (o : Oper) (nd : Nd) : Prop where
  id : nd.id = m
  i : nd.i = cai P n ops o
  kl : nd.kl = klass nd.i.op
  up : ∀ j, nd.mask.testBit j = true → ∃ e ∈ o.after.toList, Region.binds .any e = true ∧ (e.on = j ∨ ∃ nd', ns[e.on]? = some nd' ∧ nd'.mask.testBit j = true)
  on : ∀ e ∈ o.after.toList, Region.binds .any e = true → nd.mask.testBit e.on = true

theorem nodes_spec (ns : List Nd) : ∀ (os : List Oper) (k : Nat) (ms : List (Nat × Nat)) (pre : List Nd), ns = pre ++ nodes P n ops os k ms → pre.length = k →
    (∀ q m, ms.lookup q = some m → ∃ nd', pre[q]? = some nd' ∧ nd'.mask = m) →
    ∀ (m : Nat) (o : Oper), os[m]? = some o → ∃ nd, ns[k + m]? = some nd ∧ NodeOf P n ops ns (k + m) o nd
  | [], _, _, _, _, _, _, m, o, h => by simp at h
  | o' :: os, k, ms, pre, hns, hpre, hms, m, o, h => by
    have hunf : nodes P n ops (o' :: os) k ms = ⟨k, maskOf ms o'.after.toList 0, klass (cai P n ops o').op, cai P n ops o'⟩ :: nodes P n ops os (k + 1) ((k, maskOf ms o'.after.toList 0) :: ms) := rfl
    rw [hunf] at hns
    have hget : ns[k]? = some ⟨k, maskOf ms o'.after.toList 0, klass (cai P n ops o').op, cai P n ops o'⟩ := by
      rw [hns, List.getElem?_append_right (by omega), hpre]; simp
    cases m with
    | zero =>
      simp at h; subst h
      refine ⟨_, hget, rfl, rfl, rfl, fun j hj => ?_, fun e he hb => ?_⟩
      · rcases (maskOf_bit ms _ _ _).1 hj with h0 | ⟨e, h1, h2, h3⟩
        · simp at h0
        · refine ⟨e, h1, h2, h3.imp id ?_⟩
          rintro ⟨mk, h4, h5⟩
          obtain ⟨nd', h6, h7⟩ := hms _ _ h4
          refine ⟨nd', ?_, h7 ▸ h5⟩
          rw [hns, List.getElem?_append_left (List.getElem?_eq_some_iff.1 h6).1]; exact h6
      · exact (maskOf_bit ms _ _ _).2 (.inr ⟨e, he, hb, .inl rfl⟩)
    | succ m =>
      simp at h
      have := nodes_spec ns os (k + 1) ((k, maskOf ms o'.after.toList 0) :: ms) (pre ++ [⟨k, maskOf ms o'.after.toList 0, klass (cai P n ops o').op, cai P n ops o'⟩]) (by rw [hns]; simp) (by simp [hpre])
        (fun q mk hq => by
          rw [List.lookup_cons] at hq
          split at hq
          · rename_i he
            have he : q = k := by simpa using he
            subst he
            injection hq with hq
            refine ⟨⟨q, maskOf ms o'.after.toList 0, klass (cai P n ops o').op, cai P n ops o'⟩, ?_, hq⟩
            rw [List.getElem?_append_right (by omega), hpre]; simp
          · obtain ⟨nd', h1, h2⟩ := hms _ _ hq
            exact ⟨nd', by rw [List.getElem?_append_left (List.getElem?_eq_some_iff.1 h1).1]; exact h1, h2⟩) m o h
      rwa [show k + 1 + m = k + (m + 1) by omega] at this

theorem nodes_length : ∀ (os : List Oper) (k : Nat) (ms : List (Nat × Nat)), (nodes P n ops os k ms).length = os.length
  | [], _, _ => rfl
  | o :: os, k, ms => by
    show (_ :: nodes P n ops os (k + 1) _).length = _
    simp [nodes_length os]
end

theorem pickK_perm : ∀ {done want : Nat} {l : List Nd} {x : Nd} {r : List Nd}, pickK done want l = some (x, r) → l.Perm (x :: r)
  | done, want, [], x, r, h => by cases h
  | done, want, nd :: ns, x, r, h => by
    unfold pickK at h
    cases hk : isK done want nd with
    | true =>
      rw [hk] at h
      obtain ⟨rfl, rfl⟩ := some_inj2 h
      exact List.Perm.refl _
    | false =>
      rw [hk] at h
      simp only [cond_false] at h
      split at h
      · rename_i x' r' hp
        obtain ⟨rfl, rfl⟩ := some_inj2 h
        exact (List.Perm.cons nd (pickK_perm hp)).trans (List.Perm.swap ..)
      · cases h

def pickAny (done : Nat) (l : List Nd) : Option (Nd × List Nd) :=
  match pickK done 0 l with | some r => some r | none => match pickK done 1 l with | some r => some r | none => pickK done 2 l

theorem order_succ (k done : Nat) (l : List Nd) : order (k + 1) done l = match pickAny done l with | some (x, r) => x :: order k (done ||| 2 ^ x.id) r | none => [] := rfl

theorem pickAny_perm {done : Nat} {l : List Nd} {x : Nd} {r : List Nd} (hp : pickAny done l = some (x, r)) : l.Perm (x :: r) := by
  unfold pickAny at hp
  split at hp
  · rename_i h1; injection hp with hp; subst hp; exact pickK_perm h1
  · split at hp
    · rename_i h1; injection hp with hp; subst hp; exact pickK_perm h1
    · exact pickK_perm hp

theorem order_perm : ∀ {k done : Nat} {l : List Nd}, (order k done l).length = l.length → (order k done l).Perm l
  | 0, done, l, h => by
    have : l = [] := by simpa [order, eq_comm] using h
    subst this; exact List.Perm.refl _
  | k + 1, done, l, h => by
    rw [order_succ] at h ⊢
    cases hp : pickAny done l with
    | some p =>
      obtain ⟨x, r⟩ := p
      rw [hp] at h
      have hp' := pickAny_perm hp
      have hl := hp'.length_eq
      have : (order k (done ||| 2 ^ x.id) r).length = r.length := by simp at h hl; omega
      exact (List.Perm.cons x (order_perm this)).trans hp'.symm
    | none =>
      rw [hp] at h
      have : l = [] := by simpa [eq_comm] using h
      subst this; exact List.Perm.refl _

theorem mustAll_spec {x : Nd} : ∀ {ps : List Nd}, mustAll x ps = true → ∀ p ∈ ps, must p x = true → x.mask.testBit p.id = true
  | [], _, p, hp => by cases hp
  | p' :: ps, h, p, hp => by
    unfold mustAll at h
    simp only [Bool.and_eq_true, Bool.or_eq_true, Bool.not_eq_true'] at h
    rcases List.mem_cons.1 hp with rfl | hp
    · intro hm
      rcases h.1 with h1 | h1
      · rw [hm] at h1; cases h1
      · exact h1
    · exact mustAll_spec h.2 p hp

/-- the earlier and the later of two in the order -/
def Before (p x : Nd) : Prop := p.id ≠ x.id ∧ (must p x = true → x.mask.testBit p.id = true)

theorem orderOk_spec : ∀ {l prev : List Nd} {seen : Nat}, orderOk l prev seen = true → (∀ p ∈ prev, seen.testBit p.id = true) →
    l.Pairwise Before ∧ (∀ x ∈ l, ∀ p ∈ prev, Before p x) ∧ ∀ l1 x l2, l = l1 ++ x :: l2 → ∀ j, x.mask.testBit j = true → seen.testBit j = true ∨ ∃ p ∈ l1, p.id = j
  | [], prev, seen, _, _ => ⟨.nil, fun x hx => (by cases hx), fun l1 x l2 h => (by simp at h)⟩
  | x :: xs, prev, seen, h, hs => by
    unfold orderOk at h
    simp only [Bool.and_eq_true, Bool.not_eq_true'] at h
    obtain ⟨⟨⟨h1, h2⟩, h3⟩, h4⟩ := h
    have h2 := Nat.eq_of_beq_eq_true h2
    obtain ⟨i1, i2, i3⟩ := orderOk_spec h4 (fun p hp => by
      rw [Nat.testBit_or, Nat.testBit_two_pow]
      rcases List.mem_cons.1 hp with rfl | hp
      · simp
      · simp [hs p hp])
    refine ⟨.cons (fun y hy => i2 y hy x (List.mem_cons_self ..)) i1, fun y hy p hp => ?_, fun l1 y l2 he j hj => ?_⟩
    · rcases List.mem_cons.1 hy with rfl | hy
      · exact ⟨fun e => (by rw [← e, hs p hp] at h1; cases h1), mustAll_spec h3 p hp⟩
      · exact i2 y hy p (List.mem_cons_of_mem _ hp)
    · cases l1 with
      | nil =>
        simp at he
        obtain ⟨rfl, rfl⟩ := he
        rw [← h2, Nat.testBit_and] at hj
        simp only [Bool.and_eq_true] at hj
        exact .inl hj.2
      | cons z l1 =>
        simp at he
        obtain ⟨rfl, he⟩ := he
        rcases i3 l1 y l2 he j hj with h5 | ⟨p, hp, he⟩
        · rw [Nat.testBit_or, Nat.testBit_two_pow] at h5
          simp only [Bool.or_eq_true, decide_eq_true_eq] at h5
          rcases h5 with h5 | h5
          · exact .inl h5
          · exact .inr ⟨x, List.mem_cons_self .., h5⟩
        · exact .inr ⟨p, List.mem_cons_of_mem _ hp, he⟩

end Go.Ax

namespace Go.Ax
open Go
variable {H : HeapI}

structure Rec (H : HeapI) where
  nd : Nd
  τ : Env
  σ : (St H)
  v : Value
  σ' : (St H)

inductive Chain : Env → (St H) → List (Rec H) → Env → (St H) → Prop
  | nil {τ} {σ : St H} : Chain τ σ [] τ σ
  | cons {r T τ'} {σ' : St H} : Chain (setD r.nd.i.dst r.v r.τ) r.σ' T τ' σ' → Chain r.τ r.σ (r :: T) τ' σ'

structure Good (call : (CallF H)) (r : (Rec H)) : Prop where
  ran : (yesO r.nd.i.guard r.τ = true ∧ aop r.nd.i.op call r.τ r.σ = some (r.v, r.σ')) ∨ (yesO r.nd.i.guard r.τ = false ∧ r.v = undefV ∧ r.σ' = r.σ)
  nxt : r.σ.nxt ≤ r.σ'.nxt

def Again (r x : (Rec H)) : Prop := r.nd.kl = .read → yesO r.nd.i.guard r.τ = true → x.nd.kl = .eff → x.nd.mask.testBit r.nd.id = false →
  ∃ σ2, aop r.nd.i.op nocall r.τ x.σ' = some (r.v, σ2)

/-! what is found equal is equal -/
theorem bytes_eq {a b : ByteArray} (h : (a.data.toList == b.data.toList) = true) : a = b := by
  have h := eq_of_beq h
  cases a; cases b
  simp only [Array.toList_inj] at h
  rw [h]

theorem scBeq_eq {a b : Value} (h : scBeq a b = true) : a = b := by
  unfold scBeq at h
  split at h
  · simp only [Bool.and_eq_true, decide_eq_true_eq] at h; rw [h.1, h.2]
  · rw [eq_of_beq h]
  · rw [bytes_eq h]
  · rw [of_decide_eq_true h]
  · simp only [Bool.and_eq_true, decide_eq_true_eq] at h; rw [h.1, Nat.eq_of_beq_eq_true h.2.1, Nat.eq_of_beq_eq_true h.2.2]
  · rw [of_decide_eq_true h]
  · rw [of_decide_eq_true h]
  · rfl
  · rfl
  · cases h

theorem scBeqL_eq : ∀ {a b : List Value}, scBeqL a b = true → a = b
  | [], [], _ => rfl
  | a :: as, b :: bs, h => by
    simp only [scBeqL, Bool.and_eq_true] at h
    rw [scBeq_eq h.1, scBeqL_eq h.2]
  | [], _ :: _, h => by cases h
  | _ :: _, [], h => by cases h

theorem vbeq_eq {a b : Value} (h : vbeq a b = true) : a = b := by
  unfold vbeq at h
  split at h
  · rw [Array.toList_inj.1 (scBeqL_eq h)]
  · rw [Array.toList_inj.1 (scBeqL_eq h)]
  · exact scBeq_eq h

theorem memN_iff {n : Nat} : ∀ {l : List Nat}, memN n l = true ↔ n ∈ l
  | [] => by simp [memN]
  | m :: ms => by
    simp only [memN, Bool.or_eq_true, List.mem_cons, memN_iff (l := ms)]
    constructor
    · rintro (h | h)
      · exact .inl (Nat.eq_of_beq_eq_true h)
      · exact .inr h
    · rintro (rfl | h)
      · exact .inl (Nat.beq_refl n)
      · exact .inr h

theorem recheck_spec {chk : List Nat} {σ : (St H)} : ∀ {ns : List Note}, recheck chk σ ns = true → ∀ m ∈ ns, m.id ∈ chk → ∃ σ2, aop m.op nocall m.τ σ = some (m.v, σ2)
  | [], _, m, hm, _ => by cases hm
  | n :: ns, h, m, hm, hc => by
    have h' : (Bool.rec (recheck chk σ ns) (Option.rec false (fun p => Bool.rec false (recheck chk σ ns) (vbeq p.1 n.v)) (aop n.op nocall n.τ σ)) (memN n.id chk) : Bool) = true := h
    cases hmn : memN n.id chk with
    | false =>
      rw [hmn] at h'
      rcases List.mem_cons.1 hm with rfl | hm
      · rw [memN_iff.2 hc] at hmn; cases hmn
      · exact recheck_spec h' m hm hc
    | true =>
      rw [hmn] at h'
      cases ha : aop n.op nocall n.τ σ with
      | none => rw [ha] at h'; cases h'
      | some p =>
        obtain ⟨v, σ2⟩ := p
        rw [ha] at h'
        cases hv : vbeq v n.v with
        | false =>
          have h'' : (Bool.rec false (recheck chk σ ns) (vbeq v n.v) : Bool) = true := h'
          rw [hv] at h''; cases h''
        | true =>
          have h'' : (Bool.rec false (recheck chk σ ns) (vbeq v n.v) : Bool) = true := h'
          rw [hv] at h''
          rcases List.mem_cons.1 hm with rfl | hm
          · exact ⟨σ2, by rw [ha, vbeq_eq hv]⟩
          · exact recheck_spec h'' m hm hc

/-! one item -/
variable {call : (CallF H)} {ns : List Note} {τ τf : Env} {σ σf : (St H)}

theorem dis_pure {i : AI} {l : List DI} (h : dis (.pure i :: l) call ns τ σ = some (τf, σf)) : ∃ τ1 σ1, ai i call τ σ = some (τ1, σ1) ∧ dis l call ns τ1 σ1 = some (τf, σf) := by
  have h' : (Option.rec none (fun p => Prod.rec (fun τ' σ' => dis l call ns τ' σ') p) (ai i call τ σ) : (RE H)) = some (τf, σf) := h
  cases ha : ai i call τ σ with
  | none => rw [ha] at h'; cases h'
  | some p => obtain ⟨τ1, σ1⟩ := p; rw [ha] at h'; exact ⟨τ1, σ1, rfl, h'⟩

theorem dis_effect {i : AI} {chk : List Nat} {l : List DI} (h : dis (.effect i chk :: l) call ns τ σ = some (τf, σf)) :
    ∃ τ1 σ1, ai i call τ σ = some (τ1, σ1) ∧ recheck chk σ1 ns = true ∧ σ.nxt ≤ σ1.nxt ∧ dis l call ns τ1 σ1 = some (τf, σf) := by
  have h' : (Option.rec none (fun p => Prod.rec (fun τ' σ' => Bool.rec none (Bool.rec none (dis l call ns τ' σ') (recheck chk σ' ns)) (Nat.ble σ.nxt σ'.nxt)) p) (ai i call τ σ) : (RE H)) = some (τf, σf) := h
  cases ha : ai i call τ σ with
  | none => rw [ha] at h'; cases h'
  | some p =>
    obtain ⟨τ1, σ1⟩ := p
    rw [ha] at h'
    have h2 : (Bool.rec none (Bool.rec none (dis l call ns τ1 σ1) (recheck chk σ1 ns)) (Nat.ble σ.nxt σ1.nxt) : (RE H)) = some (τf, σf) := h'
    cases hb : Nat.ble σ.nxt σ1.nxt with
    | false => rw [hb] at h2; cases h2
    | true =>
      rw [hb] at h2
      have h3 : (Bool.rec none (dis l call ns τ1 σ1) (recheck chk σ1 ns) : (RE H)) = some (τf, σf) := h2
      cases hr : recheck chk σ1 ns with
      | false => rw [hr] at h3; cases h3
      | true => rw [hr] at h3; exact ⟨τ1, σ1, rfl, hr, Nat.le_of_ble_eq_true hb, h3⟩

theorem dis_read {i : AI} {id : Nat} {l : List DI} (h : dis (.read i id :: l) call ns τ σ = some (τf, σf)) :
    (yesO i.guard τ = false ∧ dis l call ns (setD i.dst undefV τ) σ = some (τf, σf)) ∨
    (yesO i.guard τ = true ∧ ∃ v σ1, aop i.op call τ σ = some (v, σ1) ∧ dis l call (⟨id, i.op, τ, v⟩ :: ns) (setD i.dst v τ) σ1 = some (τf, σf)) := by
  have h' : (Bool.rec (dis l call ns (setD i.dst undefV τ) σ)
      (Option.rec none (fun p => Prod.rec (fun v σ' => dis l call (⟨id, i.op, τ, v⟩ :: ns) (setD i.dst v τ) σ') p) (aop i.op call τ σ)) (yesO i.guard τ) : (RE H)) = some (τf, σf) := h
  cases hy : yesO i.guard τ with
  | false => rw [hy] at h'; exact .inl ⟨rfl, h'⟩
  | true =>
    rw [hy] at h'
    cases ha : aop i.op call τ σ with
    | none => rw [ha] at h'; cases h'
    | some p => obtain ⟨v, σ1⟩ := p; rw [ha] at h'; exact .inr ⟨rfl, v, σ1, rfl, h'⟩

theorem items_pure {nd : Nd} {l : List Nd} {rs : List Nat} (h : nd.kl = .pure ∨ nd.kl = .alloc) : items (nd :: l) rs = .pure nd.i :: items l rs := by
  rw [items]; rcases h with h | h <;> rw [h]
theorem items_read {nd : Nd} {l : List Nd} {rs : List Nat} (h : nd.kl = .read) : items (nd :: l) rs = .read nd.i nd.id :: items l (nd.id :: rs) := by
  rw [items, h]
theorem items_eff {nd : Nd} {l : List Nd} {rs : List Nat} (h : nd.kl = .eff) : items (nd :: l) rs = .effect nd.i (rs.filter fun r => !(nd.mask.testBit r)) :: items l rs := by
  rw [items, h]

def NoteOk (m : Note) (r : (Rec H)) : Prop := r.nd.kl = .eff → r.nd.mask.testBit m.id = false → ∃ σ2, aop m.op nocall m.τ r.σ' = some (m.v, σ2)

theorem dis_trace : ∀ (l : List Nd) (rs : List Nat) (ns : List Note) (τ : Env) (σ : (St H)), (∀ nd ∈ l, nd.kl = klass nd.i.op) → (∀ m ∈ ns, m.id ∈ rs) →
    dis (items l rs) call ns τ σ = some (τf, σf) →
    ∃ T : List (Rec H), T.map (·.nd) = l ∧ Chain τ σ T τf σf ∧ (∀ r ∈ T, Good call r) ∧ T.Pairwise Again ∧ ∀ r ∈ T, ∀ m ∈ ns, NoteOk m r
  | [], rs, ns, τ, σ, _, _, h => by
    obtain ⟨rfl, rfl⟩ := some_inj2 (show some (τ, σ) = some (τf, σf) from h)
    exact ⟨[], rfl, .nil, fun r hr => (by cases hr), .nil, fun r hr => (by cases hr)⟩
  | nd :: l, rs, ns, τ, σ, hk, hn, h => by
    have hk' : ∀ nd ∈ l, nd.kl = klass nd.i.op := fun x hx => hk x (List.mem_cons_of_mem _ hx)
    have hk0 := hk nd (List.mem_cons_self ..)
    have plain : nd.kl = .pure ∨ nd.kl = .alloc → ∃ T : List (Rec H), T.map (·.nd) = nd :: l ∧ Chain τ σ T τf σf ∧ (∀ r ∈ T, Good call r) ∧ T.Pairwise Again ∧ ∀ r ∈ T, ∀ m ∈ ns, NoteOk m r := fun hkl => by
      rw [items_pure hkl] at h
      obtain ⟨τ1, σ1, h1, h2⟩ := dis_pure h
      obtain ⟨T, t1, t2, t3, t4, t5⟩ := dis_trace l rs ns τ1 σ1 hk' hn h2
      have fin : ∀ v, τ1 = setD nd.i.dst v τ → Good call ⟨nd, τ, σ, v, σ1⟩ → ∃ T : List (Rec H), T.map (·.nd) = nd :: l ∧ Chain τ σ T τf σf ∧ (∀ r ∈ T, Good call r) ∧ T.Pairwise Again ∧ ∀ r ∈ T, ∀ m ∈ ns, NoteOk m r := fun v hv hg => by
        refine ⟨⟨nd, τ, σ, v, σ1⟩ :: T, by simp [t1], .cons (r := ⟨nd, τ, σ, v, σ1⟩) (hv ▸ t2), ?_, .cons (fun x _ => ?_) t4, ?_⟩
        · intro r hr
          rcases List.mem_cons.1 hr with rfl | hr
          · exact hg
          · exact t3 r hr
        · intro hrd; rcases hkl with e | e <;> rw [e] at hrd <;> cases hrd
        · intro r hr m hm
          rcases List.mem_cons.1 hr with rfl | hr
          · intro he; rcases hkl with e | e <;> rw [e] at he <;> cases he
          · exact t5 r hr m hm
      rcases ai_cases h1 with ⟨hy, v, hv, he⟩ | ⟨hy, he, rfl⟩
      · refine fin v he ⟨.inl ⟨hy, hv⟩, ?_⟩
        rcases hkl with e | e
        · rw [(pure_of _ (hk0 ▸ e) _ _ _ _ _ hv).1]; exact Nat.le_refl _
        · obtain ⟨o, _, _, e2, _⟩ := allocs_of _ (hk0 ▸ e) _ _ _ _ _ hv
          show σ.nxt ≤ σ1.nxt
          rw [e2]; exact Nat.le_succ _
      · exact fin undefV he ⟨.inr ⟨hy, rfl, rfl⟩, Nat.le_refl _⟩
    cases hkl : nd.kl with
    | pure => exact plain (.inl hkl)
    | alloc => exact plain (.inr hkl)
    | read =>
      rw [items_read hkl] at h
      have fin : ∀ (v : Value) (ns' : List Note), dis (items l (nd.id :: rs)) call ns' (setD nd.i.dst v τ) σ = some (τf, σf) → (∀ m ∈ ns', m.id ∈ nd.id :: rs) → (∀ m ∈ ns, m ∈ ns') → Good call ⟨nd, τ, σ, v, σ⟩ →
          (yesO nd.i.guard τ = true → ⟨nd.id, nd.i.op, τ, v⟩ ∈ ns') →
          ∃ T : List (Rec H), T.map (·.nd) = nd :: l ∧ Chain τ σ T τf σf ∧ (∀ r ∈ T, Good call r) ∧ T.Pairwise Again ∧ ∀ r ∈ T, ∀ m ∈ ns, NoteOk m r := fun v ns' h2 hn' hsub hg hnote => by
        obtain ⟨T, t1, t2, t3, t4, t5⟩ := dis_trace l (nd.id :: rs) ns' _ σ hk' hn' h2
        refine ⟨⟨nd, τ, σ, v, σ⟩ :: T, by simp [t1], .cons (r := ⟨nd, τ, σ, v, σ⟩) t2, ?_, .cons (fun x hx => ?_) t4, ?_⟩
        · intro r hr
          rcases List.mem_cons.1 hr with rfl | hr
          · exact hg
          · exact t3 r hr
        · intro _ hy he hm
          exact t5 x hx _ (hnote hy) he hm
        · intro r hr m hm
          rcases List.mem_cons.1 hr with rfl | hr
          · intro he; rw [hkl] at he; cases he
          · exact t5 r hr m (hsub m hm)
      rcases dis_read h with ⟨hy, h2⟩ | ⟨hy, v, σ1, hv, h2⟩
      · exact fin undefV ns h2 (fun m hm => List.mem_cons_of_mem _ (hn m hm)) (fun m hm => hm) ⟨.inr ⟨hy, rfl, rfl⟩, Nat.le_refl _⟩ (fun e => by rw [hy] at e; cases e)
      · obtain ⟨rfl, _⟩ := reads_of _ (hk0 ▸ hkl) _ _ _ _ _ hv
        refine fin v _ h2 (fun m hm => ?_) (fun m hm => List.mem_cons_of_mem _ hm) ⟨.inl ⟨hy, hv⟩, Nat.le_refl _⟩ (fun _ => List.mem_cons_self ..)
        rcases List.mem_cons.1 hm with rfl | hm
        · exact List.mem_cons_self ..
        · exact List.mem_cons_of_mem _ (hn m hm)
    | eff =>
      rw [items_eff hkl] at h
      obtain ⟨τ1, σ1, h1, hr, hle, h2⟩ := dis_effect h
      obtain ⟨T, t1, t2, t3, t4, t5⟩ := dis_trace l rs ns τ1 σ1 hk' hn h2
      have hre := recheck_spec hr
      have fin : ∀ v, τ1 = setD nd.i.dst v τ → Good call ⟨nd, τ, σ, v, σ1⟩ → ∃ T : List (Rec H), T.map (·.nd) = nd :: l ∧ Chain τ σ T τf σf ∧ (∀ r ∈ T, Good call r) ∧ T.Pairwise Again ∧ ∀ r ∈ T, ∀ m ∈ ns, NoteOk m r := fun v hv hg => by
        refine ⟨⟨nd, τ, σ, v, σ1⟩ :: T, by simp [t1], .cons (r := ⟨nd, τ, σ, v, σ1⟩) (hv ▸ t2), ?_, .cons (fun x _ => ?_) t4, ?_⟩
        · intro r hr
          rcases List.mem_cons.1 hr with rfl | hr
          · exact hg
          · exact t3 r hr
        · intro hrd; rw [hkl] at hrd; cases hrd
        · intro r hr m hm
          rcases List.mem_cons.1 hr with rfl | hr
          · intro _ hmk
            exact hre m hm (List.mem_filter.2 ⟨hn m hm, by simpa using hmk⟩)
          · exact t5 r hr m hm
      rcases ai_cases h1 with ⟨hy, v, hv, he⟩ | ⟨hy, he, rfl⟩
      · exact fin v he ⟨.inl ⟨hy, hv⟩, hle⟩
      · exact fin undefV he ⟨.inr ⟨hy, rfl, rfl⟩, Nat.le_refl _⟩

end Go.Ax

namespace Go.Ax
open Go
variable {H : HeapI}

theorem Tr.set_comm {α : Type} : ∀ (d : Nat) (u v : Option α) (t : Tr α) (i j : Nat), i < 2 ^ d → j < 2 ^ d → i ≠ j → Tr.set d u (Tr.set d v t j) i = Tr.set d v (Tr.set d u t i) j
  | 0, u, v, t, i, j, hi, hj, hne => by simp at hi hj; omega
  | d + 1, u, v, t, i, j, hi, hj, hne => by
    have hi' : i / 2 < 2 ^ d := by rw [Nat.pow_succ] at hi; omega
    have hj' : j / 2 < 2 ^ d := by rw [Nat.pow_succ] at hj; omega
    by_cases h1 : i % 2 = 0 <;> by_cases h2 : j % 2 = 0
    · have hne' : i / 2 ≠ j / 2 := by omega
      cases t <;> simp only [Tr.set_s_node, Tr.set_s_leaf, Tr.set_s_tip, h1, h2, if_true, Tr.set_comm d u v _ _ _ hi' hj' hne']
    · cases t <;> simp only [Tr.set_s_node, Tr.set_s_leaf, Tr.set_s_tip, h1, h2, if_true, if_false]
    · cases t <;> simp only [Tr.set_s_node, Tr.set_s_leaf, Tr.set_s_tip, h1, h2, if_true, if_false]
    · have hne' : i / 2 ≠ j / 2 := by omega
      cases t <;> simp only [Tr.set_s_node, Tr.set_s_leaf, Tr.set_s_tip, h1, h2, if_false, Tr.set_comm d u v _ _ _ hi' hj' hne']

noncomputable def estep (S : Nat → Bool) (τ : Env) (r : (Rec H)) : Env := if S r.nd.id then setD r.nd.i.dst r.v τ else τ
noncomputable def foldE (S : Nat → Bool) (T : List (Rec H)) (τ : Env) : Env := T.foldl (estep S) τ
noncomputable def hstep (S : Nat → Bool) (h : H.T) (r : (Rec H)) : H.T :=
  if S r.nd.id then (match r.nd.kl with
    | .eff => r.σ'.heap
    | .alloc => if yesO r.nd.i.guard r.τ then H.set h r.σ.nxt (r.σ'.obj r.σ.nxt) else h
    | _ => h) else h
noncomputable def foldH (S : Nat → Bool) (T : List (Rec H)) (h : H.T) : H.T := T.foldl (hstep S) h

theorem foldE_cons (S : Nat → Bool) (r : (Rec H)) (T : List (Rec H)) (τ : Env) : foldE S (r :: T) τ = foldE S T (estep S τ r) := rfl
theorem foldH_cons (S : Nat → Bool) (r : (Rec H)) (T : List (Rec H)) (h : H.T) : foldH S (r :: T) h = foldH S T (hstep S h r) := rfl
theorem foldE_append (S : Nat → Bool) (T1 T2 : List (Rec H)) (τ : Env) : foldE S (T1 ++ T2) τ = foldE S T2 (foldE S T1 τ) := List.foldl_append ..
theorem foldH_append (S : Nat → Bool) (T1 T2 : List (Rec H)) (h : H.T) : foldH S (T1 ++ T2) h = foldH S T2 (foldH S T1 h) := List.foldl_append ..

theorem foldE_congr {S S' : Nat → Bool} : ∀ {T : List (Rec H)} (τ : Env), (∀ r ∈ T, S r.nd.id = S' r.nd.id) → foldE S T τ = foldE S' T τ
  | [], τ, _ => rfl
  | r :: T, τ, h => by
    rw [foldE_cons, foldE_cons, show estep S τ r = estep S' τ r by unfold estep; rw [h r (List.mem_cons_self ..)]]
    exact foldE_congr _ fun x hx => h x (List.mem_cons_of_mem _ hx)
theorem foldH_congr {S S' : Nat → Bool} : ∀ {T : List (Rec H)} (h0 : H.T), (∀ r ∈ T, S r.nd.id = S' r.nd.id) → foldH S T h0 = foldH S' T h0
  | [], h0, _ => rfl
  | r :: T, h0, h => by
    rw [foldH_cons, foldH_cons, show hstep S h0 r = hstep S' h0 r by unfold hstep; rw [h r (List.mem_cons_self ..)]]
    exact foldH_congr _ fun x hx => h x (List.mem_cons_of_mem _ hx)

def DstOk (r : (Rec H)) : Prop := ∀ d, r.nd.i.dst = some d → d < 512

theorem ev_setD {d : Option Nat} (hd : ∀ x, d = some x → x < 512) (v : Value) (τ : Env) (t : Nat) : ev (.tmp t) (setD d v τ) = if d = some t then v else ev (.tmp t) τ := by
  cases d with
  | none => simp; rfl
  | some x =>
    show ev (.tmp t) (Tr.set 9 (some v) τ x) = _
    have hx : x < 2 ^ 9 := hd x rfl
    rw [ev_tmp, ev_tmp]
    by_cases e : t = x
    · subst e; rw [Tr.get_set 9 _ _ _ hx]; simp
    · rw [Tr.get_set_ne 9 _ _ _ _ hx e, if_neg]; intro h; injection h with h; exact e h.symm

/-- the slots look alike -/
def EqE (τ τ' : Env) : Prop := ∀ t, ev (.tmp t) τ = ev (.tmp t) τ'

theorem sameD_iff {a b : Option Nat} : sameD a b = true ↔ ∃ t, a = some t ∧ b = some t := by
  cases a <;> cases b <;> simp [sameD, Nat.beq_eq]
  exact eq_comm

theorem EqE.setD {d : Option Nat} (hd : ∀ x, d = some x → x < 512) {τ τ' : Env} (h : EqE τ τ') (v : Value) : EqE (setD d v τ) (setD d v τ') := fun t => by
  rw [ev_setD hd, ev_setD hd, h t]

theorem foldE_swap {S : Nat → Bool} {d : Option Nat} (hd : ∀ x, d = some x → x < 512) (v : Value) : ∀ {T : List (Rec H)} {τ τ' : Env}, (∀ q ∈ T, DstOk q) → (∀ q ∈ T, S q.nd.id = true → sameD d q.nd.i.dst = false) →
    EqE τ' (setD d v τ) → EqE (foldE S T τ') (setD d v (foldE S T τ))
  | [], _, _, _, _, h => h
  | q :: T, τ, τ', ho, hs, h => by
    rw [foldE_cons, foldE_cons]
    refine foldE_swap hd v (fun x hx => ho x (List.mem_cons_of_mem _ hx)) (fun x hx => hs x (List.mem_cons_of_mem _ hx)) ?_
    unfold estep
    split
    · rename_i hq
      have hne := hs q (List.mem_cons_self ..) hq
      have hoq := ho q (List.mem_cons_self ..)
      intro t
      rw [ev_setD hoq, h t, ev_setD hd, ev_setD hd, ev_setD hoq]
      split
      · rename_i h1
        rw [if_neg]
        intro h2
        rw [sameD_iff.2 ⟨t, h2, h1⟩] at hne; cases hne
      · rfl
    · exact h

theorem foldE_keep {S : Nat → Bool} {t : Nat} : ∀ {T : List (Rec H)} {τ : Env}, (∀ q ∈ T, DstOk q) → (∀ q ∈ T, S q.nd.id = true → q.nd.i.dst ≠ some t) → ev (.tmp t) (foldE S T τ) = ev (.tmp t) τ
  | [], _, _, _ => rfl
  | q :: T, τ, ho, h => by
    rw [foldE_cons, foldE_keep (fun x hx => ho x (List.mem_cons_of_mem _ hx)) (fun x hx => h x (List.mem_cons_of_mem _ hx))]
    unfold estep
    split
    · rename_i hq; rw [ev_setD (ho q (List.mem_cons_self ..)), if_neg (h q (List.mem_cons_self ..) hq)]
    · rfl

theorem foldE_all {S : Nat → Bool} {t : Nat} : ∀ {T : List (Rec H)} {τ τ' : Env}, (∀ q ∈ T, DstOk q) → (∀ q ∈ T, q.nd.i.dst = some t → S q.nd.id = true) → ev (.tmp t) τ = ev (.tmp t) τ' →
    ev (.tmp t) (foldE S T τ) = ev (.tmp t) (foldE (fun _ => true) T τ')
  | [], _, _, _, _, h => h
  | q :: T, τ, τ', ho, hs, h => by
    rw [foldE_cons, foldE_cons]
    refine foldE_all (fun x hx => ho x (List.mem_cons_of_mem _ hx)) (fun x hx => hs x (List.mem_cons_of_mem _ hx)) ?_
    have hoq := ho q (List.mem_cons_self ..)
    unfold estep
    rw [if_pos rfl]
    split
    · rw [ev_setD hoq, ev_setD hoq, h]
    · rename_i hq
      rw [ev_setD hoq, if_neg, h]
      exact fun e => hq (hs q (List.mem_cons_self ..) e)

variable {call : (CallF H)} {τ τ' : Env} {σ σ' : (St H)} {T : List (Rec H)}

theorem chain_split : ∀ {T1 : List (Rec H)} {r : (Rec H)} {T2 : List (Rec H)} {τ} {σ : St H} {τ'} {σ' : St H}, Chain τ σ (T1 ++ r :: T2) τ' σ' → Chain τ σ T1 r.τ r.σ ∧ Chain (setD r.nd.i.dst r.v r.τ) r.σ' T2 τ' σ'
  | [], r, T2, _, _, _, _, h => by cases h with | cons h => exact ⟨.nil, h⟩
  | p :: T1, r, T2, _, _, _, _, h => by
    cases h with
    | cons h => obtain ⟨h1, h2⟩ := chain_split h; exact ⟨.cons h1, h2⟩

theorem foldE_chain (h : Chain τ σ T τ' σ') : foldE (fun _ => true) T τ = τ' := by
  induction h with
  | nil => rfl
  | cons h ih => rw [foldE_cons]; exact ih

theorem chain_nxt (h : Chain τ σ T τ' σ') (hg : ∀ r ∈ T, Good call r) : σ.nxt ≤ σ'.nxt := by
  induction h with
  | nil => exact Nat.le_refl _
  | cons h ih => exact Nat.le_trans (hg _ (List.mem_cons_self ..)).nxt (ih fun r hr => hg r (List.mem_cons_of_mem _ hr))

theorem chain_mem_nxt {τ} {σ : St H} {τ'} {σ' : St H} (h : Chain τ σ T τ' σ') (hg : ∀ r ∈ T, Good call r) {r : (Rec H)} (hr : r ∈ T) : σ.nxt ≤ r.σ.nxt ∧ r.σ'.nxt ≤ σ'.nxt := by
  obtain ⟨T1, T2, rfl⟩ := List.append_of_mem hr
  obtain ⟨h1, h2⟩ := chain_split h
  exact ⟨chain_nxt h1 fun x hx => hg x (List.mem_append_left _ hx), chain_nxt h2 fun x hx => hg x (List.mem_append_right _ (List.mem_cons_of_mem _ hx))⟩

def KlOk (r : (Rec H)) : Prop := r.nd.kl = klass r.nd.i.op

/-- what an allocation in the records did -/
theorem alloc_rec {r : (Rec H)} (hg : Good call r) (hk : KlOk r) (ha : r.nd.kl = .alloc) (hy : yesO r.nd.i.guard r.τ = true) :
    ∃ o, o.writable = true ∧ H.ok r.σ.nxt = true ∧ r.σ' = ⟨H.set r.σ.heap r.σ.nxt (some o), r.σ.nxt + 1⟩ ∧ r.σ'.obj r.σ.nxt = some o ∧
      (∀ call2 h2, aop r.nd.i.op call2 r.τ ⟨h2, r.σ.nxt⟩ = some (r.v, ⟨H.set h2 r.σ.nxt (some o), r.σ.nxt + 1⟩)) := by
  rcases hg.ran with ⟨_, hv⟩ | ⟨hn, _⟩
  · obtain ⟨o, h1, h2, h3, h4⟩ := allocs_of _ (hk ▸ ha) _ _ _ _ _ hv
    exact ⟨o, h1, h2, h3, by rw [h3]; exact St.obj_mk_same _ _ _ _ h2, h4⟩
  · rw [hy] at hn; cases hn

theorem same_rec {r : (Rec H)} (hg : Good call r) (hk : KlOk r) (ha : r.nd.kl = .pure ∨ r.nd.kl = .read) : r.σ' = r.σ := by
  rcases hg.ran with ⟨_, hv⟩ | ⟨_, _, h⟩
  · rcases ha with ha | ha
    · exact (pure_of _ (hk ▸ ha) _ _ _ _ _ hv).1
    · exact (reads_of _ (hk ▸ ha) _ _ _ _ _ hv).1
  · exact h

theorem foldH_chain {S : Nat → Bool} (h : Chain τ σ T τ' σ') (hg : ∀ r ∈ T, Good call r) (hk : ∀ r ∈ T, KlOk r) (hs : ∀ r ∈ T, r.nd.kl = .alloc ∨ r.nd.kl = .eff → S r.nd.id = true) : foldH S T σ.heap = σ'.heap := by
  induction h with
  | nil => rfl
  | @cons r T τ' σ' h ih =>
    have hgr := hg r (List.mem_cons_self ..)
    have hkr := hk r (List.mem_cons_self ..)
    rw [foldH_cons, ← ih (fun x hx => hg x (List.mem_cons_of_mem _ hx)) (fun x hx => hk x (List.mem_cons_of_mem _ hx)) (fun x hx => hs x (List.mem_cons_of_mem _ hx))]
    congr 1
    have hsr := hs r (List.mem_cons_self ..)
    unfold hstep
    cases hkl : r.nd.kl with
    | pure => rw [same_rec hgr hkr (.inl hkl)]; simp
    | read => rw [same_rec hgr hkr (.inr hkl)]; simp
    | eff => rw [if_pos (hsr (.inr hkl))]
    | alloc =>
      rw [if_pos (hsr (.inl hkl))]
      simp only
      split
      · rename_i hy
        obtain ⟨o, _, _, h3, h4, _⟩ := alloc_rec hgr hkr hkl hy
        rw [h4, h3]
      · rename_i hy
        rcases hgr.ran with ⟨h1, _⟩ | ⟨_, _, h1⟩
        · exact absurd h1 hy
        · rw [h1]

/-- the blocks that were laid early stand over any heap -/
theorem foldH_over {S : Nat → Bool} : ∀ {T : List (Rec H)}, (∀ r ∈ T, Good call r) → (∀ r ∈ T, KlOk r) → (∀ r ∈ T, S r.nd.id = true → r.nd.kl ≠ .eff) →
    ∃ x : Nat → Option AObj, (∀ h k b, St.obj ⟨foldH S T h, k⟩ b = (x b).or (St.obj ⟨h, k⟩ b)) ∧
      ∀ b o, x b = some o → o.writable = true ∧ ∃ q ∈ T, S q.nd.id = true ∧ b = q.σ.nxt ∧ q.σ.nxt < q.σ'.nxt
  | [], _, _, _ => ⟨fun _ => none, fun _ _ _ => rfl, fun _ _ h => by cases h⟩
  | r :: T, hg, hk, hs => by
    obtain ⟨x, h1, h2⟩ := foldH_over (T := T) (fun x hx => hg x (List.mem_cons_of_mem _ hx)) (fun x hx => hk x (List.mem_cons_of_mem _ hx)) (fun x hx => hs x (List.mem_cons_of_mem _ hx))
    have hgr := hg r (List.mem_cons_self ..)
    have hkr := hk r (List.mem_cons_self ..)
    have back : (∀ h, hstep S h r = h) → ∃ x : Nat → Option AObj, (∀ h k b, St.obj ⟨foldH S (r :: T) h, k⟩ b = (x b).or (St.obj ⟨h, k⟩ b)) ∧
        ∀ b o, x b = some o → o.writable = true ∧ ∃ q ∈ r :: T, S q.nd.id = true ∧ b = q.σ.nxt ∧ q.σ.nxt < q.σ'.nxt := fun he => by
      refine ⟨x, fun h k b => by rw [foldH_cons, he]; exact h1 h k b, fun b o hb => ?_⟩
      obtain ⟨a, q, b, c⟩ := h2 b o hb
      exact ⟨a, q, List.mem_cons_of_mem _ b, c⟩
    by_cases hsr : S r.nd.id = true
    · cases hkl : r.nd.kl with
      | pure => exact back fun h => by unfold hstep; rw [hkl]; simp
      | read => exact back fun h => by unfold hstep; rw [hkl]; simp
      | eff => exact absurd hkl (hs r (List.mem_cons_self ..) hsr)
      | alloc =>
        by_cases hy : yesO r.nd.i.guard r.τ = true
        · obtain ⟨o, ho1, ho2, ho3, ho4, _⟩ := alloc_rec hgr hkr hkl hy
          refine ⟨fun b => (x b).or (if b = r.σ.nxt then some o else none), fun h k b => ?_, fun b o' hb => ?_⟩
          · have : hstep S h r = H.set h r.σ.nxt (some o) := by unfold hstep; rw [if_pos hsr, hkl]; simp only; rw [if_pos hy, ho4]
            rw [foldH_cons, this, h1]
            show _ = ((x b).or (if b = r.σ.nxt then some o else none)).or _
            by_cases e : b = r.σ.nxt
            · subst e
              rw [St.obj_mk_same _ _ _ _ ho2, if_pos rfl]
              cases x r.σ.nxt <;> rfl
            · rw [St.obj_mk_ne _ _ _ _ _ ho2 e, if_neg e]
              cases x b <;> rfl
          · have hb : (x b).or (if b = r.σ.nxt then some o else none) = some o' := hb
            cases hx : x b with
            | some o2 =>
              rw [hx] at hb
              have : o2 = o' := by injection hb
              subst this
              obtain ⟨a, q, b, c⟩ := h2 b o2 hx
              exact ⟨a, q, List.mem_cons_of_mem _ b, c⟩
            | none =>
              rw [hx] at hb
              by_cases e : b = r.σ.nxt
              · rw [if_pos e] at hb
                have : o = o' := by injection hb
                subst this
                exact ⟨ho1, r, List.mem_cons_self .., hsr, e, by rw [ho3]; exact Nat.lt_succ_self _⟩
              · rw [if_neg e] at hb; cases hb
        · exact back fun h => by unfold hstep; rw [hkl]; simp [hy]
    · exact back fun h => by unfold hstep; rw [if_neg hsr]

theorem foldH_comm {S : Nat → Bool} {k : Nat} {u : Option AObj} (hk8 : H.ok k = true) : ∀ {T : List (Rec H)} (h : H.T), (∀ r ∈ T, Good call r) → (∀ r ∈ T, KlOk r) → (∀ r ∈ T, S r.nd.id = true → r.nd.kl ≠ .eff) → (∀ r ∈ T, k < r.σ.nxt) →
    foldH S T (H.set h k u) = H.set (foldH S T h) k u
  | [], _, _, _, _, _ => rfl
  | r :: T, h, hg, hk, hs, hn => by
    have hgr := hg r (List.mem_cons_self ..)
    have hkr := hk r (List.mem_cons_self ..)
    have hnr := hn r (List.mem_cons_self ..)
    have : hstep S (H.set h k u) r = H.set (hstep S h r) k u := by
      unfold hstep
      by_cases hsr : S r.nd.id = true
      · rw [if_pos hsr, if_pos hsr]
        cases hkl : r.nd.kl with
        | pure => rfl
        | read => rfl
        | eff => exact absurd hkl (hs r (List.mem_cons_self ..) hsr)
        | alloc =>
          simp only
          by_cases hy : yesO r.nd.i.guard r.τ = true
          · rw [if_pos hy, if_pos hy]
            obtain ⟨o, _, h8, _⟩ := alloc_rec hgr hkr hkl hy
            exact (H.set_comm _ _ _ _ _ hk8 h8 (by omega))
          · rw [if_neg hy, if_neg hy]
      · rw [if_neg hsr, if_neg hsr]
    rw [foldH_cons, foldH_cons, this]
    exact foldH_comm hk8 _ (fun x hx => hg x (List.mem_cons_of_mem _ hx)) (fun x hx => hk x (List.mem_cons_of_mem _ hx)) (fun x hx => hs x (List.mem_cons_of_mem _ hx)) (fun x hx => hn x (List.mem_cons_of_mem _ hx))

/-- what stands behind it stood before, or is new -/
def ObjsP (σ σ' : (St H)) : Prop := ∀ b o, σ'.obj b = some o → (∃ o0, σ.obj b = some o0) ∨ (σ.nxt ≤ b ∧ b < σ'.nxt)

theorem chain_none (h : Chain τ σ T τ' σ') (hg : ∀ r ∈ T, Good call r) (hk : ∀ r ∈ T, KlOk r) (ho : ∀ r ∈ T, r.nd.kl = .eff → ObjsP r.σ r.σ') : ∀ b, σ'.nxt ≤ b → σ.obj b = none → σ'.obj b = none := by
  induction h with
  | nil => exact fun b _ h => h
  | @cons r T τ' σ' h ih =>
    have hgr := hg r (List.mem_cons_self ..)
    have hkr := hk r (List.mem_cons_self ..)
    have hg' : ∀ r ∈ T, Good call r := fun x hx => hg x (List.mem_cons_of_mem _ hx)
    intro b hb hn
    refine ih hg' (fun x hx => hk x (List.mem_cons_of_mem _ hx)) (fun x hx => ho x (List.mem_cons_of_mem _ hx)) b hb ?_
    have hle := chain_nxt h hg'
    cases hkl : r.nd.kl with
    | pure => rw [same_rec hgr hkr (.inl hkl)]; exact hn
    | read => rw [same_rec hgr hkr (.inr hkl)]; exact hn
    | eff =>
      cases hc : r.σ'.obj b with
      | none => rfl
      | some o =>
        rcases ho r (List.mem_cons_self ..) hkl b o hc with ⟨o0, h0⟩ | ⟨_, h0⟩
        · rw [hn] at h0; cases h0
        · omega
    | alloc =>
      by_cases hy : yesO r.nd.i.guard r.τ = true
      · obtain ⟨o, _, h8, h3, _⟩ := alloc_rec hgr hkr hkl hy
        rw [h3] at hle ⊢
        have hle : r.σ.nxt + 1 ≤ σ'.nxt := hle
        rw [St.obj_mk_ne _ _ _ _ _ h8 (by omega)]
        exact hn
      · rcases hgr.ran with ⟨h1, _⟩ | ⟨_, _, h1⟩
        · exact absurd h1 hy
        · rw [h1]; exact hn

end Go.Ax

namespace Go.Ax
open Go
variable {H : HeapI}

variable {M M' M0 : Mp} {σ σ' σ0 : (St H)} {w w' w0 : World}

theorem HRel.sub {σ2 : (St H)} (h : HRel M σ w) (hs : St.sub σ2 σ) : HRel M σ2 w :=
  ⟨fun b o hb => h.at_ b o (hs _ _ hb), fun b b' o o' _ _ _ _ _ _ h1 h2 => h.apart b b' o o' _ _ _ _ _ _ (hs _ _ h1) (hs _ _ h2)⟩

theorem Goes.frame (g : Goes M σ w M' σ' w') {G G' : H.T} {k k' : Nat} {x : Nat → Option AObj} (h1 : ∀ b, St.obj ⟨G, k⟩ b = (x b).or (σ.obj b)) (h2 : ∀ b, St.obj ⟨G', k'⟩ b = (x b).or (σ'.obj b))
    (hx : ∀ b o, x b = some o → o.writable = true ∧ σ.obj b = none) (hH : HRel M ⟨G, k⟩ w) (hk : k = σ.nxt) (hk' : k' = σ'.nxt) : Goes M ⟨G, k⟩ w M' ⟨G', k'⟩ w' := by
  subst hk; subst hk'
  have inH : ∀ b o, x b = some o → St.obj ⟨G, σ.nxt⟩ b = some o := fun b o h => by rw [h1, h]; rfl
  have inH' : ∀ b o, x b = none → σ.obj b = some o → St.obj ⟨G, σ.nxt⟩ b = some o := fun b o h h' => by rw [h1, h, h']; rfl
  have sub : ∀ b o, σ.obj b = some o → St.obj ⟨G, σ.nxt⟩ b = some o := fun b o h => by
    cases hxb : x b with
    | none => exact inH' b o hxb h
    | some o' => rw [(hx b o' hxb).2] at h; cases h
  have outH' : ∀ b o, St.obj ⟨G', σ'.nxt⟩ b = some o → (x b = some o) ∨ (x b = none ∧ σ'.obj b = some o) := fun b o h => by
    rw [h2] at h
    cases hxb : x b with
    | none => rw [hxb] at h; exact .inr ⟨rfl, h⟩
    | some o' => rw [hxb] at h; injection h with h; exact .inl (by rw [h])
  -- an early block stands apart from all that the step may turn
  have far : ∀ b o B O q, x b = some o → M b = some (B, O, q) → ¬ FP M σ B := fun b o B O q hxb hM => by
    rintro ⟨b2, o2, O2, q2, h3, h4, h5⟩
    have hne : b2 ≠ b := fun e => by subst e; rw [(hx _ _ hxb).2] at h3; cases h3
    exact hH.apart b2 b o2 o _ _ _ _ _ _ (sub _ _ h3) (inH _ _ hxb) h4 hne h5 hM rfl
  have mx : ∀ b o, x b = some o → ∃ B O q, M b = some (B, O, q) ∧ M' b = some (B, O, q) ∧ ObjRel M B O q w o := fun b o hxb => by
    obtain ⟨B, O, q, hM, hr⟩ := hH.at_ b o (inH b o hxb)
    exact ⟨B, O, q, hM, g.le _ _ hM, hr⟩
  refine ⟨g.le, g.only, g.nxt, ⟨?_, ?_⟩, ?_, ?_, g.size, g.tape, g.os, g.output, ?_⟩
  · intro b o hb
    rcases outH' b o hb with hxb | ⟨_, h⟩
    · obtain ⟨B, O, q, hM, hM', hr⟩ := mx b o hxb
      exact ⟨B, O, q, hM', hr.keep g.le (g.keep B hr.lt (far b o B O q hxb hM))⟩
    · exact g.rel.at_ b o h
  · intro b b' o o' B O q B' O' q' hb hb' hw hne hm hm'
    rcases outH' b o hb with hxb | ⟨hxb, hb⟩ <;> rcases outH' b' o' hb' with hxb' | ⟨hxb', hb'⟩
    · obtain ⟨B1, O1, q1, hM1, hM1', _⟩ := mx b o hxb
      obtain ⟨B2, O2, q2, hM2, hM2', _⟩ := mx b' o' hxb'
      rw [hm] at hM1'; injection hM1' with e; injection e with e1 e; subst e1
      rw [hm'] at hM2'; injection hM2' with e; injection e with e2 e; subst e2
      exact hH.apart b b' o o' _ _ _ _ _ _ (inH _ _ hxb) (inH _ _ hxb') hw hne hM1 hM2
    · obtain ⟨B1, O1, q1, hM1, hM1', hr1⟩ := mx b o hxb
      rw [hm] at hM1'; injection hM1' with e; injection e with e1 e; subst e1
      rcases g.objs b' o' hb' with ⟨o0, h0, hw0⟩ | ⟨hw', _⟩
      · obtain ⟨B2, O2, q2, hM2, _⟩ := hH.at_ b' o0 (inH' _ _ hxb' h0)
        have := g.le _ _ hM2
        rw [hm'] at this; injection this with e; injection e with e2 e; subst e2
        exact hH.apart b b' o o0 _ _ _ _ _ _ (inH _ _ hxb) (inH' _ _ hxb' h0) hw hne hM1 hM2
      · rcases g.foot B' ⟨b', o', O', q', hb', hw', hm'⟩ with hf | hf
        · intro e; subst e; exact far b o _ _ _ hxb hM1 hf
        · have := hr1.lt; omega
    · obtain ⟨B1, O1, q1, hM1, hM1', hr1⟩ := mx b' o' hxb'
      rw [hm'] at hM1'; injection hM1' with e; injection e with e1 e; subst e1
      rcases g.foot B ⟨b, o, O, q, hb, hw, hm⟩ with hf | hf
      · intro e; subst e; exact far b' o' _ _ _ hxb' hM1 hf
      · have := hr1.lt; omega
    · exact g.rel.apart b b' o o' _ _ _ _ _ _ hb hb' hw hne hm hm'
  · rintro B ⟨b, o, O, q, hb, hw, hm⟩
    rcases outH' b o hb with hxb | ⟨_, hb⟩
    · obtain ⟨B1, O1, q1, hM1, hM1', _⟩ := mx b o hxb
      rw [hm] at hM1'; injection hM1' with e; injection e with e1 e; subst e1
      exact .inl ⟨b, o, _, _, inH _ _ hxb, hw, hM1⟩
    · rcases g.foot B ⟨b, o, O, q, hb, hw, hm⟩ with ⟨b2, o2, O2, q2, h3, h4, h5⟩ | hf
      · exact .inl ⟨b2, o2, O2, q2, sub _ _ h3, h4, h5⟩
      · exact .inr hf
  · intro B hB hn
    refine g.keep B hB fun hf => hn ?_
    obtain ⟨b2, o2, O2, q2, h3, h4, h5⟩ := hf
    exact ⟨b2, o2, O2, q2, sub _ _ h3, h4, h5⟩
  · intro b o hb
    rcases outH' b o hb with hxb | ⟨hxb, hb⟩
    · exact .inl ⟨o, inH _ _ hxb, rfl⟩
    · rcases g.objs b o hb with ⟨o0, h0, hw⟩ | h
      · exact .inl ⟨o0, inH' _ _ hxb h0, hw⟩
      · exact .inr h

/-- a step within a span of numbers, behind others of that span -/
theorem Goes.then {G G' : H.T} {hi lo' hi' : Nat} (g : Goes M0 σ0 w0 M ⟨G, hi⟩ w) (g' : Goes M ⟨G, lo'⟩ w M' ⟨G', hi'⟩ w') (h1 : σ0.nxt ≤ lo') (h2 : hi' ≤ hi) : Goes M0 σ0 w0 M' ⟨G', hi⟩ w' where
  le := Mp.le_trans g.le g'.le
  only b hb := by
    by_cases e : M' b = M b
    · exact g.only b (by rw [← e]; exact hb)
    · have := g'.only b e; exact ⟨Nat.le_trans h1 this.1, Nat.lt_of_lt_of_le this.2 h2⟩
  nxt := g.nxt
  rel := ⟨g'.rel.at_, g'.rel.apart⟩
  foot B hB := by
    rcases g'.foot B hB with hf | hf
    · exact g.foot B hf
    · exact .inr (Nat.le_trans g.size hf)
  keep B hB hn := by
    rw [g'.keep B (Nat.lt_of_lt_of_le hB g.size) (fun hf => ?_), g.keep B hB hn]
    rcases g.foot B hf with hf | hf
    · exact hn hf
    · omega
  size := Nat.le_trans g.size g'.size
  tape := g'.tape.trans g.tape
  os := g'.os.trans g.os
  output := g'.output.trans g.output
  objs b o hb := by
    rcases g'.objs b o hb with ⟨o0, h0, e0⟩ | ⟨hw, h3, h4⟩
    · rcases g.objs b o0 h0 with ⟨o1, h5, e1⟩ | ⟨hw, h3, h4⟩
      · exact .inl ⟨o1, h5, e1.trans e0⟩
      · exact .inr ⟨e0 ▸ hw, h3, h4⟩
    · exact .inr ⟨hw, Nat.le_trans h1 h3, Nat.lt_of_lt_of_le h4 h2⟩

theorem Goes.objsP (g : Goes M σ w M' σ' w') : ObjsP σ σ' := fun b o hb => by
  rcases g.objs b o hb with ⟨o0, h, _⟩ | ⟨_, h⟩
  · exact .inl ⟨o0, h⟩
  · exact .inr h

end Go.Ax

namespace Go.Ax
open Go
variable {H : HeapI}

structure Ctx (call : (CallF H)) (T : List (Rec H)) (τ0 : Env) (σ0 : (St H)) (τf : Env) (σf : (St H)) : Prop where
  chain : Chain τ0 σ0 T τf σf
  good : ∀ r ∈ T, Good call r
  again : T.Pairwise Again
  before : T.Pairwise fun p x => Before p.nd x.nd
  kl : ∀ r ∈ T, KlOk r
  dst : ∀ r ∈ T, DstOk r
  none0 : ∀ b, σ0.nxt ≤ b → b < σf.nxt → σ0.obj b = none

structure Inv (n : Nat) (T : List (Rec H)) (τ0 : Env) (σ0 σf : (St H)) (M0 : Mp) (w0 : World) (d0 : List Deferred) (S : Nat → Bool) (M : Mp) (a : Act) (w : World) : Prop where
  E : ERel n M (foldE S T τ0) a.tmps
  D : ∀ r ∈ T, S r.nd.id = false → ∀ b, r.σ.nxt ≤ b → b < r.σ'.nxt → M b = none
  O : ∀ r ∈ T, S r.nd.id = true → r.nd.kl = .eff → ObjsP r.σ r.σ'
  G : Goes M0 σ0 w0 M ⟨foldH S T σ0.heap, σf.nxt⟩ w
  defers : a.defers = d0
  B : Base M

def Closed (T : List (Rec H)) (S : Nat → Bool) : Prop := ∀ r ∈ T, S r.nd.id = true → ∀ j, r.nd.mask.testBit j = true → S j = true

theorem must_clash {p x : Nd} (h : clash p.i x.i = true) : must p x = true := by simp [must, h]
theorem must_kl {p x : Nd} (h : (p.kl = .eff ∨ p.kl = .alloc) ∧ (x.kl = .eff ∨ x.kl = .read)) : must p x = true := by
  unfold must
  rcases h with ⟨h1 | h1, h2 | h2⟩ <;> rw [h1, h2] <;> simp

theorem hasD_iff {d : Option Nat} {l : List Nat} : hasD d l = true ↔ ∃ t, d = some t ∧ t ∈ l := by
  cases d <;> simp [hasD, memN_iff]

theorem ai_of {i : AI} {call : (CallF H)} {τ : Env} {σ σ' : (St H)} {v : Value} (h : (yesO i.guard τ = true ∧ aop i.op call τ σ = some (v, σ')) ∨ (yesO i.guard τ = false ∧ v = undefV ∧ σ' = σ)) :
    ai i call τ σ = some (setD i.dst v τ, σ') := by
  obtain ⟨d, op, g⟩ := i
  cases g with
  | none =>
    rcases h with ⟨_, h⟩ | ⟨h, _⟩
    · rw [ai_none]; unfold doOp; simp only at h; rw [h]
    · cases h
  | some p =>
    obtain ⟨t, b⟩ := p
    rw [ai_some]
    rcases h with ⟨hy, h⟩ | ⟨hy, h1, h2⟩
    · have hy : yes t b τ = true := hy
      rw [hy]; show doOp op d call τ σ = _; unfold doOp; simp only at h; rw [h]
    · have hy : yes t b τ = false := hy
      rw [hy, h1, h2]; rfl

theorem last_eff (S : Nat → Bool) : ∀ T : List (Rec H), (∀ q ∈ T, S q.nd.id = true → q.nd.kl ≠ .eff) ∨
    ∃ Ta e Tb, T = Ta ++ e :: Tb ∧ S e.nd.id = true ∧ e.nd.kl = .eff ∧ ∀ q ∈ Tb, S q.nd.id = true → q.nd.kl ≠ .eff
  | [] => .inl fun q hq => by cases hq
  | r :: T => by
    rcases last_eff S T with h | ⟨Ta, e, Tb, h1, h2, h3, h4⟩
    · by_cases hr : S r.nd.id = true ∧ r.nd.kl = .eff
      · exact .inr ⟨[], r, T, rfl, hr.1, hr.2, h⟩
      · refine .inl fun q hq hs hk => ?_
        rcases List.mem_cons.1 hq with rfl | hq
        · exact hr ⟨hs, hk⟩
        · exact h q hq hs hk
    · exact .inr ⟨r :: Ta, e, Tb, by rw [h1]; rfl, h2, h3, h4⟩

theorem ERel.congr {n : Nat} {M : Mp} {τ τ' : Env} {tmps : Array Value} (h : ERel n M τ tmps) (e : EqE τ' τ) : ERel n M τ' tmps := ⟨h.size, fun t ht => by rw [e t]; exact h.at_ t ht⟩

section
variable {P : Program} {n : Nat} {call : (CallF H)} {T1 T2 : List (Rec H)} {r : (Rec H)} {τ0 τf : Env} {σ0 σf : (St H)} {M0 M : Mp} {w0 w : World} {d0 : List Deferred} {S S' : Nat → Bool} {a : Act}
  (hX : Ctx call (T1 ++ r :: T2) τ0 σ0 τf σf) (hI : Inv n (T1 ++ r :: T2) τ0 σ0 σf M0 w0 d0 S M a w) (hcl : Closed (T1 ++ r :: T2) S)
  (hr : S r.nd.id = false) (hm : ∀ j, r.nd.mask.testBit j = true → S j = true)
include hX hcl hr hm

theorem bef1 {p : (Rec H)} (hp : p ∈ T1) : Before p.nd r.nd := (List.pairwise_append.1 hX.before).2.2 p hp r (List.mem_cons_self ..)
theorem bef2 {q : (Rec H)} (hq : q ∈ T2) : Before r.nd q.nd := (List.pairwise_cons.1 (List.pairwise_append.1 hX.before).2.1).1 q hq

/-- what must stand ahead of r is done -/
theorem done1 {p : (Rec H)} (hp : p ∈ T1) (h : must p.nd r.nd = true) : S p.nd.id = true := hm _ ((bef1 hX hcl hr hm hp).2 h)
/-- what must stand behind r is not -/
theorem not2 {q : (Rec H)} (hq : q ∈ T2) (hs : S q.nd.id = true) : must r.nd q.nd = false := by
  cases h : must r.nd q.nd with
  | false => rfl
  | true =>
    have := hcl q (List.mem_append_right _ (List.mem_cons_of_mem _ hq)) hs _ ((bef2 hX hcl hr hm hq).2 h)
    rw [hr] at this; cases this

theorem foldE_at : foldE S (T1 ++ r :: T2) τ0 = foldE S T2 (foldE S T1 τ0) := by
  rw [foldE_append, foldE_cons]; unfold estep; rw [if_neg (by rw [hr]; simp)]
theorem foldH_at (h : H.T) : foldH S (T1 ++ r :: T2) h = foldH S T2 (foldH S T1 h) := by
  rw [foldH_append, foldH_cons]; unfold hstep; rw [if_neg (by rw [hr]; simp)]

theorem alike_at : Alike (readsI r.nd.i) (foldE S (T1 ++ r :: T2) τ0) r.τ := by
  intro t ht
  obtain ⟨hc1, _⟩ := chain_split hX.chain
  have k1 : ∀ q ∈ T2, S q.nd.id = true → q.nd.i.dst ≠ some t := fun q hq hs e => by
    have h1 : hasD q.nd.i.dst (readsI r.nd.i) = true := hasD_iff.2 ⟨t, e, ht⟩
    have h2 := not2 hX hcl hr hm hq hs
    rw [must_clash (by unfold clash; rw [h1]; simp)] at h2; cases h2
  have k2 : ∀ p ∈ T1, p.nd.i.dst = some t → S p.nd.id = true := fun p hp e => by
    have h1 : hasD p.nd.i.dst (readsI r.nd.i) = true := hasD_iff.2 ⟨t, e, ht⟩
    exact done1 hX hcl hr hm hp (must_clash (by unfold clash; rw [h1]; simp))
  rw [foldE_at hX hcl hr hm, foldE_keep (fun q hq => hX.dst q (List.mem_append_right _ (List.mem_cons_of_mem _ hq))) k1,
    foldE_all (τ' := τ0) (fun p hp => hX.dst p (List.mem_append_left _ hp)) k2 rfl, foldE_chain hc1]

variable (hu : S' r.nd.id = true) (hu2 : ∀ k, k ≠ r.nd.id → S' k = S k)
include hu hu2

theorem same1 : ∀ p ∈ T1, S' p.nd.id = S p.nd.id := fun p hp => hu2 _ (bef1 hX hcl hr hm hp).1
theorem same2 : ∀ q ∈ T2, S' q.nd.id = S q.nd.id := fun q hq => hu2 _ (bef2 hX hcl hr hm hq).1.symm

theorem foldE_new : EqE (foldE S' (T1 ++ r :: T2) τ0) (setD r.nd.i.dst r.v (foldE S (T1 ++ r :: T2) τ0)) := by
  have hdr := hX.dst r (List.mem_append_right _ (List.mem_cons_self ..))
  rw [foldE_at hX hcl hr hm, foldE_append, foldE_cons, foldE_congr (T := T1) τ0 (same1 hX hcl hr hm hu hu2), show ∀ τ, estep S' τ r = setD r.nd.i.dst r.v τ from fun τ => by unfold estep; rw [if_pos hu],
    foldE_congr (T := T2) _ (same2 hX hcl hr hm hu hu2)]
  refine foldE_swap hdr r.v (fun q hq => hX.dst q (List.mem_append_right _ (List.mem_cons_of_mem _ hq))) (fun q hq hs => ?_) (fun _ => rfl)
  have h2 := not2 hX hcl hr hm hq hs
  cases h1 : sameD r.nd.i.dst q.nd.i.dst with
  | false => rfl
  | true => rw [must_clash (by unfold clash; rw [h1]; simp)] at h2; cases h2

theorem foldH_new (h : H.T) : foldH S' (T1 ++ r :: T2) h = foldH S T2 (hstep S' (foldH S T1 h) r) := by
  rw [foldH_append, foldH_cons, foldH_congr (T := T1) h (same1 hX hcl hr hm hu hu2), foldH_congr (T := T2) _ (same2 hX hcl hr hm hu hu2)]

include hI

/-- the heap ahead of r, where all that it may look at is done -/
theorem heap_at (hk : r.nd.kl = .eff ∨ r.nd.kl = .read) : foldH S T1 σ0.heap = r.σ.heap :=
  foldH_chain (chain_split hX.chain).1 (fun p hp => hX.good p (List.mem_append_left _ hp)) (fun p hp => hX.kl p (List.mem_append_left _ hp))
    fun p hp h => done1 hX hcl hr hm hp (must_kl ⟨h.symm, hk⟩)

theorem span {q : (Rec H)} (hq : q ∈ T2) : r.σ'.nxt ≤ q.σ.nxt ∧ q.σ'.nxt ≤ σf.nxt :=
  chain_mem_nxt (chain_split hX.chain).2 (fun x hx => hX.good x (List.mem_append_right _ (List.mem_cons_of_mem _ hx))) hq

/-- the number of a block laid early is free ahead of r -/
theorem free_at (hk : r.nd.kl = .eff ∨ r.nd.kl = .read) {q : (Rec H)} (hq : q ∈ T2) (hlt : q.σ.nxt < q.σ'.nxt) : r.σ.obj q.σ.nxt = none := by
  obtain ⟨h1, h2⟩ := chain_split hX.chain
  have hs := span hX hI hcl hr hm hu hu2 hq
  have hgr := (hX.good r (List.mem_append_right _ (List.mem_cons_self ..))).nxt
  have h0 := chain_nxt h1 (fun p hp => hX.good p (List.mem_append_left _ hp))
  refine chain_none h1 (fun p hp => hX.good p (List.mem_append_left _ hp)) (fun p hp => hX.kl p (List.mem_append_left _ hp)) (fun p hp he => ?_) _ (by omega) (hX.none0 _ (by omega) (by omega))
  exact hI.O p (List.mem_append_left _ hp) (done1 hX hcl hr hm hp (must_kl ⟨.inl he, hk⟩)) he

/-- a read finds what it found -/
theorem read_at (hk : r.nd.kl = .read) (hy : yesO r.nd.i.guard r.τ = true) : ∀ call2 k, aop r.nd.i.op call2 r.τ ⟨foldH S (T1 ++ r :: T2) σ0.heap, k⟩ = some (r.v, ⟨foldH S (T1 ++ r :: T2) σ0.heap, k⟩) := by
  intro call2 k
  have hkl : klass r.nd.i.op = .read := (hX.kl r (List.mem_append_right _ (List.mem_cons_self ..))) ▸ hk
  have hg2 : ∀ q ∈ T2, Good call q := fun q hq => hX.good q (List.mem_append_right _ (List.mem_cons_of_mem _ hq))
  have hk2 : ∀ q ∈ T2, KlOk q := fun q hq => hX.kl q (List.mem_append_right _ (List.mem_cons_of_mem _ hq))
  rcases last_eff S T2 with hno | ⟨Ta, e, Tb, rfl, he1, he2, he3⟩
  · rcases (hX.good r (List.mem_append_right _ (List.mem_cons_self ..))).ran with ⟨_, hv⟩ | ⟨hn, _⟩
    · refine (reads_of _ hkl _ _ _ _ _ hv).2 call2 _ fun b o hb => ?_
      obtain ⟨x, hx1, hx2⟩ := foldH_over hg2 hk2 hno
      rw [foldH_at hX hcl hr hm, hx1, heap_at hX hI hcl hr hm hu hu2 (.inr hk)]
      cases hxb : x b with
      | none => exact hb
      | some o' =>
        obtain ⟨_, q, hq, _, rfl, hlt⟩ := hx2 b o' hxb
        rw [free_at hX hI hcl hr hm hu hu2 (.inr hk) hq hlt] at hb; cases hb
    · rw [hy] at hn; cases hn
  · have heT : e ∈ Ta ++ e :: Tb := List.mem_append_right _ (List.mem_cons_self ..)
    have heA : e ∈ T1 ++ r :: (Ta ++ e :: Tb) := List.mem_append_right _ (List.mem_cons_of_mem _ heT)
    have hag : Again r e := (List.pairwise_cons.1 (List.pairwise_append.1 hX.again).2.1).1 e heT
    obtain ⟨σ2, hv⟩ := hag hk hy he2 (by
      cases h : e.nd.mask.testBit r.nd.id with
      | false => rfl
      | true => have := hcl e heA he1 _ h; rw [hr] at this; cases this)
    refine (reads_of _ hkl _ _ _ _ _ hv).2 call2 _ fun b o hb => ?_
    have hTb : ∀ q ∈ Tb, q ∈ Ta ++ e :: Tb := fun q hq => List.mem_append_right _ (List.mem_cons_of_mem _ hq)
    obtain ⟨x, hx1, hx2⟩ := foldH_over (fun q hq => hg2 q (hTb q hq)) (fun q hq => hk2 q (hTb q hq)) he3
    have hsplit : T1 ++ r :: (Ta ++ e :: Tb) = (T1 ++ r :: Ta) ++ e :: Tb := by simp
    have hch := hX.chain
    rw [hsplit] at hch
    obtain ⟨hc1, hc2⟩ := chain_split hch
    have hfold : foldH S (T1 ++ r :: (Ta ++ e :: Tb)) σ0.heap = foldH S Tb e.σ'.heap := by
      rw [hsplit, foldH_append, foldH_cons]
      congr 1
      unfold hstep
      rw [if_pos he1, he2]
    rw [hfold, hx1]
    cases hxb : x b with
    | none => exact hb
    | some o' =>
      obtain ⟨_, q, hq, _, rfl, hlt⟩ := hx2 b o' hxb
      have hgs : ∀ x ∈ (T1 ++ r :: Ta) ++ e :: Tb, Good call x := fun x hx => hX.good x (by rw [hsplit]; exact hx)
      have hs2 := chain_mem_nxt hc2 (fun x hx => hgs x (List.mem_append_right _ (List.mem_cons_of_mem _ hx))) hq
      have hge := (hX.good e heA).nxt
      have h0 := chain_nxt hc1 (fun x hx => hgs x (List.mem_append_left _ hx))
      have hpre : ∀ p ∈ T1 ++ r :: Ta, p ∈ T1 ++ r :: (Ta ++ e :: Tb) := fun p hp => by rw [hsplit]; exact List.mem_append_left _ hp
      have hbef : ∀ p ∈ T1 ++ r :: Ta, Before p.nd e.nd := fun p hp => by
        have := hX.before
        rw [hsplit] at this
        exact (List.pairwise_append.1 this).2.2 p hp e (List.mem_cons_self ..)
      have hnone : e.σ.obj q.σ.nxt = none := chain_none hc1 (fun p hp => hX.good p (hpre p hp)) (fun p hp => hX.kl p (hpre p hp)) (fun p hp hpe =>
        hI.O p (hpre p hp) (hcl e heA he1 _ ((hbef p hp).2 (must_kl ⟨.inl hpe, .inl he2⟩))) hpe) _ (by omega) (hX.none0 _ (by omega) (by omega))
      rcases hI.O e heA he1 he2 _ _ hb with ⟨o0, h5⟩ | ⟨_, h5⟩
      · rw [hnone] at h5; cases h5
      · omega

/-- how r goes in the slots as they stand now -/
theorem ran_at : yesO r.nd.i.guard (foldE S (T1 ++ r :: T2) τ0) = yesO r.nd.i.guard r.τ ∧ ∀ σ, aop r.nd.i.op call (foldE S (T1 ++ r :: T2) τ0) σ = aop r.nd.i.op call r.τ σ := by
  have h := alike_at (τ0 := τ0) hX hcl hr hm
  exact ⟨yesO_congr (h : Alike (gT r.nd.i.guard ++ reads r.nd.i.op) _ _).left, fun σ => aop_congr _ (h : Alike (gT r.nd.i.guard ++ reads r.nd.i.op) _ _).right⟩

/-- r is done: on the heaps -/
theorem step_at (hC : CallOK P call) (hn : n ≤ 512) {ops : Array Oper} {o : Oper} (ho : ops[r.nd.id]? = some o) (hi : r.nd.i = cai P n ops.toList o) (b : Frame) (k : List Item) (cs : List Frame) (rest : List Nat) :
    ∃ M' a' w', Inv n (T1 ++ r :: T2) τ0 σ0 σf M0 w0 d0 S' M' a' w' ∧ Steps P (lone (b.at a (.inRegion ops (r.nd.id :: rest) :: k)) cs w) (lone (b.at a' (.inRegion ops rest :: k)) cs w') := by
  have hrT : r ∈ T1 ++ r :: T2 := List.mem_append_right _ (List.mem_cons_self ..)
  have hgr := hX.good r hrT
  have hkr := hX.kl r hrT
  obtain ⟨hya, hra⟩ := ran_at hX hI hcl hr hm hu hu2
  have hH : HRel M ⟨foldH S (T1 ++ r :: T2) σ0.heap, r.σ.nxt⟩ w := ⟨hI.G.rel.at_, hI.G.rel.apart⟩
  have hfr : Fresh M r.σ r.σ' := ⟨fun b h1 h2 => hI.D r hrT hr b h1 h2, hI.B⟩
  obtain ⟨hc1, hc2⟩ := chain_split hX.chain
  have h0 := chain_nxt hc1 (fun p hp => hX.good p (List.mem_append_left _ hp))
  have hf := chain_nxt hc2 (fun x hx => hX.good x (List.mem_append_right _ (List.mem_cons_of_mem _ hx)))
  -- it is enough to have the step on the heaps
  suffices ∃ M' a' w', a'.defers = a.defers ∧ ERel n M' (setD r.nd.i.dst r.v (foldE S (T1 ++ r :: T2) τ0)) a'.tmps ∧
      Goes M ⟨foldH S (T1 ++ r :: T2) σ0.heap, r.σ.nxt⟩ w M' ⟨foldH S' (T1 ++ r :: T2) σ0.heap, r.σ'.nxt⟩ w' ∧ (r.nd.kl = .eff → ObjsP r.σ r.σ') ∧
      Steps P (lone (b.at a (.inRegion ops (r.nd.id :: rest) :: k)) cs w) (lone (b.at a' (.inRegion ops rest :: k)) cs w') by
    obtain ⟨M', a', w', e1, e2, e3, e4, e5⟩ := this
    refine ⟨M', a', w', ⟨e2.congr (foldE_new hX hcl hr hm hu hu2), fun q hq hqs bb hb1 hb2 => ?_, fun q hq hqs hqe => ?_, hI.G.then e3 h0 hf, e1.trans hI.defers, hI.B.le e3.le⟩, e5⟩
    · have hne : q.nd.id ≠ r.nd.id := fun e => by rw [e, hu] at hqs; cases hqs
      rw [hu2 _ hne] at hqs
      have hM := hI.D q hq hqs bb hb1 hb2
      by_cases e : M' bb = M bb
      · rw [e, hM]
      · have hon := e3.only bb e
        simp only at hon
        rcases List.mem_append.1 hq with hq | hq
        · have := chain_mem_nxt hc1 (fun p hp => hX.good p (List.mem_append_left _ hp)) hq
          omega
        · rcases List.mem_cons.1 hq with rfl | hq
          · exact absurd rfl hne
          · have := span hX hI hcl hr hm hu hu2 hq
            omega
    · by_cases hne : q.nd.id = r.nd.id
      · have : q = r := by
          rcases List.mem_append.1 hq with hq | hq
          · exact absurd hne (bef1 hX hcl hr hm hq).1
          · rcases List.mem_cons.1 hq with rfl | hq
            · rfl
            · exact absurd hne.symm (bef2 hX hcl hr hm hq).1
        subst this
        exact e4 hqe
      · rw [hu2 _ hne] at hqs
        exact hI.O q hq hqs hqe
  -- run it at a heap of our choice
  have run : ∀ (σ1 σ2 : (St H)), HRel M σ1 w → σ1.nxt = r.σ.nxt → σ2.nxt = r.σ'.nxt → ((yesO r.nd.i.guard r.τ = true ∧ aop r.nd.i.op call r.τ σ1 = some (r.v, σ2)) ∨ (yesO r.nd.i.guard r.τ = false ∧ r.v = undefV ∧ σ2 = σ1)) →
      ∃ M' a' w', a'.defers = a.defers ∧ ERel n M' (setD r.nd.i.dst r.v (foldE S (T1 ++ r :: T2) τ0)) a'.tmps ∧ Goes M σ1 w M' σ2 w' ∧
        Steps P (lone (b.at a (.inRegion ops (r.nd.id :: rest) :: k)) cs w) (lone (b.at a' (.inRegion ops rest :: k)) cs w') := fun σ1 σ2 hH1 hn1 hn2 hrun => by
    have hai : ai r.nd.i call (foldE S (T1 ++ r :: T2) τ0) σ1 = some (setD r.nd.i.dst r.v (foldE S (T1 ++ r :: T2) τ0), σ2) := ai_of (by rw [hya, hra]; exact hrun)
    rw [hi] at hai
    have := ai_sound hC hn ho hH1 hI.E ⟨fun bb h1 h2 => hfr.1 bb (by omega) (by omega), hfr.2⟩ hai b k cs rest
    rw [← hi] at this
    exact this
  have still : r.σ' = r.σ → foldH S' (T1 ++ r :: T2) σ0.heap = foldH S (T1 ++ r :: T2) σ0.heap →
      ((yesO r.nd.i.guard r.τ = true ∧ aop r.nd.i.op call r.τ ⟨foldH S (T1 ++ r :: T2) σ0.heap, r.σ.nxt⟩ = some (r.v, ⟨foldH S (T1 ++ r :: T2) σ0.heap, r.σ.nxt⟩)) ∨ (yesO r.nd.i.guard r.τ = false ∧ r.v = undefV)) →
      ∃ M' a' w', a'.defers = a.defers ∧ ERel n M' (setD r.nd.i.dst r.v (foldE S (T1 ++ r :: T2) τ0)) a'.tmps ∧
      Goes M ⟨foldH S (T1 ++ r :: T2) σ0.heap, r.σ.nxt⟩ w M' ⟨foldH S' (T1 ++ r :: T2) σ0.heap, r.σ'.nxt⟩ w' ∧ (r.nd.kl = .eff → ObjsP r.σ r.σ') ∧
      Steps P (lone (b.at a (.inRegion ops (r.nd.id :: rest) :: k)) cs w) (lone (b.at a' (.inRegion ops rest :: k)) cs w') := fun e1 e2 h => by
    obtain ⟨M', a', w', f1, f2, f3, f4⟩ := run ⟨foldH S (T1 ++ r :: T2) σ0.heap, r.σ.nxt⟩ ⟨foldH S (T1 ++ r :: T2) σ0.heap, r.σ.nxt⟩ hH rfl (by rw [e1]) (h.imp id fun h => ⟨h.1, h.2, rfl⟩)
    exact ⟨M', a', w', f1, f2, by rw [e2, e1]; exact f3, fun _ => by rw [e1]; exact fun b o h => .inl ⟨o, h⟩, f4⟩
  have idle : (∀ h, hstep S' h r = h) → foldH S' (T1 ++ r :: T2) σ0.heap = foldH S (T1 ++ r :: T2) σ0.heap := fun h => by
    rw [foldH_new hX hcl hr hm hu hu2, h, foldH_at hX hcl hr hm]
  cases hkl : r.nd.kl with
  | pure =>
    have hs := same_rec hgr hkr (.inl hkl)
    refine still hs (idle fun h => by unfold hstep; rw [hkl]; simp) ?_ |>.imp fun _ h => h.imp fun _ h => h.imp fun _ h => ⟨h.1, h.2.1, h.2.2.1, fun e => by rw [← hkl] at e; exact h.2.2.2.1 e, h.2.2.2.2⟩
    rcases hgr.ran with ⟨h1, h2⟩ | ⟨h1, h2, _⟩
    · exact .inl ⟨h1, (pure_of _ (hkr ▸ hkl) _ _ _ _ _ h2).2 call _⟩
    · exact .inr ⟨h1, h2⟩
  | read =>
    have hs := same_rec hgr hkr (.inr hkl)
    refine still hs (idle fun h => by unfold hstep; rw [hkl]; simp) ?_ |>.imp fun _ h => h.imp fun _ h => h.imp fun _ h => ⟨h.1, h.2.1, h.2.2.1, fun e => by rw [← hkl] at e; exact h.2.2.2.1 e, h.2.2.2.2⟩
    rcases hgr.ran with ⟨h1, h2⟩ | ⟨h1, h2, _⟩
    · exact .inl ⟨h1, read_at hX hI hcl hr hm hu hu2 hkl h1 call _⟩
    · exact .inr ⟨h1, h2⟩
  | alloc =>
    have hno : ∀ q ∈ T2, S q.nd.id = true → q.nd.kl ≠ .eff := fun q hq hs he => by
      have := not2 hX hcl hr hm hq hs
      rw [must_kl ⟨.inr hkl, .inl he⟩] at this; cases this
    rcases hgr.ran with ⟨h1, h2⟩ | ⟨h1, h2, h3⟩
    · obtain ⟨o, ho1, ho2, ho3, ho4, ho5⟩ := alloc_rec hgr hkr hkl h1
      obtain ⟨M', a', w', f1, f2, f3, f4⟩ := run ⟨foldH S (T1 ++ r :: T2) σ0.heap, r.σ.nxt⟩ ⟨H.set (foldH S (T1 ++ r :: T2) σ0.heap) r.σ.nxt (some o), r.σ.nxt + 1⟩ hH rfl (by rw [ho3]) (.inl ⟨h1, ho5 call _⟩)
      refine ⟨M', a', w', f1, f2, ?_, fun e => (by cases e), f4⟩
      have e2 : foldH S' (T1 ++ r :: T2) σ0.heap = H.set (foldH S (T1 ++ r :: T2) σ0.heap) r.σ.nxt (some o) := by
        rw [foldH_new hX hcl hr hm hu hu2, foldH_at hX hcl hr hm]
        have : hstep S' (foldH S T1 σ0.heap) r = H.set (foldH S T1 σ0.heap) r.σ.nxt (some o) := by
          unfold hstep; rw [if_pos hu, hkl]; simp only; rw [if_pos h1, ho4]
        rw [this, foldH_comm ho2]
        · exact fun q hq => hX.good q (List.mem_append_right _ (List.mem_cons_of_mem _ hq))
        · exact fun q hq => hX.kl q (List.mem_append_right _ (List.mem_cons_of_mem _ hq))
        · exact hno
        · intro q hq
          have := (span hX hI hcl hr hm hu hu2 hq).1
          rw [ho3] at this
          exact this
      rw [e2, ho3]
      exact f3
    · refine still h3 (idle fun h => by unfold hstep; rw [hkl]; simp [h1]) (.inr ⟨h1, h2⟩) |>.imp fun _ h => h.imp fun _ h => h.imp fun _ h => ⟨h.1, h.2.1, h.2.2.1, fun e => by rw [← hkl] at e; exact h.2.2.2.1 e, h.2.2.2.2⟩
  | eff =>
    have hno : ∀ q ∈ T2, S q.nd.id = true → q.nd.kl ≠ .eff := fun q hq hs he => by
      have := not2 hX hcl hr hm hq hs
      rw [must_kl ⟨.inl hkl, .inl he⟩] at this; cases this
    have hha := heap_at hX hI hcl hr hm hu hu2 (.inl hkl)
    obtain ⟨x, hx1, hx2⟩ := foldH_over (fun q hq => hX.good q (List.mem_append_right _ (List.mem_cons_of_mem _ hq))) (fun q hq => hX.kl q (List.mem_append_right _ (List.mem_cons_of_mem _ hq))) hno
    have hxf : ∀ b o, x b = some o → o.writable = true ∧ r.σ.obj b = none := fun b o h => by
      obtain ⟨h1, q, hq, _, rfl, hlt⟩ := hx2 b o h
      exact ⟨h1, free_at hX hI hcl hr hm hu hu2 (.inl hkl) hq hlt⟩
    have e1 : ∀ b, St.obj ⟨foldH S (T1 ++ r :: T2) σ0.heap, r.σ.nxt⟩ b = (x b).or (r.σ.obj b) := fun b => by rw [foldH_at hX hcl hr hm, hx1, hha]
    have e2 : ∀ b, St.obj ⟨foldH S' (T1 ++ r :: T2) σ0.heap, r.σ'.nxt⟩ b = (x b).or (r.σ'.obj b) := fun b => by
      rw [foldH_new hX hcl hr hm hu hu2]
      have : hstep S' (foldH S T1 σ0.heap) r = r.σ'.heap := by unfold hstep; rw [if_pos hu, hkl]
      rw [this, hx1]
    have hsub : St.sub r.σ ⟨foldH S (T1 ++ r :: T2) σ0.heap, r.σ.nxt⟩ := fun b o h => by
      rw [e1]
      cases hxb : x b with
      | none => exact h
      | some o' => rw [(hxf b o' hxb).2] at h; cases h
    obtain ⟨M', a', w', f1, f2, f3, f4⟩ := run r.σ r.σ' (hH.sub hsub) rfl rfl hgr.ran
    exact ⟨M', a', w', f1, f2, f3.frame e1 e2 hxf hH rfl rfl, fun _ => f3.objsP, f4⟩
end

end Go.Ax

namespace Go.Ax
open Go
variable {H : HeapI}

theorem ready_mem {ops : Array Oper} {listed : Array Bool} {i : Nat} : i ∈ Region.ready .any ops listed ↔
    i < ops.size ∧ listed.getD i true = false ∧ ∃ o, ops[i]? = some o ∧ ∀ e ∈ o.after.toList, Region.binds .any e = true → listed.getD e.on false = true := by
  unfold Region.ready
  rw [List.mem_filter, List.mem_range]
  constructor
  · rintro ⟨h1, h2⟩
    simp only [Bool.and_eq_true, Bool.not_eq_true'] at h2
    refine ⟨h1, h2.1, ops[i], Array.getElem?_eq_getElem h1, fun e he hb => ?_⟩
    have h3 := h2.2
    rw [Array.getElem?_eq_getElem h1] at h3
    simp only [Option.map_some, Option.getD_some, Array.all_eq_true'] at h3
    have := h3 e (by simpa using he)
    rw [hb] at this; simpa using this
  · rintro ⟨h1, h2, o, h3, h4⟩
    refine ⟨h1, ?_⟩
    rw [h2, h3]
    simp only [Bool.not_false, Bool.true_and, Option.map_some, Option.getD_some, Array.all_eq_true']
    intro e he
    cases hb : Region.binds .any e with
    | false => rfl
    | true => simp [h4 e (by simpa using he) hb]

section
variable {P : Program} {n : Nat} {call : (CallF H)} {T : List (Rec H)} {τ0 τf : Env} {σ0 σf : (St H)} {M0 : Mp} {w0 : World} {d0 : List Deferred} {ops : Array Oper}

structure Nodes (P : Program) (n : Nat) (T : List (Rec H)) (ops : Array Oper) : Prop where
  node : ∀ r ∈ T, ∃ o, ops[r.nd.id]? = some o ∧ r.nd.i = cai P n ops.toList o ∧
    (∀ j, r.nd.mask.testBit j = true → ∃ e ∈ o.after.toList, Region.binds .any e = true ∧ (e.on = j ∨ ∃ r' ∈ T, r'.nd.id = e.on ∧ r'.nd.mask.testBit j = true)) ∧
    ∀ e ∈ o.after.toList, Region.binds .any e = true → r.nd.mask.testBit e.on = true
  seen : ∀ T1 r T2, T = T1 ++ r :: T2 → ∀ j, r.nd.mask.testBit j = true → ∃ p ∈ T1, p.nd.id = j
  all : ∀ i o, ops[i]? = some o → ∃ r ∈ T, r.nd.id = i

theorem first_out (S : Nat → Bool) : ∀ T : List (Rec H), (∀ r ∈ T, S r.nd.id = true) ∨ ∃ T1 r T2, T = T1 ++ r :: T2 ∧ S r.nd.id = false ∧ ∀ p ∈ T1, S p.nd.id = true
  | [] => .inl fun r hr => by cases hr
  | r :: T => by
    cases hr : S r.nd.id with
    | false => exact .inr ⟨[], r, T, rfl, hr, fun p hp => by cases hp⟩
    | true =>
      rcases first_out S T with h | ⟨T1, x, T2, h1, h2, h3⟩
      · refine .inl fun q hq => ?_
        rcases List.mem_cons.1 hq with rfl | hq
        · exact hr
        · exact h q hq
      · refine .inr ⟨r :: T1, x, T2, by rw [h1]; rfl, h2, fun p hp => ?_⟩
        rcases List.mem_cons.1 hp with rfl | hp
        · exact hr
        · exact h3 p hp

theorem Inv.full {S : Nat → Bool} {M : Mp} {a : Act} {w : World} (hI : Inv n T τ0 σ0 σf M0 w0 d0 S M a w) (hS : ∀ r ∈ T, S r.nd.id = true) : Inv n T τ0 σ0 σf M0 w0 d0 (fun _ => true) M a w := by
  refine ⟨?_, fun r hr h => (by cases h), fun r hr _ he => hI.O r hr (hS r hr) he, ?_, hI.defers, hI.B⟩
  · rw [foldE_congr (S' := S) τ0 fun r hr => (hS r hr).symm]; exact hI.E
  · rw [foldH_congr (S' := S) σ0.heap fun r hr => (hS r hr).symm]; exact hI.G

theorem go_sound (hX : Ctx call T τ0 σ0 τf σf) (hN : Nodes P n T ops) (hC : CallOK P call) (hn : n ≤ 512) (b : Frame) (k : List Item) (cs : List Frame) :
    ∀ (fuel t : Nat) (listed : Array Bool) (M : Mp) (a : Act) (w : World), listed.size = ops.size → Inv n T τ0 σ0 σf M0 w0 d0 (fun k => listed.getD k false) M a w →
      Closed T (fun k => listed.getD k false) → T.countP (fun r => !listed.getD r.nd.id false) ≤ fuel →
      ∃ M' a' w', Inv n T τ0 σ0 σf M0 w0 d0 (fun _ => true) M' a' w' ∧
        Steps P (lone (b.at a (.inRegion ops (Region.linearise.go .any ops fuel t listed []) :: k)) cs w) (lone (b.at a' (.inRegion ops [] :: k)) cs w') := by
  intro fuel
  induction fuel with
  | zero =>
    intro t listed M a w hsz hI hcl hct
    refine ⟨M, a, w, hI.full fun r hr => ?_, ?_⟩
    · have h0 : T.countP (fun r => !listed.getD r.nd.id false) = 0 := by omega
      rw [List.countP_eq_zero] at h0
      simpa using h0 r hr
    · simp only [Region.linearise.go, List.reverse_nil]
      exact Steps.refl _ _
  | succ fuel ih =>
    intro t listed M a w hsz hI hcl hct
    have hgo : Region.linearise.go .any ops (fuel + 1) t listed [] = (match (Region.ready .any ops listed)[t % (Region.ready .any ops listed).length]? with
      | some i => Region.linearise.go .any ops fuel (t / (Region.ready .any ops listed).length) (listed.setIfInBounds i true) [i]
      | none => [].reverse) := rfl
    rw [hgo]
    cases hi : (Region.ready .any ops listed)[t % (Region.ready .any ops listed).length]? with
    | none =>
      have hnil : Region.ready .any ops listed = [] := by
        cases hr : Region.ready .any ops listed with
        | nil => rfl
        | cons x xs =>
          rw [hr] at hi
          have hlt : t % (x :: xs).length < (x :: xs).length := Nat.mod_lt _ (by simp)
          simp at hi
          simp at hlt
          omega
      refine ⟨M, a, w, hI.full ?_, Steps.refl _ _⟩
      rcases first_out (fun k => listed.getD k false) T with h | ⟨T1, r, T2, h1, h2, h3⟩
      · exact h
      · exfalso
        have hrT : r ∈ T := by rw [h1]; exact List.mem_append_right _ (List.mem_cons_self ..)
        obtain ⟨o, ho, _, _, hon⟩ := hN.node r hrT
        have hlt : r.nd.id < ops.size := (Array.getElem?_eq_some_iff.1 ho).1
        have : r.nd.id ∈ Region.ready .any ops listed := ready_mem.2 ⟨hlt, by
          have h2 : listed.getD r.nd.id false = false := h2
          simp only [Array.getD_eq_getD_getElem?, Array.getElem?_eq_getElem (show r.nd.id < listed.size by omega), Option.getD_some] at h2 ⊢
          exact h2, o, ho, fun e he hb => by
          obtain ⟨p, hp, hpe⟩ := hN.seen T1 r T2 h1 _ (hon e he hb)
          rw [← hpe]; exact h3 p hp⟩
        rw [hnil] at this; cases this
    | some i =>
      simp only
      rw [linearise_go_acc, List.reverse_singleton, List.singleton_append]
      obtain ⟨hlt, hun, o, ho, hed⟩ := ready_mem.1 (List.mem_of_getElem? hi)
      obtain ⟨r, hrT, rfl⟩ := hN.all i o ho
      obtain ⟨o', ho', hri, hup, _⟩ := hN.node r hrT
      rw [ho] at ho'; injection ho' with ho'; subst ho'
      obtain ⟨T1, T2, rfl⟩ := List.append_of_mem hrT
      have hil : r.nd.id < listed.size := by omega
      have hr : listed.getD r.nd.id false = false := by
        simp only [Array.getD_eq_getD_getElem?, Array.getElem?_eq_getElem hil, Option.getD_some] at hun ⊢
        exact hun
      have hm : ∀ j, r.nd.mask.testBit j = true → listed.getD j false = true := fun j hj => by
        obtain ⟨e, he, hb, hj | ⟨r', hr', hre, hj⟩⟩ := hup j hj
        · rw [← hj]; exact hed e he hb
        · exact hcl r' hr' (by show listed.getD r'.nd.id false = true; rw [hre]; exact hed e he hb) j hj
      have hu : (listed.setIfInBounds r.nd.id true).getD r.nd.id false = true := by simp [Array.getD_eq_getD_getElem?, hil]
      have hu2 : ∀ k, k ≠ r.nd.id → (listed.setIfInBounds r.nd.id true).getD k false = listed.getD k false := fun k hk => by
        simp [Array.getD_eq_getD_getElem?, Array.getElem?_setIfInBounds, Ne.symm hk]
      obtain ⟨M1, a1, w1, hI1, hs1⟩ := step_at (S' := fun k => (listed.setIfInBounds r.nd.id true).getD k false) hX hI hcl hr hm hu hu2 hC hn ho hri b k cs
        (Region.linearise.go .any ops fuel (t / (Region.ready .any ops listed).length) (listed.setIfInBounds r.nd.id true) [])
      obtain ⟨M2, a2, w2, hI2, hs2⟩ := ih (t / (Region.ready .any ops listed).length) (listed.setIfInBounds r.nd.id true) M1 a1 w1 (by simp [hsz]) hI1 (fun x hx hs j hj => by
        by_cases e : x.nd.id = r.nd.id
        · have hxm : x.nd.mask = r.nd.mask := by
            rcases List.mem_append.1 hx with hx | hx
            · exact absurd e (bef1 hX hcl hr hm hx).1
            · rcases List.mem_cons.1 hx with rfl | hx
              · rfl
              · exact absurd e.symm (bef2 hX hcl hr hm hx).1
          rw [hxm] at hj
          have := hm j hj
          show (listed.setIfInBounds r.nd.id true).getD j false = true
          by_cases ej : j = r.nd.id
          · rw [ej]; exact hu
          · rw [hu2 j ej]; exact this
        · have hs' : listed.getD x.nd.id false = true := by rw [← hu2 _ e]; exact hs
          have := hcl x hx hs' j hj
          show (listed.setIfInBounds r.nd.id true).getD j false = true
          by_cases ej : j = r.nd.id
          · rw [ej]; exact hu
          · rw [hu2 j ej]; exact this) (by
        have c1 : T1.countP (fun x => !(listed.setIfInBounds r.nd.id true).getD x.nd.id false) = T1.countP (fun x => !listed.getD x.nd.id false) :=
          List.countP_congr fun x hx => by rw [hu2 _ (bef1 hX hcl hr hm hx).1]
        have c2 : T2.countP (fun x => !(listed.setIfInBounds r.nd.id true).getD x.nd.id false) = T2.countP (fun x => !listed.getD x.nd.id false) :=
          List.countP_congr fun x hx => by rw [hu2 _ (bef2 hX hcl hr hm hx).1.symm]
        rw [List.countP_append, List.countP_cons] at hct ⊢
        rw [c1, c2, hu]
        rw [hr] at hct
        simp at hct ⊢
        omega)
      exact ⟨M2, a2, w2, hI2, Steps.trans hs1 hs2⟩
end

variable {P : Program} {n : Nat} {call : (CallF H)} {τ0 τf : Env} {σ0 σf : (St H)} {M0 : Mp} {w0 : World} {ops : Array Oper} {a : Act}

theorem cai_dst (hn : n ≤ 512) (o : Oper) : ∀ d, (cai P n ops.toList o).dst = some d → d < 512 := by
  have key : dstOk n o.dst = true → ∀ d, o.dst = some d → d < 512 := fun h d hd => by
    rw [hd] at h
    have h2 : d + 1 ≤ n := Nat.le_of_ble_eq_true (show Nat.blt d n = true from h)
    exact Nat.lt_of_lt_of_le h2 hn
  intro d hd
  rcases cai_cases P n ops o with ⟨op, g, _, _, h3, h4⟩ | ⟨g, _, h3, h4⟩ | h4
  · rw [h4] at hd; exact key h3 d hd
  · rw [h4] at hd; exact key h3 d hd
  · rw [h4] at hd; cases hd

theorem draw_sound (hC : CallOK P call) (hn : n ≤ 512) {l : List Nd} (hl : l = order (nodes P n ops.toList ops.toList 0 []).length 0 (nodes P n ops.toList ops.toList 0 []))
    (hlen : l.length = (nodes P n ops.toList ops.toList 0 []).length) (hok : orderOk l [] 0 = true) (h : dis (items l []) call [] τ0 σ0 = some (τf, σf))
    (hE : ERel n M0 τ0 a.tmps) (hH : HRel M0 σ0 w0) (fr : Fresh M0 σ0 σf) (b : Frame) (k : List Item) (cs : List Frame) (t : Nat) :
    ∃ M' a' w', a'.defers = a.defers ∧ ERel n M' τf a'.tmps ∧ Goes M0 σ0 w0 M' σf w' ∧
      Steps P (lone (b.at a (.inRegion ops (Region.linearise .any ops t) :: k)) cs w0) (lone (b.at a' (.inRegion ops [] :: k)) cs w') := by
  have hperm : l.Perm (nodes P n ops.toList ops.toList 0 []) := by rw [hl]; exact order_perm (by rw [← hl]; exact hlen)
  have hspec := nodes_spec P n ops.toList (nodes P n ops.toList ops.toList 0 []) ops.toList 0 [] [] rfl rfl (fun q m h => by cases h)
  have hget : ∀ i o, ops[i]? = some o → ∃ nd, (nodes P n ops.toList ops.toList 0 [])[i]? = some nd ∧ NodeOf P n ops.toList (nodes P n ops.toList ops.toList 0 []) i o nd := fun i o ho => by
    have := hspec i o (by simpa using ho)
    rwa [Nat.zero_add] at this
  have hback : ∀ nd ∈ l, ∃ i o, ops[i]? = some o ∧ (nodes P n ops.toList ops.toList 0 [])[i]? = some nd ∧ NodeOf P n ops.toList (nodes P n ops.toList ops.toList 0 []) i o nd := fun nd hnd => by
    obtain ⟨i, hi⟩ := List.getElem?_of_mem (hperm.mem_iff.1 hnd)
    have hlt : i < ops.size := by
      have := (List.getElem?_eq_some_iff.1 hi).1
      rw [nodes_length] at this
      simpa using this
    obtain ⟨nd', h1, h2⟩ := hget i ops[i] (Array.getElem?_eq_getElem hlt)
    rw [hi] at h1; injection h1 with h1; subst h1
    exact ⟨i, ops[i], Array.getElem?_eq_getElem hlt, hi, h2⟩
  obtain ⟨hbef, _, hseen⟩ := orderOk_spec hok (fun p hp => by cases hp)
  obtain ⟨T, hT, hch, hgood, hag, _⟩ := dis_trace l [] [] τ0 σ0 (fun nd hnd => by obtain ⟨i, o, _, _, h⟩ := hback nd hnd; exact h.kl) (fun m hm => by cases hm) h
  have hmem : ∀ r ∈ T, r.nd ∈ l := fun r hr => by rw [← hT]; exact List.mem_map.2 ⟨r, hr, rfl⟩
  have hrec : ∀ nd ∈ l, ∃ r ∈ T, r.nd = nd := fun nd hnd => by rw [← hT] at hnd; exact List.mem_map.1 hnd
  have hX : Ctx call T τ0 σ0 τf σf := by
    refine ⟨hch, hgood, hag, ?_, fun r hr => ?_, fun r hr d hd => ?_, fun b h1 h2 => ?_⟩
    · rw [← hT, List.pairwise_map] at hbef; exact hbef
    · obtain ⟨i, o, _, _, h⟩ := hback r.nd (hmem r hr); exact h.kl
    · obtain ⟨i, o, _, _, h⟩ := hback r.nd (hmem r hr)
      rw [h.i] at hd
      exact cai_dst hn o d hd
    · cases hc : σ0.obj b with
      | none => rfl
      | some o => obtain ⟨_, _, _, hM, _⟩ := hH.at_ b o hc; rw [fr.1 b h1 h2] at hM; cases hM
  have hN : Nodes P n T ops := by
    refine ⟨fun r hr => ?_, fun T1 r T2 e j hj => ?_, fun i o ho => ?_⟩
    · obtain ⟨i, o, ho, hi, h⟩ := hback r.nd (hmem r hr)
      refine ⟨o, by rw [h.id]; exact ho, h.i, fun j hj => ?_, h.on⟩
      obtain ⟨e, he, hb, hj | ⟨nd', h1, h2⟩⟩ := h.up j hj
      · exact ⟨e, he, hb, .inl hj⟩
      · have hnl : nd' ∈ l := hperm.mem_iff.2 (List.mem_of_getElem? h1)
        obtain ⟨r', hr', rfl⟩ := hrec nd' hnl
        refine ⟨e, he, hb, .inr ⟨r', hr', ?_, h2⟩⟩
        obtain ⟨i', o', ho', hi', h'⟩ := hback r'.nd hnl
        have hlt : e.on < ops.size := by
          have := (List.getElem?_eq_some_iff.1 h1).1
          rw [nodes_length] at this
          simpa using this
        obtain ⟨nd2, h3, h4⟩ := hget e.on ops[e.on] (Array.getElem?_eq_getElem hlt)
        rw [h1] at h3; injection h3 with h3
        rw [h3]; exact h4.id
    · obtain ⟨p, hp, hpe⟩ := (hseen (T1.map (·.nd)) r.nd (T2.map (·.nd)) (by rw [← hT, e]; simp) j hj).resolve_left (by simp)
      obtain ⟨p', hp', rfl⟩ := List.mem_map.1 hp
      exact ⟨p', hp', hpe⟩
    · obtain ⟨nd, h1, h2⟩ := hget i o ho
      obtain ⟨r, hr, rfl⟩ := hrec nd (hperm.mem_iff.2 (List.mem_of_getElem? h1))
      exact ⟨r, hr, h2.id⟩
  have hnx := chain_nxt hch hgood
  have hz : ∀ k, (Array.replicate ops.size false).getD k false = false := fun k => by
    simp [Array.getD_eq_getD_getElem?, Array.getElem?_replicate]; split <;> rfl
  have hnoneE : ∀ (T : List (Rec H)) τ, foldE (fun k => (Array.replicate ops.size false).getD k false) T τ = τ := fun T => by
    induction T with
    | nil => exact fun _ => rfl
    | cons r T ih => intro τ; rw [foldE_cons, show estep _ τ r = τ from by unfold estep; rw [if_neg]; simp only [hz]; simp]; exact ih τ
  have hnoneH : ∀ (T : List (Rec H)) h, foldH (fun k => (Array.replicate ops.size false).getD k false) T h = h := fun T => by
    induction T with
    | nil => exact fun _ => rfl
    | cons r T ih => intro h0; rw [foldH_cons, show hstep _ h0 r = h0 from by unfold hstep; rw [if_neg]; simp only [hz]; simp]; exact ih h0
  have hI0 : Inv n T τ0 σ0 σf M0 w0 a.defers (fun k => (Array.replicate ops.size false).getD k false) M0 a w0 := by
    refine ⟨by rw [hnoneE]; exact hE, fun r hr _ bb h1 h2 => ?_, fun r hr h => ?_, ?_, rfl, fr.2⟩
    · have := chain_mem_nxt hch hgood hr
      exact fr.1 bb (by omega) (by omega)
    · rw [hz] at h; cases h
    · rw [hnoneH]
      have := Goes.refl hH
      exact ⟨this.le, fun b h => absurd rfl h, hnx, ⟨hH.at_, hH.apart⟩, fun B h => .inl h, fun _ _ _ => rfl, Nat.le_refl _, rfl, rfl, rfl, fun b o h => .inl ⟨o, h, rfl⟩⟩
  obtain ⟨M', a', w', hI, hs⟩ := go_sound hX hN hC hn b k cs ops.size t (Array.replicate ops.size false) M0 a w0 (by simp) hI0 (fun r hr h => by
      have h : (Array.replicate ops.size false).getD r.nd.id false = true := h
      rw [hz] at h; cases h) (by
    refine Nat.le_trans List.countP_le_length ?_
    have h1 : T.length = l.length := by rw [← hT]; simp
    rw [h1, hlen, nodes_length]; simp)
  refine ⟨M', a', w', hI.defers, ?_, ?_, hs⟩
  · have := hI.E; rwa [foldE_chain hch] at this
  · have := hI.G
    rw [foldH_chain hch hgood hX.kl (fun _ _ _ => rfl)] at this
    exact this

end Go.Ax

