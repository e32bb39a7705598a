/- The walk of Kernel.Idle; the library's steps; all that comes ahead of a law. -/
import Derived.Test.YtmpaepfagmofoaaGreatDoorProg
import Derived.WalkKit
import Derived.Calls
import Derived.Below
import Derived.KernelRfl
import Derived.Test.YtmpaepfagmofoaaGreatDoorAxF
import Derived.Maps.RangeRun
import Derived.Outline
import Derived.Test.YtmpaepfagmofoaaGreatDoorLS
import Derived.Test.YtmpaepfagmofoaaGreatDoorGR
set_option linter.all false
namespace Go.Proofs
open Go Go.RowKit
set_option maxHeartbeats 1000000 in
set_option maxRecDepth 100000 in
theorem Tryz.active (s : Int) (rest : List Value) (w : World) :
    Calls Tryz.prog 45 #[.agg (.int .i64 s :: rest).toArray] w fun e w' => e = .returned (.bool (decide (s = 1) || (decide (s = 2) || decide (s = 3)))) ∧ Below w.heap.size w w' := by
  go_enter Tryz.func45, Tryz.ntmps45
  go_wp2
  all_goals
    go_ret
    refine ⟨?_, (Below.refl _ w).alloc (Nat.le_refl _) _⟩
    first
      | (simp [*]; done)
      | (rename_i h1 h2
         have e1 : (s == 1) = false := beq_false_of_ne h1
         have e2 : (s == 2) = false := beq_false_of_ne h2
         by_cases h3 : s = 3
         · simp [e1, e2, h3]
         · have e3 : (s == 3) = false := beq_false_of_ne h3
           simp [e1, e2, e3, h1, h2, h3])
end Go.Proofs

namespace Go.Proofs
open Go Go.RowKit Go.ChangeMaps
open Go.Ax (activeN)


theorem heap_setBlock_at (w : World) (r : Nat) (o : Obj) (hr : r < w.heap.size) : (setBlock w r o).heap[r]? = some o := by simp [setBlock, hr]
theorem heap_setBlock_ne (w : World) (r k : Nat) (o : Obj) (h : k ≠ r) : (setBlock w r o).heap[k]? = w.heap[k]? := by simp [setBlock, Array.getElem?_setIfInBounds, Ne.symm h]

theorem below_setBlock {B : Nat} {w w1 wr : World} {o : Obj} {r : Nat} (h : Below B w wr) (hw : w1 = wr ∨ w1 = wr.drew) (hr : B ≤ r) : Below B w (setBlock w1 r o) := by
  rcases hw with rfl | rfl
  · exact ⟨h.os, h.tape, h.output, by simp [setBlock]; exact h.size, fun k hk => by rw [heap_setBlock_ne _ _ _ _ (by omega)]; exact h.block k hk⟩
  · exact ⟨h.os, h.tape, h.output, by simp [setBlock]; exact h.size, fun k hk => by rw [heap_setBlock_ne _ _ _ _ (by omega)]; exact h.block k hk⟩

theorem cell_below {B : Nat} {w w' : World} (h : Below B w w') {a : Addr} {v : Value} (hb : a.block < B) (hc : w.cell? a = some v) : w'.cell? a = some v := by
  unfold World.cell? at hc ⊢
  rw [h.block _ hb]; exact hc

theorem born_inj : ∀ {l : List MapEntry}, (l.map (·.born)).Nodup → ∀ {x y : MapEntry}, x ∈ l → y ∈ l → x.born = y.born → x = y
  | [], _, x, _, hx, _, _ => by cases hx
  | a :: l, h, x, y, hx, hy, e => by
    have h1 : ¬ a.born ∈ l.map (·.born) := (List.nodup_cons.1 h).1
    have h2 : (l.map (·.born)).Nodup := (List.nodup_cons.1 h).2
    cases List.mem_cons.1 hx with
    | inl ex =>
      cases List.mem_cons.1 hy with
      | inl ey => rw [ex, ey]
      | inr hy => exact absurd (List.mem_map.2 ⟨y, hy, by rw [← e, ex]⟩) h1
    | inr hx =>
      cases List.mem_cons.1 hy with
      | inl ey => exact absurd (List.mem_map.2 ⟨x, hx, by rw [e, ey]⟩) h1
      | inr hy => exact born_inj h2 hx hy e

theorem eight {l : List Value} (h : l.length = 8) : ∃ r1 r2 r3 r4 r5 r6 r7 r8, l = [r1, r2, r3, r4, r5, r6, r7, r8] := by
  match l, h with
  | [r1, r2, r3, r4, r5, r6, r7, r8], _ => exact ⟨_, _, _, _, _, _, _, _, rfl⟩

def leftAt (es : Array MapEntry) (r : Nat) (w : World) : Nat :=
  match w.heap[r]? with
  | some (.mapIter _ _ seen _) => (leftOf es seen).size
  | _ => 0

set_option maxHeartbeats 2000000 in
set_option maxRecDepth 100000 in
theorem Tryz.idle (B O Bm clock : Nat) (es : Array MapEntry) (w : World) (A : MapEntry → Bool)
    (hc : w.cell? ⟨B, O + 2, none⟩ = some (.map (some Bm))) (hes : w.heap[Bm]? = some (.map es clock)) (hlt : ∀ x ∈ es.toList, x.born < clock) (hnd : (es.toList.map (·.born)).Nodup)
    (hv : ∀ x ∈ es.toList, ∃ Bj Oj s rest, x.val = .pointer (some ⟨Bj, Oj, none⟩) ∧ Bj < w.heap.size ∧ rest.length = 8 ∧ A x = activeN s ∧
      ∀ j v, (Value.int .i64 s :: rest)[j]? = some v → w.cell? ((⟨Bj, Oj, none⟩ : Addr).add j) = some v) :
    Calls Tryz.prog 19 #[.pointer (some ⟨B, O, none⟩)] w fun e w' => e = .returned (.bool (!(es.toList.any A))) ∧ Below w.heap.size w w' := by
  have hBm : Bm < w.heap.size := (Array.getElem?_eq_some_iff.1 hes).1
  have hrange : (Instr.range 85 (.map (some Bm))).run Tryz.prog w = .ok (.pointer (some ⟨w.heap.size, 0, none⟩)) (w.alloc (.mapIter (some Bm) clock #[] clock)) := by
    have u := run_underlying (P := Tryz.prog) Tryz.underlying85
    simp [Instr.range, Sem.run_bind, u, getObj, Sem.run, hes, newObj]
  go_enter Tryz.func19, Tryz.ntmps19
  go_wp2
  clear hrange
  refine wp_loop (fun a wr => ∃ (u4 u12 u13 u14 u15 u16 u17 u18 u19 u20 : Value) (seen : Array Nat) (c0 : Nat), a = { tmps := #[.pointer (some ⟨B, O, none⟩), undef, .bool false, undef, u4, .pointer (some ⟨B, O, none⟩), .bool false, .pointer (some ⟨B, O, none⟩), .pointer (some ⟨B, O, none⟩), .pointer (some ⟨B, O + 2, none⟩), .map (some Bm), .pointer (some ⟨w.heap.size, 0, none⟩), u12, u13, u14, u15, u16, u17, u18, u19, u20], defers := [] } ∧
      wr.heap[w.heap.size]? = some (.mapIter (some Bm) clock seen c0) ∧ clock ≤ c0 ∧ Below w.heap.size w wr ∧ ∀ x ∈ es.toList, seen.contains x.born = true → A x = false) (fun _ wr => leftAt es w.heap.size wr) ?_ ?_
  · exact ⟨undef, undef, undef, undef, undef, undef, undef, undef, undef, undef, #[], clock, rfl, by show (w.heap.push _)[w.heap.size]? = _; simp, Nat.le_refl _, (Below.refl _ w).alloc (Nat.le_refl _) _, fun x _ h => by simp at h⟩
  · rintro a wr ⟨u4, u12, u13, u14, u15, u16, u17, u18, u19, u20, seen, c0, rfl, hit, hcc, hbel, hseen⟩
    have hesr : wr.heap[Bm]? = some (.map es clock) := by rw [hbel.block _ hBm]; exact hes
    rcases run_next_at (P := Tryz.prog) wr 0 w.heap.size Bm clock c0 seen es clock hit hesr hlt hcc with ⟨h0, hnext⟩ | ⟨x, hx, w1, hw1, hnext⟩
    · have hany : es.toList.any A = false := by
        rw [List.any_eq_false]
        intro x hx
        simp [hseen x hx (all_seen es seen h0 x hx)]
      clear hv hseen
      go_wp2
      go_ret
      exact ⟨by rw [hany]; rfl, hbel⟩
    · obtain ⟨hxe, hxs⟩ := mem_left hx
      obtain ⟨Bj, Oj, s, rest, hval, hBj, hsz, hA, hcells⟩ := hv x hxe
      have hrb : Below w.heap.size w (setBlock w1 w.heap.size (.mapIter (some Bm) clock (seen.push x.born) clock)) := below_setBlock hbel hw1 (Nat.le_refl _)
      have hit2 : (setBlock w1 w.heap.size (.mapIter (some Bm) clock (seen.push x.born) clock)).heap[w.heap.size]? = some (.mapIter (some Bm) clock (seen.push x.born) clock) := by
        refine heap_setBlock_at _ _ _ ?_
        have := (Array.getElem?_eq_some_iff.1 hit).1
        rcases hw1 with rfl | rfl <;> exact this
      have hleft := left_shrinks es seen x hx
      have hl0 : leftAt es w.heap.size wr = (leftOf es seen).size := by unfold leftAt; rw [hit]
      rw [hval] at hnext
      generalize hw2 : setBlock w1 w.heap.size (.mapIter (some Bm) clock (seen.push x.born) clock) = w2 at hnext hrb hit2
      clear hw2 hw1
      have hes2 : w2.heap[Bm]? = some (.map es clock) := by rw [hrb.block _ hBm]; exact hes
      have hentry := run_entry_at (P := Tryz.prog) w2 w.heap.size Bm clock seen es clock x hit2 hes2 hxe hnd
      rw [hval] at hentry
      have hcell : ∀ j v, (Value.int .i64 s :: rest)[j]? = some v → w2.cell? ⟨Bj, Oj + j, none⟩ = some v := fun j v hj => by
        have := cell_below (a := (⟨Bj, Oj, none⟩ : Addr).add j) hrb (by rw [Addr.add_lit]; exact hBj) (hcells j v hj)
        rwa [Addr.add_lit] at this
      have hact : ∀ W : World, Calls Tryz.prog 45 #[.agg (.int .i64 s :: rest).toArray] W fun e w' => e = .returned (.bool (A x)) ∧ Below W.heap.size W w' := fun W => by
        rw [hA]; exact Tryz.active s rest W
      have hsz2 : w.heap.size < w2.heap.size := (Array.getElem?_eq_some_iff.1 hit2).1
      obtain ⟨r1, r2, r3, r4, r5, r6, r7, r8, rfl⟩ : ∃ r1 r2 r3 r4 r5 r6 r7 r8, rest = [r1, r2, r3, r4, r5, r6, r7, r8] := eight hsz
      have k0 := hcell 0 _ rfl; have k1 := hcell 1 _ rfl; have k2 := hcell 2 _ rfl; have k3 := hcell 3 _ rfl; have k4 := hcell 4 _ rfl; have k5 := hcell 5 _ rfl; have k6 := hcell 6 _ rfl; have k7 := hcell 7 _ rfl; have k8 := hcell 8 _ rfl
      rw [Nat.add_zero] at k0
      clear hcell
      have keep : (∀ y ∈ es.toList, seen.contains y.born = true → A y = false) ∧ x ∈ es.toList ∧ (es.toList.map (·.born)).Nodup ∧ leftAt es w.heap.size wr = (leftOf es seen).size := ⟨hseen, hxe, hnd, hl0⟩
      clear hv hes hes2 hlt hcells hc hseen hnd hl0 hit hesr hcc hbel hA hval hxs hx hxe
      cases hAx : A x with
      | true =>
        rw [hAx] at hact
        go_wp2_with (go_at_call 45; refine (hact _).mono ?_; rintro e w' ⟨rfl, hb⟩)
        go_ret
        refine ⟨?_, hrb.trans (hb.mono (Nat.le_of_lt hsz2))⟩
        rw [List.any_eq_true.2 ⟨x, keep.2.1, hAx⟩]
        rfl
      | false =>
        rw [hAx] at hact
        go_wp2_with (go_at_call 45; refine (hact _).mono ?_; rintro e w' ⟨rfl, hb⟩)
        have hit3 : w'.heap[w.heap.size]? = some (.mapIter (some Bm) clock (seen.push x.born) clock) := by rw [hb.block _ hsz2]; exact hit2
        refine ⟨⟨_, _, _, _, _, _, _, _, _, _, _, _, rfl, hit3, Nat.le_refl _, hrb.trans (hb.mono (Nat.le_of_lt hsz2)), fun y hy hc => ?_⟩, ?_⟩
        · rw [Array.contains_push] at hc
          simp only [Bool.or_eq_true, beq_iff_eq] at hc
          rcases hc with hc | hc
          · exact keep.1 y hy hc
          · have : y = x := born_inj keep.2.2.1 hy keep.2.1 hc
            rw [this]; exact hAx
        · show leftAt es w.heap.size w' < leftAt es w.heap.size wr
          rw [keep.2.2.2]
          unfold leftAt
          rw [hit3]
          exact hleft
end Go.Proofs

namespace Go.Proofs
open Go Go.Ax Go.RowKit Go.Maps Go.Sort Go.Shelf

theorem Tryz.sortsA (m : Nat) : AnyZI.SortsIn Tryz.prog Tryz.sortedA_ren Fence.wide m :=
  ⟨fun blk off cap ss W hH hblk hsz => callsIn_wide.2 (AnyM.slices_Sort_int Tryz.sortA blk off cap ss W hH hblk hsz),
   fun p cap W => callsIn_wide.2 (AnyM.slices_Sort_int_none Tryz.sortA p cap W)⟩

def noR : Value → Option (DataW Unit × List MemPlace) := fun _ => some (.nil, [])

theorem keyOf_int {x : Int} (h : -9223372036854775808 ≤ x ∧ x ≤ 9223372036854775807) : keyOf Tryz.prog 3 (.int .i64 x) = some (.int .i64 x) :=
  Maps.keyOf_int_mk Tryz.underlying3 (by
    unfold Lit.wf; simp [IntKind.min, IntKind.max, IntKind.bits, IntKind.signed]; omega)

theorem rd_int {e : MapEntry} {x : Int} (hk : e.key = .int .i64 x) (h : -9223372036854775808 ≤ x ∧ x ≤ 9223372036854775807) : WideElems.rd Tryz.prog 3 noR e = some (.int .i64 x, .nil) := by
  unfold WideElems.rd; rw [hk, keyOf_int h]; rfl

theorem rg_keys : ∀ {es : List MapEntry} {ks : List Int}, es.map (·.key) = ks.map (Value.int .i64) → (∀ k ∈ ks, -9223372036854775808 ≤ k ∧ k ≤ 9223372036854775807) →
    es.map (WideElems.rg Tryz.prog 3 noR) = ks.map fun k => (Lit.int .i64 k, DataW.nil)
  | [], [], _, _ => rfl
  | [], _ :: _, h, _ => by simp at h
  | _ :: _, [], h, _ => by simp at h
  | e :: es, k :: ks, h, hb => by
    simp only [List.map_cons, List.cons.injEq] at h ⊢
    exact ⟨WideElems.rg_of (rd_int h.1 (hb k (List.mem_cons_self ..))), rg_keys h.2 fun x hx => hb x (List.mem_cons_of_mem _ hx)⟩

theorem Tryz.sortedSpec : SortedSpec Tryz.prog 78 125 := by
  intro bp bm clock es w ks hc hm hks hnd hb hlt hbn hlen
  have hbp : bp < w.heap.size := by
    unfold World.cell? at hc
    split at hc
    · rename_i hblk; exact (Array.getElem?_eq_some_iff.1 hblk).1
    · cases hc
  have hsz : es.size = ks.length := by
    have := congrArg List.length hks
    simpa using this
  let D0 : DataW Unit := .map ((es.toList.map (WideElems.rg Tryz.prog 3 noR)).foldr DataW.insert [])
  have hkn : (es.toList.map (·.key)).Nodup := by rw [hks]; exact List.pairwise_map.2 (hnd.imp fun h e => h (by injection e))
  have hown : w.ownsMap Tryz.prog 3 noR bm ks.length D0 := by
    refine ⟨es, clock, hm, ⟨by rw [hsz]; unfold maxLen; omega, ⟨hlt, hbn, hkn⟩, fun x hx => ?_⟩, by omega, rfl⟩
    have : x.key ∈ es.toList.map (·.key) := List.mem_map.2 ⟨x, hx, rfl⟩
    rw [hks] at this
    obtain ⟨k, hk, he⟩ := List.mem_map.1 this
    exact ⟨_, rd_int he.symm (hb k hk)⟩
  have hperm : (intKeys D0).Perm ks := by
    show (((es.toList.map (WideElems.rg Tryz.prog 3 noR)).foldr DataW.insert []).map fun p => _root_.Go.intOf p.1).Perm ks
    refine ((WideShapes.sorted_perm _).map _).trans ?_
    rw [rg_keys hks hb, List.map_map]
    rw [show ((fun p => _root_.Go.intOf p.1) ∘ fun k : Int => ((Lit.int IntKind.i64 k, DataW.nil) : Lit × DataW Unit)) = fun k => k from rfl]
    simp
  have hDs : Maps.size D0 = ks.length := by
    show ((es.toList.map (WideElems.rg Tryz.prog 3 noR)).foldr DataW.insert []).length = _
    rw [(WideShapes.sorted_perm _).length_eq]; simp [hsz]
  refine (callsIn_wide (n := 6)).1 ?_
  have hseq : SeqGives Fence.wide (6 - 1 - 1 - 1) Tryz.prog 125 #[.pointer (some ⟨bp, 0, none⟩)] encZ (fun ss => ss.Perm (intKeys D0)) (Maps.size D0) w :=
    AnyZI.keys_gives (ρ := Tryz.keysA_ren) { Tryz.keysA with } Fence.wide _ trivial rfl (by omega) bp bm ks.length D0 _ hbp hc hown
  have cS := AnyZI.sorted_in Tryz.sortedA Fence.wide 6 trivial trivial trivial trivial rfl (by omega) (Tryz.sortsA _) (enters_of Tryz.func124 (by kernel_rfl) rfl) 125 #[.pointer (some ⟨bp, 0, none⟩)] trivial (enters_of Tryz.func125 (by kernel_rfl) rfl) _ _ (by rw [hDs]; unfold maxLen; omega) (by rw [hDs]; omega) _ hseq
  change CallsIn _ _ Tryz.prog 78 _ _ _ at cS
  refine cS.mono ?_
  rintro e w' ⟨v, ss, rfl, hS, hrow, hnil, hbel⟩
  refine ⟨hbel, v, rfl, ?_⟩
  have hp : ss.Perm ks := hS.trans hperm
  rcases hrow.2 with ⟨rfl, hz⟩ | ⟨gb, cap, cur, rfl, hbase, hgb, r1, r2, r3, r4⟩
  · refine .inl ⟨?_, rfl⟩
    have := hp.length_eq
    exact List.eq_nil_of_length_eq_zero (by omega)
  · have hl := hp.length_eq
    refine .inr ⟨fun e => ?_, gb, cap, cur, _, ss.mergeSort (fun x y => decide (x ≤ y)), by rw [← hl], hbase, hgb, by omega, by omega, (List.mergeSort_perm ss _).trans hp, ?_, by rw [← hl]; simpa using r4⟩
    · subst e
      have hs0 : ss = [] := List.eq_nil_of_length_eq_zero (by simpa using hl)
      have := hnil.2 hs0
      cases this
    · have tr : ∀ a b c : Int, leI a b = true → leI b c = true → leI a c = true := fun a b c h1 h2 => by simp only [leI, decide_eq_true_eq] at *; exact Int.le_trans h1 h2
      have to : ∀ a b : Int, (leI a b || leI b a) = true := fun a b => by simp only [leI, Bool.or_eq_true, decide_eq_true_eq]; exact Int.le_total a b
      exact (List.pairwise_mergeSort tr to ss).imp fun h => of_decide_eq_true h

theorem Tryz.libOK : LibOK Tryz.prog G.nums where
  idle := ⟨fun B O Bm clock es w A h1 h2 h3 h4 h5 => Tryz.idle B O Bm clock es w A h1 h2 h3 h4 h5, by kernel_rfl⟩
  len := ⟨fun x w h0 h1 => Tryz.bits_Len x w h0 h1, by kernel_rfl⟩
  sorted := ⟨Tryz.sortedSpec, by kernel_rfl⟩
  join := ⟨fun bk o c xs sep w h1 h2 h3 h4 h5 => Tryz.strings_Join bk o c xs sep w h1 h2 h3 h4 h5, by kernel_rfl⟩
  split := ⟨⟨9, fun s sep m w h1 h2 h3 => Tryz.strings_Split s sep m w h1 h2 h3⟩, by kernel_rfl⟩
  cut := ⟨fun s sep m w h1 h2 => Tryz.strings_Cut s sep m w h1 h2, by kernel_rfl⟩
  format := ⟨fun i w h => Tryz.strconv_FormatInt_10_small i h w, by kernel_rfl⟩
  parse := ⟨fun s x w h1 h2 => (Tryz.strconv_ParseInt_10_at32_ok s (by omega) x h1 w).mono (by
    rintro e w' ⟨rfl, hw⟩
    refine ⟨rfl, ?_⟩
    rcases hw with rfl | ⟨t, rfl⟩
    · exact Below.refl _ _
    · exact Lib.bytesWorld_below _ _ _), by kernel_rfl⟩
end Go.Proofs

namespace Go.G
open Go Go.Ax
variable {H : HeapI}
theorem ok0 : HooksOK P (hk0 (H := H)) := hooks2_ok Go.Proofs.Tryz.libOK hmix hidle hnil
theorem ok1 : HooksOK P (hk1 (H := H)) := cl_ok ok0 (sall_ok ok0 hmix tab_ok 30000 200) r1
theorem ok2 : HooksOK P (hk2 (H := H)) := cl_ok ok1 (sall_ok ok1 hmix tab_ok 30000 200) r2
theorem ok7 : HooksOK P (hk7 (H := H)) := cl_ok ok2 (sall_ok ok2 hmix tab_ok 30000 200) r7
theorem ok9 : HooksOK P (hk9 (H := H)) := cl_ok ok7 (sall_ok ok7 hmix tab_ok 30000 200) r9
theorem ok12 : HooksOK P (hk12 (H := H)) := cl_ok ok9 (sall_ok ok9 hmix tab_ok 30000 200) r12
theorem ok14 : HooksOK P (hk14 (H := H)) := cl_ok ok12 (sall_ok ok12 hmix tab_ok 30000 200) r14
theorem ok18 : HooksOK P (hk18 (H := H)) := cl_ok ok14 (sall_ok ok14 hmix tab_ok 30000 200) r18
theorem ok19 : HooksOK P (hk19 (H := H)) := cl_ok ok18 (sall_ok ok18 hmix tab_ok 30000 200) r19
theorem ok23 : HooksOK P (hk23 (H := H)) := cl_ok ok19 (sall_ok ok19 hmix tab_ok 30000 200) r23
theorem callOK : CallOK P (sall tab (hk23 (H := H)) 30000 200) := sall_ok ok23 hmix tab_ok 30000 200
end Go.G

