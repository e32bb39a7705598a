/- TopEarly, run. -/
import Derived.Test.YtmpaepfagmofoaaGreatDoorLB
import Derived.Test.YtmpaepfagmofoaaGreatDoorLI
set_option linter.all false
namespace Go.G
open Go Go.Ax
set_option maxRecDepth 100000
theorem early_at (m x : Int) : sall tab hk23 30000 200 n_top_TopEarly [I x] (bare 0 m) = top_TopEarly (sall tab hk23 30000 199) 30000 (I x) (bare 0 m) := by kernel_rfl
theorem early_alike {H : HeapI} (call : CallF H) (f : Nat) (x b : Int) (h : abin .and (I x) (I 15) = abin .and (I b) (I 15)) (σ : St H) : top_TopEarly call f (I x) σ = top_TopEarly call f (I b) σ := by
  have e : ∀ t4 t5 σ, top_TopEarlyJ6 call f (I x) t4 t5 σ = top_TopEarlyJ6 call f (I b) t4 t5 σ := fun t4 t5 σ => by unfold top_TopEarlyJ6; rw [h]
  unfold top_TopEarly top_TopEarlyJ13 top_TopEarlyJ12 top_TopEarlyJ11 top_TopEarlyJ10 top_TopEarlyJ9 top_TopEarlyJ8 top_TopEarlyJ7
  simp only [e]
theorem rEarlyAll0 (m : Int) : (isTrue (sall tab hk23 30000 200 n_top_TopEarly [I 0] (bare 0 m)) && (isTrue (sall tab hk23 30000 200 n_top_TopEarly [I 1] (bare 0 m)) && (isTrue (sall tab hk23 30000 200 n_top_TopEarly [I 2] (bare 0 m)) && isTrue (sall tab hk23 30000 200 n_top_TopEarly [I 3] (bare 0 m))))) = true := by kernel_rfl
theorem rEarlyAll1 (m : Int) : (isTrue (sall tab hk23 30000 200 n_top_TopEarly [I 4] (bare 0 m)) && (isTrue (sall tab hk23 30000 200 n_top_TopEarly [I 5] (bare 0 m)) && (isTrue (sall tab hk23 30000 200 n_top_TopEarly [I 6] (bare 0 m)) && isTrue (sall tab hk23 30000 200 n_top_TopEarly [I 7] (bare 0 m))))) = true := by kernel_rfl
theorem rEarlyAll2 (m : Int) : (isTrue (sall tab hk23 30000 200 n_top_TopEarly [I 8] (bare 0 m)) && (isTrue (sall tab hk23 30000 200 n_top_TopEarly [I 9] (bare 0 m)) && (isTrue (sall tab hk23 30000 200 n_top_TopEarly [I 10] (bare 0 m)) && isTrue (sall tab hk23 30000 200 n_top_TopEarly [I 11] (bare 0 m))))) = true := by kernel_rfl
theorem rEarlyAll3 (m : Int) : (isTrue (sall tab hk23 30000 200 n_top_TopEarly [I 12] (bare 0 m)) && (isTrue (sall tab hk23 30000 200 n_top_TopEarly [I 13] (bare 0 m)) && (isTrue (sall tab hk23 30000 200 n_top_TopEarly [I 14] (bare 0 m)) && isTrue (sall tab hk23 30000 200 n_top_TopEarly [I 15] (bare 0 m))))) = true := by kernel_rfl
theorem four {a b c d : Bool} (h : (a && (b && (c && d))) = true) : a = true ∧ b = true ∧ c = true ∧ d = true := by
  cases a <;> cases b <;> cases c <;> cases d <;> simp at h ⊢
theorem rEarly (m x : Int) : isTrue (sall tab hk23 30000 200 n_top_TopEarly [I x] (bare 0 m)) = true := by
  obtain ⟨b, hb, h⟩ := and_mask x 4 (by omega)
  rw [early_at, early_alike _ _ x b h, ← early_at]
  have hb : b = 0 ∨ b = 1 ∨ b = 2 ∨ b = 3 ∨ b = 4 ∨ b = 5 ∨ b = 6 ∨ b = 7 ∨ b = 8 ∨ b = 9 ∨ b = 10 ∨ b = 11 ∨ b = 12 ∨ b = 13 ∨ b = 14 ∨ b = 15 := by omega
  rcases hb with rfl | rfl | rfl | rfl | rfl | rfl | rfl | rfl | rfl | rfl | rfl | rfl | rfl | rfl | rfl | rfl
  · exact (four (rEarlyAll0 m)).1
  · exact (four (rEarlyAll0 m)).2.1
  · exact (four (rEarlyAll0 m)).2.2.1
  · exact (four (rEarlyAll0 m)).2.2.2
  · exact (four (rEarlyAll1 m)).1
  · exact (four (rEarlyAll1 m)).2.1
  · exact (four (rEarlyAll1 m)).2.2.1
  · exact (four (rEarlyAll1 m)).2.2.2
  · exact (four (rEarlyAll2 m)).1
  · exact (four (rEarlyAll2 m)).2.1
  · exact (four (rEarlyAll2 m)).2.2.1
  · exact (four (rEarlyAll2 m)).2.2.2
  · exact (four (rEarlyAll3 m)).1
  · exact (four (rEarlyAll3 m)).2.1
  · exact (four (rEarlyAll3 m)).2.2.1
  · exact (four (rEarlyAll3 m)).2.2.2
theorem earlyCalls {w : World} {m : Int} (hw : w.cell? ⟨0, 0, none⟩ = some (.int .i64 m)) (x : Int) :
    Calls P n_top_TopEarly #[.int .i64 x] w fun e w' => e = .returned (.bool true) ∧ RowKit.Below w.heap.size w w' :=
  closed_run (mx := 0) (by decide) callOK (args := [.int .i64 x]) (by intro v h; simp at h; subst h; rfl) (rEarly m x) hw
end Go.G

