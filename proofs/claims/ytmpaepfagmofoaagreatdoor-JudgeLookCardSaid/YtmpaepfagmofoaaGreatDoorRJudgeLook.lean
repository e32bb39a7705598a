/- JudgeLook, run. -/
import Derived.Test.YtmpaepfagmofoaaGreatDoorLB
import Derived.Test.YtmpaepfagmofoaaGreatDoorLI
set_option linter.all false
namespace Go.G
open Go Go.Ax
set_option maxRecDepth 100000
theorem look_at (m x y : Int) : sall tab hk23 30000 200 n_law23x_JudgeLook [I x, I y] (bare 0 m) = law23x_JudgeLook (sall tab hk23 30000 199) 30000 (I x) (I y) (bare 0 m) := by kernel_rfl
/-- a remainder made positive: again the same -/
theorem pos_rem (t n : Int) (hn : 0 < n) : 0 ≤ (t.tmod n + n).tmod n ∧ (t.tmod n + n).tmod n < n ∧ (((t.tmod n + n).tmod n).tmod n + n).tmod n = (t.tmod n + n).tmod n := by
  have h1 := Int.tmod_lt_of_pos t hn
  have h2 : -n < t.tmod n := Int.lt_tmod_of_pos t hn
  have h3 : 0 ≤ t.tmod n + n := by omega
  have h4 : 0 ≤ (t.tmod n + n).tmod n := Int.tmod_nonneg _ h3
  have h5 := Int.tmod_lt_of_pos (t.tmod n + n) hn
  refine ⟨h4, h5, ?_⟩
  generalize (t.tmod n + n).tmod n = q at h4 h5
  rw [Int.tmod_eq_of_lt h4 h5, Int.tmod_eq_emod_of_nonneg (by omega), Int.add_emod_right, Int.emod_eq_of_lt h4 h5]
theorem look_alike {H : HeapI} (call : CallF H) (f : Nat) (x y : Int) (σ : St H) :
    law23x_JudgeLook call f (I x) (I y) σ = law23x_JudgeLook call f (I ((x.tmod 10 + 10).tmod 10)) (I ((y.tmod 3 + 3).tmod 3)) σ := by
  have e1 : ∀ t20 σ, law23x_JudgeLookJ8 call f t20 (I y) σ = law23x_JudgeLookJ8 call f t20 (I ((y.tmod 3 + 3).tmod 3)) σ := fun t20 σ => by
    unfold law23x_JudgeLookJ8
    rw [rem_add_rem y 3 (by omega) (by omega), rem_add_rem ((y.tmod 3 + 3).tmod 3) 3 (by omega) (by omega), (pos_rem y 3 (by omega)).2.2]
  have e2 : ∀ t1 σ, law23x_JudgeLookJ9 call f (I x) t1 σ = law23x_JudgeLookJ9 call f (I ((x.tmod 10 + 10).tmod 10)) t1 σ := fun t1 σ => by
    unfold law23x_JudgeLookJ9
    rw [rem_add_rem x 10 (by omega) (by omega), rem_add_rem ((x.tmod 10 + 10).tmod 10) 10 (by omega) (by omega), (pos_rem x 10 (by omega)).2.2]
  have e3 : ∀ t0 σ, law23x_JudgeLookJ9 call f t0 (I y) σ = law23x_JudgeLookJ9 call f t0 (I ((y.tmod 3 + 3).tmod 3)) σ := fun t0 σ => by
    unfold law23x_JudgeLookJ9
    simp only [e1]
  unfold law23x_JudgeLook law23x_JudgeLookJ12 law23x_JudgeLookJ11 law23x_JudgeLookJ10
  simp only [e2, e3]
theorem rLook0p0 (m : Int) : isTrue (sall tab hk23 30000 200 n_law23x_JudgeLook [I 0, I 0] (bare 0 m)) = true := by kernel_rfl
theorem rLook0p1 (m : Int) : isTrue (sall tab hk23 30000 200 n_law23x_JudgeLook [I 0, I 1] (bare 0 m)) = true := by kernel_rfl
theorem rLook0p2 (m : Int) : isTrue (sall tab hk23 30000 200 n_law23x_JudgeLook [I 0, I 2] (bare 0 m)) = true := by kernel_rfl
theorem rLook1p0 (m : Int) : isTrue (sall tab hk23 30000 200 n_law23x_JudgeLook [I 1, I 0] (bare 0 m)) = true := by kernel_rfl
theorem rLook1p1 (m : Int) : isTrue (sall tab hk23 30000 200 n_law23x_JudgeLook [I 1, I 1] (bare 0 m)) = true := by kernel_rfl
theorem rLook1p2 (m : Int) : isTrue (sall tab hk23 30000 200 n_law23x_JudgeLook [I 1, I 2] (bare 0 m)) = true := by kernel_rfl
theorem rLook2p0 (m : Int) : isTrue (sall tab hk23 30000 200 n_law23x_JudgeLook [I 2, I 0] (bare 0 m)) = true := by kernel_rfl
theorem rLook2p1 (m : Int) : isTrue (sall tab hk23 30000 200 n_law23x_JudgeLook [I 2, I 1] (bare 0 m)) = true := by kernel_rfl
theorem rLook2p2 (m : Int) : isTrue (sall tab hk23 30000 200 n_law23x_JudgeLook [I 2, I 2] (bare 0 m)) = true := by kernel_rfl
theorem rLook3p0 (m : Int) : isTrue (sall tab hk23 30000 200 n_law23x_JudgeLook [I 3, I 0] (bare 0 m)) = true := by kernel_rfl
theorem rLook3p1 (m : Int) : isTrue (sall tab hk23 30000 200 n_law23x_JudgeLook [I 3, I 1] (bare 0 m)) = true := by kernel_rfl
theorem rLook3p2 (m : Int) : isTrue (sall tab hk23 30000 200 n_law23x_JudgeLook [I 3, I 2] (bare 0 m)) = true := by kernel_rfl
theorem rLook4p0 (m : Int) : isTrue (sall tab hk23 30000 200 n_law23x_JudgeLook [I 4, I 0] (bare 0 m)) = true := by kernel_rfl
theorem rLook4p1 (m : Int) : isTrue (sall tab hk23 30000 200 n_law23x_JudgeLook [I 4, I 1] (bare 0 m)) = true := by kernel_rfl
theorem rLook4p2 (m : Int) : isTrue (sall tab hk23 30000 200 n_law23x_JudgeLook [I 4, I 2] (bare 0 m)) = true := by kernel_rfl
theorem rLook5p0 (m : Int) : isTrue (sall tab hk23 30000 200 n_law23x_JudgeLook [I 5, I 0] (bare 0 m)) = true := by kernel_rfl
theorem rLook5p1 (m : Int) : isTrue (sall tab hk23 30000 200 n_law23x_JudgeLook [I 5, I 1] (bare 0 m)) = true := by kernel_rfl
theorem rLook5p2 (m : Int) : isTrue (sall tab hk23 30000 200 n_law23x_JudgeLook [I 5, I 2] (bare 0 m)) = true := by kernel_rfl
theorem rLook6p0 (m : Int) : isTrue (sall tab hk23 30000 200 n_law23x_JudgeLook [I 6, I 0] (bare 0 m)) = true := by kernel_rfl
theorem rLook6p1 (m : Int) : isTrue (sall tab hk23 30000 200 n_law23x_JudgeLook [I 6, I 1] (bare 0 m)) = true := by kernel_rfl
theorem rLook6p2 (m : Int) : isTrue (sall tab hk23 30000 200 n_law23x_JudgeLook [I 6, I 2] (bare 0 m)) = true := by kernel_rfl
theorem rLook7p0 (m : Int) : isTrue (sall tab hk23 30000 200 n_law23x_JudgeLook [I 7, I 0] (bare 0 m)) = true := by kernel_rfl
theorem rLook7p1 (m : Int) : isTrue (sall tab hk23 30000 200 n_law23x_JudgeLook [I 7, I 1] (bare 0 m)) = true := by kernel_rfl
theorem rLook7p2 (m : Int) : isTrue (sall tab hk23 30000 200 n_law23x_JudgeLook [I 7, I 2] (bare 0 m)) = true := by kernel_rfl
theorem rLook8p0 (m : Int) : isTrue (sall tab hk23 30000 200 n_law23x_JudgeLook [I 8, I 0] (bare 0 m)) = true := by kernel_rfl
theorem rLook8p1 (m : Int) : isTrue (sall tab hk23 30000 200 n_law23x_JudgeLook [I 8, I 1] (bare 0 m)) = true := by kernel_rfl
theorem rLook8p2 (m : Int) : isTrue (sall tab hk23 30000 200 n_law23x_JudgeLook [I 8, I 2] (bare 0 m)) = true := by kernel_rfl
theorem rLook9p0 (m : Int) : isTrue (sall tab hk23 30000 200 n_law23x_JudgeLook [I 9, I 0] (bare 0 m)) = true := by kernel_rfl
theorem rLook9p1 (m : Int) : isTrue (sall tab hk23 30000 200 n_law23x_JudgeLook [I 9, I 1] (bare 0 m)) = true := by kernel_rfl
theorem rLook9p2 (m : Int) : isTrue (sall tab hk23 30000 200 n_law23x_JudgeLook [I 9, I 2] (bare 0 m)) = true := by kernel_rfl
theorem rLook (m x y : Int) : isTrue (sall tab hk23 30000 200 n_law23x_JudgeLook [I x, I y] (bare 0 m)) = true := by
  rw [look_at, look_alike, ← look_at]
  obtain ⟨h1, h2, _⟩ := pos_rem x 10 (by omega)
  obtain ⟨h3, h4, _⟩ := pos_rem y 3 (by omega)
  generalize (x.tmod 10 + 10).tmod 10 = q at h1 h2 ⊢
  generalize (y.tmod 3 + 3).tmod 3 = r at h3 h4 ⊢
  have hq : q = 0 ∨ q = 1 ∨ q = 2 ∨ q = 3 ∨ q = 4 ∨ q = 5 ∨ q = 6 ∨ q = 7 ∨ q = 8 ∨ q = 9 := by omega
  have hr : r = 0 ∨ r = 1 ∨ r = 2 := by omega
  rcases hq with rfl | rfl | rfl | rfl | rfl | rfl | rfl | rfl | rfl | rfl
  · rcases hr with rfl | rfl | rfl
    · exact rLook0p0 m
    · exact rLook0p1 m
    · exact rLook0p2 m
  · rcases hr with rfl | rfl | rfl
    · exact rLook1p0 m
    · exact rLook1p1 m
    · exact rLook1p2 m
  · rcases hr with rfl | rfl | rfl
    · exact rLook2p0 m
    · exact rLook2p1 m
    · exact rLook2p2 m
  · rcases hr with rfl | rfl | rfl
    · exact rLook3p0 m
    · exact rLook3p1 m
    · exact rLook3p2 m
  · rcases hr with rfl | rfl | rfl
    · exact rLook4p0 m
    · exact rLook4p1 m
    · exact rLook4p2 m
  · rcases hr with rfl | rfl | rfl
    · exact rLook5p0 m
    · exact rLook5p1 m
    · exact rLook5p2 m
  · rcases hr with rfl | rfl | rfl
    · exact rLook6p0 m
    · exact rLook6p1 m
    · exact rLook6p2 m
  · rcases hr with rfl | rfl | rfl
    · exact rLook7p0 m
    · exact rLook7p1 m
    · exact rLook7p2 m
  · rcases hr with rfl | rfl | rfl
    · exact rLook8p0 m
    · exact rLook8p1 m
    · exact rLook8p2 m
  · rcases hr with rfl | rfl | rfl
    · exact rLook9p0 m
    · exact rLook9p1 m
    · exact rLook9p2 m
theorem lookCalls {w : World} {m : Int} (hw : w.cell? ⟨0, 0, none⟩ = some (.int .i64 m)) (x y : Int) :
    Calls P n_law23x_JudgeLook #[.int .i64 x, .int .i64 y] w fun e w' => e = .returned (.bool true) ∧ RowKit.Below w.heap.size w w' :=
  closed_run (mx := 0) (by decide) callOK (args := [.int .i64 x, .int .i64 y]) (by intro v h; simp at h; rcases h with rfl | rfl <;> rfl) (rLook m x y) hw
end Go.G

