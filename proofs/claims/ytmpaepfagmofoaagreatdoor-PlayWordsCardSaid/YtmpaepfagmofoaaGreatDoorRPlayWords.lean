/- PlayWords, run. -/
import Derived.Test.YtmpaepfagmofoaaGreatDoorLB
import Derived.Test.YtmpaepfagmofoaaGreatDoorLI
set_option linter.all false
namespace Go.G
open Go Go.Ax
set_option maxRecDepth 100000
theorem words_at (m x : Int) : sall tab hk23 30000 200 n_law23x_PlayWords [I x] (bare 0 m) = law23x_PlayWords (sall tab hk23 30000 199) 30000 (I x) (bare 0 m) := by kernel_rfl
theorem words_alike {H : HeapI} (call : CallF H) (f : Nat) (x b : Int) (h : abin .and (I x) (I 1) = abin .and (I b) (I 1)) (σ : St H) : law23x_PlayWords call f (I x) σ = law23x_PlayWords call f (I b) σ := by
  have e : ∀ σ, law23x_PlayWordsJ14 call f (I x) σ = law23x_PlayWordsJ14 call f (I b) σ := fun σ => by unfold law23x_PlayWordsJ14; rw [h]
  unfold law23x_PlayWords law23x_PlayWordsJ17 law23x_PlayWordsJ16 law23x_PlayWordsJ15
  simp only [e]
theorem rWords0 (m : Int) : isTrue (sall tab hk23 30000 200 n_law23x_PlayWords [I 0] (bare 0 m)) = true := by kernel_rfl
theorem rWords1 (m : Int) : isTrue (sall tab hk23 30000 200 n_law23x_PlayWords [I 1] (bare 0 m)) = true := by kernel_rfl
theorem rWords (m x : Int) : isTrue (sall tab hk23 30000 200 n_law23x_PlayWords [I x] (bare 0 m)) = true := by
  obtain ⟨b, hb, h⟩ := and_mask x 1 (by omega)
  rw [words_at, words_alike _ _ x b h, ← words_at]
  match b, hb with
  | 0, _ => exact rWords0 m
  | 1, _ => exact rWords1 m
theorem wordsCalls {w : World} {m : Int} (hw : w.cell? ⟨0, 0, none⟩ = some (.int .i64 m)) (x : Int) :
    Calls P n_law23x_PlayWords #[.int .i64 x] w fun e w' => e = .returned (.bool true) ∧ RowKit.Below w.heap.size w w' :=
  closed_run (mx := 0) (by decide) callOK (args := [.int .i64 x]) (by intro v h; simp at h; subst h; rfl) (rWords m x) hw
end Go.G

