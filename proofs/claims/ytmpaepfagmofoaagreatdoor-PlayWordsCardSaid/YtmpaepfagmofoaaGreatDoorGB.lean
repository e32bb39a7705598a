/- Functions of the program, one Lean function each, and the proofs that they are the same (2). -/
import Derived.Test.YtmpaepfagmofoaaGreatDoorGN
set_option linter.all false
namespace Go.G
open Go Go.Ax
set_option maxRecDepth 100000
set_option linter.unusedVariables false
variable {H : HeapI}
noncomputable section
def rule_within (call : CallF H) (f : Nat) (a0 a1 a2 : Value) (σ : St H) : R H :=
  bindV (abin .geq a0 a1) fun t9 =>
  bindV (bif kyes t9 true then some a0 else some undefV) fun t11 =>
  bindV (bif kyes t9 true then some a2 else some undefV) fun t12 =>
  bindV (bif kyes t9 true then abin .leq t11 t12 else some undefV) fun t13 =>
  bindV (vPick t9 t13 ff) fun t14 =>
  some (t14, σ)
theorem rule_withinEq (call : CallF H) (f : Nat) (a0 a1 a2 : Value) (σ : St H) : kbody call f (codeOf P n_rule_within) [a0, a1, a2] σ = rule_within call f a0 a1 a2 σ := by kernel_rfl

abbrev load_OfR : List ARes := [.tmp 8]
def load_OfJ1 (call : CallF H) (f : Nat) (t9 : Value) (σ : St H) : R H :=
  some (t9, σ)
def load_OfJ3 (call : CallF H) (f : Nat) (r2 : Value → Value → Value → Value → Value → Value → Value → Value → Value → St H → R H) (t1 t2 t4 t7 t9 t10 t12 t13 t42 t43 t44 : Value) (σ : St H) : R H :=
  bindV (vFieldAddr 0 t12) fun t71 =>
  bindV (vLoad false 1 t71 σ) fun t72 =>
  bindV (vFieldAddr 0 t12) fun t74 =>
  bindV (vLoad false 1 t74 σ) fun t75 =>
  bindV (vIndexAddr 1 t9 t75) fun t76 =>
  bindV (vLoad false 1 t76 σ) fun t77 =>
  bindV (vLoad true 3 t13 σ) fun t78 =>
  bindR (vBuildSlice 1 [(I 0), (I 0), (I 0)] [(0, 3, t78)] σ) fun t79 σ =>
  bindR (vAppend 3 24 [(I 0), (I 0), (I 0)] false t77 t79 σ) fun t80 σ =>
  kif (kand (rck (vLoad false 1 t71 σ) t72) true) (
  bindV (vIndexAddr 1 t9 t72) fun t81 =>
  bindS (vStore 1 t81 t80 σ) fun σ =>
  bindV (abin .add t44 (I 1)) fun t82 =>
  r2 t1 t2 t4 t7 t9 t10 t42 t43 t82 σ)
def load_OfL2 (call : CallF H) (f : Nat) (n : Nat) : Value → Value → Value → Value → Value → Value → Value → Value → Value → St H → R H :=
  Nat.rec (fun _ _ _ _ _ _ _ _ _ _ => none) (fun _ r2 => fun t1 t2 t4 t7 t9 t10 t42 t43 t44 σ =>
  bindV (abin .lss t44 t43) fun t45 =>
  ifV t45 (
  bindV (vIndexAddr 4 t42 t44) fun t46 =>
  bindV (vLoad true 4 t46 σ) fun t47 =>
  bindR (vBox (.agg ⟨(rep [(I 0)] 4)⟩) σ) fun t12 σ =>
  bindS (vStore 4 t12 t47 σ) fun σ =>
  bindV (vFieldAddr 3 t12) fun t48 =>
  bindV (vLoad false 1 t48 σ) fun t49 =>
  bindV (vFieldAddr 2 t12) fun t50 =>
  bindV (vLoad false 1 t50 σ) fun t51 =>
  bindV (vFieldAddr 2 t10) fun t52 =>
  bindV (vLoad false 1 t52 σ) fun t53 =>
  bindV (vBuild [(I 0), (I 0), (I 0)] [(0, 1, t49), (1, 1, t51), (2, 1, t53)]) fun t54 =>
  bindR (vBox (.agg ⟨[(I 0), (I 0), (I 0)]⟩) σ) fun t13 σ =>
  bindS (vStore 3 t13 t54 σ) fun σ =>
  bindV (vFieldAddr 0 t7) fun t55 =>
  bindV (vLoad false 1 t55 σ) fun t56 =>
  bindV (abin .eql t56 (I 1)) fun t57 =>
  ifV t57 (
  bindV (vFieldAddr 0 t10) fun t58 =>
  bindV (vLoad false 1 t58 σ) fun t59 =>
  bindV (vLoad true 5 t4 σ) fun t60 =>
  bindV (vFieldAddr 1 t10) fun t65 =>
  bindV (vLoad false 1 t65 σ) fun t66 =>
  bindV (vFieldAddr 2 t10) fun t67 =>
  bindV (vLoad false 1 t67 σ) fun t68 =>
  bindR (call n_wait_Task [t60, t1, t2] σ) fun t63 σ =>
  kif (kand (rck (vLoad false 1 t67 σ) t68) (kand (rck (vLoad false 1 t65 σ) t66) (kand (rck (vLoad false 1 t58 σ) t59) true))) (
  bindV (abin .add t59 t63) fun t64 =>
  bindV (vBuild [(I 0), (I 0), (I 0)] [(0, 1, t64), (1, 1, t66), (2, 1, t68)]) fun t69 =>
  bindS (vStore 3 t13 t69 σ) fun σ =>
  load_OfJ3 call f r2 t1 t2 t4 t7 t9 t10 t12 t13 t42 t43 t44 σ)) (
  load_OfJ3 call f r2 t1 t2 t4 t7 t9 t10 t12 t13 t42 t43 t44 σ)) (
  load_OfJ1 call f t9 σ)) n
def load_OfJ4 (call : CallF H) (f : Nat) (t1 t2 t4 t7 t9 t10 : Value) (σ : St H) : R H :=
  bindV (vFieldAddr 1 t7) fun t41 =>
  bindV (vLoad false 1 t41 σ) fun t42 =>
  bindV (vLen .slice t42 σ) fun t43 =>
  load_OfL2 call f f t1 t2 t4 t7 t9 t10 t42 t43 (I 0) σ
def load_OfJ5 (call : CallF H) (f : Nat) (t1 t2 t4 t7 t9 : Value) (σ : St H) : R H :=
  bindV (vIndexAddr 4 t1 t2) fun t39 =>
  bindV (vLoad true 4 t39 σ) fun t40 =>
  bindR (vBox (.agg ⟨[(I 0), (I 0), (I 0), (.slice none 0 0)]⟩) σ) fun t10 σ =>
  bindS (vStore 4 t10 t40 σ) fun σ =>
  load_OfJ4 call f t1 t2 t4 t7 t9 t10 σ
def load_OfJ6 (call : CallF H) (f : Nat) (t1 t2 t4 t7 : Value) (σ : St H) : R H :=
  bindV (vFieldAddr 0 t4) fun t34 =>
  bindV (vLoad false 1 t34 σ) fun t35 =>
  bindR (vMkSlice 24 [(.slice none 0 0)] t35 t35 σ) fun t36 σ =>
  load_OfJ5 call f t1 t2 t4 t7 t36 σ
def load_OfJ7 (call : CallF H) (f : Nat) (t1 t2 t4 t7 : Value) (σ : St H) : R H :=
  bindV (vLoad true 5 t4 σ) fun t14 =>
  bindR (call n_load_may [t14, t1] σ) fun t16 σ =>
  bindV (aun .not t16) fun t17 =>
  bindV (bif kyes t17 false then some t2 else some undefV) fun t19 =>
  bindV (bif kyes t17 false then abin .lss t19 (I 0) else some undefV) fun t20 =>
  bindV (vPick t17 tt t20) fun t21 =>
  bindV (bif kyes t21 false then some t2 else some undefV) fun t23 =>
  bindV (bif kyes t21 false then some t1 else some undefV) fun t24 =>
  bindV (bif kyes t21 false then vLen .slice t24 σ else some undefV) fun t25 =>
  bindV (bif kyes t21 false then abin .geq t23 t25 else some undefV) fun t26 =>
  bindV (vPick t21 tt t26) fun t27 =>
  bindV (bif kyes t27 false then vLoad true 5 t4 σ else some undefV) fun t29 =>
  bindV (bif kyes t27 false then vLoad true 2 t7 σ else some undefV) fun t30 =>
  bindR (bif kyes t27 false then call n_load_placed [t29, t30] σ else some (undefV, σ)) fun t31 σ =>
  bindV (bif kyes t27 false then aun .not t31 else some undefV) fun t32 =>
  bindV (vPick t27 tt t32) fun t33 =>
  ifV t33 (
  some ((.slice none 0 0), σ)) (
  load_OfJ6 call f t1 t2 t4 t7 σ)
def load_OfJ8 (call : CallF H) (f : Nat) (t0 t1 t2 t3 : Value) (σ : St H) : R H :=
  bindR (vBox t0 σ) fun t4 σ =>
  bindR (vBox t3 σ) fun t7 σ =>
  load_OfJ7 call f t1 t2 t4 t7 σ
def load_Of (call : CallF H) (f : Nat) (a0 a1 a2 a3 : Value) (σ : St H) : R H := load_OfJ8 call f a0 a1 a2 a3 σ
theorem load_OfEq (call : CallF H) (f : Nat) (a0 a1 a2 a3 : Value) (σ : St H) : kbody call f (codeOf P n_load_Of) [a0, a1, a2, a3] σ = load_Of call f a0 a1 a2 a3 σ :=
  kbody_of (rs := load_OfR) (by kernel_rfl) (by kernel_rfl) (by kernel_rfl) (seq_eq (by kernel_rfl) (seq_eq (by kernel_rfl) (seq_eq (by kernel_rfl) (seq_eq (by kernel_rfl) (seq_eq (by kernel_rfl) (leaf (B := fun e σ => load_OfJ1 call f (e 9) σ) (by kernel_rfl))
  (seq_eq (by kernel_rfl) (block_eq (by kernel_rfl) (loop_eq (fun n e σ => load_OfL2 call f n (e 1) (e 2) (e 4) (e 7) (e 9) (e 10) (e 42) (e 43) (e 44) σ) (by kernel_rfl) (by kernel_rfl) (fun n2 => (leaf (by kernel_rfl)))))
  (leaf (B := fun e σ => load_OfJ4 call f (e 1) (e 2) (e 4) (e 7) (e 9) (e 10) σ) (by kernel_rfl))))
  (leaf (B := fun e σ => load_OfJ5 call f (e 1) (e 2) (e 4) (e 7) (e 9) σ) (by kernel_rfl)))
  (leaf (B := fun e σ => load_OfJ6 call f (e 1) (e 2) (e 4) (e 7) σ) (by kernel_rfl)))
  (leaf (B := fun e σ => load_OfJ7 call f (e 1) (e 2) (e 4) (e 7) σ) (by kernel_rfl)))
  (leaf (B := fun e σ => load_OfJ8 call f (e 0) (e 1) (e 2) (e 3) σ) (by kernel_rfl))) (by kernel_rfl)

def slices_ContainsFunc___api_Load__api_Load (call : CallF H) (f : Nat) (a0 a1 : Value) (σ : St H) : R H :=
  bindR (call n_slices_IndexFunc___api_Load__api_Load [a0, a1] σ) fun t7 σ =>
  bindV (abin .geq t7 (I 0)) fun t8 =>
  some (t8, σ)
theorem slices_ContainsFunc___api_Load__api_LoadEq (call : CallF H) (f : Nat) (a0 a1 : Value) (σ : St H) : kbody call f (codeOf P n_slices_ContainsFunc___api_Load__api_Load) [a0, a1] σ = slices_ContainsFunc___api_Load__api_Load call f a0 a1 σ := by kernel_rfl

def admit_Admit_beside_1 (call : CallF H) (f : Nat) (a0 : Value) (σ : St H) : R H :=
  bindR (call n_demand_Fits [a0] σ) fun t4 σ =>
  bindV (aun .not t4) fun t5 =>
  some (t5, σ)
theorem admit_Admit_beside_1Eq (call : CallF H) (f : Nat) (a0 : Value) (σ : St H) : kbody call f (codeOf P n_admit_Admit_beside_1) [a0] σ = admit_Admit_beside_1 call f a0 σ := by kernel_rfl

def demand_Fits (call : CallF H) (f : Nat) (a0 : Value) (σ : St H) : R H :=
  bindR (call n_busy_Time [a0] σ) fun t9 σ =>
  bindV (vExtract 0 t9) fun t10 =>
  bindV (vExtract 1 t9) fun t11 =>
  bindR (call n_demand_First [a0] σ) fun t14 σ =>
  bindV (vExtract 0 t14) fun t15 =>
  bindV (vExtract 1 t14) fun t16 =>
  bindV (bif kyes t11 true then some t16 else some undefV) fun t19 =>
  bindV (bif kyes t11 true then aun .not t19 else some undefV) fun t20 =>
  bindV (vPick t11 t20 ff) fun t21 =>
  some (t21, σ)
theorem demand_FitsEq (call : CallF H) (f : Nat) (a0 : Value) (σ : St H) : kbody call f (codeOf P n_demand_Fits) [a0] σ = demand_Fits call f a0 σ := by kernel_rfl

def whole_Place (call : CallF H) (f : Nat) (a0 a1 a2 : Value) (σ : St H) : R H :=
  bindR (vBox a1 σ) fun t4 σ =>
  bindR (vBox (.agg ⟨[(I 0), (.slice none 0 0)]⟩) σ) fun t6 σ =>
  bindV (vFieldAddr 0 t4) fun t10 =>
  bindV (vLoad false 1 t10 σ) fun t11 =>
  bindV (abin .add t11 a2) fun t13 =>
  bindV (vFieldAddr 1 t4) fun t14 =>
  bindV (vLoad false 1 t14 σ) fun t15 =>
  bindV (vFieldAddr 2 t4) fun t16 =>
  bindV (vLoad false 1 t16 σ) fun t17 =>
  bindV (vBuild [(I 0), (I 0), (I 0)] [(0, 1, t13), (1, 1, t15), (2, 1, t17)]) fun t18 =>
  bindR (call n_whole_Core [a0, t18] σ) fun t19 σ =>
  bindV (abin .lss t19 (I 0)) fun t21 =>
  ifV t21 (
  bindV (vBuild [(I 0), (.slice none 0 0)] []) fun t22 =>
  bindS (vStore 2 t6 t22 σ) fun σ =>
  resV [.c t6 true 2, .v ff] σ) (
  bindV (vFieldAddr 1 t4) fun t24 =>
  bindV (vLoad false 1 t24 σ) fun t25 =>
  bindV (vFieldAddr 0 t4) fun t26 =>
  bindV (vLoad false 1 t26 σ) fun t27 =>
  bindV (vBuild (rep [(I 0)] 4) [(0, 1, t19), (2, 1, t25), (3, 1, t27)]) fun t28 =>
  bindR (vBuildSlice 1 (rep [(I 0)] 4) [(0, 4, t28)] σ) fun t29 σ =>
  bindV (vBuild [(I 0), (.slice none 0 0)] [(0, 1, (I 1)), (1, 1, t29)]) fun t30 =>
  bindS (vStore 2 t6 t30 σ) fun σ =>
  resV [.c t6 true 2, .v tt] σ)
theorem whole_PlaceEq (call : CallF H) (f : Nat) (a0 a1 a2 : Value) (σ : St H) : kbody call f (codeOf P n_whole_Place) [a0, a1, a2] σ = whole_Place call f a0 a1 a2 σ := by kernel_rfl

abbrev window_SplitR : List ARes := [.cell 6 true 2, .tmp 7]
def window_SplitJ1 (call : CallF H) (f : Nat) (t6 : Value) (σ : St H) : R H :=
  bindV (vBuild [(I 0), (.slice none 0 0)] []) fun t63 =>
  bindS (vStore 2 t6 t63 σ) fun σ =>
  resV [.c t6 true 2, .v ff] σ
def window_SplitL2 (call : CallF H) (f : Nat) (n : Nat) : Value → Value → Value → Value → Value → St H → R H :=
  Nat.rec (fun _ _ _ _ _ _ => none) (fun _ r2 => fun t1 t3 t5 t6 t8 σ =>
  bindV (vFieldAddr 0 t3) fun t36 =>
  bindV (vLoad false 1 t36 σ) fun t37 =>
  bindV (abin .leq t8 t37) fun t38 =>
  ifV t38 (
  bindV (vLoad true 5 t3 σ) fun t41 =>
  bindV (vLoad true 4 t5 σ) fun t42 =>
  bindR (call n_window_Size [t41, t42, t8] σ) fun t44 σ =>
  bindV (abin .eql t44 (I 0)) fun t46 =>
  ifV t46 (
  window_SplitJ1 call f t6 σ) (
  bindV (vLoad true 5 t3 σ) fun t48 =>
  bindV (vLoad true 4 t5 σ) fun t49 =>
  bindV (vLoad true 5 t3 σ) fun t51 =>
  bindV (vLoad true 4 t5 σ) fun t53 =>
  bindR (call n_window_best [t51, t1, t53, t8, t44] σ) fun t56 σ =>
  kif (kand (rck (vLoad true 4 t5 σ) t49) (kand (rck (vLoad true 5 t3 σ) t48) true)) (
  bindR (call n_window_pieces [t48, t49, t44, t56] σ) fun t57 σ =>
  bindV (vExtract 0 t57) fun t58 =>
  bindV (vExtract 1 t57) fun t59 =>
  ifV t59 (
  bindV (vBuild [(I 0), (.slice none 0 0)] [(0, 1, (I 2)), (1, 1, t58)]) fun t62 =>
  bindS (vStore 2 t6 t62 σ) fun σ =>
  resV [.c t6 true 2, .v tt] σ) (
  bindV (abin .add t8 (I 1)) fun t40 =>
  r2 t1 t3 t5 t6 t40 σ)))) (
  window_SplitJ1 call f t6 σ)) n
def window_SplitJ3 (call : CallF H) (f : Nat) (t1 t3 t5 t6 : Value) (σ : St H) : R H :=
  window_SplitL2 call f f t1 t3 t5 t6 (I 2) σ
def window_SplitJ4 (call : CallF H) (f : Nat) (t1 t3 t5 t6 : Value) (σ : St H) : R H :=
  bindV (vLoad true 5 t3 σ) fun t12 =>
  bindR (call n_rule_Config [t12] σ) fun t13 σ =>
  bindV (aun .not t13) fun t14 =>
  bindV (bif kyes t14 false then vLoad true 5 t3 σ else some undefV) fun t16 =>
  bindV (bif kyes t14 false then vLoad true 4 t5 σ else some undefV) fun t17 =>
  bindR (bif kyes t14 false then call n_rule_Task [t16, t17] σ else some (undefV, σ)) fun t18 σ =>
  bindV (bif kyes t14 false then aun .not t18 else some undefV) fun t19 =>
  bindV (vPick t14 tt t19) fun t20 =>
  bindV (bif kyes t20 false then vFieldAddr 3 t5 else some undefV) fun t22 =>
  bindV (bif kyes t20 false then vLoad false 1 t22 σ else some undefV) fun t23 =>
  bindV (bif kyes t20 false then vLen .slice t23 σ else some undefV) fun t24 =>
  bindV (bif kyes t20 false then abin .gtr t24 (I 0) else some undefV) fun t25 =>
  bindV (vPick t20 tt t25) fun t26 =>
  bindV (bif kyes t26 false then some t1 else some undefV) fun t28 =>
  bindV (bif kyes t26 false then vLen .slice t28 σ else some undefV) fun t29 =>
  bindV (bif kyes t26 false then vFieldAddr 0 t3 else some undefV) fun t30 =>
  bindV (bif kyes t26 false then vLoad false 1 t30 σ else some undefV) fun t31 =>
  bindV (bif kyes t26 false then abin .neq t29 t31 else some undefV) fun t32 =>
  bindV (vPick t26 tt t32) fun t33 =>
  ifV t33 (
  bindV (vBuild [(I 0), (.slice none 0 0)] []) fun t34 =>
  bindS (vStore 2 t6 t34 σ) fun σ =>
  resV [.c t6 true 2, .v ff] σ) (
  window_SplitJ3 call f t1 t3 t5 t6 σ)
def window_SplitJ5 (call : CallF H) (f : Nat) (t0 t1 t2 : Value) (σ : St H) : R H :=
  bindR (vBox t0 σ) fun t3 σ =>
  bindR (vBox t2 σ) fun t5 σ =>
  bindR (vBox (.agg ⟨[(I 0), (.slice none 0 0)]⟩) σ) fun t6 σ =>
  window_SplitJ4 call f t1 t3 t5 t6 σ
def window_Split (call : CallF H) (f : Nat) (a0 a1 a2 : Value) (σ : St H) : R H := window_SplitJ5 call f a0 a1 a2 σ
theorem window_SplitEq (call : CallF H) (f : Nat) (a0 a1 a2 : Value) (σ : St H) : kbody call f (codeOf P n_window_Split) [a0, a1, a2] σ = window_Split call f a0 a1 a2 σ :=
  kbody_of (rs := window_SplitR) (by kernel_rfl) (by kernel_rfl) (by kernel_rfl) (seq_eq (by kernel_rfl) (seq_eq (by kernel_rfl) (seq_eq (by kernel_rfl) (leaf (B := fun e σ => window_SplitJ1 call f (e 6) σ) (by kernel_rfl))
  (seq_eq (by kernel_rfl) (block_eq (by kernel_rfl) (loop_eq (fun n e σ => window_SplitL2 call f n (e 1) (e 3) (e 5) (e 6) (e 8) σ) (by kernel_rfl) (by kernel_rfl) (fun n2 => (leaf (by kernel_rfl)))))
  (leaf (B := fun e σ => window_SplitJ3 call f (e 1) (e 3) (e 5) (e 6) σ) (by kernel_rfl))))
  (leaf (B := fun e σ => window_SplitJ4 call f (e 1) (e 3) (e 5) (e 6) σ) (by kernel_rfl)))
  (leaf (B := fun e σ => window_SplitJ5 call f (e 0) (e 1) (e 2) σ) (by kernel_rfl))) (by kernel_rfl)

abbrev zero_SplitR : List ARes := [.cell 6 true 2, .tmp 7]
def zero_SplitJ1 (call : CallF H) (f : Nat) (t6 : Value) (σ : St H) : R H :=
  bindV (vBuild [(I 0), (.slice none 0 0)] []) fun t61 =>
  bindS (vStore 2 t6 t61 σ) fun σ =>
  resV [.c t6 true 2, .v ff] σ
def zero_SplitJ3 (call : CallF H) (f : Nat) (r2 : Value → Value → Value → Value → Value → Value → St H → R H) (t1 t3 t5 t6 t36 t37 : Value) (σ : St H) : R H :=
  bindV (abin .add t37 (I 1)) fun t60 =>
  r2 t1 t3 t5 t6 t36 t60 σ
def zero_SplitJ5 (call : CallF H) (f : Nat) (r2 : Value → Value → Value → Value → Value → Value → St H → R H) (r4 : Value → Value → Value → Value → Value → Value → Value → Value → Value → St H → R H) (t1 t3 t5 t6 t8 t36 t37 t41 t42 : Value) (σ : St H) : R H :=
  bindV (abin .add t42 (I 1)) fun t59 =>
  r4 t1 t3 t5 t6 t8 t36 t37 t41 t59 σ
def zero_SplitL4 (call : CallF H) (f : Nat) (r2 : Value → Value → Value → Value → Value → Value → St H → R H) (n : Nat) : Value → Value → Value → Value → Value → Value → Value → Value → Value → St H → R H :=
  Nat.rec (fun _ _ _ _ _ _ _ _ _ _ => none) (fun _ r4 => fun t1 t3 t5 t6 t8 t36 t37 t41 t42 σ =>
  bindV (abin .lss t42 t41) fun t43 =>
  ifV t43 (
  bindV (abin .eql t8 t42) fun t47 =>
  ifV t47 (
  zero_SplitJ5 call f r2 r4 t1 t3 t5 t6 t8 t36 t37 t41 t42 σ) (
  bindV (vLoad true 5 t3 σ) fun t49 =>
  bindV (vLoad true 4 t5 σ) fun t51 =>
  bindR (call n_zero_pair [t49, t1, t51, t8, t42] σ) fun t54 σ =>
  bindV (vExtract 0 t54) fun t55 =>
  bindV (vExtract 1 t54) fun t56 =>
  bindR (vBox (.agg ⟨[(I 0), (.slice none 0 0)]⟩) σ) fun t10 σ =>
  bindS (vStore 2 t10 t55 σ) fun σ =>
  ifV t56 (
  bindV (vLoad true 2 t10 σ) fun t58 =>
  bindS (vStore 2 t6 t58 σ) fun σ =>
  resV [.c t6 true 2, .v tt] σ) (
  zero_SplitJ5 call f r2 r4 t1 t3 t5 t6 t8 t36 t37 t41 t42 σ))) (
  zero_SplitJ3 call f r2 t1 t3 t5 t6 t36 t37 σ)) n
def zero_SplitJ6 (call : CallF H) (f : Nat) (r2 : Value → Value → Value → Value → Value → Value → St H → R H) (t1 t3 t5 t6 t8 t36 t37 : Value) (σ : St H) : R H :=
  bindV (vLen .slice t1 σ) fun t41 =>
  zero_SplitL4 call f r2 f t1 t3 t5 t6 t8 t36 t37 t41 (I 0) σ
def zero_SplitJ7 (call : CallF H) (f : Nat) (r2 : Value → Value → Value → Value → Value → Value → St H → R H) (t1 t3 t5 t6 t36 t37 : Value) (σ : St H) : R H :=
  zero_SplitJ6 call f r2 t1 t3 t5 t6 t37 t36 t37 σ
def zero_SplitJ8 (call : CallF H) (f : Nat) (r2 : Value → Value → Value → Value → Value → Value → St H → R H) (t1 t3 t5 t6 t36 t37 t38 : Value) (σ : St H) : R H :=
  ifV t38 (
  zero_SplitJ7 call f r2 t1 t3 t5 t6 t36 t37 σ) (
  zero_SplitJ1 call f t6 σ)
def zero_SplitJ9 (call : CallF H) (f : Nat) (r2 : Value → Value → Value → Value → Value → Value → St H → R H) (t1 t3 t5 t6 t36 t37 : Value) (σ : St H) : R H :=
  bindV (abin .lss t37 t36) fun t38 =>
  zero_SplitJ8 call f r2 t1 t3 t5 t6 t36 t37 t38 σ
def zero_SplitL2 (call : CallF H) (f : Nat) (n : Nat) : Value → Value → Value → Value → Value → Value → St H → R H :=
  Nat.rec (fun _ _ _ _ _ _ _ => none) (fun _ r2 => fun t1 t3 t5 t6 t36 t37 σ =>
  zero_SplitJ9 call f r2 t1 t3 t5 t6 t36 t37 σ) n
def zero_SplitJ10 (call : CallF H) (f : Nat) (t1 t3 t5 t6 : Value) (σ : St H) : R H :=
  bindV (vLen .slice t1 σ) fun t36 =>
  zero_SplitL2 call f f t1 t3 t5 t6 t36 (I 0) σ
def zero_SplitJ11 (call : CallF H) (f : Nat) (t1 t3 t5 t6 : Value) (σ : St H) : R H :=
  bindV (vLoad true 5 t3 σ) fun t12 =>
  bindR (call n_rule_Config [t12] σ) fun t13 σ =>
  bindV (aun .not t13) fun t14 =>
  bindV (bif kyes t14 false then vLoad true 5 t3 σ else some undefV) fun t16 =>
  bindV (bif kyes t14 false then vLoad true 4 t5 σ else some undefV) fun t17 =>
  bindR (bif kyes t14 false then call n_rule_Task [t16, t17] σ else some (undefV, σ)) fun t18 σ =>
  bindV (bif kyes t14 false then aun .not t18 else some undefV) fun t19 =>
  bindV (vPick t14 tt t19) fun t20 =>
  bindV (bif kyes t20 false then vFieldAddr 3 t5 else some undefV) fun t22 =>
  bindV (bif kyes t20 false then vLoad false 1 t22 σ else some undefV) fun t23 =>
  bindV (bif kyes t20 false then vLen .slice t23 σ else some undefV) fun t24 =>
  bindV (bif kyes t20 false then abin .gtr t24 (I 0) else some undefV) fun t25 =>
  bindV (vPick t20 tt t25) fun t26 =>
  bindV (bif kyes t26 false then some t1 else some undefV) fun t28 =>
  bindV (bif kyes t26 false then vLen .slice t28 σ else some undefV) fun t29 =>
  bindV (bif kyes t26 false then vFieldAddr 0 t3 else some undefV) fun t30 =>
  bindV (bif kyes t26 false then vLoad false 1 t30 σ else some undefV) fun t31 =>
  bindV (bif kyes t26 false then abin .neq t29 t31 else some undefV) fun t32 =>
  bindV (vPick t26 tt t32) fun t33 =>
  ifV t33 (
  bindV (vBuild [(I 0), (.slice none 0 0)] []) fun t34 =>
  bindS (vStore 2 t6 t34 σ) fun σ =>
  resV [.c t6 true 2, .v ff] σ) (
  zero_SplitJ10 call f t1 t3 t5 t6 σ)
def zero_SplitJ12 (call : CallF H) (f : Nat) (t0 t1 t2 : Value) (σ : St H) : R H :=
  bindR (vBox t0 σ) fun t3 σ =>
  bindR (vBox t2 σ) fun t5 σ =>
  bindR (vBox (.agg ⟨[(I 0), (.slice none 0 0)]⟩) σ) fun t6 σ =>
  zero_SplitJ11 call f t1 t3 t5 t6 σ
def zero_Split (call : CallF H) (f : Nat) (a0 a1 a2 : Value) (σ : St H) : R H := zero_SplitJ12 call f a0 a1 a2 σ
theorem zero_SplitEq (call : CallF H) (f : Nat) (a0 a1 a2 : Value) (σ : St H) : kbody call f (codeOf P n_zero_Split) [a0, a1, a2] σ = zero_Split call f a0 a1 a2 σ :=
  kbody_of (rs := zero_SplitR) (by kernel_rfl) (by kernel_rfl) (by kernel_rfl) (seq_eq (by kernel_rfl) (seq_eq (by kernel_rfl) (seq_eq (by kernel_rfl) (leaf (B := fun e σ => zero_SplitJ1 call f (e 6) σ) (by kernel_rfl))
  (seq_eq (by kernel_rfl) (block_eq (by kernel_rfl) (loop_eq (fun n e σ => zero_SplitL2 call f n (e 1) (e 3) (e 5) (e 6) (e 36) (e 37) σ) (by kernel_rfl) (by kernel_rfl) (fun n2 => (tr (seq_eq (by kernel_rfl) (seq_eq (by kernel_rfl) (seq_eq (by kernel_rfl) (leaf (B := fun e σ => zero_SplitJ3 call f (zero_SplitL2 call f n2) (e 1) (e 3) (e 5) (e 6) (e 36) (e 37) σ) (by kernel_rfl))
  (block_eq (by kernel_rfl) (seq_eq (by kernel_rfl) (seq_eq (by kernel_rfl) (block_eq (by kernel_rfl) (loop_eq (fun n e σ => zero_SplitL4 call f (zero_SplitL2 call f n2) n (e 1) (e 3) (e 5) (e 6) (e 8) (e 36) (e 37) (e 41) (e 42) σ) (by kernel_rfl) (by kernel_rfl) (fun n4 => (leaf (by kernel_rfl)))))
  (leaf (B := fun e σ => zero_SplitJ6 call f (zero_SplitL2 call f n2) (e 1) (e 3) (e 5) (e 6) (e 8) (e 36) (e 37) σ) (by kernel_rfl)))
  (leaf (B := fun e σ => zero_SplitJ7 call f (zero_SplitL2 call f n2) (e 1) (e 3) (e 5) (e 6) (e 36) (e 37) σ) (by kernel_rfl)))))
  (leaf (B := fun e σ => zero_SplitJ8 call f (zero_SplitL2 call f n2) (e 1) (e 3) (e 5) (e 6) (e 36) (e 37) (e 38) σ) (by kernel_rfl)))
  (leaf (B := fun e σ => zero_SplitJ9 call f (zero_SplitL2 call f n2) (e 1) (e 3) (e 5) (e 6) (e 36) (e 37) σ) (by kernel_rfl))) (by kernel_rfl)))))
  (leaf (B := fun e σ => zero_SplitJ10 call f (e 1) (e 3) (e 5) (e 6) σ) (by kernel_rfl))))
  (leaf (B := fun e σ => zero_SplitJ11 call f (e 1) (e 3) (e 5) (e 6) σ) (by kernel_rfl)))
  (leaf (B := fun e σ => zero_SplitJ12 call f (e 0) (e 1) (e 2) σ) (by kernel_rfl))) (by kernel_rfl)

def wait_may (call : CallF H) (f : Nat) (a0 a1 a2 : Value) (σ : St H) : R H :=
  bindR (vBox a0 σ) fun t3 σ =>
  bindV (vLoad true 5 t3 σ) fun t9 =>
  bindR (call n_rule_Config [t9] σ) fun t10 σ =>
  bindV (bif kyes t10 true then some a1 else some undefV) fun t12 =>
  bindV (bif kyes t10 true then vLen .slice t12 σ else some undefV) fun t13 =>
  bindV (bif kyes t10 true then abin .leq t13 (I 12) else some undefV) fun t14 =>
  bindV (vPick t10 t14 ff) fun t15 =>
  bindV (bif kyes t15 true then some a1 else some undefV) fun t17 =>
  bindV (bif kyes t15 true then some (.func (.func n_wait_may_1) ⟨[]⟩ ⟨[t3]⟩) else some undefV) fun t18 =>
  bindR (bif kyes t15 true then call n_slices_ContainsFunc__api_Task_api_Task [t17, t18] σ else some (undefV, σ)) fun t19 σ =>
  bindV (bif kyes t15 true then aun .not t19 else some undefV) fun t20 =>
  bindV (vPick t15 t20 ff) fun t21 =>
  bindV (bif kyes t21 true then some a2 else some undefV) fun t23 =>
  bindV (bif kyes t21 true then abin .geq t23 (I 0) else some undefV) fun t24 =>
  bindV (vPick t21 t24 ff) fun t25 =>
  bindV (bif kyes t25 true then some a2 else some undefV) fun t27 =>
  bindV (bif kyes t25 true then some a1 else some undefV) fun t28 =>
  bindV (bif kyes t25 true then vLen .slice t28 σ else some undefV) fun t29 =>
  bindV (bif kyes t25 true then abin .lss t27 t29 else some undefV) fun t30 =>
  bindV (vPick t25 t30 ff) fun t31 =>
  some (t31, σ)
theorem wait_mayEq (call : CallF H) (f : Nat) (a0 a1 a2 : Value) (σ : St H) : kbody call f (codeOf P n_wait_may) [a0, a1, a2] σ = wait_may call f a0 a1 a2 σ := by kernel_rfl

abbrev wait_SectionR : List ARes := [.tmp 8]
def wait_SectionJ1 (call : CallF H) (f : Nat) (t10 : Value) (σ : St H) : R H :=
  some (t10, σ)
def wait_SectionJ3 (call : CallF H) (f : Nat) (r2 : Value → Value → Value → Value → Value → Value → Value → St H → R H) (t2 t4 t9 t10 t46 t47 t48 : Value) (σ : St H) : R H :=
  bindV (abin .add t48 (I 1)) fun t67 =>
  r2 t2 t4 t9 t10 t46 t47 t67 σ
def wait_SectionL2 (call : CallF H) (f : Nat) (n : Nat) : Value → Value → Value → Value → Value → Value → Value → St H → R H :=
  Nat.rec (fun _ _ _ _ _ _ _ _ => none) (fun _ r2 => fun t2 t4 t9 t10 t46 t47 t48 σ =>
  bindV (abin .lss t48 t47) fun t49 =>
  ifV t49 (
  bindV (vIndexAddr 4 t46 t48) fun t51 =>
  bindV (vLoad true 4 t51 σ) fun t52 =>
  bindR (vBox (.agg ⟨[(I 0), (I 0), (I 0), (.slice none 0 0)]⟩) σ) fun t12 σ =>
  bindS (vStore 4 t12 t52 σ) fun σ =>
  bindV (abin .neq t48 t2) fun t55 =>
  ifV t55 (
  bindV (vLoad true 5 t4 σ) fun t57 =>
  bindV (vLoad true 4 t12 σ) fun t58 =>
  bindV (vFieldAddr 4 t4) fun t59 =>
  bindV (vLoad false 1 t59 σ) fun t60 =>
  bindV (vFieldAddr 0 t9) fun t61 =>
  bindV (vLoad false 1 t61 σ) fun t62 =>
  bindV (vIndexAddr 1 t60 t62) fun t63 =>
  bindV (vLoad false 1 t63 σ) fun t64 =>
  bindR (call n_wait_Longest [t57, t58, t64] σ) fun t65 σ =>
  bindV (abin .add t10 t65) fun t66 =>
  wait_SectionJ3 call f r2 t2 t4 t9 t66 t46 t47 t48 σ) (
  wait_SectionJ3 call f r2 t2 t4 t9 t10 t46 t47 t48 σ)) (
  wait_SectionJ1 call f t10 σ)) n
def wait_SectionJ4 (call : CallF H) (f : Nat) (t1 t2 t4 t9 t10 : Value) (σ : St H) : R H :=
  bindV (vLen .slice t1 σ) fun t47 =>
  wait_SectionL2 call f f t2 t4 t9 t10 t1 t47 (I 0) σ
def wait_SectionJ5 (call : CallF H) (f : Nat) (t1 t2 t4 t9 : Value) (σ : St H) : R H :=
  bindV (vFieldAddr 2 t4) fun t40 =>
  bindV (vLoad false 1 t40 σ) fun t41 =>
  bindV (abin .mul (I 2) t41) fun t42 =>
  bindV (vFieldAddr 2 t9) fun t43 =>
  bindV (vLoad false 1 t43 σ) fun t44 =>
  bindV (abin .add t42 t44) fun t45 =>
  wait_SectionJ4 call f t1 t2 t4 t9 t45 σ
def wait_SectionJ6 (call : CallF H) (f : Nat) (t1 t2 t3 t4 : Value) (σ : St H) : R H :=
  bindV (vIndexAddr 4 t1 t2) fun t34 =>
  bindV (vFieldAddr 3 t34) fun t35 =>
  bindV (vLoad false 1 t35 σ) fun t36 =>
  bindV (vIndexAddr 3 t36 t3) fun t38 =>
  bindV (vLoad true 3 t38 σ) fun t39 =>
  bindR (vBox (.agg ⟨[(I 0), (I 0), (I 0)]⟩) σ) fun t9 σ =>
  bindS (vStore 3 t9 t39 σ) fun σ =>
  wait_SectionJ5 call f t1 t2 t4 t9 σ
def wait_SectionJ7 (call : CallF H) (f : Nat) (t1 t2 t3 t4 : Value) (σ : St H) : R H :=
  bindV (vLoad true 5 t4 σ) fun t13 =>
  bindR (call n_wait_may [t13, t1, t2] σ) fun t16 σ =>
  bindV (aun .not t16) fun t17 =>
  bindV (bif kyes t17 false then some t3 else some undefV) fun t19 =>
  bindV (bif kyes t17 false then abin .lss t19 (I 0) else some undefV) fun t20 =>
  bindV (vPick t17 tt t20) fun t21 =>
  bindV (bif kyes t21 false then some t3 else some undefV) fun t23 =>
  bindV (bif kyes t21 false then some t1 else some undefV) fun t24 =>
  bindV (bif kyes t21 false then some t2 else some undefV) fun t25 =>
  bindV (bif kyes t21 false then vIndexAddr 4 t24 t25 else some undefV) fun t26 =>
  bindV (bif kyes t21 false then vFieldAddr 3 t26 else some undefV) fun t27 =>
  bindV (bif kyes t21 false then vLoad false 1 t27 σ else some undefV) fun t28 =>
  bindV (bif kyes t21 false then vLen .slice t28 σ else some undefV) fun t29 =>
  bindV (bif kyes t21 false then abin .geq t23 t29 else some undefV) fun t30 =>
  bindV (vPick t21 tt t30) fun t31 =>
  ifV t31 (
  some ((I 0), σ)) (
  wait_SectionJ6 call f t1 t2 t3 t4 σ)
def wait_SectionJ8 (call : CallF H) (f : Nat) (t0 t1 t2 t3 : Value) (σ : St H) : R H :=
  bindR (vBox t0 σ) fun t4 σ =>
  wait_SectionJ7 call f t1 t2 t3 t4 σ
def wait_Section (call : CallF H) (f : Nat) (a0 a1 a2 a3 : Value) (σ : St H) : R H := wait_SectionJ8 call f a0 a1 a2 a3 σ
theorem wait_SectionEq (call : CallF H) (f : Nat) (a0 a1 a2 a3 : Value) (σ : St H) : kbody call f (codeOf P n_wait_Section) [a0, a1, a2, a3] σ = wait_Section call f a0 a1 a2 a3 σ :=
  kbody_of (rs := wait_SectionR) (by kernel_rfl) (by kernel_rfl) (by kernel_rfl) (seq_eq (by kernel_rfl) (seq_eq (by kernel_rfl) (seq_eq (by kernel_rfl) (seq_eq (by kernel_rfl) (seq_eq (by kernel_rfl) (leaf (B := fun e σ => wait_SectionJ1 call f (e 10) σ) (by kernel_rfl))
  (seq_eq (by kernel_rfl) (block_eq (by kernel_rfl) (loop_eq (fun n e σ => wait_SectionL2 call f n (e 2) (e 4) (e 9) (e 10) (e 46) (e 47) (e 48) σ) (by kernel_rfl) (by kernel_rfl) (fun n2 => (leaf (by kernel_rfl)))))
  (leaf (B := fun e σ => wait_SectionJ4 call f (e 1) (e 2) (e 4) (e 9) (e 10) σ) (by kernel_rfl))))
  (leaf (B := fun e σ => wait_SectionJ5 call f (e 1) (e 2) (e 4) (e 9) σ) (by kernel_rfl)))
  (leaf (B := fun e σ => wait_SectionJ6 call f (e 1) (e 2) (e 3) (e 4) σ) (by kernel_rfl)))
  (leaf (B := fun e σ => wait_SectionJ7 call f (e 1) (e 2) (e 3) (e 4) σ) (by kernel_rfl)))
  (leaf (B := fun e σ => wait_SectionJ8 call f (e 0) (e 1) (e 2) (e 3) σ) (by kernel_rfl))) (by kernel_rfl)

def slices_Clone__api_Section_api_Section (call : CallF H) (f : Nat) (a0 : Value) (σ : St H) : R H :=
  bindV (vEq .nils false a0 (.slice none 0 0)) fun t4 =>
  ifV t4 (
  some ((.slice none 0 0), σ)) (
  bindR (vBuildSlice 0 [] [] σ) fun t5 σ =>
  bindR (vAppend 3 24 [(I 0), (I 0), (I 0)] false t5 a0 σ) fun t7 σ =>
  some (t7, σ))
theorem slices_Clone__api_Section_api_SectionEq (call : CallF H) (f : Nat) (a0 : Value) (σ : St H) : kbody call f (codeOf P n_slices_Clone__api_Section_api_Section) [a0] σ = slices_Clone__api_Section_api_Section call f a0 σ := by kernel_rfl

abbrev line_Line_int_DueR : List ARes := [.tmp 4]
def line_Line_int_DueL1 (call : CallF H) (f : Nat) (n : Nat) : Value → Value → Value → St H → R H :=
  Nat.rec (fun _ _ _ _ => none) (fun _ r1 => fun t0 t1 t5 σ =>
  bindR (call n_line_Line_int_Next [t0] σ) fun t12 σ =>
  bindV (vExtract 0 t12) fun t13 =>
  bindV (vExtract 1 t12) fun t14 =>
  bindV (aun .not t14) fun t16 =>
  bindV (bif kyes t16 false then some t13 else some undefV) fun t18 =>
  bindV (bif kyes t16 false then some t1 else some undefV) fun t19 =>
  bindV (bif kyes t16 false then abin .gtr t18 t19 else some undefV) fun t20 =>
  bindV (vPick t16 tt t20) fun t21 =>
  ifV t21 (
  some (t5, σ)) (
  bindR (call n_line_Line_int_all [t0] σ) fun t25 σ =>
  bindR (call n_heap_Heap_int_Take [t25] σ) fun t26 σ =>
  bindV (vExtract 0 t26) fun t27 =>
  bindV (vExtract 1 t26) fun t28 =>
  bindR (vBuildSlice 1 [(I 0)] [(0, 1, t27)] σ) fun t31 σ =>
  bindR (vAppend 1 8 [(I 0)] false t5 t31 σ) fun t32 σ =>
  r1 t0 t1 t32 σ)) n
def line_Line_int_DueJ2 (call : CallF H) (f : Nat) (t0 t1 : Value) (σ : St H) : R H :=
  line_Line_int_DueL1 call f f t0 t1 (.slice none 0 0) σ
def line_Line_int_DueJ3 (call : CallF H) (f : Nat) (t0 t1 : Value) (σ : St H) : R H :=
  line_Line_int_DueJ2 call f t0 t1 σ
def line_Line_int_Due (call : CallF H) (f : Nat) (a0 a1 : Value) (σ : St H) : R H := line_Line_int_DueJ3 call f a0 a1 σ
theorem line_Line_int_DueEq (call : CallF H) (f : Nat) (a0 a1 : Value) (σ : St H) : kbody call f (codeOf P n_line_Line_int_Due) [a0, a1] σ = line_Line_int_Due call f a0 a1 σ :=
  kbody_of (rs := line_Line_int_DueR) (by kernel_rfl) (by kernel_rfl) (by kernel_rfl) (seq_eq (by kernel_rfl) (seq_eq (by kernel_rfl) (block_eq (by kernel_rfl) (loop_eq (fun n e σ => line_Line_int_DueL1 call f n (e 0) (e 1) (e 5) σ) (by kernel_rfl) (by kernel_rfl) (fun n1 => (leaf (by kernel_rfl)))))
  (leaf (B := fun e σ => line_Line_int_DueJ2 call f (e 0) (e 1) σ) (by kernel_rfl)))
  (leaf (B := fun e σ => line_Line_int_DueJ3 call f (e 0) (e 1) σ) (by kernel_rfl))) (by kernel_rfl)

def slices_SortStableFunc__api_Mail_api_Mail (call : CallF H) (f : Nat) (a0 a1 : Value) (σ : St H) : R H :=
  bindV (vLen .slice a0 σ) fun t6 =>
  bindR (call n_slices_stableCmpFunc_api_Mail [a0, t6, a1] σ) fun t8 σ =>
  some (.tuple ⟨[]⟩, σ)
theorem slices_SortStableFunc__api_Mail_api_MailEq (call : CallF H) (f : Nat) (a0 a1 : Value) (σ : St H) : kbody call f (codeOf P n_slices_SortStableFunc__api_Mail_api_Mail) [a0, a1] σ = slices_SortStableFunc__api_Mail_api_Mail call f a0 a1 σ := by kernel_rfl

def mail_Mails_Due_1 (call : CallF H) (f : Nat) (a0 a1 : Value) (σ : St H) : R H :=
  bindR (vBox a0 σ) fun t2 σ =>
  bindR (vBox a1 σ) fun t3 σ =>
  bindV (vFieldAddr 3 t2) fun t5 =>
  bindV (vLoad false 1 t5 σ) fun t6 =>
  bindV (vFieldAddr 3 t3) fun t7 =>
  bindV (vLoad false 1 t7 σ) fun t8 =>
  bindV (vFieldAddr 1 t2) fun t10 =>
  bindV (vLoad false 1 t10 σ) fun t11 =>
  bindV (vFieldAddr 1 t3) fun t12 =>
  bindV (vLoad false 1 t12 σ) fun t13 =>
  bindR (call n_cmp_Compare_int64 [t6, t8] σ) fun t9 σ =>
  kif (kand (rck (vLoad false 1 t12 σ) t13) (kand (rck (vLoad false 1 t10 σ) t11) true)) (
  bindR (call n_cmp_Compare_int [t11, t13] σ) fun t14 σ =>
  bindR (vBuildSlice 2 [(I 0), (I 0)] [(0, 1, t9), (1, 1, t14)] σ) fun t15 σ =>
  bindR (call n_cmp_Or_int [t15] σ) fun t16 σ =>
  some (t16, σ))
theorem mail_Mails_Due_1Eq (call : CallF H) (f : Nat) (a0 a1 : Value) (σ : St H) : kbody call f (codeOf P n_mail_Mails_Due_1) [a0, a1] σ = mail_Mails_Due_1 call f a0 a1 σ := by kernel_rfl

abbrev cmp_Or_intR : List ARes := [.tmp 2]
def cmp_Or_intJ1 (call : CallF H) (f : Nat) (t3 : Value) (σ : St H) : R H :=
  some (t3, σ)
def cmp_Or_intL2 (call : CallF H) (f : Nat) (n : Nat) : Value → Value → Value → Value → St H → R H :=
  Nat.rec (fun _ _ _ _ _ => none) (fun _ r2 => fun t3 t6 t7 t8 σ =>
  bindV (abin .lss t8 t7) fun t9 =>
  ifV t9 (
  bindV (vIndexAddr 1 t6 t8) fun t10 =>
  bindV (vLoad false 1 t10 σ) fun t11 =>
  bindV (abin .neq t11 t3) fun t14 =>
  ifV t14 (
  some (t11, σ)) (
  bindV (abin .add t8 (I 1)) fun t16 =>
  r2 t3 t6 t7 t16 σ)) (
  cmp_Or_intJ1 call f t3 σ)) n
def cmp_Or_intJ3 (call : CallF H) (f : Nat) (t0 t3 : Value) (σ : St H) : R H :=
  bindV (vLen .slice t0 σ) fun t7 =>
  cmp_Or_intL2 call f f t3 t0 t7 (I 0) σ
def cmp_Or_intJ4 (call : CallF H) (f : Nat) (t0 : Value) (σ : St H) : R H :=
  cmp_Or_intJ3 call f t0 (I 0) σ
def cmp_Or_intJ5 (call : CallF H) (f : Nat) (t0 : Value) (σ : St H) : R H :=
  cmp_Or_intJ4 call f t0 σ
def cmp_Or_int (call : CallF H) (f : Nat) (a0 : Value) (σ : St H) : R H := cmp_Or_intJ5 call f a0 σ
theorem cmp_Or_intEq (call : CallF H) (f : Nat) (a0 : Value) (σ : St H) : kbody call f (codeOf P n_cmp_Or_int) [a0] σ = cmp_Or_int call f a0 σ :=
  kbody_of (rs := cmp_Or_intR) (by kernel_rfl) (by kernel_rfl) (by kernel_rfl) (seq_eq (by kernel_rfl) (seq_eq (by kernel_rfl) (seq_eq (by kernel_rfl) (leaf (B := fun e σ => cmp_Or_intJ1 call f (e 3) σ) (by kernel_rfl))
  (seq_eq (by kernel_rfl) (block_eq (by kernel_rfl) (loop_eq (fun n e σ => cmp_Or_intL2 call f n (e 3) (e 6) (e 7) (e 8) σ) (by kernel_rfl) (by kernel_rfl) (fun n2 => (leaf (by kernel_rfl)))))
  (leaf (B := fun e σ => cmp_Or_intJ3 call f (e 0) (e 3) σ) (by kernel_rfl))))
  (leaf (B := fun e σ => cmp_Or_intJ4 call f (e 0) σ) (by kernel_rfl)))
  (leaf (B := fun e σ => cmp_Or_intJ5 call f (e 0) σ) (by kernel_rfl))) (by kernel_rfl)

def cmp_Compare_int64 (call : CallF H) (f : Nat) (a0 a1 : Value) (σ : St H) : R H :=
  bindR (call n_cmp_isNaN_int64 [a0] σ) fun t8 σ =>
  bindR (call n_cmp_isNaN_int64 [a1] σ) fun t10 σ =>
  ifV t8 (
  ifV t10 (
  some ((I 0), σ)) (
  some ((I (-1)), σ))) (
  ifV t10 (
  some ((I 1), σ)) (
  bindV (abin .lss a0 a1) fun t16 =>
  ifV t16 (
  some ((I (-1)), σ)) (
  bindV (abin .gtr a0 a1) fun t19 =>
  ifV t19 (
  some ((I 1), σ)) (
  some ((I 0), σ)))))
theorem cmp_Compare_int64Eq (call : CallF H) (f : Nat) (a0 a1 : Value) (σ : St H) : kbody call f (codeOf P n_cmp_Compare_int64) [a0, a1] σ = cmp_Compare_int64 call f a0 a1 σ := by kernel_rfl

def cmp_Compare_int (call : CallF H) (f : Nat) (a0 a1 : Value) (σ : St H) : R H :=
  bindR (call n_cmp_isNaN_int [a0] σ) fun t8 σ =>
  bindR (call n_cmp_isNaN_int [a1] σ) fun t10 σ =>
  ifV t8 (
  ifV t10 (
  some ((I 0), σ)) (
  some ((I (-1)), σ))) (
  ifV t10 (
  some ((I 1), σ)) (
  bindV (abin .lss a0 a1) fun t16 =>
  ifV t16 (
  some ((I (-1)), σ)) (
  bindV (abin .gtr a0 a1) fun t19 =>
  ifV t19 (
  some ((I 1), σ)) (
  some ((I 0), σ)))))
theorem cmp_Compare_intEq (call : CallF H) (f : Nat) (a0 a1 : Value) (σ : St H) : kbody call f (codeOf P n_cmp_Compare_int) [a0, a1] σ = cmp_Compare_int call f a0 a1 σ := by kernel_rfl

abbrev agent_Agent_hasR : List ARes := [.tmp 4]
def agent_Agent_hasJ1 (call : CallF H) (f : Nat) (t0 t1 : Value) (σ : St H) : R H :=
  bindV (vNil t0) fun t31 =>
  bindV (vFieldAddr 1 t31) fun t32 =>
  bindV (vFieldAddr 0 t32) fun t33 =>
  bindV (vLoad false 1 t33 σ) fun t34 =>
  bindV (abin .eql t34 t1) fun t36 =>
  some (t36, σ)
def agent_Agent_hasL2 (call : CallF H) (f : Nat) (n : Nat) : Value → Value → Value → Value → St H → R H :=
  Nat.rec (fun _ _ _ _ _ => none) (fun _ r2 => fun t0 t1 t12 t13 σ =>
  bindV (abin .lss t13 t12) fun t14 =>
  ifV t14 (
  bindV (vNil t0) fun t18 =>
  bindV (vFieldAddr 0 t18) fun t19 =>
  bindV (vLoad false 1 t19 σ) fun t20 =>
  bindR (call n_ring_Ring_agent_request_At [t20, t13] σ) fun t22 σ =>
  bindV (vExtract 0 t22) fun t23 =>
  bindV (vExtract 1 t22) fun t24 =>
  bindR (vBox (.agg ⟨[(I 0), (I 0)]⟩) σ) fun t6 σ =>
  bindS (vStore 2 t6 t23 σ) fun σ =>
  bindV (vFieldAddr 0 t6) fun t25 =>
  bindV (vLoad false 1 t25 σ) fun t26 =>
  bindV (abin .eql t26 t1) fun t28 =>
  ifV t28 (
  some (tt, σ)) (
  bindV (abin .add t13 (I 1)) fun t29 =>
  r2 t0 t1 t12 t29 σ)) (
  agent_Agent_hasJ1 call f t0 t1 σ)) n
def agent_Agent_hasJ3 (call : CallF H) (f : Nat) (t0 t1 : Value) (σ : St H) : R H :=
  bindV (vNil t0) fun t9 =>
  bindV (vFieldAddr 0 t9) fun t10 =>
  bindV (vLoad false 1 t10 σ) fun t11 =>
  bindR (call n_ring_Ring_agent_request_Len [t11] σ) fun t12 σ =>
  agent_Agent_hasL2 call f f t0 t1 t12 (I 0) σ
def agent_Agent_hasJ4 (call : CallF H) (f : Nat) (t0 t1 : Value) (σ : St H) : R H :=
  agent_Agent_hasJ3 call f t0 t1 σ
def agent_Agent_has (call : CallF H) (f : Nat) (a0 a1 : Value) (σ : St H) : R H := agent_Agent_hasJ4 call f a0 a1 σ
theorem agent_Agent_hasEq (call : CallF H) (f : Nat) (a0 a1 : Value) (σ : St H) : kbody call f (codeOf P n_agent_Agent_has) [a0, a1] σ = agent_Agent_has call f a0 a1 σ :=
  kbody_of (rs := agent_Agent_hasR) (by kernel_rfl) (by kernel_rfl) (by kernel_rfl) (seq_eq (by kernel_rfl) (seq_eq (by kernel_rfl) (leaf (B := fun e σ => agent_Agent_hasJ1 call f (e 0) (e 1) σ) (by kernel_rfl))
  (seq_eq (by kernel_rfl) (block_eq (by kernel_rfl) (loop_eq (fun n e σ => agent_Agent_hasL2 call f n (e 0) (e 1) (e 12) (e 13) σ) (by kernel_rfl) (by kernel_rfl) (fun n2 => (leaf (by kernel_rfl)))))
  (leaf (B := fun e σ => agent_Agent_hasJ3 call f (e 0) (e 1) σ) (by kernel_rfl))))
  (leaf (B := fun e σ => agent_Agent_hasJ4 call f (e 0) (e 1) σ) (by kernel_rfl))) (by kernel_rfl)

def ring_Ring_agent_request_Put (call : CallF H) (f : Nat) (a0 a1 : Value) (σ : St H) : R H :=
  bindR (vBox a1 σ) fun t3 σ =>
  bindR (call n_ring_Ring_agent_request_Room [a0] σ) fun t6 σ =>
  bindV (abin .eql t6 (I 0)) fun t7 =>
  ifV t7 (
  some (ff, σ)) (
  bindV (vNil a0) fun t9 =>
  bindV (vFieldAddr 0 t9) fun t10 =>
  bindV (vLoad false 1 t10 σ) fun t11 =>
  bindV (vNil a0) fun t13 =>
  bindV (vFieldAddr 1 t13) fun t14 =>
  bindV (vLoad false 1 t14 σ) fun t15 =>
  bindV (vNil a0) fun t17 =>
  bindV (vFieldAddr 2 t17) fun t18 =>
  bindV (vLoad false 1 t18 σ) fun t19 =>
  bindV (abin .add t15 t19) fun t20 =>
  bindV (vNil a0) fun t22 =>
  bindV (vFieldAddr 0 t22) fun t23 =>
  bindV (vLoad false 1 t23 σ) fun t24 =>
  bindV (vLen .slice t24 σ) fun t25 =>
  bindV (abin .rem t20 t25) fun t26 =>
  bindV (vLoad true 2 t3 σ) fun t27 =>
  bindV (vIndexAddr 2 t11 t26) fun t28 =>
  bindS (vStore 2 t28 t27 σ) fun σ =>
  bindV (vNil a0) fun t30 =>
  bindV (vFieldAddr 2 t30) fun t31 =>
  bindV (vLoad false 1 t31 σ) fun t32 =>
  bindV (abin .add t32 (I 1)) fun t33 =>
  bindV (vNil a0) fun t34 =>
  bindV (vFieldAddr 2 t34) fun t35 =>
  bindS (vStore 1 t35 t33 σ) fun σ =>
  some (tt, σ))
theorem ring_Ring_agent_request_PutEq (call : CallF H) (f : Nat) (a0 a1 : Value) (σ : St H) : kbody call f (codeOf P n_ring_Ring_agent_request_Put) [a0, a1] σ = ring_Ring_agent_request_Put call f a0 a1 σ := by kernel_rfl

def heap_Heap_int_First (call : CallF H) (f : Nat) (a0 : Value) (σ : St H) : R H :=
  bindR (call n_heap_Heap_int_Len [a0] σ) fun t6 σ =>
  bindV (abin .eql t6 (I 0)) fun t7 =>
  ifV t7 (
  some (.tuple ⟨[(I 0), ff]⟩, σ)) (
  bindV (vNil a0) fun t10 =>
  bindV (vFieldAddr 1 t10) fun t11 =>
  bindV (vLoad false 1 t11 σ) fun t12 =>
  bindV (vIndexAddr 4 t12 (I 0)) fun t13 =>
  bindV (vFieldAddr 0 t13) fun t14 =>
  bindV (vLoad false 1 t14 σ) fun t15 =>
  some (.tuple ⟨[t15, tt]⟩, σ))
theorem heap_Heap_int_FirstEq (call : CallF H) (f : Nat) (a0 : Value) (σ : St H) : kbody call f (codeOf P n_heap_Heap_int_First) [a0] σ = heap_Heap_int_First call f a0 σ := by kernel_rfl

def heap_Heap_int_DropJ1 (call : CallF H) (f : Nat) (σ : St H) : R H :=
  some (tt, σ)
def heap_Heap_int_Drop (call : CallF H) (f : Nat) (a0 a1 : Value) (σ : St H) : R H :=
  bindV (vEq .nilp false a0 nilP) fun t9 =>
  ifV t9 (
  some (ff, σ)) (
  bindV (vNil a0) fun t12 =>
  bindV (vFieldAddr 2 t12) fun t13 =>
  bindV (vLoad false 1 t13 σ) fun t14 =>
  bindV (vLookup true (I 0) true t14 a1 σ) fun t16 =>
  bindV (vExtract 0 t16) fun t17 =>
  bindV (vExtract 1 t16) fun t18 =>
  bindV (aun .not t18) fun t20 =>
  ifV t20 (
  some (ff, σ)) (
  bindV (vNil a0) fun t22 =>
  bindV (vFieldAddr 1 t22) fun t23 =>
  bindV (vLoad false 1 t23 σ) fun t24 =>
  bindV (vLen .slice t24 σ) fun t25 =>
  bindV (abin .sub t25 (I 1)) fun t26 =>
  bindR (call n_heap_Heap_int_swap [a0, t17, t26] σ) fun t30 σ =>
  bindV (vNil a0) fun t33 =>
  bindV (vFieldAddr 1 t33) fun t34 =>
  bindV (vLoad false 1 t34 σ) fun t35 =>
  bindV (vSlice 4 t35 none (some t26) none) fun t37 =>
  bindV (vNil a0) fun t38 =>
  bindV (vFieldAddr 1 t38) fun t39 =>
  bindS (vStore 1 t39 t37 σ) fun σ =>
  bindV (vNil a0) fun t41 =>
  bindV (vFieldAddr 2 t41) fun t42 =>
  bindV (vLoad false 1 t42 σ) fun t43 =>
  bindS (vDelete true t43 a1 σ) fun σ =>
  bindV (abin .lss t17 t26) fun t47 =>
  ifV t47 (
  bindR (call n_heap_Heap_int_rise [a0, t17] σ) fun t50 σ =>
  bindR (call n_heap_Heap_int_sink [a0, t17] σ) fun t53 σ =>
  heap_Heap_int_DropJ1 call f σ) (
  heap_Heap_int_DropJ1 call f σ)))
theorem heap_Heap_int_DropEq (call : CallF H) (f : Nat) (a0 a1 : Value) (σ : St H) : kbody call f (codeOf P n_heap_Heap_int_Drop) [a0, a1] σ = heap_Heap_int_Drop call f a0 a1 σ := by kernel_rfl

def ring_Ring_agent_request_TakeJ1 (call : CallF H) (f : Nat) (t2 t4 t5 : Value) (σ : St H) : R H :=
  bindV (vLoad true 2 t4 σ) fun t33 =>
  bindS (vStore 2 t2 t33 σ) fun σ =>
  resV [.c t2 true 2, .v t5] σ
def ring_Ring_agent_request_Take (call : CallF H) (f : Nat) (a0 : Value) (σ : St H) : R H :=
  bindR (vBox (.agg ⟨[(I 0), (I 0)]⟩) σ) fun t2 σ =>
  bindR (call n_ring_Ring_agent_request_At [a0, (I 0)] σ) fun t8 σ =>
  bindV (vExtract 0 t8) fun t9 =>
  bindV (vExtract 1 t8) fun t10 =>
  bindR (vBox (.agg ⟨[(I 0), (I 0)]⟩) σ) fun t4 σ =>
  bindS (vStore 2 t4 t9 σ) fun σ =>
  ifV t10 (
  bindV (vNil a0) fun t14 =>
  bindV (vFieldAddr 1 t14) fun t15 =>
  bindV (vLoad false 1 t15 σ) fun t16 =>
  bindV (abin .add t16 (I 1)) fun t17 =>
  bindV (vNil a0) fun t19 =>
  bindV (vFieldAddr 0 t19) fun t20 =>
  bindV (vLoad false 1 t20 σ) fun t21 =>
  bindV (vLen .slice t21 σ) fun t22 =>
  bindV (abin .rem t17 t22) fun t23 =>
  bindV (vNil a0) fun t24 =>
  bindV (vFieldAddr 1 t24) fun t25 =>
  bindS (vStore 1 t25 t23 σ) fun σ =>
  bindV (vNil a0) fun t27 =>
  bindV (vFieldAddr 2 t27) fun t28 =>
  bindV (vLoad false 1 t28 σ) fun t29 =>
  bindV (abin .sub t29 (I 1)) fun t30 =>
  bindV (vNil a0) fun t31 =>
  bindV (vFieldAddr 2 t31) fun t32 =>
  bindS (vStore 1 t32 t30 σ) fun σ =>
  ring_Ring_agent_request_TakeJ1 call f t2 t4 t10 σ) (
  ring_Ring_agent_request_TakeJ1 call f t2 t4 t10 σ)
theorem ring_Ring_agent_request_TakeEq (call : CallF H) (f : Nat) (a0 : Value) (σ : St H) : kbody call f (codeOf P n_ring_Ring_agent_request_Take) [a0] σ = ring_Ring_agent_request_Take call f a0 σ := by kernel_rfl

def slices_Collect_int (call : CallF H) (f : Nat) (a0 : Value) (σ : St H) : R H :=
  bindR (call n_slices_AppendSeq__int_int [(.slice none 0 0), a0] σ) fun t4 σ =>
  some (t4, σ)
theorem slices_Collect_intEq (call : CallF H) (f : Nat) (a0 : Value) (σ : St H) : kbody call f (codeOf P n_slices_Collect_int) [a0] σ = slices_Collect_int call f a0 σ := by kernel_rfl

def slices_Sort__int_int (call : CallF H) (f : Nat) (a0 : Value) (σ : St H) : R H :=
  bindV (vLen .slice a0 σ) fun t4 =>
  bindV (vConv .u64 t4) fun t8 =>
  bindR (call n_math_bits_Len [t8] σ) fun t9 σ =>
  bindR (call n_slices_pdqsortOrdered_int [a0, (I 0), t4, t9] σ) fun t10 σ =>
  some (.tuple ⟨[]⟩, σ)
theorem slices_Sort__int_intEq (call : CallF H) (f : Nat) (a0 : Value) (σ : St H) : kbody call f (codeOf P n_slices_Sort__int_int) [a0] σ = slices_Sort__int_int call f a0 σ := by kernel_rfl

def box_Box_api_Mail_Put (call : CallF H) (f : Nat) (a0 a1 : Value) (σ : St H) : R H :=
  bindR (vBox a1 σ) fun t3 σ =>
  bindR (call n_box_Box_api_Mail_way [a0] σ) fun t6 σ =>
  bindV (vLoad true 5 t3 σ) fun t7 =>
  bindR (vSel (some t7) (.agg ⟨(rep [(I 0)] 5)⟩) t6 σ) fun t8 σ =>
  bindV (vExtract 0 t8) fun t9 =>
  bindV (abin .eql t9 (I 0)) fun t10 =>
  ifV t10 (
  some (tt, σ)) (
  some (ff, σ))
theorem box_Box_api_Mail_PutEq (call : CallF H) (f : Nat) (a0 a1 : Value) (σ : St H) : kbody call f (codeOf P n_box_Box_api_Mail_Put) [a0, a1] σ = box_Box_api_Mail_Put call f a0 a1 σ := by kernel_rfl

def box_Box_api_Mail_Take (call : CallF H) (f : Nat) (a0 : Value) (σ : St H) : R H :=
  bindR (vBox (.agg ⟨(rep [(I 0)] 5)⟩) σ) fun t2 σ =>
  bindR (vBox (.agg ⟨(rep [(I 0)] 5)⟩) σ) fun t4 σ =>
  bindR (call n_box_Box_api_Mail_way [a0] σ) fun t7 σ =>
  bindR (vSel none (.agg ⟨(rep [(I 0)] 5)⟩) t7 σ) fun t8 σ =>
  bindV (vExtract 0 t8) fun t9 =>
  bindV (abin .eql t9 (I 0)) fun t10 =>
  ifV t10 (
  bindV (vExtract 2 t8) fun t12 =>
  bindR (vBox (.agg ⟨(rep [(I 0)] 5)⟩) σ) fun t5 σ =>
  bindS (vStore 5 t5 t12 σ) fun σ =>
  bindV (vLoad true 5 t5 σ) fun t13 =>
  bindS (vStore 5 t2 t13 σ) fun σ =>
  resV [.c t2 true 5, .v tt] σ) (
  bindV (vLoad true 5 t4 σ) fun t11 =>
  bindS (vStore 5 t2 t11 σ) fun σ =>
  resV [.c t2 true 5, .v ff] σ)
theorem box_Box_api_Mail_TakeEq (call : CallF H) (f : Nat) (a0 : Value) (σ : St H) : kbody call f (codeOf P n_box_Box_api_Mail_Take) [a0] σ = box_Box_api_Mail_Take call f a0 σ := by kernel_rfl

def line_Line_int_Put (call : CallF H) (f : Nat) (a0 a1 a2 : Value) (σ : St H) : R H :=
  bindR (call n_line_Line_int_all [a0] σ) fun t8 σ =>
  bindR (call n_heap_Heap_int_Put [t8, a1, a2, (I 0)] σ) fun t11 σ =>
  some (t11, σ)
theorem line_Line_int_PutEq (call : CallF H) (f : Nat) (a0 a1 a2 : Value) (σ : St H) : kbody call f (codeOf P n_line_Line_int_Put) [a0, a1, a2] σ = line_Line_int_Put call f a0 a1 a2 σ := by kernel_rfl

def law18x_Begun (call : CallF H) (f : Nat) (σ : St H) : R H :=
  bindR (call n_law18x_begun [] σ) fun t1 σ =>
  some (t1, σ)
theorem law18x_BegunEq (call : CallF H) (f : Nat) (σ : St H) : kbody call f (codeOf P n_law18x_Begun) [] σ = law18x_Begun call f σ := by kernel_rfl

def law2x_Begun (call : CallF H) (f : Nat) (σ : St H) : R H :=
  bindR (call n_law2x_begun [] σ) fun t1 σ =>
  some (t1, σ)
theorem law2x_BegunEq (call : CallF H) (f : Nat) (σ : St H) : kbody call f (codeOf P n_law2x_Begun) [] σ = law2x_Begun call f σ := by kernel_rfl

def bench_Bench_Len (call : CallF H) (f : Nat) (a0 : Value) (σ : St H) : R H :=
  bindV (vEq .nilp false a0 nilP) fun t4 =>
  ifV t4 (
  some ((I 0), σ)) (
  bindV (vNil a0) fun t6 =>
  bindV (vFieldAddr 0 t6) fun t7 =>
  bindV (vLoad false 1 t7 σ) fun t8 =>
  bindR (call n_heap_Heap_int_Len [t8] σ) fun t9 σ =>
  some (t9, σ))
theorem bench_Bench_LenEq (call : CallF H) (f : Nat) (a0 : Value) (σ : St H) : kbody call f (codeOf P n_bench_Bench_Len) [a0] σ = bench_Bench_Len call f a0 σ := by kernel_rfl

def mail_Mails_Len (call : CallF H) (f : Nat) (a0 : Value) (σ : St H) : R H :=
  bindV (vEq .nilp false a0 nilP) fun t4 =>
  ifV t4 (
  some ((I 0), σ)) (
  bindR (call n_mail_Mails_sorts [a0] σ) fun t6 σ =>
  bindV (vNil a0) fun t8 =>
  bindV (vFieldAddr 2 t8) fun t9 =>
  bindV (vLoad false 1 t9 σ) fun t10 =>
  bindV (vLen .map t10 σ) fun t11 =>
  some (t11, σ))
theorem mail_Mails_LenEq (call : CallF H) (f : Nat) (a0 : Value) (σ : St H) : kbody call f (codeOf P n_mail_Mails_Len) [a0] σ = mail_Mails_Len call f a0 σ := by kernel_rfl

def heap_Heap_int_Put (call : CallF H) (f : Nat) (a0 a1 a2 a3 : Value) (σ : St H) : R H :=
  bindV (vEq .nilp false a0 nilP) fun t10 =>
  ifV t10 (
  some (ff, σ)) (
  bindR (call n_heap_Heap_int_Drop [a0, a1] σ) fun t13 σ =>
  bindV (aun .not t13) fun t14 =>
  bindV (bif kyes t14 true then some a0 else some undefV) fun t16 =>
  bindV (bif kyes t14 true then vNil t16 else some undefV) fun t17 =>
  bindV (bif kyes t14 true then vFieldAddr 1 t17 else some undefV) fun t18 =>
  bindV (bif kyes t14 true then vLoad false 1 t18 σ else some undefV) fun t19 =>
  bindV (bif kyes t14 true then vLen .slice t19 σ else some undefV) fun t20 =>
  bindV (bif kyes t14 true then some a0 else some undefV) fun t21 =>
  bindV (bif kyes t14 true then vNil t21 else some undefV) fun t22 =>
  bindV (bif kyes t14 true then vFieldAddr 0 t22 else some undefV) fun t23 =>
  bindV (bif kyes t14 true then vLoad false 1 t23 σ else some undefV) fun t24 =>
  bindV (bif kyes t14 true then abin .geq t20 t24 else some undefV) fun t25 =>
  bindV (vPick t14 t25 ff) fun t26 =>
  ifV t26 (
  some (ff, σ)) (
  bindV (vNil a0) fun t28 =>
  bindV (vFieldAddr 3 t28) fun t29 =>
  bindV (vLoad false 1 t29 σ) fun t30 =>
  bindV (abin .add t30 (I 1)) fun t31 =>
  bindV (vNil a0) fun t32 =>
  bindV (vFieldAddr 3 t32) fun t33 =>
  bindS (vStore 1 t33 t31 σ) fun σ =>
  bindV (vNil a0) fun t35 =>
  bindV (vFieldAddr 2 t35) fun t36 =>
  bindV (vLoad false 1 t36 σ) fun t37 =>
  bindV (vNil a0) fun t40 =>
  bindV (vFieldAddr 1 t40) fun t41 =>
  bindV (vLoad false 1 t41 σ) fun t42 =>
  bindV (vLen .slice t42 σ) fun t43 =>
  bindS (vMapUpdate true t37 a1 t43 σ) fun σ =>
  bindV (vNil a0) fun t46 =>
  bindV (vFieldAddr 1 t46) fun t47 =>
  bindV (vLoad false 1 t47 σ) fun t48 =>
  bindV (vNil a0) fun t53 =>
  bindV (vFieldAddr 3 t53) fun t54 =>
  bindV (vLoad false 1 t54 σ) fun t55 =>
  bindV (vBuild (rep [(I 0)] 4) [(0, 1, a1), (1, 1, a2), (2, 1, a3), (3, 1, t55)]) fun t56 =>
  bindR (vBuildSlice 1 (rep [(I 0)] 4) [(0, 4, t56)] σ) fun t57 σ =>
  bindR (vAppend 4 32 (rep [(I 0)] 4) false t48 t57 σ) fun t58 σ =>
  bindV (vNil a0) fun t59 =>
  bindV (vFieldAddr 1 t59) fun t60 =>
  bindS (vStore 1 t60 t58 σ) fun σ =>
  bindV (vNil a0) fun t63 =>
  bindV (vFieldAddr 1 t63) fun t64 =>
  bindV (vLoad false 1 t64 σ) fun t65 =>
  bindV (vLen .slice t65 σ) fun t66 =>
  bindV (abin .sub t66 (I 1)) fun t67 =>
  bindR (call n_heap_Heap_int_rise [a0, t67] σ) fun t68 σ =>
  some (tt, σ)))
theorem heap_Heap_int_PutEq (call : CallF H) (f : Nat) (a0 a1 a2 a3 : Value) (σ : St H) : kbody call f (codeOf P n_heap_Heap_int_Put) [a0, a1, a2, a3] σ = heap_Heap_int_Put call f a0 a1 a2 a3 σ := by kernel_rfl

def plan_Deadline (call : CallF H) (f : Nat) (a0 a1 a2 : Value) (σ : St H) : R H :=
  bindR (vBox a0 σ) fun t3 σ =>
  bindV (abin .lss a1 (I 0)) fun t8 =>
  bindV (bif kyes t8 false then some a1 else some undefV) fun t10 =>
  bindV (bif kyes t8 false then vFieldAddr 1 t3 else some undefV) fun t11 =>
  bindV (bif kyes t8 false then vLoad false 1 t11 σ else some undefV) fun t12 =>
  bindV (bif kyes t8 false then vLen .slice t12 σ else some undefV) fun t13 =>
  bindV (bif kyes t8 false then abin .geq t10 t13 else some undefV) fun t14 =>
  bindV (vPick t8 tt t14) fun t15 =>
  ifV t15 (
  some ((I 0), σ)) (
  bindV (vFieldAddr 1 t3) fun t17 =>
  bindV (vLoad false 1 t17 σ) fun t18 =>
  bindV (vIndexAddr 4 t18 a1) fun t20 =>
  bindV (vFieldAddr 1 t20) fun t21 =>
  bindV (vLoad false 1 t21 σ) fun t22 =>
  bindV (abin .add a2 t22) fun t23 =>
  bindV (vFieldAddr 1 t3) fun t24 =>
  bindV (vLoad false 1 t24 σ) fun t25 =>
  bindV (vIndexAddr 4 t25 a1) fun t27 =>
  bindV (vFieldAddr 2 t27) fun t28 =>
  bindV (vLoad false 1 t28 σ) fun t29 =>
  bindV (abin .add t23 t29) fun t30 =>
  some (t30, σ))
theorem plan_DeadlineEq (call : CallF H) (f : Nat) (a0 a1 a2 : Value) (σ : St H) : kbody call f (codeOf P n_plan_Deadline) [a0, a1, a2] σ = plan_Deadline call f a0 a1 a2 σ := by kernel_rfl

abbrev slices_IndexFunc__int_intR : List ARes := [.tmp 4]
def slices_IndexFunc__int_intJ1 (call : CallF H) (f : Nat) (σ : St H) : R H :=
  some ((I (-1)), σ)
def slices_IndexFunc__int_intL2 (call : CallF H) (f : Nat) (n : Nat) : Value → Value → Value → Value → St H → R H :=
  Nat.rec (fun _ _ _ _ _ => none) (fun _ r2 => fun t0 t1 t7 t8 σ =>
  bindV (abin .lss t8 t7) fun t9 =>
  ifV t9 (
  bindV (vIndexAddr 1 t0 t8) fun t14 =>
  bindV (vLoad false 1 t14 σ) fun t15 =>
  bindR (vCallv t1 [t15] call σ) fun t16 σ =>
  ifV t16 (
  some (t8, σ)) (
  bindV (abin .add t8 (I 1)) fun t18 =>
  r2 t0 t1 t7 t18 σ)) (
  slices_IndexFunc__int_intJ1 call f σ)) n
def slices_IndexFunc__int_intJ3 (call : CallF H) (f : Nat) (t0 t1 : Value) (σ : St H) : R H :=
  bindV (vLen .slice t0 σ) fun t7 =>
  slices_IndexFunc__int_intL2 call f f t0 t1 t7 (I 0) σ
def slices_IndexFunc__int_intJ4 (call : CallF H) (f : Nat) (t0 t1 : Value) (σ : St H) : R H :=
  slices_IndexFunc__int_intJ3 call f t0 t1 σ
def slices_IndexFunc__int_int (call : CallF H) (f : Nat) (a0 a1 : Value) (σ : St H) : R H := slices_IndexFunc__int_intJ4 call f a0 a1 σ
theorem slices_IndexFunc__int_intEq (call : CallF H) (f : Nat) (a0 a1 : Value) (σ : St H) : kbody call f (codeOf P n_slices_IndexFunc__int_int) [a0, a1] σ = slices_IndexFunc__int_int call f a0 a1 σ :=
  kbody_of (rs := slices_IndexFunc__int_intR) (by kernel_rfl) (by kernel_rfl) (by kernel_rfl) (seq_eq (by kernel_rfl) (seq_eq (by kernel_rfl) (leaf (B := fun e σ => slices_IndexFunc__int_intJ1 call f σ) (by kernel_rfl))
  (seq_eq (by kernel_rfl) (block_eq (by kernel_rfl) (loop_eq (fun n e σ => slices_IndexFunc__int_intL2 call f n (e 0) (e 1) (e 7) (e 8) σ) (by kernel_rfl) (by kernel_rfl) (fun n2 => (leaf (by kernel_rfl)))))
  (leaf (B := fun e σ => slices_IndexFunc__int_intJ3 call f (e 0) (e 1) σ) (by kernel_rfl))))
  (leaf (B := fun e σ => slices_IndexFunc__int_intJ4 call f (e 0) (e 1) σ) (by kernel_rfl))) (by kernel_rfl)

def slices_Grow__int_intJ1 (call : CallF H) (f : Nat) (t0 : Value) (σ : St H) : R H :=
  some (t0, σ)
def slices_Grow__int_intJ2 (call : CallF H) (f : Nat) (t0 t1 : Value) (σ : St H) : R H :=
  bindV (vCap t0) fun t10 =>
  bindV (vLen .slice t0 σ) fun t12 =>
  bindV (abin .sub t10 t12) fun t13 =>
  bindV (abin .sub t1 t13) fun t14 =>
  bindV (abin .gtr t14 (I 0)) fun t16 =>
  ifV t16 (
  bindV (vCap t0) fun t19 =>
  bindV (vSlice 1 t0 none (some t19) none) fun t20 =>
  bindR (vAppend 1 8 [(I 0)] true t20 t14 σ) fun t22 σ =>
  bindV (vLen .slice t0 σ) fun t24 =>
  bindV (vSlice 1 t22 none (some t24) none) fun t25 =>
  slices_Grow__int_intJ1 call f t25 σ) (
  slices_Grow__int_intJ1 call f t0 σ)
def slices_Grow__int_int (call : CallF H) (f : Nat) (a0 a1 : Value) (σ : St H) : R H :=
  bindV (abin .lss a1 (I 0)) fun t6 =>
  ifV t6 (
  bindV (none) fun t7 =>
  bindV (none) fun _ =>
  slices_Grow__int_intJ2 call f a0 a1 σ) (
  slices_Grow__int_intJ2 call f a0 a1 σ)
theorem slices_Grow__int_intEq (call : CallF H) (f : Nat) (a0 a1 : Value) (σ : St H) : kbody call f (codeOf P n_slices_Grow__int_int) [a0, a1] σ = slices_Grow__int_int call f a0 a1 σ := by kernel_rfl

def rule_Config_1 (call : CallF H) (f : Nat) (a0 a1 : Value) (σ : St H) : R H :=
  bindV (abin .lss a0 (I 0)) fun t5 =>
  bindV (bif kyes t5 false then some a0 else some undefV) fun t7 =>
  bindV (bif kyes t5 false then vFieldAddr 1 a1 else some undefV) fun t8 =>
  bindV (bif kyes t5 false then vLoad false 1 t8 σ else some undefV) fun t9 =>
  bindV (bif kyes t5 false then abin .geq t7 t9 else some undefV) fun t10 =>
  bindV (vPick t5 tt t10) fun t11 =>
  some (t11, σ)
theorem rule_Config_1Eq (call : CallF H) (f : Nat) (a0 a1 : Value) (σ : St H) : kbody call f (codeOf P n_rule_Config_1) [a0, a1] σ = rule_Config_1 call f a0 a1 σ := by kernel_rfl

def load_may (call : CallF H) (f : Nat) (a0 a1 : Value) (σ : St H) : R H :=
  bindR (vBox a0 σ) fun t2 σ =>
  bindV (vLoad true 5 t2 σ) fun t7 =>
  bindR (call n_rule_Config [t7] σ) fun t8 σ =>
  bindV (bif kyes t8 true then some a1 else some undefV) fun t10 =>
  bindV (bif kyes t8 true then vLen .slice t10 σ else some undefV) fun t11 =>
  bindV (bif kyes t8 true then abin .leq t11 (I 12) else some undefV) fun t12 =>
  bindV (vPick t8 t12 ff) fun t13 =>
  bindV (bif kyes t13 true then some a1 else some undefV) fun t15 =>
  bindV (bif kyes t13 true then some (.func (.func n_load_may_1) ⟨[]⟩ ⟨[t2]⟩) else some undefV) fun t16 =>
  bindR (bif kyes t13 true then call n_slices_ContainsFunc__api_Task_api_Task [t15, t16] σ else some (undefV, σ)) fun t17 σ =>
  bindV (bif kyes t13 true then aun .not t17 else some undefV) fun t18 =>
  bindV (vPick t13 t18 ff) fun t19 =>
  some (t19, σ)
theorem load_mayEq (call : CallF H) (f : Nat) (a0 a1 : Value) (σ : St H) : kbody call f (codeOf P n_load_may) [a0, a1] σ = load_may call f a0 a1 σ := by kernel_rfl

def load_placed (call : CallF H) (f : Nat) (a0 a1 : Value) (σ : St H) : R H :=
  bindR (vBox a0 σ) fun t2 σ =>
  bindR (vBox a1 σ) fun t3 σ =>
  bindV (vFieldAddr 1 t3) fun t5 =>
  bindV (vLoad false 1 t5 σ) fun t6 =>
  bindR (call n_slices_ContainsFunc__api_Piece_api_Piece [t6, (.func (.func n_load_placed_1) ⟨[]⟩ ⟨[t2]⟩)] σ) fun t8 σ =>
  bindV (aun .not t8) fun t9 =>
  some (t9, σ)
theorem load_placedEq (call : CallF H) (f : Nat) (a0 a1 : Value) (σ : St H) : kbody call f (codeOf P n_load_placed) [a0, a1] σ = load_placed call f a0 a1 σ := by kernel_rfl

abbrev slices_IndexFunc___api_Load__api_LoadR : List ARes := [.tmp 4]
def slices_IndexFunc___api_Load__api_LoadJ1 (call : CallF H) (f : Nat) (σ : St H) : R H :=
  some ((I (-1)), σ)
def slices_IndexFunc___api_Load__api_LoadL2 (call : CallF H) (f : Nat) (n : Nat) : Value → Value → Value → Value → St H → R H :=
  Nat.rec (fun _ _ _ _ _ => none) (fun _ r2 => fun t0 t1 t7 t8 σ =>
  bindV (abin .lss t8 t7) fun t9 =>
  ifV t9 (
  bindV (vIndexAddr 1 t0 t8) fun t14 =>
  bindV (vLoad false 1 t14 σ) fun t15 =>
  bindR (vCallv t1 [t15] call σ) fun t16 σ =>
  ifV t16 (
  some (t8, σ)) (
  bindV (abin .add t8 (I 1)) fun t18 =>
  r2 t0 t1 t7 t18 σ)) (
  slices_IndexFunc___api_Load__api_LoadJ1 call f σ)) n
def slices_IndexFunc___api_Load__api_LoadJ3 (call : CallF H) (f : Nat) (t0 t1 : Value) (σ : St H) : R H :=
  bindV (vLen .slice t0 σ) fun t7 =>
  slices_IndexFunc___api_Load__api_LoadL2 call f f t0 t1 t7 (I 0) σ
def slices_IndexFunc___api_Load__api_LoadJ4 (call : CallF H) (f : Nat) (t0 t1 : Value) (σ : St H) : R H :=
  slices_IndexFunc___api_Load__api_LoadJ3 call f t0 t1 σ
def slices_IndexFunc___api_Load__api_Load (call : CallF H) (f : Nat) (a0 a1 : Value) (σ : St H) : R H := slices_IndexFunc___api_Load__api_LoadJ4 call f a0 a1 σ
theorem slices_IndexFunc___api_Load__api_LoadEq (call : CallF H) (f : Nat) (a0 a1 : Value) (σ : St H) : kbody call f (codeOf P n_slices_IndexFunc___api_Load__api_Load) [a0, a1] σ = slices_IndexFunc___api_Load__api_Load call f a0 a1 σ :=
  kbody_of (rs := slices_IndexFunc___api_Load__api_LoadR) (by kernel_rfl) (by kernel_rfl) (by kernel_rfl) (seq_eq (by kernel_rfl) (seq_eq (by kernel_rfl) (leaf (B := fun e σ => slices_IndexFunc___api_Load__api_LoadJ1 call f σ) (by kernel_rfl))
  (seq_eq (by kernel_rfl) (block_eq (by kernel_rfl) (loop_eq (fun n e σ => slices_IndexFunc___api_Load__api_LoadL2 call f n (e 0) (e 1) (e 7) (e 8) σ) (by kernel_rfl) (by kernel_rfl) (fun n2 => (leaf (by kernel_rfl)))))
  (leaf (B := fun e σ => slices_IndexFunc___api_Load__api_LoadJ3 call f (e 0) (e 1) σ) (by kernel_rfl))))
  (leaf (B := fun e σ => slices_IndexFunc___api_Load__api_LoadJ4 call f (e 0) (e 1) σ) (by kernel_rfl))) (by kernel_rfl)

abbrev busy_TimeR : List ARes := [.tmp 2, .tmp 3]
def busy_TimeJ1 (call : CallF H) (f : Nat) (σ : St H) : R H :=
  some (.tuple ⟨[(I 0), ff]⟩, σ)
def busy_TimeL2 (call : CallF H) (f : Nat) (n : Nat) : Value → Value → St H → R H :=
  Nat.rec (fun _ _ _ => none) (fun _ r2 => fun t0 t4 σ =>
  bindV (abin .leq t4 (I 20000)) fun t13 =>
  ifV t13 (
  bindR (call n_busy_Asked [t0, t4] σ) fun t16 σ =>
  bindV (abin .eql t16 t4) fun t19 =>
  ifV t19 (
  some (.tuple ⟨[t4, tt]⟩, σ)) (
  r2 t0 t16 σ)) (
  busy_TimeJ1 call f σ)) n
def busy_TimeJ3 (call : CallF H) (f : Nat) (t0 : Value) (σ : St H) : R H :=
  busy_TimeL2 call f f t0 (I 1) σ
def busy_TimeJ4 (call : CallF H) (f : Nat) (t0 : Value) (σ : St H) : R H :=
  bindV (vLen .slice t0 σ) fun t10 =>
  bindV (abin .eql t10 (I 0)) fun t11 =>
  ifV t11 (
  some (.tuple ⟨[(I 0), tt]⟩, σ)) (
  busy_TimeJ3 call f t0 σ)
def busy_TimeJ5 (call : CallF H) (f : Nat) (t0 : Value) (σ : St H) : R H :=
  bindR (call n_busy_may [t0] σ) fun t7 σ =>
  bindV (aun .not t7) fun t8 =>
  ifV t8 (
  some (.tuple ⟨[(I 0), ff]⟩, σ)) (
  busy_TimeJ4 call f t0 σ)
def busy_TimeJ6 (call : CallF H) (f : Nat) (t0 : Value) (σ : St H) : R H :=
  busy_TimeJ5 call f t0 σ
def busy_Time (call : CallF H) (f : Nat) (a0 : Value) (σ : St H) : R H := busy_TimeJ6 call f a0 σ
theorem busy_TimeEq (call : CallF H) (f : Nat) (a0 : Value) (σ : St H) : kbody call f (codeOf P n_busy_Time) [a0] σ = busy_Time call f a0 σ :=
  kbody_of (rs := busy_TimeR) (by kernel_rfl) (by kernel_rfl) (by kernel_rfl) (seq_eq (by kernel_rfl) (seq_eq (by kernel_rfl) (seq_eq (by kernel_rfl) (seq_eq (by kernel_rfl) (leaf (B := fun e σ => busy_TimeJ1 call f σ) (by kernel_rfl))
  (seq_eq (by kernel_rfl) (block_eq (by kernel_rfl) (loop_eq (fun n e σ => busy_TimeL2 call f n (e 0) (e 4) σ) (by kernel_rfl) (by kernel_rfl) (fun n2 => (leaf (by kernel_rfl)))))
  (leaf (B := fun e σ => busy_TimeJ3 call f (e 0) σ) (by kernel_rfl))))
  (leaf (B := fun e σ => busy_TimeJ4 call f (e 0) σ) (by kernel_rfl)))
  (leaf (B := fun e σ => busy_TimeJ5 call f (e 0) σ) (by kernel_rfl)))
  (leaf (B := fun e σ => busy_TimeJ6 call f (e 0) σ) (by kernel_rfl))) (by kernel_rfl)

abbrev demand_FirstR : List ARes := [.tmp 2, .tmp 3]
def demand_FirstJ1 (call : CallF H) (f : Nat) (t4 t6 : Value) (σ : St H) : R H :=
  bindV (abin .gtr t6 t4) fun t43 =>
  ifV t43 (
  some (.tuple ⟨[(I 0), ff]⟩, σ)) (
  some (.tuple ⟨[t6, tt]⟩, σ))
def demand_FirstJ3 (call : CallF H) (f : Nat) (r2 : Value → Value → Value → Value → Value → Value → St H → R H) (t0 t4 t6 t19 t20 t21 : Value) (σ : St H) : R H :=
  bindV (abin .add t21 (I 1)) fun t40 =>
  r2 t0 t4 t6 t19 t20 t40 σ
def demand_FirstJ5 (call : CallF H) (f : Nat) (r2 : Value → Value → Value → Value → Value → Value → St H → R H) (r4 : Value → Value → Value → Value → Value → Value → Value → Value → St H → R H) (t0 t4 t6 t8 t9 t19 t20 t21 : Value) (σ : St H) : R H :=
  bindV (vFieldAddr 2 t8) fun t31 =>
  bindV (vLoad false 1 t31 σ) fun t32 =>
  bindV (abin .add t9 t32) fun t33 =>
  r4 t0 t4 t6 t8 t33 t19 t20 t21 σ
def demand_FirstL4 (call : CallF H) (f : Nat) (r2 : Value → Value → Value → Value → Value → Value → St H → R H) (n : Nat) : Value → Value → Value → Value → Value → Value → Value → Value → St H → R H :=
  Nat.rec (fun _ _ _ _ _ _ _ _ _ => none) (fun _ r4 => fun t0 t4 t6 t8 t9 t19 t20 t21 σ =>
  bindV (abin .lss t9 t6) fun t29 =>
  ifV t29 (
  bindR (call n_demand_Bound [t0, t9] σ) fun t36 σ =>
  bindV (abin .gtr t36 t9) fun t38 =>
  ifV t38 (
  demand_FirstJ5 call f r2 r4 t0 t4 t9 t8 t9 t19 t20 t21 σ) (
  demand_FirstJ5 call f r2 r4 t0 t4 t6 t8 t9 t19 t20 t21 σ)) (
  demand_FirstJ3 call f r2 t0 t4 t6 t19 t20 t21 σ)) n
def demand_FirstJ6 (call : CallF H) (f : Nat) (r2 : Value → Value → Value → Value → Value → Value → St H → R H) (t0 t4 t6 t8 t19 t20 t21 : Value) (σ : St H) : R H :=
  bindV (vFieldAddr 1 t8) fun t25 =>
  bindV (vLoad false 1 t25 σ) fun t26 =>
  demand_FirstL4 call f r2 f t0 t4 t6 t8 t26 t19 t20 t21 σ
def demand_FirstJ7 (call : CallF H) (f : Nat) (r2 : Value → Value → Value → Value → Value → Value → St H → R H) (t0 t4 t6 t19 t20 t21 : Value) (σ : St H) : R H :=
  bindV (vIndexAddr 3 t19 t21) fun t23 =>
  bindV (vLoad true 3 t23 σ) fun t24 =>
  bindR (vBox (.agg ⟨[(I 0), (I 0), (I 0)]⟩) σ) fun t8 σ =>
  bindS (vStore 3 t8 t24 σ) fun σ =>
  demand_FirstJ6 call f r2 t0 t4 t6 t8 t19 t20 t21 σ
def demand_FirstJ8 (call : CallF H) (f : Nat) (r2 : Value → Value → Value → Value → Value → Value → St H → R H) (t0 t4 t6 t19 t20 t21 t22 : Value) (σ : St H) : R H :=
  ifV t22 (
  demand_FirstJ7 call f r2 t0 t4 t6 t19 t20 t21 σ) (
  demand_FirstJ1 call f t4 t6 σ)
def demand_FirstJ9 (call : CallF H) (f : Nat) (r2 : Value → Value → Value → Value → Value → Value → St H → R H) (t0 t4 t6 t19 t20 t21 : Value) (σ : St H) : R H :=
  bindV (abin .lss t21 t20) fun t22 =>
  demand_FirstJ8 call f r2 t0 t4 t6 t19 t20 t21 t22 σ
def demand_FirstL2 (call : CallF H) (f : Nat) (n : Nat) : Value → Value → Value → Value → Value → Value → St H → R H :=
  Nat.rec (fun _ _ _ _ _ _ _ => none) (fun _ r2 => fun t0 t4 t6 t19 t20 t21 σ =>
  demand_FirstJ9 call f r2 t0 t4 t6 t19 t20 t21 σ) n
def demand_FirstJ10 (call : CallF H) (f : Nat) (t0 t4 t6 : Value) (σ : St H) : R H :=
  bindV (vLen .slice t0 σ) fun t20 =>
  demand_FirstL2 call f f t0 t4 t6 t0 t20 (I 0) σ
def demand_FirstJ11 (call : CallF H) (f : Nat) (t0 t4 : Value) (σ : St H) : R H :=
  bindV (abin .add t4 (I 1)) fun t18 =>
  demand_FirstJ10 call f t0 t4 t18 σ
def demand_FirstJ12 (call : CallF H) (f : Nat) (t0 t4 t5 : Value) (σ : St H) : R H :=
  bindV (aun .not t5) fun t16 =>
  ifV t16 (
  some (.tuple ⟨[(I 0), ff]⟩, σ)) (
  demand_FirstJ11 call f t0 t4 σ)
def demand_FirstJ13 (call : CallF H) (f : Nat) (t0 : Value) (σ : St H) : R H :=
  bindR (call n_busy_Time [t0] σ) fun t12 σ =>
  bindV (vExtract 0 t12) fun t13 =>
  bindV (vExtract 1 t12) fun t14 =>
  demand_FirstJ12 call f t0 t13 t14 σ
def demand_FirstJ14 (call : CallF H) (f : Nat) (t0 : Value) (σ : St H) : R H :=
  demand_FirstJ13 call f t0 σ
def demand_First (call : CallF H) (f : Nat) (a0 : Value) (σ : St H) : R H := demand_FirstJ14 call f a0 σ
theorem demand_FirstEq (call : CallF H) (f : Nat) (a0 : Value) (σ : St H) : kbody call f (codeOf P n_demand_First) [a0] σ = demand_First call f a0 σ :=
  kbody_of (rs := demand_FirstR) (by kernel_rfl) (by kernel_rfl) (by kernel_rfl) (seq_eq (by kernel_rfl) (seq_eq (by kernel_rfl) (seq_eq (by kernel_rfl) (seq_eq (by kernel_rfl) (seq_eq (by kernel_rfl) (leaf (B := fun e σ => demand_FirstJ1 call f (e 4) (e 6) σ) (by kernel_rfl))
  (seq_eq (by kernel_rfl) (block_eq (by kernel_rfl) (loop_eq (fun n e σ => demand_FirstL2 call f n (e 0) (e 4) (e 6) (e 19) (e 20) (e 21) σ) (by kernel_rfl) (by kernel_rfl) (fun n2 => (tr (seq_eq (by kernel_rfl) (seq_eq (by kernel_rfl) (seq_eq (by kernel_rfl) (leaf (B := fun e σ => demand_FirstJ3 call f (demand_FirstL2 call f n2) (e 0) (e 4) (e 6) (e 19) (e 20) (e 21) σ) (by kernel_rfl))
  (block_eq (by kernel_rfl) (seq_eq (by kernel_rfl) (seq_eq (by kernel_rfl) (block_eq (by kernel_rfl) (loop_eq (fun n e σ => demand_FirstL4 call f (demand_FirstL2 call f n2) n (e 0) (e 4) (e 6) (e 8) (e 9) (e 19) (e 20) (e 21) σ) (by kernel_rfl) (by kernel_rfl) (fun n4 => (leaf (by kernel_rfl)))))
  (leaf (B := fun e σ => demand_FirstJ6 call f (demand_FirstL2 call f n2) (e 0) (e 4) (e 6) (e 8) (e 19) (e 20) (e 21) σ) (by kernel_rfl)))
  (leaf (B := fun e σ => demand_FirstJ7 call f (demand_FirstL2 call f n2) (e 0) (e 4) (e 6) (e 19) (e 20) (e 21) σ) (by kernel_rfl)))))
  (leaf (B := fun e σ => demand_FirstJ8 call f (demand_FirstL2 call f n2) (e 0) (e 4) (e 6) (e 19) (e 20) (e 21) (e 22) σ) (by kernel_rfl)))
  (leaf (B := fun e σ => demand_FirstJ9 call f (demand_FirstL2 call f n2) (e 0) (e 4) (e 6) (e 19) (e 20) (e 21) σ) (by kernel_rfl))) (by kernel_rfl)))))
  (leaf (B := fun e σ => demand_FirstJ10 call f (e 0) (e 4) (e 6) σ) (by kernel_rfl))))
  (leaf (B := fun e σ => demand_FirstJ11 call f (e 0) (e 4) σ) (by kernel_rfl)))
  (leaf (B := fun e σ => demand_FirstJ12 call f (e 0) (e 4) (e 5) σ) (by kernel_rfl)))
  (leaf (B := fun e σ => demand_FirstJ13 call f (e 0) σ) (by kernel_rfl)))
  (leaf (B := fun e σ => demand_FirstJ14 call f (e 0) σ) (by kernel_rfl))) (by kernel_rfl)

def whole_Core (call : CallF H) (f : Nat) (a0 a1 : Value) (σ : St H) : R H :=
  bindR (vBox a1 σ) fun t3 σ =>
  bindR (call n_slices_IndexFunc___api_Load__api_Load [a0, (.func (.func n_whole_Core_1) ⟨[]⟩ ⟨[t3]⟩)] σ) fun t7 σ =>
  some (t7, σ)
theorem whole_CoreEq (call : CallF H) (f : Nat) (a0 a1 : Value) (σ : St H) : kbody call f (codeOf P n_whole_Core) [a0, a1] σ = whole_Core call f a0 a1 σ := by kernel_rfl

def window_Size (call : CallF H) (f : Nat) (a0 a1 a2 : Value) (σ : St H) : R H :=
  bindR (vBox a0 σ) fun t3 σ =>
  bindR (vBox a1 σ) fun t4 σ =>
  bindV (abin .lss a2 (I 1)) fun t8 =>
  ifV t8 (
  some ((I 0), σ)) (
  bindV (vFieldAddr 1 t4) fun t9 =>
  bindV (vLoad false 1 t9 σ) fun t10 =>
  bindV (abin .sub a2 (I 1)) fun t12 =>
  bindV (vFieldAddr 2 t3) fun t13 =>
  bindV (vLoad false 1 t13 σ) fun t14 =>
  bindV (abin .mul t12 t14) fun t15 =>
  bindV (abin .sub t10 t15) fun t16 =>
  bindR (call n_tick_Down [t16, a2] σ) fun t18 σ =>
  bindV (vMx [t18, (I 0)]) fun t19 =>
  some (t19, σ))
theorem window_SizeEq (call : CallF H) (f : Nat) (a0 a1 a2 : Value) (σ : St H) : kbody call f (codeOf P n_window_Size) [a0, a1, a2] σ = window_Size call f a0 a1 a2 σ := by kernel_rfl

abbrev window_piecesR : List ARes := [.tmp 8, .tmp 9]
def window_piecesJ1 (call : CallF H) (f : Nat) (t10 t11 : Value) (σ : St H) : R H :=
  bindV (abin .eql t11 (I 0)) fun t59 =>
  bindV (bif kyes t59 true then some t10 else some undefV) fun t61 =>
  bindV (bif kyes t59 true then vLen .slice t61 σ else some undefV) fun t62 =>
  bindV (bif kyes t59 true then abin .gtr t62 (I 1) else some undefV) fun t63 =>
  bindV (vPick t59 t63 ff) fun t64 =>
  some (.tuple ⟨[t10, t64]⟩, σ)
def window_piecesJ3 (call : CallF H) (f : Nat) (r2 : Value → Value → Value → Value → Value → Value → Value → St H → R H) (t2 t4 t10 t11 t12 t13 t14 t18 t19 t20 : Value) (σ : St H) : R H :=
  bindV (vFieldAddr 1 t13) fun t31 =>
  bindV (vLoad false 1 t31 σ) fun t32 =>
  bindV (abin .sub t32 t14) fun t34 =>
  bindV (vMn [t34, t11]) fun t36 =>
  bindV (vFieldAddr 0 t13) fun t38 =>
  bindV (vLoad false 1 t38 σ) fun t39 =>
  bindV (vFieldAddr 2 t4) fun t42 =>
  bindV (vLoad false 1 t42 σ) fun t43 =>
  bindV (abin .add t2 t43) fun t44 =>
  bindV (abin .mul t12 t44) fun t45 =>
  bindV (abin .add t14 t36) fun t49 =>
  bindV (vBuild (rep [(I 0)] 4) [(0, 1, t39), (1, 1, t45), (2, 1, t2), (3, 1, t49)]) fun t50 =>
  bindR (vBuildSlice 1 (rep [(I 0)] 4) [(0, 4, t50)] σ) fun t51 σ =>
  bindR (vAppend 4 32 (rep [(I 0)] 4) false t10 t51 σ) fun t52 σ =>
  bindV (abin .sub t11 t36) fun t55 =>
  bindV (abin .add t20 (I 1)) fun t56 =>
  r2 t2 t4 t52 t55 t18 t19 t56 σ
def window_piecesL2 (call : CallF H) (f : Nat) (n : Nat) : Value → Value → Value → Value → Value → Value → Value → St H → R H :=
  Nat.rec (fun _ _ _ _ _ _ _ _ => none) (fun _ r2 => fun t2 t4 t10 t11 t18 t19 t20 σ =>
  bindV (abin .lss t20 t19) fun t21 =>
  ifV t21 (
  bindV (vIndexAddr 2 t18 t20) fun t23 =>
  bindV (vLoad true 2 t23 σ) fun t24 =>
  bindR (vBox (.agg ⟨[(I 0), (I 0)]⟩) σ) fun t13 σ =>
  bindS (vStore 2 t13 t24 σ) fun σ =>
  bindV (abin .eql t11 (I 0)) fun t26 =>
  ifV t26 (
  window_piecesJ1 call f t10 t11 σ) (
  bindV (vFieldAddr 3 t4) fun t27 =>
  bindV (vLoad false 1 t27 σ) fun t28 =>
  bindV (abin .eql t20 (I 0)) fun t30 =>
  ifV t30 (
  window_piecesJ3 call f r2 t2 t4 t10 t11 t20 t13 (I 0) t18 t19 t20 σ) (
  window_piecesJ3 call f r2 t2 t4 t10 t11 t20 t13 t28 t18 t19 t20 σ))) (
  window_piecesJ1 call f t10 t11 σ)) n
def window_piecesJ4 (call : CallF H) (f : Nat) (t2 t3 t4 t10 t11 : Value) (σ : St H) : R H :=
  bindV (vLen .slice t3 σ) fun t19 =>
  window_piecesL2 call f f t2 t4 t10 t11 t3 t19 (I 0) σ
def window_piecesJ5 (call : CallF H) (f : Nat) (t2 t3 t4 t5 t10 : Value) (σ : St H) : R H :=
  bindV (vFieldAddr 0 t5) fun t16 =>
  bindV (vLoad false 1 t16 σ) fun t17 =>
  window_piecesJ4 call f t2 t3 t4 t10 t17 σ
def window_piecesJ6 (call : CallF H) (f : Nat) (t2 t3 t4 t5 : Value) (σ : St H) : R H :=
  window_piecesJ5 call f t2 t3 t4 t5 (.slice none 0 0) σ
def window_piecesJ7 (call : CallF H) (f : Nat) (t0 t1 t2 t3 : Value) (σ : St H) : R H :=
  bindR (vBox t0 σ) fun t4 σ =>
  bindR (vBox t1 σ) fun t5 σ =>
  window_piecesJ6 call f t2 t3 t4 t5 σ
def window_pieces (call : CallF H) (f : Nat) (a0 a1 a2 a3 : Value) (σ : St H) : R H := window_piecesJ7 call f a0 a1 a2 a3 σ
theorem window_piecesEq (call : CallF H) (f : Nat) (a0 a1 a2 a3 : Value) (σ : St H) : kbody call f (codeOf P n_window_pieces) [a0, a1, a2, a3] σ = window_pieces call f a0 a1 a2 a3 σ :=
  kbody_of (rs := window_piecesR) (by kernel_rfl) (by kernel_rfl) (by kernel_rfl) (seq_eq (by kernel_rfl) (seq_eq (by kernel_rfl) (seq_eq (by kernel_rfl) (seq_eq (by kernel_rfl) (leaf (B := fun e σ => window_piecesJ1 call f (e 10) (e 11) σ) (by kernel_rfl))
  (seq_eq (by kernel_rfl) (block_eq (by kernel_rfl) (loop_eq (fun n e σ => window_piecesL2 call f n (e 2) (e 4) (e 10) (e 11) (e 18) (e 19) (e 20) σ) (by kernel_rfl) (by kernel_rfl) (fun n2 => (leaf (by kernel_rfl)))))
  (leaf (B := fun e σ => window_piecesJ4 call f (e 2) (e 3) (e 4) (e 10) (e 11) σ) (by kernel_rfl))))
  (leaf (B := fun e σ => window_piecesJ5 call f (e 2) (e 3) (e 4) (e 5) (e 10) σ) (by kernel_rfl)))
  (leaf (B := fun e σ => window_piecesJ6 call f (e 2) (e 3) (e 4) (e 5) σ) (by kernel_rfl)))
  (leaf (B := fun e σ => window_piecesJ7 call f (e 0) (e 1) (e 2) (e 3) σ) (by kernel_rfl))) (by kernel_rfl)

abbrev window_bestR : List ARes := [.tmp 10]
def window_bestJ1 (call : CallF H) (f : Nat) (t3 t11 : Value) (σ : St H) : R H :=
  bindV (vLen .slice t11 σ) fun t40 =>
  bindV (abin .lss t40 t3) fun t42 =>
  ifV t42 (
  some ((.slice none 0 0), σ)) (
  bindR (call n_slices_SortStableFunc__window_place_window_place [t11, (.func (.func n_window_best_1) #[] #[])] σ) fun t44 σ =>
  bindV (vSlice 2 t11 none (some t3) none) fun t47 =>
  bindR (call n_slices_SortFunc__window_place_window_place [t47, (.func (.func n_window_best_2) #[] #[])] σ) fun t49 σ =>
  some (t47, σ))
def window_bestJ3 (call : CallF H) (f : Nat) (r2 : Value → Value → Value → Value → Value → Value → Value → Value → St H → R H) (t3 t4 t5 t7 t11 t15 t16 t17 : Value) (σ : St H) : R H :=
  bindV (abin .add t17 (I 1)) fun t38 =>
  r2 t3 t4 t5 t7 t11 t15 t16 t38 σ
def window_bestL2 (call : CallF H) (f : Nat) (n : Nat) : Value → Value → Value → Value → Value → Value → Value → Value → St H → R H :=
  Nat.rec (fun _ _ _ _ _ _ _ _ _ => none) (fun _ r2 => fun t3 t4 t5 t7 t11 t15 t16 t17 σ =>
  bindV (abin .lss t17 t16) fun t18 =>
  ifV t18 (
  bindV (vIndexAddr 1 t15 t17) fun t20 =>
  bindV (vLoad false 1 t20 σ) fun t21 =>
  bindV (vFieldAddr 2 t7) fun t24 =>
  bindV (vLoad false 1 t24 σ) fun t25 =>
  bindR (call n_most_Fit [t21, t4, t25, t4] σ) fun t27 σ =>
  bindV (vFieldAddr 3 t5) fun t29 =>
  bindV (vLoad false 1 t29 σ) fun t30 =>
  bindV (abin .gtr t27 t30) fun t31 =>
  ifV t31 (
  bindV (vBuild [(I 0), (I 0)] [(0, 1, t17), (1, 1, t27)]) fun t35 =>
  bindR (vBuildSlice 1 [(I 0), (I 0)] [(0, 2, t35)] σ) fun t36 σ =>
  bindR (vAppend 2 16 [(I 0), (I 0)] false t11 t36 σ) fun t37 σ =>
  window_bestJ3 call f r2 t3 t4 t5 t7 t37 t15 t16 t17 σ) (
  window_bestJ3 call f r2 t3 t4 t5 t7 t11 t15 t16 t17 σ)) (
  window_bestJ1 call f t3 t11 σ)) n
def window_bestJ4 (call : CallF H) (f : Nat) (t1 t3 t4 t5 t7 t11 : Value) (σ : St H) : R H :=
  bindV (vLen .slice t1 σ) fun t16 =>
  window_bestL2 call f f t3 t4 t5 t7 t11 t1 t16 (I 0) σ
def window_bestJ5 (call : CallF H) (f : Nat) (t1 t3 t4 t5 t7 : Value) (σ : St H) : R H :=
  window_bestJ4 call f t1 t3 t4 t5 t7 (.slice none 0 0) σ
def window_bestJ6 (call : CallF H) (f : Nat) (t0 t1 t2 t3 t4 : Value) (σ : St H) : R H :=
  bindR (vBox t0 σ) fun t5 σ =>
  bindR (vBox t2 σ) fun t7 σ =>
  window_bestJ5 call f t1 t3 t4 t5 t7 σ
def window_best (call : CallF H) (f : Nat) (a0 a1 a2 a3 a4 : Value) (σ : St H) : R H := window_bestJ6 call f a0 a1 a2 a3 a4 σ
theorem window_bestEq (call : CallF H) (f : Nat) (a0 a1 a2 a3 a4 : Value) (σ : St H) : kbody call f (codeOf P n_window_best) [a0, a1, a2, a3, a4] σ = window_best call f a0 a1 a2 a3 a4 σ :=
  kbody_of (rs := window_bestR) (by kernel_rfl) (by kernel_rfl) (by kernel_rfl) (seq_eq (by kernel_rfl) (seq_eq (by kernel_rfl) (seq_eq (by kernel_rfl) (leaf (B := fun e σ => window_bestJ1 call f (e 3) (e 11) σ) (by kernel_rfl))
  (seq_eq (by kernel_rfl) (block_eq (by kernel_rfl) (loop_eq (fun n e σ => window_bestL2 call f n (e 3) (e 4) (e 5) (e 7) (e 11) (e 15) (e 16) (e 17) σ) (by kernel_rfl) (by kernel_rfl) (fun n2 => (leaf (by kernel_rfl)))))
  (leaf (B := fun e σ => window_bestJ4 call f (e 1) (e 3) (e 4) (e 5) (e 7) (e 11) σ) (by kernel_rfl))))
  (leaf (B := fun e σ => window_bestJ5 call f (e 1) (e 3) (e 4) (e 5) (e 7) σ) (by kernel_rfl)))
  (leaf (B := fun e σ => window_bestJ6 call f (e 0) (e 1) (e 2) (e 3) (e 4) σ) (by kernel_rfl))) (by kernel_rfl)

def zero_pair (call : CallF H) (f : Nat) (a0 a1 a2 a3 a4 : Value) (σ : St H) : R H :=
  bindR (vBox a0 σ) fun t5 σ =>
  bindR (vBox a2 σ) fun t7 σ =>
  bindR (vBox (.agg ⟨[(I 0), (.slice none 0 0)]⟩) σ) fun t10 σ =>
  bindV (vIndexAddr 1 a1 a3) fun t17 =>
  bindV (vLoad false 1 t17 σ) fun t18 =>
  bindV (vFieldAddr 2 t7) fun t19 =>
  bindV (vLoad false 1 t19 σ) fun t20 =>
  bindV (vFieldAddr 0 t7) fun t21 =>
  bindV (vLoad false 1 t21 σ) fun t22 =>
  bindV (abin .sub t22 (I 1)) fun t23 =>
  bindR (call n_most_Tight [t18, t20, t23] σ) fun t24 σ =>
  bindV (vFieldAddr 0 t7) fun t25 =>
  bindV (vLoad false 1 t25 σ) fun t26 =>
  bindV (abin .sub t26 t24) fun t28 =>
  bindV (vFieldAddr 3 t5) fun t29 =>
  bindV (vLoad false 1 t29 σ) fun t30 =>
  bindV (abin .add t28 t30) fun t31 =>
  bindV (vFieldAddr 1 t7) fun t32 =>
  bindV (vLoad false 1 t32 σ) fun t33 =>
  bindV (abin .sub t33 t24) fun t35 =>
  bindV (vFieldAddr 2 t5) fun t36 =>
  bindV (vLoad false 1 t36 σ) fun t37 =>
  bindV (abin .sub t35 t37) fun t38 =>
  bindV (abin .lss t24 (I 1)) fun t40 =>
  bindV (bif kyes t40 false then some t31 else some undefV) fun t42 =>
  bindV (bif kyes t40 false then some t38 else some undefV) fun t43 =>
  bindV (bif kyes t40 false then abin .gtr t42 t43 else some undefV) fun t44 =>
  bindV (vPick t40 tt t44) fun t45 =>
  bindV (bif kyes t45 false then some a1 else some undefV) fun t47 =>
  bindV (bif kyes t45 false then some a4 else some undefV) fun t48 =>
  bindV (bif kyes t45 false then vIndexAddr 1 t47 t48 else some undefV) fun t49 =>
  bindV (bif kyes t45 false then vLoad false 1 t49 σ else some undefV) fun t50 =>
  bindV (bif kyes t45 false then some t31 else some undefV) fun t52 =>
  bindV (bif kyes t45 false then some t38 else some undefV) fun t53 =>
  bindV (bif kyes t45 false then vFieldAddr 2 t7 else some undefV) fun t54 =>
  bindV (bif kyes t45 false then vLoad false 1 t54 σ else some undefV) fun t55 =>
  bindV (bif kyes t45 false then vBuild [(I 0), (I 0), (I 0)] [(0, 1, t52), (1, 1, t53), (2, 1, t55)] else some undefV) fun t56 =>
  bindR (bif kyes t45 false then call n_slices_Clone__api_Load_api_Load [t50] σ else some (undefV, σ)) fun t51 σ =>
  kif (kand (kimp (kyes t45 false) (rck (vLoad false 1 t54 σ) t55)) true) (
  bindR (bif kyes t45 false then vBuildSlice 1 [(I 0), (I 0), (I 0)] [(0, 3, t56)] σ else some (undefV, σ)) fun t57 σ =>
  bindR (bif kyes t45 false then vAppend 3 24 [(I 0), (I 0), (I 0)] false t51 t57 σ else some (undefV, σ)) fun t58 σ =>
  bindR (bif kyes t45 false then call n_demand_Fits [t58] σ else some (undefV, σ)) fun t59 σ =>
  bindV (bif kyes t45 false then aun .not t59 else some undefV) fun t60 =>
  bindV (vPick t45 tt t60) fun t61 =>
  ifV t61 (
  bindV (vBuild [(I 0), (.slice none 0 0)] []) fun t62 =>
  bindS (vStore 2 t10 t62 σ) fun σ =>
  resV [.c t10 true 2, .v ff] σ) (
  bindV (vBuild (rep [(I 0)] 4) [(0, 1, a3), (2, 1, t24), (3, 1, t24)]) fun t66 =>
  bindV (vFieldAddr 2 t5) fun t69 =>
  bindV (vLoad false 1 t69 σ) fun t70 =>
  bindV (abin .add t24 t70) fun t71 =>
  bindV (vBuild (rep [(I 0)] 4) [(0, 1, a4), (1, 1, t71), (2, 1, t38), (3, 1, t31)]) fun t74 =>
  bindR (vBuildSlice 2 (rep [(I 0)] 8) [(0, 4, t66), (4, 4, t74)] σ) fun t75 σ =>
  bindV (vBuild [(I 0), (.slice none 0 0)] [(0, 1, (I 3)), (1, 1, t75)]) fun t76 =>
  bindS (vStore 2 t10 t76 σ) fun σ =>
  resV [.c t10 true 2, .v tt] σ))
theorem zero_pairEq (call : CallF H) (f : Nat) (a0 a1 a2 a3 a4 : Value) (σ : St H) : kbody call f (codeOf P n_zero_pair) [a0, a1, a2, a3, a4] σ = zero_pair call f a0 a1 a2 a3 a4 σ := by kernel_rfl

def wait_may_1 (call : CallF H) (f : Nat) (a0 a1 : Value) (σ : St H) : R H :=
  bindR (vBox a0 σ) fun t2 σ =>
  bindV (vLoad true 5 a1 σ) fun t4 =>
  bindV (vLoad true 4 t2 σ) fun t5 =>
  bindR (call n_rule_Task [t4, t5] σ) fun t6 σ =>
  bindV (aun .not t6) fun t7 =>
  some (t7, σ)
theorem wait_may_1Eq (call : CallF H) (f : Nat) (a0 a1 : Value) (σ : St H) : kbody call f (codeOf P n_wait_may_1) [a0, a1] σ = wait_may_1 call f a0 a1 σ := by kernel_rfl

def slices_ContainsFunc__api_Task_api_Task (call : CallF H) (f : Nat) (a0 a1 : Value) (σ : St H) : R H :=
  bindR (call n_slices_IndexFunc__api_Task_api_Task [a0, a1] σ) fun t7 σ =>
  bindV (abin .geq t7 (I 0)) fun t8 =>
  some (t8, σ)
theorem slices_ContainsFunc__api_Task_api_TaskEq (call : CallF H) (f : Nat) (a0 a1 : Value) (σ : St H) : kbody call f (codeOf P n_slices_ContainsFunc__api_Task_api_Task) [a0, a1] σ = slices_ContainsFunc__api_Task_api_Task call f a0 a1 σ := by kernel_rfl

end
end Go.G

namespace Go.G
open Go Go.Ax
set_option maxRecDepth 100000
set_option linter.unusedVariables false
variable {H : HeapI}
noncomputable section
abbrev wait_LongestR : List ARes := [.tmp 6]
def wait_LongestJ1 (call : CallF H) (f : Nat) (t7 : Value) (σ : St H) : R H :=
  some (t7, σ)
def wait_LongestJ3 (call : CallF H) (f : Nat) (r2 : Value → Value → Value → Value → Value → Value → St H → R H) (t2 t3 t7 t20 t21 t22 : Value) (σ : St H) : R H :=
  bindV (abin .add t22 (I 1)) fun t38 =>
  r2 t2 t3 t7 t20 t21 t38 σ
def wait_LongestL2 (call : CallF H) (f : Nat) (n : Nat) : Value → Value → Value → Value → Value → Value → St H → R H :=
  Nat.rec (fun _ _ _ _ _ _ _ => none) (fun _ r2 => fun t2 t3 t7 t20 t21 t22 σ =>
  bindV (abin .lss t22 t21) fun t23 =>
  ifV t23 (
  bindV (vIndexAddr 3 t20 t22) fun t24 =>
  bindV (vLoad true 3 t24 σ) fun t25 =>
  bindR (vBox (.agg ⟨[(I 0), (I 0), (I 0)]⟩) σ) fun t9 σ =>
  bindS (vStore 3 t9 t25 σ) fun σ =>
  bindV (vFieldAddr 4 t3) fun t26 =>
  bindV (vLoad false 1 t26 σ) fun t27 =>
  bindV (vFieldAddr 0 t9) fun t28 =>
  bindV (vLoad false 1 t28 σ) fun t29 =>
  bindV (vIndexAddr 1 t27 t29) fun t30 =>
  bindV (vLoad false 1 t30 σ) fun t31 =>
  bindV (abin .eql t31 t2) fun t33 =>
  ifV t33 (
  bindV (vFieldAddr 2 t9) fun t35 =>
  bindV (vLoad false 1 t35 σ) fun t36 =>
  bindV (vMx [t7, t36]) fun t37 =>
  wait_LongestJ3 call f r2 t2 t3 t37 t20 t21 t22 σ) (
  wait_LongestJ3 call f r2 t2 t3 t7 t20 t21 t22 σ)) (
  wait_LongestJ1 call f t7 σ)) n
def wait_LongestJ4 (call : CallF H) (f : Nat) (t2 t3 t4 t7 : Value) (σ : St H) : R H :=
  bindV (vFieldAddr 3 t4) fun t19 =>
  bindV (vLoad false 1 t19 σ) fun t20 =>
  bindV (vLen .slice t20 σ) fun t21 =>
  wait_LongestL2 call f f t2 t3 t7 t20 t21 (I 0) σ
def wait_LongestJ5 (call : CallF H) (f : Nat) (t2 t3 t4 : Value) (σ : St H) : R H :=
  wait_LongestJ4 call f t2 t3 t4 (I 0) σ
def wait_LongestJ6 (call : CallF H) (f : Nat) (t2 t3 t4 : Value) (σ : St H) : R H :=
  bindV (vLoad true 5 t3 σ) fun t10 =>
  bindR (call n_rule_Config [t10] σ) fun t11 σ =>
  bindV (aun .not t11) fun t12 =>
  bindV (bif kyes t12 false then vLoad true 5 t3 σ else some undefV) fun t14 =>
  bindV (bif kyes t12 false then vLoad true 4 t4 σ else some undefV) fun t15 =>
  bindR (bif kyes t12 false then call n_rule_Task [t14, t15] σ else some (undefV, σ)) fun t16 σ =>
  bindV (bif kyes t12 false then aun .not t16 else some undefV) fun t17 =>
  bindV (vPick t12 tt t17) fun t18 =>
  ifV t18 (
  some ((I 0), σ)) (
  wait_LongestJ5 call f t2 t3 t4 σ)
def wait_LongestJ7 (call : CallF H) (f : Nat) (t0 t1 t2 : Value) (σ : St H) : R H :=
  bindR (vBox t0 σ) fun t3 σ =>
  bindR (vBox t1 σ) fun t4 σ =>
  wait_LongestJ6 call f t2 t3 t4 σ
def wait_Longest (call : CallF H) (f : Nat) (a0 a1 a2 : Value) (σ : St H) : R H := wait_LongestJ7 call f a0 a1 a2 σ
theorem wait_LongestEq (call : CallF H) (f : Nat) (a0 a1 a2 : Value) (σ : St H) : kbody call f (codeOf P n_wait_Longest) [a0, a1, a2] σ = wait_Longest call f a0 a1 a2 σ :=
  kbody_of (rs := wait_LongestR) (by kernel_rfl) (by kernel_rfl) (by kernel_rfl) (seq_eq (by kernel_rfl) (seq_eq (by kernel_rfl) (seq_eq (by kernel_rfl) (seq_eq (by kernel_rfl) (leaf (B := fun e σ => wait_LongestJ1 call f (e 7) σ) (by kernel_rfl))
  (seq_eq (by kernel_rfl) (block_eq (by kernel_rfl) (loop_eq (fun n e σ => wait_LongestL2 call f n (e 2) (e 3) (e 7) (e 20) (e 21) (e 22) σ) (by kernel_rfl) (by kernel_rfl) (fun n2 => (leaf (by kernel_rfl)))))
  (leaf (B := fun e σ => wait_LongestJ4 call f (e 2) (e 3) (e 4) (e 7) σ) (by kernel_rfl))))
  (leaf (B := fun e σ => wait_LongestJ5 call f (e 2) (e 3) (e 4) σ) (by kernel_rfl)))
  (leaf (B := fun e σ => wait_LongestJ6 call f (e 2) (e 3) (e 4) σ) (by kernel_rfl)))
  (leaf (B := fun e σ => wait_LongestJ7 call f (e 0) (e 1) (e 2) σ) (by kernel_rfl))) (by kernel_rfl)

def line_Line_int_Next (call : CallF H) (f : Nat) (a0 : Value) (σ : St H) : R H :=
  bindR (call n_line_Line_int_all [a0] σ) fun t11 σ =>
  bindR (call n_heap_Heap_int_First [t11] σ) fun t12 σ =>
  bindV (vExtract 0 t12) fun t13 =>
  bindV (vExtract 1 t12) fun t14 =>
  bindV (aun .not t14) fun t16 =>
  ifV t16 (
  some (.tuple ⟨[(I 0), ff]⟩, σ)) (
  bindR (call n_line_Line_int_all [a0] σ) fun t19 σ =>
  bindR (call n_heap_Heap_int_Key [t19, t13] σ) fun t21 σ =>
  bindV (vExtract 0 t21) fun t22 =>
  bindV (vExtract 1 t21) fun t23 =>
  bindV (vExtract 2 t21) fun t24 =>
  some (.tuple ⟨[t22, tt]⟩, σ))
theorem line_Line_int_NextEq (call : CallF H) (f : Nat) (a0 : Value) (σ : St H) : kbody call f (codeOf P n_line_Line_int_Next) [a0] σ = line_Line_int_Next call f a0 σ := by kernel_rfl

def line_Line_int_all (call : CallF H) (f : Nat) (a0 : Value) (σ : St H) : R H :=
  bindV (vEq .nilp false a0 nilP) fun t4 =>
  ifV t4 (
  some (nilP, σ)) (
  bindV (vNil a0) fun t6 =>
  bindV (vFieldAddr 0 t6) fun t7 =>
  bindV (vLoad false 1 t7 σ) fun t8 =>
  some (t8, σ))
theorem line_Line_int_allEq (call : CallF H) (f : Nat) (a0 : Value) (σ : St H) : kbody call f (codeOf P n_line_Line_int_all) [a0] σ = line_Line_int_all call f a0 σ := by kernel_rfl

def heap_Heap_int_TakeJ1 (call : CallF H) (f : Nat) (t4 t5 : Value) (σ : St H) : R H :=
  some (.tuple ⟨[t4, t5]⟩, σ)
def heap_Heap_int_Take (call : CallF H) (f : Nat) (a0 : Value) (σ : St H) : R H :=
  bindR (call n_heap_Heap_int_First [a0] σ) fun t8 σ =>
  bindV (vExtract 0 t8) fun t9 =>
  bindV (vExtract 1 t8) fun t10 =>
  ifV t10 (
  bindR (call n_heap_Heap_int_Drop [a0, t9] σ) fun t14 σ =>
  heap_Heap_int_TakeJ1 call f t9 t10 σ) (
  heap_Heap_int_TakeJ1 call f t9 t10 σ)
theorem heap_Heap_int_TakeEq (call : CallF H) (f : Nat) (a0 : Value) (σ : St H) : kbody call f (codeOf P n_heap_Heap_int_Take) [a0] σ = heap_Heap_int_Take call f a0 σ := by kernel_rfl

abbrev slices_stableCmpFunc_api_MailR : List ARes := []
def slices_stableCmpFunc_api_MailJ2 (call : CallF H) (f : Nat) (r1 : Value → Value → Value → Value → St H → R H) (t0 t1 t2 t6 : Value) (σ : St H) : R H :=
  bindV (abin .mul t6 (I 2)) fun t62 =>
  r1 t0 t1 t2 t62 σ
def slices_stableCmpFunc_api_MailJ3 (call : CallF H) (f : Nat) (r1 : Value → Value → Value → Value → St H → R H) (t0 t1 t2 t6 t7 : Value) (σ : St H) : R H :=
  bindV (abin .add t7 t6) fun t51 =>
  bindV (abin .lss t51 t1) fun t54 =>
  ifV t54 (
  bindR (call n_slices_symMergeCmpFunc_api_Mail [t0, t7, t51, t1, t2] σ) fun t60 σ =>
  slices_stableCmpFunc_api_MailJ2 call f r1 t0 t1 t2 t6 σ) (
  slices_stableCmpFunc_api_MailJ2 call f r1 t0 t1 t2 t6 σ)
def slices_stableCmpFunc_api_MailL4 (call : CallF H) (f : Nat) (r1 : Value → Value → Value → Value → St H → R H) (n : Nat) : Value → Value → Value → Value → Value → Value → St H → R H :=
  Nat.rec (fun _ _ _ _ _ _ _ => none) (fun _ r4 => fun t0 t1 t2 t6 t7 t8 σ =>
  bindV (abin .leq t8 t1) fun t35 =>
  ifV t35 (
  bindV (abin .add t7 t6) fun t40 =>
  bindR (call n_slices_symMergeCmpFunc_api_Mail [t0, t7, t40, t8, t2] σ) fun t43 σ =>
  bindV (abin .mul (I 2) t6) fun t47 =>
  bindV (abin .add t8 t47) fun t48 =>
  r4 t0 t1 t2 t6 t8 t48 σ) (
  slices_stableCmpFunc_api_MailJ3 call f r1 t0 t1 t2 t6 t7 σ)) n
def slices_stableCmpFunc_api_MailJ5 (call : CallF H) (f : Nat) (r1 : Value → Value → Value → Value → St H → R H) (t0 t1 t2 t6 : Value) (σ : St H) : R H :=
  bindV (abin .mul (I 2) t6) fun t32 =>
  slices_stableCmpFunc_api_MailL4 call f r1 f t0 t1 t2 t6 (I 0) t32 σ
def slices_stableCmpFunc_api_MailJ6 (call : CallF H) (f : Nat) (r1 : Value → Value → Value → Value → St H → R H) (t0 t1 t2 t6 : Value) (σ : St H) : R H :=
  bindV (abin .lss t6 t1) fun t30 =>
  ifV t30 (
  slices_stableCmpFunc_api_MailJ5 call f r1 t0 t1 t2 t6 σ) (
  some (.tuple ⟨[]⟩, σ))
def slices_stableCmpFunc_api_MailL1 (call : CallF H) (f : Nat) (n : Nat) : Value → Value → Value → Value → St H → R H :=
  Nat.rec (fun _ _ _ _ _ => none) (fun _ r1 => fun t0 t1 t2 t6 σ =>
  slices_stableCmpFunc_api_MailJ6 call f r1 t0 t1 t2 t6 σ) n
def slices_stableCmpFunc_api_MailJ7 (call : CallF H) (f : Nat) (t0 t1 t2 t6 t7 : Value) (σ : St H) : R H :=
  bindR (call n_slices_insertionSortCmpFunc_api_Mail [t0, t7, t1, t2] σ) fun t27 σ =>
  slices_stableCmpFunc_api_MailL1 call f f t0 t1 t2 t6 σ
def slices_stableCmpFunc_api_MailL8 (call : CallF H) (f : Nat) (n : Nat) : Value → Value → Value → Value → Value → Value → St H → R H :=
  Nat.rec (fun _ _ _ _ _ _ _ => none) (fun _ r8 => fun t0 t1 t2 t6 t7 t8 σ =>
  bindV (abin .leq t8 t1) fun t13 =>
  ifV t13 (
  bindR (call n_slices_insertionSortCmpFunc_api_Mail [t0, t7, t8, t2] σ) fun t18 σ =>
  bindV (abin .add t8 t6) fun t22 =>
  r8 t0 t1 t2 t6 t8 t22 σ) (
  slices_stableCmpFunc_api_MailJ7 call f t0 t1 t2 t6 t7 σ)) n
def slices_stableCmpFunc_api_MailJ9 (call : CallF H) (f : Nat) (t0 t1 t2 t6 : Value) (σ : St H) : R H :=
  slices_stableCmpFunc_api_MailL8 call f f t0 t1 t2 t6 (I 0) t6 σ
def slices_stableCmpFunc_api_MailJ10 (call : CallF H) (f : Nat) (t0 t1 t2 : Value) (σ : St H) : R H :=
  slices_stableCmpFunc_api_MailJ9 call f t0 t1 t2 (I 20) σ
def slices_stableCmpFunc_api_Mail (call : CallF H) (f : Nat) (a0 a1 a2 : Value) (σ : St H) : R H := slices_stableCmpFunc_api_MailJ10 call f a0 a1 a2 σ
theorem slices_stableCmpFunc_api_MailEq (call : CallF H) (f : Nat) (a0 a1 a2 : Value) (σ : St H) : kbody call f (codeOf P n_slices_stableCmpFunc_api_Mail) [a0, a1, a2] σ = slices_stableCmpFunc_api_Mail call f a0 a1 a2 σ :=
  kbody_of (rs := slices_stableCmpFunc_api_MailR) (by kernel_rfl) (by kernel_rfl) (by kernel_rfl) (seq_eq (by kernel_rfl) (seq_eq (by kernel_rfl) (seq_eq (by kernel_rfl) (seq_eq (by kernel_rfl) (block_eq (by kernel_rfl) (loop_eq (fun n e σ => slices_stableCmpFunc_api_MailL1 call f n (e 0) (e 1) (e 2) (e 6) σ) (by kernel_rfl) (by kernel_rfl) (fun n1 => (tr (seq_eq (by kernel_rfl) (block_eq (by kernel_rfl) (seq_eq (by kernel_rfl) (seq_eq (by kernel_rfl) (leaf (B := fun e σ => slices_stableCmpFunc_api_MailJ3 call f (slices_stableCmpFunc_api_MailL1 call f n1) (e 0) (e 1) (e 2) (e 6) (e 7) σ) (by kernel_rfl))
  (block_eq (by kernel_rfl) (loop_eq (fun n e σ => slices_stableCmpFunc_api_MailL4 call f (slices_stableCmpFunc_api_MailL1 call f n1) n (e 0) (e 1) (e 2) (e 6) (e 7) (e 8) σ) (by kernel_rfl) (by kernel_rfl) (fun n4 => (leaf (by kernel_rfl))))))
  (leaf (B := fun e σ => slices_stableCmpFunc_api_MailJ5 call f (slices_stableCmpFunc_api_MailL1 call f n1) (e 0) (e 1) (e 2) (e 6) σ) (by kernel_rfl))))
  (leaf (B := fun e σ => slices_stableCmpFunc_api_MailJ6 call f (slices_stableCmpFunc_api_MailL1 call f n1) (e 0) (e 1) (e 2) (e 6) σ) (by kernel_rfl))) (by kernel_rfl)))))
  (leaf (B := fun e σ => slices_stableCmpFunc_api_MailJ7 call f (e 0) (e 1) (e 2) (e 6) (e 7) σ) (by kernel_rfl)))
  (block_eq (by kernel_rfl) (loop_eq (fun n e σ => slices_stableCmpFunc_api_MailL8 call f n (e 0) (e 1) (e 2) (e 6) (e 7) (e 8) σ) (by kernel_rfl) (by kernel_rfl) (fun n8 => (leaf (by kernel_rfl))))))
  (leaf (B := fun e σ => slices_stableCmpFunc_api_MailJ9 call f (e 0) (e 1) (e 2) (e 6) σ) (by kernel_rfl)))
  (leaf (B := fun e σ => slices_stableCmpFunc_api_MailJ10 call f (e 0) (e 1) (e 2) σ) (by kernel_rfl))) (by kernel_rfl)

def cmp_isNaN_int64 (call : CallF H) (f : Nat) (a0 : Value) (σ : St H) : R H :=
  bindV (abin .neq a0 a0) fun t5 =>
  some (t5, σ)
theorem cmp_isNaN_int64Eq (call : CallF H) (f : Nat) (a0 : Value) (σ : St H) : kbody call f (codeOf P n_cmp_isNaN_int64) [a0] σ = cmp_isNaN_int64 call f a0 σ := by kernel_rfl

def cmp_isNaN_int (call : CallF H) (f : Nat) (a0 : Value) (σ : St H) : R H :=
  bindV (abin .neq a0 a0) fun t5 =>
  some (t5, σ)
theorem cmp_isNaN_intEq (call : CallF H) (f : Nat) (a0 : Value) (σ : St H) : kbody call f (codeOf P n_cmp_isNaN_int) [a0] σ = cmp_isNaN_int call f a0 σ := by kernel_rfl

def ring_Ring_agent_request_At (call : CallF H) (f : Nat) (a0 a1 : Value) (σ : St H) : R H :=
  bindR (vBox (.agg ⟨[(I 0), (I 0)]⟩) σ) fun t4 σ =>
  bindR (vBox (.agg ⟨[(I 0), (I 0)]⟩) σ) fun t6 σ =>
  bindV (abin .lss a1 (I 0)) fun t8 =>
  bindV (bif kyes t8 false then some a1 else some undefV) fun t10 =>
  bindV (bif kyes t8 false then some a0 else some undefV) fun t11 =>
  bindR (bif kyes t8 false then call n_ring_Ring_agent_request_Len [t11] σ else some (undefV, σ)) fun t12 σ =>
  bindV (bif kyes t8 false then abin .geq t10 t12 else some undefV) fun t13 =>
  bindV (vPick t8 tt t13) fun t14 =>
  ifV t14 (
  bindV (vLoad true 2 t6 σ) fun t15 =>
  bindS (vStore 2 t4 t15 σ) fun σ =>
  resV [.c t4 true 2, .v ff] σ) (
  bindV (vNil a0) fun t17 =>
  bindV (vFieldAddr 0 t17) fun t18 =>
  bindV (vLoad false 1 t18 σ) fun t19 =>
  bindV (vNil a0) fun t21 =>
  bindV (vFieldAddr 1 t21) fun t22 =>
  bindV (vLoad false 1 t22 σ) fun t23 =>
  bindV (abin .add t23 a1) fun t25 =>
  bindV (vNil a0) fun t27 =>
  bindV (vFieldAddr 0 t27) fun t28 =>
  bindV (vLoad false 1 t28 σ) fun t29 =>
  bindV (vLen .slice t29 σ) fun t30 =>
  bindV (abin .rem t25 t30) fun t31 =>
  bindV (vIndexAddr 2 t19 t31) fun t32 =>
  bindV (vLoad true 2 t32 σ) fun t33 =>
  bindS (vStore 2 t4 t33 σ) fun σ =>
  resV [.c t4 true 2, .v tt] σ)
theorem ring_Ring_agent_request_AtEq (call : CallF H) (f : Nat) (a0 a1 : Value) (σ : St H) : kbody call f (codeOf P n_ring_Ring_agent_request_At) [a0, a1] σ = ring_Ring_agent_request_At call f a0 a1 σ := by kernel_rfl

def ring_Ring_agent_request_Room (call : CallF H) (f : Nat) (a0 : Value) (σ : St H) : R H :=
  bindV (vEq .nilp false a0 nilP) fun t4 =>
  ifV t4 (
  some ((I 0), σ)) (
  bindV (vNil a0) fun t6 =>
  bindV (vFieldAddr 0 t6) fun t7 =>
  bindV (vLoad false 1 t7 σ) fun t8 =>
  bindV (vLen .slice t8 σ) fun t9 =>
  bindV (vNil a0) fun t11 =>
  bindV (vFieldAddr 2 t11) fun t12 =>
  bindV (vLoad false 1 t12 σ) fun t13 =>
  bindV (abin .sub t9 t13) fun t14 =>
  some (t14, σ))
theorem ring_Ring_agent_request_RoomEq (call : CallF H) (f : Nat) (a0 : Value) (σ : St H) : kbody call f (codeOf P n_ring_Ring_agent_request_Room) [a0] σ = ring_Ring_agent_request_Room call f a0 σ := by kernel_rfl

def heap_Heap_int_Len (call : CallF H) (f : Nat) (a0 : Value) (σ : St H) : R H :=
  bindV (vEq .nilp false a0 nilP) fun t4 =>
  ifV t4 (
  some ((I 0), σ)) (
  bindV (vNil a0) fun t6 =>
  bindV (vFieldAddr 1 t6) fun t7 =>
  bindV (vLoad false 1 t7 σ) fun t8 =>
  bindV (vLen .slice t8 σ) fun t9 =>
  some (t9, σ))
theorem heap_Heap_int_LenEq (call : CallF H) (f : Nat) (a0 : Value) (σ : St H) : kbody call f (codeOf P n_heap_Heap_int_Len) [a0] σ = heap_Heap_int_Len call f a0 σ := by kernel_rfl

def heap_Heap_int_swap (call : CallF H) (f : Nat) (a0 a1 a2 : Value) (σ : St H) : R H :=
  bindV (vNil a0) fun t7 =>
  bindV (vFieldAddr 1 t7) fun t8 =>
  bindV (vLoad false 1 t8 σ) fun t9 =>
  bindV (vNil a0) fun t12 =>
  bindV (vFieldAddr 1 t12) fun t13 =>
  bindV (vLoad false 1 t13 σ) fun t14 =>
  bindV (vNil a0) fun t17 =>
  bindV (vFieldAddr 1 t17) fun t18 =>
  bindV (vLoad false 1 t18 σ) fun t19 =>
  bindV (vIndexAddr 4 t19 a2) fun t21 =>
  bindV (vLoad true 4 t21 σ) fun t22 =>
  bindV (vNil a0) fun t24 =>
  bindV (vFieldAddr 1 t24) fun t25 =>
  bindV (vLoad false 1 t25 σ) fun t26 =>
  bindV (vIndexAddr 4 t26 a1) fun t28 =>
  bindV (vLoad true 4 t28 σ) fun t29 =>
  bindV (vIndexAddr 4 t9 a1) fun t30 =>
  bindS (vStore 4 t30 t22 σ) fun σ =>
  bindV (vIndexAddr 4 t14 a2) fun t31 =>
  bindS (vStore 4 t31 t29 σ) fun σ =>
  bindV (vNil a0) fun t33 =>
  bindV (vFieldAddr 2 t33) fun t34 =>
  bindV (vLoad false 1 t34 σ) fun t35 =>
  bindV (vNil a0) fun t37 =>
  bindV (vFieldAddr 1 t37) fun t38 =>
  bindV (vLoad false 1 t38 σ) fun t39 =>
  bindV (vIndexAddr 4 t39 a1) fun t41 =>
  bindV (vFieldAddr 0 t41) fun t42 =>
  bindV (vLoad false 1 t42 σ) fun t43 =>
  bindV (vNil a0) fun t45 =>
  bindV (vFieldAddr 2 t45) fun t46 =>
  bindV (vLoad false 1 t46 σ) fun t47 =>
  bindV (vNil a0) fun t49 =>
  bindV (vFieldAddr 1 t49) fun t50 =>
  bindV (vLoad false 1 t50 σ) fun t51 =>
  bindV (vIndexAddr 4 t51 a2) fun t53 =>
  bindV (vFieldAddr 0 t53) fun t54 =>
  bindV (vLoad false 1 t54 σ) fun t55 =>
  bindR (vMapEntry true (I 0) t35 t43 σ) fun t58 σ =>
  bindV (vExtract 1 t58) fun t59 =>
  bindS (vEntryStore t35 t59 a1 σ) fun σ =>
  bindR (vMapEntry true (I 0) t47 t55 σ) fun t60 σ =>
  bindV (vExtract 1 t60) fun t61 =>
  bindS (vEntryStore t47 t61 a2 σ) fun σ =>
  some (.tuple ⟨[]⟩, σ)
theorem heap_Heap_int_swapEq (call : CallF H) (f : Nat) (a0 a1 a2 : Value) (σ : St H) : kbody call f (codeOf P n_heap_Heap_int_swap) [a0, a1, a2] σ = heap_Heap_int_swap call f a0 a1 a2 σ := by kernel_rfl

abbrev heap_Heap_int_riseR : List ARes := []
def heap_Heap_int_riseL1 (call : CallF H) (f : Nat) (n : Nat) : Value → Value → St H → R H :=
  Nat.rec (fun _ _ _ => none) (fun _ r1 => fun t0 t1 σ =>
  bindV (abin .gtr t1 (I 0)) fun t5 =>
  bindV (bif kyes t5 true then some t0 else some undefV) fun t7 =>
  bindV (bif kyes t5 true then some t1 else some undefV) fun t8 =>
  bindV (bif kyes t5 true then some t1 else some undefV) fun t9 =>
  bindV (bif kyes t5 true then abin .sub t9 (I 1) else some undefV) fun t10 =>
  bindV (bif kyes t5 true then abin .quo t10 (I 2) else some undefV) fun t11 =>
  bindR (bif kyes t5 true then call n_heap_Heap_int_less [t7, t8, t11] σ else some (undefV, σ)) fun t12 σ =>
  bindV (vPick t5 t12 ff) fun t13 =>
  ifV t13 (
  bindV (abin .sub t1 (I 1)) fun t17 =>
  bindV (abin .quo t17 (I 2)) fun t18 =>
  bindR (call n_heap_Heap_int_swap [t0, t1, t18] σ) fun t19 σ =>
  bindV (abin .sub t1 (I 1)) fun t21 =>
  bindV (abin .quo t21 (I 2)) fun t22 =>
  r1 t0 t22 σ) (
  some (.tuple ⟨[]⟩, σ))) n
def heap_Heap_int_rise (call : CallF H) (f : Nat) (a0 a1 : Value) (σ : St H) : R H := heap_Heap_int_riseL1 call f f a0 a1 σ
theorem heap_Heap_int_riseEq (call : CallF H) (f : Nat) (a0 a1 : Value) (σ : St H) : kbody call f (codeOf P n_heap_Heap_int_rise) [a0, a1] σ = heap_Heap_int_rise call f a0 a1 σ :=
  kbody_of (rs := heap_Heap_int_riseR) (by kernel_rfl) (by kernel_rfl) (by kernel_rfl) (block_eq (by kernel_rfl) (loop_eq (fun n e σ => heap_Heap_int_riseL1 call f n (e 0) (e 1) σ) (by kernel_rfl) (by kernel_rfl) (fun n1 => (leaf (by kernel_rfl))))) (by kernel_rfl)

abbrev heap_Heap_int_sinkR : List ARes := []
def heap_Heap_int_sinkJ2 (call : CallF H) (f : Nat) (r1 : Value → Value → St H → R H) (t0 t1 t4 : Value) (σ : St H) : R H :=
  bindV (vNil t0) fun t27 =>
  bindV (vFieldAddr 1 t27) fun t28 =>
  bindV (vLoad false 1 t28 σ) fun t29 =>
  bindV (vLen .slice t29 σ) fun t30 =>
  bindV (abin .geq t4 t30) fun t31 =>
  bindV (bif kyes t31 false then some t0 else some undefV) fun t33 =>
  bindV (bif kyes t31 false then some t4 else some undefV) fun t34 =>
  bindV (bif kyes t31 false then some t1 else some undefV) fun t35 =>
  bindR (bif kyes t31 false then call n_heap_Heap_int_less [t33, t34, t35] σ else some (undefV, σ)) fun t36 σ =>
  bindV (bif kyes t31 false then aun .not t36 else some undefV) fun t37 =>
  bindV (vPick t31 tt t37) fun t38 =>
  ifV t38 (
  some (.tuple ⟨[]⟩, σ)) (
  bindR (call n_heap_Heap_int_swap [t0, t1, t4] σ) fun t42 σ =>
  r1 t0 t4 σ)
def heap_Heap_int_sinkL1 (call : CallF H) (f : Nat) (n : Nat) : Value → Value → St H → R H :=
  Nat.rec (fun _ _ _ => none) (fun _ r1 => fun t0 t1 σ =>
  bindV (abin .mul (I 2) t1) fun t6 =>
  bindV (abin .add t6 (I 1)) fun t7 =>
  bindV (abin .add t7 (I 1)) fun t9 =>
  bindV (vNil t0) fun t11 =>
  bindV (vFieldAddr 1 t11) fun t12 =>
  bindV (vLoad false 1 t12 σ) fun t13 =>
  bindV (vLen .slice t13 σ) fun t14 =>
  bindV (abin .lss t9 t14) fun t15 =>
  bindV (bif kyes t15 true then some t0 else some undefV) fun t17 =>
  bindV (bif kyes t15 true then some t7 else some undefV) fun t18 =>
  bindV (bif kyes t15 true then abin .add t18 (I 1) else some undefV) fun t19 =>
  bindV (bif kyes t15 true then some t7 else some undefV) fun t20 =>
  bindR (bif kyes t15 true then call n_heap_Heap_int_less [t17, t19, t20] σ else some (undefV, σ)) fun t21 σ =>
  bindV (vPick t15 t21 ff) fun t22 =>
  ifV t22 (
  bindV (abin .add t7 (I 1)) fun t24 =>
  heap_Heap_int_sinkJ2 call f r1 t0 t1 t24 σ) (
  heap_Heap_int_sinkJ2 call f r1 t0 t1 t7 σ)) n
def heap_Heap_int_sink (call : CallF H) (f : Nat) (a0 a1 : Value) (σ : St H) : R H := heap_Heap_int_sinkL1 call f f a0 a1 σ
theorem heap_Heap_int_sinkEq (call : CallF H) (f : Nat) (a0 a1 : Value) (σ : St H) : kbody call f (codeOf P n_heap_Heap_int_sink) [a0, a1] σ = heap_Heap_int_sink call f a0 a1 σ :=
  kbody_of (rs := heap_Heap_int_sinkR) (by kernel_rfl) (by kernel_rfl) (by kernel_rfl) (block_eq (by kernel_rfl) (loop_eq (fun n e σ => heap_Heap_int_sinkL1 call f n (e 0) (e 1) σ) (by kernel_rfl) (by kernel_rfl) (fun n1 => (leaf (by kernel_rfl))))) (by kernel_rfl)

abbrev slices_pdqsortOrdered_intR : List ARes := []
def slices_pdqsortOrdered_intJ2 (call : CallF H) (f : Nat) (r1 : Value → Value → Value → Value → Value → Value → St H → R H) (t0 t1 t2 t3 t8 t9 t10 t11 : Value) (σ : St H) : R H :=
  bindV (abin .gtr t1 (I 0)) fun t74 =>
  bindV (bif kyes t74 true then some t0 else some undefV) fun t76 =>
  bindV (bif kyes t74 true then some t1 else some undefV) fun t77 =>
  bindV (bif kyes t74 true then abin .sub t77 (I 1) else some undefV) fun t78 =>
  bindV (bif kyes t74 true then vIndexAddr 1 t76 t78 else some undefV) fun t79 =>
  bindV (bif kyes t74 true then vLoad false 1 t79 σ else some undefV) fun t80 =>
  bindV (bif kyes t74 true then some t0 else some undefV) fun t81 =>
  bindV (bif kyes t74 true then some t11 else some undefV) fun t82 =>
  bindV (bif kyes t74 true then vIndexAddr 1 t81 t82 else some undefV) fun t83 =>
  bindV (bif kyes t74 true then vLoad false 1 t83 σ else some undefV) fun t84 =>
  bindR (bif kyes t74 true then call n_cmp_Less_int [t80, t84] σ else some (undefV, σ)) fun t85 σ =>
  bindV (bif kyes t74 true then aun .not t85 else some undefV) fun t86 =>
  bindV (vPick t74 t86 ff) fun t87 =>
  ifV t87 (
  bindR (call n_slices_partitionEqualOrdered_int [t0, t1, t2, t11] σ) fun t92 σ =>
  r1 t0 t92 t2 t3 t8 t9 σ) (
  bindR (call n_slices_partitionOrdered_int [t0, t1, t2, t11] σ) fun t99 σ =>
  bindV (vExtract 0 t99) fun t100 =>
  bindV (vExtract 1 t99) fun t101 =>
  bindV (abin .sub t100 t1) fun t105 =>
  bindV (abin .sub t2 t100) fun t108 =>
  bindV (abin .quo t10 (I 8)) fun t110 =>
  bindV (abin .lss t105 t108) fun t113 =>
  ifV t113 (
  bindV (abin .geq t105 t110) fun t116 =>
  bindR (call n_slices_pdqsortOrdered_int [t0, t1, t100, t3] σ) fun t121 σ =>
  bindV (abin .add t100 (I 1)) fun t123 =>
  r1 t0 t123 t2 t3 t116 t101 σ) (
  bindV (abin .geq t108 t110) fun t126 =>
  bindV (abin .add t100 (I 1)) fun t129 =>
  bindR (call n_slices_pdqsortOrdered_int [t0, t129, t2, t3] σ) fun t132 σ =>
  r1 t0 t1 t100 t3 t126 t101 σ))
def slices_pdqsortOrdered_intJ3 (call : CallF H) (f : Nat) (r1 : Value → Value → Value → Value → Value → Value → St H → R H) (t0 t1 t2 t3 t8 t9 t10 t11 t12 : Value) (σ : St H) : R H :=
  bindV (bif kyes t8 true then some t9 else some undefV) fun t63 =>
  bindV (vPick t8 t63 ff) fun t64 =>
  bindV (bif kyes t64 true then some t12 else some undefV) fun t66 =>
  bindV (bif kyes t64 true then abin .eql t66 (I 1) else some undefV) fun t67 =>
  bindV (vPick t64 t67 ff) fun t68 =>
  ifV t68 (
  bindR (call n_slices_partialInsertionSortOrdered_int [t0, t1, t2] σ) fun t72 σ =>
  ifV t72 (
  some (.tuple ⟨[]⟩, σ)) (
  slices_pdqsortOrdered_intJ2 call f r1 t0 t1 t2 t3 t8 t9 t10 t11 σ)) (
  slices_pdqsortOrdered_intJ2 call f r1 t0 t1 t2 t3 t8 t9 t10 t11 σ)
def slices_pdqsortOrdered_intJ4 (call : CallF H) (f : Nat) (r1 : Value → Value → Value → Value → Value → Value → St H → R H) (t0 t1 t2 t3 t8 t9 t10 : Value) (σ : St H) : R H :=
  bindR (call n_slices_choosePivotOrdered_int [t0, t1, t2] σ) fun t46 σ =>
  bindV (vExtract 0 t46) fun t47 =>
  bindV (vExtract 1 t46) fun t48 =>
  bindV (abin .eql t48 (I 2)) fun t50 =>
  ifV t50 (
  bindR (call n_slices_reverseRangeOrdered_int [t0, t1, t2] σ) fun t54 σ =>
  bindV (abin .sub t2 (I 1)) fun t56 =>
  bindV (abin .sub t47 t1) fun t59 =>
  bindV (abin .sub t56 t59) fun t60 =>
  slices_pdqsortOrdered_intJ3 call f r1 t0 t1 t2 t3 t8 t9 t10 t60 (I 1) σ) (
  slices_pdqsortOrdered_intJ3 call f r1 t0 t1 t2 t3 t8 t9 t10 t47 t48 σ)
def slices_pdqsortOrdered_intL1 (call : CallF H) (f : Nat) (n : Nat) : Value → Value → Value → Value → Value → Value → St H → R H :=
  Nat.rec (fun _ _ _ _ _ _ _ => none) (fun _ r1 => fun t0 t1 t2 t3 t8 t9 σ =>
  bindV (abin .sub t2 t1) fun t21 =>
  bindV (abin .leq t21 (I 12)) fun t23 =>
  ifV t23 (
  bindR (call n_slices_insertionSortOrdered_int [t0, t1, t2] σ) fun t27 σ =>
  some (.tuple ⟨[]⟩, σ)) (
  bindV (abin .eql t3 (I 0)) fun t29 =>
  ifV t29 (
  bindR (call n_slices_heapSortOrdered_int [t0, t1, t2] σ) fun t33 σ =>
  some (.tuple ⟨[]⟩, σ)) (
  bindV (aun .not t8) fun t35 =>
  ifV t35 (
  bindR (call n_slices_breakPatternsOrdered_int [t0, t1, t2] σ) fun t39 σ =>
  bindV (abin .sub t3 (I 1)) fun t41 =>
  slices_pdqsortOrdered_intJ4 call f r1 t0 t1 t2 t41 t8 t9 t21 σ) (
  slices_pdqsortOrdered_intJ4 call f r1 t0 t1 t2 t3 t8 t9 t21 σ)))) n
def slices_pdqsortOrdered_intJ5 (call : CallF H) (f : Nat) (t0 t1 t2 t3 t8 : Value) (σ : St H) : R H :=
  slices_pdqsortOrdered_intL1 call f f t0 t1 t2 t3 t8 tt σ
def slices_pdqsortOrdered_intJ6 (call : CallF H) (f : Nat) (t0 t1 t2 t3 : Value) (σ : St H) : R H :=
  slices_pdqsortOrdered_intJ5 call f t0 t1 t2 t3 tt σ
def slices_pdqsortOrdered_int (call : CallF H) (f : Nat) (a0 a1 a2 a3 : Value) (σ : St H) : R H := slices_pdqsortOrdered_intJ6 call f a0 a1 a2 a3 σ
theorem slices_pdqsortOrdered_intEq (call : CallF H) (f : Nat) (a0 a1 a2 a3 : Value) (σ : St H) : kbody call f (codeOf P n_slices_pdqsortOrdered_int) [a0, a1, a2, a3] σ = slices_pdqsortOrdered_int call f a0 a1 a2 a3 σ :=
  kbody_of (rs := slices_pdqsortOrdered_intR) (by kernel_rfl) (by kernel_rfl) (by kernel_rfl) (seq_eq (by kernel_rfl) (seq_eq (by kernel_rfl) (block_eq (by kernel_rfl) (loop_eq (fun n e σ => slices_pdqsortOrdered_intL1 call f n (e 0) (e 1) (e 2) (e 3) (e 8) (e 9) σ) (by kernel_rfl) (by kernel_rfl) (fun n1 => (leaf (by kernel_rfl)))))
  (leaf (B := fun e σ => slices_pdqsortOrdered_intJ5 call f (e 0) (e 1) (e 2) (e 3) (e 8) σ) (by kernel_rfl)))
  (leaf (B := fun e σ => slices_pdqsortOrdered_intJ6 call f (e 0) (e 1) (e 2) (e 3) σ) (by kernel_rfl))) (by kernel_rfl)

def math_bits_Len (call : CallF H) (f : Nat) (a0 : Value) (σ : St H) : R H :=
  ifV ff (
  bindV (vConv .u32 a0) fun t4 =>
  bindR (call n_math_bits_Len32 [t4] σ) fun t5 σ =>
  some (t5, σ)) (
  bindR (call n_math_bits_Len64 [a0] σ) fun t7 σ =>
  some (t7, σ))
theorem math_bits_LenEq (call : CallF H) (f : Nat) (a0 : Value) (σ : St H) : kbody call f (codeOf P n_math_bits_Len) [a0] σ = math_bits_Len call f a0 σ := by kernel_rfl

def box_Box_api_Mail_way (call : CallF H) (f : Nat) (a0 : Value) (σ : St H) : R H :=
  bindV (vEq .nilp false a0 nilP) fun t4 =>
  ifV t4 (
  some ((.chan none), σ)) (
  bindV (vNil a0) fun t6 =>
  bindV (vFieldAddr 0 t6) fun t7 =>
  bindV (vLoad false 1 t7 σ) fun t8 =>
  some (t8, σ))
theorem box_Box_api_Mail_wayEq (call : CallF H) (f : Nat) (a0 : Value) (σ : St H) : kbody call f (codeOf P n_box_Box_api_Mail_way) [a0] σ = box_Box_api_Mail_way call f a0 σ := by kernel_rfl

def law18x_begun (call : CallF H) (f : Nat) (σ : St H) : R H :=
  bindV (vBuild [(I 0), (I 0), (I 0), (I 0), (.slice none 0 0)] [(0, 1, (I 1))]) fun t11 =>
  bindR (call n_admit_New [t11] σ) fun t12 σ =>
  bindV (vEq .nilp false t12 nilP) fun t14 =>
  bindV (bif kyes t14 false then vBuild [(I 0), (I 0), (I 0), (I 0), (.slice none 0 0)] [] else some undefV) fun t16 =>
  bindR (bif kyes t14 false then call n_admit_New [t16] σ else some (undefV, σ)) fun t17 σ =>
  bindV (bif kyes t14 false then vEq .nilp true t17 nilP else some undefV) fun t18 =>
  bindV (vPick t14 tt t18) fun t19 =>
  ifV t19 (
  some (ff, σ)) (
  bindV (vBuild [(I 0), (I 0), (I 0), (.slice none 0 0)] [(0, 1, (I 3)), (1, 1, (I 5)), (2, 1, (I 6))]) fun t22 =>
  bindR (call n_admit_Admit_Add [t12, t22] σ) fun t23 σ =>
  bindV (vExtract 0 t23) fun t24 =>
  bindV (vExtract 1 t23) fun t25 =>
  bindV (vBuild [(I 0), (I 0), (I 0), (.slice none 0 0)] [(0, 1, (I 4)), (1, 1, (I 6)), (2, 1, (I 6))]) fun t28 =>
  bindR (call n_admit_Admit_Add [t12, t28] σ) fun t29 σ =>
  bindV (vExtract 0 t29) fun t30 =>
  bindV (vExtract 1 t29) fun t31 =>
  bindV (vBuild [(I 0), (I 0), (I 0), (.slice none 0 0)] []) fun t34 =>
  bindR (call n_admit_Admit_Add [t12, t34] σ) fun t35 σ =>
  bindV (vExtract 0 t35) fun t36 =>
  bindV (vExtract 1 t35) fun t37 =>
  bindR (call n_admit_Admit_Plan [t12, (I 1)] σ) fun t40 σ =>
  bindV (vExtract 0 t40) fun t41 =>
  bindV (vExtract 1 t40) fun t42 =>
  bindR (vBox (.agg ⟨[(I 0), (.slice none 0 0)]⟩) σ) fun t8 σ =>
  bindS (vStore 2 t8 t41 σ) fun σ =>
  bindR (call n_admit_Admit_Loads [t12, (I 0)] σ) fun t44 σ =>
  bindR (call n_law14x_Begun [] σ) fun t45 σ =>
  bindV (bif kyes t45 true then some t24 else some undefV) fun t47 =>
  bindV (bif kyes t45 true then abin .eql t47 (I 1) else some undefV) fun t48 =>
  bindV (vPick t45 t48 ff) fun t49 =>
  bindV (bif kyes t49 true then some t25 else some undefV) fun t51 =>
  bindV (bif kyes t49 true then abin .eql t51 (I 0) else some undefV) fun t52 =>
  bindV (vPick t49 t52 ff) fun t53 =>
  bindV (bif kyes t53 true then some t31 else some undefV) fun t55 =>
  bindV (bif kyes t53 true then abin .eql t55 (I 7) else some undefV) fun t56 =>
  bindV (vPick t53 t56 ff) fun t57 =>
  bindV (bif kyes t57 true then some t37 else some undefV) fun t59 =>
  bindV (bif kyes t57 true then abin .eql t59 (I 1) else some undefV) fun t60 =>
  bindV (vPick t57 t60 ff) fun t61 =>
  bindV (bif kyes t61 true then some t42 else some undefV) fun t63 =>
  bindV (vPick t61 t63 ff) fun t64 =>
  bindV (bif kyes t64 true then vFieldAddr 0 t8 else some undefV) fun t66 =>
  bindV (bif kyes t64 true then vLoad false 1 t66 σ else some undefV) fun t67 =>
  bindV (bif kyes t64 true then abin .eql t67 (I 1) else some undefV) fun t68 =>
  bindV (vPick t64 t68 ff) fun t69 =>
  bindV (bif kyes t69 true then some t44 else some undefV) fun t71 =>
  bindV (bif kyes t69 true then vLen .slice t71 σ else some undefV) fun t72 =>
  bindV (bif kyes t69 true then abin .eql t72 (I 1) else some undefV) fun t73 =>
  bindV (vPick t69 t73 ff) fun t74 =>
  bindV (bif kyes t74 true then some t44 else some undefV) fun t76 =>
  bindV (bif kyes t74 true then vIndexAddr 3 t76 (I 0) else some undefV) fun t77 =>
  bindV (bif kyes t74 true then vFieldAddr 0 t77 else some undefV) fun t78 =>
  bindV (bif kyes t74 true then vLoad false 1 t78 σ else some undefV) fun t79 =>
  bindV (bif kyes t74 true then abin .eql t79 (I 3) else some undefV) fun t80 =>
  bindV (vPick t74 t80 ff) fun t81 =>
  bindV (bif kyes t81 true then some t12 else some undefV) fun t83 =>
  bindR (bif kyes t81 true then call n_admit_Admit_Ids [t83] σ else some (undefV, σ)) fun t84 σ =>
  bindV (bif kyes t81 true then vLen .slice t84 σ else some undefV) fun t85 =>
  bindV (bif kyes t81 true then abin .eql t85 (I 1) else some undefV) fun t86 =>
  bindV (vPick t81 t86 ff) fun t87 =>
  bindV (bif kyes t87 true then some t12 else some undefV) fun t89 =>
  bindR (bif kyes t87 true then call n_admit_Admit_Drop [t89, (I 1)] σ else some (undefV, σ)) fun t90 σ =>
  bindV (bif kyes t87 true then abin .eql t90 (I 0) else some undefV) fun t91 =>
  bindV (vPick t87 t91 ff) fun t92 =>
  bindV (bif kyes t92 true then some t12 else some undefV) fun t94 =>
  bindR (bif kyes t92 true then call n_admit_Admit_Drop [t94, (I 1)] σ else some (undefV, σ)) fun t95 σ =>
  bindV (bif kyes t92 true then abin .eql t95 (I 4) else some undefV) fun t96 =>
  bindV (vPick t92 t96 ff) fun t97 =>
  bindV (bif kyes t97 true then some t12 else some undefV) fun t99 =>
  bindR (bif kyes t97 true then call n_admit_Admit_Loads [t99, (I 0)] σ else some (undefV, σ)) fun t100 σ =>
  bindV (bif kyes t97 true then vLen .slice t100 σ else some undefV) fun t101 =>
  bindV (bif kyes t97 true then abin .eql t101 (I 0) else some undefV) fun t102 =>
  bindV (vPick t97 t102 ff) fun t103 =>
  bindV (bif kyes t103 true then some t12 else some undefV) fun t105 =>
  bindR (bif kyes t103 true then call n_admit_Admit_Wait [t105, (I 1), (I 0)] σ else some (undefV, σ)) fun t106 σ =>
  bindV (bif kyes t103 true then abin .eql t106 (I 0) else some undefV) fun t107 =>
  bindV (vPick t103 t107 ff) fun t108 =>
  some (t108, σ))
theorem law18x_begunEq (call : CallF H) (f : Nat) (σ : St H) : kbody call f (codeOf P n_law18x_begun) [] σ = law18x_begun call f σ := by kernel_rfl

def law2x_begun (call : CallF H) (f : Nat) (σ : St H) : R H :=
  bindR (call n_heap_New_string [(I 2)] σ) fun t24 σ =>
  bindR (call n_ring_New_int [(I 2)] σ) fun t25 σ =>
  bindR (call n_seat_New_string [(I 3)] σ) fun t26 σ =>
  bindR (call n_box_New_int [(I 1)] σ) fun t27 σ =>
  bindR (call n_line_New_int [(I 3)] σ) fun t28 σ =>
  bindV (vEq .nilp false t24 nilP) fun t30 =>
  bindV (bif kyes t30 false then some t25 else some undefV) fun t32 =>
  bindV (bif kyes t30 false then vEq .nilp false t32 nilP else some undefV) fun t33 =>
  bindV (vPick t30 tt t33) fun t34 =>
  bindV (bif kyes t34 false then some t26 else some undefV) fun t36 =>
  bindV (bif kyes t34 false then vEq .nilp false t36 nilP else some undefV) fun t37 =>
  bindV (vPick t34 tt t37) fun t38 =>
  bindV (bif kyes t38 false then some t27 else some undefV) fun t40 =>
  bindV (bif kyes t38 false then vEq .nilp false t40 nilP else some undefV) fun t41 =>
  bindV (vPick t38 tt t41) fun t42 =>
  bindV (bif kyes t42 false then some t28 else some undefV) fun t44 =>
  bindV (bif kyes t42 false then vEq .nilp false t44 nilP else some undefV) fun t45 =>
  bindV (vPick t42 tt t45) fun t46 =>
  ifV t46 (
  some (ff, σ)) (
  bindR (call n_heap_Heap_string_Put [t24, (.string ⟨⟨[120]⟩⟩), (I 5), (I 1)] σ) fun t48 σ =>
  bindR (call n_heap_Heap_string_Put [t24, (.string ⟨⟨[121]⟩⟩), (I 3), (I 9)] σ) fun t50 σ =>
  bindR (call n_heap_Heap_string_Put [t24, (.string ⟨⟨[122]⟩⟩), (I 1), (I 1)] σ) fun t52 σ =>
  bindR (call n_heap_Heap_string_First [t24] σ) fun t55 σ =>
  bindV (vExtract 0 t55) fun t56 =>
  bindV (vExtract 1 t55) fun t57 =>
  bindR (call n_ring_Ring_int_Put [t25, (I 4)] σ) fun t59 σ =>
  bindR (call n_ring_Ring_int_Put [t25, (I 5)] σ) fun t61 σ =>
  bindR (call n_ring_Ring_int_Take [t25] σ) fun t64 σ =>
  bindV (vExtract 0 t64) fun t65 =>
  bindV (vExtract 1 t64) fun t66 =>
  bindR (call n_seat_Seats_string_Add [t26, (.string ⟨⟨[97]⟩⟩)] σ) fun t68 σ =>
  bindR (call n_seat_Seats_string_Add [t26, (.string ⟨⟨[98]⟩⟩)] σ) fun t70 σ =>
  bindR (call n_seat_Seats_string_Drop [t26, (I 1)] σ) fun t72 σ =>
  bindR (call n_box_Box_int_Put [t27, (I 7)] σ) fun t74 σ =>
  bindR (call n_box_Box_int_Put [t27, (I 8)] σ) fun t76 σ =>
  bindR (call n_box_New_int [(I 1)] σ) fun t78 σ =>
  bindR (call n_box_Either_int [t78, t27] σ) fun t80 σ =>
  bindV (vExtract 0 t80) fun t81 =>
  bindV (vExtract 1 t80) fun t82 =>
  bindR (call n_line_Line_int_Put [t28, (I 9), (I 4)] σ) fun t84 σ =>
  bindR (call n_line_Line_int_Due [t28, (I 4)] σ) fun t86 σ =>
  bindR (call n_line_Line_int_Due [t28, (I 9)] σ) fun t88 σ =>
  bindR (call n_law1x_Begun [] σ) fun t89 σ =>
  bindV (bif kyes t89 true then some t48 else some undefV) fun t91 =>
  bindV (vPick t89 t91 ff) fun t92 =>
  bindV (bif kyes t92 true then some t50 else some undefV) fun t94 =>
  bindV (vPick t92 t94 ff) fun t95 =>
  bindV (bif kyes t95 true then some t52 else some undefV) fun t97 =>
  bindV (bif kyes t95 true then aun .not t97 else some undefV) fun t98 =>
  bindV (vPick t95 t98 ff) fun t99 =>
  bindV (bif kyes t99 true then some t57 else some undefV) fun t101 =>
  bindV (vPick t99 t101 ff) fun t102 =>
  bindV (bif kyes t102 true then some t56 else some undefV) fun t104 =>
  bindV (bif kyes t102 true then abin .eql t104 (.string ⟨⟨[121]⟩⟩) else some undefV) fun t105 =>
  bindV (vPick t102 t105 ff) fun t106 =>
  bindV (bif kyes t106 true then some t59 else some undefV) fun t108 =>
  bindV (vPick t106 t108 ff) fun t109 =>
  bindV (bif kyes t109 true then some t61 else some undefV) fun t111 =>
  bindV (vPick t109 t111 ff) fun t112 =>
  bindV (bif kyes t112 true then some t66 else some undefV) fun t114 =>
  bindV (vPick t112 t114 ff) fun t115 =>
  bindV (bif kyes t115 true then some t65 else some undefV) fun t117 =>
  bindV (bif kyes t115 true then abin .eql t117 (I 4) else some undefV) fun t118 =>
  bindV (vPick t115 t118 ff) fun t119 =>
  bindV (bif kyes t119 true then some t68 else some undefV) fun t121 =>
  bindV (bif kyes t119 true then abin .eql t121 (I 1) else some undefV) fun t122 =>
  bindV (vPick t119 t122 ff) fun t123 =>
  bindV (bif kyes t123 true then some t70 else some undefV) fun t125 =>
  bindV (bif kyes t123 true then abin .eql t125 (I 2) else some undefV) fun t126 =>
  bindV (vPick t123 t126 ff) fun t127 =>
  bindV (bif kyes t127 true then some t26 else some undefV) fun t129 =>
  bindR (bif kyes t127 true then call n_seat_Seats_string_Add [t129, (.string ⟨⟨[99]⟩⟩)] σ else some (undefV, σ)) fun t130 σ =>
  bindV (bif kyes t127 true then abin .eql t130 (I 1) else some undefV) fun t131 =>
  bindV (vPick t127 t131 ff) fun t132 =>
  bindV (bif kyes t132 true then some t74 else some undefV) fun t134 =>
  bindV (vPick t132 t134 ff) fun t135 =>
  bindV (bif kyes t135 true then some t76 else some undefV) fun t137 =>
  bindV (bif kyes t135 true then aun .not t137 else some undefV) fun t138 =>
  bindV (vPick t135 t138 ff) fun t139 =>
  bindV (bif kyes t139 true then some t81 else some undefV) fun t141 =>
  bindV (bif kyes t139 true then abin .eql t141 (I 7) else some undefV) fun t142 =>
  bindV (vPick t139 t142 ff) fun t143 =>
  bindV (bif kyes t143 true then some t82 else some undefV) fun t145 =>
  bindV (bif kyes t143 true then abin .eql t145 (I 2) else some undefV) fun t146 =>
  bindV (vPick t143 t146 ff) fun t147 =>
  bindV (bif kyes t147 true then some t84 else some undefV) fun t149 =>
  bindV (vPick t147 t149 ff) fun t150 =>
  bindV (bif kyes t150 true then some t86 else some undefV) fun t152 =>
  bindV (bif kyes t150 true then vLen .slice t152 σ else some undefV) fun t153 =>
  bindV (bif kyes t150 true then abin .eql t153 (I 1) else some undefV) fun t154 =>
  bindV (vPick t150 t154 ff) fun t155 =>
  bindV (bif kyes t155 true then some t86 else some undefV) fun t157 =>
  bindV (bif kyes t155 true then vIndexAddr 1 t157 (I 0) else some undefV) fun t158 =>
  bindV (bif kyes t155 true then vLoad false 1 t158 σ else some undefV) fun t159 =>
  bindV (bif kyes t155 true then abin .eql t159 (I 9) else some undefV) fun t160 =>
  bindV (vPick t155 t160 ff) fun t161 =>
  bindV (bif kyes t161 true then some t88 else some undefV) fun t163 =>
  bindV (bif kyes t161 true then vLen .slice t163 σ else some undefV) fun t164 =>
  bindV (bif kyes t161 true then abin .eql t164 (I 0) else some undefV) fun t165 =>
  bindV (vPick t161 t165 ff) fun t166 =>
  bindV (bif kyes t166 true then some t24 else some undefV) fun t168 =>
  bindR (bif kyes t166 true then call n_heap_Heap_string_Len [t168] σ else some (undefV, σ)) fun t169 σ =>
  bindV (bif kyes t166 true then abin .eql t169 (I 2) else some undefV) fun t170 =>
  bindV (vPick t166 t170 ff) fun t171 =>
  bindV (bif kyes t171 true then some t25 else some undefV) fun t173 =>
  bindR (bif kyes t171 true then call n_ring_Ring_int_Room [t173] σ else some (undefV, σ)) fun t174 σ =>
  bindV (bif kyes t171 true then abin .eql t174 (I 1) else some undefV) fun t175 =>
  bindV (vPick t171 t175 ff) fun t176 =>
  bindV (bif kyes t176 true then some t27 else some undefV) fun t178 =>
  bindR (bif kyes t176 true then call n_box_Box_int_Len [t178] σ else some (undefV, σ)) fun t179 σ =>
  bindV (bif kyes t176 true then abin .eql t179 (I 0) else some undefV) fun t180 =>
  bindV (vPick t176 t180 ff) fun t181 =>
  some (t181, σ))
theorem law2x_begunEq (call : CallF H) (f : Nat) (σ : St H) : kbody call f (codeOf P n_law2x_begun) [] σ = law2x_begun call f σ := by kernel_rfl

def load_may_1 (call : CallF H) (f : Nat) (a0 a1 : Value) (σ : St H) : R H :=
  bindR (vBox a0 σ) fun t2 σ =>
  bindV (vLoad true 5 a1 σ) fun t4 =>
  bindV (vLoad true 4 t2 σ) fun t5 =>
  bindR (call n_rule_Task [t4, t5] σ) fun t6 σ =>
  bindV (aun .not t6) fun t7 =>
  some (t7, σ)
theorem load_may_1Eq (call : CallF H) (f : Nat) (a0 a1 : Value) (σ : St H) : kbody call f (codeOf P n_load_may_1) [a0, a1] σ = load_may_1 call f a0 a1 σ := by kernel_rfl

def slices_ContainsFunc__api_Piece_api_Piece (call : CallF H) (f : Nat) (a0 a1 : Value) (σ : St H) : R H :=
  bindR (call n_slices_IndexFunc__api_Piece_api_Piece [a0, a1] σ) fun t7 σ =>
  bindV (abin .geq t7 (I 0)) fun t8 =>
  some (t8, σ)
theorem slices_ContainsFunc__api_Piece_api_PieceEq (call : CallF H) (f : Nat) (a0 a1 : Value) (σ : St H) : kbody call f (codeOf P n_slices_ContainsFunc__api_Piece_api_Piece) [a0, a1] σ = slices_ContainsFunc__api_Piece_api_Piece call f a0 a1 σ := by kernel_rfl

def load_placed_1 (call : CallF H) (f : Nat) (a0 a1 : Value) (σ : St H) : R H :=
  bindR (vBox a0 σ) fun t2 σ =>
  bindV (vFieldAddr 0 t2) fun t4 =>
  bindV (vLoad false 1 t4 σ) fun t5 =>
  bindV (abin .lss t5 (I 0)) fun t6 =>
  bindV (bif kyes t6 false then vFieldAddr 0 t2 else some undefV) fun t8 =>
  bindV (bif kyes t6 false then vLoad false 1 t8 σ else some undefV) fun t9 =>
  bindV (bif kyes t6 false then vFieldAddr 0 a1 else some undefV) fun t10 =>
  bindV (bif kyes t6 false then vLoad false 1 t10 σ else some undefV) fun t11 =>
  bindV (bif kyes t6 false then abin .geq t9 t11 else some undefV) fun t12 =>
  bindV (vPick t6 tt t12) fun t13 =>
  some (t13, σ)
theorem load_placed_1Eq (call : CallF H) (f : Nat) (a0 a1 : Value) (σ : St H) : kbody call f (codeOf P n_load_placed_1) [a0, a1] σ = load_placed_1 call f a0 a1 σ := by kernel_rfl

def busy_may (call : CallF H) (f : Nat) (a0 : Value) (σ : St H) : R H :=
  bindV (vLen .slice a0 σ) fun t4 =>
  bindV (abin .leq t4 (I 24)) fun t5 =>
  bindV (bif kyes t5 true then some a0 else some undefV) fun t7 =>
  bindR (bif kyes t5 true then call n_slices_ContainsFunc__api_Load_api_Load [t7, (.func (.func n_busy_may_1) #[] #[])] σ else some (undefV, σ)) fun t8 σ =>
  bindV (bif kyes t5 true then aun .not t8 else some undefV) fun t9 =>
  bindV (vPick t5 t9 ff) fun t10 =>
  some (t10, σ)
theorem busy_mayEq (call : CallF H) (f : Nat) (a0 : Value) (σ : St H) : kbody call f (codeOf P n_busy_may) [a0] σ = busy_may call f a0 σ := by kernel_rfl

abbrev busy_AskedR : List ARes := [.tmp 4]
def busy_AskedJ1 (call : CallF H) (f : Nat) (t5 : Value) (σ : St H) : R H :=
  some (t5, σ)
def busy_AskedL2 (call : CallF H) (f : Nat) (n : Nat) : Value → Value → Value → Value → Value → St H → R H :=
  Nat.rec (fun _ _ _ _ _ _ => none) (fun _ r2 => fun t1 t5 t19 t20 t21 σ =>
  bindV (abin .lss t21 t20) fun t22 =>
  ifV t22 (
  bindV (vIndexAddr 3 t19 t21) fun t23 =>
  bindV (vLoad true 3 t23 σ) fun t24 =>
  bindR (vBox (.agg ⟨[(I 0), (I 0), (I 0)]⟩) σ) fun t7 σ =>
  bindS (vStore 3 t7 t24 σ) fun σ =>
  bindV (vFieldAddr 0 t7) fun t26 =>
  bindV (vLoad false 1 t26 σ) fun t27 =>
  bindV (vFieldAddr 2 t7) fun t29 =>
  bindV (vLoad false 1 t29 σ) fun t30 =>
  bindR (call n_tick_Up [t1, t30] σ) fun t31 σ =>
  kif (kand (rck (vLoad false 1 t26 σ) t27) true) (
  bindV (abin .mul t27 t31) fun t32 =>
  bindV (abin .add t5 t32) fun t33 =>
  bindV (abin .add t21 (I 1)) fun t34 =>
  r2 t1 t33 t19 t20 t34 σ)) (
  busy_AskedJ1 call f t5 σ)) n
def busy_AskedJ3 (call : CallF H) (f : Nat) (t0 t1 t5 : Value) (σ : St H) : R H :=
  bindV (vLen .slice t0 σ) fun t20 =>
  busy_AskedL2 call f f t1 t5 t0 t20 (I 0) σ
def busy_AskedJ4 (call : CallF H) (f : Nat) (t0 t1 : Value) (σ : St H) : R H :=
  busy_AskedJ3 call f t0 t1 (I 0) σ
def busy_AskedJ5 (call : CallF H) (f : Nat) (t0 t1 : Value) (σ : St H) : R H :=
  bindR (call n_busy_may [t0] σ) fun t9 σ =>
  bindV (aun .not t9) fun t10 =>
  bindV (bif kyes t10 false then some t1 else some undefV) fun t12 =>
  bindV (bif kyes t10 false then abin .lss t12 (I 0) else some undefV) fun t13 =>
  bindV (vPick t10 tt t13) fun t14 =>
  bindV (bif kyes t14 false then some t1 else some undefV) fun t16 =>
  bindV (bif kyes t14 false then abin .gtr t16 (I 20000) else some undefV) fun t17 =>
  bindV (vPick t14 tt t17) fun t18 =>
  ifV t18 (
  some ((I 0), σ)) (
  busy_AskedJ4 call f t0 t1 σ)
def busy_AskedJ6 (call : CallF H) (f : Nat) (t0 t1 : Value) (σ : St H) : R H :=
  busy_AskedJ5 call f t0 t1 σ
def busy_Asked (call : CallF H) (f : Nat) (a0 a1 : Value) (σ : St H) : R H := busy_AskedJ6 call f a0 a1 σ
theorem busy_AskedEq (call : CallF H) (f : Nat) (a0 a1 : Value) (σ : St H) : kbody call f (codeOf P n_busy_Asked) [a0, a1] σ = busy_Asked call f a0 a1 σ :=
  kbody_of (rs := busy_AskedR) (by kernel_rfl) (by kernel_rfl) (by kernel_rfl) (seq_eq (by kernel_rfl) (seq_eq (by kernel_rfl) (seq_eq (by kernel_rfl) (seq_eq (by kernel_rfl) (leaf (B := fun e σ => busy_AskedJ1 call f (e 5) σ) (by kernel_rfl))
  (seq_eq (by kernel_rfl) (block_eq (by kernel_rfl) (loop_eq (fun n e σ => busy_AskedL2 call f n (e 1) (e 5) (e 19) (e 20) (e 21) σ) (by kernel_rfl) (by kernel_rfl) (fun n2 => (leaf (by kernel_rfl)))))
  (leaf (B := fun e σ => busy_AskedJ3 call f (e 0) (e 1) (e 5) σ) (by kernel_rfl))))
  (leaf (B := fun e σ => busy_AskedJ4 call f (e 0) (e 1) σ) (by kernel_rfl)))
  (leaf (B := fun e σ => busy_AskedJ5 call f (e 0) (e 1) σ) (by kernel_rfl)))
  (leaf (B := fun e σ => busy_AskedJ6 call f (e 0) (e 1) σ) (by kernel_rfl))) (by kernel_rfl)

abbrev demand_BoundR : List ARes := [.tmp 4]
def demand_BoundJ1 (call : CallF H) (f : Nat) (t6 : Value) (σ : St H) : R H :=
  some (t6, σ)
def demand_BoundL2 (call : CallF H) (f : Nat) (n : Nat) : Value → Value → Value → Value → Value → St H → R H :=
  Nat.rec (fun _ _ _ _ _ _ => none) (fun _ r2 => fun t1 t6 t25 t26 t27 σ =>
  bindV (abin .lss t27 t26) fun t28 =>
  ifV t28 (
  bindV (vIndexAddr 3 t25 t27) fun t29 =>
  bindV (vLoad true 3 t29 σ) fun t30 =>
  bindR (vBox (.agg ⟨[(I 0), (I 0), (I 0)]⟩) σ) fun t8 σ =>
  bindS (vStore 3 t8 t30 σ) fun σ =>
  bindV (vLoad true 3 t8 σ) fun t32 =>
  bindR (call n_demand_due [t32, t1] σ) fun t34 σ =>
  bindV (abin .add t6 t34) fun t35 =>
  bindV (abin .add t27 (I 1)) fun t36 =>
  r2 t1 t35 t25 t26 t36 σ) (
  demand_BoundJ1 call f t6 σ)) n
def demand_BoundJ3 (call : CallF H) (f : Nat) (t0 t1 t6 : Value) (σ : St H) : R H :=
  bindV (vLen .slice t0 σ) fun t26 =>
  demand_BoundL2 call f f t1 t6 t0 t26 (I 0) σ
def demand_BoundJ4 (call : CallF H) (f : Nat) (t0 t1 : Value) (σ : St H) : R H :=
  demand_BoundJ3 call f t0 t1 (I 0) σ
def demand_BoundJ5 (call : CallF H) (f : Nat) (t0 t1 t5 : Value) (σ : St H) : R H :=
  bindV (bif kyes t5 false then some t0 else some undefV) fun t13 =>
  bindV (bif kyes t5 false then vLen .slice t13 σ else some undefV) fun t14 =>
  bindV (bif kyes t5 false then abin .gtr t14 (I 24) else some undefV) fun t15 =>
  bindV (vPick t5 tt t15) fun t16 =>
  bindV (bif kyes t16 false then some t1 else some undefV) fun t18 =>
  bindV (bif kyes t16 false then abin .lss t18 (I 0) else some undefV) fun t19 =>
  bindV (vPick t16 tt t19) fun t20 =>
  bindV (bif kyes t20 false then some t1 else some undefV) fun t22 =>
  bindV (bif kyes t20 false then abin .gtr t22 (I 20000) else some undefV) fun t23 =>
  bindV (vPick t20 tt t23) fun t24 =>
  ifV t24 (
  some ((I 0), σ)) (
  demand_BoundJ4 call f t0 t1 σ)
def demand_BoundJ6 (call : CallF H) (f : Nat) (t0 t1 : Value) (σ : St H) : R H :=
  bindR (call n_slices_ContainsFunc__api_Load_api_Load [t0, (.func (.func n_demand_Bound_1) #[] #[])] σ) fun t10 σ =>
  demand_BoundJ5 call f t0 t1 t10 σ
def demand_BoundJ7 (call : CallF H) (f : Nat) (t0 t1 : Value) (σ : St H) : R H :=
  demand_BoundJ6 call f t0 t1 σ
def demand_Bound (call : CallF H) (f : Nat) (a0 a1 : Value) (σ : St H) : R H := demand_BoundJ7 call f a0 a1 σ
theorem demand_BoundEq (call : CallF H) (f : Nat) (a0 a1 : Value) (σ : St H) : kbody call f (codeOf P n_demand_Bound) [a0, a1] σ = demand_Bound call f a0 a1 σ :=
  kbody_of (rs := demand_BoundR) (by kernel_rfl) (by kernel_rfl) (by kernel_rfl) (seq_eq (by kernel_rfl) (seq_eq (by kernel_rfl) (seq_eq (by kernel_rfl) (seq_eq (by kernel_rfl) (seq_eq (by kernel_rfl) (leaf (B := fun e σ => demand_BoundJ1 call f (e 6) σ) (by kernel_rfl))
  (seq_eq (by kernel_rfl) (block_eq (by kernel_rfl) (loop_eq (fun n e σ => demand_BoundL2 call f n (e 1) (e 6) (e 25) (e 26) (e 27) σ) (by kernel_rfl) (by kernel_rfl) (fun n2 => (leaf (by kernel_rfl)))))
  (leaf (B := fun e σ => demand_BoundJ3 call f (e 0) (e 1) (e 6) σ) (by kernel_rfl))))
  (leaf (B := fun e σ => demand_BoundJ4 call f (e 0) (e 1) σ) (by kernel_rfl)))
  (leaf (B := fun e σ => demand_BoundJ5 call f (e 0) (e 1) (e 5) σ) (by kernel_rfl)))
  (leaf (B := fun e σ => demand_BoundJ6 call f (e 0) (e 1) σ) (by kernel_rfl)))
  (leaf (B := fun e σ => demand_BoundJ7 call f (e 0) (e 1) σ) (by kernel_rfl))) (by kernel_rfl)

def whole_Core_1 (call : CallF H) (f : Nat) (a0 a1 : Value) (σ : St H) : R H :=
  bindV (vLoad true 3 a1 σ) fun t6 =>
  bindR (call n_slices_Clone__api_Load_api_Load [a0] σ) fun t5 σ =>
  kif (kand (rck (vLoad true 3 a1 σ) t6) true) (
  bindR (vBuildSlice 1 [(I 0), (I 0), (I 0)] [(0, 3, t6)] σ) fun t7 σ =>
  bindR (vAppend 3 24 [(I 0), (I 0), (I 0)] false t5 t7 σ) fun t8 σ =>
  bindR (call n_demand_Fits [t8] σ) fun t9 σ =>
  some (t9, σ))
theorem whole_Core_1Eq (call : CallF H) (f : Nat) (a0 a1 : Value) (σ : St H) : kbody call f (codeOf P n_whole_Core_1) [a0, a1] σ = whole_Core_1 call f a0 a1 σ := by kernel_rfl

def slices_Clone__api_Load_api_Load (call : CallF H) (f : Nat) (a0 : Value) (σ : St H) : R H :=
  bindV (vEq .nils false a0 (.slice none 0 0)) fun t4 =>
  ifV t4 (
  some ((.slice none 0 0), σ)) (
  bindR (vBuildSlice 0 [] [] σ) fun t5 σ =>
  bindR (vAppend 3 24 [(I 0), (I 0), (I 0)] false t5 a0 σ) fun t7 σ =>
  some (t7, σ))
theorem slices_Clone__api_Load_api_LoadEq (call : CallF H) (f : Nat) (a0 : Value) (σ : St H) : kbody call f (codeOf P n_slices_Clone__api_Load_api_Load) [a0] σ = slices_Clone__api_Load_api_Load call f a0 σ := by kernel_rfl

def tick_DownJ1 (call : CallF H) (f : Nat) (t5 : Value) (σ : St H) : R H :=
  some (t5, σ)
def tick_Down (call : CallF H) (f : Nat) (a0 a1 : Value) (σ : St H) : R H :=
  bindV (abin .leq a1 (I 0)) fun t7 =>
  ifV t7 (
  some ((I 0), σ)) (
  bindV (abin .quo a0 a1) fun t10 =>
  bindV (abin .rem a0 a1) fun t13 =>
  bindV (abin .lss t13 (I 0)) fun t14 =>
  ifV t14 (
  bindV (abin .sub t10 (I 1)) fun t16 =>
  tick_DownJ1 call f t16 σ) (
  tick_DownJ1 call f t10 σ))
theorem tick_DownEq (call : CallF H) (f : Nat) (a0 a1 : Value) (σ : St H) : kbody call f (codeOf P n_tick_Down) [a0, a1] σ = tick_Down call f a0 a1 σ := by kernel_rfl

abbrev most_FitR : List ARes := [.tmp 8]
def most_FitJ1 (call : CallF H) (f : Nat) (t9 : Value) (σ : St H) : R H :=
  some (t9, σ)
def most_FitL2 (call : CallF H) (f : Nat) (n : Nat) : Value → Value → Value → Value → Value → St H → R H :=
  Nat.rec (fun _ _ _ _ _ _ => none) (fun _ r2 => fun t0 t1 t2 t9 t10 σ =>
  bindV (abin .lss t9 t10) fun t22 =>
  ifV t22 (
  bindV (abin .sub t10 t9) fun t26 =>
  bindV (abin .add t26 (I 1)) fun t27 =>
  bindV (abin .quo t27 (I 2)) fun t28 =>
  bindV (abin .add t9 t28) fun t29 =>
  bindV (vBuild [(I 0), (I 0), (I 0)] [(0, 1, t29), (1, 1, t1), (2, 1, t2)]) fun t34 =>
  bindR (call n_most_with [t0, t34] σ) fun t35 σ =>
  ifV t35 (
  r2 t0 t1 t2 t29 t10 σ) (
  bindV (abin .sub t29 (I 1)) fun t38 =>
  r2 t0 t1 t2 t9 t38 σ)) (
  most_FitJ1 call f t9 σ)) n
def most_FitJ3 (call : CallF H) (f : Nat) (t0 t1 t2 t3 : Value) (σ : St H) : R H :=
  bindV (vMn [t3, t1]) fun t19 =>
  most_FitL2 call f f t0 t1 t2 (I 0) t19 σ
def most_FitJ4 (call : CallF H) (f : Nat) (t0 t1 t2 t3 : Value) (σ : St H) : R H :=
  bindR (call n_most_may [t0, t1, t2] σ) fun t15 σ =>
  bindV (aun .not t15) fun t16 =>
  ifV t16 (
  some ((I 0), σ)) (
  most_FitJ3 call f t0 t1 t2 t3 σ)
def most_FitJ5 (call : CallF H) (f : Nat) (t0 t1 t2 t3 : Value) (σ : St H) : R H :=
  most_FitJ4 call f t0 t1 t2 t3 σ
def most_Fit (call : CallF H) (f : Nat) (a0 a1 a2 a3 : Value) (σ : St H) : R H := most_FitJ5 call f a0 a1 a2 a3 σ
theorem most_FitEq (call : CallF H) (f : Nat) (a0 a1 a2 a3 : Value) (σ : St H) : kbody call f (codeOf P n_most_Fit) [a0, a1, a2, a3] σ = most_Fit call f a0 a1 a2 a3 σ :=
  kbody_of (rs := most_FitR) (by kernel_rfl) (by kernel_rfl) (by kernel_rfl) (seq_eq (by kernel_rfl) (seq_eq (by kernel_rfl) (seq_eq (by kernel_rfl) (seq_eq (by kernel_rfl) (leaf (B := fun e σ => most_FitJ1 call f (e 9) σ) (by kernel_rfl))
  (block_eq (by kernel_rfl) (loop_eq (fun n e σ => most_FitL2 call f n (e 0) (e 1) (e 2) (e 9) (e 10) σ) (by kernel_rfl) (by kernel_rfl) (fun n2 => (leaf (by kernel_rfl))))))
  (leaf (B := fun e σ => most_FitJ3 call f (e 0) (e 1) (e 2) (e 3) σ) (by kernel_rfl)))
  (leaf (B := fun e σ => most_FitJ4 call f (e 0) (e 1) (e 2) (e 3) σ) (by kernel_rfl)))
  (leaf (B := fun e σ => most_FitJ5 call f (e 0) (e 1) (e 2) (e 3) σ) (by kernel_rfl))) (by kernel_rfl)

def slices_SortStableFunc__window_place_window_place (call : CallF H) (f : Nat) (a0 a1 : Value) (σ : St H) : R H :=
  bindV (vLen .slice a0 σ) fun t6 =>
  bindR (call n_slices_stableCmpFunc_window_place [a0, t6, a1] σ) fun t8 σ =>
  some (.tuple ⟨[]⟩, σ)
theorem slices_SortStableFunc__window_place_window_placeEq (call : CallF H) (f : Nat) (a0 a1 : Value) (σ : St H) : kbody call f (codeOf P n_slices_SortStableFunc__window_place_window_place) [a0, a1] σ = slices_SortStableFunc__window_place_window_place call f a0 a1 σ := by kernel_rfl

def window_best_1 (call : CallF H) (f : Nat) (a0 a1 : Value) (σ : St H) : R H :=
  bindR (vBox a0 σ) fun t2 σ =>
  bindR (vBox a1 σ) fun t3 σ =>
  bindV (vFieldAddr 1 t3) fun t5 =>
  bindV (vLoad false 1 t5 σ) fun t6 =>
  bindV (vFieldAddr 1 t2) fun t7 =>
  bindV (vLoad false 1 t7 σ) fun t8 =>
  bindR (call n_cmp_Compare_int64 [t6, t8] σ) fun t9 σ =>
  some (t9, σ)
theorem window_best_1Eq (call : CallF H) (f : Nat) (a0 a1 : Value) (σ : St H) : kbody call f (codeOf P n_window_best_1) [a0, a1] σ = window_best_1 call f a0 a1 σ := by kernel_rfl

def slices_SortFunc__window_place_window_place (call : CallF H) (f : Nat) (a0 a1 : Value) (σ : St H) : R H :=
  bindV (vLen .slice a0 σ) fun t6 =>
  bindV (vConv .u64 t6) fun t10 =>
  bindR (call n_math_bits_Len [t10] σ) fun t11 σ =>
  bindR (call n_slices_pdqsortCmpFunc_window_place [a0, (I 0), t6, t11, a1] σ) fun t13 σ =>
  some (.tuple ⟨[]⟩, σ)
theorem slices_SortFunc__window_place_window_placeEq (call : CallF H) (f : Nat) (a0 a1 : Value) (σ : St H) : kbody call f (codeOf P n_slices_SortFunc__window_place_window_place) [a0, a1] σ = slices_SortFunc__window_place_window_place call f a0 a1 σ := by kernel_rfl

def window_best_2 (call : CallF H) (f : Nat) (a0 a1 : Value) (σ : St H) : R H :=
  bindR (vBox a0 σ) fun t2 σ =>
  bindR (vBox a1 σ) fun t3 σ =>
  bindV (vFieldAddr 0 t2) fun t5 =>
  bindV (vLoad false 1 t5 σ) fun t6 =>
  bindV (vFieldAddr 0 t3) fun t7 =>
  bindV (vLoad false 1 t7 σ) fun t8 =>
  bindR (call n_cmp_Compare_int [t6, t8] σ) fun t9 σ =>
  some (t9, σ)
theorem window_best_2Eq (call : CallF H) (f : Nat) (a0 a1 : Value) (σ : St H) : kbody call f (codeOf P n_window_best_2) [a0, a1] σ = window_best_2 call f a0 a1 σ := by kernel_rfl

abbrev most_TightR : List ARes := [.tmp 6]
def most_TightJ1 (call : CallF H) (f : Nat) (t7 : Value) (σ : St H) : R H :=
  some (t7, σ)
def most_TightL2 (call : CallF H) (f : Nat) (n : Nat) : Value → Value → Value → Value → St H → R H :=
  Nat.rec (fun _ _ _ _ _ => none) (fun _ r2 => fun t0 t1 t2 t7 σ =>
  bindV (vMn [t2, t1]) fun t16 =>
  bindV (abin .lss t7 t16) fun t17 =>
  bindV (bif kyes t17 true then some t0 else some undefV) fun t19 =>
  bindV (bif kyes t17 true then some t7 else some undefV) fun t20 =>
  bindV (bif kyes t17 true then abin .add t20 (I 1) else some undefV) fun t21 =>
  bindV (bif kyes t17 true then some t7 else some undefV) fun t22 =>
  bindV (bif kyes t17 true then abin .add t22 (I 1) else some undefV) fun t23 =>
  bindV (bif kyes t17 true then some t1 else some undefV) fun t24 =>
  bindV (bif kyes t17 true then vBuild [(I 0), (I 0), (I 0)] [(0, 1, t21), (1, 1, t23), (2, 1, t24)] else some undefV) fun t25 =>
  bindR (bif kyes t17 true then call n_most_with [t19, t25] σ else some (undefV, σ)) fun t26 σ =>
  bindV (vPick t17 t26 ff) fun t27 =>
  ifV t27 (
  bindV (abin .add t7 (I 1)) fun t29 =>
  r2 t0 t1 t2 t29 σ) (
  most_TightJ1 call f t7 σ)) n
def most_TightJ3 (call : CallF H) (f : Nat) (t0 t1 t2 : Value) (σ : St H) : R H :=
  most_TightL2 call f f t0 t1 t2 (I 0) σ
def most_TightJ4 (call : CallF H) (f : Nat) (t0 t1 t2 : Value) (σ : St H) : R H :=
  bindR (call n_most_may [t0, t1, t1] σ) fun t11 σ =>
  bindV (aun .not t11) fun t12 =>
  ifV t12 (
  some ((I 0), σ)) (
  most_TightJ3 call f t0 t1 t2 σ)
def most_TightJ5 (call : CallF H) (f : Nat) (t0 t1 t2 : Value) (σ : St H) : R H :=
  most_TightJ4 call f t0 t1 t2 σ
def most_Tight (call : CallF H) (f : Nat) (a0 a1 a2 : Value) (σ : St H) : R H := most_TightJ5 call f a0 a1 a2 σ
theorem most_TightEq (call : CallF H) (f : Nat) (a0 a1 a2 : Value) (σ : St H) : kbody call f (codeOf P n_most_Tight) [a0, a1, a2] σ = most_Tight call f a0 a1 a2 σ :=
  kbody_of (rs := most_TightR) (by kernel_rfl) (by kernel_rfl) (by kernel_rfl) (seq_eq (by kernel_rfl) (seq_eq (by kernel_rfl) (seq_eq (by kernel_rfl) (seq_eq (by kernel_rfl) (leaf (B := fun e σ => most_TightJ1 call f (e 7) σ) (by kernel_rfl))
  (block_eq (by kernel_rfl) (loop_eq (fun n e σ => most_TightL2 call f n (e 0) (e 1) (e 2) (e 7) σ) (by kernel_rfl) (by kernel_rfl) (fun n2 => (leaf (by kernel_rfl))))))
  (leaf (B := fun e σ => most_TightJ3 call f (e 0) (e 1) (e 2) σ) (by kernel_rfl)))
  (leaf (B := fun e σ => most_TightJ4 call f (e 0) (e 1) (e 2) σ) (by kernel_rfl)))
  (leaf (B := fun e σ => most_TightJ5 call f (e 0) (e 1) (e 2) σ) (by kernel_rfl))) (by kernel_rfl)

abbrev slices_IndexFunc__api_Task_api_TaskR : List ARes := [.tmp 4]
def slices_IndexFunc__api_Task_api_TaskJ1 (call : CallF H) (f : Nat) (σ : St H) : R H :=
  some ((I (-1)), σ)
def slices_IndexFunc__api_Task_api_TaskL2 (call : CallF H) (f : Nat) (n : Nat) : Value → Value → Value → Value → St H → R H :=
  Nat.rec (fun _ _ _ _ _ => none) (fun _ r2 => fun t0 t1 t7 t8 σ =>
  bindV (abin .lss t8 t7) fun t9 =>
  ifV t9 (
  bindV (vIndexAddr 4 t0 t8) fun t14 =>
  bindV (vLoad true 4 t14 σ) fun t15 =>
  bindR (vCallv t1 [t15] call σ) fun t16 σ =>
  ifV t16 (
  some (t8, σ)) (
  bindV (abin .add t8 (I 1)) fun t18 =>
  r2 t0 t1 t7 t18 σ)) (
  slices_IndexFunc__api_Task_api_TaskJ1 call f σ)) n
def slices_IndexFunc__api_Task_api_TaskJ3 (call : CallF H) (f : Nat) (t0 t1 : Value) (σ : St H) : R H :=
  bindV (vLen .slice t0 σ) fun t7 =>
  slices_IndexFunc__api_Task_api_TaskL2 call f f t0 t1 t7 (I 0) σ
def slices_IndexFunc__api_Task_api_TaskJ4 (call : CallF H) (f : Nat) (t0 t1 : Value) (σ : St H) : R H :=
  slices_IndexFunc__api_Task_api_TaskJ3 call f t0 t1 σ
def slices_IndexFunc__api_Task_api_Task (call : CallF H) (f : Nat) (a0 a1 : Value) (σ : St H) : R H := slices_IndexFunc__api_Task_api_TaskJ4 call f a0 a1 σ
theorem slices_IndexFunc__api_Task_api_TaskEq (call : CallF H) (f : Nat) (a0 a1 : Value) (σ : St H) : kbody call f (codeOf P n_slices_IndexFunc__api_Task_api_Task) [a0, a1] σ = slices_IndexFunc__api_Task_api_Task call f a0 a1 σ :=
  kbody_of (rs := slices_IndexFunc__api_Task_api_TaskR) (by kernel_rfl) (by kernel_rfl) (by kernel_rfl) (seq_eq (by kernel_rfl) (seq_eq (by kernel_rfl) (leaf (B := fun e σ => slices_IndexFunc__api_Task_api_TaskJ1 call f σ) (by kernel_rfl))
  (seq_eq (by kernel_rfl) (block_eq (by kernel_rfl) (loop_eq (fun n e σ => slices_IndexFunc__api_Task_api_TaskL2 call f n (e 0) (e 1) (e 7) (e 8) σ) (by kernel_rfl) (by kernel_rfl) (fun n2 => (leaf (by kernel_rfl)))))
  (leaf (B := fun e σ => slices_IndexFunc__api_Task_api_TaskJ3 call f (e 0) (e 1) σ) (by kernel_rfl))))
  (leaf (B := fun e σ => slices_IndexFunc__api_Task_api_TaskJ4 call f (e 0) (e 1) σ) (by kernel_rfl))) (by kernel_rfl)

def heap_Heap_int_Key (call : CallF H) (f : Nat) (a0 a1 : Value) (σ : St H) : R H :=
  bindV (vEq .nilp false a0 nilP) fun t10 =>
  ifV t10 (
  some (.tuple ⟨[(I 0), (I 0), ff]⟩, σ)) (
  bindV (vNil a0) fun t13 =>
  bindV (vFieldAddr 2 t13) fun t14 =>
  bindV (vLoad false 1 t14 σ) fun t15 =>
  bindV (vLookup true (I 0) true t15 a1 σ) fun t17 =>
  bindV (vExtract 0 t17) fun t18 =>
  bindV (vExtract 1 t17) fun t19 =>
  bindV (aun .not t19) fun t21 =>
  ifV t21 (
  some (.tuple ⟨[(I 0), (I 0), ff]⟩, σ)) (
  bindV (vNil a0) fun t23 =>
  bindV (vFieldAddr 1 t23) fun t24 =>
  bindV (vLoad false 1 t24 σ) fun t25 =>
  bindV (vIndexAddr 4 t25 t18) fun t27 =>
  bindV (vFieldAddr 1 t27) fun t28 =>
  bindV (vLoad false 1 t28 σ) fun t29 =>
  bindV (vNil a0) fun t31 =>
  bindV (vFieldAddr 1 t31) fun t32 =>
  bindV (vLoad false 1 t32 σ) fun t33 =>
  bindV (vIndexAddr 4 t33 t18) fun t35 =>
  bindV (vFieldAddr 2 t35) fun t36 =>
  bindV (vLoad false 1 t36 σ) fun t37 =>
  some (.tuple ⟨[t29, t37, tt]⟩, σ)))
theorem heap_Heap_int_KeyEq (call : CallF H) (f : Nat) (a0 a1 : Value) (σ : St H) : kbody call f (codeOf P n_heap_Heap_int_Key) [a0, a1] σ = heap_Heap_int_Key call f a0 a1 σ := by kernel_rfl

abbrev slices_insertionSortCmpFunc_api_MailR : List ARes := []
def slices_insertionSortCmpFunc_api_MailJ2 (call : CallF H) (f : Nat) (r1 : Value → Value → Value → Value → Value → St H → R H) (t0 t1 t2 t3 t8 : Value) (σ : St H) : R H :=
  bindV (abin .add t8 (I 1)) fun t16 =>
  r1 t0 t1 t2 t3 t16 σ
def slices_insertionSortCmpFunc_api_MailL3 (call : CallF H) (f : Nat) (r1 : Value → Value → Value → Value → Value → St H → R H) (n : Nat) : Value → Value → Value → Value → Value → Value → St H → R H :=
  Nat.rec (fun _ _ _ _ _ _ _ => none) (fun _ r3 => fun t0 t1 t2 t3 t8 t9 σ =>
  bindV (abin .gtr t9 t1) fun t20 =>
  bindV (bif kyes t20 true then some t3 else some undefV) fun t22 =>
  bindV (bif kyes t20 true then some t0 else some undefV) fun t23 =>
  bindV (bif kyes t20 true then some t9 else some undefV) fun t24 =>
  bindV (bif kyes t20 true then vIndexAddr 5 t23 t24 else some undefV) fun t25 =>
  bindV (bif kyes t20 true then vLoad true 5 t25 σ else some undefV) fun t26 =>
  bindV (bif kyes t20 true then some t0 else some undefV) fun t27 =>
  bindV (bif kyes t20 true then some t9 else some undefV) fun t28 =>
  bindV (bif kyes t20 true then abin .sub t28 (I 1) else some undefV) fun t29 =>
  bindV (bif kyes t20 true then vIndexAddr 5 t27 t29 else some undefV) fun t30 =>
  bindV (bif kyes t20 true then vLoad true 5 t30 σ else some undefV) fun t31 =>
  bindR (bif kyes t20 true then vCallv t22 [t26, t31] call σ else some (undefV, σ)) fun t32 σ =>
  bindV (bif kyes t20 true then abin .lss t32 (I 0) else some undefV) fun t33 =>
  bindV (vPick t20 t33 ff) fun t34 =>
  ifV t34 (
  bindV (abin .sub t9 (I 1)) fun t41 =>
  bindV (abin .sub t9 (I 1)) fun t44 =>
  bindV (vIndexAddr 5 t0 t44) fun t45 =>
  bindV (vLoad true 5 t45 σ) fun t46 =>
  bindV (vIndexAddr 5 t0 t9) fun t49 =>
  bindV (vLoad true 5 t49 σ) fun t50 =>
  bindV (vIndexAddr 5 t0 t9) fun t51 =>
  bindS (vStore 5 t51 t46 σ) fun σ =>
  bindV (vIndexAddr 5 t0 t41) fun t52 =>
  bindS (vStore 5 t52 t50 σ) fun σ =>
  bindV (abin .sub t9 (I 1)) fun t36 =>
  r3 t0 t1 t2 t3 t8 t36 σ) (
  slices_insertionSortCmpFunc_api_MailJ2 call f r1 t0 t1 t2 t3 t8 σ)) n
def slices_insertionSortCmpFunc_api_MailJ4 (call : CallF H) (f : Nat) (r1 : Value → Value → Value → Value → Value → St H → R H) (t0 t1 t2 t3 t8 : Value) (σ : St H) : R H :=
  slices_insertionSortCmpFunc_api_MailL3 call f r1 f t0 t1 t2 t3 t8 t8 σ
def slices_insertionSortCmpFunc_api_MailJ5 (call : CallF H) (f : Nat) (r1 : Value → Value → Value → Value → Value → St H → R H) (t0 t1 t2 t3 t8 : Value) (σ : St H) : R H :=
  bindV (abin .lss t8 t2) fun t14 =>
  ifV t14 (
  slices_insertionSortCmpFunc_api_MailJ4 call f r1 t0 t1 t2 t3 t8 σ) (
  some (.tuple ⟨[]⟩, σ))
def slices_insertionSortCmpFunc_api_MailL1 (call : CallF H) (f : Nat) (n : Nat) : Value → Value → Value → Value → Value → St H → R H :=
  Nat.rec (fun _ _ _ _ _ _ => none) (fun _ r1 => fun t0 t1 t2 t3 t8 σ =>
  slices_insertionSortCmpFunc_api_MailJ5 call f r1 t0 t1 t2 t3 t8 σ) n
def slices_insertionSortCmpFunc_api_MailJ6 (call : CallF H) (f : Nat) (t0 t1 t2 t3 : Value) (σ : St H) : R H :=
  bindV (abin .add t1 (I 1)) fun t11 =>
  slices_insertionSortCmpFunc_api_MailL1 call f f t0 t1 t2 t3 t11 σ
def slices_insertionSortCmpFunc_api_Mail (call : CallF H) (f : Nat) (a0 a1 a2 a3 : Value) (σ : St H) : R H := slices_insertionSortCmpFunc_api_MailJ6 call f a0 a1 a2 a3 σ
theorem slices_insertionSortCmpFunc_api_MailEq (call : CallF H) (f : Nat) (a0 a1 a2 a3 : Value) (σ : St H) : kbody call f (codeOf P n_slices_insertionSortCmpFunc_api_Mail) [a0, a1, a2, a3] σ = slices_insertionSortCmpFunc_api_Mail call f a0 a1 a2 a3 σ :=
  kbody_of (rs := slices_insertionSortCmpFunc_api_MailR) (by kernel_rfl) (by kernel_rfl) (by kernel_rfl) (seq_eq (by kernel_rfl) (block_eq (by kernel_rfl) (loop_eq (fun n e σ => slices_insertionSortCmpFunc_api_MailL1 call f n (e 0) (e 1) (e 2) (e 3) (e 8) σ) (by kernel_rfl) (by kernel_rfl) (fun n1 => (tr (seq_eq (by kernel_rfl) (seq_eq (by kernel_rfl) (leaf (B := fun e σ => slices_insertionSortCmpFunc_api_MailJ2 call f (slices_insertionSortCmpFunc_api_MailL1 call f n1) (e 0) (e 1) (e 2) (e 3) (e 8) σ) (by kernel_rfl))
  (block_eq (by kernel_rfl) (seq_eq (by kernel_rfl) (block_eq (by kernel_rfl) (loop_eq (fun n e σ => slices_insertionSortCmpFunc_api_MailL3 call f (slices_insertionSortCmpFunc_api_MailL1 call f n1) n (e 0) (e 1) (e 2) (e 3) (e 8) (e 9) σ) (by kernel_rfl) (by kernel_rfl) (fun n3 => (leaf (by kernel_rfl)))))
  (leaf (B := fun e σ => slices_insertionSortCmpFunc_api_MailJ4 call f (slices_insertionSortCmpFunc_api_MailL1 call f n1) (e 0) (e 1) (e 2) (e 3) (e 8) σ) (by kernel_rfl)))))
  (leaf (B := fun e σ => slices_insertionSortCmpFunc_api_MailJ5 call f (slices_insertionSortCmpFunc_api_MailL1 call f n1) (e 0) (e 1) (e 2) (e 3) (e 8) σ) (by kernel_rfl))) (by kernel_rfl)))))
  (leaf (B := fun e σ => slices_insertionSortCmpFunc_api_MailJ6 call f (e 0) (e 1) (e 2) (e 3) σ) (by kernel_rfl))) (by kernel_rfl)

abbrev slices_symMergeCmpFunc_api_MailR : List ARes := []
def slices_symMergeCmpFunc_api_MailJ1 (call : CallF H) (f : Nat) (t0 t3 t4 t18 t24 : Value) (σ : St H) : R H :=
  bindV (abin .lss t18 t24) fun t208 =>
  bindV (bif kyes t208 true then some t24 else some undefV) fun t210 =>
  bindV (bif kyes t208 true then some t3 else some undefV) fun t211 =>
  bindV (bif kyes t208 true then abin .lss t210 t211 else some undefV) fun t212 =>
  bindV (vPick t208 t212 ff) fun t213 =>
  ifV t213 (
  bindR (call n_slices_symMergeCmpFunc_api_Mail [t0, t18, t24, t3, t4] σ) fun t219 σ =>
  some (.tuple ⟨[]⟩, σ)) (
  some (.tuple ⟨[]⟩, σ))
def slices_symMergeCmpFunc_api_MailJ2 (call : CallF H) (f : Nat) (t0 t1 t3 t4 t18 t20 t24 : Value) (σ : St H) : R H :=
  bindV (abin .lss t1 t20) fun t194 =>
  bindV (bif kyes t194 true then some t20 else some undefV) fun t196 =>
  bindV (bif kyes t194 true then some t18 else some undefV) fun t197 =>
  bindV (bif kyes t194 true then abin .lss t196 t197 else some undefV) fun t198 =>
  bindV (vPick t194 t198 ff) fun t199 =>
  ifV t199 (
  bindR (call n_slices_symMergeCmpFunc_api_Mail [t0, t1, t20, t18, t4] σ) fun t205 σ =>
  slices_symMergeCmpFunc_api_MailJ1 call f t0 t3 t4 t18 t24 σ) (
  slices_symMergeCmpFunc_api_MailJ1 call f t0 t3 t4 t18 t24 σ)
def slices_symMergeCmpFunc_api_MailJ3 (call : CallF H) (f : Nat) (t0 t1 t2 t3 t4 t18 t19 t20 : Value) (σ : St H) : R H :=
  bindV (abin .sub t19 t20) fun t177 =>
  bindV (abin .lss t20 t2) fun t180 =>
  bindV (bif kyes t180 true then some t2 else some undefV) fun t182 =>
  bindV (bif kyes t180 true then some t177 else some undefV) fun t183 =>
  bindV (bif kyes t180 true then abin .lss t182 t183 else some undefV) fun t184 =>
  bindV (vPick t180 t184 ff) fun t185 =>
  ifV t185 (
  bindR (call n_slices_rotateCmpFunc_api_Mail [t0, t20, t2, t177, t4] σ) fun t191 σ =>
  slices_symMergeCmpFunc_api_MailJ2 call f t0 t1 t3 t4 t18 t20 t177 σ) (
  slices_symMergeCmpFunc_api_MailJ2 call f t0 t1 t3 t4 t18 t20 t177 σ)
def slices_symMergeCmpFunc_api_MailL4 (call : CallF H) (f : Nat) (n : Nat) : Value → Value → Value → Value → Value → Value → Value → Value → Value → Value → St H → R H :=
  Nat.rec (fun _ _ _ _ _ _ _ _ _ _ _ => none) (fun _ r4 => fun t0 t1 t2 t3 t4 t18 t19 t20 t21 t22 σ =>
  bindV (abin .lss t20 t21) fun t151 =>
  ifV t151 (
  bindV (abin .add t20 t21) fun t154 =>
  bindV (vConv .u64 t154) fun t155 =>
  bindV (abin .shr t155 (.int .u64 1)) fun t156 =>
  bindV (vConv .i64 t156) fun t157 =>
  bindV (abin .sub t22 t157) fun t162 =>
  bindV (vIndexAddr 5 t0 t162) fun t163 =>
  bindV (vLoad true 5 t163 σ) fun t164 =>
  bindV (vIndexAddr 5 t0 t157) fun t167 =>
  bindV (vLoad true 5 t167 σ) fun t168 =>
  bindR (vCallv t4 [t164, t168] call σ) fun t169 σ =>
  bindV (abin .lss t169 (I 0)) fun t170 =>
  bindV (aun .not t170) fun t171 =>
  ifV t171 (
  bindV (abin .add t157 (I 1)) fun t173 =>
  r4 t0 t1 t2 t3 t4 t18 t19 t173 t21 t22 σ) (
  r4 t0 t1 t2 t3 t4 t18 t19 t20 t157 t22 σ)) (
  slices_symMergeCmpFunc_api_MailJ3 call f t0 t1 t2 t3 t4 t18 t19 t20 σ)) n
def slices_symMergeCmpFunc_api_MailJ5 (call : CallF H) (f : Nat) (t0 t1 t2 t3 t4 t18 t19 t20 t21 : Value) (σ : St H) : R H :=
  bindV (abin .sub t19 (I 1)) fun t148 =>
  slices_symMergeCmpFunc_api_MailL4 call f f t0 t1 t2 t3 t4 t18 t19 t20 t21 t148 σ
def slices_symMergeCmpFunc_api_MailJ6 (call : CallF H) (f : Nat) (t0 t1 t2 t3 t4 t18 t19 : Value) (σ : St H) : R H :=
  bindV (abin .gtr t2 t18) fun t140 =>
  ifV t140 (
  bindV (abin .sub t19 t3) fun t143 =>
  slices_symMergeCmpFunc_api_MailJ5 call f t0 t1 t2 t3 t4 t18 t19 t143 t18 σ) (
  slices_symMergeCmpFunc_api_MailJ5 call f t0 t1 t2 t3 t4 t18 t19 t1 t2 σ)
def slices_symMergeCmpFunc_api_MailJ7 (call : CallF H) (f : Nat) (t0 t1 t2 t3 t4 t18 t19 : Value) (σ : St H) : R H :=
  slices_symMergeCmpFunc_api_MailJ6 call f t0 t1 t2 t3 t4 t18 t19 σ
def slices_symMergeCmpFunc_api_MailJ8 (call : CallF H) (f : Nat) (t0 t1 t2 t3 t4 t18 : Value) (σ : St H) : R H :=
  bindV (abin .add t18 t2) fun t137 =>
  slices_symMergeCmpFunc_api_MailJ7 call f t0 t1 t2 t3 t4 t18 t137 σ
def slices_symMergeCmpFunc_api_MailJ9 (call : CallF H) (f : Nat) (t0 t1 t2 t3 t4 : Value) (σ : St H) : R H :=
  bindV (abin .add t1 t3) fun t131 =>
  bindV (vConv .u64 t131) fun t132 =>
  bindV (abin .shr t132 (.int .u64 1)) fun t133 =>
  bindV (vConv .i64 t133) fun t134 =>
  slices_symMergeCmpFunc_api_MailJ8 call f t0 t1 t2 t3 t4 t134 σ
def slices_symMergeCmpFunc_api_MailL10 (call : CallF H) (f : Nat) (n : Nat) : Value → Value → Value → St H → R H :=
  Nat.rec (fun _ _ _ _ => none) (fun _ r10 => fun t0 t14 t17 σ =>
  bindV (abin .gtr t17 t14) fun t110 =>
  ifV t110 (
  bindV (abin .sub t17 (I 1)) fun t117 =>
  bindV (abin .sub t17 (I 1)) fun t120 =>
  bindV (vIndexAddr 5 t0 t120) fun t121 =>
  bindV (vLoad true 5 t121 σ) fun t122 =>
  bindV (vIndexAddr 5 t0 t17) fun t125 =>
  bindV (vLoad true 5 t125 σ) fun t126 =>
  bindV (vIndexAddr 5 t0 t17) fun t127 =>
  bindS (vStore 5 t127 t122 σ) fun σ =>
  bindV (vIndexAddr 5 t0 t117) fun t128 =>
  bindS (vStore 5 t128 t126 σ) fun σ =>
  bindV (abin .sub t17 (I 1)) fun t112 =>
  r10 t0 t14 t112 σ) (
  some (.tuple ⟨[]⟩, σ))) n
def slices_symMergeCmpFunc_api_MailJ11 (call : CallF H) (f : Nat) (t0 t2 t14 : Value) (σ : St H) : R H :=
  slices_symMergeCmpFunc_api_MailL10 call f f t0 t14 t2 σ
def slices_symMergeCmpFunc_api_MailL12 (call : CallF H) (f : Nat) (n : Nat) : Value → Value → Value → Value → Value → St H → R H :=
  Nat.rec (fun _ _ _ _ _ _ => none) (fun _ r12 => fun t0 t2 t4 t14 t15 σ =>
  bindV (abin .lss t14 t15) fun t85 =>
  ifV t85 (
  bindV (abin .add t14 t15) fun t88 =>
  bindV (vConv .u64 t88) fun t89 =>
  bindV (abin .shr t89 (.int .u64 1)) fun t90 =>
  bindV (vConv .i64 t90) fun t91 =>
  bindV (vIndexAddr 5 t0 t2) fun t95 =>
  bindV (vLoad true 5 t95 σ) fun t96 =>
  bindV (vIndexAddr 5 t0 t91) fun t99 =>
  bindV (vLoad true 5 t99 σ) fun t100 =>
  bindR (vCallv t4 [t96, t100] call σ) fun t101 σ =>
  bindV (abin .lss t101 (I 0)) fun t102 =>
  bindV (aun .not t102) fun t103 =>
  ifV t103 (
  bindV (abin .add t91 (I 1)) fun t105 =>
  r12 t0 t2 t4 t105 t15 σ) (
  r12 t0 t2 t4 t14 t91 σ)) (
  slices_symMergeCmpFunc_api_MailJ11 call f t0 t2 t14 σ)) n
def slices_symMergeCmpFunc_api_MailJ13 (call : CallF H) (f : Nat) (t0 t2 t4 t14 : Value) (σ : St H) : R H :=
  slices_symMergeCmpFunc_api_MailL12 call f f t0 t2 t4 t14 t2 σ
def slices_symMergeCmpFunc_api_MailJ14 (call : CallF H) (f : Nat) (t0 t1 t2 t4 : Value) (σ : St H) : R H :=
  slices_symMergeCmpFunc_api_MailJ13 call f t0 t2 t4 t1 σ
def slices_symMergeCmpFunc_api_MailJ15 (call : CallF H) (f : Nat) (t0 t1 t2 t3 t4 t80 : Value) (σ : St H) : R H :=
  ifV t80 (slices_symMergeCmpFunc_api_MailJ14 call f t0 t1 t2 t4 σ) (slices_symMergeCmpFunc_api_MailJ9 call f t0 t1 t2 t3 t4 σ)
def slices_symMergeCmpFunc_api_MailJ16 (call : CallF H) (f : Nat) (t0 t1 t2 t3 t4 : Value) (σ : St H) : R H :=
  bindV (abin .sub t3 t2) fun t79 =>
  bindV (abin .eql t79 (I 1)) fun t80 =>
  slices_symMergeCmpFunc_api_MailJ15 call f t0 t1 t2 t3 t4 t80 σ
def slices_symMergeCmpFunc_api_MailL17 (call : CallF H) (f : Nat) (n : Nat) : Value → Value → Value → St H → R H :=
  Nat.rec (fun _ _ _ _ => none) (fun _ r17 => fun t0 t10 t13 σ =>
  bindV (abin .sub t10 (I 1)) fun t57 =>
  bindV (abin .lss t13 t57) fun t58 =>
  ifV t58 (
  bindV (abin .add t13 (I 1)) fun t65 =>
  bindV (abin .add t13 (I 1)) fun t68 =>
  bindV (vIndexAddr 5 t0 t68) fun t69 =>
  bindV (vLoad true 5 t69 σ) fun t70 =>
  bindV (vIndexAddr 5 t0 t13) fun t73 =>
  bindV (vLoad true 5 t73 σ) fun t74 =>
  bindV (vIndexAddr 5 t0 t13) fun t75 =>
  bindS (vStore 5 t75 t70 σ) fun σ =>
  bindV (vIndexAddr 5 t0 t65) fun t76 =>
  bindS (vStore 5 t76 t74 σ) fun σ =>
  bindV (abin .add t13 (I 1)) fun t60 =>
  r17 t0 t10 t60 σ) (
  some (.tuple ⟨[]⟩, σ))) n
def slices_symMergeCmpFunc_api_MailJ18 (call : CallF H) (f : Nat) (t0 t1 t10 : Value) (σ : St H) : R H :=
  slices_symMergeCmpFunc_api_MailL17 call f f t0 t10 t1 σ
def slices_symMergeCmpFunc_api_MailL19 (call : CallF H) (f : Nat) (n : Nat) : Value → Value → Value → Value → Value → St H → R H :=
  Nat.rec (fun _ _ _ _ _ _ => none) (fun _ r19 => fun t0 t1 t4 t10 t11 σ =>
  bindV (abin .lss t10 t11) fun t33 =>
  ifV t33 (
  bindV (abin .add t10 t11) fun t36 =>
  bindV (vConv .u64 t36) fun t37 =>
  bindV (abin .shr t37 (.int .u64 1)) fun t38 =>
  bindV (vConv .i64 t38) fun t39 =>
  bindV (vIndexAddr 5 t0 t39) fun t43 =>
  bindV (vLoad true 5 t43 σ) fun t44 =>
  bindV (vIndexAddr 5 t0 t1) fun t47 =>
  bindV (vLoad true 5 t47 σ) fun t48 =>
  bindR (vCallv t4 [t44, t48] call σ) fun t49 σ =>
  bindV (abin .lss t49 (I 0)) fun t50 =>
  ifV t50 (
  bindV (abin .add t39 (I 1)) fun t52 =>
  r19 t0 t1 t4 t52 t11 σ) (
  r19 t0 t1 t4 t10 t39 σ)) (
  slices_symMergeCmpFunc_api_MailJ18 call f t0 t1 t10 σ)) n
def slices_symMergeCmpFunc_api_MailJ20 (call : CallF H) (f : Nat) (t0 t1 t3 t4 t10 : Value) (σ : St H) : R H :=
  slices_symMergeCmpFunc_api_MailL19 call f f t0 t1 t4 t10 t3 σ
def slices_symMergeCmpFunc_api_MailJ21 (call : CallF H) (f : Nat) (t0 t1 t2 t3 t4 : Value) (σ : St H) : R H :=
  slices_symMergeCmpFunc_api_MailJ20 call f t0 t1 t3 t4 t2 σ
def slices_symMergeCmpFunc_api_MailJ22 (call : CallF H) (f : Nat) (t0 t1 t2 t3 t4 t28 : Value) (σ : St H) : R H :=
  ifV t28 (slices_symMergeCmpFunc_api_MailJ21 call f t0 t1 t2 t3 t4 σ) (slices_symMergeCmpFunc_api_MailJ16 call f t0 t1 t2 t3 t4 σ)
def slices_symMergeCmpFunc_api_MailJ23 (call : CallF H) (f : Nat) (t0 t1 t2 t3 t4 : Value) (σ : St H) : R H :=
  bindV (abin .sub t2 t1) fun t27 =>
  bindV (abin .eql t27 (I 1)) fun t28 =>
  slices_symMergeCmpFunc_api_MailJ22 call f t0 t1 t2 t3 t4 t28 σ
def slices_symMergeCmpFunc_api_Mail (call : CallF H) (f : Nat) (a0 a1 a2 a3 a4 : Value) (σ : St H) : R H := slices_symMergeCmpFunc_api_MailJ23 call f a0 a1 a2 a3 a4 σ
theorem slices_symMergeCmpFunc_api_MailEq (call : CallF H) (f : Nat) (a0 a1 a2 a3 a4 : Value) (σ : St H) : kbody call f (codeOf P n_slices_symMergeCmpFunc_api_Mail) [a0, a1, a2, a3, a4] σ = slices_symMergeCmpFunc_api_Mail call f a0 a1 a2 a3 a4 σ :=
  kbody_of (rs := slices_symMergeCmpFunc_api_MailR) (by kernel_rfl) (by kernel_rfl) (by kernel_rfl) (seq_eq (by kernel_rfl) (seq_eq (by kernel_rfl) (seq_eq (by kernel_rfl) (seq_eq (by kernel_rfl) (seq_eq (by kernel_rfl) (seq_eq (by kernel_rfl) (seq_eq (by kernel_rfl) (seq_eq (by kernel_rfl) (leaf (B := fun e σ => slices_symMergeCmpFunc_api_MailJ3 call f (e 0) (e 1) (e 2) (e 3) (e 4) (e 18) (e 19) (e 20) σ) (by kernel_rfl))
  (block_eq (by kernel_rfl) (loop_eq (fun n e σ => slices_symMergeCmpFunc_api_MailL4 call f n (e 0) (e 1) (e 2) (e 3) (e 4) (e 18) (e 19) (e 20) (e 21) (e 22) σ) (by kernel_rfl) (by kernel_rfl) (fun n4 => (leaf (by kernel_rfl))))))
  (leaf (B := fun e σ => slices_symMergeCmpFunc_api_MailJ5 call f (e 0) (e 1) (e 2) (e 3) (e 4) (e 18) (e 19) (e 20) (e 21) σ) (by kernel_rfl)))
  (leaf (B := fun e σ => slices_symMergeCmpFunc_api_MailJ6 call f (e 0) (e 1) (e 2) (e 3) (e 4) (e 18) (e 19) σ) (by kernel_rfl)))
  (leaf (B := fun e σ => slices_symMergeCmpFunc_api_MailJ7 call f (e 0) (e 1) (e 2) (e 3) (e 4) (e 18) (e 19) σ) (by kernel_rfl)))
  (leaf (B := fun e σ => slices_symMergeCmpFunc_api_MailJ8 call f (e 0) (e 1) (e 2) (e 3) (e 4) (e 18) σ) (by kernel_rfl)))
  (leaf (B := fun e σ => slices_symMergeCmpFunc_api_MailJ9 call f (e 0) (e 1) (e 2) (e 3) (e 4) σ) (by kernel_rfl)))
  (seq_eq (by kernel_rfl) (tr (B := fun e σ => slices_symMergeCmpFunc_api_MailJ15 call f (e 0) (e 1) (e 2) (e 3) (e 4) (e 80) σ) (cond_eq (by kernel_rfl) (seq_eq (by kernel_rfl) (seq_eq (by kernel_rfl) (seq_eq (by kernel_rfl) (seq_eq (by kernel_rfl) (leaf (B := fun e σ => karesV e σ slices_symMergeCmpFunc_api_MailR) (by kernel_rfl))
  (seq_eq (by kernel_rfl) (block_eq (by kernel_rfl) (loop_eq (fun n e σ => slices_symMergeCmpFunc_api_MailL10 call f n (e 0) (e 14) (e 17) σ) (by kernel_rfl) (by kernel_rfl) (fun n10 => (leaf (by kernel_rfl)))))
  (leaf (B := fun e σ => slices_symMergeCmpFunc_api_MailJ11 call f (e 0) (e 2) (e 14) σ) (by kernel_rfl))))
  (block_eq (by kernel_rfl) (loop_eq (fun n e σ => slices_symMergeCmpFunc_api_MailL12 call f n (e 0) (e 2) (e 4) (e 14) (e 15) σ) (by kernel_rfl) (by kernel_rfl) (fun n12 => (leaf (by kernel_rfl))))))
  (leaf (B := fun e σ => slices_symMergeCmpFunc_api_MailJ13 call f (e 0) (e 2) (e 4) (e 14) σ) (by kernel_rfl)))
  (leaf (B := fun e σ => slices_symMergeCmpFunc_api_MailJ14 call f (e 0) (e 1) (e 2) (e 4) σ) (by kernel_rfl)))
  (leaf (B := fun e σ => slices_symMergeCmpFunc_api_MailJ9 call f (e 0) (e 1) (e 2) (e 3) (e 4) σ) (by kernel_rfl))) (by kernel_rfl))
  (leaf (B := fun e σ => slices_symMergeCmpFunc_api_MailJ16 call f (e 0) (e 1) (e 2) (e 3) (e 4) σ) (by kernel_rfl))))
  (seq_eq (by kernel_rfl) (tr (B := fun e σ => slices_symMergeCmpFunc_api_MailJ22 call f (e 0) (e 1) (e 2) (e 3) (e 4) (e 28) σ) (cond_eq (by kernel_rfl) (seq_eq (by kernel_rfl) (seq_eq (by kernel_rfl) (seq_eq (by kernel_rfl) (seq_eq (by kernel_rfl) (leaf (B := fun e σ => karesV e σ slices_symMergeCmpFunc_api_MailR) (by kernel_rfl))
  (seq_eq (by kernel_rfl) (block_eq (by kernel_rfl) (loop_eq (fun n e σ => slices_symMergeCmpFunc_api_MailL17 call f n (e 0) (e 10) (e 13) σ) (by kernel_rfl) (by kernel_rfl) (fun n17 => (leaf (by kernel_rfl)))))
  (leaf (B := fun e σ => slices_symMergeCmpFunc_api_MailJ18 call f (e 0) (e 1) (e 10) σ) (by kernel_rfl))))
  (block_eq (by kernel_rfl) (loop_eq (fun n e σ => slices_symMergeCmpFunc_api_MailL19 call f n (e 0) (e 1) (e 4) (e 10) (e 11) σ) (by kernel_rfl) (by kernel_rfl) (fun n19 => (leaf (by kernel_rfl))))))
  (leaf (B := fun e σ => slices_symMergeCmpFunc_api_MailJ20 call f (e 0) (e 1) (e 3) (e 4) (e 10) σ) (by kernel_rfl)))
  (leaf (B := fun e σ => slices_symMergeCmpFunc_api_MailJ21 call f (e 0) (e 1) (e 2) (e 3) (e 4) σ) (by kernel_rfl)))
  (leaf (B := fun e σ => slices_symMergeCmpFunc_api_MailJ16 call f (e 0) (e 1) (e 2) (e 3) (e 4) σ) (by kernel_rfl))) (by kernel_rfl))
  (leaf (B := fun e σ => slices_symMergeCmpFunc_api_MailJ23 call f (e 0) (e 1) (e 2) (e 3) (e 4) σ) (by kernel_rfl)))) (by kernel_rfl)

def heap_Heap_int_less (call : CallF H) (f : Nat) (a0 a1 a2 : Value) (σ : St H) : R H :=
  bindV (vNil a0) fun t10 =>
  bindV (vFieldAddr 1 t10) fun t11 =>
  bindV (vLoad false 1 t11 σ) fun t12 =>
  bindV (vIndexAddr 4 t12 a1) fun t14 =>
  bindV (vLoad true 4 t14 σ) fun t15 =>
  bindV (vNil a0) fun t17 =>
  bindV (vFieldAddr 1 t17) fun t18 =>
  bindV (vLoad false 1 t18 σ) fun t19 =>
  bindV (vIndexAddr 4 t19 a2) fun t21 =>
  bindV (vLoad true 4 t21 σ) fun t22 =>
  bindR (vBox (.agg ⟨(rep [(I 0)] 4)⟩) σ) fun t7 σ =>
  bindR (vBox (.agg ⟨(rep [(I 0)] 4)⟩) σ) fun t8 σ =>
  bindS (vStore 4 t7 t15 σ) fun σ =>
  kif (kand (rck (vLoad true 4 t21 σ) t22) (kand (rck (vLoad false 1 t18 σ) t19) true)) (
  bindS (vStore 4 t8 t22 σ) fun σ =>
  bindV (vFieldAddr 1 t7) fun t24 =>
  bindV (vLoad false 1 t24 σ) fun t25 =>
  bindV (vFieldAddr 1 t8) fun t26 =>
  bindV (vLoad false 1 t26 σ) fun t27 =>
  bindV (abin .neq t25 t27) fun t28 =>
  ifV t28 (
  bindV (vFieldAddr 1 t7) fun t29 =>
  bindV (vLoad false 1 t29 σ) fun t30 =>
  bindV (vFieldAddr 1 t8) fun t31 =>
  bindV (vLoad false 1 t31 σ) fun t32 =>
  bindV (abin .lss t30 t32) fun t33 =>
  some (t33, σ)) (
  bindV (vFieldAddr 2 t7) fun t35 =>
  bindV (vLoad false 1 t35 σ) fun t36 =>
  bindV (vFieldAddr 2 t8) fun t37 =>
  bindV (vLoad false 1 t37 σ) fun t38 =>
  bindV (abin .neq t36 t38) fun t39 =>
  ifV t39 (
  bindV (vFieldAddr 2 t7) fun t40 =>
  bindV (vLoad false 1 t40 σ) fun t41 =>
  bindV (vFieldAddr 2 t8) fun t42 =>
  bindV (vLoad false 1 t42 σ) fun t43 =>
  bindV (abin .lss t41 t43) fun t44 =>
  some (t44, σ)) (
  bindV (vFieldAddr 3 t7) fun t45 =>
  bindV (vLoad false 1 t45 σ) fun t46 =>
  bindV (vFieldAddr 3 t8) fun t47 =>
  bindV (vLoad false 1 t47 σ) fun t48 =>
  bindV (abin .lss t46 t48) fun t49 =>
  some (t49, σ))))
theorem heap_Heap_int_lessEq (call : CallF H) (f : Nat) (a0 a1 a2 : Value) (σ : St H) : kbody call f (codeOf P n_heap_Heap_int_less) [a0, a1, a2] σ = heap_Heap_int_less call f a0 a1 a2 σ := by kernel_rfl

abbrev slices_insertionSortOrdered_intR : List ARes := []
def slices_insertionSortOrdered_intJ2 (call : CallF H) (f : Nat) (r1 : Value → Value → Value → Value → St H → R H) (t0 t1 t2 t6 : Value) (σ : St H) : R H :=
  bindV (abin .add t6 (I 1)) fun t14 =>
  r1 t0 t1 t2 t14 σ
def slices_insertionSortOrdered_intL3 (call : CallF H) (f : Nat) (r1 : Value → Value → Value → Value → St H → R H) (n : Nat) : Value → Value → Value → Value → Value → St H → R H :=
  Nat.rec (fun _ _ _ _ _ _ => none) (fun _ r3 => fun t0 t1 t2 t6 t7 σ =>
  bindV (abin .gtr t7 t1) fun t18 =>
  bindV (bif kyes t18 true then some t0 else some undefV) fun t20 =>
  bindV (bif kyes t18 true then some t7 else some undefV) fun t21 =>
  bindV (bif kyes t18 true then vIndexAddr 1 t20 t21 else some undefV) fun t22 =>
  bindV (bif kyes t18 true then vLoad false 1 t22 σ else some undefV) fun t23 =>
  bindV (bif kyes t18 true then some t0 else some undefV) fun t24 =>
  bindV (bif kyes t18 true then some t7 else some undefV) fun t25 =>
  bindV (bif kyes t18 true then abin .sub t25 (I 1) else some undefV) fun t26 =>
  bindV (bif kyes t18 true then vIndexAddr 1 t24 t26 else some undefV) fun t27 =>
  bindV (bif kyes t18 true then vLoad false 1 t27 σ else some undefV) fun t28 =>
  bindR (bif kyes t18 true then call n_cmp_Less_int [t23, t28] σ else some (undefV, σ)) fun t29 σ =>
  bindV (vPick t18 t29 ff) fun t30 =>
  ifV t30 (
  bindV (abin .sub t7 (I 1)) fun t37 =>
  bindV (abin .sub t7 (I 1)) fun t40 =>
  bindV (vIndexAddr 1 t0 t40) fun t41 =>
  bindV (vLoad false 1 t41 σ) fun t42 =>
  bindV (vIndexAddr 1 t0 t7) fun t45 =>
  bindV (vLoad false 1 t45 σ) fun t46 =>
  bindV (vIndexAddr 1 t0 t7) fun t47 =>
  bindS (vStore 1 t47 t42 σ) fun σ =>
  bindV (vIndexAddr 1 t0 t37) fun t48 =>
  bindS (vStore 1 t48 t46 σ) fun σ =>
  bindV (abin .sub t7 (I 1)) fun t32 =>
  r3 t0 t1 t2 t6 t32 σ) (
  slices_insertionSortOrdered_intJ2 call f r1 t0 t1 t2 t6 σ)) n
def slices_insertionSortOrdered_intJ4 (call : CallF H) (f : Nat) (r1 : Value → Value → Value → Value → St H → R H) (t0 t1 t2 t6 : Value) (σ : St H) : R H :=
  slices_insertionSortOrdered_intL3 call f r1 f t0 t1 t2 t6 t6 σ
def slices_insertionSortOrdered_intJ5 (call : CallF H) (f : Nat) (r1 : Value → Value → Value → Value → St H → R H) (t0 t1 t2 t6 : Value) (σ : St H) : R H :=
  bindV (abin .lss t6 t2) fun t12 =>
  ifV t12 (
  slices_insertionSortOrdered_intJ4 call f r1 t0 t1 t2 t6 σ) (
  some (.tuple ⟨[]⟩, σ))
def slices_insertionSortOrdered_intL1 (call : CallF H) (f : Nat) (n : Nat) : Value → Value → Value → Value → St H → R H :=
  Nat.rec (fun _ _ _ _ _ => none) (fun _ r1 => fun t0 t1 t2 t6 σ =>
  slices_insertionSortOrdered_intJ5 call f r1 t0 t1 t2 t6 σ) n
def slices_insertionSortOrdered_intJ6 (call : CallF H) (f : Nat) (t0 t1 t2 : Value) (σ : St H) : R H :=
  bindV (abin .add t1 (I 1)) fun t9 =>
  slices_insertionSortOrdered_intL1 call f f t0 t1 t2 t9 σ
def slices_insertionSortOrdered_int (call : CallF H) (f : Nat) (a0 a1 a2 : Value) (σ : St H) : R H := slices_insertionSortOrdered_intJ6 call f a0 a1 a2 σ
theorem slices_insertionSortOrdered_intEq (call : CallF H) (f : Nat) (a0 a1 a2 : Value) (σ : St H) : kbody call f (codeOf P n_slices_insertionSortOrdered_int) [a0, a1, a2] σ = slices_insertionSortOrdered_int call f a0 a1 a2 σ :=
  kbody_of (rs := slices_insertionSortOrdered_intR) (by kernel_rfl) (by kernel_rfl) (by kernel_rfl) (seq_eq (by kernel_rfl) (block_eq (by kernel_rfl) (loop_eq (fun n e σ => slices_insertionSortOrdered_intL1 call f n (e 0) (e 1) (e 2) (e 6) σ) (by kernel_rfl) (by kernel_rfl) (fun n1 => (tr (seq_eq (by kernel_rfl) (seq_eq (by kernel_rfl) (leaf (B := fun e σ => slices_insertionSortOrdered_intJ2 call f (slices_insertionSortOrdered_intL1 call f n1) (e 0) (e 1) (e 2) (e 6) σ) (by kernel_rfl))
  (block_eq (by kernel_rfl) (seq_eq (by kernel_rfl) (block_eq (by kernel_rfl) (loop_eq (fun n e σ => slices_insertionSortOrdered_intL3 call f (slices_insertionSortOrdered_intL1 call f n1) n (e 0) (e 1) (e 2) (e 6) (e 7) σ) (by kernel_rfl) (by kernel_rfl) (fun n3 => (leaf (by kernel_rfl)))))
  (leaf (B := fun e σ => slices_insertionSortOrdered_intJ4 call f (slices_insertionSortOrdered_intL1 call f n1) (e 0) (e 1) (e 2) (e 6) σ) (by kernel_rfl)))))
  (leaf (B := fun e σ => slices_insertionSortOrdered_intJ5 call f (slices_insertionSortOrdered_intL1 call f n1) (e 0) (e 1) (e 2) (e 6) σ) (by kernel_rfl))) (by kernel_rfl)))))
  (leaf (B := fun e σ => slices_insertionSortOrdered_intJ6 call f (e 0) (e 1) (e 2) σ) (by kernel_rfl))) (by kernel_rfl)

abbrev slices_heapSortOrdered_intR : List ARes := []
def slices_heapSortOrdered_intL1 (call : CallF H) (f : Nat) (n : Nat) : Value → Value → Value → Value → St H → R H :=
  Nat.rec (fun _ _ _ _ _ => none) (fun _ r1 => fun t0 t6 t7 t10 σ =>
  bindV (abin .geq t10 (I 0)) fun t30 =>
  ifV t30 (
  bindV (abin .add t6 t10) fun t38 =>
  bindV (abin .add t6 t10) fun t42 =>
  bindV (vIndexAddr 1 t0 t42) fun t43 =>
  bindV (vLoad false 1 t43 σ) fun t44 =>
  bindV (vIndexAddr 1 t0 t6) fun t47 =>
  bindV (vLoad false 1 t47 σ) fun t48 =>
  bindV (vIndexAddr 1 t0 t6) fun t49 =>
  bindS (vStore 1 t49 t44 σ) fun σ =>
  bindV (vIndexAddr 1 t0 t38) fun t50 =>
  bindS (vStore 1 t50 t48 σ) fun σ =>
  bindR (call n_slices_siftDownOrdered_int [t0, t7, t10, t6] σ) fun t55 σ =>
  bindV (abin .sub t10 (I 1)) fun t32 =>
  r1 t0 t6 t7 t32 σ) (
  some (.tuple ⟨[]⟩, σ))) n
def slices_heapSortOrdered_intJ2 (call : CallF H) (f : Nat) (t0 t6 t7 t8 : Value) (σ : St H) : R H :=
  bindV (abin .sub t8 (I 1)) fun t28 =>
  slices_heapSortOrdered_intL1 call f f t0 t6 t7 t28 σ
def slices_heapSortOrdered_intL3 (call : CallF H) (f : Nat) (n : Nat) : Value → Value → Value → Value → Value → St H → R H :=
  Nat.rec (fun _ _ _ _ _ _ => none) (fun _ r3 => fun t0 t6 t7 t8 t9 σ =>
  bindV (abin .geq t9 (I 0)) fun t19 =>
  ifV t19 (
  bindR (call n_slices_siftDownOrdered_int [t0, t9, t8, t6] σ) fun t26 σ =>
  bindV (abin .sub t9 (I 1)) fun t21 =>
  r3 t0 t6 t7 t8 t21 σ) (
  slices_heapSortOrdered_intJ2 call f t0 t6 t7 t8 σ)) n
def slices_heapSortOrdered_intJ4 (call : CallF H) (f : Nat) (t0 t6 t7 t8 : Value) (σ : St H) : R H :=
  bindV (abin .sub t8 (I 1)) fun t16 =>
  bindV (abin .quo t16 (I 2)) fun t17 =>
  slices_heapSortOrdered_intL3 call f f t0 t6 t7 t8 t17 σ
def slices_heapSortOrdered_intJ5 (call : CallF H) (f : Nat) (t0 t1 t2 t6 t7 : Value) (σ : St H) : R H :=
  bindV (abin .sub t2 t1) fun t14 =>
  slices_heapSortOrdered_intJ4 call f t0 t6 t7 t14 σ
def slices_heapSortOrdered_intJ6 (call : CallF H) (f : Nat) (t0 t1 t2 t6 : Value) (σ : St H) : R H :=
  slices_heapSortOrdered_intJ5 call f t0 t1 t2 t6 (I 0) σ
def slices_heapSortOrdered_intJ7 (call : CallF H) (f : Nat) (t0 t1 t2 : Value) (σ : St H) : R H :=
  slices_heapSortOrdered_intJ6 call f t0 t1 t2 t1 σ
def slices_heapSortOrdered_int (call : CallF H) (f : Nat) (a0 a1 a2 : Value) (σ : St H) : R H := slices_heapSortOrdered_intJ7 call f a0 a1 a2 σ
theorem slices_heapSortOrdered_intEq (call : CallF H) (f : Nat) (a0 a1 a2 : Value) (σ : St H) : kbody call f (codeOf P n_slices_heapSortOrdered_int) [a0, a1, a2] σ = slices_heapSortOrdered_int call f a0 a1 a2 σ :=
  kbody_of (rs := slices_heapSortOrdered_intR) (by kernel_rfl) (by kernel_rfl) (by kernel_rfl) (seq_eq (by kernel_rfl) (seq_eq (by kernel_rfl) (seq_eq (by kernel_rfl) (seq_eq (by kernel_rfl) (seq_eq (by kernel_rfl) (block_eq (by kernel_rfl) (loop_eq (fun n e σ => slices_heapSortOrdered_intL1 call f n (e 0) (e 6) (e 7) (e 10) σ) (by kernel_rfl) (by kernel_rfl) (fun n1 => (leaf (by kernel_rfl)))))
  (leaf (B := fun e σ => slices_heapSortOrdered_intJ2 call f (e 0) (e 6) (e 7) (e 8) σ) (by kernel_rfl)))
  (seq_eq (by kernel_rfl) (block_eq (by kernel_rfl) (loop_eq (fun n e σ => slices_heapSortOrdered_intL3 call f n (e 0) (e 6) (e 7) (e 8) (e 9) σ) (by kernel_rfl) (by kernel_rfl) (fun n3 => (leaf (by kernel_rfl)))))
  (leaf (B := fun e σ => slices_heapSortOrdered_intJ4 call f (e 0) (e 6) (e 7) (e 8) σ) (by kernel_rfl))))
  (leaf (B := fun e σ => slices_heapSortOrdered_intJ5 call f (e 0) (e 1) (e 2) (e 6) (e 7) σ) (by kernel_rfl)))
  (leaf (B := fun e σ => slices_heapSortOrdered_intJ6 call f (e 0) (e 1) (e 2) (e 6) σ) (by kernel_rfl)))
  (leaf (B := fun e σ => slices_heapSortOrdered_intJ7 call f (e 0) (e 1) (e 2) σ) (by kernel_rfl))) (by kernel_rfl)

abbrev slices_breakPatternsOrdered_intR : List ARes := []
def slices_breakPatternsOrdered_intJ2 (call : CallF H) (f : Nat) (r1 : Value → Value → Value → Value → Value → Value → St H → R H) (t0 t1 t6 t7 t8 t9 t10 : Value) (σ : St H) : R H :=
  bindV (abin .add t1 t10) fun t52 =>
  bindV (abin .add t1 t10) fun t56 =>
  bindV (vIndexAddr 1 t0 t56) fun t57 =>
  bindV (vLoad false 1 t57 σ) fun t58 =>
  bindV (vIndexAddr 1 t0 t9) fun t61 =>
  bindV (vLoad false 1 t61 σ) fun t62 =>
  bindV (vIndexAddr 1 t0 t9) fun t63 =>
  bindS (vStore 1 t63 t58 σ) fun σ =>
  bindV (vIndexAddr 1 t0 t52) fun t64 =>
  bindS (vStore 1 t64 t62 σ) fun σ =>
  bindV (abin .add t9 (I 1)) fun t35 =>
  r1 t0 t1 t6 t7 t8 t35 σ
def slices_breakPatternsOrdered_intL1 (call : CallF H) (f : Nat) (n : Nat) : Value → Value → Value → Value → Value → Value → St H → R H :=
  Nat.rec (fun _ _ _ _ _ _ _ => none) (fun _ r1 => fun t0 t1 t6 t7 t8 t9 σ =>
  bindV (abin .quo t6 (I 4)) fun t29 =>
  bindV (abin .mul t29 (I 2)) fun t30 =>
  bindV (abin .add t1 t30) fun t31 =>
  bindV (abin .add t31 (I 1)) fun t32 =>
  bindV (abin .leq t9 t32) fun t33 =>
  ifV t33 (
  bindR (call n_slices_xorshift_Next [t7] σ) fun t36 σ =>
  bindV (abin .sub t8 (.int .u64 1)) fun t38 =>
  bindV (abin .and t36 t38) fun t39 =>
  bindV (vConv .i64 t39) fun t40 =>
  bindV (abin .geq t40 t6) fun t43 =>
  ifV t43 (
  bindV (abin .sub t40 t6) fun t46 =>
  slices_breakPatternsOrdered_intJ2 call f r1 t0 t1 t6 t7 t8 t9 t46 σ) (
  slices_breakPatternsOrdered_intJ2 call f r1 t0 t1 t6 t7 t8 t9 t40 σ)) (
  some (.tuple ⟨[]⟩, σ))) n
def slices_breakPatternsOrdered_intJ3 (call : CallF H) (f : Nat) (t0 t1 t6 t7 t8 : Value) (σ : St H) : R H :=
  bindV (abin .quo t6 (I 4)) fun t22 =>
  bindV (abin .mul t22 (I 2)) fun t23 =>
  bindV (abin .add t1 t23) fun t24 =>
  bindV (abin .sub t24 (I 1)) fun t25 =>
  slices_breakPatternsOrdered_intL1 call f f t0 t1 t6 t7 t8 t25 σ
def slices_breakPatternsOrdered_intJ4 (call : CallF H) (f : Nat) (t0 t1 t6 t7 : Value) (σ : St H) : R H :=
  bindR (call n_slices_nextPowerOfTwo [t6] σ) fun t19 σ =>
  slices_breakPatternsOrdered_intJ3 call f t0 t1 t6 t7 t19 σ
def slices_breakPatternsOrdered_intJ5 (call : CallF H) (f : Nat) (t0 t1 t6 : Value) (σ : St H) : R H :=
  bindV (vConv .u64 t6) fun t17 =>
  bindR (vBox (.int .u64 0) σ) fun t7 σ =>
  bindS (vStore 1 t7 t17 σ) fun σ =>
  slices_breakPatternsOrdered_intJ4 call f t0 t1 t6 t7 σ
def slices_breakPatternsOrdered_intJ6 (call : CallF H) (f : Nat) (t0 t1 t6 t15 : Value) (σ : St H) : R H :=
  ifV t15 (slices_breakPatternsOrdered_intJ5 call f t0 t1 t6 σ) (some (.tuple ⟨[]⟩, σ))
def slices_breakPatternsOrdered_intJ7 (call : CallF H) (f : Nat) (t0 t1 t6 : Value) (σ : St H) : R H :=
  bindV (abin .geq t6 (I 8)) fun t15 =>
  slices_breakPatternsOrdered_intJ6 call f t0 t1 t6 t15 σ
def slices_breakPatternsOrdered_intJ8 (call : CallF H) (f : Nat) (t0 t1 t2 : Value) (σ : St H) : R H :=
  bindV (abin .sub t2 t1) fun t13 =>
  slices_breakPatternsOrdered_intJ7 call f t0 t1 t13 σ
def slices_breakPatternsOrdered_int (call : CallF H) (f : Nat) (a0 a1 a2 : Value) (σ : St H) : R H := slices_breakPatternsOrdered_intJ8 call f a0 a1 a2 σ
theorem slices_breakPatternsOrdered_intEq (call : CallF H) (f : Nat) (a0 a1 a2 : Value) (σ : St H) : kbody call f (codeOf P n_slices_breakPatternsOrdered_int) [a0, a1, a2] σ = slices_breakPatternsOrdered_int call f a0 a1 a2 σ :=
  kbody_of (rs := slices_breakPatternsOrdered_intR) (by kernel_rfl) (by kernel_rfl) (by kernel_rfl) (seq_eq (by kernel_rfl) (seq_eq (by kernel_rfl) (tr (B := fun e σ => slices_breakPatternsOrdered_intJ6 call f (e 0) (e 1) (e 6) (e 15) σ) (cond_eq (by kernel_rfl) (seq_eq (by kernel_rfl) (seq_eq (by kernel_rfl) (seq_eq (by kernel_rfl) (block_eq (by kernel_rfl) (loop_eq (fun n e σ => slices_breakPatternsOrdered_intL1 call f n (e 0) (e 1) (e 6) (e 7) (e 8) (e 9) σ) (by kernel_rfl) (by kernel_rfl) (fun n1 => (leaf (by kernel_rfl)))))
  (leaf (B := fun e σ => slices_breakPatternsOrdered_intJ3 call f (e 0) (e 1) (e 6) (e 7) (e 8) σ) (by kernel_rfl)))
  (leaf (B := fun e σ => slices_breakPatternsOrdered_intJ4 call f (e 0) (e 1) (e 6) (e 7) σ) (by kernel_rfl)))
  (leaf (B := fun e σ => slices_breakPatternsOrdered_intJ5 call f (e 0) (e 1) (e 6) σ) (by kernel_rfl)))
  (leaf (B := fun e σ => karesV e σ slices_breakPatternsOrdered_intR) (by kernel_rfl))) (by kernel_rfl))
  (leaf (B := fun e σ => slices_breakPatternsOrdered_intJ7 call f (e 0) (e 1) (e 6) σ) (by kernel_rfl)))
  (leaf (B := fun e σ => slices_breakPatternsOrdered_intJ8 call f (e 0) (e 1) (e 2) σ) (by kernel_rfl))) (by kernel_rfl)

def slices_choosePivotOrdered_intJ1 (call : CallF H) (f : Nat) (t9 t11 : Value) (σ : St H) : R H :=
  bindV (vLoad false 1 t9 σ) fun t49 =>
  bindV (abin .eql t49 (I 0)) fun t52 =>
  ifV t52 (
  some (.tuple ⟨[t11, (I 1)]⟩, σ)) (
  bindV (abin .eql t49 (I 12)) fun t55 =>
  ifV t55 (
  some (.tuple ⟨[t11, (I 2)]⟩, σ)) (
  some (.tuple ⟨[t11, (I 0)]⟩, σ)))
def slices_choosePivotOrdered_intJ2 (call : CallF H) (f : Nat) (t0 t9 t10 t11 t12 : Value) (σ : St H) : R H :=
  bindR (call n_slices_medianOrdered_int [t0, t10, t11, t12, t9] σ) fun t48 σ =>
  slices_choosePivotOrdered_intJ1 call f t9 t48 σ
def slices_choosePivotOrdered_int (call : CallF H) (f : Nat) (a0 a1 a2 : Value) (σ : St H) : R H :=
  bindV (abin .sub a2 a1) fun t15 =>
  bindR (vBox (I 0) σ) fun t9 σ =>
  bindV (abin .quo t15 (I 4)) fun t18 =>
  bindV (abin .mul t18 (I 1)) fun t19 =>
  bindV (abin .add a1 t19) fun t20 =>
  bindV (abin .quo t15 (I 4)) fun t23 =>
  bindV (abin .mul t23 (I 2)) fun t24 =>
  bindV (abin .add a1 t24) fun t25 =>
  bindV (abin .quo t15 (I 4)) fun t28 =>
  bindV (abin .mul t28 (I 3)) fun t29 =>
  bindV (abin .add a1 t29) fun t30 =>
  bindV (abin .geq t15 (I 8)) fun t32 =>
  ifV t32 (
  bindV (abin .geq t15 (I 50)) fun t34 =>
  ifV t34 (
  bindR (call n_slices_medianAdjacentOrdered_int [a0, t20, t9] σ) fun t37 σ =>
  bindR (call n_slices_medianAdjacentOrdered_int [a0, t25, t9] σ) fun t40 σ =>
  bindR (call n_slices_medianAdjacentOrdered_int [a0, t30, t9] σ) fun t43 σ =>
  slices_choosePivotOrdered_intJ2 call f a0 t9 t37 t40 t43 σ) (
  slices_choosePivotOrdered_intJ2 call f a0 t9 t20 t25 t30 σ)) (
  slices_choosePivotOrdered_intJ1 call f t9 t25 σ)
theorem slices_choosePivotOrdered_intEq (call : CallF H) (f : Nat) (a0 a1 a2 : Value) (σ : St H) : kbody call f (codeOf P n_slices_choosePivotOrdered_int) [a0, a1, a2] σ = slices_choosePivotOrdered_int call f a0 a1 a2 σ := by kernel_rfl

abbrev slices_reverseRangeOrdered_intR : List ARes := []
def slices_reverseRangeOrdered_intL1 (call : CallF H) (f : Nat) (n : Nat) : Value → Value → Value → St H → R H :=
  Nat.rec (fun _ _ _ _ => none) (fun _ r1 => fun t0 t6 t7 σ =>
  bindV (abin .lss t6 t7) fun t13 =>
  ifV t13 (
  bindV (vIndexAddr 1 t0 t7) fun t20 =>
  bindV (vLoad false 1 t20 σ) fun t21 =>
  bindV (vIndexAddr 1 t0 t6) fun t24 =>
  bindV (vLoad false 1 t24 σ) fun t25 =>
  bindV (vIndexAddr 1 t0 t6) fun t26 =>
  bindS (vStore 1 t26 t21 σ) fun σ =>
  bindV (vIndexAddr 1 t0 t7) fun t27 =>
  bindS (vStore 1 t27 t25 σ) fun σ =>
  bindV (abin .add t6 (I 1)) fun t29 =>
  bindV (abin .sub t7 (I 1)) fun t31 =>
  r1 t0 t29 t31 σ) (
  some (.tuple ⟨[]⟩, σ))) n
def slices_reverseRangeOrdered_intJ2 (call : CallF H) (f : Nat) (t0 t2 t6 : Value) (σ : St H) : R H :=
  bindV (abin .sub t2 (I 1)) fun t10 =>
  slices_reverseRangeOrdered_intL1 call f f t0 t6 t10 σ
def slices_reverseRangeOrdered_intJ3 (call : CallF H) (f : Nat) (t0 t1 t2 : Value) (σ : St H) : R H :=
  slices_reverseRangeOrdered_intJ2 call f t0 t2 t1 σ
def slices_reverseRangeOrdered_int (call : CallF H) (f : Nat) (a0 a1 a2 : Value) (σ : St H) : R H := slices_reverseRangeOrdered_intJ3 call f a0 a1 a2 σ
theorem slices_reverseRangeOrdered_intEq (call : CallF H) (f : Nat) (a0 a1 a2 : Value) (σ : St H) : kbody call f (codeOf P n_slices_reverseRangeOrdered_int) [a0, a1, a2] σ = slices_reverseRangeOrdered_int call f a0 a1 a2 σ :=
  kbody_of (rs := slices_reverseRangeOrdered_intR) (by kernel_rfl) (by kernel_rfl) (by kernel_rfl) (seq_eq (by kernel_rfl) (seq_eq (by kernel_rfl) (block_eq (by kernel_rfl) (loop_eq (fun n e σ => slices_reverseRangeOrdered_intL1 call f n (e 0) (e 6) (e 7) σ) (by kernel_rfl) (by kernel_rfl) (fun n1 => (leaf (by kernel_rfl)))))
  (leaf (B := fun e σ => slices_reverseRangeOrdered_intJ2 call f (e 0) (e 2) (e 6) σ) (by kernel_rfl)))
  (leaf (B := fun e σ => slices_reverseRangeOrdered_intJ3 call f (e 0) (e 1) (e 2) σ) (by kernel_rfl))) (by kernel_rfl)

abbrev slices_partialInsertionSortOrdered_intR : List ARes := [.tmp 6]
def slices_partialInsertionSortOrdered_intJ1 (call : CallF H) (f : Nat) (σ : St H) : R H :=
  some (ff, σ)
def slices_partialInsertionSortOrdered_intJ3 (call : CallF H) (f : Nat) (r2 : Value → Value → Value → Value → Value → St H → R H) (t0 t1 t2 t7 t8 : Value) (σ : St H) : R H :=
  bindV (abin .add t8 (I 1)) fun t16 =>
  r2 t0 t1 t2 t7 t16 σ
def slices_partialInsertionSortOrdered_intL4 (call : CallF H) (f : Nat) (r2 : Value → Value → Value → Value → Value → St H → R H) (n : Nat) : Value → Value → Value → Value → Value → Value → St H → R H :=
  Nat.rec (fun _ _ _ _ _ _ _ => none) (fun _ r4 => fun t0 t1 t2 t7 t8 t10 σ =>
  bindV (abin .lss t10 t2) fun t103 =>
  ifV t103 (
  bindV (vIndexAddr 1 t0 t10) fun t108 =>
  bindV (vLoad false 1 t108 σ) fun t109 =>
  bindV (abin .sub t10 (I 1)) fun t112 =>
  bindV (vIndexAddr 1 t0 t112) fun t113 =>
  bindV (vLoad false 1 t113 σ) fun t114 =>
  bindR (call n_cmp_Less_int [t109, t114] σ) fun t115 σ =>
  bindV (aun .not t115) fun t116 =>
  ifV t116 (
  slices_partialInsertionSortOrdered_intJ3 call f r2 t0 t1 t2 t7 t8 σ) (
  bindV (abin .sub t10 (I 1)) fun t121 =>
  bindV (abin .sub t10 (I 1)) fun t124 =>
  bindV (vIndexAddr 1 t0 t124) fun t125 =>
  bindV (vLoad false 1 t125 σ) fun t126 =>
  bindV (vIndexAddr 1 t0 t10) fun t129 =>
  bindV (vLoad false 1 t129 σ) fun t130 =>
  bindV (vIndexAddr 1 t0 t10) fun t131 =>
  bindS (vStore 1 t131 t126 σ) fun σ =>
  bindV (vIndexAddr 1 t0 t121) fun t132 =>
  bindS (vStore 1 t132 t130 σ) fun σ =>
  bindV (abin .add t10 (I 1)) fun t105 =>
  r4 t0 t1 t2 t7 t8 t105 σ)) (
  slices_partialInsertionSortOrdered_intJ3 call f r2 t0 t1 t2 t7 t8 σ)) n
def slices_partialInsertionSortOrdered_intJ5 (call : CallF H) (f : Nat) (r2 : Value → Value → Value → Value → Value → St H → R H) (t0 t1 t2 t7 t8 : Value) (σ : St H) : R H :=
  bindV (abin .add t7 (I 1)) fun t100 =>
  slices_partialInsertionSortOrdered_intL4 call f r2 f t0 t1 t2 t7 t8 t100 σ
def slices_partialInsertionSortOrdered_intJ6 (call : CallF H) (f : Nat) (r2 : Value → Value → Value → Value → Value → St H → R H) (t0 t1 t2 t7 t8 t98 : Value) (σ : St H) : R H :=
  ifV t98 (slices_partialInsertionSortOrdered_intJ5 call f r2 t0 t1 t2 t7 t8 σ) (slices_partialInsertionSortOrdered_intJ3 call f r2 t0 t1 t2 t7 t8 σ)
def slices_partialInsertionSortOrdered_intJ7 (call : CallF H) (f : Nat) (r2 : Value → Value → Value → Value → Value → St H → R H) (t0 t1 t2 t7 t8 : Value) (σ : St H) : R H :=
  bindV (abin .sub t2 t7) fun t97 =>
  bindV (abin .geq t97 (I 2)) fun t98 =>
  slices_partialInsertionSortOrdered_intJ6 call f r2 t0 t1 t2 t7 t8 t98 σ
def slices_partialInsertionSortOrdered_intL8 (call : CallF H) (f : Nat) (r2 : Value → Value → Value → Value → Value → St H → R H) (n : Nat) : Value → Value → Value → Value → Value → Value → St H → R H :=
  Nat.rec (fun _ _ _ _ _ _ _ => none) (fun _ r8 => fun t0 t1 t2 t7 t8 t9 σ =>
  bindV (abin .geq t9 (I 1)) fun t65 =>
  ifV t65 (
  bindV (vIndexAddr 1 t0 t9) fun t70 =>
  bindV (vLoad false 1 t70 σ) fun t71 =>
  bindV (abin .sub t9 (I 1)) fun t74 =>
  bindV (vIndexAddr 1 t0 t74) fun t75 =>
  bindV (vLoad false 1 t75 σ) fun t76 =>
  bindR (call n_cmp_Less_int [t71, t76] σ) fun t77 σ =>
  bindV (aun .not t77) fun t78 =>
  ifV t78 (
  slices_partialInsertionSortOrdered_intJ7 call f r2 t0 t1 t2 t7 t8 σ) (
  bindV (abin .sub t9 (I 1)) fun t83 =>
  bindV (abin .sub t9 (I 1)) fun t86 =>
  bindV (vIndexAddr 1 t0 t86) fun t87 =>
  bindV (vLoad false 1 t87 σ) fun t88 =>
  bindV (vIndexAddr 1 t0 t9) fun t91 =>
  bindV (vLoad false 1 t91 σ) fun t92 =>
  bindV (vIndexAddr 1 t0 t9) fun t93 =>
  bindS (vStore 1 t93 t88 σ) fun σ =>
  bindV (vIndexAddr 1 t0 t83) fun t94 =>
  bindS (vStore 1 t94 t92 σ) fun σ =>
  bindV (abin .sub t9 (I 1)) fun t67 =>
  r8 t0 t1 t2 t7 t8 t67 σ)) (
  slices_partialInsertionSortOrdered_intJ7 call f r2 t0 t1 t2 t7 t8 σ)) n
def slices_partialInsertionSortOrdered_intJ9 (call : CallF H) (f : Nat) (r2 : Value → Value → Value → Value → Value → St H → R H) (t0 t1 t2 t7 t8 : Value) (σ : St H) : R H :=
  bindV (abin .sub t7 (I 1)) fun t63 =>
  slices_partialInsertionSortOrdered_intL8 call f r2 f t0 t1 t2 t7 t8 t63 σ
def slices_partialInsertionSortOrdered_intJ10 (call : CallF H) (f : Nat) (r2 : Value → Value → Value → Value → Value → St H → R H) (t0 t1 t2 t7 t8 t61 : Value) (σ : St H) : R H :=
  ifV t61 (slices_partialInsertionSortOrdered_intJ9 call f r2 t0 t1 t2 t7 t8 σ) (slices_partialInsertionSortOrdered_intJ7 call f r2 t0 t1 t2 t7 t8 σ)
def slices_partialInsertionSortOrdered_intJ11 (call : CallF H) (f : Nat) (r2 : Value → Value → Value → Value → Value → St H → R H) (t0 t1 t2 t7 t8 : Value) (σ : St H) : R H :=
  bindV (abin .sub t7 t1) fun t60 =>
  bindV (abin .geq t60 (I 2)) fun t61 =>
  slices_partialInsertionSortOrdered_intJ10 call f r2 t0 t1 t2 t7 t8 t61 σ
def slices_partialInsertionSortOrdered_intJ12 (call : CallF H) (f : Nat) (r2 : Value → Value → Value → Value → Value → St H → R H) (t0 t1 t2 t7 t8 : Value) (σ : St H) : R H :=
  bindV (abin .sub t7 (I 1)) fun t46 =>
  bindV (abin .sub t7 (I 1)) fun t49 =>
  bindV (vIndexAddr 1 t0 t49) fun t50 =>
  bindV (vLoad false 1 t50 σ) fun t51 =>
  bindV (vIndexAddr 1 t0 t7) fun t54 =>
  bindV (vLoad false 1 t54 σ) fun t55 =>
  bindV (vIndexAddr 1 t0 t7) fun t56 =>
  bindS (vStore 1 t56 t51 σ) fun σ =>
  bindV (vIndexAddr 1 t0 t46) fun t57 =>
  bindS (vStore 1 t57 t55 σ) fun σ =>
  slices_partialInsertionSortOrdered_intJ11 call f r2 t0 t1 t2 t7 t8 σ
def slices_partialInsertionSortOrdered_intJ13 (call : CallF H) (f : Nat) (r2 : Value → Value → Value → Value → Value → St H → R H) (t0 t1 t2 t7 t8 : Value) (σ : St H) : R H :=
  bindV (abin .sub t2 t1) fun t40 =>
  bindV (abin .lss t40 (I 50)) fun t41 =>
  ifV t41 (
  some (ff, σ)) (
  slices_partialInsertionSortOrdered_intJ12 call f r2 t0 t1 t2 t7 t8 σ)
def slices_partialInsertionSortOrdered_intJ14 (call : CallF H) (f : Nat) (r2 : Value → Value → Value → Value → Value → St H → R H) (t0 t1 t2 t7 t8 : Value) (σ : St H) : R H :=
  bindV (abin .eql t7 t2) fun t37 =>
  ifV t37 (
  some (tt, σ)) (
  slices_partialInsertionSortOrdered_intJ13 call f r2 t0 t1 t2 t7 t8 σ)
def slices_partialInsertionSortOrdered_intL15 (call : CallF H) (f : Nat) (r2 : Value → Value → Value → Value → Value → St H → R H) (n : Nat) : Value → Value → Value → Value → Value → St H → R H :=
  Nat.rec (fun _ _ _ _ _ _ => none) (fun _ r15 => fun t0 t1 t2 t7 t8 σ =>
  bindV (abin .lss t7 t2) fun t19 =>
  bindV (bif kyes t19 true then some t0 else some undefV) fun t21 =>
  bindV (bif kyes t19 true then some t7 else some undefV) fun t22 =>
  bindV (bif kyes t19 true then vIndexAddr 1 t21 t22 else some undefV) fun t23 =>
  bindV (bif kyes t19 true then vLoad false 1 t23 σ else some undefV) fun t24 =>
  bindV (bif kyes t19 true then some t0 else some undefV) fun t25 =>
  bindV (bif kyes t19 true then some t7 else some undefV) fun t26 =>
  bindV (bif kyes t19 true then abin .sub t26 (I 1) else some undefV) fun t27 =>
  bindV (bif kyes t19 true then vIndexAddr 1 t25 t27 else some undefV) fun t28 =>
  bindV (bif kyes t19 true then vLoad false 1 t28 σ else some undefV) fun t29 =>
  bindR (bif kyes t19 true then call n_cmp_Less_int [t24, t29] σ else some (undefV, σ)) fun t30 σ =>
  bindV (bif kyes t19 true then aun .not t30 else some undefV) fun t31 =>
  bindV (vPick t19 t31 ff) fun t32 =>
  ifV t32 (
  bindV (abin .add t7 (I 1)) fun t34 =>
  r15 t0 t1 t2 t34 t8 σ) (
  slices_partialInsertionSortOrdered_intJ14 call f r2 t0 t1 t2 t7 t8 σ)) n
def slices_partialInsertionSortOrdered_intJ16 (call : CallF H) (f : Nat) (r2 : Value → Value → Value → Value → Value → St H → R H) (t0 t1 t2 t7 t8 : Value) (σ : St H) : R H :=
  bindV (abin .lss t8 (I 5)) fun t14 =>
  ifV t14 (
  slices_partialInsertionSortOrdered_intL15 call f r2 f t0 t1 t2 t7 t8 σ) (
  slices_partialInsertionSortOrdered_intJ1 call f σ)
def slices_partialInsertionSortOrdered_intL2 (call : CallF H) (f : Nat) (n : Nat) : Value → Value → Value → Value → Value → St H → R H :=
  Nat.rec (fun _ _ _ _ _ _ => none) (fun _ r2 => fun t0 t1 t2 t7 t8 σ =>
  slices_partialInsertionSortOrdered_intJ16 call f r2 t0 t1 t2 t7 t8 σ) n
def slices_partialInsertionSortOrdered_intJ17 (call : CallF H) (f : Nat) (t0 t1 t2 t7 : Value) (σ : St H) : R H :=
  slices_partialInsertionSortOrdered_intL2 call f f t0 t1 t2 t7 (I 0) σ
def slices_partialInsertionSortOrdered_intJ18 (call : CallF H) (f : Nat) (t0 t1 t2 : Value) (σ : St H) : R H :=
  bindV (abin .add t1 (I 1)) fun t12 =>
  slices_partialInsertionSortOrdered_intJ17 call f t0 t1 t2 t12 σ
def slices_partialInsertionSortOrdered_intJ19 (call : CallF H) (f : Nat) (t0 t1 t2 : Value) (σ : St H) : R H :=
  slices_partialInsertionSortOrdered_intJ18 call f t0 t1 t2 σ
def slices_partialInsertionSortOrdered_int (call : CallF H) (f : Nat) (a0 a1 a2 : Value) (σ : St H) : R H := slices_partialInsertionSortOrdered_intJ19 call f a0 a1 a2 σ
theorem slices_partialInsertionSortOrdered_intEq (call : CallF H) (f : Nat) (a0 a1 a2 : Value) (σ : St H) : kbody call f (codeOf P n_slices_partialInsertionSortOrdered_int) [a0, a1, a2] σ = slices_partialInsertionSortOrdered_int call f a0 a1 a2 σ :=
  kbody_of (rs := slices_partialInsertionSortOrdered_intR) (by kernel_rfl) (by kernel_rfl) (by kernel_rfl) (seq_eq (by kernel_rfl) (seq_eq (by kernel_rfl) (seq_eq (by kernel_rfl) (leaf (B := fun e σ => slices_partialInsertionSortOrdered_intJ1 call f σ) (by kernel_rfl))
  (seq_eq (by kernel_rfl) (block_eq (by kernel_rfl) (loop_eq (fun n e σ => slices_partialInsertionSortOrdered_intL2 call f n (e 0) (e 1) (e 2) (e 7) (e 8) σ) (by kernel_rfl) (by kernel_rfl) (fun n2 => (tr (seq_eq (by kernel_rfl) (seq_eq (by kernel_rfl) (leaf (B := fun e σ => slices_partialInsertionSortOrdered_intJ3 call f (slices_partialInsertionSortOrdered_intL2 call f n2) (e 0) (e 1) (e 2) (e 7) (e 8) σ) (by kernel_rfl))
  (block_eq (by kernel_rfl) (seq_eq (by kernel_rfl) (seq_eq (by kernel_rfl) (seq_eq (by kernel_rfl) (seq_eq (by kernel_rfl) (seq_eq (by kernel_rfl) (seq_eq (by kernel_rfl) (tr (B := fun e σ => slices_partialInsertionSortOrdered_intJ6 call f (slices_partialInsertionSortOrdered_intL2 call f n2) (e 0) (e 1) (e 2) (e 7) (e 8) (e 98) σ) (cond_eq (by kernel_rfl) (seq_eq (by kernel_rfl) (block_eq (by kernel_rfl) (loop_eq (fun n e σ => slices_partialInsertionSortOrdered_intL4 call f (slices_partialInsertionSortOrdered_intL2 call f n2) n (e 0) (e 1) (e 2) (e 7) (e 8) (e 10) σ) (by kernel_rfl) (by kernel_rfl) (fun n4 => (leaf (by kernel_rfl)))))
  (leaf (B := fun e σ => slices_partialInsertionSortOrdered_intJ5 call f (slices_partialInsertionSortOrdered_intL2 call f n2) (e 0) (e 1) (e 2) (e 7) (e 8) σ) (by kernel_rfl)))
  (leaf (B := fun e σ => slices_partialInsertionSortOrdered_intJ3 call f (slices_partialInsertionSortOrdered_intL2 call f n2) (e 0) (e 1) (e 2) (e 7) (e 8) σ) (by kernel_rfl))) (by kernel_rfl))
  (leaf (B := fun e σ => slices_partialInsertionSortOrdered_intJ7 call f (slices_partialInsertionSortOrdered_intL2 call f n2) (e 0) (e 1) (e 2) (e 7) (e 8) σ) (by kernel_rfl)))
  (seq_eq (by kernel_rfl) (tr (B := fun e σ => slices_partialInsertionSortOrdered_intJ10 call f (slices_partialInsertionSortOrdered_intL2 call f n2) (e 0) (e 1) (e 2) (e 7) (e 8) (e 61) σ) (cond_eq (by kernel_rfl) (seq_eq (by kernel_rfl) (block_eq (by kernel_rfl) (loop_eq (fun n e σ => slices_partialInsertionSortOrdered_intL8 call f (slices_partialInsertionSortOrdered_intL2 call f n2) n (e 0) (e 1) (e 2) (e 7) (e 8) (e 9) σ) (by kernel_rfl) (by kernel_rfl) (fun n8 => (leaf (by kernel_rfl)))))
  (leaf (B := fun e σ => slices_partialInsertionSortOrdered_intJ9 call f (slices_partialInsertionSortOrdered_intL2 call f n2) (e 0) (e 1) (e 2) (e 7) (e 8) σ) (by kernel_rfl)))
  (leaf (B := fun e σ => slices_partialInsertionSortOrdered_intJ7 call f (slices_partialInsertionSortOrdered_intL2 call f n2) (e 0) (e 1) (e 2) (e 7) (e 8) σ) (by kernel_rfl))) (by kernel_rfl))
  (leaf (B := fun e σ => slices_partialInsertionSortOrdered_intJ11 call f (slices_partialInsertionSortOrdered_intL2 call f n2) (e 0) (e 1) (e 2) (e 7) (e 8) σ) (by kernel_rfl))))
  (leaf (B := fun e σ => slices_partialInsertionSortOrdered_intJ12 call f (slices_partialInsertionSortOrdered_intL2 call f n2) (e 0) (e 1) (e 2) (e 7) (e 8) σ) (by kernel_rfl)))
  (leaf (B := fun e σ => slices_partialInsertionSortOrdered_intJ13 call f (slices_partialInsertionSortOrdered_intL2 call f n2) (e 0) (e 1) (e 2) (e 7) (e 8) σ) (by kernel_rfl)))
  (leaf (B := fun e σ => slices_partialInsertionSortOrdered_intJ14 call f (slices_partialInsertionSortOrdered_intL2 call f n2) (e 0) (e 1) (e 2) (e 7) (e 8) σ) (by kernel_rfl)))
  (block_eq (by kernel_rfl) (loop_eq (fun n e σ => slices_partialInsertionSortOrdered_intL15 call f (slices_partialInsertionSortOrdered_intL2 call f n2) n (e 0) (e 1) (e 2) (e 7) (e 8) σ) (by kernel_rfl) (by kernel_rfl) (fun n15 => (leaf (by kernel_rfl))))))))
  (leaf (B := fun e σ => slices_partialInsertionSortOrdered_intJ16 call f (slices_partialInsertionSortOrdered_intL2 call f n2) (e 0) (e 1) (e 2) (e 7) (e 8) σ) (by kernel_rfl))) (by kernel_rfl)))))
  (leaf (B := fun e σ => slices_partialInsertionSortOrdered_intJ17 call f (e 0) (e 1) (e 2) (e 7) σ) (by kernel_rfl))))
  (leaf (B := fun e σ => slices_partialInsertionSortOrdered_intJ18 call f (e 0) (e 1) (e 2) σ) (by kernel_rfl)))
  (leaf (B := fun e σ => slices_partialInsertionSortOrdered_intJ19 call f (e 0) (e 1) (e 2) σ) (by kernel_rfl))) (by kernel_rfl)

def cmp_Less_int (call : CallF H) (f : Nat) (a0 a1 : Value) (σ : St H) : R H :=
  bindR (call n_cmp_isNaN_int [a0] σ) fun t6 σ =>
  bindV (bif kyes t6 true then some a1 else some undefV) fun t8 =>
  bindR (bif kyes t6 true then call n_cmp_isNaN_int [t8] σ else some (undefV, σ)) fun t9 σ =>
  bindV (bif kyes t6 true then aun .not t9 else some undefV) fun t10 =>
  bindV (vPick t6 t10 ff) fun t11 =>
  bindV (bif kyes t11 false then some a0 else some undefV) fun t13 =>
  bindV (bif kyes t11 false then some a1 else some undefV) fun t14 =>
  bindV (bif kyes t11 false then abin .lss t13 t14 else some undefV) fun t15 =>
  bindV (vPick t11 tt t15) fun t16 =>
  some (t16, σ)
theorem cmp_Less_intEq (call : CallF H) (f : Nat) (a0 a1 : Value) (σ : St H) : kbody call f (codeOf P n_cmp_Less_int) [a0, a1] σ = cmp_Less_int call f a0 a1 σ := by kernel_rfl

abbrev slices_partitionEqualOrdered_intR : List ARes := [.tmp 8]
def slices_partitionEqualOrdered_intJ1 (call : CallF H) (f : Nat) (t9 : Value) (σ : St H) : R H :=
  some (t9, σ)
def slices_partitionEqualOrdered_intJ3 (call : CallF H) (f : Nat) (r2 : Value → Value → Value → Value → St H → R H) (t0 t1 t9 t10 : Value) (σ : St H) : R H :=
  bindV (abin .gtr t9 t10) fun t64 =>
  ifV t64 (
  slices_partitionEqualOrdered_intJ1 call f t9 σ) (
  bindV (vIndexAddr 1 t0 t10) fun t71 =>
  bindV (vLoad false 1 t71 σ) fun t72 =>
  bindV (vIndexAddr 1 t0 t9) fun t75 =>
  bindV (vLoad false 1 t75 σ) fun t76 =>
  bindV (vIndexAddr 1 t0 t9) fun t77 =>
  bindS (vStore 1 t77 t72 σ) fun σ =>
  bindV (vIndexAddr 1 t0 t10) fun t78 =>
  bindS (vStore 1 t78 t76 σ) fun σ =>
  bindV (abin .add t9 (I 1)) fun t80 =>
  bindV (abin .sub t10 (I 1)) fun t82 =>
  r2 t0 t1 t80 t82 σ)
def slices_partitionEqualOrdered_intL4 (call : CallF H) (f : Nat) (r2 : Value → Value → Value → Value → St H → R H) (n : Nat) : Value → Value → Value → Value → St H → R H :=
  Nat.rec (fun _ _ _ _ _ => none) (fun _ r4 => fun t0 t1 t9 t10 σ =>
  bindV (abin .leq t9 t10) fun t48 =>
  bindV (bif kyes t48 true then some t0 else some undefV) fun t50 =>
  bindV (bif kyes t48 true then some t1 else some undefV) fun t51 =>
  bindV (bif kyes t48 true then vIndexAddr 1 t50 t51 else some undefV) fun t52 =>
  bindV (bif kyes t48 true then vLoad false 1 t52 σ else some undefV) fun t53 =>
  bindV (bif kyes t48 true then some t0 else some undefV) fun t54 =>
  bindV (bif kyes t48 true then some t10 else some undefV) fun t55 =>
  bindV (bif kyes t48 true then vIndexAddr 1 t54 t55 else some undefV) fun t56 =>
  bindV (bif kyes t48 true then vLoad false 1 t56 σ else some undefV) fun t57 =>
  bindR (bif kyes t48 true then call n_cmp_Less_int [t53, t57] σ else some (undefV, σ)) fun t58 σ =>
  bindV (vPick t48 t58 ff) fun t59 =>
  ifV t59 (
  bindV (abin .sub t10 (I 1)) fun t61 =>
  r4 t0 t1 t9 t61 σ) (
  slices_partitionEqualOrdered_intJ3 call f r2 t0 t1 t9 t10 σ)) n
def slices_partitionEqualOrdered_intL5 (call : CallF H) (f : Nat) (r2 : Value → Value → Value → Value → St H → R H) (n : Nat) : Value → Value → Value → Value → St H → R H :=
  Nat.rec (fun _ _ _ _ _ => none) (fun _ r5 => fun t0 t1 t9 t10 σ =>
  bindV (abin .leq t9 t10) fun t31 =>
  bindV (bif kyes t31 true then some t0 else some undefV) fun t33 =>
  bindV (bif kyes t31 true then some t1 else some undefV) fun t34 =>
  bindV (bif kyes t31 true then vIndexAddr 1 t33 t34 else some undefV) fun t35 =>
  bindV (bif kyes t31 true then vLoad false 1 t35 σ else some undefV) fun t36 =>
  bindV (bif kyes t31 true then some t0 else some undefV) fun t37 =>
  bindV (bif kyes t31 true then some t9 else some undefV) fun t38 =>
  bindV (bif kyes t31 true then vIndexAddr 1 t37 t38 else some undefV) fun t39 =>
  bindV (bif kyes t31 true then vLoad false 1 t39 σ else some undefV) fun t40 =>
  bindR (bif kyes t31 true then call n_cmp_Less_int [t36, t40] σ else some (undefV, σ)) fun t41 σ =>
  bindV (bif kyes t31 true then aun .not t41 else some undefV) fun t42 =>
  bindV (vPick t31 t42 ff) fun t43 =>
  ifV t43 (
  bindV (abin .add t9 (I 1)) fun t45 =>
  r5 t0 t1 t45 t10 σ) (
  slices_partitionEqualOrdered_intL4 call f r2 f t0 t1 t9 t10 σ)) n
def slices_partitionEqualOrdered_intL2 (call : CallF H) (f : Nat) (n : Nat) : Value → Value → Value → Value → St H → R H :=
  Nat.rec (fun _ _ _ _ _ => none) (fun _ r2 => fun t0 t1 t9 t10 σ =>
  slices_partitionEqualOrdered_intL5 call f r2 f t0 t1 t9 t10 σ) n
def slices_partitionEqualOrdered_intJ6 (call : CallF H) (f : Nat) (t0 t1 t2 : Value) (σ : St H) : R H :=
  bindV (abin .add t1 (I 1)) fun t26 =>
  bindV (abin .sub t2 (I 1)) fun t28 =>
  slices_partitionEqualOrdered_intL2 call f f t0 t1 t26 t28 σ
def slices_partitionEqualOrdered_intJ7 (call : CallF H) (f : Nat) (t0 t1 t2 t3 : Value) (σ : St H) : R H :=
  bindV (vIndexAddr 1 t0 t3) fun t17 =>
  bindV (vLoad false 1 t17 σ) fun t18 =>
  bindV (vIndexAddr 1 t0 t1) fun t21 =>
  bindV (vLoad false 1 t21 σ) fun t22 =>
  bindV (vIndexAddr 1 t0 t1) fun t23 =>
  bindS (vStore 1 t23 t18 σ) fun σ =>
  bindV (vIndexAddr 1 t0 t3) fun t24 =>
  bindS (vStore 1 t24 t22 σ) fun σ =>
  slices_partitionEqualOrdered_intJ6 call f t0 t1 t2 σ
def slices_partitionEqualOrdered_intJ8 (call : CallF H) (f : Nat) (t0 t1 t2 t3 : Value) (σ : St H) : R H :=
  slices_partitionEqualOrdered_intJ7 call f t0 t1 t2 t3 σ
def slices_partitionEqualOrdered_int (call : CallF H) (f : Nat) (a0 a1 a2 a3 : Value) (σ : St H) : R H := slices_partitionEqualOrdered_intJ8 call f a0 a1 a2 a3 σ
theorem slices_partitionEqualOrdered_intEq (call : CallF H) (f : Nat) (a0 a1 a2 a3 : Value) (σ : St H) : kbody call f (codeOf P n_slices_partitionEqualOrdered_int) [a0, a1, a2, a3] σ = slices_partitionEqualOrdered_int call f a0 a1 a2 a3 σ :=
  kbody_of (rs := slices_partitionEqualOrdered_intR) (by kernel_rfl) (by kernel_rfl) (by kernel_rfl) (seq_eq (by kernel_rfl) (seq_eq (by kernel_rfl) (seq_eq (by kernel_rfl) (seq_eq (by kernel_rfl) (leaf (B := fun e σ => slices_partitionEqualOrdered_intJ1 call f (e 9) σ) (by kernel_rfl))
  (block_eq (by kernel_rfl) (loop_eq (fun n e σ => slices_partitionEqualOrdered_intL2 call f n (e 0) (e 1) (e 9) (e 10) σ) (by kernel_rfl) (by kernel_rfl) (fun n2 => (tr (block_eq (by kernel_rfl) (seq_eq (by kernel_rfl) (seq_eq (by kernel_rfl) (leaf (B := fun e σ => slices_partitionEqualOrdered_intJ3 call f (slices_partitionEqualOrdered_intL2 call f n2) (e 0) (e 1) (e 9) (e 10) σ) (by kernel_rfl))
  (block_eq (by kernel_rfl) (loop_eq (fun n e σ => slices_partitionEqualOrdered_intL4 call f (slices_partitionEqualOrdered_intL2 call f n2) n (e 0) (e 1) (e 9) (e 10) σ) (by kernel_rfl) (by kernel_rfl) (fun n4 => (leaf (by kernel_rfl))))))
  (block_eq (by kernel_rfl) (loop_eq (fun n e σ => slices_partitionEqualOrdered_intL5 call f (slices_partitionEqualOrdered_intL2 call f n2) n (e 0) (e 1) (e 9) (e 10) σ) (by kernel_rfl) (by kernel_rfl) (fun n5 => (leaf (by kernel_rfl))))))) (by kernel_rfl))))))
  (leaf (B := fun e σ => slices_partitionEqualOrdered_intJ6 call f (e 0) (e 1) (e 2) σ) (by kernel_rfl)))
  (leaf (B := fun e σ => slices_partitionEqualOrdered_intJ7 call f (e 0) (e 1) (e 2) (e 3) σ) (by kernel_rfl)))
  (leaf (B := fun e σ => slices_partitionEqualOrdered_intJ8 call f (e 0) (e 1) (e 2) (e 3) σ) (by kernel_rfl))) (by kernel_rfl)

abbrev slices_partitionOrdered_intR : List ARes := [.tmp 8, .tmp 9]
def slices_partitionOrdered_intJ1 (call : CallF H) (f : Nat) (t0 t1 t11 : Value) (σ : St H) : R H :=
  bindV (vIndexAddr 1 t0 t1) fun t159 =>
  bindV (vLoad false 1 t159 σ) fun t160 =>
  bindV (vIndexAddr 1 t0 t11) fun t163 =>
  bindV (vLoad false 1 t163 σ) fun t164 =>
  bindV (vIndexAddr 1 t0 t11) fun t165 =>
  bindS (vStore 1 t165 t160 σ) fun σ =>
  bindV (vIndexAddr 1 t0 t1) fun t166 =>
  bindS (vStore 1 t166 t164 σ) fun σ =>
  some (.tuple ⟨[t11, ff]⟩, σ)
def slices_partitionOrdered_intJ3 (call : CallF H) (f : Nat) (r2 : Value → Value → Value → Value → St H → R H) (t0 t1 t10 t11 : Value) (σ : St H) : R H :=
  bindV (abin .gtr t10 t11) fun t134 =>
  ifV t134 (
  slices_partitionOrdered_intJ1 call f t0 t1 t11 σ) (
  bindV (vIndexAddr 1 t0 t11) fun t141 =>
  bindV (vLoad false 1 t141 σ) fun t142 =>
  bindV (vIndexAddr 1 t0 t10) fun t145 =>
  bindV (vLoad false 1 t145 σ) fun t146 =>
  bindV (vIndexAddr 1 t0 t10) fun t147 =>
  bindS (vStore 1 t147 t142 σ) fun σ =>
  bindV (vIndexAddr 1 t0 t11) fun t148 =>
  bindS (vStore 1 t148 t146 σ) fun σ =>
  bindV (abin .add t10 (I 1)) fun t150 =>
  bindV (abin .sub t11 (I 1)) fun t152 =>
  r2 t0 t1 t150 t152 σ)
def slices_partitionOrdered_intL4 (call : CallF H) (f : Nat) (r2 : Value → Value → Value → Value → St H → R H) (n : Nat) : Value → Value → Value → Value → St H → R H :=
  Nat.rec (fun _ _ _ _ _ => none) (fun _ r4 => fun t0 t1 t10 t11 σ =>
  bindV (abin .leq t10 t11) fun t117 =>
  bindV (bif kyes t117 true then some t0 else some undefV) fun t119 =>
  bindV (bif kyes t117 true then some t11 else some undefV) fun t120 =>
  bindV (bif kyes t117 true then vIndexAddr 1 t119 t120 else some undefV) fun t121 =>
  bindV (bif kyes t117 true then vLoad false 1 t121 σ else some undefV) fun t122 =>
  bindV (bif kyes t117 true then some t0 else some undefV) fun t123 =>
  bindV (bif kyes t117 true then some t1 else some undefV) fun t124 =>
  bindV (bif kyes t117 true then vIndexAddr 1 t123 t124 else some undefV) fun t125 =>
  bindV (bif kyes t117 true then vLoad false 1 t125 σ else some undefV) fun t126 =>
  bindR (bif kyes t117 true then call n_cmp_Less_int [t122, t126] σ else some (undefV, σ)) fun t127 σ =>
  bindV (bif kyes t117 true then aun .not t127 else some undefV) fun t128 =>
  bindV (vPick t117 t128 ff) fun t129 =>
  ifV t129 (
  bindV (abin .sub t11 (I 1)) fun t131 =>
  r4 t0 t1 t10 t131 σ) (
  slices_partitionOrdered_intJ3 call f r2 t0 t1 t10 t11 σ)) n
def slices_partitionOrdered_intL5 (call : CallF H) (f : Nat) (r2 : Value → Value → Value → Value → St H → R H) (n : Nat) : Value → Value → Value → Value → St H → R H :=
  Nat.rec (fun _ _ _ _ _ => none) (fun _ r5 => fun t0 t1 t10 t11 σ =>
  bindV (abin .leq t10 t11) fun t101 =>
  bindV (bif kyes t101 true then some t0 else some undefV) fun t103 =>
  bindV (bif kyes t101 true then some t10 else some undefV) fun t104 =>
  bindV (bif kyes t101 true then vIndexAddr 1 t103 t104 else some undefV) fun t105 =>
  bindV (bif kyes t101 true then vLoad false 1 t105 σ else some undefV) fun t106 =>
  bindV (bif kyes t101 true then some t0 else some undefV) fun t107 =>
  bindV (bif kyes t101 true then some t1 else some undefV) fun t108 =>
  bindV (bif kyes t101 true then vIndexAddr 1 t107 t108 else some undefV) fun t109 =>
  bindV (bif kyes t101 true then vLoad false 1 t109 σ else some undefV) fun t110 =>
  bindR (bif kyes t101 true then call n_cmp_Less_int [t106, t110] σ else some (undefV, σ)) fun t111 σ =>
  bindV (vPick t101 t111 ff) fun t112 =>
  ifV t112 (
  bindV (abin .add t10 (I 1)) fun t114 =>
  r5 t0 t1 t114 t11 σ) (
  slices_partitionOrdered_intL4 call f r2 f t0 t1 t10 t11 σ)) n
def slices_partitionOrdered_intL2 (call : CallF H) (f : Nat) (n : Nat) : Value → Value → Value → Value → St H → R H :=
  Nat.rec (fun _ _ _ _ _ => none) (fun _ r2 => fun t0 t1 t10 t11 σ =>
  slices_partitionOrdered_intL5 call f r2 f t0 t1 t10 t11 σ) n
def slices_partitionOrdered_intJ6 (call : CallF H) (f : Nat) (t0 t1 t10 t11 : Value) (σ : St H) : R H :=
  bindV (abin .sub t11 (I 1)) fun t98 =>
  slices_partitionOrdered_intL2 call f f t0 t1 t10 t98 σ
def slices_partitionOrdered_intJ7 (call : CallF H) (f : Nat) (t0 t1 t10 t11 : Value) (σ : St H) : R H :=
  bindV (abin .add t10 (I 1)) fun t96 =>
  slices_partitionOrdered_intJ6 call f t0 t1 t96 t11 σ
def slices_partitionOrdered_intJ8 (call : CallF H) (f : Nat) (t0 t1 t10 t11 : Value) (σ : St H) : R H :=
  bindV (vIndexAddr 1 t0 t11) fun t87 =>
  bindV (vLoad false 1 t87 σ) fun t88 =>
  bindV (vIndexAddr 1 t0 t10) fun t91 =>
  bindV (vLoad false 1 t91 σ) fun t92 =>
  bindV (vIndexAddr 1 t0 t10) fun t93 =>
  bindS (vStore 1 t93 t88 σ) fun σ =>
  bindV (vIndexAddr 1 t0 t11) fun t94 =>
  bindS (vStore 1 t94 t92 σ) fun σ =>
  slices_partitionOrdered_intJ7 call f t0 t1 t10 t11 σ
def slices_partitionOrdered_intJ9 (call : CallF H) (f : Nat) (t0 t1 t10 t11 : Value) (σ : St H) : R H :=
  bindV (abin .gtr t10 t11) fun t65 =>
  ifV t65 (
  bindV (vIndexAddr 1 t0 t1) fun t72 =>
  bindV (vLoad false 1 t72 σ) fun t73 =>
  bindV (vIndexAddr 1 t0 t11) fun t76 =>
  bindV (vLoad false 1 t76 σ) fun t77 =>
  bindV (vIndexAddr 1 t0 t11) fun t78 =>
  bindS (vStore 1 t78 t73 σ) fun σ =>
  bindV (vIndexAddr 1 t0 t1) fun t79 =>
  bindS (vStore 1 t79 t77 σ) fun σ =>
  some (.tuple ⟨[t11, tt]⟩, σ)) (
  slices_partitionOrdered_intJ8 call f t0 t1 t10 t11 σ)
def slices_partitionOrdered_intL10 (call : CallF H) (f : Nat) (n : Nat) : Value → Value → Value → Value → St H → R H :=
  Nat.rec (fun _ _ _ _ _ => none) (fun _ r10 => fun t0 t1 t10 t11 σ =>
  bindV (abin .leq t10 t11) fun t48 =>
  bindV (bif kyes t48 true then some t0 else some undefV) fun t50 =>
  bindV (bif kyes t48 true then some t11 else some undefV) fun t51 =>
  bindV (bif kyes t48 true then vIndexAddr 1 t50 t51 else some undefV) fun t52 =>
  bindV (bif kyes t48 true then vLoad false 1 t52 σ else some undefV) fun t53 =>
  bindV (bif kyes t48 true then some t0 else some undefV) fun t54 =>
  bindV (bif kyes t48 true then some t1 else some undefV) fun t55 =>
  bindV (bif kyes t48 true then vIndexAddr 1 t54 t55 else some undefV) fun t56 =>
  bindV (bif kyes t48 true then vLoad false 1 t56 σ else some undefV) fun t57 =>
  bindR (bif kyes t48 true then call n_cmp_Less_int [t53, t57] σ else some (undefV, σ)) fun t58 σ =>
  bindV (bif kyes t48 true then aun .not t58 else some undefV) fun t59 =>
  bindV (vPick t48 t59 ff) fun t60 =>
  ifV t60 (
  bindV (abin .sub t11 (I 1)) fun t62 =>
  r10 t0 t1 t10 t62 σ) (
  slices_partitionOrdered_intJ9 call f t0 t1 t10 t11 σ)) n
def slices_partitionOrdered_intL11 (call : CallF H) (f : Nat) (n : Nat) : Value → Value → Value → Value → St H → R H :=
  Nat.rec (fun _ _ _ _ _ => none) (fun _ r11 => fun t0 t1 t10 t11 σ =>
  bindV (abin .leq t10 t11) fun t32 =>
  bindV (bif kyes t32 true then some t0 else some undefV) fun t34 =>
  bindV (bif kyes t32 true then some t10 else some undefV) fun t35 =>
  bindV (bif kyes t32 true then vIndexAddr 1 t34 t35 else some undefV) fun t36 =>
  bindV (bif kyes t32 true then vLoad false 1 t36 σ else some undefV) fun t37 =>
  bindV (bif kyes t32 true then some t0 else some undefV) fun t38 =>
  bindV (bif kyes t32 true then some t1 else some undefV) fun t39 =>
  bindV (bif kyes t32 true then vIndexAddr 1 t38 t39 else some undefV) fun t40 =>
  bindV (bif kyes t32 true then vLoad false 1 t40 σ else some undefV) fun t41 =>
  bindR (bif kyes t32 true then call n_cmp_Less_int [t37, t41] σ else some (undefV, σ)) fun t42 σ =>
  bindV (vPick t32 t42 ff) fun t43 =>
  ifV t43 (
  bindV (abin .add t10 (I 1)) fun t45 =>
  r11 t0 t1 t45 t11 σ) (
  slices_partitionOrdered_intL10 call f f t0 t1 t10 t11 σ)) n
def slices_partitionOrdered_intJ12 (call : CallF H) (f : Nat) (t0 t1 t2 : Value) (σ : St H) : R H :=
  bindV (abin .add t1 (I 1)) fun t27 =>
  bindV (abin .sub t2 (I 1)) fun t29 =>
  slices_partitionOrdered_intL11 call f f t0 t1 t27 t29 σ
def slices_partitionOrdered_intJ13 (call : CallF H) (f : Nat) (t0 t1 t2 t3 : Value) (σ : St H) : R H :=
  bindV (vIndexAddr 1 t0 t3) fun t18 =>
  bindV (vLoad false 1 t18 σ) fun t19 =>
  bindV (vIndexAddr 1 t0 t1) fun t22 =>
  bindV (vLoad false 1 t22 σ) fun t23 =>
  bindV (vIndexAddr 1 t0 t1) fun t24 =>
  bindS (vStore 1 t24 t19 σ) fun σ =>
  bindV (vIndexAddr 1 t0 t3) fun t25 =>
  bindS (vStore 1 t25 t23 σ) fun σ =>
  slices_partitionOrdered_intJ12 call f t0 t1 t2 σ
def slices_partitionOrdered_intJ14 (call : CallF H) (f : Nat) (t0 t1 t2 t3 : Value) (σ : St H) : R H :=
  slices_partitionOrdered_intJ13 call f t0 t1 t2 t3 σ
def slices_partitionOrdered_int (call : CallF H) (f : Nat) (a0 a1 a2 a3 : Value) (σ : St H) : R H := slices_partitionOrdered_intJ14 call f a0 a1 a2 a3 σ
theorem slices_partitionOrdered_intEq (call : CallF H) (f : Nat) (a0 a1 a2 a3 : Value) (σ : St H) : kbody call f (codeOf P n_slices_partitionOrdered_int) [a0, a1, a2, a3] σ = slices_partitionOrdered_int call f a0 a1 a2 a3 σ :=
  kbody_of (rs := slices_partitionOrdered_intR) (by kernel_rfl) (by kernel_rfl) (by kernel_rfl) (seq_eq (by kernel_rfl) (seq_eq (by kernel_rfl) (seq_eq (by kernel_rfl) (seq_eq (by kernel_rfl) (seq_eq (by kernel_rfl) (seq_eq (by kernel_rfl) (seq_eq (by kernel_rfl) (seq_eq (by kernel_rfl) (seq_eq (by kernel_rfl) (seq_eq (by kernel_rfl) (leaf (B := fun e σ => slices_partitionOrdered_intJ1 call f (e 0) (e 1) (e 11) σ) (by kernel_rfl))
  (block_eq (by kernel_rfl) (loop_eq (fun n e σ => slices_partitionOrdered_intL2 call f n (e 0) (e 1) (e 10) (e 11) σ) (by kernel_rfl) (by kernel_rfl) (fun n2 => (tr (block_eq (by kernel_rfl) (seq_eq (by kernel_rfl) (seq_eq (by kernel_rfl) (leaf (B := fun e σ => slices_partitionOrdered_intJ3 call f (slices_partitionOrdered_intL2 call f n2) (e 0) (e 1) (e 10) (e 11) σ) (by kernel_rfl))
  (block_eq (by kernel_rfl) (loop_eq (fun n e σ => slices_partitionOrdered_intL4 call f (slices_partitionOrdered_intL2 call f n2) n (e 0) (e 1) (e 10) (e 11) σ) (by kernel_rfl) (by kernel_rfl) (fun n4 => (leaf (by kernel_rfl))))))
  (block_eq (by kernel_rfl) (loop_eq (fun n e σ => slices_partitionOrdered_intL5 call f (slices_partitionOrdered_intL2 call f n2) n (e 0) (e 1) (e 10) (e 11) σ) (by kernel_rfl) (by kernel_rfl) (fun n5 => (leaf (by kernel_rfl))))))) (by kernel_rfl))))))
  (leaf (B := fun e σ => slices_partitionOrdered_intJ6 call f (e 0) (e 1) (e 10) (e 11) σ) (by kernel_rfl)))
  (leaf (B := fun e σ => slices_partitionOrdered_intJ7 call f (e 0) (e 1) (e 10) (e 11) σ) (by kernel_rfl)))
  (leaf (B := fun e σ => slices_partitionOrdered_intJ8 call f (e 0) (e 1) (e 10) (e 11) σ) (by kernel_rfl)))
  (leaf (B := fun e σ => slices_partitionOrdered_intJ9 call f (e 0) (e 1) (e 10) (e 11) σ) (by kernel_rfl)))
  (block_eq (by kernel_rfl) (loop_eq (fun n e σ => slices_partitionOrdered_intL10 call f n (e 0) (e 1) (e 10) (e 11) σ) (by kernel_rfl) (by kernel_rfl) (fun n10 => (leaf (by kernel_rfl))))))
  (block_eq (by kernel_rfl) (loop_eq (fun n e σ => slices_partitionOrdered_intL11 call f n (e 0) (e 1) (e 10) (e 11) σ) (by kernel_rfl) (by kernel_rfl) (fun n11 => (leaf (by kernel_rfl))))))
  (leaf (B := fun e σ => slices_partitionOrdered_intJ12 call f (e 0) (e 1) (e 2) σ) (by kernel_rfl)))
  (leaf (B := fun e σ => slices_partitionOrdered_intJ13 call f (e 0) (e 1) (e 2) (e 3) σ) (by kernel_rfl)))
  (leaf (B := fun e σ => slices_partitionOrdered_intJ14 call f (e 0) (e 1) (e 2) (e 3) σ) (by kernel_rfl))) (by kernel_rfl)

end
end Go.G

