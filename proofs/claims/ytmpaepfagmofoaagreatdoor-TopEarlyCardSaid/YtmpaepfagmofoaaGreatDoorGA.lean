/- Functions of the program, one Lean function each, and the proofs that they are the same (1). -/
import Derived.Test.YtmpaepfagmofoaaGreatDoorGN
set_option linter.all false
namespace Go.G
open Go Go.Ax
set_option maxRecDepth 100000
set_option linter.unusedVariables false
variable {H : HeapI}
noncomputable section
def law23x_KernelNone (call : CallF H) (f : Nat) (σ : St H) : R H :=
  bindV (vBuild [(I 0), (I 0), (I 0), (.slice none 0 0)] [(0, 1, (I 1)), (1, 1, (I 1)), (2, 1, (I 1))]) fun t18 =>
  bindR (call n_kernel_Kernel_Add [nilP, t18] σ) fun t19 σ =>
  bindV (vExtract 0 t19) fun t20 =>
  bindV (vExtract 1 t19) fun t21 =>
  bindR (call n_kernel_Kernel_Tick [nilP, (.slice none 0 0), (.slice none 0 0)] σ) fun t24 σ =>
  bindV (vExtract 0 t24) fun t25 =>
  bindV (vExtract 1 t24) fun t26 =>
  bindR (vBox (.agg ⟨[(.slice none 0 0), (.slice none 0 0)]⟩) σ) fun t6 σ =>
  bindS (vStore 2 t6 t25 σ) fun σ =>
  bindR (call n_kernel_Kernel_Job [nilP, (I 1)] σ) fun t29 σ =>
  bindV (vExtract 0 t29) fun t30 =>
  bindV (vExtract 1 t29) fun t31 =>
  bindR (vBox (.agg ⟨(rep [(I 0)] 9)⟩) σ) fun t8 σ =>
  bindS (vStore 9 t8 t30 σ) fun σ =>
  bindR (call n_kernel_Kernel_Serving [nilP, (I 0)] σ) fun t34 σ =>
  bindV (vExtract 0 t34) fun t35 =>
  bindV (vExtract 1 t34) fun t36 =>
  bindR (call n_kernel_Kernel_Way [nilP, (I 1)] σ) fun t39 σ =>
  bindV (vExtract 0 t39) fun t40 =>
  bindV (vExtract 1 t39) fun t41 =>
  bindR (vBox (.agg ⟨(rep [(I 0)] 5)⟩) σ) fun t12 σ =>
  bindS (vStore 5 t12 t40 σ) fun σ =>
  bindV (vBuild [(I 0), (I 0), (I 0), (I 0), (.slice none 0 0)] []) fun t43 =>
  bindR (call n_play_Run [t43, (.slice none 0 0)] σ) fun t44 σ =>
  bindV (vExtract 0 t44) fun t45 =>
  bindV (vExtract 1 t44) fun t46 =>
  bindR (call n_law23x_begun [] σ) fun t47 σ =>
  bindV (bif kyes t47 true then some t21 else some undefV) fun t49 =>
  bindV (bif kyes t47 true then abin .eql t49 (I 8) else some undefV) fun t50 =>
  bindV (vPick t47 t50 ff) fun t51 =>
  bindV (bif kyes t51 true then some nilP else some undefV) fun t53 =>
  bindR (bif kyes t51 true then call n_kernel_Kernel_Admit [t53] σ else some (undefV, σ)) fun t54 σ =>
  bindV (bif kyes t51 true then vEq .nilp false t54 nilP else some undefV) fun t55 =>
  bindV (vPick t51 t55 ff) fun t56 =>
  bindV (bif kyes t56 true then some nilP else some undefV) fun t58 =>
  bindR (bif kyes t56 true then call n_kernel_Kernel_Now [t58] σ else some (undefV, σ)) fun t59 σ =>
  bindV (bif kyes t56 true then abin .eql t59 (I 0) else some undefV) fun t60 =>
  bindV (vPick t56 t60 ff) fun t61 =>
  bindV (bif kyes t61 true then some nilP else some undefV) fun t63 =>
  bindR (bif kyes t61 true then call n_kernel_Kernel_Drop [t63, (I 1)] σ else some (undefV, σ)) fun t64 σ =>
  bindV (bif kyes t61 true then abin .eql t64 (I 8) else some undefV) fun t65 =>
  bindV (vPick t61 t65 ff) fun t66 =>
  bindV (bif kyes t66 true then some nilP else some undefV) fun t68 =>
  bindR (bif kyes t66 true then call n_kernel_Kernel_Release [t68, (I 1), (I 1), (.slice none 0 0)] σ else some (undefV, σ)) fun t69 σ =>
  bindV (bif kyes t66 true then abin .eql t69 (I 8) else some undefV) fun t70 =>
  bindV (vPick t66 t70 ff) fun t71 =>
  bindV (bif kyes t71 true then some t26 else some undefV) fun t73 =>
  bindV (bif kyes t71 true then abin .eql t73 (I 8) else some undefV) fun t74 =>
  bindV (vPick t71 t74 ff) fun t75 =>
  bindV (bif kyes t75 true then some t31 else some undefV) fun t77 =>
  bindV (bif kyes t75 true then aun .not t77 else some undefV) fun t78 =>
  bindV (vPick t75 t78 ff) fun t79 =>
  bindV (bif kyes t79 true then some t35 else some undefV) fun t81 =>
  bindV (bif kyes t79 true then abin .eql t81 (I 0) else some undefV) fun t82 =>
  bindV (vPick t79 t82 ff) fun t83 =>
  bindV (bif kyes t83 true then some t36 else some undefV) fun t85 =>
  bindV (bif kyes t83 true then abin .eql t85 (I 0) else some undefV) fun t86 =>
  bindV (vPick t83 t86 ff) fun t87 =>
  bindV (bif kyes t87 true then some t41 else some undefV) fun t89 =>
  bindV (bif kyes t87 true then aun .not t89 else some undefV) fun t90 =>
  bindV (vPick t87 t90 ff) fun t91 =>
  bindV (bif kyes t91 true then some nilP else some undefV) fun t93 =>
  bindR (bif kyes t91 true then call n_kernel_Kernel_Idle [t93] σ else some (undefV, σ)) fun t94 σ =>
  bindV (vPick t91 t94 ff) fun t95 =>
  bindV (bif kyes t95 true then some nilP else some undefV) fun t97 =>
  bindV (bif kyes t95 true then vBuild [(.slice none 0 0), (.slice none 0 0)] [] else some undefV) fun t98 =>
  bindR (bif kyes t95 true then call n_judge_Judge_Look [t97, nilP, t98] σ else some (undefV, σ)) fun t99 σ =>
  bindV (bif kyes t95 true then abin .eql t99 (I 9) else some undefV) fun t100 =>
  bindV (vPick t95 t100 ff) fun t101 =>
  bindR (bif kyes t101 true then call n_judge_Late [nilP] σ else some (undefV, σ)) fun t103 σ =>
  bindV (bif kyes t101 true then vLen .slice t103 σ else some undefV) fun t104 =>
  bindV (bif kyes t101 true then abin .eql t104 (I 0) else some undefV) fun t105 =>
  bindV (vPick t101 t105 ff) fun t106 =>
  bindR (bif kyes t106 true then call n_judge_Slack [nilP, (I 1)] σ else some (undefV, σ)) fun t108 σ =>
  bindV (bif kyes t106 true then abin .eql t108 (I 0) else some undefV) fun t109 =>
  bindV (vPick t106 t109 ff) fun t110 =>
  bindV (bif kyes t110 true then some nilP else some undefV) fun t112 =>
  bindV (bif kyes t110 true then vBuild [(I 0), (I 0), (I 0), (I 0), (I 0), (.slice none 0 0), (I 0), (.slice none 0 0), (.slice none 0 0), (.slice none 0 0)] [] else some undefV) fun t113 =>
  bindR (bif kyes t110 true then call n_play_Play_Step [t112, t113] σ else some (undefV, σ)) fun t114 σ =>
  bindV (bif kyes t110 true then vField false 1 0 t114 else some undefV) fun t115 =>
  bindV (bif kyes t110 true then abin .eql t115 (I 8) else some undefV) fun t116 =>
  bindV (vPick t110 t116 ff) fun t117 =>
  bindV (bif kyes t117 true then some nilP else some undefV) fun t119 =>
  bindR (bif kyes t117 true then call n_play_Play_Kernel [t119] σ else some (undefV, σ)) fun t120 σ =>
  bindV (bif kyes t117 true then vEq .nilp false t120 nilP else some undefV) fun t121 =>
  bindV (vPick t117 t121 ff) fun t122 =>
  bindV (bif kyes t122 true then some nilP else some undefV) fun t124 =>
  bindR (bif kyes t122 true then call n_play_Play_Bad [t124] σ else some (undefV, σ)) fun t125 σ =>
  bindV (bif kyes t122 true then abin .eql t125 (I 9) else some undefV) fun t126 =>
  bindV (vPick t122 t126 ff) fun t127 =>
  bindV (bif kyes t127 true then some t45 else some undefV) fun t129 =>
  bindV (bif kyes t127 true then vLen .slice t129 σ else some undefV) fun t130 =>
  bindV (bif kyes t127 true then abin .eql t130 (I 0) else some undefV) fun t131 =>
  bindV (vPick t127 t131 ff) fun t132 =>
  bindV (bif kyes t132 true then some t46 else some undefV) fun t134 =>
  bindV (bif kyes t132 true then abin .eql t134 (I 9) else some undefV) fun t135 =>
  bindV (vPick t132 t135 ff) fun t136 =>
  bindV (bif kyes t136 true then vBuild [(I 0), (I 0), (I 0), (I 0), (.slice none 0 0)] [] else some undefV) fun t138 =>
  bindR (bif kyes t136 true then call n_play_New [t138] σ else some (undefV, σ)) fun t139 σ =>
  bindV (bif kyes t136 true then vEq .nilp false t139 nilP else some undefV) fun t140 =>
  bindV (vPick t136 t140 ff) fun t141 =>
  some (t141, σ)
theorem law23x_KernelNoneEq (call : CallF H) (f : Nat) (σ : St H) : kbody call f (codeOf P n_law23x_KernelNone) [] σ = law23x_KernelNone call f σ := by kernel_rfl

abbrev law23x_JudgeLookR : List ARes := [.tmp 4]
def law23x_JudgeLookJ1 (call : CallF H) (f : Nat) (t1 t6 t7 t11 : Value) (σ : St H) : R H :=
  bindV (vLoad true 2 t11 σ) fun t59 =>
  bindR (call n_judge_Judge_Look [t7, t6, t59] σ) fun t60 σ =>
  bindV (abin .eql t60 (I 0)) fun t61 =>
  bindV (abin .eql t1 (I 0)) fun t63 =>
  bindV (vEq .sc false t61 t63) fun t64 =>
  some (t64, σ)
def law23x_JudgeLookL2 (call : CallF H) (f : Nat) (n : Nat) : Value → Value → Value → Value → Value → St H → R H :=
  Nat.rec (fun _ _ _ _ _ _ => none) (fun _ r2 => fun t1 t6 t7 t11 t12 σ =>
  bindV (abin .leq t12 t1) fun t49 =>
  ifV t49 (
  bindR (call n_kernel_Kernel_Tick [t6, (.slice none 0 0), (.slice none 0 0)] σ) fun t54 σ =>
  bindV (vExtract 0 t54) fun t55 =>
  bindV (vExtract 1 t54) fun t56 =>
  bindS (vStore 2 t11 t55 σ) fun σ =>
  bindV (abin .add t12 (I 1)) fun t51 =>
  r2 t1 t6 t7 t11 t51 σ) (
  law23x_JudgeLookJ1 call f t1 t6 t7 t11 σ)) n
def law23x_JudgeLookJ3 (call : CallF H) (f : Nat) (t1 t6 t7 t11 : Value) (σ : St H) : R H :=
  law23x_JudgeLookL2 call f f t1 t6 t7 t11 (I 0) σ
def law23x_JudgeLookJ4 (call : CallF H) (f : Nat) (t1 t6 t7 : Value) (σ : St H) : R H :=
  bindR (vBox (.agg ⟨[(.slice none 0 0), (.slice none 0 0)]⟩) σ) fun t11 σ =>
  law23x_JudgeLookJ3 call f t1 t6 t7 t11 σ
def law23x_JudgeLookL5 (call : CallF H) (f : Nat) (n : Nat) : Value → Value → Value → Value → Value → St H → R H :=
  Nat.rec (fun _ _ _ _ _ _ => none) (fun _ r5 => fun t0 t1 t6 t7 t8 σ =>
  bindV (abin .lss t8 t0) fun t30 =>
  ifV t30 (
  bindR (call n_kernel_Kernel_Tick [t6, (.slice none 0 0), (.slice none 0 0)] σ) fun t35 σ =>
  bindV (vExtract 0 t35) fun t36 =>
  bindV (vExtract 1 t35) fun t37 =>
  bindR (vBox (.agg ⟨[(.slice none 0 0), (.slice none 0 0)]⟩) σ) fun t9 σ =>
  bindS (vStore 2 t9 t36 σ) fun σ =>
  bindV (abin .neq t37 (I 0)) fun t39 =>
  bindV (bif kyes t39 false then some t7 else some undefV) fun t41 =>
  bindV (bif kyes t39 false then some t6 else some undefV) fun t42 =>
  bindV (bif kyes t39 false then vLoad true 2 t9 σ else some undefV) fun t43 =>
  bindR (bif kyes t39 false then call n_judge_Judge_Look [t41, t42, t43] σ else some (undefV, σ)) fun t44 σ =>
  bindV (bif kyes t39 false then abin .neq t44 (I 0) else some undefV) fun t45 =>
  bindV (vPick t39 tt t45) fun t46 =>
  ifV t46 (
  some (ff, σ)) (
  bindV (abin .add t8 (I 1)) fun t32 =>
  r5 t0 t1 t6 t7 t32 σ)) (
  law23x_JudgeLookJ4 call f t1 t6 t7 σ)) n
def law23x_JudgeLookJ6 (call : CallF H) (f : Nat) (t0 t1 t6 t7 : Value) (σ : St H) : R H :=
  law23x_JudgeLookL5 call f f t0 t1 t6 t7 (I 0) σ
def law23x_JudgeLookJ7 (call : CallF H) (f : Nat) (t0 t1 : Value) (σ : St H) : R H :=
  bindV (vBuild [(I 0), (I 0), (I 0), (I 0), (.slice none 0 0)] [(0, 1, (I 2))]) fun t25 =>
  bindR (call n_kernel_New [t25] σ) fun t26 σ =>
  bindR (call n_judge_New [] σ) fun t27 σ =>
  law23x_JudgeLookJ6 call f t0 t1 t26 t27 σ
def law23x_JudgeLookJ8 (call : CallF H) (f : Nat) (t0 t1 : Value) (σ : St H) : R H :=
  bindV (abin .rem t1 (I 3)) fun t22 =>
  bindV (abin .add t22 (I 3)) fun t23 =>
  bindV (abin .rem t23 (I 3)) fun t24 =>
  law23x_JudgeLookJ7 call f t0 t24 σ
def law23x_JudgeLookJ9 (call : CallF H) (f : Nat) (t0 t1 : Value) (σ : St H) : R H :=
  bindV (abin .rem t0 (I 10)) fun t17 =>
  bindV (abin .add t17 (I 10)) fun t18 =>
  bindV (abin .rem t18 (I 10)) fun t19 =>
  bindV (abin .add (I 1) t19) fun t20 =>
  law23x_JudgeLookJ8 call f t20 t1 σ
def law23x_JudgeLookJ10 (call : CallF H) (f : Nat) (t0 t1 t5 : Value) (σ : St H) : R H :=
  bindV (aun .not t5) fun t15 =>
  ifV t15 (
  some (ff, σ)) (
  law23x_JudgeLookJ9 call f t0 t1 σ)
def law23x_JudgeLookJ11 (call : CallF H) (f : Nat) (t0 t1 : Value) (σ : St H) : R H :=
  bindR (call n_law23x_begun [] σ) fun t13 σ =>
  law23x_JudgeLookJ10 call f t0 t1 t13 σ
def law23x_JudgeLookJ12 (call : CallF H) (f : Nat) (t0 t1 : Value) (σ : St H) : R H :=
  law23x_JudgeLookJ11 call f t0 t1 σ
def law23x_JudgeLook (call : CallF H) (f : Nat) (a0 a1 : Value) (σ : St H) : R H := law23x_JudgeLookJ12 call f a0 a1 σ
theorem law23x_JudgeLookEq (call : CallF H) (f : Nat) (a0 a1 : Value) (σ : St H) : kbody call f (codeOf P n_law23x_JudgeLook) [a0, a1] σ = law23x_JudgeLook call f a0 a1 σ :=
  kbody_of (rs := law23x_JudgeLookR) (by kernel_rfl) (by kernel_rfl) (by kernel_rfl) (seq_eq (by kernel_rfl) (seq_eq (by kernel_rfl) (seq_eq (by kernel_rfl) (seq_eq (by kernel_rfl) (seq_eq (by kernel_rfl) (seq_eq (by kernel_rfl) (seq_eq (by kernel_rfl) (seq_eq (by kernel_rfl) (seq_eq (by kernel_rfl) (leaf (B := fun e σ => law23x_JudgeLookJ1 call f (e 1) (e 6) (e 7) (e 11) σ) (by kernel_rfl))
  (seq_eq (by kernel_rfl) (block_eq (by kernel_rfl) (loop_eq (fun n e σ => law23x_JudgeLookL2 call f n (e 1) (e 6) (e 7) (e 11) (e 12) σ) (by kernel_rfl) (by kernel_rfl) (fun n2 => (leaf (by kernel_rfl)))))
  (leaf (B := fun e σ => law23x_JudgeLookJ3 call f (e 1) (e 6) (e 7) (e 11) σ) (by kernel_rfl))))
  (leaf (B := fun e σ => law23x_JudgeLookJ4 call f (e 1) (e 6) (e 7) σ) (by kernel_rfl)))
  (seq_eq (by kernel_rfl) (block_eq (by kernel_rfl) (loop_eq (fun n e σ => law23x_JudgeLookL5 call f n (e 0) (e 1) (e 6) (e 7) (e 8) σ) (by kernel_rfl) (by kernel_rfl) (fun n5 => (leaf (by kernel_rfl)))))
  (leaf (B := fun e σ => law23x_JudgeLookJ6 call f (e 0) (e 1) (e 6) (e 7) σ) (by kernel_rfl))))
  (leaf (B := fun e σ => law23x_JudgeLookJ7 call f (e 0) (e 1) σ) (by kernel_rfl)))
  (leaf (B := fun e σ => law23x_JudgeLookJ8 call f (e 0) (e 1) σ) (by kernel_rfl)))
  (leaf (B := fun e σ => law23x_JudgeLookJ9 call f (e 0) (e 1) σ) (by kernel_rfl)))
  (leaf (B := fun e σ => law23x_JudgeLookJ10 call f (e 0) (e 1) (e 5) σ) (by kernel_rfl)))
  (leaf (B := fun e σ => law23x_JudgeLookJ11 call f (e 0) (e 1) σ) (by kernel_rfl)))
  (leaf (B := fun e σ => law23x_JudgeLookJ12 call f (e 0) (e 1) σ) (by kernel_rfl))) (by kernel_rfl)

abbrev law23x_PlayWordsR : List ARes := [.tmp 2]
def law23x_PlayWordsJ1 (call : CallF H) (f : Nat) (t4 t5 t6 t7 t8 t9 t10 : Value) (σ : St H) : R H :=
  bindV (vBuild [(I 0), (I 0), (I 0), (I 0), (I 0), (.slice none 0 0), (I 0), (.slice none 0 0), (.slice none 0 0), (.slice none 0 0)] [(0, 1, (I 5)), (1, 1, (I 1))]) fun t63 =>
  bindR (call n_play_Play_Step [t4, t63] σ) fun t64 σ =>
  bindR (vBox (.agg ⟨[(I 0), (I 0), (.slice none 0 0), (.slice none 0 0), (I 0)]⟩) σ) fun t12 σ =>
  bindS (vStore 5 t12 t64 σ) fun σ =>
  bindV (vFieldAddr 0 t5) fun t65 =>
  bindV (vLoad false 1 t65 σ) fun t66 =>
  bindV (abin .eql t66 (I 0)) fun t67 =>
  bindV (bif kyes t67 true then vFieldAddr 1 t5 else some undefV) fun t69 =>
  bindV (bif kyes t67 true then vLoad false 1 t69 σ else some undefV) fun t70 =>
  bindV (bif kyes t67 true then abin .eql t70 (I 1) else some undefV) fun t71 =>
  bindV (vPick t67 t71 ff) fun t72 =>
  bindV (bif kyes t72 true then vFieldAddr 0 t6 else some undefV) fun t74 =>
  bindV (bif kyes t72 true then vLoad false 1 t74 σ else some undefV) fun t75 =>
  bindV (bif kyes t72 true then abin .eql t75 (I 0) else some undefV) fun t76 =>
  bindV (vPick t72 t76 ff) fun t77 =>
  bindV (bif kyes t77 true then vFieldAddr 4 t6 else some undefV) fun t79 =>
  bindV (bif kyes t77 true then vLoad false 1 t79 σ else some undefV) fun t80 =>
  bindV (bif kyes t77 true then abin .eql t80 (I 0) else some undefV) fun t81 =>
  bindV (vPick t77 t81 ff) fun t82 =>
  bindV (bif kyes t82 true then vFieldAddr 0 t7 else some undefV) fun t84 =>
  bindV (bif kyes t82 true then vLoad false 1 t84 σ else some undefV) fun t85 =>
  bindV (bif kyes t82 true then abin .eql t85 (I 0) else some undefV) fun t86 =>
  bindV (vPick t82 t86 ff) fun t87 =>
  bindV (bif kyes t87 true then vFieldAddr 4 t8 else some undefV) fun t89 =>
  bindV (bif kyes t87 true then vLoad false 1 t89 σ else some undefV) fun t90 =>
  bindV (bif kyes t87 true then abin .eql t90 (I 2) else some undefV) fun t91 =>
  bindV (vPick t87 t91 ff) fun t92 =>
  bindV (bif kyes t92 true then vFieldAddr 4 t9 else some undefV) fun t94 =>
  bindV (bif kyes t92 true then vLoad false 1 t94 σ else some undefV) fun t95 =>
  bindV (bif kyes t92 true then some t10 else some undefV) fun t96 =>
  bindV (bif kyes t92 true then abin .eql t95 t96 else some undefV) fun t97 =>
  bindV (vPick t92 t97 ff) fun t98 =>
  bindV (bif kyes t98 true then vFieldAddr 4 t12 else some undefV) fun t100 =>
  bindV (bif kyes t98 true then vLoad false 1 t100 σ else some undefV) fun t101 =>
  bindV (bif kyes t98 true then abin .eql t101 (I 4) else some undefV) fun t102 =>
  bindV (vPick t98 t102 ff) fun t103 =>
  bindV (bif kyes t103 true then some t4 else some undefV) fun t105 =>
  bindR (bif kyes t103 true then call n_play_Play_Bad [t105] σ else some (undefV, σ)) fun t106 σ =>
  bindV (bif kyes t103 true then abin .eql t106 (I 0) else some undefV) fun t107 =>
  bindV (vPick t103 t107 ff) fun t108 =>
  some (t108, σ)
def law23x_PlayWordsL2 (call : CallF H) (f : Nat) (n : Nat) : Value → Value → Value → Value → Value → Value → Value → Value → St H → R H :=
  Nat.rec (fun _ _ _ _ _ _ _ _ _ => none) (fun _ r2 => fun t4 t5 t6 t7 t8 t9 t10 t11 σ =>
  bindV (abin .lss t11 (I 5)) fun t56 =>
  ifV t56 (
  bindV (vBuild [(I 0), (I 0), (I 0), (I 0), (I 0), (.slice none 0 0), (I 0), (.slice none 0 0), (.slice none 0 0), (.slice none 0 0)] [(0, 1, (I 4))]) fun t60 =>
  bindR (call n_play_Play_Step [t4, t60] σ) fun t61 σ =>
  bindV (abin .add t11 (I 1)) fun t58 =>
  r2 t4 t5 t6 t7 t8 t9 t10 t58 σ) (
  law23x_PlayWordsJ1 call f t4 t5 t6 t7 t8 t9 t10 σ)) n
def law23x_PlayWordsJ3 (call : CallF H) (f : Nat) (t4 t5 t6 t7 t8 t9 t10 : Value) (σ : St H) : R H :=
  law23x_PlayWordsL2 call f f t4 t5 t6 t7 t8 t9 t10 (I 0) σ
def law23x_PlayWordsJ4 (call : CallF H) (f : Nat) (t0 t4 t5 t6 t7 t8 t9 t10 : Value) (σ : St H) : R H :=
  bindV (abin .eql t0 (I 1)) fun t54 =>
  ifV t54 (
  law23x_PlayWordsJ3 call f t4 t5 t6 t7 t8 t9 (I 4) σ) (
  law23x_PlayWordsJ3 call f t4 t5 t6 t7 t8 t9 t10 σ)
def law23x_PlayWordsJ5 (call : CallF H) (f : Nat) (t0 t4 t5 t6 t7 t8 t9 : Value) (σ : St H) : R H :=
  law23x_PlayWordsJ4 call f t0 t4 t5 t6 t7 t8 t9 (I 3) σ
def law23x_PlayWordsJ6 (call : CallF H) (f : Nat) (t0 t4 t5 t6 t7 t8 : Value) (σ : St H) : R H :=
  bindV (vBuild [(I 0), (I 0), (I 0), (I 0), (I 0), (.slice none 0 0), (I 0), (.slice none 0 0), (.slice none 0 0), (.slice none 0 0)] [(0, 1, (I 5)), (1, 1, (I 1))]) fun t51 =>
  bindR (call n_play_Play_Step [t4, t51] σ) fun t52 σ =>
  bindR (vBox (.agg ⟨[(I 0), (I 0), (.slice none 0 0), (.slice none 0 0), (I 0)]⟩) σ) fun t9 σ =>
  bindS (vStore 5 t9 t52 σ) fun σ =>
  law23x_PlayWordsJ5 call f t0 t4 t5 t6 t7 t8 t9 σ
def law23x_PlayWordsJ7 (call : CallF H) (f : Nat) (t0 t4 t5 t6 t7 t8 : Value) (σ : St H) : R H :=
  bindV (vBuild [(I 0), (I 0), (I 0), (I 0), (I 0), (.slice none 0 0), (I 0), (.slice none 0 0), (.slice none 0 0), (.slice none 0 0)] [(0, 1, (I 4))]) fun t48 =>
  bindR (call n_play_Play_Step [t4, t48] σ) fun t49 σ =>
  law23x_PlayWordsJ6 call f t0 t4 t5 t6 t7 t8 σ
def law23x_PlayWordsJ8 (call : CallF H) (f : Nat) (t0 t4 t5 t6 t7 : Value) (σ : St H) : R H :=
  bindV (vBuild [(I 0), (I 0), (I 0), (I 0), (I 0), (.slice none 0 0), (I 0), (.slice none 0 0), (.slice none 0 0), (.slice none 0 0)] [(0, 1, (I 5)), (1, 1, (I 1))]) fun t45 =>
  bindR (call n_play_Play_Step [t4, t45] σ) fun t46 σ =>
  bindR (vBox (.agg ⟨[(I 0), (I 0), (.slice none 0 0), (.slice none 0 0), (I 0)]⟩) σ) fun t8 σ =>
  bindS (vStore 5 t8 t46 σ) fun σ =>
  law23x_PlayWordsJ7 call f t0 t4 t5 t6 t7 t8 σ
def law23x_PlayWordsJ9 (call : CallF H) (f : Nat) (t0 t4 t5 t6 : Value) (σ : St H) : R H :=
  bindV (vBuild [(I 0), (I 0), (I 0), (I 0), (I 0), (.slice none 0 0), (I 0), (.slice none 0 0), (.slice none 0 0), (.slice none 0 0)] [(0, 1, (I 3)), (1, 1, (I 1)), (6, 1, t0)]) fun t42 =>
  bindR (call n_play_Play_Step [t4, t42] σ) fun t43 σ =>
  bindR (vBox (.agg ⟨[(I 0), (I 0), (.slice none 0 0), (.slice none 0 0), (I 0)]⟩) σ) fun t7 σ =>
  bindS (vStore 5 t7 t43 σ) fun σ =>
  law23x_PlayWordsJ8 call f t0 t4 t5 t6 t7 σ
def law23x_PlayWordsJ10 (call : CallF H) (f : Nat) (t0 t4 t5 : Value) (σ : St H) : R H :=
  bindV (vBuild [(I 0), (I 0), (I 0), (I 0), (I 0), (.slice none 0 0), (I 0), (.slice none 0 0), (.slice none 0 0), (.slice none 0 0)] [(0, 1, (I 5)), (1, 1, (I 1))]) fun t38 =>
  bindR (call n_play_Play_Step [t4, t38] σ) fun t39 σ =>
  bindR (vBox (.agg ⟨[(I 0), (I 0), (.slice none 0 0), (.slice none 0 0), (I 0)]⟩) σ) fun t6 σ =>
  bindS (vStore 5 t6 t39 σ) fun σ =>
  law23x_PlayWordsJ9 call f t0 t4 t5 t6 σ
def law23x_PlayWordsJ11 (call : CallF H) (f : Nat) (t0 t4 : Value) (σ : St H) : R H :=
  bindV (vBuild [(I 0), (I 0), (I 0)] [(1, 1, (I 1)), (2, 1, (I 3))]) fun t32 =>
  bindR (vBuildSlice 1 [(I 0), (I 0), (I 0)] [(0, 3, t32)] σ) fun t33 σ =>
  bindV (vBuild [(I 0), (I 0), (I 0), (.slice none 0 0)] [(0, 1, (I 2)), (1, 1, (I 50)), (2, 1, (I 50)), (3, 1, t33)]) fun t34 =>
  bindV (vBuild [(I 0), (I 0), (I 0), (I 0), (I 0), (.slice none 0 0), (I 0), (.slice none 0 0), (.slice none 0 0), (.slice none 0 0)] [(0, 1, (I 1)), (2, 4, t34)]) fun t35 =>
  bindR (call n_play_Play_Step [t4, t35] σ) fun t36 σ =>
  bindR (vBox (.agg ⟨[(I 0), (I 0), (.slice none 0 0), (.slice none 0 0), (I 0)]⟩) σ) fun t5 σ =>
  bindS (vStore 5 t5 t36 σ) fun σ =>
  law23x_PlayWordsJ10 call f t0 t4 t5 σ
def law23x_PlayWordsJ12 (call : CallF H) (f : Nat) (t0 t4 : Value) (σ : St H) : R H :=
  bindV (vEq .nilp false t4 nilP) fun t23 =>
  bindV (bif kyes t23 false then some t4 else some undefV) fun t25 =>
  bindV (bif kyes t23 false then vBuild [(I 0), (I 0), (I 0), (I 0), (I 0), (.slice none 0 0), (I 0), (.slice none 0 0), (.slice none 0 0), (.slice none 0 0)] [(0, 1, (I 5)), (1, 1, (I 1))] else some undefV) fun t26 =>
  bindR (bif kyes t23 false then call n_play_Play_Step [t25, t26] σ else some (undefV, σ)) fun t27 σ =>
  bindV (bif kyes t23 false then vField false 1 0 t27 else some undefV) fun t28 =>
  bindV (bif kyes t23 false then abin .neq t28 (I 4) else some undefV) fun t29 =>
  bindV (vPick t23 tt t29) fun t30 =>
  ifV t30 (
  some (ff, σ)) (
  law23x_PlayWordsJ11 call f t0 t4 σ)
def law23x_PlayWordsJ13 (call : CallF H) (f : Nat) (t0 : Value) (σ : St H) : R H :=
  bindR (vBuildSlice 1 [(I 0)] [(0, 1, (I 0))] σ) fun t19 σ =>
  bindV (vBuild [(I 0), (I 0), (I 0), (I 0), (.slice none 0 0)] [(0, 1, (I 1)), (1, 1, (I 1)), (2, 1, (I 0)), (4, 1, t19)]) fun t20 =>
  bindR (call n_play_New [t20] σ) fun t21 σ =>
  law23x_PlayWordsJ12 call f t0 t21 σ
def law23x_PlayWordsJ14 (call : CallF H) (f : Nat) (t0 : Value) (σ : St H) : R H :=
  bindV (abin .and t0 (I 1)) fun t17 =>
  bindV (abin .add (I 1) t17) fun t18 =>
  law23x_PlayWordsJ13 call f t18 σ
def law23x_PlayWordsJ15 (call : CallF H) (f : Nat) (t0 t3 : Value) (σ : St H) : R H :=
  bindV (aun .not t3) fun t15 =>
  ifV t15 (
  some (ff, σ)) (
  law23x_PlayWordsJ14 call f t0 σ)
def law23x_PlayWordsJ16 (call : CallF H) (f : Nat) (t0 : Value) (σ : St H) : R H :=
  bindR (call n_law23x_begun [] σ) fun t13 σ =>
  law23x_PlayWordsJ15 call f t0 t13 σ
def law23x_PlayWordsJ17 (call : CallF H) (f : Nat) (t0 : Value) (σ : St H) : R H :=
  law23x_PlayWordsJ16 call f t0 σ
def law23x_PlayWords (call : CallF H) (f : Nat) (a0 : Value) (σ : St H) : R H := law23x_PlayWordsJ17 call f a0 σ
theorem law23x_PlayWordsEq (call : CallF H) (f : Nat) (a0 : Value) (σ : St H) : kbody call f (codeOf P n_law23x_PlayWords) [a0] σ = law23x_PlayWords call f a0 σ :=
  kbody_of (rs := law23x_PlayWordsR) (by kernel_rfl) (by kernel_rfl) (by kernel_rfl) (seq_eq (by kernel_rfl) (seq_eq (by kernel_rfl) (seq_eq (by kernel_rfl) (seq_eq (by kernel_rfl) (seq_eq (by kernel_rfl) (seq_eq (by kernel_rfl) (seq_eq (by kernel_rfl) (seq_eq (by kernel_rfl) (seq_eq (by kernel_rfl) (seq_eq (by kernel_rfl) (seq_eq (by kernel_rfl) (seq_eq (by kernel_rfl) (seq_eq (by kernel_rfl) (seq_eq (by kernel_rfl) (seq_eq (by kernel_rfl) (leaf (B := fun e σ => law23x_PlayWordsJ1 call f (e 4) (e 5) (e 6) (e 7) (e 8) (e 9) (e 10) σ) (by kernel_rfl))
  (seq_eq (by kernel_rfl) (block_eq (by kernel_rfl) (loop_eq (fun n e σ => law23x_PlayWordsL2 call f n (e 4) (e 5) (e 6) (e 7) (e 8) (e 9) (e 10) (e 11) σ) (by kernel_rfl) (by kernel_rfl) (fun n2 => (leaf (by kernel_rfl)))))
  (leaf (B := fun e σ => law23x_PlayWordsJ3 call f (e 4) (e 5) (e 6) (e 7) (e 8) (e 9) (e 10) σ) (by kernel_rfl))))
  (leaf (B := fun e σ => law23x_PlayWordsJ4 call f (e 0) (e 4) (e 5) (e 6) (e 7) (e 8) (e 9) (e 10) σ) (by kernel_rfl)))
  (leaf (B := fun e σ => law23x_PlayWordsJ5 call f (e 0) (e 4) (e 5) (e 6) (e 7) (e 8) (e 9) σ) (by kernel_rfl)))
  (leaf (B := fun e σ => law23x_PlayWordsJ6 call f (e 0) (e 4) (e 5) (e 6) (e 7) (e 8) σ) (by kernel_rfl)))
  (leaf (B := fun e σ => law23x_PlayWordsJ7 call f (e 0) (e 4) (e 5) (e 6) (e 7) (e 8) σ) (by kernel_rfl)))
  (leaf (B := fun e σ => law23x_PlayWordsJ8 call f (e 0) (e 4) (e 5) (e 6) (e 7) σ) (by kernel_rfl)))
  (leaf (B := fun e σ => law23x_PlayWordsJ9 call f (e 0) (e 4) (e 5) (e 6) σ) (by kernel_rfl)))
  (leaf (B := fun e σ => law23x_PlayWordsJ10 call f (e 0) (e 4) (e 5) σ) (by kernel_rfl)))
  (leaf (B := fun e σ => law23x_PlayWordsJ11 call f (e 0) (e 4) σ) (by kernel_rfl)))
  (leaf (B := fun e σ => law23x_PlayWordsJ12 call f (e 0) (e 4) σ) (by kernel_rfl)))
  (leaf (B := fun e σ => law23x_PlayWordsJ13 call f (e 0) σ) (by kernel_rfl)))
  (leaf (B := fun e σ => law23x_PlayWordsJ14 call f (e 0) σ) (by kernel_rfl)))
  (leaf (B := fun e σ => law23x_PlayWordsJ15 call f (e 0) (e 3) σ) (by kernel_rfl)))
  (leaf (B := fun e σ => law23x_PlayWordsJ16 call f (e 0) σ) (by kernel_rfl)))
  (leaf (B := fun e σ => law23x_PlayWordsJ17 call f (e 0) σ) (by kernel_rfl))) (by kernel_rfl)

abbrev top_TopEarlyR : List ARes := [.tmp 2]
def top_TopEarlyJ1 (call : CallF H) (f : Nat) (t0 t4 t5 t7 : Value) (σ : St H) : R H :=
  bindR (call n_kernel_Kernel_Job [t4, (I 3)] σ) fun t62 σ =>
  bindV (vExtract 0 t62) fun t63 =>
  bindV (vExtract 1 t62) fun t64 =>
  bindR (vBox (.agg ⟨(rep [(I 0)] 9)⟩) σ) fun t11 σ =>
  bindS (vStore 9 t11 t63 σ) fun σ =>
  bindV (vFieldAddr 1 t5) fun t65 =>
  bindV (vLoad false 1 t65 σ) fun t66 =>
  bindV (vLen .slice t66 σ) fun t67 =>
  bindV (abin .gtr t67 (I 0)) fun t68 =>
  bindV (bif kyes t68 true then some t7 else some undefV) fun t70 =>
  bindV (bif kyes t68 true then some t0 else some undefV) fun t71 =>
  bindV (bif kyes t68 true then vFieldAddr 1 t5 else some undefV) fun t72 =>
  bindV (bif kyes t68 true then vLoad false 1 t72 σ else some undefV) fun t73 =>
  bindV (bif kyes t68 true then vIndexAddr 4 t73 (I 0) else some undefV) fun t74 =>
  bindV (bif kyes t68 true then vFieldAddr 3 t74 else some undefV) fun t75 =>
  bindV (bif kyes t68 true then vLoad false 1 t75 σ else some undefV) fun t76 =>
  bindV (bif kyes t68 true then abin .gtr t71 t76 else some undefV) fun t77 =>
  bindV (bif kyes t68 true then vEq .sc false t70 t77 else some undefV) fun t78 =>
  bindV (vPick t68 t78 ff) fun t79 =>
  bindV (bif kyes t79 true then vFieldAddr 0 t11 else some undefV) fun t81 =>
  bindV (bif kyes t79 true then vLoad false 1 t81 σ else some undefV) fun t82 =>
  bindV (bif kyes t79 true then abin .eql t82 (I 5) else some undefV) fun t83 =>
  bindV (bif kyes t79 true then some t0 else some undefV) fun t84 =>
  bindV (bif kyes t79 true then abin .gtr t84 (I 9) else some undefV) fun t85 =>
  bindV (bif kyes t79 true then vEq .sc false t83 t85 else some undefV) fun t86 =>
  bindV (vPick t79 t86 ff) fun t87 =>
  bindV (bif kyes t87 true then vFieldAddr 3 t11 else some undefV) fun t89 =>
  bindV (bif kyes t87 true then vLoad false 1 t89 σ else some undefV) fun t90 =>
  bindV (bif kyes t87 true then some t0 else some undefV) fun t91 =>
  bindV (bif kyes t87 true then vMn [t91, (I 9)] else some undefV) fun t92 =>
  bindV (bif kyes t87 true then abin .eql t90 t92 else some undefV) fun t93 =>
  bindV (vPick t87 t93 ff) fun t94 =>
  some (t94, σ)
def top_TopEarlyL2 (call : CallF H) (f : Nat) (n : Nat) : Value → Value → Value → Value → Value → St H → R H :=
  Nat.rec (fun _ _ _ _ _ _ => none) (fun _ r2 => fun t0 t4 t5 t7 t8 σ =>
  bindV (abin .lss t8 (I 20)) fun t46 =>
  ifV t46 (
  bindR (call n_kernel_Kernel_Tick [t4, (.slice none 0 0), (.slice none 0 0)] σ) fun t50 σ =>
  bindR (call n_kernel_Kernel_Way [t4, (I 3)] σ) fun t53 σ =>
  bindV (vExtract 0 t53) fun t54 =>
  bindV (vExtract 1 t53) fun t55 =>
  bindR (vBox (.agg ⟨(rep [(I 0)] 5)⟩) σ) fun t9 σ =>
  bindS (vStore 5 t9 t54 σ) fun σ =>
  bindV (bif kyes t7 false then some t55 else some undefV) fun t58 =>
  bindV (vPick t7 tt t58) fun t59 =>
  bindV (abin .add t8 (I 1)) fun t48 =>
  r2 t0 t4 t5 t59 t48 σ) (
  top_TopEarlyJ1 call f t0 t4 t5 t7 σ)) n
def top_TopEarlyJ3 (call : CallF H) (f : Nat) (t0 t4 t5 t7 : Value) (σ : St H) : R H :=
  top_TopEarlyL2 call f f t0 t4 t5 t7 (I 0) σ
def top_TopEarlyJ4 (call : CallF H) (f : Nat) (t0 t4 t5 : Value) (σ : St H) : R H :=
  top_TopEarlyJ3 call f t0 t4 t5 ff σ
def top_TopEarlyJ5 (call : CallF H) (f : Nat) (t0 t4 t5 : Value) (σ : St H) : R H :=
  bindR (call n_kernel_Kernel_Release [t4, (I 3), t0, (.slice none 0 0)] σ) fun t43 σ =>
  bindV (abin .neq t43 (I 0)) fun t44 =>
  ifV t44 (
  some (ff, σ)) (
  top_TopEarlyJ4 call f t0 t4 t5 σ)
def top_TopEarlyJ6 (call : CallF H) (f : Nat) (t0 t4 t5 : Value) (σ : St H) : R H :=
  bindV (abin .and t0 (I 15)) fun t39 =>
  bindV (abin .add (I 1) t39) fun t40 =>
  top_TopEarlyJ5 call f t40 t4 t5 σ
def top_TopEarlyJ7 (call : CallF H) (f : Nat) (t0 t4 t5 t6 : Value) (σ : St H) : R H :=
  bindV (aun .not t6) fun t31 =>
  bindV (bif kyes t31 false then vFieldAddr 1 t5 else some undefV) fun t33 =>
  bindV (bif kyes t31 false then vLoad false 1 t33 σ else some undefV) fun t34 =>
  bindV (bif kyes t31 false then vLen .slice t34 σ else some undefV) fun t35 =>
  bindV (bif kyes t31 false then abin .lss t35 (I 2) else some undefV) fun t36 =>
  bindV (vPick t31 tt t36) fun t37 =>
  ifV t37 (
  some (ff, σ)) (
  top_TopEarlyJ6 call f t0 t4 t5 σ)
def top_TopEarlyJ8 (call : CallF H) (f : Nat) (t0 t4 : Value) (σ : St H) : R H :=
  bindR (call n_kernel_Kernel_Admit [t4] σ) fun t26 σ =>
  bindR (call n_admit_Admit_Plan [t26, (I 3)] σ) fun t27 σ =>
  bindV (vExtract 0 t27) fun t28 =>
  bindV (vExtract 1 t27) fun t29 =>
  bindR (vBox (.agg ⟨[(I 0), (.slice none 0 0)]⟩) σ) fun t5 σ =>
  bindS (vStore 2 t5 t28 σ) fun σ =>
  top_TopEarlyJ7 call f t0 t4 t5 t29 σ
def top_TopEarlyJ9 (call : CallF H) (f : Nat) (t0 t4 : Value) (σ : St H) : R H :=
  bindV (vEq .nilp false t4 nilP) fun t23 =>
  ifV t23 (
  some (ff, σ)) (
  top_TopEarlyJ8 call f t0 t4 σ)
def top_TopEarlyJ10 (call : CallF H) (f : Nat) (t0 : Value) (σ : St H) : R H :=
  bindV (vBuild [(I 0), (I 0), (I 0), (I 0), (.slice none 0 0)] [(0, 1, (I 2)), (2, 1, (I 1)), (3, 1, (I 1))]) fun t16 =>
  bindR (call n_top_task [(I 12), (I 20), (I 20)] σ) fun t17 σ =>
  bindR (call n_top_task [(I 12), (I 20), (I 20)] σ) fun t18 σ =>
  bindR (call n_top_task [(I 9), (I 20), (I 20)] σ) fun t19 σ =>
  bindR (vBuildSlice 3 [(I 0), (I 0), (I 0), (.slice none 0 0), (I 0), (I 0), (I 0), (.slice none 0 0), (I 0), (I 0), (I 0), (.slice none 0 0)] [(0, 4, t17), (4, 4, t18), (8, 4, t19)] σ) fun t20 σ =>
  bindR (call n_top_made [t16, t20] σ) fun t21 σ =>
  top_TopEarlyJ9 call f t0 t21 σ
def top_TopEarlyJ11 (call : CallF H) (f : Nat) (t0 t3 : Value) (σ : St H) : R H :=
  bindV (aun .not t3) fun t15 =>
  ifV t15 (
  some (ff, σ)) (
  top_TopEarlyJ10 call f t0 σ)
def top_TopEarlyJ12 (call : CallF H) (f : Nat) (t0 : Value) (σ : St H) : R H :=
  bindR (call n_top_begun [] σ) fun t13 σ =>
  top_TopEarlyJ11 call f t0 t13 σ
def top_TopEarlyJ13 (call : CallF H) (f : Nat) (t0 : Value) (σ : St H) : R H :=
  top_TopEarlyJ12 call f t0 σ
def top_TopEarly (call : CallF H) (f : Nat) (a0 : Value) (σ : St H) : R H := top_TopEarlyJ13 call f a0 σ
theorem top_TopEarlyEq (call : CallF H) (f : Nat) (a0 : Value) (σ : St H) : kbody call f (codeOf P n_top_TopEarly) [a0] σ = top_TopEarly call f a0 σ :=
  kbody_of (rs := top_TopEarlyR) (by kernel_rfl) (by kernel_rfl) (by kernel_rfl) (seq_eq (by kernel_rfl) (seq_eq (by kernel_rfl) (seq_eq (by kernel_rfl) (seq_eq (by kernel_rfl) (seq_eq (by kernel_rfl) (seq_eq (by kernel_rfl) (seq_eq (by kernel_rfl) (seq_eq (by kernel_rfl) (seq_eq (by kernel_rfl) (seq_eq (by kernel_rfl) (seq_eq (by kernel_rfl) (leaf (B := fun e σ => top_TopEarlyJ1 call f (e 0) (e 4) (e 5) (e 7) σ) (by kernel_rfl))
  (seq_eq (by kernel_rfl) (block_eq (by kernel_rfl) (loop_eq (fun n e σ => top_TopEarlyL2 call f n (e 0) (e 4) (e 5) (e 7) (e 8) σ) (by kernel_rfl) (by kernel_rfl) (fun n2 => (leaf (by kernel_rfl)))))
  (leaf (B := fun e σ => top_TopEarlyJ3 call f (e 0) (e 4) (e 5) (e 7) σ) (by kernel_rfl))))
  (leaf (B := fun e σ => top_TopEarlyJ4 call f (e 0) (e 4) (e 5) σ) (by kernel_rfl)))
  (leaf (B := fun e σ => top_TopEarlyJ5 call f (e 0) (e 4) (e 5) σ) (by kernel_rfl)))
  (leaf (B := fun e σ => top_TopEarlyJ6 call f (e 0) (e 4) (e 5) σ) (by kernel_rfl)))
  (leaf (B := fun e σ => top_TopEarlyJ7 call f (e 0) (e 4) (e 5) (e 6) σ) (by kernel_rfl)))
  (leaf (B := fun e σ => top_TopEarlyJ8 call f (e 0) (e 4) σ) (by kernel_rfl)))
  (leaf (B := fun e σ => top_TopEarlyJ9 call f (e 0) (e 4) σ) (by kernel_rfl)))
  (leaf (B := fun e σ => top_TopEarlyJ10 call f (e 0) σ) (by kernel_rfl)))
  (leaf (B := fun e σ => top_TopEarlyJ11 call f (e 0) (e 3) σ) (by kernel_rfl)))
  (leaf (B := fun e σ => top_TopEarlyJ12 call f (e 0) σ) (by kernel_rfl)))
  (leaf (B := fun e σ => top_TopEarlyJ13 call f (e 0) σ) (by kernel_rfl))) (by kernel_rfl)

abbrev top_TopHandR : List ARes := [.tmp 2]
def top_TopHandJ1 (call : CallF H) (f : Nat) (t4 t7 t9 t10 : Value) (σ : St H) : R H :=
  bindR (call n_kernel_Kernel_Job [t4, (I 3)] σ) fun t132 σ =>
  bindV (vExtract 0 t132) fun t133 =>
  bindV (vExtract 1 t132) fun t134 =>
  bindR (vBox (.agg ⟨(rep [(I 0)] 9)⟩) σ) fun t17 σ =>
  bindS (vStore 9 t17 t133 σ) fun σ =>
  bindV (bif kyes t134 true then vFieldAddr 0 t17 else some undefV) fun t137 =>
  bindV (bif kyes t134 true then vLoad false 1 t137 σ else some undefV) fun t138 =>
  bindV (bif kyes t134 true then abin .eql t138 (I 4) else some undefV) fun t139 =>
  bindV (vPick t134 t139 ff) fun t140 =>
  bindV (bif kyes t140 true then vFieldAddr 8 t17 else some undefV) fun t142 =>
  bindV (bif kyes t140 true then vLoad false 1 t142 σ else some undefV) fun t143 =>
  bindV (bif kyes t140 true then abin .leq t143 (I 20) else some undefV) fun t144 =>
  bindV (vPick t140 t144 ff) fun t145 =>
  bindV (bif kyes t145 true then vFieldAddr 1 t7 else some undefV) fun t147 =>
  bindV (bif kyes t145 true then vLoad false 1 t147 σ else some undefV) fun t148 =>
  bindV (bif kyes t145 true then vLen .slice t148 σ else some undefV) fun t149 =>
  bindV (bif kyes t145 true then abin .gtr t149 (I 1) else some undefV) fun t150 =>
  bindV (vPick t145 t150 ff) fun t151 =>
  bindV (bif kyes t151 true then vFieldAddr 1 t7 else some undefV) fun t153 =>
  bindV (bif kyes t151 true then vLoad false 1 t153 σ else some undefV) fun t154 =>
  bindV (bif kyes t151 true then vIndexAddr 4 t154 (I 0) else some undefV) fun t155 =>
  bindV (bif kyes t151 true then vFieldAddr 0 t155 else some undefV) fun t156 =>
  bindV (bif kyes t151 true then vLoad false 1 t156 σ else some undefV) fun t157 =>
  bindV (bif kyes t151 true then abin .geq t157 (I 0) else some undefV) fun t158 =>
  bindV (vPick t151 t158 ff) fun t159 =>
  bindV (bif kyes t159 true then vFieldAddr 1 t7 else some undefV) fun t161 =>
  bindV (bif kyes t159 true then vLoad false 1 t161 σ else some undefV) fun t162 =>
  bindV (bif kyes t159 true then vIndexAddr 4 t162 (I 0) else some undefV) fun t163 =>
  bindV (bif kyes t159 true then vFieldAddr 0 t163 else some undefV) fun t164 =>
  bindV (bif kyes t159 true then vLoad false 1 t164 σ else some undefV) fun t165 =>
  bindV (bif kyes t159 true then abin .lss t165 (I 2) else some undefV) fun t166 =>
  bindV (vPick t159 t166 ff) fun t167 =>
  bindV (bif kyes t167 true then vFieldAddr 1 t7 else some undefV) fun t169 =>
  bindV (bif kyes t167 true then vLoad false 1 t169 σ else some undefV) fun t170 =>
  bindV (bif kyes t167 true then vIndexAddr 4 t170 (I 1) else some undefV) fun t171 =>
  bindV (bif kyes t167 true then vFieldAddr 0 t171 else some undefV) fun t172 =>
  bindV (bif kyes t167 true then vLoad false 1 t172 σ else some undefV) fun t173 =>
  bindV (bif kyes t167 true then abin .geq t173 (I 0) else some undefV) fun t174 =>
  bindV (vPick t167 t174 ff) fun t175 =>
  bindV (bif kyes t175 true then vFieldAddr 1 t7 else some undefV) fun t177 =>
  bindV (bif kyes t175 true then vLoad false 1 t177 σ else some undefV) fun t178 =>
  bindV (bif kyes t175 true then vIndexAddr 4 t178 (I 1) else some undefV) fun t179 =>
  bindV (bif kyes t175 true then vFieldAddr 0 t179 else some undefV) fun t180 =>
  bindV (bif kyes t175 true then vLoad false 1 t180 σ else some undefV) fun t181 =>
  bindV (bif kyes t175 true then abin .lss t181 (I 2) else some undefV) fun t182 =>
  bindV (vPick t175 t182 ff) fun t183 =>
  bindV (bif kyes t183 true then vFieldAddr 1 t7 else some undefV) fun t185 =>
  bindV (bif kyes t183 true then vLoad false 1 t185 σ else some undefV) fun t186 =>
  bindV (bif kyes t183 true then vIndexAddr 4 t186 (I 0) else some undefV) fun t187 =>
  bindV (bif kyes t183 true then vFieldAddr 0 t187 else some undefV) fun t188 =>
  bindV (bif kyes t183 true then vLoad false 1 t188 σ else some undefV) fun t189 =>
  bindV (bif kyes t183 true then vIndexArr 2 1 t9 t189 else some undefV) fun t190 =>
  bindV (bif kyes t183 true then vLoad false 1 t190 σ else some undefV) fun t191 =>
  bindV (bif kyes t183 true then vFieldAddr 1 t7 else some undefV) fun t192 =>
  bindV (bif kyes t183 true then vLoad false 1 t192 σ else some undefV) fun t193 =>
  bindV (bif kyes t183 true then vIndexAddr 4 t193 (I 0) else some undefV) fun t194 =>
  bindV (bif kyes t183 true then vFieldAddr 3 t194 else some undefV) fun t195 =>
  bindV (bif kyes t183 true then vLoad false 1 t195 σ else some undefV) fun t196 =>
  bindV (bif kyes t183 true then abin .eql t191 t196 else some undefV) fun t197 =>
  bindV (vPick t183 t197 ff) fun t198 =>
  bindV (bif kyes t198 true then vFieldAddr 1 t7 else some undefV) fun t200 =>
  bindV (bif kyes t198 true then vLoad false 1 t200 σ else some undefV) fun t201 =>
  bindV (bif kyes t198 true then vIndexAddr 4 t201 (I 1) else some undefV) fun t202 =>
  bindV (bif kyes t198 true then vFieldAddr 0 t202 else some undefV) fun t203 =>
  bindV (bif kyes t198 true then vLoad false 1 t203 σ else some undefV) fun t204 =>
  bindV (bif kyes t198 true then vIndexArr 2 1 t9 t204 else some undefV) fun t205 =>
  bindV (bif kyes t198 true then vLoad false 1 t205 σ else some undefV) fun t206 =>
  bindV (bif kyes t198 true then vFieldAddr 1 t7 else some undefV) fun t207 =>
  bindV (bif kyes t198 true then vLoad false 1 t207 σ else some undefV) fun t208 =>
  bindV (bif kyes t198 true then vIndexAddr 4 t208 (I 1) else some undefV) fun t209 =>
  bindV (bif kyes t198 true then vFieldAddr 3 t209 else some undefV) fun t210 =>
  bindV (bif kyes t198 true then vLoad false 1 t210 σ else some undefV) fun t211 =>
  bindV (bif kyes t198 true then abin .eql t206 t211 else some undefV) fun t212 =>
  bindV (vPick t198 t212 ff) fun t213 =>
  bindV (bif kyes t213 true then some t10 else some undefV) fun t215 =>
  bindV (bif kyes t213 true then abin .geq t215 (I 1) else some undefV) fun t216 =>
  bindV (vPick t213 t216 ff) fun t217 =>
  bindV (bif kyes t217 true then some t10 else some undefV) fun t219 =>
  bindV (bif kyes t217 true then abin .leq t219 (I 3) else some undefV) fun t220 =>
  bindV (vPick t217 t220 ff) fun t221 =>
  bindV (bif kyes t221 true then some t4 else some undefV) fun t223 =>
  bindR (bif kyes t221 true then call n_kernel_Kernel_Idle [t223] σ else some (undefV, σ)) fun t224 σ =>
  bindV (vPick t221 t224 ff) fun t225 =>
  some (t225, σ)
def top_TopHandJ3 (call : CallF H) (f : Nat) (r2 : Value → Value → Value → Value → Value → Value → St H → R H) (t0 t4 t7 t9 t10 t11 : Value) (σ : St H) : R H :=
  bindV (abin .add t11 (I 1)) fun t64 =>
  r2 t0 t4 t7 t9 t10 t64 σ
def top_TopHandJ4 (call : CallF H) (f : Nat) (r2 : Value → Value → Value → Value → Value → Value → St H → R H) (t0 t4 t7 t9 t10 t11 : Value) (σ : St H) : R H :=
  bindR (call n_kernel_Kernel_Way [t4, (I 3)] σ) fun t111 σ =>
  bindV (vExtract 0 t111) fun t112 =>
  bindV (vExtract 1 t111) fun t113 =>
  bindR (vBox (.agg ⟨(rep [(I 0)] 5)⟩) σ) fun t15 σ =>
  bindS (vStore 5 t15 t112 σ) fun σ =>
  ifV t113 (
  bindV (abin .add t10 (I 1)) fun t116 =>
  bindV (vFieldAddr 0 t15) fun t117 =>
  bindV (vLoad false 1 t117 σ) fun t118 =>
  bindV (abin .neq t118 (I 1)) fun t119 =>
  bindV (bif kyes t119 false then vFieldAddr 2 t15 else some undefV) fun t121 =>
  bindV (bif kyes t119 false then vLoad false 1 t121 σ else some undefV) fun t122 =>
  bindV (bif kyes t119 false then vFieldAddr 1 t7 else some undefV) fun t123 =>
  bindV (bif kyes t119 false then vLoad false 1 t123 σ else some undefV) fun t124 =>
  bindV (bif kyes t119 false then vIndexAddr 4 t124 (I 1) else some undefV) fun t125 =>
  bindV (bif kyes t119 false then vFieldAddr 0 t125 else some undefV) fun t126 =>
  bindV (bif kyes t119 false then vLoad false 1 t126 σ else some undefV) fun t127 =>
  bindV (bif kyes t119 false then abin .neq t122 t127 else some undefV) fun t128 =>
  bindV (vPick t119 tt t128) fun t129 =>
  ifV t129 (
  some (ff, σ)) (
  top_TopHandJ3 call f r2 t0 t4 t7 t9 t116 t11 σ)) (
  top_TopHandJ3 call f r2 t0 t4 t7 t9 t10 t11 σ)
def top_TopHandJ6 (call : CallF H) (f : Nat) (r2 : Value → Value → Value → Value → Value → Value → St H → R H) (r5 : Value → Value → Value → Value → Value → Value → Value → Value → St H → R H) (t0 t4 t7 t9 t10 t11 t12 t14 : Value) (σ : St H) : R H :=
  bindV (abin .add t14 (I 1)) fun t97 =>
  r5 t0 t4 t7 t9 t10 t11 t12 t97 σ
def top_TopHandL5 (call : CallF H) (f : Nat) (r2 : Value → Value → Value → Value → Value → Value → St H → R H) (n : Nat) : Value → Value → Value → Value → Value → Value → Value → Value → St H → R H :=
  Nat.rec (fun _ _ _ _ _ _ _ _ _ => none) (fun _ r5 => fun t0 t4 t7 t9 t10 t11 t12 t14 σ =>
  bindV (abin .lss t14 (I 2)) fun t95 =>
  ifV t95 (
  bindV (vFieldAddr 0 t12) fun t98 =>
  bindV (vLoad false 1 t98 σ) fun t99 =>
  bindV (vIndexAddr 1 t99 t14) fun t101 =>
  bindV (vLoad false 1 t101 σ) fun t102 =>
  bindV (abin .eql t102 (I 3)) fun t103 =>
  ifV t103 (
  bindV (vIndexArr 2 1 t9 t14) fun t105 =>
  bindV (vLoad false 1 t105 σ) fun t106 =>
  bindV (abin .add t106 (I 1)) fun t107 =>
  bindV (vIndexArr 2 1 t9 t14) fun t108 =>
  bindS (vStore 1 t108 t107 σ) fun σ =>
  top_TopHandJ6 call f r2 r5 t0 t4 t7 t9 t10 t11 t12 t14 σ) (
  top_TopHandJ6 call f r2 r5 t0 t4 t7 t9 t10 t11 t12 t14 σ)) (
  top_TopHandJ4 call f r2 t0 t4 t7 t9 t10 t11 σ)) n
def top_TopHandJ7 (call : CallF H) (f : Nat) (r2 : Value → Value → Value → Value → Value → Value → St H → R H) (t0 t4 t7 t9 t10 t11 t12 : Value) (σ : St H) : R H :=
  top_TopHandL5 call f r2 f t0 t4 t7 t9 t10 t11 t12 (I 0) σ
def top_TopHandJ8 (call : CallF H) (f : Nat) (r2 : Value → Value → Value → Value → Value → Value → St H → R H) (t0 t4 t7 t9 t10 t11 t12 t13 : Value) (σ : St H) : R H :=
  bindV (abin .neq t13 (I 0)) fun t73 =>
  bindV (bif kyes t73 false then vFieldAddr 0 t12 else some undefV) fun t75 =>
  bindV (bif kyes t73 false then vLoad false 1 t75 σ else some undefV) fun t76 =>
  bindV (bif kyes t73 false then vLen .slice t76 σ else some undefV) fun t77 =>
  bindV (bif kyes t73 false then abin .neq t77 (I 2) else some undefV) fun t78 =>
  bindV (vPick t73 tt t78) fun t79 =>
  bindV (bif kyes t79 false then vFieldAddr 0 t12 else some undefV) fun t81 =>
  bindV (bif kyes t79 false then vLoad false 1 t81 σ else some undefV) fun t82 =>
  bindV (bif kyes t79 false then vIndexAddr 1 t82 (I 0) else some undefV) fun t83 =>
  bindV (bif kyes t79 false then vLoad false 1 t83 σ else some undefV) fun t84 =>
  bindV (bif kyes t79 false then abin .neq t84 (I 0) else some undefV) fun t85 =>
  bindV (bif kyes t79 false then some t85 else some undefV) fun t86 =>
  bindV (bif kyes t86 true then vFieldAddr 0 t12 else some undefV) fun t87 =>
  bindV (bif kyes t86 true then vLoad false 1 t87 σ else some undefV) fun t88 =>
  bindV (bif kyes t86 true then vIndexAddr 1 t88 (I 1) else some undefV) fun t89 =>
  bindV (bif kyes t86 true then vLoad false 1 t89 σ else some undefV) fun t90 =>
  bindV (bif kyes t86 true then abin .neq t90 (I 0) else some undefV) fun t91 =>
  bindV (bif kyes t79 false then vPick t86 t91 ff else some undefV) fun t92 =>
  bindV (vPick t79 tt t92) fun t93 =>
  ifV t93 (
  some (ff, σ)) (
  top_TopHandJ7 call f r2 t0 t4 t7 t9 t10 t11 t12 σ)
def top_TopHandJ9 (call : CallF H) (f : Nat) (r2 : Value → Value → Value → Value → Value → Value → St H → R H) (t0 t4 t7 t9 t10 t11 : Value) (σ : St H) : R H :=
  bindR (vBuildSlice 1 [(I 0)] [(0, 1, t0)] σ) fun t68 σ =>
  bindR (call n_kernel_Kernel_Tick [t4, t68, (.slice none 0 0)] σ) fun t69 σ =>
  bindV (vExtract 0 t69) fun t70 =>
  bindV (vExtract 1 t69) fun t71 =>
  bindR (vBox (.agg ⟨[(.slice none 0 0), (.slice none 0 0)]⟩) σ) fun t12 σ =>
  bindS (vStore 2 t12 t70 σ) fun σ =>
  top_TopHandJ8 call f r2 t0 t4 t7 t9 t10 t11 t12 t71 σ
def top_TopHandJ10 (call : CallF H) (f : Nat) (r2 : Value → Value → Value → Value → Value → Value → St H → R H) (t0 t4 t7 t9 t10 t11 : Value) (σ : St H) : R H :=
  bindV (abin .lss t11 (I 20)) fun t62 =>
  ifV t62 (
  top_TopHandJ9 call f r2 t0 t4 t7 t9 t10 t11 σ) (
  top_TopHandJ1 call f t4 t7 t9 t10 σ)
def top_TopHandL2 (call : CallF H) (f : Nat) (n : Nat) : Value → Value → Value → Value → Value → Value → St H → R H :=
  Nat.rec (fun _ _ _ _ _ _ _ => none) (fun _ r2 => fun t0 t4 t7 t9 t10 t11 σ =>
  top_TopHandJ10 call f r2 t0 t4 t7 t9 t10 t11 σ) n
def top_TopHandJ11 (call : CallF H) (f : Nat) (t0 t4 t7 t9 t10 : Value) (σ : St H) : R H :=
  top_TopHandL2 call f f t0 t4 t7 t9 t10 (I 0) σ
def top_TopHandJ12 (call : CallF H) (f : Nat) (t0 t4 t7 t9 : Value) (σ : St H) : R H :=
  top_TopHandJ11 call f t0 t4 t7 t9 (I 0) σ
def top_TopHandJ13 (call : CallF H) (f : Nat) (t0 t4 t7 : Value) (σ : St H) : R H :=
  bindV (vBuild [(I 0), (I 0)] []) fun t60 =>
  bindR (vBox (.agg ⟨[(I 0), (I 0)]⟩) σ) fun t9 σ =>
  bindS (vStore 2 t9 t60 σ) fun σ =>
  top_TopHandJ12 call f t0 t4 t7 t9 σ
def top_TopHandJ14 (call : CallF H) (f : Nat) (t0 t4 t7 t8 : Value) (σ : St H) : R H :=
  bindV (aun .not t8) fun t48 =>
  bindV (bif kyes t48 false then vFieldAddr 1 t7 else some undefV) fun t50 =>
  bindV (bif kyes t48 false then vLoad false 1 t50 σ else some undefV) fun t51 =>
  bindV (bif kyes t48 false then vLen .slice t51 σ else some undefV) fun t52 =>
  bindV (bif kyes t48 false then abin .neq t52 (I 2) else some undefV) fun t53 =>
  bindV (vPick t48 tt t53) fun t54 =>
  bindV (bif kyes t54 false then some t4 else some undefV) fun t56 =>
  bindR (bif kyes t54 false then call n_kernel_Kernel_Release [t56, (I 3), (I 9), (.slice none 0 0)] σ else some (undefV, σ)) fun t57 σ =>
  bindV (bif kyes t54 false then abin .neq t57 (I 0) else some undefV) fun t58 =>
  bindV (vPick t54 tt t58) fun t59 =>
  ifV t59 (
  some (ff, σ)) (
  top_TopHandJ13 call f t0 t4 t7 σ)
def top_TopHandJ15 (call : CallF H) (f : Nat) (t0 t4 : Value) (σ : St H) : R H :=
  bindR (call n_kernel_Kernel_Admit [t4] σ) fun t43 σ =>
  bindR (call n_admit_Admit_Plan [t43, (I 3)] σ) fun t44 σ =>
  bindV (vExtract 0 t44) fun t45 =>
  bindV (vExtract 1 t44) fun t46 =>
  bindR (vBox (.agg ⟨[(I 0), (.slice none 0 0)]⟩) σ) fun t7 σ =>
  bindS (vStore 2 t7 t45 σ) fun σ =>
  top_TopHandJ14 call f t0 t4 t7 t46 σ
def top_TopHandJ16 (call : CallF H) (f : Nat) (t0 t4 t5 t6 : Value) (σ : St H) : R H :=
  bindV (abin .neq t6 (I 0)) fun t36 =>
  bindV (bif kyes t36 false then some t5 else some undefV) fun t38 =>
  bindV (bif kyes t36 false then abin .neq t38 (I 3) else some undefV) fun t39 =>
  bindV (vPick t36 tt t39) fun t40 =>
  ifV t40 (
  some (ff, σ)) (
  top_TopHandJ15 call f t0 t4 σ)
def top_TopHandJ17 (call : CallF H) (f : Nat) (t0 t4 : Value) (σ : St H) : R H :=
  bindR (call n_top_task [(I 9), (I 20), (I 20)] σ) fun t31 σ =>
  bindR (call n_kernel_Kernel_Add [t4, t31] σ) fun t32 σ =>
  bindV (vExtract 0 t32) fun t33 =>
  bindV (vExtract 1 t32) fun t34 =>
  top_TopHandJ16 call f t0 t4 t33 t34 σ
def top_TopHandJ18 (call : CallF H) (f : Nat) (t0 t4 : Value) (σ : St H) : R H :=
  bindV (vEq .nilp false t4 nilP) fun t28 =>
  ifV t28 (
  some (ff, σ)) (
  top_TopHandJ17 call f t0 t4 σ)
def top_TopHandJ19 (call : CallF H) (f : Nat) (t0 : Value) (σ : St H) : R H :=
  bindV (vBuild [(I 0), (I 0), (I 0), (I 0), (.slice none 0 0)] [(0, 1, (I 2)), (2, 1, (I 2)), (3, 1, (I 1))]) fun t22 =>
  bindR (call n_top_task [(I 12), (I 20), (I 20)] σ) fun t23 σ =>
  bindR (call n_top_task [(I 12), (I 20), (I 20)] σ) fun t24 σ =>
  bindR (vBuildSlice 2 [(I 0), (I 0), (I 0), (.slice none 0 0), (I 0), (I 0), (I 0), (.slice none 0 0)] [(0, 4, t23), (4, 4, t24)] σ) fun t25 σ =>
  bindR (call n_top_made [t22, t25] σ) fun t26 σ =>
  top_TopHandJ18 call f t0 t26 σ
def top_TopHandJ20 (call : CallF H) (f : Nat) (t0 t3 : Value) (σ : St H) : R H :=
  bindV (aun .not t3) fun t21 =>
  ifV t21 (
  some (ff, σ)) (
  top_TopHandJ19 call f t0 σ)
def top_TopHandJ21 (call : CallF H) (f : Nat) (t0 : Value) (σ : St H) : R H :=
  bindR (call n_top_begun [] σ) fun t19 σ =>
  top_TopHandJ20 call f t0 t19 σ
def top_TopHandJ22 (call : CallF H) (f : Nat) (t0 : Value) (σ : St H) : R H :=
  top_TopHandJ21 call f t0 σ
def top_TopHand (call : CallF H) (f : Nat) (a0 : Value) (σ : St H) : R H := top_TopHandJ22 call f a0 σ
theorem top_TopHandEq (call : CallF H) (f : Nat) (a0 : Value) (σ : St H) : kbody call f (codeOf P n_top_TopHand) [a0] σ = top_TopHand call f a0 σ :=
  kbody_of (rs := top_TopHandR) (by kernel_rfl) (by kernel_rfl) (by kernel_rfl) (seq_eq (by kernel_rfl) (seq_eq (by kernel_rfl) (seq_eq (by kernel_rfl) (seq_eq (by kernel_rfl) (seq_eq (by kernel_rfl) (seq_eq (by kernel_rfl) (seq_eq (by kernel_rfl) (seq_eq (by kernel_rfl) (seq_eq (by kernel_rfl) (seq_eq (by kernel_rfl) (seq_eq (by kernel_rfl) (seq_eq (by kernel_rfl) (leaf (B := fun e σ => top_TopHandJ1 call f (e 4) (e 7) (e 9) (e 10) σ) (by kernel_rfl))
  (seq_eq (by kernel_rfl) (block_eq (by kernel_rfl) (loop_eq (fun n e σ => top_TopHandL2 call f n (e 0) (e 4) (e 7) (e 9) (e 10) (e 11) σ) (by kernel_rfl) (by kernel_rfl) (fun n2 => (tr (seq_eq (by kernel_rfl) (seq_eq (by kernel_rfl) (leaf (B := fun e σ => top_TopHandJ3 call f (top_TopHandL2 call f n2) (e 0) (e 4) (e 7) (e 9) (e 10) (e 11) σ) (by kernel_rfl))
  (block_eq (by kernel_rfl) (seq_eq (by kernel_rfl) (seq_eq (by kernel_rfl) (seq_eq (by kernel_rfl) (leaf (B := fun e σ => top_TopHandJ4 call f (top_TopHandL2 call f n2) (e 0) (e 4) (e 7) (e 9) (e 10) (e 11) σ) (by kernel_rfl))
  (seq_eq (by kernel_rfl) (block_eq (by kernel_rfl) (loop_eq (fun n e σ => top_TopHandL5 call f (top_TopHandL2 call f n2) n (e 0) (e 4) (e 7) (e 9) (e 10) (e 11) (e 12) (e 14) σ) (by kernel_rfl) (by kernel_rfl) (fun n5 => (leaf (by kernel_rfl)))))
  (leaf (B := fun e σ => top_TopHandJ7 call f (top_TopHandL2 call f n2) (e 0) (e 4) (e 7) (e 9) (e 10) (e 11) (e 12) σ) (by kernel_rfl))))
  (leaf (B := fun e σ => top_TopHandJ8 call f (top_TopHandL2 call f n2) (e 0) (e 4) (e 7) (e 9) (e 10) (e 11) (e 12) (e 13) σ) (by kernel_rfl)))
  (leaf (B := fun e σ => top_TopHandJ9 call f (top_TopHandL2 call f n2) (e 0) (e 4) (e 7) (e 9) (e 10) (e 11) σ) (by kernel_rfl)))))
  (leaf (B := fun e σ => top_TopHandJ10 call f (top_TopHandL2 call f n2) (e 0) (e 4) (e 7) (e 9) (e 10) (e 11) σ) (by kernel_rfl))) (by kernel_rfl)))))
  (leaf (B := fun e σ => top_TopHandJ11 call f (e 0) (e 4) (e 7) (e 9) (e 10) σ) (by kernel_rfl))))
  (leaf (B := fun e σ => top_TopHandJ12 call f (e 0) (e 4) (e 7) (e 9) σ) (by kernel_rfl)))
  (leaf (B := fun e σ => top_TopHandJ13 call f (e 0) (e 4) (e 7) σ) (by kernel_rfl)))
  (leaf (B := fun e σ => top_TopHandJ14 call f (e 0) (e 4) (e 7) (e 8) σ) (by kernel_rfl)))
  (leaf (B := fun e σ => top_TopHandJ15 call f (e 0) (e 4) σ) (by kernel_rfl)))
  (leaf (B := fun e σ => top_TopHandJ16 call f (e 0) (e 4) (e 5) (e 6) σ) (by kernel_rfl)))
  (leaf (B := fun e σ => top_TopHandJ17 call f (e 0) (e 4) σ) (by kernel_rfl)))
  (leaf (B := fun e σ => top_TopHandJ18 call f (e 0) (e 4) σ) (by kernel_rfl)))
  (leaf (B := fun e σ => top_TopHandJ19 call f (e 0) σ) (by kernel_rfl)))
  (leaf (B := fun e σ => top_TopHandJ20 call f (e 0) (e 3) σ) (by kernel_rfl)))
  (leaf (B := fun e σ => top_TopHandJ21 call f (e 0) σ) (by kernel_rfl)))
  (leaf (B := fun e σ => top_TopHandJ22 call f (e 0) σ) (by kernel_rfl))) (by kernel_rfl)

def kernel_Kernel_AddJ1 (call : CallF H) (f : Nat) (t6 t7 : Value) (σ : St H) : R H :=
  some (.tuple ⟨[t6, t7]⟩, σ)
def kernel_Kernel_Add (call : CallF H) (f : Nat) (a0 a1 : Value) (σ : St H) : R H :=
  bindR (vBox a1 σ) fun t3 σ =>
  bindV (vEq .nilp false a0 nilP) fun t9 =>
  ifV t9 (
  some (.tuple ⟨[(I 0), (I 8)]⟩, σ)) (
  bindV (vNil a0) fun t12 =>
  bindV (vFieldAddr 0 t12) fun t13 =>
  bindV (vLoad false 1 t13 σ) fun t14 =>
  bindV (vLoad true 4 t3 σ) fun t15 =>
  bindR (call n_admit_Admit_Add [t14, t15] σ) fun t16 σ =>
  bindV (vExtract 0 t16) fun t17 =>
  bindV (vExtract 1 t16) fun t18 =>
  bindV (abin .eql t18 (I 0)) fun t20 =>
  ifV t20 (
  bindV (vNil a0) fun t22 =>
  bindV (vFieldAddr 2 t22) fun t23 =>
  bindV (vLoad false 1 t23 σ) fun t24 =>
  bindV (vBuild [(I 0), (I 0), (I 0), (I 0), (I 0), (I 0), (I 0), (I 0), (I 0), (.slice none 0 0)] []) fun t26 =>
  bindR (vBox t26 σ) fun t27 σ =>
  bindS (vMapUpdate true t24 t17 t27 σ) fun σ =>
  kernel_Kernel_AddJ1 call f t17 t18 σ) (
  kernel_Kernel_AddJ1 call f t17 t18 σ))
theorem kernel_Kernel_AddEq (call : CallF H) (f : Nat) (a0 a1 : Value) (σ : St H) : kbody call f (codeOf P n_kernel_Kernel_Add) [a0, a1] σ = kernel_Kernel_Add call f a0 a1 σ := by kernel_rfl

abbrev kernel_Kernel_TickR : List ARes := [.cell 6 true 2, .tmp 7]
def kernel_Kernel_TickJ1 (call : CallF H) (f : Nat) (t0 t1 t6 t8 t9 : Value) (σ : St H) : R H :=
  bindR (call n_kernel_Kernel_says [t0, t8, t1] σ) fun t89 σ =>
  bindV (vNil t0) fun t91 =>
  bindV (vFieldAddr 1 t91) fun t92 =>
  bindV (vLoad false 1 t92 σ) fun t93 =>
  bindV (abin .add t93 (I 1)) fun t94 =>
  bindV (vNil t0) fun t95 =>
  bindV (vFieldAddr 1 t95) fun t96 =>
  bindS (vStore 1 t96 t94 σ) fun σ =>
  bindV (vLoad true 2 t9 σ) fun t97 =>
  bindS (vStore 2 t6 t97 σ) fun σ =>
  resV [.c t6 true 2, .v (I 0)] σ
def kernel_Kernel_TickJ3 (call : CallF H) (f : Nat) (r2 : Value → Value → Value → Value → Value → Value → Value → St H → R H) (t0 t1 t6 t8 t9 t63 t64 : Value) (σ : St H) : R H :=
  bindV (abin .add t64 (I 1)) fun t85 =>
  r2 t0 t1 t6 t8 t9 t63 t85 σ
def kernel_Kernel_TickL2 (call : CallF H) (f : Nat) (n : Nat) : Value → Value → Value → Value → Value → Value → Value → St H → R H :=
  Nat.rec (fun _ _ _ _ _ _ _ _ => none) (fun _ r2 => fun t0 t1 t6 t8 t9 t63 t64 σ =>
  bindV (abin .lss t64 t63) fun t65 =>
  ifV t65 (
  bindR (call n_kernel_Kernel_serves [t0, t64] σ) fun t70 σ =>
  bindV (vExtract 0 t70) fun t71 =>
  bindV (vExtract 1 t70) fun t72 =>
  bindR (vBox (.agg ⟨(rep [(I 0)] 5)⟩) σ) fun t15 σ =>
  bindS (vStore 5 t15 t72 σ) fun σ =>
  bindV (vFieldAddr 1 t9) fun t73 =>
  bindV (vLoad false 1 t73 σ) fun t74 =>
  bindR (vBuildSlice 1 [(I 0)] [(0, 1, t71)] σ) fun t76 σ =>
  bindR (vAppend 1 8 [(I 0)] false t74 t76 σ) fun t77 σ =>
  bindV (vFieldAddr 1 t9) fun t78 =>
  bindS (vStore 1 t78 t77 σ) fun σ =>
  bindV (vFieldAddr 0 t15) fun t79 =>
  bindV (vLoad false 1 t79 σ) fun t80 =>
  bindV (abin .neq t80 (I 0)) fun t81 =>
  ifV t81 (
  bindV (vLoad true 5 t15 σ) fun t84 =>
  bindS (vMapUpdate true t8 t71 t84 σ) fun σ =>
  kernel_Kernel_TickJ3 call f r2 t0 t1 t6 t8 t9 t63 t64 σ) (
  kernel_Kernel_TickJ3 call f r2 t0 t1 t6 t8 t9 t63 t64 σ)) (
  kernel_Kernel_TickJ1 call f t0 t1 t6 t8 t9 σ)) n
def kernel_Kernel_TickJ4 (call : CallF H) (f : Nat) (t0 t1 t6 t8 t9 : Value) (σ : St H) : R H :=
  bindV (vNil t0) fun t60 =>
  bindV (vFieldAddr 4 t60) fun t61 =>
  bindV (vLoad false 1 t61 σ) fun t62 =>
  bindV (vLen .slice t62 σ) fun t63 =>
  kernel_Kernel_TickL2 call f f t0 t1 t6 t8 t9 t63 (I 0) σ
def kernel_Kernel_TickJ6 (call : CallF H) (f : Nat) (r5 : Value → Value → Value → Value → Value → Value → Value → St H → R H) (t0 t1 t6 t8 t9 t36 t37 : Value) (σ : St H) : R H :=
  bindV (abin .add t37 (I 1)) fun t58 =>
  r5 t0 t1 t6 t8 t9 t36 t58 σ
def kernel_Kernel_TickL5 (call : CallF H) (f : Nat) (n : Nat) : Value → Value → Value → Value → Value → Value → Value → St H → R H :=
  Nat.rec (fun _ _ _ _ _ _ _ _ => none) (fun _ r5 => fun t0 t1 t6 t8 t9 t36 t37 σ =>
  bindV (abin .lss t37 t36) fun t38 =>
  ifV t38 (
  bindR (call n_kernel_Kernel_runs [t0, t37] σ) fun t43 σ =>
  bindV (vExtract 0 t43) fun t44 =>
  bindV (vExtract 1 t43) fun t45 =>
  bindR (vBox (.agg ⟨(rep [(I 0)] 5)⟩) σ) fun t12 σ =>
  bindS (vStore 5 t12 t45 σ) fun σ =>
  bindV (vFieldAddr 0 t9) fun t46 =>
  bindV (vLoad false 1 t46 σ) fun t47 =>
  bindR (vBuildSlice 1 [(I 0)] [(0, 1, t44)] σ) fun t49 σ =>
  bindR (vAppend 1 8 [(I 0)] false t47 t49 σ) fun t50 σ =>
  bindV (vFieldAddr 0 t9) fun t51 =>
  bindS (vStore 1 t51 t50 σ) fun σ =>
  bindV (vFieldAddr 0 t12) fun t52 =>
  bindV (vLoad false 1 t52 σ) fun t53 =>
  bindV (abin .neq t53 (I 0)) fun t54 =>
  ifV t54 (
  bindV (vLoad true 5 t12 σ) fun t57 =>
  bindS (vMapUpdate true t8 t44 t57 σ) fun σ =>
  kernel_Kernel_TickJ6 call f r5 t0 t1 t6 t8 t9 t36 t37 σ) (
  kernel_Kernel_TickJ6 call f r5 t0 t1 t6 t8 t9 t36 t37 σ)) (
  kernel_Kernel_TickJ4 call f t0 t1 t6 t8 t9 σ)) n
def kernel_Kernel_TickJ7 (call : CallF H) (f : Nat) (t0 t1 t6 t8 t9 : Value) (σ : St H) : R H :=
  bindV (vNil t0) fun t33 =>
  bindV (vFieldAddr 3 t33) fun t34 =>
  bindV (vLoad false 1 t34 σ) fun t35 =>
  bindV (vLen .slice t35 σ) fun t36 =>
  kernel_Kernel_TickL5 call f f t0 t1 t6 t8 t9 t36 (I 0) σ
def kernel_Kernel_TickJ8 (call : CallF H) (f : Nat) (t0 t1 t6 t8 : Value) (σ : St H) : R H :=
  bindR (vBox (.agg ⟨[(.slice none 0 0), (.slice none 0 0)]⟩) σ) fun t9 σ =>
  kernel_Kernel_TickJ7 call f t0 t1 t6 t8 t9 σ
def kernel_Kernel_TickJ9 (call : CallF H) (f : Nat) (t0 t1 t6 : Value) (σ : St H) : R H :=
  bindR (vMkMap σ) fun t31 σ =>
  kernel_Kernel_TickJ8 call f t0 t1 t6 t31 σ
def kernel_Kernel_TickJ10 (call : CallF H) (f : Nat) (t0 t1 t6 : Value) (σ : St H) : R H :=
  bindR (call n_kernel_Kernel_opens [t0] σ) fun t30 σ =>
  kernel_Kernel_TickJ9 call f t0 t1 t6 σ
def kernel_Kernel_TickJ11 (call : CallF H) (f : Nat) (t0 t1 t6 : Value) (σ : St H) : R H :=
  bindR (call n_kernel_Kernel_comes [t0] σ) fun t28 σ =>
  kernel_Kernel_TickJ10 call f t0 t1 t6 σ
def kernel_Kernel_TickJ12 (call : CallF H) (f : Nat) (t0 t1 t6 : Value) (σ : St H) : R H :=
  bindV (vEq .nilp false t0 nilP) fun t18 =>
  ifV t18 (
  bindV (vBuild [(.slice none 0 0), (.slice none 0 0)] []) fun t19 =>
  bindS (vStore 2 t6 t19 σ) fun σ =>
  resV [.c t6 true 2, .v (I 8)] σ) (
  bindV (vNil t0) fun t22 =>
  bindV (vFieldAddr 1 t22) fun t23 =>
  bindV (vLoad false 1 t23 σ) fun t24 =>
  bindV (abin .geq t24 (I 1099511627776)) fun t25 =>
  ifV t25 (
  bindV (vBuild [(.slice none 0 0), (.slice none 0 0)] []) fun t26 =>
  bindS (vStore 2 t6 t26 σ) fun σ =>
  resV [.c t6 true 2, .v (I 2)] σ) (
  kernel_Kernel_TickJ11 call f t0 t1 t6 σ))
def kernel_Kernel_TickJ13 (call : CallF H) (f : Nat) (t0 t1 : Value) (σ : St H) : R H :=
  bindR (vBox (.agg ⟨[(.slice none 0 0), (.slice none 0 0)]⟩) σ) fun t6 σ =>
  kernel_Kernel_TickJ12 call f t0 t1 t6 σ
def kernel_Kernel_Tick (call : CallF H) (f : Nat) (a0 a1 a2 : Value) (σ : St H) : R H := kernel_Kernel_TickJ13 call f a0 a1 σ
theorem kernel_Kernel_TickEq (call : CallF H) (f : Nat) (a0 a1 a2 : Value) (σ : St H) : kbody call f (codeOf P n_kernel_Kernel_Tick) [a0, a1, a2] σ = kernel_Kernel_Tick call f a0 a1 a2 σ :=
  kbody_of (rs := kernel_Kernel_TickR) (by kernel_rfl) (by kernel_rfl) (by kernel_rfl) (seq_eq (by kernel_rfl) (seq_eq (by kernel_rfl) (seq_eq (by kernel_rfl) (seq_eq (by kernel_rfl) (seq_eq (by kernel_rfl) (seq_eq (by kernel_rfl) (seq_eq (by kernel_rfl) (seq_eq (by kernel_rfl) (leaf (B := fun e σ => kernel_Kernel_TickJ1 call f (e 0) (e 1) (e 6) (e 8) (e 9) σ) (by kernel_rfl))
  (seq_eq (by kernel_rfl) (block_eq (by kernel_rfl) (loop_eq (fun n e σ => kernel_Kernel_TickL2 call f n (e 0) (e 1) (e 6) (e 8) (e 9) (e 63) (e 64) σ) (by kernel_rfl) (by kernel_rfl) (fun n2 => (leaf (by kernel_rfl)))))
  (leaf (B := fun e σ => kernel_Kernel_TickJ4 call f (e 0) (e 1) (e 6) (e 8) (e 9) σ) (by kernel_rfl))))
  (seq_eq (by kernel_rfl) (block_eq (by kernel_rfl) (loop_eq (fun n e σ => kernel_Kernel_TickL5 call f n (e 0) (e 1) (e 6) (e 8) (e 9) (e 36) (e 37) σ) (by kernel_rfl) (by kernel_rfl) (fun n5 => (leaf (by kernel_rfl)))))
  (leaf (B := fun e σ => kernel_Kernel_TickJ7 call f (e 0) (e 1) (e 6) (e 8) (e 9) σ) (by kernel_rfl))))
  (leaf (B := fun e σ => kernel_Kernel_TickJ8 call f (e 0) (e 1) (e 6) (e 8) σ) (by kernel_rfl)))
  (leaf (B := fun e σ => kernel_Kernel_TickJ9 call f (e 0) (e 1) (e 6) σ) (by kernel_rfl)))
  (leaf (B := fun e σ => kernel_Kernel_TickJ10 call f (e 0) (e 1) (e 6) σ) (by kernel_rfl)))
  (leaf (B := fun e σ => kernel_Kernel_TickJ11 call f (e 0) (e 1) (e 6) σ) (by kernel_rfl)))
  (leaf (B := fun e σ => kernel_Kernel_TickJ12 call f (e 0) (e 1) (e 6) σ) (by kernel_rfl)))
  (leaf (B := fun e σ => kernel_Kernel_TickJ13 call f (e 0) (e 1) σ) (by kernel_rfl))) (by kernel_rfl)

def kernel_Kernel_Job (call : CallF H) (f : Nat) (a0 a1 : Value) (σ : St H) : R H :=
  bindR (vBox (.agg ⟨(rep [(I 0)] 9)⟩) σ) fun t4 σ =>
  bindV (vEq .nilp false a0 nilP) fun t7 =>
  bindV (bif kyes t7 false then some a0 else some undefV) fun t9 =>
  bindV (bif kyes t7 false then vNil t9 else some undefV) fun t10 =>
  bindV (bif kyes t7 false then vFieldAddr 2 t10 else some undefV) fun t11 =>
  bindV (bif kyes t7 false then vLoad false 1 t11 σ else some undefV) fun t12 =>
  bindV (bif kyes t7 false then some a1 else some undefV) fun t13 =>
  bindV (bif kyes t7 false then vLookup true nilP false t12 t13 σ else some undefV) fun t14 =>
  bindV (bif kyes t7 false then vEq .nilp false t14 nilP else some undefV) fun t15 =>
  bindV (vPick t7 tt t15) fun t16 =>
  ifV t16 (
  bindV (vBuild (rep [(I 0)] 9) []) fun t17 =>
  bindS (vStore 9 t4 t17 σ) fun σ =>
  resV [.c t4 true 9, .v ff] σ) (
  bindV (vNil a0) fun t19 =>
  bindV (vFieldAddr 2 t19) fun t20 =>
  bindV (vLoad false 1 t20 σ) fun t21 =>
  bindV (vLookup true nilP false t21 a1 σ) fun t23 =>
  bindV (vNil t23) fun t24 =>
  bindV (vFieldAddr 0 t24) fun t25 =>
  bindV (vLoad true 9 t25 σ) fun t26 =>
  bindS (vStore 9 t4 t26 σ) fun σ =>
  resV [.c t4 true 9, .v tt] σ)
theorem kernel_Kernel_JobEq (call : CallF H) (f : Nat) (a0 a1 : Value) (σ : St H) : kbody call f (codeOf P n_kernel_Kernel_Job) [a0, a1] σ = kernel_Kernel_Job call f a0 a1 σ := by kernel_rfl

def kernel_Kernel_Serving (call : CallF H) (f : Nat) (a0 a1 : Value) (σ : St H) : R H :=
  bindV (vEq .nilp false a0 nilP) fun t7 =>
  bindV (bif kyes t7 false then some a1 else some undefV) fun t9 =>
  bindV (bif kyes t7 false then abin .lss t9 (I 0) else some undefV) fun t10 =>
  bindV (vPick t7 tt t10) fun t11 =>
  bindV (bif kyes t11 false then some a1 else some undefV) fun t13 =>
  bindV (bif kyes t11 false then some a0 else some undefV) fun t14 =>
  bindV (bif kyes t11 false then vNil t14 else some undefV) fun t15 =>
  bindV (bif kyes t11 false then vFieldAddr 4 t15 else some undefV) fun t16 =>
  bindV (bif kyes t11 false then vLoad false 1 t16 σ else some undefV) fun t17 =>
  bindV (bif kyes t11 false then vLen .slice t17 σ else some undefV) fun t18 =>
  bindV (bif kyes t11 false then abin .geq t13 t18 else some undefV) fun t19 =>
  bindV (vPick t11 tt t19) fun t20 =>
  ifV t20 (
  some (.tuple ⟨[(I 0), (I 0)]⟩, σ)) (
  bindV (vNil a0) fun t22 =>
  bindV (vFieldAddr 4 t22) fun t23 =>
  bindV (vLoad false 1 t23 σ) fun t24 =>
  bindV (vIndexAddr 1 t24 a1) fun t26 =>
  bindV (vLoad false 1 t26 σ) fun t27 =>
  bindV (vNil a0) fun t30 =>
  bindV (vFieldAddr 4 t30) fun t31 =>
  bindV (vLoad false 1 t31 σ) fun t32 =>
  bindV (vIndexAddr 1 t32 a1) fun t34 =>
  bindV (vLoad false 1 t34 σ) fun t35 =>
  bindR (call n_agent_Agent_Serves [t27] σ) fun t28 σ =>
  kif (kand (rck (vLoad false 1 t34 σ) t35) (kand (rck (vLoad false 1 t31 σ) t32) true)) (
  bindR (call n_agent_Agent_Waiting [t35] σ) fun t36 σ =>
  some (.tuple ⟨[t28, t36]⟩, σ)))
theorem kernel_Kernel_ServingEq (call : CallF H) (f : Nat) (a0 a1 : Value) (σ : St H) : kbody call f (codeOf P n_kernel_Kernel_Serving) [a0, a1] σ = kernel_Kernel_Serving call f a0 a1 σ := by kernel_rfl

def kernel_Kernel_Way (call : CallF H) (f : Nat) (a0 a1 : Value) (σ : St H) : R H :=
  bindR (vBox (.agg ⟨(rep [(I 0)] 5)⟩) σ) fun t4 σ =>
  bindV (vEq .nilp false a0 nilP) fun t7 =>
  ifV t7 (
  bindV (vBuild (rep [(I 0)] 5) []) fun t8 =>
  bindS (vStore 5 t4 t8 σ) fun σ =>
  resV [.c t4 true 5, .v ff] σ) (
  bindV (vNil a0) fun t10 =>
  bindV (vFieldAddr 5 t10) fun t11 =>
  bindV (vLoad false 1 t11 σ) fun t12 =>
  bindR (call n_mail_Mails_Of [t12, a1] σ) fun t14 σ =>
  bindV (vExtract 0 t14) fun t15 =>
  bindV (vExtract 1 t14) fun t16 =>
  bindS (vStore 5 t4 t15 σ) fun σ =>
  resV [.c t4 true 5, .v t16] σ)
theorem kernel_Kernel_WayEq (call : CallF H) (f : Nat) (a0 a1 : Value) (σ : St H) : kbody call f (codeOf P n_kernel_Kernel_Way) [a0, a1] σ = kernel_Kernel_Way call f a0 a1 σ := by kernel_rfl

abbrev play_RunR : List ARes := [.tmp 4, .tmp 5]
def play_RunJ1 (call : CallF H) (f : Nat) (t6 t7 : Value) (σ : St H) : R H :=
  bindR (call n_play_Play_Bad [t6] σ) fun t29 σ =>
  some (.tuple ⟨[t7, t29]⟩, σ)
def play_RunL2 (call : CallF H) (f : Nat) (n : Nat) : Value → Value → Value → Value → Value → St H → R H :=
  Nat.rec (fun _ _ _ _ _ _ => none) (fun _ r2 => fun t6 t7 t14 t15 t16 σ =>
  bindV (abin .lss t16 t15) fun t17 =>
  ifV t17 (
  bindV (vIndexAddr 10 t14 t16) fun t18 =>
  bindV (vLoad true 10 t18 σ) fun t19 =>
  bindR (vBox (.agg ⟨[(I 0), (I 0), (I 0), (I 0), (I 0), (.slice none 0 0), (I 0), (.slice none 0 0), (.slice none 0 0), (.slice none 0 0)]⟩) σ) fun t9 σ =>
  bindS (vStore 10 t9 t19 σ) fun σ =>
  bindV (vLoad true 10 t9 σ) fun t22 =>
  bindR (call n_play_Play_Step [t6, t22] σ) fun t23 σ =>
  bindR (vBuildSlice 1 [(I 0), (I 0), (.slice none 0 0), (.slice none 0 0), (I 0)] [(0, 5, t23)] σ) fun t24 σ =>
  bindR (vAppend 5 72 [(I 0), (I 0), (.slice none 0 0), (.slice none 0 0), (I 0)] false t7 t24 σ) fun t25 σ =>
  bindV (abin .add t16 (I 1)) fun t26 =>
  r2 t6 t25 t14 t15 t26 σ) (
  play_RunJ1 call f t6 t7 σ)) n
def play_RunJ3 (call : CallF H) (f : Nat) (t1 t6 t7 : Value) (σ : St H) : R H :=
  bindV (vLen .slice t1 σ) fun t15 =>
  play_RunL2 call f f t6 t7 t1 t15 (I 0) σ
def play_RunJ4 (call : CallF H) (f : Nat) (t1 t6 : Value) (σ : St H) : R H :=
  play_RunJ3 call f t1 t6 (.slice none 0 0) σ
def play_RunJ5 (call : CallF H) (f : Nat) (t1 t6 : Value) (σ : St H) : R H :=
  bindV (vEq .nilp false t6 nilP) fun t13 =>
  ifV t13 (
  some (.tuple ⟨[(.slice none 0 0), (I 9)]⟩, σ)) (
  play_RunJ4 call f t1 t6 σ)
def play_RunJ6 (call : CallF H) (f : Nat) (t1 t2 : Value) (σ : St H) : R H :=
  bindV (vLoad true 5 t2 σ) fun t10 =>
  bindR (call n_play_New [t10] σ) fun t11 σ =>
  play_RunJ5 call f t1 t11 σ
def play_RunJ7 (call : CallF H) (f : Nat) (t0 t1 : Value) (σ : St H) : R H :=
  bindR (vBox t0 σ) fun t2 σ =>
  play_RunJ6 call f t1 t2 σ
def play_Run (call : CallF H) (f : Nat) (a0 a1 : Value) (σ : St H) : R H := play_RunJ7 call f a0 a1 σ
theorem play_RunEq (call : CallF H) (f : Nat) (a0 a1 : Value) (σ : St H) : kbody call f (codeOf P n_play_Run) [a0, a1] σ = play_Run call f a0 a1 σ :=
  kbody_of (rs := play_RunR) (by kernel_rfl) (by kernel_rfl) (by kernel_rfl) (seq_eq (by kernel_rfl) (seq_eq (by kernel_rfl) (seq_eq (by kernel_rfl) (seq_eq (by kernel_rfl) (seq_eq (by kernel_rfl) (leaf (B := fun e σ => play_RunJ1 call f (e 6) (e 7) σ) (by kernel_rfl))
  (seq_eq (by kernel_rfl) (block_eq (by kernel_rfl) (loop_eq (fun n e σ => play_RunL2 call f n (e 6) (e 7) (e 14) (e 15) (e 16) σ) (by kernel_rfl) (by kernel_rfl) (fun n2 => (leaf (by kernel_rfl)))))
  (leaf (B := fun e σ => play_RunJ3 call f (e 1) (e 6) (e 7) σ) (by kernel_rfl))))
  (leaf (B := fun e σ => play_RunJ4 call f (e 1) (e 6) σ) (by kernel_rfl)))
  (leaf (B := fun e σ => play_RunJ5 call f (e 1) (e 6) σ) (by kernel_rfl)))
  (leaf (B := fun e σ => play_RunJ6 call f (e 1) (e 2) σ) (by kernel_rfl)))
  (leaf (B := fun e σ => play_RunJ7 call f (e 0) (e 1) σ) (by kernel_rfl))) (by kernel_rfl)

abbrev law23x_begunR : List ARes := [.tmp 0]
def law23x_begunJ1 (call : CallF H) (f : Nat) (t1 t2 t3 t4 t5 : Value) (σ : St H) : R H :=
  bindR (call n_kernel_Kernel_Job [t1, (I 1)] σ) fun t65 σ =>
  bindV (vExtract 0 t65) fun t66 =>
  bindV (vExtract 1 t65) fun t67 =>
  bindR (vBox (.agg ⟨(rep [(I 0)] 9)⟩) σ) fun t9 σ =>
  bindS (vStore 9 t9 t66 σ) fun σ =>
  bindR (call n_judge_New [] σ) fun t68 σ =>
  bindV (vBuild [(I 0), (I 0), (I 0), (I 0), (.slice none 0 0)] [(0, 1, (I 1))]) fun t69 =>
  bindR (call n_play_New [t69] σ) fun t70 σ =>
  bindV (vBuild [(I 0), (I 0), (I 0), (.slice none 0 0)] [(0, 1, (I 1)), (1, 1, (I 2)), (2, 1, (I 2))]) fun t72 =>
  bindV (vBuild [(I 0), (I 0), (I 0), (I 0), (I 0), (.slice none 0 0), (I 0), (.slice none 0 0), (.slice none 0 0), (.slice none 0 0)] [(0, 1, (I 1)), (2, 4, t72)]) fun t73 =>
  bindR (call n_play_Play_Step [t70, t73] σ) fun t74 σ =>
  bindR (vBox (.agg ⟨[(I 0), (I 0), (.slice none 0 0), (.slice none 0 0), (I 0)]⟩) σ) fun t13 σ =>
  bindS (vStore 5 t13 t74 σ) fun σ =>
  bindR (call n_law19x_Begun [] σ) fun t75 σ =>
  bindV (bif kyes t75 true then some t2 else some undefV) fun t77 =>
  bindV (bif kyes t75 true then abin .eql t77 (I 1) else some undefV) fun t78 =>
  bindV (vPick t75 t78 ff) fun t79 =>
  bindV (bif kyes t79 true then some t3 else some undefV) fun t81 =>
  bindV (bif kyes t79 true then abin .eql t81 (I 0) else some undefV) fun t82 =>
  bindV (vPick t79 t82 ff) fun t83 =>
  bindV (bif kyes t83 true then some t4 else some undefV) fun t85 =>
  bindV (bif kyes t83 true then abin .eql t85 (I 0) else some undefV) fun t86 =>
  bindV (vPick t83 t86 ff) fun t87 =>
  bindV (bif kyes t87 true then some t5 else some undefV) fun t89 =>
  bindV (bif kyes t87 true then vIndexAddr 2 t89 (I 0) else some undefV) fun t90 =>
  bindV (bif kyes t87 true then vFieldAddr 0 t90 else some undefV) fun t91 =>
  bindV (bif kyes t87 true then vLoad false 1 t91 σ else some undefV) fun t92 =>
  bindV (bif kyes t87 true then vIndexAddr 1 t92 (I 0) else some undefV) fun t93 =>
  bindV (bif kyes t87 true then vLoad false 1 t93 σ else some undefV) fun t94 =>
  bindV (bif kyes t87 true then abin .eql t94 (I 1) else some undefV) fun t95 =>
  bindV (vPick t87 t95 ff) fun t96 =>
  bindV (bif kyes t96 true then some t5 else some undefV) fun t98 =>
  bindV (bif kyes t96 true then vIndexAddr 2 t98 (I 1) else some undefV) fun t99 =>
  bindV (bif kyes t96 true then vFieldAddr 1 t99 else some undefV) fun t100 =>
  bindV (bif kyes t96 true then vLoad false 1 t100 σ else some undefV) fun t101 =>
  bindV (bif kyes t96 true then vIndexAddr 1 t101 (I 0) else some undefV) fun t102 =>
  bindV (bif kyes t96 true then vLoad false 1 t102 σ else some undefV) fun t103 =>
  bindV (bif kyes t96 true then abin .eql t103 (I 0) else some undefV) fun t104 =>
  bindV (vPick t96 t104 ff) fun t105 =>
  bindV (bif kyes t105 true then some t5 else some undefV) fun t107 =>
  bindV (bif kyes t105 true then vIndexAddr 2 t107 (I 2) else some undefV) fun t108 =>
  bindV (bif kyes t105 true then vFieldAddr 1 t108 else some undefV) fun t109 =>
  bindV (bif kyes t105 true then vLoad false 1 t109 σ else some undefV) fun t110 =>
  bindV (bif kyes t105 true then vIndexAddr 1 t110 (I 0) else some undefV) fun t111 =>
  bindV (bif kyes t105 true then vLoad false 1 t111 σ else some undefV) fun t112 =>
  bindV (bif kyes t105 true then abin .eql t112 (I 1) else some undefV) fun t113 =>
  bindV (vPick t105 t113 ff) fun t114 =>
  bindV (bif kyes t114 true then some t5 else some undefV) fun t116 =>
  bindV (bif kyes t114 true then vIndexAddr 2 t116 (I 3) else some undefV) fun t117 =>
  bindV (bif kyes t114 true then vFieldAddr 1 t117 else some undefV) fun t118 =>
  bindV (bif kyes t114 true then vLoad false 1 t118 σ else some undefV) fun t119 =>
  bindV (bif kyes t114 true then vIndexAddr 1 t119 (I 0) else some undefV) fun t120 =>
  bindV (bif kyes t114 true then vLoad false 1 t120 σ else some undefV) fun t121 =>
  bindV (bif kyes t114 true then abin .eql t121 (I 1) else some undefV) fun t122 =>
  bindV (vPick t114 t122 ff) fun t123 =>
  bindV (bif kyes t123 true then some t5 else some undefV) fun t125 =>
  bindV (bif kyes t123 true then vIndexAddr 2 t125 (I 4) else some undefV) fun t126 =>
  bindV (bif kyes t123 true then vFieldAddr 0 t126 else some undefV) fun t127 =>
  bindV (bif kyes t123 true then vLoad false 1 t127 σ else some undefV) fun t128 =>
  bindV (bif kyes t123 true then vIndexAddr 1 t128 (I 0) else some undefV) fun t129 =>
  bindV (bif kyes t123 true then vLoad false 1 t129 σ else some undefV) fun t130 =>
  bindV (bif kyes t123 true then abin .eql t130 (I 0) else some undefV) fun t131 =>
  bindV (vPick t123 t131 ff) fun t132 =>
  bindV (bif kyes t132 true then some t5 else some undefV) fun t134 =>
  bindV (bif kyes t132 true then vIndexAddr 2 t134 (I 5) else some undefV) fun t135 =>
  bindV (bif kyes t132 true then vFieldAddr 0 t135 else some undefV) fun t136 =>
  bindV (bif kyes t132 true then vLoad false 1 t136 σ else some undefV) fun t137 =>
  bindV (bif kyes t132 true then vIndexAddr 1 t137 (I 0) else some undefV) fun t138 =>
  bindV (bif kyes t132 true then vLoad false 1 t138 σ else some undefV) fun t139 =>
  bindV (bif kyes t132 true then abin .eql t139 (I 1) else some undefV) fun t140 =>
  bindV (vPick t132 t140 ff) fun t141 =>
  bindV (bif kyes t141 true then some t67 else some undefV) fun t143 =>
  bindV (vPick t141 t143 ff) fun t144 =>
  bindV (bif kyes t144 true then vFieldAddr 0 t9 else some undefV) fun t146 =>
  bindV (bif kyes t144 true then vLoad false 1 t146 σ else some undefV) fun t147 =>
  bindV (bif kyes t144 true then abin .eql t147 (I 4) else some undefV) fun t148 =>
  bindV (vPick t144 t148 ff) fun t149 =>
  bindV (bif kyes t149 true then vFieldAddr 8 t9 else some undefV) fun t151 =>
  bindV (bif kyes t149 true then vLoad false 1 t151 σ else some undefV) fun t152 =>
  bindV (bif kyes t149 true then abin .eql t152 (I 6) else some undefV) fun t153 =>
  bindV (vPick t149 t153 ff) fun t154 =>
  bindV (bif kyes t154 true then some t1 else some undefV) fun t156 =>
  bindR (bif kyes t154 true then call n_kernel_Kernel_Now [t156] σ else some (undefV, σ)) fun t157 σ =>
  bindV (bif kyes t154 true then abin .eql t157 (I 6) else some undefV) fun t158 =>
  bindV (vPick t154 t158 ff) fun t159 =>
  bindV (bif kyes t159 true then some t1 else some undefV) fun t161 =>
  bindR (bif kyes t159 true then call n_kernel_Kernel_Idle [t161] σ else some (undefV, σ)) fun t162 σ =>
  bindV (vPick t159 t162 ff) fun t163 =>
  bindV (bif kyes t163 true then some t68 else some undefV) fun t165 =>
  bindV (bif kyes t163 true then some t1 else some undefV) fun t166 =>
  bindV (bif kyes t163 true then some t5 else some undefV) fun t167 =>
  bindV (bif kyes t163 true then vIndexAddr 2 t167 (I 5) else some undefV) fun t168 =>
  bindV (bif kyes t163 true then vLoad true 2 t168 σ else some undefV) fun t169 =>
  bindR (bif kyes t163 true then call n_judge_Judge_Look [t165, t166, t169] σ else some (undefV, σ)) fun t170 σ =>
  bindV (bif kyes t163 true then abin .eql t170 (I 0) else some undefV) fun t171 =>
  bindV (vPick t163 t171 ff) fun t172 =>
  bindV (bif kyes t172 true then some t1 else some undefV) fun t174 =>
  bindR (bif kyes t172 true then call n_judge_Late [t174] σ else some (undefV, σ)) fun t175 σ =>
  bindV (bif kyes t172 true then vLen .slice t175 σ else some undefV) fun t176 =>
  bindV (bif kyes t172 true then abin .eql t176 (I 0) else some undefV) fun t177 =>
  bindV (vPick t172 t177 ff) fun t178 =>
  bindV (bif kyes t178 true then some t1 else some undefV) fun t180 =>
  bindR (bif kyes t178 true then call n_judge_Slack [t180, (I 1)] σ else some (undefV, σ)) fun t181 σ =>
  bindV (bif kyes t178 true then abin .eql t181 (I 14) else some undefV) fun t182 =>
  bindV (vPick t178 t182 ff) fun t183 =>
  bindV (bif kyes t183 true then vFieldAddr 1 t13 else some undefV) fun t185 =>
  bindV (bif kyes t183 true then vLoad false 1 t185 σ else some undefV) fun t186 =>
  bindV (bif kyes t183 true then abin .eql t186 (I 1) else some undefV) fun t187 =>
  bindV (vPick t183 t187 ff) fun t188 =>
  bindV (bif kyes t188 true then some t70 else some undefV) fun t190 =>
  bindR (bif kyes t188 true then call n_play_Play_Bad [t190] σ else some (undefV, σ)) fun t191 σ =>
  bindV (bif kyes t188 true then abin .eql t191 (I 0) else some undefV) fun t192 =>
  bindV (vPick t188 t192 ff) fun t193 =>
  some (t193, σ)
def law23x_begunL2 (call : CallF H) (f : Nat) (n : Nat) : Value → Value → Value → Value → Value → Value → St H → R H :=
  Nat.rec (fun _ _ _ _ _ _ _ => none) (fun _ r2 => fun t1 t2 t3 t4 t5 t6 σ =>
  bindV (abin .lss t6 (I 6)) fun t36 =>
  ifV t36 (
  bindR (vBuildSlice 1 [(I 0)] [(0, 1, (I 1))] σ) fun t41 σ =>
  bindR (call n_kernel_Kernel_Tick [t1, t41, (.slice none 0 0)] σ) fun t42 σ =>
  bindV (vExtract 0 t42) fun t43 =>
  bindV (vExtract 1 t42) fun t44 =>
  bindR (vBox (.agg ⟨[(.slice none 0 0), (.slice none 0 0)]⟩) σ) fun t7 σ =>
  bindS (vStore 2 t7 t43 σ) fun σ =>
  bindV (abin .neq t44 (I 0)) fun t46 =>
  bindV (bif kyes t46 false then vFieldAddr 0 t7 else some undefV) fun t48 =>
  bindV (bif kyes t46 false then vLoad false 1 t48 σ else some undefV) fun t49 =>
  bindV (bif kyes t46 false then vLen .slice t49 σ else some undefV) fun t50 =>
  bindV (bif kyes t46 false then abin .neq t50 (I 1) else some undefV) fun t51 =>
  bindV (vPick t46 tt t51) fun t52 =>
  bindV (bif kyes t52 false then vFieldAddr 1 t7 else some undefV) fun t54 =>
  bindV (bif kyes t52 false then vLoad false 1 t54 σ else some undefV) fun t55 =>
  bindV (bif kyes t52 false then vLen .slice t55 σ else some undefV) fun t56 =>
  bindV (bif kyes t52 false then abin .neq t56 (I 1) else some undefV) fun t57 =>
  bindV (vPick t52 tt t57) fun t58 =>
  ifV t58 (
  some (ff, σ)) (
  bindV (vLoad true 2 t7 σ) fun t60 =>
  bindR (vBuildSlice 1 [(.slice none 0 0), (.slice none 0 0)] [(0, 2, t60)] σ) fun t61 σ =>
  bindR (vAppend 2 48 [(.slice none 0 0), (.slice none 0 0)] false t5 t61 σ) fun t62 σ =>
  bindV (abin .add t6 (I 1)) fun t38 =>
  r2 t1 t2 t3 t4 t62 t38 σ)) (
  law23x_begunJ1 call f t1 t2 t3 t4 t5 σ)) n
def law23x_begunJ3 (call : CallF H) (f : Nat) (t1 t2 t3 t4 t5 : Value) (σ : St H) : R H :=
  law23x_begunL2 call f f t1 t2 t3 t4 t5 (I 0) σ
def law23x_begunJ4 (call : CallF H) (f : Nat) (t1 t2 t3 t4 : Value) (σ : St H) : R H :=
  law23x_begunJ3 call f t1 t2 t3 t4 (.slice none 0 0) σ
def law23x_begunJ5 (call : CallF H) (f : Nat) (t1 t2 t3 : Value) (σ : St H) : R H :=
  bindR (vBuildSlice 1 [(I 0)] [(0, 1, (I 2))] σ) fun t33 σ =>
  bindR (call n_kernel_Kernel_Release [t1, (I 1), (I 2), t33] σ) fun t34 σ =>
  law23x_begunJ4 call f t1 t2 t3 t34 σ
def law23x_begunJ6 (call : CallF H) (f : Nat) (t1 : Value) (σ : St H) : R H :=
  bindV (vBuild [(I 0), (I 0), (I 0)] [(1, 1, (I 1)), (2, 1, (I 2))]) fun t26 =>
  bindR (vBuildSlice 1 [(I 0), (I 0), (I 0)] [(0, 3, t26)] σ) fun t27 σ =>
  bindV (vBuild [(I 0), (I 0), (I 0), (.slice none 0 0)] [(0, 1, (I 3)), (1, 1, (I 20)), (2, 1, (I 25)), (3, 1, t27)]) fun t28 =>
  bindR (call n_kernel_Kernel_Add [t1, t28] σ) fun t29 σ =>
  bindV (vExtract 0 t29) fun t30 =>
  bindV (vExtract 1 t29) fun t31 =>
  law23x_begunJ5 call f t1 t30 t31 σ
def law23x_begunJ7 (call : CallF H) (f : Nat) (t1 : Value) (σ : St H) : R H :=
  bindV (vEq .nilp false t1 nilP) fun t18 =>
  bindV (bif kyes t18 false then vBuild [(I 0), (I 0), (I 0), (I 0), (.slice none 0 0)] [] else some undefV) fun t20 =>
  bindR (bif kyes t18 false then call n_kernel_New [t20] σ else some (undefV, σ)) fun t21 σ =>
  bindV (bif kyes t18 false then vEq .nilp true t21 nilP else some undefV) fun t22 =>
  bindV (vPick t18 tt t22) fun t23 =>
  ifV t23 (
  some (ff, σ)) (
  law23x_begunJ6 call f t1 σ)
def law23x_begunJ8 (call : CallF H) (f : Nat) (σ : St H) : R H :=
  bindR (vBuildSlice 1 [(I 0)] [(0, 1, (I 0))] σ) fun t14 σ =>
  bindV (vBuild [(I 0), (I 0), (I 0), (I 0), (.slice none 0 0)] [(0, 1, (I 1)), (1, 1, (I 1)), (2, 1, (I 1)), (4, 1, t14)]) fun t15 =>
  bindR (call n_kernel_New [t15] σ) fun t16 σ =>
  law23x_begunJ7 call f t16 σ
def law23x_begunJ9 (call : CallF H) (f : Nat) (σ : St H) : R H :=
  law23x_begunJ8 call f σ
def law23x_begun (call : CallF H) (f : Nat) (σ : St H) : R H := law23x_begunJ9 call f σ
theorem law23x_begunEq (call : CallF H) (f : Nat) (σ : St H) : kbody call f (codeOf P n_law23x_begun) [] σ = law23x_begun call f σ :=
  kbody_of (rs := law23x_begunR) (by kernel_rfl) (by kernel_rfl) (by kernel_rfl) (seq_eq (by kernel_rfl) (seq_eq (by kernel_rfl) (seq_eq (by kernel_rfl) (seq_eq (by kernel_rfl) (seq_eq (by kernel_rfl) (seq_eq (by kernel_rfl) (seq_eq (by kernel_rfl) (leaf (B := fun e σ => law23x_begunJ1 call f (e 1) (e 2) (e 3) (e 4) (e 5) σ) (by kernel_rfl))
  (seq_eq (by kernel_rfl) (block_eq (by kernel_rfl) (loop_eq (fun n e σ => law23x_begunL2 call f n (e 1) (e 2) (e 3) (e 4) (e 5) (e 6) σ) (by kernel_rfl) (by kernel_rfl) (fun n2 => (leaf (by kernel_rfl)))))
  (leaf (B := fun e σ => law23x_begunJ3 call f (e 1) (e 2) (e 3) (e 4) (e 5) σ) (by kernel_rfl))))
  (leaf (B := fun e σ => law23x_begunJ4 call f (e 1) (e 2) (e 3) (e 4) σ) (by kernel_rfl)))
  (leaf (B := fun e σ => law23x_begunJ5 call f (e 1) (e 2) (e 3) σ) (by kernel_rfl)))
  (leaf (B := fun e σ => law23x_begunJ6 call f (e 1) σ) (by kernel_rfl)))
  (leaf (B := fun e σ => law23x_begunJ7 call f (e 1) σ) (by kernel_rfl)))
  (leaf (B := fun e σ => law23x_begunJ8 call f σ) (by kernel_rfl)))
  (leaf (B := fun e σ => law23x_begunJ9 call f σ) (by kernel_rfl))) (by kernel_rfl)

def kernel_Kernel_Admit (call : CallF H) (f : Nat) (a0 : Value) (σ : St H) : R H :=
  bindV (vEq .nilp false a0 nilP) fun t4 =>
  ifV t4 (
  some (nilP, σ)) (
  bindV (vNil a0) fun t6 =>
  bindV (vFieldAddr 0 t6) fun t7 =>
  bindV (vLoad false 1 t7 σ) fun t8 =>
  some (t8, σ))
theorem kernel_Kernel_AdmitEq (call : CallF H) (f : Nat) (a0 : Value) (σ : St H) : kbody call f (codeOf P n_kernel_Kernel_Admit) [a0] σ = kernel_Kernel_Admit call f a0 σ := by kernel_rfl

def kernel_Kernel_Now (call : CallF H) (f : Nat) (a0 : Value) (σ : St H) : R H :=
  bindV (vEq .nilp false a0 nilP) fun t4 =>
  ifV t4 (
  some ((I 0), σ)) (
  bindV (vNil a0) fun t6 =>
  bindV (vFieldAddr 1 t6) fun t7 =>
  bindV (vLoad false 1 t7 σ) fun t8 =>
  some (t8, σ))
theorem kernel_Kernel_NowEq (call : CallF H) (f : Nat) (a0 : Value) (σ : St H) : kbody call f (codeOf P n_kernel_Kernel_Now) [a0] σ = kernel_Kernel_Now call f a0 σ := by kernel_rfl

def kernel_Kernel_Drop (call : CallF H) (f : Nat) (a0 a1 : Value) (σ : St H) : R H :=
  bindV (vEq .nilp false a0 nilP) fun t7 =>
  ifV t7 (
  some ((I 8), σ)) (
  bindV (vNil a0) fun t10 =>
  bindV (vFieldAddr 2 t10) fun t11 =>
  bindV (vLoad false 1 t11 σ) fun t12 =>
  bindV (vLookup true nilP false t12 a1 σ) fun t14 =>
  bindV (vEq .nilp false t14 nilP) fun t15 =>
  ifV t15 (
  some ((I 4), σ)) (
  bindR (call n_kernel_Kernel_Idle [a0] σ) fun t18 σ =>
  bindV (aun .not t18) fun t19 =>
  ifV t19 (
  some ((I 5), σ)) (
  bindV (vNil a0) fun t21 =>
  bindV (vFieldAddr 2 t21) fun t22 =>
  bindV (vLoad false 1 t22 σ) fun t23 =>
  bindS (vDelete true t23 a1 σ) fun σ =>
  bindV (vNil a0) fun t26 =>
  bindV (vFieldAddr 0 t26) fun t27 =>
  bindV (vLoad false 1 t27 σ) fun t28 =>
  bindR (call n_admit_Admit_Drop [t28, a1] σ) fun t30 σ =>
  some (t30, σ))))
theorem kernel_Kernel_DropEq (call : CallF H) (f : Nat) (a0 a1 : Value) (σ : St H) : kbody call f (codeOf P n_kernel_Kernel_Drop) [a0, a1] σ = kernel_Kernel_Drop call f a0 a1 σ := by kernel_rfl

def kernel_Kernel_Release (call : CallF H) (f : Nat) (a0 a1 a2 a3 : Value) (σ : St H) : R H :=
  bindV (vEq .nilp false a0 nilP) fun t15 =>
  ifV t15 (
  some ((I 8), σ)) (
  bindV (vNil a0) fun t17 =>
  bindV (vFieldAddr 2 t17) fun t18 =>
  bindV (vLoad false 1 t18 σ) fun t19 =>
  bindV (vLookup true nilP false t19 a1 σ) fun t21 =>
  bindV (vEq .nilp false t21 nilP) fun t23 =>
  ifV t23 (
  some ((I 4), σ)) (
  bindV (vNil a0) fun t26 =>
  bindV (vFieldAddr 0 t26) fun t27 =>
  bindV (vLoad false 1 t27 σ) fun t28 =>
  bindR (call n_admit_Admit_Task [t28, a1] σ) fun t30 σ =>
  bindV (vExtract 0 t30) fun t31 =>
  bindV (vExtract 1 t30) fun t32 =>
  bindR (vBox (.agg ⟨[(I 0), (I 0), (I 0), (.slice none 0 0)]⟩) σ) fun t10 σ =>
  bindS (vStore 4 t10 t31 σ) fun σ =>
  bindV (vNil a0) fun t35 =>
  bindV (vFieldAddr 0 t35) fun t36 =>
  bindV (vLoad false 1 t36 σ) fun t37 =>
  bindR (call n_admit_Admit_Plan [t37, a1] σ) fun t39 σ =>
  bindV (vExtract 0 t39) fun t40 =>
  bindV (vExtract 1 t39) fun t41 =>
  bindR (vBox (.agg ⟨[(I 0), (.slice none 0 0)]⟩) σ) fun t12 σ =>
  bindS (vStore 2 t12 t40 σ) fun σ =>
  bindV (abin .lss a2 (I 1)) fun t44 =>
  bindV (bif kyes t44 false then some a2 else some undefV) fun t46 =>
  bindV (bif kyes t44 false then abin .gtr t46 (I 1000) else some undefV) fun t47 =>
  bindV (vPick t44 tt t47) fun t48 =>
  ifV t48 (
  some ((I 1), σ)) (
  bindV (vNil t21) fun t51 =>
  bindV (vFieldAddr 0 t51) fun t52 =>
  bindV (vLoad true 9 t52 σ) fun t53 =>
  bindR (call n_job_Active [t53] σ) fun t54 σ =>
  ifV t54 (
  some ((I 5), σ)) (
  bindV (vNil t21) fun t57 =>
  bindV (vFieldAddr 0 t57) fun t58 =>
  bindV (vFieldAddr 0 t58) fun t59 =>
  bindV (vLoad false 1 t59 σ) fun t60 =>
  bindV (abin .neq t60 (I 0)) fun t61 =>
  bindV (bif kyes t61 true then some a0 else some undefV) fun t63 =>
  bindV (bif kyes t61 true then vNil t63 else some undefV) fun t64 =>
  bindV (bif kyes t61 true then vFieldAddr 1 t64 else some undefV) fun t65 =>
  bindV (bif kyes t61 true then vLoad false 1 t65 σ else some undefV) fun t66 =>
  bindV (bif kyes t61 true then some t21 else some undefV) fun t67 =>
  bindV (bif kyes t61 true then vNil t67 else some undefV) fun t68 =>
  bindV (bif kyes t61 true then vFieldAddr 0 t68 else some undefV) fun t69 =>
  bindV (bif kyes t61 true then vFieldAddr 1 t69 else some undefV) fun t70 =>
  bindV (bif kyes t61 true then vLoad false 1 t70 σ else some undefV) fun t71 =>
  bindV (bif kyes t61 true then vFieldAddr 2 t10 else some undefV) fun t72 =>
  bindV (bif kyes t61 true then vLoad false 1 t72 σ else some undefV) fun t73 =>
  bindV (bif kyes t61 true then abin .add t71 t73 else some undefV) fun t74 =>
  bindV (bif kyes t61 true then abin .lss t66 t74 else some undefV) fun t75 =>
  bindV (vPick t61 t75 ff) fun t76 =>
  ifV t76 (
  some ((I 6), σ)) (
  bindV (vLoad true 2 t12 σ) fun t79 =>
  bindV (vNil a0) fun t81 =>
  bindV (vFieldAddr 1 t81) fun t82 =>
  bindV (vLoad false 1 t82 σ) fun t83 =>
  bindR (call n_job_New [t79, t83, a2] σ) fun t85 σ =>
  bindR (call n_slices_Clone__int64x_int64 [a3] σ) fun t87 σ =>
  bindV (vNil t21) fun t88 =>
  bindV (vFieldAddr 0 t88) fun t89 =>
  bindS (vStore 9 t89 t85 σ) fun σ =>
  bindV (vNil t21) fun t90 =>
  bindV (vFieldAddr 9 t90) fun t91 =>
  bindS (vStore 1 t91 t87 σ) fun σ =>
  bindR (call n_kernel_Kernel_ready [a0, a1] σ) fun t94 σ =>
  some ((I 0), σ))))))
theorem kernel_Kernel_ReleaseEq (call : CallF H) (f : Nat) (a0 a1 a2 a3 : Value) (σ : St H) : kbody call f (codeOf P n_kernel_Kernel_Release) [a0, a1, a2, a3] σ = kernel_Kernel_Release call f a0 a1 a2 a3 σ := by kernel_rfl

abbrev judge_Judge_LookR : List ARes := [.tmp 6]
def judge_Judge_LookJ1 (call : CallF H) (f : Nat) (t1 t5 t7 t8 : Value) (σ : St H) : R H :=
  bindV (vLoad true 2 t5 σ) fun t59 =>
  bindR (call n_judge_doubled [t59] σ) fun t60 σ =>
  ifV t60 (
  some ((I 1), σ)) (
  bindR (call n_judge_Late [t1] σ) fun t63 σ =>
  bindV (vLen .slice t63 σ) fun t64 =>
  bindV (abin .gtr t64 (I 0)) fun t65 =>
  ifV t65 (
  some ((I 2), σ)) (
  ifV t8 (
  some ((I 3), σ)) (
  bindV (aun .not t7) fun t70 =>
  ifV t70 (
  some ((I 4), σ)) (
  some ((I 0), σ)))))
def judge_Judge_LookL2 (call : CallF H) (f : Nat) (n : Nat) : Value → Value → Value → Value → Value → Value → Value → St H → R H :=
  Nat.rec (fun _ _ _ _ _ _ _ _ => none) (fun _ r2 => fun t1 t5 t7 t8 t43 t44 t45 σ =>
  bindV (abin .lss t45 t44) fun t46 =>
  ifV t46 (
  bindV (vIndexAddr 1 t43 t45) fun t48 =>
  bindV (vLoad false 1 t48 σ) fun t49 =>
  bindV (bif kyes t8 false then some t1 else some undefV) fun t52 =>
  bindV (bif kyes t8 false then some t45 else some undefV) fun t53 =>
  bindV (bif kyes t8 false then some t49 else some undefV) fun t54 =>
  bindR (bif kyes t8 false then call n_judge_astray [t52, t53, t54] σ else some (undefV, σ)) fun t55 σ =>
  bindV (vPick t8 tt t55) fun t56 =>
  bindV (abin .add t45 (I 1)) fun t57 =>
  r2 t1 t5 t7 t56 t43 t44 t57 σ) (
  judge_Judge_LookJ1 call f t1 t5 t7 t8 σ)) n
def judge_Judge_LookJ3 (call : CallF H) (f : Nat) (t1 t5 t7 t8 : Value) (σ : St H) : R H :=
  bindV (vFieldAddr 0 t5) fun t42 =>
  bindV (vLoad false 1 t42 σ) fun t43 =>
  bindV (vLen .slice t43 σ) fun t44 =>
  judge_Judge_LookL2 call f f t1 t5 t7 t8 t43 t44 (I 0) σ
def judge_Judge_LookJ4 (call : CallF H) (f : Nat) (t1 t5 t7 : Value) (σ : St H) : R H :=
  bindR (call n_judge_overdone [t1] σ) fun t41 σ =>
  judge_Judge_LookJ3 call f t1 t5 t7 t41 σ
def judge_Judge_LookJ5 (call : CallF H) (f : Nat) (t0 t1 t5 t7 : Value) (σ : St H) : R H :=
  bindR (call n_kernel_Kernel_Now [t1] σ) fun t35 σ =>
  bindV (vNil t0) fun t36 =>
  bindV (vFieldAddr 0 t36) fun t37 =>
  bindS (vStore 1 t37 t35 σ) fun σ =>
  bindV (vNil t0) fun t38 =>
  bindV (vFieldAddr 1 t38) fun t39 =>
  bindS (vStore 1 t39 tt σ) fun σ =>
  judge_Judge_LookJ4 call f t1 t5 t7 σ
def judge_Judge_LookJ6 (call : CallF H) (f : Nat) (t0 t1 t5 t7 : Value) (σ : St H) : R H :=
  bindV (vNil t0) fun t21 =>
  bindV (vFieldAddr 1 t21) fun t22 =>
  bindV (vLoad false 1 t22 σ) fun t23 =>
  ifV t23 (
  bindV (vNil t0) fun t27 =>
  bindV (vFieldAddr 0 t27) fun t28 =>
  bindV (vLoad false 1 t28 σ) fun t29 =>
  bindV (abin .add t29 (I 1)) fun t30 =>
  bindR (call n_kernel_Kernel_Now [t1] σ) fun t25 σ =>
  kif (kand (rck (vLoad false 1 t28 σ) t29) true) (
  bindV (abin .eql t25 t30) fun t31 =>
  judge_Judge_LookJ5 call f t0 t1 t5 t31 σ)) (
  judge_Judge_LookJ5 call f t0 t1 t5 t7 σ)
def judge_Judge_LookJ7 (call : CallF H) (f : Nat) (t0 t1 t5 : Value) (σ : St H) : R H :=
  bindR (call n_kernel_Kernel_Now [t1] σ) fun t18 σ =>
  bindV (abin .gtr t18 (I 0)) fun t19 =>
  judge_Judge_LookJ6 call f t0 t1 t5 t19 σ
def judge_Judge_LookJ8 (call : CallF H) (f : Nat) (t0 t1 t5 : Value) (σ : St H) : R H :=
  bindV (vEq .nilp false t0 nilP) fun t12 =>
  bindV (bif kyes t12 false then some t1 else some undefV) fun t14 =>
  bindV (bif kyes t12 false then vEq .nilp false t14 nilP else some undefV) fun t15 =>
  bindV (vPick t12 tt t15) fun t16 =>
  ifV t16 (
  some ((I 9), σ)) (
  judge_Judge_LookJ7 call f t0 t1 t5 σ)
def judge_Judge_LookJ9 (call : CallF H) (f : Nat) (t0 t1 t2 : Value) (σ : St H) : R H :=
  bindR (vBox t2 σ) fun t5 σ =>
  judge_Judge_LookJ8 call f t0 t1 t5 σ
def judge_Judge_Look (call : CallF H) (f : Nat) (a0 a1 a2 : Value) (σ : St H) : R H := judge_Judge_LookJ9 call f a0 a1 a2 σ
theorem judge_Judge_LookEq (call : CallF H) (f : Nat) (a0 a1 a2 : Value) (σ : St H) : kbody call f (codeOf P n_judge_Judge_Look) [a0, a1, a2] σ = judge_Judge_Look call f a0 a1 a2 σ :=
  kbody_of (rs := judge_Judge_LookR) (by kernel_rfl) (by kernel_rfl) (by kernel_rfl) (seq_eq (by kernel_rfl) (seq_eq (by kernel_rfl) (seq_eq (by kernel_rfl) (seq_eq (by kernel_rfl) (seq_eq (by kernel_rfl) (seq_eq (by kernel_rfl) (seq_eq (by kernel_rfl) (leaf (B := fun e σ => judge_Judge_LookJ1 call f (e 1) (e 5) (e 7) (e 8) σ) (by kernel_rfl))
  (seq_eq (by kernel_rfl) (block_eq (by kernel_rfl) (loop_eq (fun n e σ => judge_Judge_LookL2 call f n (e 1) (e 5) (e 7) (e 8) (e 43) (e 44) (e 45) σ) (by kernel_rfl) (by kernel_rfl) (fun n2 => (leaf (by kernel_rfl)))))
  (leaf (B := fun e σ => judge_Judge_LookJ3 call f (e 1) (e 5) (e 7) (e 8) σ) (by kernel_rfl))))
  (leaf (B := fun e σ => judge_Judge_LookJ4 call f (e 1) (e 5) (e 7) σ) (by kernel_rfl)))
  (leaf (B := fun e σ => judge_Judge_LookJ5 call f (e 0) (e 1) (e 5) (e 7) σ) (by kernel_rfl)))
  (leaf (B := fun e σ => judge_Judge_LookJ6 call f (e 0) (e 1) (e 5) (e 7) σ) (by kernel_rfl)))
  (leaf (B := fun e σ => judge_Judge_LookJ7 call f (e 0) (e 1) (e 5) σ) (by kernel_rfl)))
  (leaf (B := fun e σ => judge_Judge_LookJ8 call f (e 0) (e 1) (e 5) σ) (by kernel_rfl)))
  (leaf (B := fun e σ => judge_Judge_LookJ9 call f (e 0) (e 1) (e 2) σ) (by kernel_rfl))) (by kernel_rfl)

abbrev judge_LateR : List ARes := [.tmp 2]
def judge_LateJ1 (call : CallF H) (f : Nat) (t3 : Value) (σ : St H) : R H :=
  some (t3, σ)
def judge_LateJ3 (call : CallF H) (f : Nat) (r2 : Value → Value → Value → Value → Value → St H → R H) (t0 t3 t13 t14 t15 : Value) (σ : St H) : R H :=
  bindV (abin .add t15 (I 1)) fun t59 =>
  r2 t0 t3 t13 t14 t59 σ
def judge_LateL2 (call : CallF H) (f : Nat) (n : Nat) : Value → Value → Value → Value → Value → St H → R H :=
  Nat.rec (fun _ _ _ _ _ _ => none) (fun _ r2 => fun t0 t3 t13 t14 t15 σ =>
  bindV (abin .lss t15 t14) fun t16 =>
  ifV t16 (
  bindV (vIndexAddr 1 t13 t15) fun t17 =>
  bindV (vLoad false 1 t17 σ) fun t18 =>
  bindR (call n_kernel_Kernel_Admit [t0] σ) fun t21 σ =>
  bindR (call n_admit_Admit_Task [t21, t18] σ) fun t23 σ =>
  bindV (vExtract 0 t23) fun t24 =>
  bindV (vExtract 1 t23) fun t25 =>
  bindR (vBox (.agg ⟨[(I 0), (I 0), (I 0), (.slice none 0 0)]⟩) σ) fun t6 σ =>
  bindS (vStore 4 t6 t24 σ) fun σ =>
  bindR (call n_kernel_Kernel_Job [t0, t18] σ) fun t29 σ =>
  bindV (vExtract 0 t29) fun t30 =>
  bindV (vExtract 1 t29) fun t31 =>
  bindR (vBox (.agg ⟨(rep [(I 0)] 9)⟩) σ) fun t8 σ =>
  bindS (vStore 9 t8 t30 σ) fun σ =>
  bindV (vFieldAddr 1 t8) fun t32 =>
  bindV (vLoad false 1 t32 σ) fun t33 =>
  bindV (vFieldAddr 1 t6) fun t34 =>
  bindV (vLoad false 1 t34 σ) fun t35 =>
  bindV (abin .add t33 t35) fun t36 =>
  bindV (vLoad true 9 t8 σ) fun t37 =>
  bindR (call n_job_Active [t37] σ) fun t38 σ =>
  bindV (bif kyes t38 true then some t0 else some undefV) fun t40 =>
  bindR (bif kyes t38 true then call n_kernel_Kernel_Now [t40] σ else some (undefV, σ)) fun t41 σ =>
  bindV (bif kyes t38 true then some t36 else some undefV) fun t42 =>
  bindV (bif kyes t38 true then abin .geq t41 t42 else some undefV) fun t43 =>
  bindV (vPick t38 t43 ff) fun t44 =>
  bindV (bif kyes t44 false then vLoad true 9 t8 σ else some undefV) fun t46 =>
  bindR (bif kyes t44 false then call n_judge_ended [t46] σ else some (undefV, σ)) fun t47 σ =>
  bindV (bif kyes t44 false then some t47 else some undefV) fun t48 =>
  bindV (bif kyes t48 true then vFieldAddr 8 t8 else some undefV) fun t49 =>
  bindV (bif kyes t48 true then vLoad false 1 t49 σ else some undefV) fun t50 =>
  bindV (bif kyes t48 true then some t36 else some undefV) fun t51 =>
  bindV (bif kyes t48 true then abin .gtr t50 t51 else some undefV) fun t52 =>
  bindV (bif kyes t44 false then vPick t48 t52 ff else some undefV) fun t53 =>
  bindV (vPick t44 tt t53) fun t54 =>
  ifV t54 (
  bindR (vBuildSlice 1 [(I 0)] [(0, 1, t18)] σ) fun t57 σ =>
  bindR (vAppend 1 8 [(I 0)] false t3 t57 σ) fun t58 σ =>
  judge_LateJ3 call f r2 t0 t58 t13 t14 t15 σ) (
  judge_LateJ3 call f r2 t0 t3 t13 t14 t15 σ)) (
  judge_LateJ1 call f t3 σ)) n
def judge_LateJ4 (call : CallF H) (f : Nat) (t0 t3 : Value) (σ : St H) : R H :=
  bindR (call n_kernel_Kernel_Admit [t0] σ) fun t12 σ =>
  bindR (call n_admit_Admit_Ids [t12] σ) fun t13 σ =>
  bindV (vLen .slice t13 σ) fun t14 =>
  judge_LateL2 call f f t0 t3 t13 t14 (I 0) σ
def judge_LateJ5 (call : CallF H) (f : Nat) (t0 : Value) (σ : St H) : R H :=
  judge_LateJ4 call f t0 (.slice none 0 0) σ
def judge_LateJ6 (call : CallF H) (f : Nat) (t0 : Value) (σ : St H) : R H :=
  judge_LateJ5 call f t0 σ
def judge_Late (call : CallF H) (f : Nat) (a0 : Value) (σ : St H) : R H := judge_LateJ6 call f a0 σ
theorem judge_LateEq (call : CallF H) (f : Nat) (a0 : Value) (σ : St H) : kbody call f (codeOf P n_judge_Late) [a0] σ = judge_Late call f a0 σ :=
  kbody_of (rs := judge_LateR) (by kernel_rfl) (by kernel_rfl) (by kernel_rfl) (seq_eq (by kernel_rfl) (seq_eq (by kernel_rfl) (seq_eq (by kernel_rfl) (leaf (B := fun e σ => judge_LateJ1 call f (e 3) σ) (by kernel_rfl))
  (seq_eq (by kernel_rfl) (block_eq (by kernel_rfl) (loop_eq (fun n e σ => judge_LateL2 call f n (e 0) (e 3) (e 13) (e 14) (e 15) σ) (by kernel_rfl) (by kernel_rfl) (fun n2 => (leaf (by kernel_rfl)))))
  (leaf (B := fun e σ => judge_LateJ4 call f (e 0) (e 3) σ) (by kernel_rfl))))
  (leaf (B := fun e σ => judge_LateJ5 call f (e 0) σ) (by kernel_rfl)))
  (leaf (B := fun e σ => judge_LateJ6 call f (e 0) σ) (by kernel_rfl))) (by kernel_rfl)

def judge_Slack (call : CallF H) (f : Nat) (a0 a1 : Value) (σ : St H) : R H :=
  bindR (call n_kernel_Kernel_Admit [a0] σ) fun t11 σ =>
  bindR (call n_admit_Admit_Task [t11, a1] σ) fun t13 σ =>
  bindV (vExtract 0 t13) fun t14 =>
  bindV (vExtract 1 t13) fun t15 =>
  bindR (vBox (.agg ⟨[(I 0), (I 0), (I 0), (.slice none 0 0)]⟩) σ) fun t5 σ =>
  bindS (vStore 4 t5 t14 σ) fun σ =>
  bindR (call n_kernel_Kernel_Job [a0, a1] σ) fun t19 σ =>
  bindV (vExtract 0 t19) fun t20 =>
  bindV (vExtract 1 t19) fun t21 =>
  bindR (vBox (.agg ⟨(rep [(I 0)] 9)⟩) σ) fun t7 σ =>
  bindS (vStore 9 t7 t20 σ) fun σ =>
  bindV (vLoad true 9 t7 σ) fun t23 =>
  bindR (call n_job_Active [t23] σ) fun t24 σ =>
  ifV t24 (
  bindV (vFieldAddr 1 t7) fun t25 =>
  bindV (vLoad false 1 t25 σ) fun t26 =>
  bindV (vFieldAddr 1 t5) fun t27 =>
  bindV (vLoad false 1 t27 σ) fun t28 =>
  bindV (abin .add t26 t28) fun t29 =>
  bindR (call n_kernel_Kernel_Now [a0] σ) fun t31 σ =>
  kif (kand (rck (vLoad false 1 t27 σ) t28) (kand (rck (vLoad false 1 t25 σ) t26) true)) (
  bindV (abin .sub t29 t31) fun t32 =>
  some (t32, σ))) (
  bindV (vLoad true 9 t7 σ) fun t34 =>
  bindR (call n_judge_ended [t34] σ) fun t35 σ =>
  ifV t35 (
  bindV (vFieldAddr 1 t7) fun t36 =>
  bindV (vLoad false 1 t36 σ) fun t37 =>
  bindV (vFieldAddr 1 t5) fun t38 =>
  bindV (vLoad false 1 t38 σ) fun t39 =>
  bindV (abin .add t37 t39) fun t40 =>
  bindV (vFieldAddr 8 t7) fun t41 =>
  bindV (vLoad false 1 t41 σ) fun t42 =>
  bindV (abin .sub t40 t42) fun t43 =>
  some (t43, σ)) (
  some ((I 0), σ)))
theorem judge_SlackEq (call : CallF H) (f : Nat) (a0 a1 : Value) (σ : St H) : kbody call f (codeOf P n_judge_Slack) [a0, a1] σ = judge_Slack call f a0 a1 σ := by kernel_rfl

def play_Play_Step (call : CallF H) (f : Nat) (a0 a1 : Value) (σ : St H) : R H :=
  bindR (vBox a1 σ) fun t3 σ =>
  bindR (vBox (.agg ⟨[(I 0), (I 0), (.slice none 0 0), (.slice none 0 0), (I 0)]⟩) σ) fun t4 σ =>
  bindV (vEq .nilp false a0 nilP) fun t10 =>
  ifV t10 (
  bindV (vBuild [(I 0), (I 0), (.slice none 0 0), (.slice none 0 0), (I 0)] [(0, 1, (I 8))]) fun t11 =>
  bindS (vStore 5 t4 t11 σ) fun σ =>
  resV [.c t4 true 5] σ) (
  bindV (vFieldAddr 0 t3) fun t12 =>
  bindV (vLoad false 1 t12 σ) fun t13 =>
  bindV (abin .eql t13 (I 1)) fun t15 =>
  ifV t15 (
  bindV (vNil a0) fun t18 =>
  bindV (vFieldAddr 0 t18) fun t19 =>
  bindV (vLoad false 1 t19 σ) fun t20 =>
  bindV (vFieldAddr 2 t3) fun t21 =>
  bindV (vLoad true 4 t21 σ) fun t22 =>
  bindR (call n_kernel_Kernel_Add [t20, t22] σ) fun t23 σ =>
  bindV (vExtract 0 t23) fun t24 =>
  bindV (vExtract 1 t23) fun t25 =>
  bindV (vBuild [(I 0), (I 0), (.slice none 0 0), (.slice none 0 0), (I 0)] [(0, 1, t25), (1, 1, t24)]) fun t28 =>
  bindS (vStore 5 t4 t28 σ) fun σ =>
  resV [.c t4 true 5] σ) (
  bindV (abin .eql t13 (I 2)) fun t30 =>
  ifV t30 (
  bindV (vNil a0) fun t32 =>
  bindV (vFieldAddr 0 t32) fun t33 =>
  bindV (vLoad false 1 t33 σ) fun t34 =>
  bindV (vFieldAddr 1 t3) fun t35 =>
  bindV (vLoad false 1 t35 σ) fun t36 =>
  bindR (call n_kernel_Kernel_Drop [t34, t36] σ) fun t37 σ =>
  bindV (vBuild [(I 0), (I 0), (.slice none 0 0), (.slice none 0 0), (I 0)] [(0, 1, t37)]) fun t38 =>
  bindS (vStore 5 t4 t38 σ) fun σ =>
  resV [.c t4 true 5] σ) (
  bindV (abin .eql t13 (I 3)) fun t40 =>
  ifV t40 (
  bindV (vNil a0) fun t42 =>
  bindV (vFieldAddr 0 t42) fun t43 =>
  bindV (vLoad false 1 t43 σ) fun t44 =>
  bindV (vFieldAddr 1 t3) fun t45 =>
  bindV (vLoad false 1 t45 σ) fun t46 =>
  bindV (vFieldAddr 6 t3) fun t47 =>
  bindV (vLoad false 1 t47 σ) fun t48 =>
  bindV (vFieldAddr 7 t3) fun t49 =>
  bindV (vLoad false 1 t49 σ) fun t50 =>
  bindR (call n_kernel_Kernel_Release [t44, t46, t48, t50] σ) fun t51 σ =>
  bindV (vBuild [(I 0), (I 0), (.slice none 0 0), (.slice none 0 0), (I 0)] [(0, 1, t51)]) fun t52 =>
  bindS (vStore 5 t4 t52 σ) fun σ =>
  resV [.c t4 true 5] σ) (
  bindV (abin .eql t13 (I 4)) fun t54 =>
  ifV t54 (
  bindV (vLoad true 10 t3 σ) fun t56 =>
  bindR (call n_play_Play_tick [a0, t56] σ) fun t57 σ =>
  bindS (vStore 5 t4 t57 σ) fun σ =>
  resV [.c t4 true 5] σ) (
  bindV (abin .eql t13 (I 5)) fun t59 =>
  ifV t59 (
  bindV (vNil a0) fun t62 =>
  bindV (vFieldAddr 0 t62) fun t63 =>
  bindV (vLoad false 1 t63 σ) fun t64 =>
  bindV (vFieldAddr 1 t3) fun t65 =>
  bindV (vLoad false 1 t65 σ) fun t66 =>
  bindR (call n_kernel_Kernel_Job [t64, t66] σ) fun t67 σ =>
  bindV (vExtract 0 t67) fun t68 =>
  bindV (vExtract 1 t67) fun t69 =>
  bindR (vBox (.agg ⟨(rep [(I 0)] 9)⟩) σ) fun t7 σ =>
  bindS (vStore 9 t7 t68 σ) fun σ =>
  bindV (aun .not t69) fun t71 =>
  ifV t71 (
  bindV (vBuild [(I 0), (I 0), (.slice none 0 0), (.slice none 0 0), (I 0)] [(0, 1, (I 4))]) fun t72 =>
  bindS (vStore 5 t4 t72 σ) fun σ =>
  resV [.c t4 true 5] σ) (
  bindV (vFieldAddr 0 t7) fun t73 =>
  bindV (vLoad false 1 t73 σ) fun t74 =>
  bindV (vBuild [(I 0), (I 0), (.slice none 0 0), (.slice none 0 0), (I 0)] [(4, 1, t74)]) fun t75 =>
  bindS (vStore 5 t4 t75 σ) fun σ =>
  resV [.c t4 true 5] σ)) (
  bindV (vBuild [(I 0), (I 0), (.slice none 0 0), (.slice none 0 0), (I 0)] [(0, 1, (I 1))]) fun t76 =>
  bindS (vStore 5 t4 t76 σ) fun σ =>
  resV [.c t4 true 5] σ))))))
theorem play_Play_StepEq (call : CallF H) (f : Nat) (a0 a1 : Value) (σ : St H) : kbody call f (codeOf P n_play_Play_Step) [a0, a1] σ = play_Play_Step call f a0 a1 σ := by kernel_rfl

def play_Play_Kernel (call : CallF H) (f : Nat) (a0 : Value) (σ : St H) : R H :=
  bindV (vEq .nilp false a0 nilP) fun t4 =>
  ifV t4 (
  some (nilP, σ)) (
  bindV (vNil a0) fun t6 =>
  bindV (vFieldAddr 0 t6) fun t7 =>
  bindV (vLoad false 1 t7 σ) fun t8 =>
  some (t8, σ))
theorem play_Play_KernelEq (call : CallF H) (f : Nat) (a0 : Value) (σ : St H) : kbody call f (codeOf P n_play_Play_Kernel) [a0] σ = play_Play_Kernel call f a0 σ := by kernel_rfl

def play_Play_Bad (call : CallF H) (f : Nat) (a0 : Value) (σ : St H) : R H :=
  bindV (vEq .nilp false a0 nilP) fun t4 =>
  ifV t4 (
  some ((I 9), σ)) (
  bindV (vNil a0) fun t6 =>
  bindV (vFieldAddr 2 t6) fun t7 =>
  bindV (vLoad false 1 t7 σ) fun t8 =>
  some (t8, σ))
theorem play_Play_BadEq (call : CallF H) (f : Nat) (a0 : Value) (σ : St H) : kbody call f (codeOf P n_play_Play_Bad) [a0] σ = play_Play_Bad call f a0 σ := by kernel_rfl

def play_New (call : CallF H) (f : Nat) (a0 : Value) (σ : St H) : R H :=
  bindR (vBox a0 σ) fun t1 σ =>
  bindV (vLoad true 5 t1 σ) fun t4 =>
  bindR (call n_kernel_New [t4] σ) fun t5 σ =>
  bindV (vEq .nilp false t5 nilP) fun t7 =>
  ifV t7 (
  some (nilP, σ)) (
  bindR (call n_judge_New [] σ) fun t9 σ =>
  bindV (vBuild [nilP, nilP, (I 0)] [(0, 1, t5), (1, 1, t9)]) fun t10 =>
  bindR (vBox t10 σ) fun t11 σ =>
  some (t11, σ))
theorem play_NewEq (call : CallF H) (f : Nat) (a0 : Value) (σ : St H) : kbody call f (codeOf P n_play_New) [a0] σ = play_New call f a0 σ := by kernel_rfl

abbrev kernel_NewR : List ARes := [.tmp 2]
def kernel_NewJ1 (call : CallF H) (f : Nat) (t4 : Value) (σ : St H) : R H :=
  some (t4, σ)
def kernel_NewL2 (call : CallF H) (f : Nat) (n : Nat) : Value → Value → Value → St H → R H :=
  Nat.rec (fun _ _ _ _ => none) (fun _ r2 => fun t4 t30 t31 σ =>
  bindV (abin .lss t31 t30) fun t32 =>
  ifV t32 (
  bindV (vNil t4) fun t35 =>
  bindV (vFieldAddr 4 t35) fun t36 =>
  bindV (vLoad false 1 t36 σ) fun t37 =>
  bindR (call n_agent_New [] σ) fun t38 σ =>
  kif (kand (rck (vLoad false 1 t36 σ) t37) true) (
  bindR (vBuildSlice 1 [nilP] [(0, 1, t38)] σ) fun t39 σ =>
  bindR (vAppend 1 8 [nilP] false t37 t39 σ) fun t40 σ =>
  bindV (vNil t4) fun t41 =>
  bindV (vFieldAddr 4 t41) fun t42 =>
  bindS (vStore 1 t42 t40 σ) fun σ =>
  bindV (abin .add t31 (I 1)) fun t43 =>
  r2 t4 t30 t43 σ)) (
  kernel_NewJ1 call f t4 σ)) n
def kernel_NewJ3 (call : CallF H) (f : Nat) (t1 t4 : Value) (σ : St H) : R H :=
  bindV (vFieldAddr 1 t1) fun t29 =>
  bindV (vLoad false 1 t29 σ) fun t30 =>
  kernel_NewL2 call f f t4 t30 (I 0) σ
def kernel_NewL4 (call : CallF H) (f : Nat) (n : Nat) : Value → Value → Value → Value → St H → R H :=
  Nat.rec (fun _ _ _ _ _ => none) (fun _ r4 => fun t1 t4 t15 t16 σ =>
  bindV (abin .lss t16 t15) fun t17 =>
  ifV t17 (
  bindV (vNil t4) fun t20 =>
  bindV (vFieldAddr 3 t20) fun t21 =>
  bindV (vLoad false 1 t21 σ) fun t22 =>
  bindR (call n_bench_New [] σ) fun t23 σ =>
  kif (kand (rck (vLoad false 1 t21 σ) t22) true) (
  bindR (vBuildSlice 1 [nilP] [(0, 1, t23)] σ) fun t24 σ =>
  bindR (vAppend 1 8 [nilP] false t22 t24 σ) fun t25 σ =>
  bindV (vNil t4) fun t26 =>
  bindV (vFieldAddr 3 t26) fun t27 =>
  bindS (vStore 1 t27 t25 σ) fun σ =>
  bindV (abin .add t16 (I 1)) fun t28 =>
  r4 t1 t4 t15 t28 σ)) (
  kernel_NewJ3 call f t1 t4 σ)) n
def kernel_NewJ5 (call : CallF H) (f : Nat) (t1 t4 : Value) (σ : St H) : R H :=
  bindV (vFieldAddr 0 t1) fun t14 =>
  bindV (vLoad false 1 t14 σ) fun t15 =>
  kernel_NewL4 call f f t1 t4 t15 (I 0) σ
def kernel_NewJ6 (call : CallF H) (f : Nat) (t1 t3 : Value) (σ : St H) : R H :=
  bindR (vMkMap σ) fun t10 σ =>
  bindR (call n_mail_New [] σ) fun t11 σ =>
  bindV (vBuild [nilP, (I 0), (.map none), (.slice none 0 0), (.slice none 0 0), nilP] [(0, 1, t3), (2, 1, t10), (5, 1, t11)]) fun t12 =>
  bindR (vBox t12 σ) fun t13 σ =>
  kernel_NewJ5 call f t1 t13 σ
def kernel_NewJ7 (call : CallF H) (f : Nat) (t1 t3 : Value) (σ : St H) : R H :=
  bindV (vEq .nilp false t3 nilP) fun t8 =>
  ifV t8 (
  some (nilP, σ)) (
  kernel_NewJ6 call f t1 t3 σ)
def kernel_NewJ8 (call : CallF H) (f : Nat) (t1 : Value) (σ : St H) : R H :=
  bindV (vLoad true 5 t1 σ) fun t5 =>
  bindR (call n_admit_New [t5] σ) fun t6 σ =>
  kernel_NewJ7 call f t1 t6 σ
def kernel_NewJ9 (call : CallF H) (f : Nat) (t0 : Value) (σ : St H) : R H :=
  bindR (vBox t0 σ) fun t1 σ =>
  kernel_NewJ8 call f t1 σ
def kernel_New (call : CallF H) (f : Nat) (a0 : Value) (σ : St H) : R H := kernel_NewJ9 call f a0 σ
theorem kernel_NewEq (call : CallF H) (f : Nat) (a0 : Value) (σ : St H) : kbody call f (codeOf P n_kernel_New) [a0] σ = kernel_New call f a0 σ :=
  kbody_of (rs := kernel_NewR) (by kernel_rfl) (by kernel_rfl) (by kernel_rfl) (seq_eq (by kernel_rfl) (seq_eq (by kernel_rfl) (seq_eq (by kernel_rfl) (seq_eq (by kernel_rfl) (seq_eq (by kernel_rfl) (seq_eq (by kernel_rfl) (leaf (B := fun e σ => kernel_NewJ1 call f (e 4) σ) (by kernel_rfl))
  (seq_eq (by kernel_rfl) (block_eq (by kernel_rfl) (loop_eq (fun n e σ => kernel_NewL2 call f n (e 4) (e 30) (e 31) σ) (by kernel_rfl) (by kernel_rfl) (fun n2 => (leaf (by kernel_rfl)))))
  (leaf (B := fun e σ => kernel_NewJ3 call f (e 1) (e 4) σ) (by kernel_rfl))))
  (seq_eq (by kernel_rfl) (block_eq (by kernel_rfl) (loop_eq (fun n e σ => kernel_NewL4 call f n (e 1) (e 4) (e 15) (e 16) σ) (by kernel_rfl) (by kernel_rfl) (fun n4 => (leaf (by kernel_rfl)))))
  (leaf (B := fun e σ => kernel_NewJ5 call f (e 1) (e 4) σ) (by kernel_rfl))))
  (leaf (B := fun e σ => kernel_NewJ6 call f (e 1) (e 3) σ) (by kernel_rfl)))
  (leaf (B := fun e σ => kernel_NewJ7 call f (e 1) (e 3) σ) (by kernel_rfl)))
  (leaf (B := fun e σ => kernel_NewJ8 call f (e 1) σ) (by kernel_rfl)))
  (leaf (B := fun e σ => kernel_NewJ9 call f (e 0) σ) (by kernel_rfl))) (by kernel_rfl)

def judge_New (call : CallF H) (f : Nat) (σ : St H) : R H :=
  bindV (vBuild [(I 0), ff] []) fun t1 =>
  bindR (vBox t1 σ) fun t2 σ =>
  some (t2, σ)
theorem judge_NewEq (call : CallF H) (f : Nat) (σ : St H) : kbody call f (codeOf P n_judge_New) [] σ = judge_New call f σ := by kernel_rfl

def top_begun (call : CallF H) (f : Nat) (σ : St H) : R H :=
  bindR (call n_law23x_Begun [] σ) fun t1 σ =>
  some (t1, σ)
theorem top_begunEq (call : CallF H) (f : Nat) (σ : St H) : kbody call f (codeOf P n_top_begun) [] σ = top_begun call f σ := by kernel_rfl

abbrev top_madeR : List ARes := [.tmp 4]
def top_madeJ1 (call : CallF H) (f : Nat) (t5 : Value) (σ : St H) : R H :=
  some (t5, σ)
def top_madeL2 (call : CallF H) (f : Nat) (n : Nat) : Value → Value → Value → St H → R H :=
  Nat.rec (fun _ _ _ _ => none) (fun _ r2 => fun t1 t5 t6 σ =>
  bindV (vLen .slice t1 σ) fun t13 =>
  bindV (abin .lss t6 t13) fun t14 =>
  ifV t14 (
  bindV (vIndexAddr 4 t1 t6) fun t21 =>
  bindV (vLoad true 4 t21 σ) fun t22 =>
  bindR (call n_kernel_Kernel_Add [t5, t22] σ) fun t23 σ =>
  bindV (vExtract 0 t23) fun t24 =>
  bindV (vExtract 1 t23) fun t25 =>
  bindV (abin .neq t25 (I 0)) fun t27 =>
  bindV (bif kyes t27 false then some t24 else some undefV) fun t29 =>
  bindV (bif kyes t27 false then some t6 else some undefV) fun t30 =>
  bindV (bif kyes t27 false then abin .add t30 (I 1) else some undefV) fun t31 =>
  bindV (bif kyes t27 false then abin .neq t29 t31 else some undefV) fun t32 =>
  bindV (vPick t27 tt t32) fun t33 =>
  ifV t33 (
  some (nilP, σ)) (
  bindV (abin .add t6 (I 1)) fun t16 =>
  r2 t1 t5 t16 σ)) (
  top_madeJ1 call f t5 σ)) n
def top_madeJ3 (call : CallF H) (f : Nat) (t1 t5 : Value) (σ : St H) : R H :=
  top_madeL2 call f f t1 t5 (I 0) σ
def top_madeJ4 (call : CallF H) (f : Nat) (t1 t2 : Value) (σ : St H) : R H :=
  bindV (vLoad true 5 t2 σ) fun t9 =>
  bindR (call n_kernel_New [t9] σ) fun t10 σ =>
  top_madeJ3 call f t1 t10 σ
def top_madeJ5 (call : CallF H) (f : Nat) (t0 t1 : Value) (σ : St H) : R H :=
  bindR (vBox t0 σ) fun t2 σ =>
  top_madeJ4 call f t1 t2 σ
def top_made (call : CallF H) (f : Nat) (a0 a1 : Value) (σ : St H) : R H := top_madeJ5 call f a0 a1 σ
theorem top_madeEq (call : CallF H) (f : Nat) (a0 a1 : Value) (σ : St H) : kbody call f (codeOf P n_top_made) [a0, a1] σ = top_made call f a0 a1 σ :=
  kbody_of (rs := top_madeR) (by kernel_rfl) (by kernel_rfl) (by kernel_rfl) (seq_eq (by kernel_rfl) (seq_eq (by kernel_rfl) (seq_eq (by kernel_rfl) (leaf (B := fun e σ => top_madeJ1 call f (e 5) σ) (by kernel_rfl))
  (seq_eq (by kernel_rfl) (block_eq (by kernel_rfl) (loop_eq (fun n e σ => top_madeL2 call f n (e 1) (e 5) (e 6) σ) (by kernel_rfl) (by kernel_rfl) (fun n2 => (leaf (by kernel_rfl)))))
  (leaf (B := fun e σ => top_madeJ3 call f (e 1) (e 5) σ) (by kernel_rfl))))
  (leaf (B := fun e σ => top_madeJ4 call f (e 1) (e 2) σ) (by kernel_rfl)))
  (leaf (B := fun e σ => top_madeJ5 call f (e 0) (e 1) σ) (by kernel_rfl))) (by kernel_rfl)

def top_task (call : CallF H) (f : Nat) (a0 a1 a2 : Value) (σ : St H) : R H :=
  bindR (vBox (.agg ⟨[(I 0), (I 0), (I 0), (.slice none 0 0)]⟩) σ) fun t6 σ =>
  bindV (vBuild [(I 0), (I 0), (I 0), (.slice none 0 0)] [(0, 1, a0), (1, 1, a1), (2, 1, a2)]) fun t10 =>
  bindS (vStore 4 t6 t10 σ) fun σ =>
  resV [.c t6 true 4] σ
theorem top_taskEq (call : CallF H) (f : Nat) (a0 a1 a2 : Value) (σ : St H) : kbody call f (codeOf P n_top_task) [a0, a1, a2] σ = top_task call f a0 a1 a2 σ := by kernel_rfl

def admit_Admit_Plan (call : CallF H) (f : Nat) (a0 a1 : Value) (σ : St H) : R H :=
  bindR (vBox (.agg ⟨[(I 0), (.slice none 0 0)]⟩) σ) fun t4 σ =>
  bindV (vEq .nilp false a0 nilP) fun t9 =>
  ifV t9 (
  bindV (vBuild [(I 0), (.slice none 0 0)] []) fun t10 =>
  bindS (vStore 2 t4 t10 σ) fun σ =>
  resV [.c t4 true 2, .v ff] σ) (
  bindV (vNil a0) fun t13 =>
  bindV (vFieldAddr 5 t13) fun t14 =>
  bindV (vLoad false 1 t14 σ) fun t15 =>
  bindR (call n_seat_Seats_admit_place_Get [t15, a1] σ) fun t17 σ =>
  bindV (vExtract 0 t17) fun t18 =>
  bindV (vExtract 1 t17) fun t19 =>
  bindR (vBox (.agg ⟨[(I 0), (I 0), (I 0), (.slice none 0 0), (I 0), (.slice none 0 0)]⟩) σ) fun t6 σ =>
  bindS (vStore 6 t6 t18 σ) fun σ =>
  bindV (vFieldAddr 4 t6) fun t20 =>
  bindV (vFieldAddr 1 t20) fun t21 =>
  bindV (vLoad false 1 t21 σ) fun t22 =>
  bindR (call n_slices_Clone__api_Piece_api_Piece [t22] σ) fun t23 σ =>
  bindV (vFieldAddr 4 t6) fun t24 =>
  bindV (vFieldAddr 1 t24) fun t25 =>
  bindS (vStore 1 t25 t23 σ) fun σ =>
  bindV (vFieldAddr 4 t6) fun t26 =>
  bindV (vLoad true 2 t26 σ) fun t27 =>
  bindS (vStore 2 t4 t27 σ) fun σ =>
  resV [.c t4 true 2, .v t19] σ)
theorem admit_Admit_PlanEq (call : CallF H) (f : Nat) (a0 a1 : Value) (σ : St H) : kbody call f (codeOf P n_admit_Admit_Plan) [a0, a1] σ = admit_Admit_Plan call f a0 a1 σ := by kernel_rfl

def admit_Admit_Add (call : CallF H) (f : Nat) (a0 a1 : Value) (σ : St H) : R H :=
  bindR (vBox a1 σ) fun t3 σ =>
  bindV (vEq .nilp false a0 nilP) fun t13 =>
  ifV t13 (
  some (.tuple ⟨[(I 0), (I 8)]⟩, σ)) (
  bindV (vNil a0) fun t16 =>
  bindV (vFieldAddr 0 t16) fun t17 =>
  bindV (vLoad true 5 t17 σ) fun t18 =>
  bindV (vLoad true 4 t3 σ) fun t19 =>
  bindR (call n_rule_Task [t18, t19] σ) fun t20 σ =>
  bindV (aun .not t20) fun t21 =>
  ifV t21 (
  some (.tuple ⟨[(I 0), (I 1)]⟩, σ)) (
  bindR (call n_admit_Admit_all [a0] σ) fun t24 σ =>
  bindV (vExtract 0 t24) fun t25 =>
  bindV (vExtract 1 t24) fun t26 =>
  bindV (vLen .slice t25 σ) fun t28 =>
  bindV (abin .geq t28 (I 12)) fun t29 =>
  ifV t29 (
  some (.tuple ⟨[(I 0), (I 3)]⟩, σ)) (
  bindV (vLoad true 4 t3 σ) fun t31 =>
  bindR (vBuildSlice 1 [(I 0), (I 0), (I 0), (.slice none 0 0)] [(0, 4, t31)] σ) fun t32 σ =>
  bindR (vAppend 4 48 [(I 0), (I 0), (I 0), (.slice none 0 0)] false t25 t32 σ) fun t33 σ =>
  bindR (call n_admit_Admit_beside [a0, t33, t26] σ) fun t38 σ =>
  bindV (vExtract 0 t38) fun t39 =>
  bindV (vExtract 1 t38) fun t40 =>
  bindV (aun .not t40) fun t42 =>
  ifV t42 (
  some (.tuple ⟨[(I 0), (I 7)]⟩, σ)) (
  bindV (vLoad true 4 t3 σ) fun t46 =>
  bindV (vNil a0) fun t48 =>
  bindV (vFieldAddr 0 t48) fun t49 =>
  bindV (vLoad true 5 t49 σ) fun t50 =>
  bindV (vLen .slice t26 σ) fun t53 =>
  bindR (call n_wait_Task [t50, t33, t53] σ) fun t54 σ =>
  kif (kand (rck (vLoad true 4 t3 σ) t46) true) (
  bindR (call n_admit_Admit_plans [a0, t39, t46, t54] σ) fun t55 σ =>
  bindV (vExtract 0 t55) fun t56 =>
  bindV (vExtract 1 t55) fun t57 =>
  bindR (vBox (.agg ⟨[(I 0), (.slice none 0 0)]⟩) σ) fun t10 σ =>
  bindS (vStore 2 t10 t56 σ) fun σ =>
  bindV (aun .not t57) fun t59 =>
  ifV t59 (
  some (.tuple ⟨[(I 0), (I 7)]⟩, σ)) (
  bindV (vNil a0) fun t61 =>
  bindV (vFieldAddr 5 t61) fun t62 =>
  bindV (vLoad false 1 t62 σ) fun t63 =>
  bindV (vLoad true 4 t3 σ) fun t64 =>
  bindV (vLoad true 2 t10 σ) fun t66 =>
  bindR (call n_admit_own [t64] σ) fun t65 σ =>
  kif (kand (rck (vLoad true 2 t10 σ) t66) (kand (rck (vLoad false 1 t62 σ) t63) true)) (
  bindV (vBuild [(I 0), (I 0), (I 0), (.slice none 0 0), (I 0), (.slice none 0 0)] [(0, 4, t65), (4, 2, t66)]) fun t67 =>
  bindR (call n_seat_Seats_admit_place_Add [t63, t67] σ) fun t68 σ =>
  some (.tuple ⟨[t68, (I 0)]⟩, σ))))))))
theorem admit_Admit_AddEq (call : CallF H) (f : Nat) (a0 a1 : Value) (σ : St H) : kbody call f (codeOf P n_admit_Admit_Add) [a0, a1] σ = admit_Admit_Add call f a0 a1 σ := by kernel_rfl

abbrev kernel_Kernel_comesR : List ARes := []
def kernel_Kernel_comesJ2 (call : CallF H) (f : Nat) (r1 : Value → Value → Value → Value → St H → R H) (t0 t12 t13 t14 : Value) (σ : St H) : R H :=
  bindV (abin .add t14 (I 1)) fun t41 =>
  r1 t0 t12 t13 t41 σ
def kernel_Kernel_comesL1 (call : CallF H) (f : Nat) (n : Nat) : Value → Value → Value → Value → St H → R H :=
  Nat.rec (fun _ _ _ _ _ => none) (fun _ r1 => fun t0 t12 t13 t14 σ =>
  bindV (abin .lss t14 t13) fun t15 =>
  ifV t15 (
  bindV (vIndexAddr 5 t12 t14) fun t16 =>
  bindV (vLoad true 5 t16 σ) fun t17 =>
  bindR (vBox (.agg ⟨(rep [(I 0)] 5)⟩) σ) fun t3 σ =>
  bindS (vStore 5 t3 t17 σ) fun σ =>
  bindV (vFieldAddr 0 t3) fun t18 =>
  bindV (vLoad false 1 t18 σ) fun t19 =>
  bindV (abin .eql t19 (I 2)) fun t21 =>
  ifV t21 (
  bindV (vNil t0) fun t23 =>
  bindV (vFieldAddr 4 t23) fun t24 =>
  bindV (vLoad false 1 t24 σ) fun t25 =>
  bindV (vFieldAddr 2 t3) fun t26 =>
  bindV (vLoad false 1 t26 σ) fun t27 =>
  bindV (vIndexAddr 1 t25 t27) fun t28 =>
  bindV (vLoad false 1 t28 σ) fun t29 =>
  bindV (vFieldAddr 1 t3) fun t30 =>
  bindV (vLoad false 1 t30 σ) fun t31 =>
  bindV (vFieldAddr 4 t3) fun t32 =>
  bindV (vLoad false 1 t32 σ) fun t33 =>
  bindR (call n_agent_Agent_Ask [t29, t31, t33] σ) fun t34 σ =>
  kernel_Kernel_comesJ2 call f r1 t0 t12 t13 t14 σ) (
  bindV (abin .eql t19 (I 3)) fun t36 =>
  ifV t36 (
  bindV (vFieldAddr 1 t3) fun t38 =>
  bindV (vLoad false 1 t38 σ) fun t39 =>
  bindR (call n_kernel_Kernel_ready [t0, t39] σ) fun t40 σ =>
  kernel_Kernel_comesJ2 call f r1 t0 t12 t13 t14 σ) (
  kernel_Kernel_comesJ2 call f r1 t0 t12 t13 t14 σ))) (
  some (.tuple ⟨[]⟩, σ))) n
def kernel_Kernel_comesJ3 (call : CallF H) (f : Nat) (t0 : Value) (σ : St H) : R H :=
  bindV (vNil t0) fun t5 =>
  bindV (vFieldAddr 5 t5) fun t6 =>
  bindV (vLoad false 1 t6 σ) fun t7 =>
  bindV (vNil t0) fun t9 =>
  bindV (vFieldAddr 1 t9) fun t10 =>
  bindV (vLoad false 1 t10 σ) fun t11 =>
  bindR (call n_mail_Mails_Due [t7, t11] σ) fun t12 σ =>
  bindV (vLen .slice t12 σ) fun t13 =>
  kernel_Kernel_comesL1 call f f t0 t12 t13 (I 0) σ
def kernel_Kernel_comes (call : CallF H) (f : Nat) (a0 : Value) (σ : St H) : R H := kernel_Kernel_comesJ3 call f a0 σ
theorem kernel_Kernel_comesEq (call : CallF H) (f : Nat) (a0 : Value) (σ : St H) : kbody call f (codeOf P n_kernel_Kernel_comes) [a0] σ = kernel_Kernel_comes call f a0 σ :=
  kbody_of (rs := kernel_Kernel_comesR) (by kernel_rfl) (by kernel_rfl) (by kernel_rfl) (seq_eq (by kernel_rfl) (block_eq (by kernel_rfl) (loop_eq (fun n e σ => kernel_Kernel_comesL1 call f n (e 0) (e 12) (e 13) (e 14) σ) (by kernel_rfl) (by kernel_rfl) (fun n1 => (leaf (by kernel_rfl)))))
  (leaf (B := fun e σ => kernel_Kernel_comesJ3 call f (e 0) σ) (by kernel_rfl))) (by kernel_rfl)

abbrev kernel_Kernel_opensR : List ARes := []
def kernel_Kernel_opensJ2 (call : CallF H) (f : Nat) (r1 : Value → Value → Value → Value → St H → R H) (t0 t13 t14 t15 : Value) (σ : St H) : R H :=
  bindV (abin .add t15 (I 1)) fun t69 =>
  r1 t0 t13 t14 t69 σ
def kernel_Kernel_opensL1 (call : CallF H) (f : Nat) (n : Nat) : Value → Value → Value → Value → St H → R H :=
  Nat.rec (fun _ _ _ _ _ => none) (fun _ r1 => fun t0 t13 t14 t15 σ =>
  bindV (abin .lss t15 t14) fun t16 =>
  ifV t16 (
  bindV (vIndexAddr 1 t13 t15) fun t17 =>
  bindV (vLoad false 1 t17 σ) fun t18 =>
  bindV (vNil t0) fun t20 =>
  bindV (vFieldAddr 2 t20) fun t21 =>
  bindV (vLoad false 1 t21 σ) fun t22 =>
  bindV (vLookup true nilP false t22 t18 σ) fun t24 =>
  bindV (vNil t0) fun t27 =>
  bindV (vFieldAddr 0 t27) fun t28 =>
  bindV (vLoad false 1 t28 σ) fun t29 =>
  bindR (call n_admit_Admit_Plan [t29, t18] σ) fun t31 σ =>
  bindV (vExtract 0 t31) fun t32 =>
  bindV (vExtract 1 t31) fun t33 =>
  bindR (vBox (.agg ⟨[(I 0), (.slice none 0 0)]⟩) σ) fun t5 σ =>
  bindS (vStore 2 t5 t32 σ) fun σ =>
  bindV (vNil t0) fun t36 =>
  bindV (vFieldAddr 5 t36) fun t37 =>
  bindV (vLoad false 1 t37 σ) fun t38 =>
  bindR (call n_mail_Mails_Of [t38, t18] σ) fun t40 σ =>
  bindV (vExtract 0 t40) fun t41 =>
  bindV (vExtract 1 t40) fun t42 =>
  bindR (vBox (.agg ⟨(rep [(I 0)] 5)⟩) σ) fun t7 σ =>
  bindS (vStore 5 t7 t41 σ) fun σ =>
  bindV (vNil t24) fun t44 =>
  bindV (vFieldAddr 0 t44) fun t45 =>
  bindV (vFieldAddr 0 t45) fun t46 =>
  bindV (vLoad false 1 t46 σ) fun t47 =>
  bindV (abin .eql t47 (I 1)) fun t48 =>
  bindV (bif kyes t48 true then some t42 else some undefV) fun t50 =>
  bindV (bif kyes t48 true then aun .not t50 else some undefV) fun t51 =>
  bindV (vPick t48 t51 ff) fun t52 =>
  bindV (bif kyes t52 true then vLoad true 2 t5 σ else some undefV) fun t54 =>
  bindV (bif kyes t52 true then some t24 else some undefV) fun t55 =>
  bindV (bif kyes t52 true then vNil t55 else some undefV) fun t56 =>
  bindV (bif kyes t52 true then vFieldAddr 0 t56 else some undefV) fun t57 =>
  bindV (bif kyes t52 true then vLoad true 9 t57 σ else some undefV) fun t58 =>
  bindV (bif kyes t52 true then some t0 else some undefV) fun t60 =>
  bindV (bif kyes t52 true then vNil t60 else some undefV) fun t61 =>
  bindV (bif kyes t52 true then vFieldAddr 1 t61 else some undefV) fun t62 =>
  bindV (bif kyes t52 true then vLoad false 1 t62 σ else some undefV) fun t63 =>
  bindR (bif kyes t52 true then call n_job_Begins [t54, t58] σ else some (undefV, σ)) fun t59 σ =>
  kif (kand (kimp (kyes t52 true) (rck (vLoad false 1 t62 σ) t63)) true) (
  bindV (bif kyes t52 true then abin .leq t59 t63 else some undefV) fun t64 =>
  bindV (vPick t52 t64 ff) fun t65 =>
  ifV t65 (
  bindR (call n_kernel_Kernel_ready [t0, t18] σ) fun t68 σ =>
  kernel_Kernel_opensJ2 call f r1 t0 t13 t14 t15 σ) (
  kernel_Kernel_opensJ2 call f r1 t0 t13 t14 t15 σ))) (
  some (.tuple ⟨[]⟩, σ))) n
def kernel_Kernel_opensJ3 (call : CallF H) (f : Nat) (t0 : Value) (σ : St H) : R H :=
  bindV (vNil t0) fun t10 =>
  bindV (vFieldAddr 0 t10) fun t11 =>
  bindV (vLoad false 1 t11 σ) fun t12 =>
  bindR (call n_admit_Admit_Ids [t12] σ) fun t13 σ =>
  bindV (vLen .slice t13 σ) fun t14 =>
  kernel_Kernel_opensL1 call f f t0 t13 t14 (I 0) σ
def kernel_Kernel_opens (call : CallF H) (f : Nat) (a0 : Value) (σ : St H) : R H := kernel_Kernel_opensJ3 call f a0 σ
theorem kernel_Kernel_opensEq (call : CallF H) (f : Nat) (a0 : Value) (σ : St H) : kbody call f (codeOf P n_kernel_Kernel_opens) [a0] σ = kernel_Kernel_opens call f a0 σ :=
  kbody_of (rs := kernel_Kernel_opensR) (by kernel_rfl) (by kernel_rfl) (by kernel_rfl) (seq_eq (by kernel_rfl) (block_eq (by kernel_rfl) (loop_eq (fun n e σ => kernel_Kernel_opensL1 call f n (e 0) (e 13) (e 14) (e 15) σ) (by kernel_rfl) (by kernel_rfl) (fun n1 => (leaf (by kernel_rfl)))))
  (leaf (B := fun e σ => kernel_Kernel_opensJ3 call f (e 0) σ) (by kernel_rfl))) (by kernel_rfl)

def kernel_Kernel_runsJ1 (call : CallF H) (f : Nat) (t5 t6 t7 t8 t9 t11 t13 : Value) (σ : St H) : R H :=
  bindV (abin .eql t13 (I 3)) fun t86 =>
  ifV t86 (
  bindV (vFieldAddr 3 t9) fun t87 =>
  bindV (vLoad false 1 t87 σ) fun t88 =>
  bindV (vNil t7) fun t90 =>
  bindV (vFieldAddr 0 t90) fun t91 =>
  bindV (vFieldAddr 7 t91) fun t92 =>
  bindV (vLoad false 1 t92 σ) fun t93 =>
  bindV (abin .sub t93 (I 1)) fun t94 =>
  bindV (vIndexAddr 3 t88 t94) fun t95 =>
  bindV (vLoad true 3 t95 σ) fun t96 =>
  bindR (vBox (.agg ⟨[(I 0), (I 0), (I 0)]⟩) σ) fun t14 σ =>
  bindS (vStore 3 t14 t96 σ) fun σ =>
  bindV (vFieldAddr 4 t8) fun t99 =>
  bindV (vLoad false 1 t99 σ) fun t100 =>
  bindV (vFieldAddr 0 t14) fun t101 =>
  bindV (vLoad false 1 t101 σ) fun t102 =>
  bindV (vIndexAddr 1 t100 t102) fun t103 =>
  bindV (vLoad false 1 t103 σ) fun t104 =>
  bindV (vNil t7) fun t107 =>
  bindV (vFieldAddr 0 t107) fun t108 =>
  bindV (vFieldAddr 7 t108) fun t109 =>
  bindV (vLoad false 1 t109 σ) fun t110 =>
  bindV (abin .sub t110 (I 1)) fun t111 =>
  bindV (vFieldAddr 2 t14) fun t112 =>
  bindV (vLoad false 1 t112 σ) fun t113 =>
  bindR (call n_kernel_work_hold [t7, t111, t113] σ) fun t114 σ =>
  kif (kand (rck (vLoad false 1 t103 σ) t104) (kand (rck (vLoad false 1 t101 σ) t102) (kand (rck (vLoad false 1 t99 σ) t100) true))) (
  bindV (vBuild (rep [(I 0)] 5) [(0, 1, (I 2)), (1, 1, t6), (2, 1, t104), (4, 1, t114)]) fun t115 =>
  bindS (vStore 5 t5 t115 σ) fun σ =>
  resV [.v t6, .c t5 true 5] σ)) (
  bindV (abin .eql t13 (I 4)) fun t117 =>
  ifV t117 (
  bindV (vFieldAddr 1 t11) fun t120 =>
  bindV (vLoad false 1 t120 σ) fun t121 =>
  bindV (vNil t7) fun t123 =>
  bindV (vFieldAddr 0 t123) fun t124 =>
  bindV (vFieldAddr 4 t124) fun t125 =>
  bindV (vLoad false 1 t125 σ) fun t126 =>
  bindV (vIndexAddr 4 t121 t126) fun t127 =>
  bindV (vFieldAddr 0 t127) fun t128 =>
  bindV (vLoad false 1 t128 σ) fun t129 =>
  bindV (vBuild (rep [(I 0)] 5) [(0, 1, (I 1)), (1, 1, t6), (2, 1, t129)]) fun t130 =>
  bindS (vStore 5 t5 t130 σ) fun σ =>
  resV [.v t6, .c t5 true 5] σ) (
  bindV (vBuild (rep [(I 0)] 5) []) fun t132 =>
  bindS (vStore 5 t5 t132 σ) fun σ =>
  resV [.v t6, .c t5 true 5] σ))
def kernel_Kernel_runs (call : CallF H) (f : Nat) (a0 a1 : Value) (σ : St H) : R H :=
  bindR (vBox (.agg ⟨(rep [(I 0)] 5)⟩) σ) fun t5 σ =>
  bindV (vNil a0) fun t16 =>
  bindV (vFieldAddr 3 t16) fun t17 =>
  bindV (vLoad false 1 t17 σ) fun t18 =>
  bindV (vIndexAddr 1 t18 a1) fun t20 =>
  bindV (vLoad false 1 t20 σ) fun t21 =>
  bindR (call n_bench_Bench_Runs [t21] σ) fun t22 σ =>
  bindV (abin .eql t22 (I 0)) fun t24 =>
  ifV t24 (
  bindV (vBuild (rep [(I 0)] 5) []) fun t25 =>
  bindS (vStore 5 t5 t25 σ) fun σ =>
  resV [.v (I 0), .c t5 true 5] σ) (
  bindV (vNil a0) fun t27 =>
  bindV (vFieldAddr 2 t27) fun t28 =>
  bindV (vLoad false 1 t28 σ) fun t29 =>
  bindV (vLookup true nilP false t29 t22 σ) fun t31 =>
  bindV (vNil a0) fun t33 =>
  bindV (vFieldAddr 0 t33) fun t34 =>
  bindV (vLoad false 1 t34 σ) fun t35 =>
  bindR (call n_admit_Admit_Config [t35] σ) fun t36 σ =>
  bindR (vBox (.agg ⟨[(I 0), (I 0), (I 0), (I 0), (.slice none 0 0)]⟩) σ) fun t8 σ =>
  bindS (vStore 5 t8 t36 σ) fun σ =>
  bindV (vNil a0) fun t39 =>
  bindV (vFieldAddr 0 t39) fun t40 =>
  bindV (vLoad false 1 t40 σ) fun t41 =>
  bindR (call n_admit_Admit_Task [t41, t22] σ) fun t43 σ =>
  bindV (vExtract 0 t43) fun t44 =>
  bindV (vExtract 1 t43) fun t45 =>
  bindR (vBox (.agg ⟨[(I 0), (I 0), (I 0), (.slice none 0 0)]⟩) σ) fun t9 σ =>
  bindS (vStore 4 t9 t44 σ) fun σ =>
  bindV (vNil a0) fun t48 =>
  bindV (vFieldAddr 0 t48) fun t49 =>
  bindV (vLoad false 1 t49 σ) fun t50 =>
  bindR (call n_admit_Admit_Plan [t50, t22] σ) fun t52 σ =>
  bindV (vExtract 0 t52) fun t53 =>
  bindV (vExtract 1 t52) fun t54 =>
  bindR (vBox (.agg ⟨[(I 0), (.slice none 0 0)]⟩) σ) fun t11 σ =>
  bindS (vStore 2 t11 t53 σ) fun σ =>
  bindV (vLoad true 5 t8 σ) fun t57 =>
  bindV (vLoad true 4 t9 σ) fun t58 =>
  bindV (vLoad true 2 t11 σ) fun t59 =>
  bindV (vNil t31) fun t61 =>
  bindV (vFieldAddr 0 t61) fun t62 =>
  bindV (vLoad true 9 t62 σ) fun t63 =>
  bindV (vNil a0) fun t65 =>
  bindV (vFieldAddr 1 t65) fun t66 =>
  bindV (vLoad false 1 t66 σ) fun t67 =>
  bindR (call n_job_Tick [t57, t58, t59, t63, t67] σ) fun t68 σ =>
  bindV (vExtract 0 t68) fun t69 =>
  bindV (vExtract 1 t68) fun t70 =>
  bindV (vNil t31) fun t71 =>
  bindV (vFieldAddr 0 t71) fun t72 =>
  bindS (vStore 9 t72 t69 σ) fun σ =>
  bindV (abin .neq t70 (I 1)) fun t74 =>
  ifV t74 (
  bindV (vNil a0) fun t76 =>
  bindV (vFieldAddr 3 t76) fun t77 =>
  bindV (vLoad false 1 t77 σ) fun t78 =>
  bindV (vIndexAddr 1 t78 a1) fun t80 =>
  bindV (vLoad false 1 t80 σ) fun t81 =>
  bindR (call n_bench_Bench_Leave [t81, t22] σ) fun t83 σ =>
  kernel_Kernel_runsJ1 call f t5 t22 t31 t8 t9 t11 t70 σ) (
  kernel_Kernel_runsJ1 call f t5 t22 t31 t8 t9 t11 t70 σ))
theorem kernel_Kernel_runsEq (call : CallF H) (f : Nat) (a0 a1 : Value) (σ : St H) : kbody call f (codeOf P n_kernel_Kernel_runs) [a0, a1] σ = kernel_Kernel_runs call f a0 a1 σ := by kernel_rfl

def kernel_Kernel_serves (call : CallF H) (f : Nat) (a0 a1 : Value) (σ : St H) : R H :=
  bindR (vBox (.agg ⟨(rep [(I 0)] 5)⟩) σ) fun t5 σ =>
  bindV (vNil a0) fun t12 =>
  bindV (vFieldAddr 4 t12) fun t13 =>
  bindV (vLoad false 1 t13 σ) fun t14 =>
  bindV (vIndexAddr 1 t14 a1) fun t16 =>
  bindV (vLoad false 1 t16 σ) fun t17 =>
  bindR (call n_agent_Agent_Tick [t17] σ) fun t18 σ =>
  bindV (vExtract 0 t18) fun t19 =>
  bindV (vExtract 1 t18) fun t20 =>
  bindV (aun .not t20) fun t22 =>
  ifV t22 (
  bindV (vBuild (rep [(I 0)] 5) []) fun t24 =>
  bindS (vStore 5 t5 t24 σ) fun σ =>
  resV [.v t19, .c t5 true 5] σ) (
  bindV (vNil a0) fun t27 =>
  bindV (vFieldAddr 0 t27) fun t28 =>
  bindV (vLoad false 1 t28 σ) fun t29 =>
  bindR (call n_admit_Admit_Plan [t29, t19] σ) fun t31 σ =>
  bindV (vExtract 0 t31) fun t32 =>
  bindV (vExtract 1 t31) fun t33 =>
  bindR (vBox (.agg ⟨[(I 0), (.slice none 0 0)]⟩) σ) fun t8 σ =>
  bindS (vStore 2 t8 t32 σ) fun σ =>
  bindV (vFieldAddr 1 t8) fun t36 =>
  bindV (vLoad false 1 t36 σ) fun t37 =>
  bindV (vNil a0) fun t39 =>
  bindV (vFieldAddr 2 t39) fun t40 =>
  bindV (vLoad false 1 t40 σ) fun t41 =>
  bindV (vLookup true nilP false t41 t19 σ) fun t43 =>
  bindV (vNil t43) fun t44 =>
  bindV (vFieldAddr 0 t44) fun t45 =>
  bindV (vFieldAddr 4 t45) fun t46 =>
  bindV (vLoad false 1 t46 σ) fun t47 =>
  bindV (vIndexAddr 4 t37 t47) fun t48 =>
  bindV (vFieldAddr 0 t48) fun t49 =>
  bindV (vLoad false 1 t49 σ) fun t50 =>
  bindV (vBuild (rep [(I 0)] 5) [(0, 1, (I 3)), (1, 1, t19), (2, 1, t50)]) fun t51 =>
  bindS (vStore 5 t5 t51 σ) fun σ =>
  resV [.v t19, .c t5 true 5] σ)
theorem kernel_Kernel_servesEq (call : CallF H) (f : Nat) (a0 a1 : Value) (σ : St H) : kbody call f (codeOf P n_kernel_Kernel_serves) [a0, a1] σ = kernel_Kernel_serves call f a0 a1 σ := by kernel_rfl

abbrev kernel_Kernel_saysR : List ARes := []
def kernel_Kernel_saysL1 (call : CallF H) (f : Nat) (n : Nat) : Value → Value → Value → Value → Value → Value → St H → R H :=
  Nat.rec (fun _ _ _ _ _ _ _ => none) (fun _ r1 => fun t0 t1 t2 t11 t12 t13 σ =>
  bindV (abin .lss t13 t12) fun t14 =>
  ifV t14 (
  bindV (vIndexAddr 1 t11 t13) fun t16 =>
  bindV (vLoad false 1 t16 σ) fun t17 =>
  bindV (vLookup true (.agg ⟨(rep [(I 0)] 5)⟩) false t1 t17 σ) fun t20 =>
  bindR (vBox (.agg ⟨(rep [(I 0)] 5)⟩) σ) fun t8 σ =>
  bindS (vStore 5 t8 t20 σ) fun σ =>
  bindV (vNil t0) fun t22 =>
  bindV (vFieldAddr 1 t22) fun t23 =>
  bindV (vLoad false 1 t23 σ) fun t24 =>
  bindV (abin .add t24 (I 1)) fun t25 =>
  bindR (call n_kernel_Kernel_lag [t0, t2, t13] σ) fun t29 σ =>
  kif (kand (rck (vLoad false 1 t23 σ) t24) true) (
  bindV (abin .add t25 t29) fun t30 =>
  bindV (vFieldAddr 3 t8) fun t31 =>
  bindS (vStore 1 t31 t30 σ) fun σ =>
  bindV (vNil t0) fun t33 =>
  bindV (vFieldAddr 5 t33) fun t34 =>
  bindV (vLoad false 1 t34 σ) fun t35 =>
  bindV (vLoad true 5 t8 σ) fun t36 =>
  bindR (call n_mail_Mails_Say [t35, t36] σ) fun t37 σ =>
  bindV (abin .add t13 (I 1)) fun t38 =>
  r1 t0 t1 t2 t11 t12 t38 σ)) (
  some (.tuple ⟨[]⟩, σ))) n
def kernel_Kernel_saysJ2 (call : CallF H) (f : Nat) (t0 t1 t2 : Value) (σ : St H) : R H :=
  bindR (call n_maps_Keys_map_intapi_Mail_int_api_Mail [t1] σ) fun t10 σ =>
  bindR (call n_slices_Sorted_int [t10] σ) fun t11 σ =>
  bindV (vLen .slice t11 σ) fun t12 =>
  kernel_Kernel_saysL1 call f f t0 t1 t2 t11 t12 (I 0) σ
def kernel_Kernel_says (call : CallF H) (f : Nat) (a0 a1 a2 : Value) (σ : St H) : R H := kernel_Kernel_saysJ2 call f a0 a1 a2 σ
theorem kernel_Kernel_saysEq (call : CallF H) (f : Nat) (a0 a1 a2 : Value) (σ : St H) : kbody call f (codeOf P n_kernel_Kernel_says) [a0, a1, a2] σ = kernel_Kernel_says call f a0 a1 a2 σ :=
  kbody_of (rs := kernel_Kernel_saysR) (by kernel_rfl) (by kernel_rfl) (by kernel_rfl) (seq_eq (by kernel_rfl) (block_eq (by kernel_rfl) (loop_eq (fun n e σ => kernel_Kernel_saysL1 call f n (e 0) (e 1) (e 2) (e 11) (e 12) (e 13) σ) (by kernel_rfl) (by kernel_rfl) (fun n1 => (leaf (by kernel_rfl)))))
  (leaf (B := fun e σ => kernel_Kernel_saysJ2 call f (e 0) (e 1) (e 2) σ) (by kernel_rfl))) (by kernel_rfl)

def agent_Agent_Serves (call : CallF H) (f : Nat) (a0 : Value) (σ : St H) : R H :=
  bindV (vEq .nilp false a0 nilP) fun t4 =>
  ifV t4 (
  some ((I 0), σ)) (
  bindV (vNil a0) fun t6 =>
  bindV (vFieldAddr 1 t6) fun t7 =>
  bindV (vFieldAddr 0 t7) fun t8 =>
  bindV (vLoad false 1 t8 σ) fun t9 =>
  some (t9, σ))
theorem agent_Agent_ServesEq (call : CallF H) (f : Nat) (a0 : Value) (σ : St H) : kbody call f (codeOf P n_agent_Agent_Serves) [a0] σ = agent_Agent_Serves call f a0 σ := by kernel_rfl

def agent_Agent_Waiting (call : CallF H) (f : Nat) (a0 : Value) (σ : St H) : R H :=
  bindV (vEq .nilp false a0 nilP) fun t4 =>
  ifV t4 (
  some ((I 0), σ)) (
  bindV (vNil a0) fun t6 =>
  bindV (vFieldAddr 0 t6) fun t7 =>
  bindV (vLoad false 1 t7 σ) fun t8 =>
  bindR (call n_ring_Ring_agent_request_Len [t8] σ) fun t9 σ =>
  some (t9, σ))
theorem agent_Agent_WaitingEq (call : CallF H) (f : Nat) (a0 : Value) (σ : St H) : kbody call f (codeOf P n_agent_Agent_Waiting) [a0] σ = agent_Agent_Waiting call f a0 σ := by kernel_rfl

def mail_Mails_Of (call : CallF H) (f : Nat) (a0 a1 : Value) (σ : St H) : R H :=
  bindR (vBox (.agg ⟨(rep [(I 0)] 5)⟩) σ) fun t4 σ =>
  bindV (vEq .nilp false a0 nilP) fun t9 =>
  ifV t9 (
  bindV (vBuild (rep [(I 0)] 5) []) fun t10 =>
  bindS (vStore 5 t4 t10 σ) fun σ =>
  resV [.c t4 true 5, .v ff] σ) (
  bindR (call n_mail_Mails_sorts [a0] σ) fun t12 σ =>
  bindV (vNil a0) fun t15 =>
  bindV (vFieldAddr 2 t15) fun t16 =>
  bindV (vLoad false 1 t16 σ) fun t17 =>
  bindV (vLookup true (.agg ⟨(rep [(I 0)] 5)⟩) true t17 a1 σ) fun t19 =>
  bindV (vExtract 0 t19) fun t20 =>
  bindV (vExtract 1 t19) fun t21 =>
  bindR (vBox (.agg ⟨(rep [(I 0)] 5)⟩) σ) fun t6 σ =>
  bindS (vStore 5 t6 t20 σ) fun σ =>
  bindV (vLoad true 5 t6 σ) fun t22 =>
  bindS (vStore 5 t4 t22 σ) fun σ =>
  resV [.c t4 true 5, .v t21] σ)
theorem mail_Mails_OfEq (call : CallF H) (f : Nat) (a0 a1 : Value) (σ : St H) : kbody call f (codeOf P n_mail_Mails_Of) [a0, a1] σ = mail_Mails_Of call f a0 a1 σ := by kernel_rfl

def law19x_Begun (call : CallF H) (f : Nat) (σ : St H) : R H :=
  bindR (call n_law19x_begun [] σ) fun t1 σ =>
  some (t1, σ)
theorem law19x_BegunEq (call : CallF H) (f : Nat) (σ : St H) : kbody call f (codeOf P n_law19x_Begun) [] σ = law19x_Begun call f σ := by kernel_rfl

def admit_Admit_Drop (call : CallF H) (f : Nat) (a0 a1 : Value) (σ : St H) : R H :=
  bindV (vEq .nilp false a0 nilP) fun t7 =>
  ifV t7 (
  some ((I 8), σ)) (
  bindV (vNil a0) fun t10 =>
  bindV (vFieldAddr 5 t10) fun t11 =>
  bindV (vLoad false 1 t11 σ) fun t12 =>
  bindR (call n_seat_Seats_admit_place_Drop [t12, a1] σ) fun t14 σ =>
  bindV (aun .not t14) fun t15 =>
  ifV t15 (
  some ((I 4), σ)) (
  some ((I 0), σ)))
theorem admit_Admit_DropEq (call : CallF H) (f : Nat) (a0 a1 : Value) (σ : St H) : kbody call f (codeOf P n_admit_Admit_Drop) [a0, a1] σ = admit_Admit_Drop call f a0 a1 σ := by kernel_rfl

def admit_Admit_Task (call : CallF H) (f : Nat) (a0 a1 : Value) (σ : St H) : R H :=
  bindR (vBox (.agg ⟨[(I 0), (I 0), (I 0), (.slice none 0 0)]⟩) σ) fun t4 σ =>
  bindV (vEq .nilp false a0 nilP) fun t9 =>
  ifV t9 (
  bindV (vBuild [(I 0), (I 0), (I 0), (.slice none 0 0)] []) fun t10 =>
  bindS (vStore 4 t4 t10 σ) fun σ =>
  resV [.c t4 true 4, .v ff] σ) (
  bindV (vNil a0) fun t13 =>
  bindV (vFieldAddr 5 t13) fun t14 =>
  bindV (vLoad false 1 t14 σ) fun t15 =>
  bindR (call n_seat_Seats_admit_place_Get [t15, a1] σ) fun t17 σ =>
  bindV (vExtract 0 t17) fun t18 =>
  bindV (vExtract 1 t17) fun t19 =>
  bindR (vBox (.agg ⟨[(I 0), (I 0), (I 0), (.slice none 0 0), (I 0), (.slice none 0 0)]⟩) σ) fun t6 σ =>
  bindS (vStore 6 t6 t18 σ) fun σ =>
  bindV (vFieldAddr 0 t6) fun t20 =>
  bindV (vLoad true 4 t20 σ) fun t21 =>
  bindR (call n_admit_own [t21] σ) fun t22 σ =>
  bindS (vStore 4 t4 t22 σ) fun σ =>
  resV [.c t4 true 4, .v t19] σ)
theorem admit_Admit_TaskEq (call : CallF H) (f : Nat) (a0 a1 : Value) (σ : St H) : kbody call f (codeOf P n_admit_Admit_Task) [a0, a1] σ = admit_Admit_Task call f a0 a1 σ := by kernel_rfl

def job_Active (call : CallF H) (f : Nat) (a0 : Value) (σ : St H) : R H :=
  bindR (vBox a0 σ) fun t1 σ =>
  bindV (vFieldAddr 0 t1) fun t3 =>
  bindV (vLoad false 1 t3 σ) fun t4 =>
  bindV (abin .eql t4 (I 1)) fun t5 =>
  bindV (bif kyes t5 false then vFieldAddr 0 t1 else some undefV) fun t7 =>
  bindV (bif kyes t5 false then vLoad false 1 t7 σ else some undefV) fun t8 =>
  bindV (bif kyes t5 false then abin .eql t8 (I 2) else some undefV) fun t9 =>
  bindV (vPick t5 tt t9) fun t10 =>
  bindV (bif kyes t10 false then vFieldAddr 0 t1 else some undefV) fun t12 =>
  bindV (bif kyes t10 false then vLoad false 1 t12 σ else some undefV) fun t13 =>
  bindV (bif kyes t10 false then abin .eql t13 (I 3) else some undefV) fun t14 =>
  bindV (vPick t10 tt t14) fun t15 =>
  some (t15, σ)
theorem job_ActiveEq (call : CallF H) (f : Nat) (a0 : Value) (σ : St H) : kbody call f (codeOf P n_job_Active) [a0] σ = job_Active call f a0 σ := by kernel_rfl

def job_NewJ1 (call : CallF H) (f : Nat) (t6 t7 : Value) (σ : St H) : R H :=
  bindV (vLoad true 9 t7 σ) fun t20 =>
  bindS (vStore 9 t6 t20 σ) fun σ =>
  resV [.c t6 true 9] σ
def job_New (call : CallF H) (f : Nat) (a0 a1 a2 : Value) (σ : St H) : R H :=
  bindR (vBox a0 σ) fun t3 σ =>
  bindR (vBox (.agg ⟨(rep [(I 0)] 9)⟩) σ) fun t6 σ =>
  bindV (vBuild (rep [(I 0)] 9) [(0, 1, (I 2)), (1, 1, a1), (2, 1, a2)]) fun t10 =>
  bindR (vBox (.agg ⟨(rep [(I 0)] 9)⟩) σ) fun t7 σ =>
  bindS (vStore 9 t7 t10 σ) fun σ =>
  bindV (vLoad true 2 t3 σ) fun t11 =>
  bindV (vLoad true 9 t7 σ) fun t12 =>
  bindR (call n_job_there [t11, t12] σ) fun t13 σ =>
  ifV t13 (
  bindV (vFieldAddr 1 t3) fun t14 =>
  bindV (vLoad false 1 t14 σ) fun t15 =>
  bindV (vIndexAddr 4 t15 (I 0)) fun t16 =>
  bindV (vFieldAddr 3 t16) fun t17 =>
  bindV (vLoad false 1 t17 σ) fun t18 =>
  bindV (vFieldAddr 5 t7) fun t19 =>
  bindS (vStore 1 t19 t18 σ) fun σ =>
  job_NewJ1 call f t6 t7 σ) (
  job_NewJ1 call f t6 t7 σ)
theorem job_NewEq (call : CallF H) (f : Nat) (a0 a1 a2 : Value) (σ : St H) : kbody call f (codeOf P n_job_New) [a0, a1, a2] σ = job_New call f a0 a1 a2 σ := by kernel_rfl

def slices_Clone__int64x_int64 (call : CallF H) (f : Nat) (a0 : Value) (σ : St H) : R H :=
  bindV (vEq .nils false a0 (.slice none 0 0)) fun t4 =>
  ifV t4 (
  some ((.slice none 0 0), σ)) (
  bindR (vBuildSlice 0 [] [] σ) fun t5 σ =>
  bindR (vAppend 1 8 [(I 0)] false t5 a0 σ) fun t7 σ =>
  some (t7, σ))
theorem slices_Clone__int64x_int64Eq (call : CallF H) (f : Nat) (a0 : Value) (σ : St H) : kbody call f (codeOf P n_slices_Clone__int64x_int64) [a0] σ = slices_Clone__int64x_int64 call f a0 σ := by kernel_rfl

def kernel_Kernel_ready (call : CallF H) (f : Nat) (a0 a1 : Value) (σ : St H) : R H :=
  bindV (vNil a0) fun t8 =>
  bindV (vFieldAddr 2 t8) fun t9 =>
  bindV (vLoad false 1 t9 σ) fun t10 =>
  bindV (vLookup true nilP false t10 a1 σ) fun t12 =>
  bindV (vNil a0) fun t15 =>
  bindV (vFieldAddr 0 t15) fun t16 =>
  bindV (vLoad false 1 t16 σ) fun t17 =>
  bindR (call n_admit_Admit_Plan [t17, a1] σ) fun t19 σ =>
  bindV (vExtract 0 t19) fun t20 =>
  bindV (vExtract 1 t19) fun t21 =>
  bindR (vBox (.agg ⟨[(I 0), (.slice none 0 0)]⟩) σ) fun t5 σ =>
  bindS (vStore 2 t5 t20 σ) fun σ =>
  bindV (vNil t12) fun t23 =>
  bindV (vFieldAddr 0 t23) fun t24 =>
  bindV (vFieldAddr 0 t24) fun t25 =>
  bindS (vStore 1 t25 (I 2) σ) fun σ =>
  bindV (vNil a0) fun t27 =>
  bindV (vFieldAddr 3 t27) fun t28 =>
  bindV (vLoad false 1 t28 σ) fun t29 =>
  bindV (vFieldAddr 1 t5) fun t30 =>
  bindV (vLoad false 1 t30 σ) fun t31 =>
  bindV (vNil t12) fun t33 =>
  bindV (vFieldAddr 0 t33) fun t34 =>
  bindV (vFieldAddr 4 t34) fun t35 =>
  bindV (vLoad false 1 t35 σ) fun t36 =>
  bindV (vIndexAddr 4 t31 t36) fun t37 =>
  bindV (vFieldAddr 0 t37) fun t38 =>
  bindV (vLoad false 1 t38 σ) fun t39 =>
  bindV (vIndexAddr 1 t29 t39) fun t40 =>
  bindV (vLoad false 1 t40 σ) fun t41 =>
  bindV (vLoad true 2 t5 σ) fun t43 =>
  bindV (vNil t12) fun t45 =>
  bindV (vFieldAddr 0 t45) fun t46 =>
  bindV (vLoad true 9 t46 σ) fun t47 =>
  bindR (call n_job_Deadline [t43, t47] σ) fun t48 σ =>
  kif (kand (rck (vLoad false 1 t40 σ) t41) (kand (rck (vLoad false 1 t38 σ) t39) (kand (rck (vLoad false 1 t35 σ) t36) (kand (rck (vLoad false 1 t30 σ) t31) (kand (rck (vLoad false 1 t28 σ) t29) true))))) (
  bindR (call n_bench_Bench_Ready [t41, a1, t48] σ) fun t49 σ =>
  some (.tuple ⟨[]⟩, σ))
theorem kernel_Kernel_readyEq (call : CallF H) (f : Nat) (a0 a1 : Value) (σ : St H) : kbody call f (codeOf P n_kernel_Kernel_ready) [a0, a1] σ = kernel_Kernel_ready call f a0 a1 σ := by kernel_rfl

def judge_overdone (call : CallF H) (f : Nat) (a0 : Value) (σ : St H) : R H :=
  bindR (vBox a0 σ) fun t1 σ =>
  bindV (vLoad false 1 t1 σ) fun t3 =>
  bindR (call n_kernel_Kernel_Admit [t3] σ) fun t4 σ =>
  bindR (call n_admit_Admit_Ids [t4] σ) fun t5 σ =>
  bindR (call n_slices_ContainsFunc__int_int [t5, (.func (.func n_judge_overdone_1) ⟨[]⟩ ⟨[t1]⟩)] σ) fun t7 σ =>
  some (t7, σ)
theorem judge_overdoneEq (call : CallF H) (f : Nat) (a0 : Value) (σ : St H) : kbody call f (codeOf P n_judge_overdone) [a0] σ = judge_overdone call f a0 σ := by kernel_rfl

def judge_astray (call : CallF H) (f : Nat) (a0 a1 a2 : Value) (σ : St H) : R H :=
  bindR (call n_kernel_Kernel_Job [a0, a2] σ) fun t14 σ =>
  bindV (vExtract 0 t14) fun t15 =>
  bindV (vExtract 1 t14) fun t16 =>
  bindR (vBox (.agg ⟨(rep [(I 0)] 9)⟩) σ) fun t7 σ =>
  bindS (vStore 9 t7 t15 σ) fun σ =>
  bindR (call n_kernel_Kernel_Admit [a0] σ) fun t19 σ =>
  bindR (call n_admit_Admit_Plan [t19, a2] σ) fun t21 σ =>
  bindV (vExtract 0 t21) fun t22 =>
  bindV (vExtract 1 t21) fun t23 =>
  bindR (vBox (.agg ⟨[(I 0), (.slice none 0 0)]⟩) σ) fun t9 σ =>
  bindS (vStore 2 t9 t22 σ) fun σ =>
  bindV (aun .not t16) fun t25 =>
  bindV (bif kyes t25 false then vFieldAddr 0 t7 else some undefV) fun t27 =>
  bindV (bif kyes t25 false then vLoad false 1 t27 σ else some undefV) fun t28 =>
  bindV (bif kyes t25 false then abin .eql t28 (I 1) else some undefV) fun t29 =>
  bindV (vPick t25 tt t29) fun t30 =>
  bindV (bif kyes t30 false then vFieldAddr 4 t7 else some undefV) fun t32 =>
  bindV (bif kyes t30 false then vLoad false 1 t32 σ else some undefV) fun t33 =>
  bindV (bif kyes t30 false then abin .lss t33 (I 0) else some undefV) fun t34 =>
  bindV (vPick t30 tt t34) fun t35 =>
  bindV (bif kyes t35 false then vFieldAddr 4 t7 else some undefV) fun t37 =>
  bindV (bif kyes t35 false then vLoad false 1 t37 σ else some undefV) fun t38 =>
  bindV (bif kyes t35 false then vFieldAddr 1 t9 else some undefV) fun t39 =>
  bindV (bif kyes t35 false then vLoad false 1 t39 σ else some undefV) fun t40 =>
  bindV (bif kyes t35 false then vLen .slice t40 σ else some undefV) fun t41 =>
  bindV (bif kyes t35 false then abin .geq t38 t41 else some undefV) fun t42 =>
  bindV (vPick t35 tt t42) fun t43 =>
  ifV t43 (
  some (ff, σ)) (
  bindV (vFieldAddr 1 t9) fun t44 =>
  bindV (vLoad false 1 t44 σ) fun t45 =>
  bindV (vFieldAddr 4 t7) fun t46 =>
  bindV (vLoad false 1 t46 σ) fun t47 =>
  bindV (vIndexAddr 4 t45 t47) fun t48 =>
  bindV (vFieldAddr 0 t48) fun t49 =>
  bindV (vLoad false 1 t49 σ) fun t50 =>
  bindV (abin .neq t50 a1) fun t52 =>
  some (t52, σ))
theorem judge_astrayEq (call : CallF H) (f : Nat) (a0 a1 a2 : Value) (σ : St H) : kbody call f (codeOf P n_judge_astray) [a0, a1, a2] σ = judge_astray call f a0 a1 a2 σ := by kernel_rfl

abbrev judge_doubledR : List ARes := [.tmp 2]
def judge_doubledJ1 (call : CallF H) (f : Nat) (σ : St H) : R H :=
  some (ff, σ)
def judge_doubledL2 (call : CallF H) (f : Nat) (n : Nat) : Value → Value → Value → Value → St H → R H :=
  Nat.rec (fun _ _ _ _ _ => none) (fun _ r2 => fun t3 t12 t13 t14 σ =>
  bindV (abin .lss t14 t13) fun t15 =>
  ifV t15 (
  bindV (vIndexAddr 1 t12 t14) fun t16 =>
  bindV (vLoad false 1 t16 σ) fun t17 =>
  bindV (abin .neq t17 (I 0)) fun t19 =>
  bindV (bif kyes t19 true then some t3 else some undefV) fun t21 =>
  bindV (bif kyes t19 true then some t17 else some undefV) fun t22 =>
  bindV (bif kyes t19 true then vLookup true ff false t21 t22 σ else some undefV) fun t23 =>
  bindV (vPick t19 t23 ff) fun t24 =>
  ifV t24 (
  some (tt, σ)) (
  bindS (vMapUpdate true t3 t17 tt σ) fun σ =>
  bindV (abin .add t14 (I 1)) fun t27 =>
  r2 t3 t12 t13 t27 σ)) (
  judge_doubledJ1 call f σ)) n
def judge_doubledJ3 (call : CallF H) (f : Nat) (t1 t3 : Value) (σ : St H) : R H :=
  bindV (vFieldAddr 0 t1) fun t7 =>
  bindV (vLoad false 1 t7 σ) fun t8 =>
  bindV (vFieldAddr 1 t1) fun t9 =>
  bindV (vLoad false 1 t9 σ) fun t10 =>
  bindR (vBuildSlice 2 [(.slice none 0 0), (.slice none 0 0)] [(0, 1, t8), (1, 1, t10)] σ) fun t11 σ =>
  bindR (call n_slices_Concat__int_int [t11] σ) fun t12 σ =>
  bindV (vLen .slice t12 σ) fun t13 =>
  judge_doubledL2 call f f t3 t12 t13 (I 0) σ
def judge_doubledJ4 (call : CallF H) (f : Nat) (t1 : Value) (σ : St H) : R H :=
  bindR (vMkMap σ) fun t6 σ =>
  judge_doubledJ3 call f t1 t6 σ
def judge_doubledJ5 (call : CallF H) (f : Nat) (t0 : Value) (σ : St H) : R H :=
  bindR (vBox t0 σ) fun t1 σ =>
  judge_doubledJ4 call f t1 σ
def judge_doubled (call : CallF H) (f : Nat) (a0 : Value) (σ : St H) : R H := judge_doubledJ5 call f a0 σ
theorem judge_doubledEq (call : CallF H) (f : Nat) (a0 : Value) (σ : St H) : kbody call f (codeOf P n_judge_doubled) [a0] σ = judge_doubled call f a0 σ :=
  kbody_of (rs := judge_doubledR) (by kernel_rfl) (by kernel_rfl) (by kernel_rfl) (seq_eq (by kernel_rfl) (seq_eq (by kernel_rfl) (seq_eq (by kernel_rfl) (leaf (B := fun e σ => judge_doubledJ1 call f σ) (by kernel_rfl))
  (seq_eq (by kernel_rfl) (block_eq (by kernel_rfl) (loop_eq (fun n e σ => judge_doubledL2 call f n (e 3) (e 12) (e 13) (e 14) σ) (by kernel_rfl) (by kernel_rfl) (fun n2 => (leaf (by kernel_rfl)))))
  (leaf (B := fun e σ => judge_doubledJ3 call f (e 1) (e 3) σ) (by kernel_rfl))))
  (leaf (B := fun e σ => judge_doubledJ4 call f (e 1) σ) (by kernel_rfl)))
  (leaf (B := fun e σ => judge_doubledJ5 call f (e 0) σ) (by kernel_rfl))) (by kernel_rfl)

end
end Go.G

namespace Go.G
open Go Go.Ax
set_option maxRecDepth 100000
set_option linter.unusedVariables false
variable {H : HeapI}
noncomputable section
def admit_Admit_Ids (call : CallF H) (f : Nat) (a0 : Value) (σ : St H) : R H :=
  bindV (vEq .nilp false a0 nilP) fun t4 =>
  ifV t4 (
  some ((.slice none 0 0), σ)) (
  bindV (vNil a0) fun t6 =>
  bindV (vFieldAddr 5 t6) fun t7 =>
  bindV (vLoad false 1 t7 σ) fun t8 =>
  bindR (call n_seat_Seats_admit_place_Ids [t8] σ) fun t9 σ =>
  some (t9, σ))
theorem admit_Admit_IdsEq (call : CallF H) (f : Nat) (a0 : Value) (σ : St H) : kbody call f (codeOf P n_admit_Admit_Ids) [a0] σ = admit_Admit_Ids call f a0 σ := by kernel_rfl

def judge_ended (call : CallF H) (f : Nat) (a0 : Value) (σ : St H) : R H :=
  bindR (vBox a0 σ) fun t1 σ =>
  bindV (vFieldAddr 0 t1) fun t3 =>
  bindV (vLoad false 1 t3 σ) fun t4 =>
  bindV (abin .eql t4 (I 4)) fun t5 =>
  bindV (bif kyes t5 false then vFieldAddr 0 t1 else some undefV) fun t7 =>
  bindV (bif kyes t5 false then vLoad false 1 t7 σ else some undefV) fun t8 =>
  bindV (bif kyes t5 false then abin .eql t8 (I 5) else some undefV) fun t9 =>
  bindV (vPick t5 tt t9) fun t10 =>
  some (t10, σ)
theorem judge_endedEq (call : CallF H) (f : Nat) (a0 : Value) (σ : St H) : kbody call f (codeOf P n_judge_ended) [a0] σ = judge_ended call f a0 σ := by kernel_rfl

def play_Play_tickJ1 (call : CallF H) (f : Nat) (t4 t5 : Value) (σ : St H) : R H :=
  bindV (vLoad true 2 t5 σ) fun t43 =>
  bindV (vBuild [(I 0), (I 0), (.slice none 0 0), (.slice none 0 0), (I 0)] [(2, 2, t43)]) fun t44 =>
  bindS (vStore 5 t4 t44 σ) fun σ =>
  resV [.c t4 true 5] σ
def play_Play_tick (call : CallF H) (f : Nat) (a0 a1 : Value) (σ : St H) : R H :=
  bindR (vBox a1 σ) fun t3 σ =>
  bindR (vBox (.agg ⟨[(I 0), (I 0), (.slice none 0 0), (.slice none 0 0), (I 0)]⟩) σ) fun t4 σ =>
  bindV (vNil a0) fun t10 =>
  bindV (vFieldAddr 0 t10) fun t11 =>
  bindV (vLoad false 1 t11 σ) fun t12 =>
  bindV (vFieldAddr 8 t3) fun t13 =>
  bindV (vLoad false 1 t13 σ) fun t14 =>
  bindV (vFieldAddr 9 t3) fun t15 =>
  bindV (vLoad false 1 t15 σ) fun t16 =>
  bindR (call n_kernel_Kernel_Tick [t12, t14, t16] σ) fun t17 σ =>
  bindV (vExtract 0 t17) fun t18 =>
  bindV (vExtract 1 t17) fun t19 =>
  bindR (vBox (.agg ⟨[(.slice none 0 0), (.slice none 0 0)]⟩) σ) fun t5 σ =>
  bindS (vStore 2 t5 t18 σ) fun σ =>
  bindV (abin .neq t19 (I 0)) fun t21 =>
  ifV t21 (
  bindV (vBuild [(I 0), (I 0), (.slice none 0 0), (.slice none 0 0), (I 0)] [(0, 1, t19)]) fun t23 =>
  bindS (vStore 5 t4 t23 σ) fun σ =>
  resV [.c t4 true 5] σ) (
  bindV (vNil a0) fun t25 =>
  bindV (vFieldAddr 1 t25) fun t26 =>
  bindV (vLoad false 1 t26 σ) fun t27 =>
  bindV (vNil a0) fun t29 =>
  bindV (vFieldAddr 0 t29) fun t30 =>
  bindV (vLoad false 1 t30 σ) fun t31 =>
  bindV (vLoad true 2 t5 σ) fun t32 =>
  bindR (call n_judge_Judge_Look [t27, t31, t32] σ) fun t33 σ =>
  bindV (vNil a0) fun t35 =>
  bindV (vFieldAddr 2 t35) fun t36 =>
  bindV (vLoad false 1 t36 σ) fun t37 =>
  bindV (abin .eql t37 (I 0)) fun t38 =>
  ifV t38 (
  bindV (vNil a0) fun t41 =>
  bindV (vFieldAddr 2 t41) fun t42 =>
  bindS (vStore 1 t42 t33 σ) fun σ =>
  play_Play_tickJ1 call f t4 t5 σ) (
  play_Play_tickJ1 call f t4 t5 σ))
theorem play_Play_tickEq (call : CallF H) (f : Nat) (a0 a1 : Value) (σ : St H) : kbody call f (codeOf P n_play_Play_tick) [a0, a1] σ = play_Play_tick call f a0 a1 σ := by kernel_rfl

def admit_New (call : CallF H) (f : Nat) (a0 : Value) (σ : St H) : R H :=
  bindR (vBox a0 σ) fun t1 σ =>
  bindV (vLoad true 5 t1 σ) fun t3 =>
  bindR (call n_rule_Config [t3] σ) fun t4 σ =>
  bindV (aun .not t4) fun t5 =>
  ifV t5 (
  some (nilP, σ)) (
  bindV (vFieldAddr 4 t1) fun t6 =>
  bindV (vLoad false 1 t6 σ) fun t7 =>
  bindR (call n_slices_Clone__int_int [t7] σ) fun t8 σ =>
  bindV (vFieldAddr 4 t1) fun t9 =>
  bindS (vStore 1 t9 t8 σ) fun σ =>
  bindV (vLoad true 5 t1 σ) fun t10 =>
  bindR (call n_seat_New_admit_place [(I 12)] σ) fun t11 σ =>
  kif (kand (rck (vLoad true 5 t1 σ) t10) true) (
  bindV (vBuild [(I 0), (I 0), (I 0), (I 0), (.slice none 0 0), nilP] [(0, 5, t10), (5, 1, t11)]) fun t12 =>
  bindR (vBox t12 σ) fun t13 σ =>
  some (t13, σ)))
theorem admit_NewEq (call : CallF H) (f : Nat) (a0 : Value) (σ : St H) : kbody call f (codeOf P n_admit_New) [a0] σ = admit_New call f a0 σ := by kernel_rfl

def mail_New (call : CallF H) (f : Nat) (σ : St H) : R H :=
  bindR (call n_box_New_api_Mail [(I 12)] σ) fun t1 σ =>
  bindR (call n_line_New_int [(I 12)] σ) fun t2 σ =>
  bindR (vMkMap σ) fun t3 σ =>
  bindV (vBuild [nilP, nilP, (.map none)] [(0, 1, t1), (1, 1, t2), (2, 1, t3)]) fun t4 =>
  bindR (vBox t4 σ) fun t5 σ =>
  some (t5, σ)
theorem mail_NewEq (call : CallF H) (f : Nat) (σ : St H) : kbody call f (codeOf P n_mail_New) [] σ = mail_New call f σ := by kernel_rfl

def bench_New (call : CallF H) (f : Nat) (σ : St H) : R H :=
  bindR (call n_heap_New_int [(I 1000)] σ) fun t1 σ =>
  bindV (vBuild [nilP] [(0, 1, t1)]) fun t2 =>
  bindR (vBox t2 σ) fun t3 σ =>
  some (t3, σ)
theorem bench_NewEq (call : CallF H) (f : Nat) (σ : St H) : kbody call f (codeOf P n_bench_New) [] σ = bench_New call f σ := by kernel_rfl

def agent_New (call : CallF H) (f : Nat) (σ : St H) : R H :=
  bindR (call n_ring_New_agent_request [(I 12)] σ) fun t1 σ =>
  bindV (vBuild [nilP, (I 0), (I 0)] [(0, 1, t1)]) fun t2 =>
  bindR (vBox t2 σ) fun t3 σ =>
  some (t3, σ)
theorem agent_NewEq (call : CallF H) (f : Nat) (σ : St H) : kbody call f (codeOf P n_agent_New) [] σ = agent_New call f σ := by kernel_rfl

def law23x_Begun (call : CallF H) (f : Nat) (σ : St H) : R H :=
  bindR (call n_law23x_begun [] σ) fun t1 σ =>
  some (t1, σ)
theorem law23x_BegunEq (call : CallF H) (f : Nat) (σ : St H) : kbody call f (codeOf P n_law23x_Begun) [] σ = law23x_Begun call f σ := by kernel_rfl

def seat_Seats_admit_place_Get (call : CallF H) (f : Nat) (a0 a1 : Value) (σ : St H) : R H :=
  bindR (vBox (.agg ⟨[(I 0), (I 0), (I 0), (.slice none 0 0), (I 0), (.slice none 0 0)]⟩) σ) fun t4 σ =>
  bindR (call n_seat_Seats_admit_place_at [a0, a1] σ) fun t10 σ =>
  bindV (vEq .nilp true t10 nilP) fun t12 =>
  ifV t12 (
  bindV (vNil t10) fun t14 =>
  bindV (vFieldAddr 0 t14) fun t15 =>
  bindV (vLoad true 6 t15 σ) fun t16 =>
  bindS (vStore 6 t4 t16 σ) fun σ =>
  resV [.c t4 true 6, .v tt] σ) (
  bindR (vBox (.agg ⟨[(I 0), (I 0), (I 0), (.slice none 0 0), (I 0), (.slice none 0 0)]⟩) σ) fun t7 σ =>
  bindV (vLoad true 6 t7 σ) fun t17 =>
  bindS (vStore 6 t4 t17 σ) fun σ =>
  resV [.c t4 true 6, .v ff] σ)
theorem seat_Seats_admit_place_GetEq (call : CallF H) (f : Nat) (a0 a1 : Value) (σ : St H) : kbody call f (codeOf P n_seat_Seats_admit_place_Get) [a0, a1] σ = seat_Seats_admit_place_Get call f a0 a1 σ := by kernel_rfl

def slices_Clone__api_Piece_api_Piece (call : CallF H) (f : Nat) (a0 : Value) (σ : St H) : R H :=
  bindV (vEq .nils false a0 (.slice none 0 0)) fun t4 =>
  ifV t4 (
  some ((.slice none 0 0), σ)) (
  bindR (vBuildSlice 0 [] [] σ) fun t5 σ =>
  bindR (vAppend 4 32 (rep [(I 0)] 4) false t5 a0 σ) fun t7 σ =>
  some (t7, σ))
theorem slices_Clone__api_Piece_api_PieceEq (call : CallF H) (f : Nat) (a0 : Value) (σ : St H) : kbody call f (codeOf P n_slices_Clone__api_Piece_api_Piece) [a0] σ = slices_Clone__api_Piece_api_Piece call f a0 σ := by kernel_rfl

abbrev rule_TaskR : List ARes := [.tmp 4]
def rule_TaskJ1 (call : CallF H) (f : Nat) (σ : St H) : R H :=
  some (tt, σ)
def rule_TaskL2 (call : CallF H) (f : Nat) (n : Nat) : Value → Value → Value → Value → Value → Value → St H → R H :=
  Nat.rec (fun _ _ _ _ _ _ _ => none) (fun _ r2 => fun t2 t3 t5 t37 t38 t39 σ =>
  bindV (abin .lss t39 t38) fun t40 =>
  ifV t40 (
  bindV (vIndexAddr 3 t37 t39) fun t41 =>
  bindV (vLoad true 3 t41 σ) fun t42 =>
  bindR (vBox (.agg ⟨[(I 0), (I 0), (I 0)]⟩) σ) fun t7 σ =>
  bindS (vStore 3 t7 t42 σ) fun σ =>
  bindV (vFieldAddr 0 t7) fun t43 =>
  bindV (vLoad false 1 t43 σ) fun t44 =>
  bindV (abin .lss t44 (I 0)) fun t45 =>
  bindV (bif kyes t45 false then vFieldAddr 0 t7 else some undefV) fun t47 =>
  bindV (bif kyes t45 false then vLoad false 1 t47 σ else some undefV) fun t48 =>
  bindV (bif kyes t45 false then vFieldAddr 4 t2 else some undefV) fun t49 =>
  bindV (bif kyes t45 false then vLoad false 1 t49 σ else some undefV) fun t50 =>
  bindV (bif kyes t45 false then vLen .slice t50 σ else some undefV) fun t51 =>
  bindV (bif kyes t45 false then abin .geq t48 t51 else some undefV) fun t52 =>
  bindV (vPick t45 tt t52) fun t53 =>
  bindV (bif kyes t53 false then vFieldAddr 2 t7 else some undefV) fun t55 =>
  bindV (bif kyes t53 false then vLoad false 1 t55 σ else some undefV) fun t56 =>
  bindR (bif kyes t53 false then call n_rule_within [t56, (I 1), (I 200)] σ else some (undefV, σ)) fun t57 σ =>
  bindV (bif kyes t53 false then aun .not t57 else some undefV) fun t58 =>
  bindV (vPick t53 tt t58) fun t59 =>
  bindV (bif kyes t59 false then vFieldAddr 1 t7 else some undefV) fun t61 =>
  bindV (bif kyes t59 false then vLoad false 1 t61 σ else some undefV) fun t62 =>
  bindV (bif kyes t59 false then some t5 else some undefV) fun t63 =>
  bindV (bif kyes t59 false then abin .leq t62 t63 else some undefV) fun t64 =>
  bindV (vPick t59 tt t64) fun t65 =>
  bindV (bif kyes t65 false then vFieldAddr 1 t7 else some undefV) fun t67 =>
  bindV (bif kyes t65 false then vLoad false 1 t67 σ else some undefV) fun t68 =>
  bindV (bif kyes t65 false then vFieldAddr 0 t3 else some undefV) fun t69 =>
  bindV (bif kyes t65 false then vLoad false 1 t69 σ else some undefV) fun t70 =>
  bindV (bif kyes t65 false then abin .geq t68 t70 else some undefV) fun t71 =>
  bindV (vPick t65 tt t71) fun t72 =>
  ifV t72 (
  some (ff, σ)) (
  bindV (vFieldAddr 1 t7) fun t73 =>
  bindV (vLoad false 1 t73 σ) fun t74 =>
  bindV (abin .add t39 (I 1)) fun t75 =>
  r2 t2 t3 t74 t37 t38 t75 σ)) (
  rule_TaskJ1 call f σ)) n
def rule_TaskJ3 (call : CallF H) (f : Nat) (t2 t3 t5 : Value) (σ : St H) : R H :=
  bindV (vFieldAddr 3 t3) fun t36 =>
  bindV (vLoad false 1 t36 σ) fun t37 =>
  bindV (vLen .slice t37 σ) fun t38 =>
  rule_TaskL2 call f f t2 t3 t5 t37 t38 (I 0) σ
def rule_TaskJ4 (call : CallF H) (f : Nat) (t2 t3 : Value) (σ : St H) : R H :=
  rule_TaskJ3 call f t2 t3 (I 0) σ
def rule_TaskJ5 (call : CallF H) (f : Nat) (t2 t3 : Value) (σ : St H) : R H :=
  bindV (vFieldAddr 0 t3) fun t8 =>
  bindV (vLoad false 1 t8 σ) fun t9 =>
  bindV (abin .lss t9 (I 1)) fun t10 =>
  bindV (bif kyes t10 false then vFieldAddr 0 t3 else some undefV) fun t12 =>
  bindV (bif kyes t10 false then vLoad false 1 t12 σ else some undefV) fun t13 =>
  bindV (bif kyes t10 false then vFieldAddr 1 t3 else some undefV) fun t14 =>
  bindV (bif kyes t10 false then vLoad false 1 t14 σ else some undefV) fun t15 =>
  bindV (bif kyes t10 false then abin .gtr t13 t15 else some undefV) fun t16 =>
  bindV (vPick t10 tt t16) fun t17 =>
  bindV (bif kyes t17 false then vFieldAddr 1 t3 else some undefV) fun t19 =>
  bindV (bif kyes t17 false then vLoad false 1 t19 σ else some undefV) fun t20 =>
  bindV (bif kyes t17 false then vFieldAddr 2 t3 else some undefV) fun t21 =>
  bindV (bif kyes t17 false then vLoad false 1 t21 σ else some undefV) fun t22 =>
  bindV (bif kyes t17 false then abin .gtr t20 t22 else some undefV) fun t23 =>
  bindV (vPick t17 tt t23) fun t24 =>
  bindV (bif kyes t24 false then vFieldAddr 2 t3 else some undefV) fun t26 =>
  bindV (bif kyes t24 false then vLoad false 1 t26 σ else some undefV) fun t27 =>
  bindV (bif kyes t24 false then abin .gtr t27 (I 200) else some undefV) fun t28 =>
  bindV (vPick t24 tt t28) fun t29 =>
  bindV (bif kyes t29 false then vFieldAddr 3 t3 else some undefV) fun t31 =>
  bindV (bif kyes t29 false then vLoad false 1 t31 σ else some undefV) fun t32 =>
  bindV (bif kyes t29 false then vLen .slice t32 σ else some undefV) fun t33 =>
  bindV (bif kyes t29 false then abin .gtr t33 (I 2) else some undefV) fun t34 =>
  bindV (vPick t29 tt t34) fun t35 =>
  ifV t35 (
  some (ff, σ)) (
  rule_TaskJ4 call f t2 t3 σ)
def rule_TaskJ6 (call : CallF H) (f : Nat) (t0 t1 : Value) (σ : St H) : R H :=
  bindR (vBox t0 σ) fun t2 σ =>
  bindR (vBox t1 σ) fun t3 σ =>
  rule_TaskJ5 call f t2 t3 σ
def rule_Task (call : CallF H) (f : Nat) (a0 a1 : Value) (σ : St H) : R H := rule_TaskJ6 call f a0 a1 σ
theorem rule_TaskEq (call : CallF H) (f : Nat) (a0 a1 : Value) (σ : St H) : kbody call f (codeOf P n_rule_Task) [a0, a1] σ = rule_Task call f a0 a1 σ :=
  kbody_of (rs := rule_TaskR) (by kernel_rfl) (by kernel_rfl) (by kernel_rfl) (seq_eq (by kernel_rfl) (seq_eq (by kernel_rfl) (seq_eq (by kernel_rfl) (seq_eq (by kernel_rfl) (leaf (B := fun e σ => rule_TaskJ1 call f σ) (by kernel_rfl))
  (seq_eq (by kernel_rfl) (block_eq (by kernel_rfl) (loop_eq (fun n e σ => rule_TaskL2 call f n (e 2) (e 3) (e 5) (e 37) (e 38) (e 39) σ) (by kernel_rfl) (by kernel_rfl) (fun n2 => (leaf (by kernel_rfl)))))
  (leaf (B := fun e σ => rule_TaskJ3 call f (e 2) (e 3) (e 5) σ) (by kernel_rfl))))
  (leaf (B := fun e σ => rule_TaskJ4 call f (e 2) (e 3) σ) (by kernel_rfl)))
  (leaf (B := fun e σ => rule_TaskJ5 call f (e 2) (e 3) σ) (by kernel_rfl)))
  (leaf (B := fun e σ => rule_TaskJ6 call f (e 0) (e 1) σ) (by kernel_rfl))) (by kernel_rfl)

abbrev admit_Admit_allR : List ARes := [.tmp 2, .tmp 3]
def admit_Admit_allJ1 (call : CallF H) (f : Nat) (t4 t5 : Value) (σ : St H) : R H :=
  some (.tuple ⟨[t4, t5]⟩, σ)
def admit_Admit_allL2 (call : CallF H) (f : Nat) (n : Nat) : Value → Value → Value → Value → Value → Value → St H → R H :=
  Nat.rec (fun _ _ _ _ _ _ _ => none) (fun _ r2 => fun t0 t4 t5 t14 t15 t16 σ =>
  bindV (abin .lss t16 t15) fun t17 =>
  ifV t17 (
  bindV (vIndexAddr 1 t14 t16) fun t18 =>
  bindV (vLoad false 1 t18 σ) fun t19 =>
  bindV (vNil t0) fun t22 =>
  bindV (vFieldAddr 5 t22) fun t23 =>
  bindV (vLoad false 1 t23 σ) fun t24 =>
  bindR (call n_seat_Seats_admit_place_Get [t24, t19] σ) fun t26 σ =>
  bindV (vExtract 0 t26) fun t27 =>
  bindV (vExtract 1 t26) fun t28 =>
  bindR (vBox (.agg ⟨[(I 0), (I 0), (I 0), (.slice none 0 0), (I 0), (.slice none 0 0)]⟩) σ) fun t8 σ =>
  bindS (vStore 6 t8 t27 σ) fun σ =>
  bindV (vFieldAddr 0 t8) fun t30 =>
  bindV (vLoad true 4 t30 σ) fun t31 =>
  bindV (vFieldAddr 4 t8) fun t35 =>
  bindV (vLoad true 2 t35 σ) fun t36 =>
  bindR (vBuildSlice 1 [(I 0), (I 0), (I 0), (.slice none 0 0)] [(0, 4, t31)] σ) fun t32 σ =>
  bindR (vAppend 4 48 [(I 0), (I 0), (I 0), (.slice none 0 0)] false t4 t32 σ) fun t33 σ =>
  kif (kand (rck (vLoad true 2 t35 σ) t36) true) (
  bindR (vBuildSlice 1 [(I 0), (.slice none 0 0)] [(0, 2, t36)] σ) fun t37 σ =>
  bindR (vAppend 2 32 [(I 0), (.slice none 0 0)] false t5 t37 σ) fun t38 σ =>
  bindV (abin .add t16 (I 1)) fun t39 =>
  r2 t0 t33 t38 t14 t15 t39 σ)) (
  admit_Admit_allJ1 call f t4 t5 σ)) n
def admit_Admit_allJ3 (call : CallF H) (f : Nat) (t0 t4 t5 : Value) (σ : St H) : R H :=
  bindV (vNil t0) fun t11 =>
  bindV (vFieldAddr 5 t11) fun t12 =>
  bindV (vLoad false 1 t12 σ) fun t13 =>
  bindR (call n_seat_Seats_admit_place_Ids [t13] σ) fun t14 σ =>
  bindV (vLen .slice t14 σ) fun t15 =>
  admit_Admit_allL2 call f f t0 t4 t5 t14 t15 (I 0) σ
def admit_Admit_allJ4 (call : CallF H) (f : Nat) (t0 t4 : Value) (σ : St H) : R H :=
  admit_Admit_allJ3 call f t0 t4 (.slice none 0 0) σ
def admit_Admit_allJ5 (call : CallF H) (f : Nat) (t0 : Value) (σ : St H) : R H :=
  admit_Admit_allJ4 call f t0 (.slice none 0 0) σ
def admit_Admit_allJ6 (call : CallF H) (f : Nat) (t0 : Value) (σ : St H) : R H :=
  admit_Admit_allJ5 call f t0 σ
def admit_Admit_all (call : CallF H) (f : Nat) (a0 : Value) (σ : St H) : R H := admit_Admit_allJ6 call f a0 σ
theorem admit_Admit_allEq (call : CallF H) (f : Nat) (a0 : Value) (σ : St H) : kbody call f (codeOf P n_admit_Admit_all) [a0] σ = admit_Admit_all call f a0 σ :=
  kbody_of (rs := admit_Admit_allR) (by kernel_rfl) (by kernel_rfl) (by kernel_rfl) (seq_eq (by kernel_rfl) (seq_eq (by kernel_rfl) (seq_eq (by kernel_rfl) (seq_eq (by kernel_rfl) (leaf (B := fun e σ => admit_Admit_allJ1 call f (e 4) (e 5) σ) (by kernel_rfl))
  (seq_eq (by kernel_rfl) (block_eq (by kernel_rfl) (loop_eq (fun n e σ => admit_Admit_allL2 call f n (e 0) (e 4) (e 5) (e 14) (e 15) (e 16) σ) (by kernel_rfl) (by kernel_rfl) (fun n2 => (leaf (by kernel_rfl)))))
  (leaf (B := fun e σ => admit_Admit_allJ3 call f (e 0) (e 4) (e 5) σ) (by kernel_rfl))))
  (leaf (B := fun e σ => admit_Admit_allJ4 call f (e 0) (e 4) σ) (by kernel_rfl)))
  (leaf (B := fun e σ => admit_Admit_allJ5 call f (e 0) σ) (by kernel_rfl)))
  (leaf (B := fun e σ => admit_Admit_allJ6 call f (e 0) σ) (by kernel_rfl))) (by kernel_rfl)

abbrev admit_Admit_besideR : List ARes := [.tmp 6, .tmp 7]
def admit_Admit_besideJ1 (call : CallF H) (f : Nat) (t8 : Value) (σ : St H) : R H :=
  bindR (call n_slices_ContainsFunc___api_Load__api_Load [t8, (.func (.func n_admit_Admit_beside_1) #[] #[])] σ) fun t53 σ =>
  bindV (aun .not t53) fun t54 =>
  some (.tuple ⟨[t8, t54]⟩, σ)
def admit_Admit_besideJ3 (call : CallF H) (f : Nat) (r2 : Value → Value → Value → Value → Value → Value → St H → R H) (t0 t1 t8 t19 t20 t21 : Value) (σ : St H) : R H :=
  bindV (abin .add t21 (I 1)) fun t50 =>
  r2 t0 t1 t8 t19 t20 t50 σ
def admit_Admit_besideL4 (call : CallF H) (f : Nat) (r2 : Value → Value → Value → Value → Value → Value → St H → R H) (n : Nat) : Value → Value → Value → Value → Value → Value → Value → Value → Value → St H → R H :=
  Nat.rec (fun _ _ _ _ _ _ _ _ _ _ => none) (fun _ r4 => fun t0 t1 t8 t19 t20 t21 t33 t34 t35 σ =>
  bindV (abin .lss t35 t34) fun t36 =>
  ifV t36 (
  bindV (vIndexAddr 1 t33 t35) fun t38 =>
  bindV (vLoad false 1 t38 σ) fun t39 =>
  bindV (vIndexAddr 1 t8 t35) fun t44 =>
  bindV (vLoad false 1 t44 σ) fun t45 =>
  bindR (vAppend 3 24 [(I 0), (I 0), (I 0)] false t45 t39 σ) fun t47 σ =>
  bindV (vIndexAddr 1 t8 t35) fun t48 =>
  bindS (vStore 1 t48 t47 σ) fun σ =>
  bindV (abin .add t35 (I 1)) fun t49 =>
  r4 t0 t1 t8 t19 t20 t21 t33 t34 t49 σ) (
  admit_Admit_besideJ3 call f r2 t0 t1 t8 t19 t20 t21 σ)) n
def admit_Admit_besideJ5 (call : CallF H) (f : Nat) (r2 : Value → Value → Value → Value → Value → Value → St H → R H) (t0 t1 t8 t9 t10 t19 t20 t21 : Value) (σ : St H) : R H :=
  bindV (vNil t0) fun t27 =>
  bindV (vFieldAddr 0 t27) fun t28 =>
  bindV (vLoad true 5 t28 σ) fun t29 =>
  bindV (vLoad true 2 t10 σ) fun t32 =>
  bindR (call n_load_Of [t29, t1, t9, t32] σ) fun t33 σ =>
  bindV (vLen .slice t33 σ) fun t34 =>
  admit_Admit_besideL4 call f r2 f t0 t1 t8 t19 t20 t21 t33 t34 (I 0) σ
def admit_Admit_besideJ6 (call : CallF H) (f : Nat) (r2 : Value → Value → Value → Value → Value → Value → St H → R H) (t0 t1 t8 t19 t20 t21 : Value) (σ : St H) : R H :=
  bindV (vIndexAddr 2 t19 t21) fun t24 =>
  bindV (vLoad true 2 t24 σ) fun t25 =>
  bindR (vBox (.agg ⟨[(I 0), (.slice none 0 0)]⟩) σ) fun t10 σ =>
  bindS (vStore 2 t10 t25 σ) fun σ =>
  admit_Admit_besideJ5 call f r2 t0 t1 t8 t21 t10 t19 t20 t21 σ
def admit_Admit_besideJ7 (call : CallF H) (f : Nat) (r2 : Value → Value → Value → Value → Value → Value → St H → R H) (t0 t1 t8 t19 t20 t21 t22 : Value) (σ : St H) : R H :=
  ifV t22 (
  admit_Admit_besideJ6 call f r2 t0 t1 t8 t19 t20 t21 σ) (
  admit_Admit_besideJ1 call f t8 σ)
def admit_Admit_besideJ8 (call : CallF H) (f : Nat) (r2 : Value → Value → Value → Value → Value → Value → St H → R H) (t0 t1 t8 t19 t20 t21 : Value) (σ : St H) : R H :=
  bindV (abin .lss t21 t20) fun t22 =>
  admit_Admit_besideJ7 call f r2 t0 t1 t8 t19 t20 t21 t22 σ
def admit_Admit_besideL2 (call : CallF H) (f : Nat) (n : Nat) : Value → Value → Value → Value → Value → Value → St H → R H :=
  Nat.rec (fun _ _ _ _ _ _ _ => none) (fun _ r2 => fun t0 t1 t8 t19 t20 t21 σ =>
  admit_Admit_besideJ8 call f r2 t0 t1 t8 t19 t20 t21 σ) n
def admit_Admit_besideJ9 (call : CallF H) (f : Nat) (t0 t1 t2 t8 : Value) (σ : St H) : R H :=
  bindV (vLen .slice t2 σ) fun t20 =>
  admit_Admit_besideL2 call f f t0 t1 t8 t2 t20 (I 0) σ
def admit_Admit_besideJ10 (call : CallF H) (f : Nat) (t0 t1 t2 : Value) (σ : St H) : R H :=
  bindV (vNil t0) fun t14 =>
  bindV (vFieldAddr 0 t14) fun t15 =>
  bindV (vFieldAddr 0 t15) fun t16 =>
  bindV (vLoad false 1 t16 σ) fun t17 =>
  bindR (vMkSlice 24 [(.slice none 0 0)] t17 t17 σ) fun t18 σ =>
  admit_Admit_besideJ9 call f t0 t1 t2 t18 σ
def admit_Admit_besideJ11 (call : CallF H) (f : Nat) (t0 t1 t2 : Value) (σ : St H) : R H :=
  admit_Admit_besideJ10 call f t0 t1 t2 σ
def admit_Admit_beside (call : CallF H) (f : Nat) (a0 a1 a2 : Value) (σ : St H) : R H := admit_Admit_besideJ11 call f a0 a1 a2 σ
theorem admit_Admit_besideEq (call : CallF H) (f : Nat) (a0 a1 a2 : Value) (σ : St H) : kbody call f (codeOf P n_admit_Admit_beside) [a0, a1, a2] σ = admit_Admit_beside call f a0 a1 a2 σ :=
  kbody_of (rs := admit_Admit_besideR) (by kernel_rfl) (by kernel_rfl) (by kernel_rfl) (seq_eq (by kernel_rfl) (seq_eq (by kernel_rfl) (seq_eq (by kernel_rfl) (leaf (B := fun e σ => admit_Admit_besideJ1 call f (e 8) σ) (by kernel_rfl))
  (seq_eq (by kernel_rfl) (block_eq (by kernel_rfl) (loop_eq (fun n e σ => admit_Admit_besideL2 call f n (e 0) (e 1) (e 8) (e 19) (e 20) (e 21) σ) (by kernel_rfl) (by kernel_rfl) (fun n2 => (tr (seq_eq (by kernel_rfl) (seq_eq (by kernel_rfl) (seq_eq (by kernel_rfl) (leaf (B := fun e σ => admit_Admit_besideJ3 call f (admit_Admit_besideL2 call f n2) (e 0) (e 1) (e 8) (e 19) (e 20) (e 21) σ) (by kernel_rfl))
  (block_eq (by kernel_rfl) (seq_eq (by kernel_rfl) (seq_eq (by kernel_rfl) (block_eq (by kernel_rfl) (loop_eq (fun n e σ => admit_Admit_besideL4 call f (admit_Admit_besideL2 call f n2) n (e 0) (e 1) (e 8) (e 19) (e 20) (e 21) (e 33) (e 34) (e 35) σ) (by kernel_rfl) (by kernel_rfl) (fun n4 => (leaf (by kernel_rfl)))))
  (leaf (B := fun e σ => admit_Admit_besideJ5 call f (admit_Admit_besideL2 call f n2) (e 0) (e 1) (e 8) (e 9) (e 10) (e 19) (e 20) (e 21) σ) (by kernel_rfl)))
  (leaf (B := fun e σ => admit_Admit_besideJ6 call f (admit_Admit_besideL2 call f n2) (e 0) (e 1) (e 8) (e 19) (e 20) (e 21) σ) (by kernel_rfl)))))
  (leaf (B := fun e σ => admit_Admit_besideJ7 call f (admit_Admit_besideL2 call f n2) (e 0) (e 1) (e 8) (e 19) (e 20) (e 21) (e 22) σ) (by kernel_rfl)))
  (leaf (B := fun e σ => admit_Admit_besideJ8 call f (admit_Admit_besideL2 call f n2) (e 0) (e 1) (e 8) (e 19) (e 20) (e 21) σ) (by kernel_rfl))) (by kernel_rfl)))))
  (leaf (B := fun e σ => admit_Admit_besideJ9 call f (e 0) (e 1) (e 2) (e 8) σ) (by kernel_rfl))))
  (leaf (B := fun e σ => admit_Admit_besideJ10 call f (e 0) (e 1) (e 2) σ) (by kernel_rfl)))
  (leaf (B := fun e σ => admit_Admit_besideJ11 call f (e 0) (e 1) (e 2) σ) (by kernel_rfl))) (by kernel_rfl)

def admit_Admit_plans (call : CallF H) (f : Nat) (a0 a1 a2 a3 : Value) (σ : St H) : R H :=
  bindR (vBox a2 σ) fun t6 σ =>
  bindR (vBox (.agg ⟨[(I 0), (.slice none 0 0)]⟩) σ) fun t8 σ =>
  bindV (vLoad true 4 t6 σ) fun t14 =>
  bindR (call n_whole_Place [a1, t14, a3] σ) fun t16 σ =>
  bindV (vExtract 0 t16) fun t17 =>
  bindV (vExtract 1 t16) fun t18 =>
  bindR (vBox (.agg ⟨[(I 0), (.slice none 0 0)]⟩) σ) fun t10 σ =>
  bindS (vStore 2 t10 t17 σ) fun σ =>
  bindV (bif kyes t18 false then vFieldAddr 3 t6 else some undefV) fun t21 =>
  bindV (bif kyes t18 false then vLoad false 1 t21 σ else some undefV) fun t22 =>
  bindV (bif kyes t18 false then vLen .slice t22 σ else some undefV) fun t23 =>
  bindV (bif kyes t18 false then abin .gtr t23 (I 0) else some undefV) fun t24 =>
  bindV (vPick t18 tt t24) fun t25 =>
  ifV t25 (
  bindV (vLoad true 2 t10 σ) fun t26 =>
  bindS (vStore 2 t8 t26 σ) fun σ =>
  resV [.c t8 true 2, .v t18] σ) (
  bindV (vNil a0) fun t30 =>
  bindV (vFieldAddr 0 t30) fun t31 =>
  bindV (vLoad true 5 t31 σ) fun t32 =>
  bindV (vLoad true 4 t6 σ) fun t34 =>
  bindR (call n_window_Split [t32, a1, t34] σ) fun t35 σ =>
  bindV (vExtract 0 t35) fun t36 =>
  bindV (vExtract 1 t35) fun t37 =>
  bindS (vStore 2 t10 t36 σ) fun σ =>
  ifV t37 (
  bindV (vLoad true 2 t10 σ) fun t39 =>
  bindS (vStore 2 t8 t39 σ) fun σ =>
  resV [.c t8 true 2, .v tt] σ) (
  bindV (vNil a0) fun t41 =>
  bindV (vFieldAddr 0 t41) fun t42 =>
  bindV (vLoad true 5 t42 σ) fun t43 =>
  bindV (vLoad true 4 t6 σ) fun t45 =>
  bindR (call n_zero_Split [t43, a1, t45] σ) fun t46 σ =>
  bindV (vExtract 0 t46) fun t47 =>
  bindV (vExtract 1 t46) fun t48 =>
  bindS (vStore 2 t8 t47 σ) fun σ =>
  resV [.c t8 true 2, .v t48] σ))
theorem admit_Admit_plansEq (call : CallF H) (f : Nat) (a0 a1 a2 a3 : Value) (σ : St H) : kbody call f (codeOf P n_admit_Admit_plans) [a0, a1, a2, a3] σ = admit_Admit_plans call f a0 a1 a2 a3 σ := by kernel_rfl

abbrev wait_TaskR : List ARes := [.tmp 6]
def wait_TaskJ1 (call : CallF H) (f : Nat) (t7 : Value) (σ : St H) : R H :=
  some (t7, σ)
def wait_TaskL2 (call : CallF H) (f : Nat) (n : Nat) : Value → Value → Value → Value → Value → Value → St H → R H :=
  Nat.rec (fun _ _ _ _ _ _ _ => none) (fun _ r2 => fun t1 t2 t3 t7 t19 t20 σ =>
  bindV (abin .lss t20 t19) fun t21 =>
  ifV t21 (
  bindV (vLoad true 5 t3 σ) fun t24 =>
  bindR (call n_wait_Section [t24, t1, t2, t20] σ) fun t28 σ =>
  bindV (abin .add t7 t28) fun t29 =>
  bindV (abin .add t20 (I 1)) fun t30 =>
  r2 t1 t2 t3 t29 t19 t30 σ) (
  wait_TaskJ1 call f t7 σ)) n
def wait_TaskJ3 (call : CallF H) (f : Nat) (t1 t2 t3 t7 : Value) (σ : St H) : R H :=
  bindV (vIndexAddr 4 t1 t2) fun t16 =>
  bindV (vFieldAddr 3 t16) fun t17 =>
  bindV (vLoad false 1 t17 σ) fun t18 =>
  bindV (vLen .slice t18 σ) fun t19 =>
  wait_TaskL2 call f f t1 t2 t3 t7 t19 (I 0) σ
def wait_TaskJ4 (call : CallF H) (f : Nat) (t1 t2 t3 : Value) (σ : St H) : R H :=
  wait_TaskJ3 call f t1 t2 t3 (I 0) σ
def wait_TaskJ5 (call : CallF H) (f : Nat) (t1 t2 t3 : Value) (σ : St H) : R H :=
  bindV (vLoad true 5 t3 σ) fun t9 =>
  bindR (call n_wait_may [t9, t1, t2] σ) fun t12 σ =>
  bindV (aun .not t12) fun t13 =>
  ifV t13 (
  some ((I 0), σ)) (
  wait_TaskJ4 call f t1 t2 t3 σ)
def wait_TaskJ6 (call : CallF H) (f : Nat) (t0 t1 t2 : Value) (σ : St H) : R H :=
  bindR (vBox t0 σ) fun t3 σ =>
  wait_TaskJ5 call f t1 t2 t3 σ
def wait_Task (call : CallF H) (f : Nat) (a0 a1 a2 : Value) (σ : St H) : R H := wait_TaskJ6 call f a0 a1 a2 σ
theorem wait_TaskEq (call : CallF H) (f : Nat) (a0 a1 a2 : Value) (σ : St H) : kbody call f (codeOf P n_wait_Task) [a0, a1, a2] σ = wait_Task call f a0 a1 a2 σ :=
  kbody_of (rs := wait_TaskR) (by kernel_rfl) (by kernel_rfl) (by kernel_rfl) (seq_eq (by kernel_rfl) (seq_eq (by kernel_rfl) (seq_eq (by kernel_rfl) (seq_eq (by kernel_rfl) (leaf (B := fun e σ => wait_TaskJ1 call f (e 7) σ) (by kernel_rfl))
  (seq_eq (by kernel_rfl) (block_eq (by kernel_rfl) (loop_eq (fun n e σ => wait_TaskL2 call f n (e 1) (e 2) (e 3) (e 7) (e 19) (e 20) σ) (by kernel_rfl) (by kernel_rfl) (fun n2 => (leaf (by kernel_rfl)))))
  (leaf (B := fun e σ => wait_TaskJ3 call f (e 1) (e 2) (e 3) (e 7) σ) (by kernel_rfl))))
  (leaf (B := fun e σ => wait_TaskJ4 call f (e 1) (e 2) (e 3) σ) (by kernel_rfl)))
  (leaf (B := fun e σ => wait_TaskJ5 call f (e 1) (e 2) (e 3) σ) (by kernel_rfl)))
  (leaf (B := fun e σ => wait_TaskJ6 call f (e 0) (e 1) (e 2) σ) (by kernel_rfl))) (by kernel_rfl)

abbrev seat_Seats_admit_place_AddR : List ARes := [.tmp 4]
def seat_Seats_admit_place_AddJ1 (call : CallF H) (f : Nat) (σ : St H) : R H :=
  some ((I 0), σ)
def seat_Seats_admit_place_AddL2 (call : CallF H) (f : Nat) (n : Nat) : Value → Value → Value → Value → St H → R H :=
  Nat.rec (fun _ _ _ _ _ => none) (fun _ r2 => fun t0 t3 t12 t13 σ =>
  bindV (abin .lss t13 t12) fun t14 =>
  ifV t14 (
  bindV (vNil t0) fun t17 =>
  bindV (vFieldAddr 0 t17) fun t18 =>
  bindV (vLoad false 1 t18 σ) fun t19 =>
  bindV (vIndexAddr 7 t19 t13) fun t21 =>
  bindV (vFieldAddr 6 t21) fun t22 =>
  bindV (vLoad false 1 t22 σ) fun t23 =>
  bindV (aun .not t23) fun t24 =>
  ifV t24 (
  bindV (vNil t0) fun t26 =>
  bindV (vFieldAddr 0 t26) fun t27 =>
  bindV (vLoad false 1 t27 σ) fun t28 =>
  bindV (vLoad true 6 t3 σ) fun t30 =>
  bindV (vBuild [(I 0), (I 0), (I 0), (.slice none 0 0), (I 0), (.slice none 0 0), ff] [(0, 6, t30), (6, 1, tt)]) fun t31 =>
  bindV (vIndexAddr 7 t28 t13) fun t32 =>
  bindS (vStore 7 t32 t31 σ) fun σ =>
  bindV (abin .add t13 (I 1)) fun t34 =>
  some (t34, σ)) (
  bindV (abin .add t13 (I 1)) fun t35 =>
  r2 t0 t3 t12 t35 σ)) (
  seat_Seats_admit_place_AddJ1 call f σ)) n
def seat_Seats_admit_place_AddJ3 (call : CallF H) (f : Nat) (t0 t3 : Value) (σ : St H) : R H :=
  bindV (vNil t0) fun t9 =>
  bindV (vFieldAddr 0 t9) fun t10 =>
  bindV (vLoad false 1 t10 σ) fun t11 =>
  bindV (vLen .slice t11 σ) fun t12 =>
  seat_Seats_admit_place_AddL2 call f f t0 t3 t12 (I 0) σ
def seat_Seats_admit_place_AddJ4 (call : CallF H) (f : Nat) (t0 t3 : Value) (σ : St H) : R H :=
  bindV (vEq .nilp false t0 nilP) fun t7 =>
  ifV t7 (
  some ((I 0), σ)) (
  seat_Seats_admit_place_AddJ3 call f t0 t3 σ)
def seat_Seats_admit_place_AddJ5 (call : CallF H) (f : Nat) (t0 t1 : Value) (σ : St H) : R H :=
  bindR (vBox t1 σ) fun t3 σ =>
  seat_Seats_admit_place_AddJ4 call f t0 t3 σ
def seat_Seats_admit_place_Add (call : CallF H) (f : Nat) (a0 a1 : Value) (σ : St H) : R H := seat_Seats_admit_place_AddJ5 call f a0 a1 σ
theorem seat_Seats_admit_place_AddEq (call : CallF H) (f : Nat) (a0 a1 : Value) (σ : St H) : kbody call f (codeOf P n_seat_Seats_admit_place_Add) [a0, a1] σ = seat_Seats_admit_place_Add call f a0 a1 σ :=
  kbody_of (rs := seat_Seats_admit_place_AddR) (by kernel_rfl) (by kernel_rfl) (by kernel_rfl) (seq_eq (by kernel_rfl) (seq_eq (by kernel_rfl) (seq_eq (by kernel_rfl) (leaf (B := fun e σ => seat_Seats_admit_place_AddJ1 call f σ) (by kernel_rfl))
  (seq_eq (by kernel_rfl) (block_eq (by kernel_rfl) (loop_eq (fun n e σ => seat_Seats_admit_place_AddL2 call f n (e 0) (e 3) (e 12) (e 13) σ) (by kernel_rfl) (by kernel_rfl) (fun n2 => (leaf (by kernel_rfl)))))
  (leaf (B := fun e σ => seat_Seats_admit_place_AddJ3 call f (e 0) (e 3) σ) (by kernel_rfl))))
  (leaf (B := fun e σ => seat_Seats_admit_place_AddJ4 call f (e 0) (e 3) σ) (by kernel_rfl)))
  (leaf (B := fun e σ => seat_Seats_admit_place_AddJ5 call f (e 0) (e 1) σ) (by kernel_rfl))) (by kernel_rfl)

def admit_own (call : CallF H) (f : Nat) (a0 : Value) (σ : St H) : R H :=
  bindR (vBox a0 σ) fun t1 σ =>
  bindR (vBox (.agg ⟨[(I 0), (I 0), (I 0), (.slice none 0 0)]⟩) σ) fun t2 σ =>
  bindV (vFieldAddr 3 t1) fun t3 =>
  bindV (vLoad false 1 t3 σ) fun t4 =>
  bindR (call n_slices_Clone__api_Section_api_Section [t4] σ) fun t5 σ =>
  bindV (vFieldAddr 3 t1) fun t6 =>
  bindS (vStore 1 t6 t5 σ) fun σ =>
  bindV (vLoad true 4 t1 σ) fun t7 =>
  bindS (vStore 4 t2 t7 σ) fun σ =>
  resV [.c t2 true 4] σ
theorem admit_ownEq (call : CallF H) (f : Nat) (a0 : Value) (σ : St H) : kbody call f (codeOf P n_admit_own) [a0] σ = admit_own call f a0 σ := by kernel_rfl

abbrev mail_Mails_DueR : List ARes := [.tmp 4]
def mail_Mails_DueJ1 (call : CallF H) (f : Nat) (t5 : Value) (σ : St H) : R H :=
  bindR (call n_slices_SortStableFunc__api_Mail_api_Mail [t5, (.func (.func n_mail_Mails_Due_1) #[] #[])] σ) fun t39 σ =>
  some (t5, σ)
def mail_Mails_DueL2 (call : CallF H) (f : Nat) (n : Nat) : Value → Value → Value → Value → Value → St H → R H :=
  Nat.rec (fun _ _ _ _ _ _ => none) (fun _ r2 => fun t0 t5 t17 t18 t19 σ =>
  bindV (abin .lss t19 t18) fun t20 =>
  ifV t20 (
  bindV (vIndexAddr 1 t17 t19) fun t21 =>
  bindV (vLoad false 1 t21 σ) fun t22 =>
  bindV (vNil t0) fun t25 =>
  bindV (vFieldAddr 2 t25) fun t26 =>
  bindV (vLoad false 1 t26 σ) fun t27 =>
  bindV (vLookup true (.agg ⟨(rep [(I 0)] 5)⟩) false t27 t22 σ) fun t29 =>
  bindR (vBuildSlice 1 (rep [(I 0)] 5) [(0, 5, t29)] σ) fun t30 σ =>
  bindR (vAppend 5 40 (rep [(I 0)] 5) false t5 t30 σ) fun t31 σ =>
  bindV (vNil t0) fun t33 =>
  bindV (vFieldAddr 2 t33) fun t34 =>
  bindV (vLoad false 1 t34 σ) fun t35 =>
  bindS (vDelete true t35 t22 σ) fun σ =>
  bindV (abin .add t19 (I 1)) fun t37 =>
  r2 t0 t31 t17 t18 t37 σ) (
  mail_Mails_DueJ1 call f t5 σ)) n
def mail_Mails_DueJ3 (call : CallF H) (f : Nat) (t0 t1 t5 : Value) (σ : St H) : R H :=
  bindV (vNil t0) fun t13 =>
  bindV (vFieldAddr 1 t13) fun t14 =>
  bindV (vLoad false 1 t14 σ) fun t15 =>
  bindR (call n_line_Line_int_Due [t15, t1] σ) fun t17 σ =>
  bindV (vLen .slice t17 σ) fun t18 =>
  mail_Mails_DueL2 call f f t0 t5 t17 t18 (I 0) σ
def mail_Mails_DueJ4 (call : CallF H) (f : Nat) (t0 t1 : Value) (σ : St H) : R H :=
  mail_Mails_DueJ3 call f t0 t1 (.slice none 0 0) σ
def mail_Mails_DueJ5 (call : CallF H) (f : Nat) (t0 t1 : Value) (σ : St H) : R H :=
  bindR (call n_mail_Mails_sorts [t0] σ) fun t11 σ =>
  mail_Mails_DueJ4 call f t0 t1 σ
def mail_Mails_DueJ6 (call : CallF H) (f : Nat) (t0 t1 : Value) (σ : St H) : R H :=
  bindV (vEq .nilp false t0 nilP) fun t9 =>
  ifV t9 (
  some ((.slice none 0 0), σ)) (
  mail_Mails_DueJ5 call f t0 t1 σ)
def mail_Mails_DueJ7 (call : CallF H) (f : Nat) (t0 t1 : Value) (σ : St H) : R H :=
  mail_Mails_DueJ6 call f t0 t1 σ
def mail_Mails_Due (call : CallF H) (f : Nat) (a0 a1 : Value) (σ : St H) : R H := mail_Mails_DueJ7 call f a0 a1 σ
theorem mail_Mails_DueEq (call : CallF H) (f : Nat) (a0 a1 : Value) (σ : St H) : kbody call f (codeOf P n_mail_Mails_Due) [a0, a1] σ = mail_Mails_Due call f a0 a1 σ :=
  kbody_of (rs := mail_Mails_DueR) (by kernel_rfl) (by kernel_rfl) (by kernel_rfl) (seq_eq (by kernel_rfl) (seq_eq (by kernel_rfl) (seq_eq (by kernel_rfl) (seq_eq (by kernel_rfl) (seq_eq (by kernel_rfl) (leaf (B := fun e σ => mail_Mails_DueJ1 call f (e 5) σ) (by kernel_rfl))
  (seq_eq (by kernel_rfl) (block_eq (by kernel_rfl) (loop_eq (fun n e σ => mail_Mails_DueL2 call f n (e 0) (e 5) (e 17) (e 18) (e 19) σ) (by kernel_rfl) (by kernel_rfl) (fun n2 => (leaf (by kernel_rfl)))))
  (leaf (B := fun e σ => mail_Mails_DueJ3 call f (e 0) (e 1) (e 5) σ) (by kernel_rfl))))
  (leaf (B := fun e σ => mail_Mails_DueJ4 call f (e 0) (e 1) σ) (by kernel_rfl)))
  (leaf (B := fun e σ => mail_Mails_DueJ5 call f (e 0) (e 1) σ) (by kernel_rfl)))
  (leaf (B := fun e σ => mail_Mails_DueJ6 call f (e 0) (e 1) σ) (by kernel_rfl)))
  (leaf (B := fun e σ => mail_Mails_DueJ7 call f (e 0) (e 1) σ) (by kernel_rfl))) (by kernel_rfl)

def agent_Agent_Ask (call : CallF H) (f : Nat) (a0 a1 a2 : Value) (σ : St H) : R H :=
  bindV (vEq .nilp true a0 nilP) fun t8 =>
  bindV (bif kyes t8 true then some a1 else some undefV) fun t10 =>
  bindV (bif kyes t8 true then abin .geq t10 (I 1) else some undefV) fun t11 =>
  bindV (vPick t8 t11 ff) fun t12 =>
  bindV (bif kyes t12 true then some a2 else some undefV) fun t14 =>
  bindV (bif kyes t12 true then abin .geq t14 (I 1) else some undefV) fun t15 =>
  bindV (vPick t12 t15 ff) fun t16 =>
  bindV (bif kyes t16 true then some a0 else some undefV) fun t18 =>
  bindV (bif kyes t16 true then some a1 else some undefV) fun t19 =>
  bindR (bif kyes t16 true then call n_agent_Agent_has [t18, t19] σ else some (undefV, σ)) fun t20 σ =>
  bindV (bif kyes t16 true then aun .not t20 else some undefV) fun t21 =>
  bindV (vPick t16 t21 ff) fun t22 =>
  bindV (bif kyes t22 true then some a0 else some undefV) fun t24 =>
  bindV (bif kyes t22 true then vNil t24 else some undefV) fun t25 =>
  bindV (bif kyes t22 true then vFieldAddr 0 t25 else some undefV) fun t26 =>
  bindV (bif kyes t22 true then vLoad false 1 t26 σ else some undefV) fun t27 =>
  bindV (bif kyes t22 true then some a1 else some undefV) fun t28 =>
  bindV (bif kyes t22 true then some a2 else some undefV) fun t29 =>
  bindV (bif kyes t22 true then vBuild [(I 0), (I 0)] [(0, 1, t28), (1, 1, t29)] else some undefV) fun t30 =>
  bindR (bif kyes t22 true then call n_ring_Ring_agent_request_Put [t27, t30] σ else some (undefV, σ)) fun t31 σ =>
  bindV (vPick t22 t31 ff) fun t32 =>
  some (t32, σ)
theorem agent_Agent_AskEq (call : CallF H) (f : Nat) (a0 a1 a2 : Value) (σ : St H) : kbody call f (codeOf P n_agent_Agent_Ask) [a0, a1, a2] σ = agent_Agent_Ask call f a0 a1 a2 σ := by kernel_rfl

def job_Begins (call : CallF H) (f : Nat) (a0 a1 : Value) (σ : St H) : R H :=
  bindR (vBox a0 σ) fun t2 σ =>
  bindR (vBox a1 σ) fun t3 σ =>
  bindV (vLoad true 2 t2 σ) fun t5 =>
  bindV (vLoad true 9 t3 σ) fun t6 =>
  bindR (call n_job_there [t5, t6] σ) fun t7 σ =>
  bindV (aun .not t7) fun t8 =>
  ifV t8 (
  some ((I 0), σ)) (
  bindV (vFieldAddr 1 t3) fun t9 =>
  bindV (vLoad false 1 t9 σ) fun t10 =>
  bindV (vFieldAddr 1 t2) fun t11 =>
  bindV (vLoad false 1 t11 σ) fun t12 =>
  bindV (vFieldAddr 4 t3) fun t13 =>
  bindV (vLoad false 1 t13 σ) fun t14 =>
  bindV (vIndexAddr 4 t12 t14) fun t15 =>
  bindV (vFieldAddr 1 t15) fun t16 =>
  bindV (vLoad false 1 t16 σ) fun t17 =>
  bindV (abin .add t10 t17) fun t18 =>
  some (t18, σ))
theorem job_BeginsEq (call : CallF H) (f : Nat) (a0 a1 : Value) (σ : St H) : kbody call f (codeOf P n_job_Begins) [a0, a1] σ = job_Begins call f a0 a1 σ := by kernel_rfl

def bench_Bench_Runs (call : CallF H) (f : Nat) (a0 : Value) (σ : St H) : R H :=
  bindV (vEq .nilp false a0 nilP) fun t6 =>
  ifV t6 (
  some ((I 0), σ)) (
  bindV (vNil a0) fun t9 =>
  bindV (vFieldAddr 0 t9) fun t10 =>
  bindV (vLoad false 1 t10 σ) fun t11 =>
  bindR (call n_heap_Heap_int_First [t11] σ) fun t12 σ =>
  bindV (vExtract 0 t12) fun t13 =>
  bindV (vExtract 1 t12) fun t14 =>
  some (t13, σ))
theorem bench_Bench_RunsEq (call : CallF H) (f : Nat) (a0 : Value) (σ : St H) : kbody call f (codeOf P n_bench_Bench_Runs) [a0] σ = bench_Bench_Runs call f a0 σ := by kernel_rfl

def admit_Admit_Config (call : CallF H) (f : Nat) (a0 : Value) (σ : St H) : R H :=
  bindR (vBox (.agg ⟨[(I 0), (I 0), (I 0), (I 0), (.slice none 0 0)]⟩) σ) fun t2 σ =>
  bindV (vEq .nilp false a0 nilP) fun t5 =>
  ifV t5 (
  bindV (vBuild [(I 0), (I 0), (I 0), (I 0), (.slice none 0 0)] []) fun t6 =>
  bindS (vStore 5 t2 t6 σ) fun σ =>
  resV [.c t2 true 5] σ) (
  bindV (vNil a0) fun t8 =>
  bindV (vFieldAddr 0 t8) fun t9 =>
  bindV (vLoad true 5 t9 σ) fun t10 =>
  bindR (vBox (.agg ⟨[(I 0), (I 0), (I 0), (I 0), (.slice none 0 0)]⟩) σ) fun t3 σ =>
  bindS (vStore 5 t3 t10 σ) fun σ =>
  bindV (vFieldAddr 4 t3) fun t11 =>
  bindV (vLoad false 1 t11 σ) fun t12 =>
  bindR (call n_slices_Clone__int_int [t12] σ) fun t13 σ =>
  bindV (vFieldAddr 4 t3) fun t14 =>
  bindS (vStore 1 t14 t13 σ) fun σ =>
  bindV (vLoad true 5 t3 σ) fun t15 =>
  bindS (vStore 5 t2 t15 σ) fun σ =>
  resV [.c t2 true 5] σ)
theorem admit_Admit_ConfigEq (call : CallF H) (f : Nat) (a0 : Value) (σ : St H) : kbody call f (codeOf P n_admit_Admit_Config) [a0] σ = admit_Admit_Config call f a0 σ := by kernel_rfl

def job_TickJ1 (call : CallF H) (f : Nat) (t4 t5 t6 t7 t8 t10 t12 : Value) (σ : St H) : R H :=
  bindV (bif kyes t12 true then vFieldAddr 3 t8 else some undefV) fun t42 =>
  bindV (bif kyes t12 true then vLoad false 1 t42 σ else some undefV) fun t43 =>
  bindV (bif kyes t12 true then vFieldAddr 2 t8 else some undefV) fun t44 =>
  bindV (bif kyes t12 true then vLoad false 1 t44 σ else some undefV) fun t45 =>
  bindV (bif kyes t12 true then abin .eql t43 t45 else some undefV) fun t46 =>
  bindV (vPick t12 t46 ff) fun t47 =>
  ifV t47 (
  bindV (abin .add t4 (I 1)) fun t49 =>
  bindV (vFieldAddr 0 t8) fun t50 =>
  bindS (vStore 1 t50 (I 4) σ) fun σ =>
  bindV (vFieldAddr 8 t8) fun t51 =>
  bindS (vStore 1 t51 t49 σ) fun σ =>
  bindV (vLoad true 9 t8 σ) fun t52 =>
  bindS (vStore 9 t10 t52 σ) fun σ =>
  resV [.c t10 true 9, .v (I 2)] σ) (
  bindV (bif kyes t12 true then vFieldAddr 7 t8 else some undefV) fun t56 =>
  bindV (bif kyes t12 true then vLoad false 1 t56 σ else some undefV) fun t57 =>
  bindV (bif kyes t12 true then abin .geq t57 (I 0) else some undefV) fun t58 =>
  bindV (vPick t12 t58 ff) fun t59 =>
  bindV (bif kyes t59 true then vFieldAddr 7 t8 else some undefV) fun t61 =>
  bindV (bif kyes t59 true then vLoad false 1 t61 σ else some undefV) fun t62 =>
  bindV (bif kyes t59 true then vFieldAddr 3 t6 else some undefV) fun t63 =>
  bindV (bif kyes t59 true then vLoad false 1 t63 σ else some undefV) fun t64 =>
  bindV (bif kyes t59 true then vLen .slice t64 σ else some undefV) fun t65 =>
  bindV (bif kyes t59 true then abin .lss t62 t65 else some undefV) fun t66 =>
  bindV (vPick t59 t66 ff) fun t67 =>
  bindV (bif kyes t67 true then vFieldAddr 3 t6 else some undefV) fun t69 =>
  bindV (bif kyes t67 true then vLoad false 1 t69 σ else some undefV) fun t70 =>
  bindV (bif kyes t67 true then vFieldAddr 7 t8 else some undefV) fun t71 =>
  bindV (bif kyes t67 true then vLoad false 1 t71 σ else some undefV) fun t72 =>
  bindV (bif kyes t67 true then vIndexAddr 3 t70 t72 else some undefV) fun t73 =>
  bindV (bif kyes t67 true then vFieldAddr 1 t73 else some undefV) fun t74 =>
  bindV (bif kyes t67 true then vLoad false 1 t74 σ else some undefV) fun t75 =>
  bindV (bif kyes t67 true then vFieldAddr 3 t8 else some undefV) fun t76 =>
  bindV (bif kyes t67 true then vLoad false 1 t76 σ else some undefV) fun t77 =>
  bindV (bif kyes t67 true then abin .eql t75 t77 else some undefV) fun t78 =>
  bindV (vPick t67 t78 ff) fun t79 =>
  ifV t79 (
  bindV (vFieldAddr 0 t8) fun t80 =>
  bindS (vStore 1 t80 (I 3) σ) fun σ =>
  bindV (vFieldAddr 7 t8) fun t81 =>
  bindV (vLoad false 1 t81 σ) fun t82 =>
  bindV (abin .add t82 (I 1)) fun t83 =>
  bindV (vFieldAddr 7 t8) fun t84 =>
  bindS (vStore 1 t84 t83 σ) fun σ =>
  bindV (vLoad true 9 t8 σ) fun t85 =>
  bindS (vStore 9 t10 t85 σ) fun σ =>
  resV [.c t10 true 9, .v (I 3)] σ) (
  bindV (vFieldAddr 5 t8) fun t87 =>
  bindV (vLoad false 1 t87 σ) fun t88 =>
  bindV (abin .neq t88 (I 0)) fun t89 =>
  ifV t89 (
  bindV (vLoad true 9 t8 σ) fun t90 =>
  bindS (vStore 9 t10 t90 σ) fun σ =>
  resV [.c t10 true 9, .v (I 1)] σ) (
  bindV (vFieldAddr 4 t8) fun t92 =>
  bindV (vLoad false 1 t92 σ) fun t93 =>
  bindV (vFieldAddr 1 t7) fun t94 =>
  bindV (vLoad false 1 t94 σ) fun t95 =>
  bindV (vLen .slice t95 σ) fun t96 =>
  bindV (abin .sub t96 (I 1)) fun t97 =>
  bindV (abin .eql t93 t97) fun t98 =>
  ifV t98 (
  bindV (abin .add t4 (I 1)) fun t100 =>
  bindV (vFieldAddr 0 t8) fun t101 =>
  bindS (vStore 1 t101 (I 5) σ) fun σ =>
  bindV (vFieldAddr 8 t8) fun t102 =>
  bindS (vStore 1 t102 t100 σ) fun σ =>
  bindV (vLoad true 9 t8 σ) fun t103 =>
  bindS (vStore 9 t10 t103 σ) fun σ =>
  resV [.c t10 true 9, .v (I 5)] σ) (
  bindV (vFieldAddr 4 t8) fun t104 =>
  bindV (vLoad false 1 t104 σ) fun t105 =>
  bindV (abin .add t105 (I 1)) fun t106 =>
  bindV (vFieldAddr 4 t8) fun t107 =>
  bindS (vStore 1 t107 t106 σ) fun σ =>
  bindV (vFieldAddr 1 t7) fun t108 =>
  bindV (vLoad false 1 t108 σ) fun t109 =>
  bindV (vFieldAddr 4 t8) fun t110 =>
  bindV (vLoad false 1 t110 σ) fun t111 =>
  bindV (vIndexAddr 4 t109 t111) fun t112 =>
  bindV (vFieldAddr 3 t112) fun t113 =>
  bindV (vLoad false 1 t113 σ) fun t114 =>
  bindV (vFieldAddr 3 t5) fun t115 =>
  bindV (vLoad false 1 t115 σ) fun t116 =>
  bindV (vFieldAddr 0 t8) fun t117 =>
  bindS (vStore 1 t117 (I 1) σ) fun σ =>
  kif (kand (rck (vLoad false 1 t115 σ) t116) (kand (rck (vLoad false 1 t113 σ) t114) (kand (rck (vLoad false 1 t108 σ) t109) true))) (
  bindV (vFieldAddr 5 t8) fun t118 =>
  bindS (vStore 1 t118 t114 σ) fun σ =>
  kif (kand (rck (vLoad false 1 t115 σ) t116) true) (
  bindV (vFieldAddr 6 t8) fun t119 =>
  bindS (vStore 1 t119 t116 σ) fun σ =>
  bindV (vLoad true 9 t8 σ) fun t120 =>
  bindS (vStore 9 t10 t120 σ) fun σ =>
  resV [.c t10 true 9, .v (I 4)] σ))))))
def job_Tick (call : CallF H) (f : Nat) (a0 a1 a2 a3 a4 : Value) (σ : St H) : R H :=
  bindR (vBox a0 σ) fun t5 σ =>
  bindR (vBox a1 σ) fun t6 σ =>
  bindR (vBox a2 σ) fun t7 σ =>
  bindR (vBox a3 σ) fun t8 σ =>
  bindR (vBox (.agg ⟨(rep [(I 0)] 9)⟩) σ) fun t10 σ =>
  bindV (vFieldAddr 0 t8) fun t13 =>
  bindV (vLoad false 1 t13 σ) fun t14 =>
  bindV (abin .neq t14 (I 2)) fun t15 =>
  bindV (bif kyes t15 false then vLoad true 2 t7 σ else some undefV) fun t17 =>
  bindV (bif kyes t15 false then vLoad true 9 t8 σ else some undefV) fun t18 =>
  bindR (bif kyes t15 false then call n_job_there [t17, t18] σ else some (undefV, σ)) fun t19 σ =>
  bindV (bif kyes t15 false then aun .not t19 else some undefV) fun t20 =>
  bindV (vPick t15 tt t20) fun t21 =>
  ifV t21 (
  bindV (vLoad true 9 t8 σ) fun t22 =>
  bindS (vStore 9 t10 t22 σ) fun σ =>
  resV [.c t10 true 9, .v (I 0)] σ) (
  bindV (vFieldAddr 5 t8) fun t23 =>
  bindV (vLoad false 1 t23 σ) fun t24 =>
  bindV (abin .sub t24 (I 1)) fun t25 =>
  bindV (vFieldAddr 5 t8) fun t26 =>
  bindS (vStore 1 t26 t25 σ) fun σ =>
  bindV (vFieldAddr 6 t8) fun t27 =>
  bindV (vLoad false 1 t27 σ) fun t28 =>
  bindV (abin .leq t28 (I 0)) fun t29 =>
  ifV t29 (
  bindV (vFieldAddr 3 t8) fun t31 =>
  bindV (vLoad false 1 t31 σ) fun t32 =>
  bindV (abin .add t32 (I 1)) fun t33 =>
  bindV (vFieldAddr 3 t8) fun t34 =>
  bindS (vStore 1 t34 t33 σ) fun σ =>
  job_TickJ1 call f a4 t5 t6 t7 t8 t10 t29 σ) (
  bindV (vFieldAddr 6 t8) fun t35 =>
  bindV (vLoad false 1 t35 σ) fun t36 =>
  bindV (abin .sub t36 (I 1)) fun t37 =>
  bindV (vFieldAddr 6 t8) fun t38 =>
  bindS (vStore 1 t38 t37 σ) fun σ =>
  job_TickJ1 call f a4 t5 t6 t7 t8 t10 t29 σ))
theorem job_TickEq (call : CallF H) (f : Nat) (a0 a1 a2 a3 a4 : Value) (σ : St H) : kbody call f (codeOf P n_job_Tick) [a0, a1, a2, a3, a4] σ = job_Tick call f a0 a1 a2 a3 a4 σ := by kernel_rfl

def bench_Bench_Leave (call : CallF H) (f : Nat) (a0 a1 : Value) (σ : St H) : R H :=
  bindV (vEq .nilp true a0 nilP) fun t6 =>
  bindV (bif kyes t6 true then some a0 else some undefV) fun t8 =>
  bindV (bif kyes t6 true then vNil t8 else some undefV) fun t9 =>
  bindV (bif kyes t6 true then vFieldAddr 0 t9 else some undefV) fun t10 =>
  bindV (bif kyes t6 true then vLoad false 1 t10 σ else some undefV) fun t11 =>
  bindV (bif kyes t6 true then some a1 else some undefV) fun t12 =>
  bindR (bif kyes t6 true then call n_heap_Heap_int_Drop [t11, t12] σ else some (undefV, σ)) fun t13 σ =>
  bindV (vPick t6 t13 ff) fun t14 =>
  some (t14, σ)
theorem bench_Bench_LeaveEq (call : CallF H) (f : Nat) (a0 a1 : Value) (σ : St H) : kbody call f (codeOf P n_bench_Bench_Leave) [a0, a1] σ = bench_Bench_Leave call f a0 a1 σ := by kernel_rfl

def kernel_work_hold (call : CallF H) (f : Nat) (a0 a1 a2 : Value) (σ : St H) : R H :=
  bindV (vNil a0) fun t9 =>
  bindV (vFieldAddr 9 t9) fun t10 =>
  bindV (vLoad false 1 t10 σ) fun t11 =>
  bindV (vLen .slice t11 σ) fun t12 =>
  bindV (abin .geq a1 t12) fun t13 =>
  ifV t13 (
  some ((I 1), σ)) (
  bindV (vNil a0) fun t15 =>
  bindV (vFieldAddr 9 t15) fun t16 =>
  bindV (vLoad false 1 t16 σ) fun t17 =>
  bindV (vIndexAddr 1 t17 a1) fun t19 =>
  bindV (vLoad false 1 t19 σ) fun t20 =>
  bindV (vMx [t20, (I 1)]) fun t21 =>
  bindV (vMn [t21, a2]) fun t23 =>
  some (t23, σ))
theorem kernel_work_holdEq (call : CallF H) (f : Nat) (a0 a1 a2 : Value) (σ : St H) : kbody call f (codeOf P n_kernel_work_hold) [a0, a1, a2] σ = kernel_work_hold call f a0 a1 a2 σ := by kernel_rfl

def agent_Agent_TickJ1 (call : CallF H) (f : Nat) (t0 : Value) (σ : St H) : R H :=
  bindV (vNil t0) fun t25 =>
  bindV (vFieldAddr 1 t25) fun t26 =>
  bindV (vFieldAddr 0 t26) fun t27 =>
  bindV (vLoad false 1 t27 σ) fun t28 =>
  bindV (abin .eql t28 (I 0)) fun t30 =>
  ifV t30 (
  some (.tuple ⟨[(I 0), ff]⟩, σ)) (
  bindV (vNil t0) fun t32 =>
  bindV (vFieldAddr 1 t32) fun t33 =>
  bindV (vFieldAddr 1 t33) fun t34 =>
  bindV (vLoad false 1 t34 σ) fun t35 =>
  bindV (abin .sub t35 (I 1)) fun t36 =>
  bindV (vNil t0) fun t37 =>
  bindV (vFieldAddr 1 t37) fun t38 =>
  bindV (vFieldAddr 1 t38) fun t39 =>
  bindS (vStore 1 t39 t36 σ) fun σ =>
  bindV (vNil t0) fun t41 =>
  bindV (vFieldAddr 1 t41) fun t42 =>
  bindV (vFieldAddr 1 t42) fun t43 =>
  bindV (vLoad false 1 t43 σ) fun t44 =>
  bindV (abin .gtr t44 (I 0)) fun t45 =>
  ifV t45 (
  some (.tuple ⟨[t28, ff]⟩, σ)) (
  bindV (vBuild [(I 0), (I 0)] []) fun t48 =>
  bindV (vNil t0) fun t49 =>
  bindV (vFieldAddr 1 t49) fun t50 =>
  bindS (vStore 2 t50 t48 σ) fun σ =>
  some (.tuple ⟨[t28, tt]⟩, σ)))
def agent_Agent_Tick (call : CallF H) (f : Nat) (a0 : Value) (σ : St H) : R H :=
  bindV (vEq .nilp false a0 nilP) fun t6 =>
  ifV t6 (
  some (.tuple ⟨[(I 0), ff]⟩, σ)) (
  bindV (vNil a0) fun t8 =>
  bindV (vFieldAddr 1 t8) fun t9 =>
  bindV (vFieldAddr 0 t9) fun t10 =>
  bindV (vLoad false 1 t10 σ) fun t11 =>
  bindV (abin .eql t11 (I 0)) fun t12 =>
  ifV t12 (
  bindV (vNil a0) fun t16 =>
  bindV (vFieldAddr 0 t16) fun t17 =>
  bindV (vLoad false 1 t17 σ) fun t18 =>
  bindR (call n_ring_Ring_agent_request_Take [t18] σ) fun t19 σ =>
  bindV (vExtract 0 t19) fun t20 =>
  bindV (vExtract 1 t19) fun t21 =>
  bindV (vNil a0) fun t22 =>
  bindV (vFieldAddr 1 t22) fun t23 =>
  bindS (vStore 2 t23 t20 σ) fun σ =>
  agent_Agent_TickJ1 call f a0 σ) (
  agent_Agent_TickJ1 call f a0 σ))
theorem agent_Agent_TickEq (call : CallF H) (f : Nat) (a0 : Value) (σ : St H) : kbody call f (codeOf P n_agent_Agent_Tick) [a0] σ = agent_Agent_Tick call f a0 σ := by kernel_rfl

def slices_Sorted_int (call : CallF H) (f : Nat) (a0 : Value) (σ : St H) : R H :=
  bindR (call n_slices_Collect_int [a0] σ) fun t5 σ =>
  bindR (call n_slices_Sort__int_int [t5] σ) fun t7 σ =>
  some (t5, σ)
theorem slices_Sorted_intEq (call : CallF H) (f : Nat) (a0 : Value) (σ : St H) : kbody call f (codeOf P n_slices_Sorted_int) [a0] σ = slices_Sorted_int call f a0 σ := by kernel_rfl

def maps_Keys_map_intapi_Mail_int_api_Mail (call : CallF H) (f : Nat) (a0 : Value) (σ : St H) : R H :=
  bindR (vBox a0 σ) fun t1 σ =>
  some ((.func (.func n_maps_Keys_map_intapi_Mail_int_api_Mail_1) ⟨[]⟩ ⟨[t1]⟩), σ)
theorem maps_Keys_map_intapi_Mail_int_api_MailEq (call : CallF H) (f : Nat) (a0 : Value) (σ : St H) : kbody call f (codeOf P n_maps_Keys_map_intapi_Mail_int_api_Mail) [a0] σ = maps_Keys_map_intapi_Mail_int_api_Mail call f a0 σ := by kernel_rfl

def kernel_Kernel_lag (call : CallF H) (f : Nat) (a0 a1 a2 : Value) (σ : St H) : R H :=
  bindV (vLen .slice a1 σ) fun t10 =>
  bindV (abin .geq a2 t10) fun t11 =>
  ifV t11 (
  some ((I 0), σ)) (
  bindV (vNil a0) fun t13 =>
  bindV (vFieldAddr 0 t13) fun t14 =>
  bindV (vLoad false 1 t14 σ) fun t15 =>
  bindR (call n_admit_Admit_Config [t15] σ) fun t16 σ =>
  bindV (vField false 1 2 t16) fun t17 =>
  bindV (abin .add t17 (I 1)) fun t18 =>
  bindV (vIndexAddr 1 a1 a2) fun t21 =>
  bindV (vLoad false 1 t21 σ) fun t22 =>
  bindV (abin .rem t22 t18) fun t24 =>
  bindV (abin .add t24 t18) fun t26 =>
  bindV (abin .rem t26 t18) fun t28 =>
  some (t28, σ))
theorem kernel_Kernel_lagEq (call : CallF H) (f : Nat) (a0 a1 a2 : Value) (σ : St H) : kbody call f (codeOf P n_kernel_Kernel_lag) [a0, a1, a2] σ = kernel_Kernel_lag call f a0 a1 a2 σ := by kernel_rfl

def mail_Mails_Say (call : CallF H) (f : Nat) (a0 a1 : Value) (σ : St H) : R H :=
  bindR (vBox a1 σ) fun t3 σ =>
  bindV (vEq .nilp false a0 nilP) fun t8 =>
  bindV (bif kyes t8 false then vFieldAddr 1 t3 else some undefV) fun t10 =>
  bindV (bif kyes t8 false then vLoad false 1 t10 σ else some undefV) fun t11 =>
  bindV (bif kyes t8 false then abin .lss t11 (I 1) else some undefV) fun t12 =>
  bindV (vPick t8 tt t12) fun t13 =>
  bindV (bif kyes t13 false then vFieldAddr 1 t3 else some undefV) fun t15 =>
  bindV (bif kyes t13 false then vLoad false 1 t15 σ else some undefV) fun t16 =>
  bindV (bif kyes t13 false then abin .gtr t16 (I 12) else some undefV) fun t17 =>
  bindV (vPick t13 tt t17) fun t18 =>
  bindV (bif kyes t18 false then vFieldAddr 0 t3 else some undefV) fun t20 =>
  bindV (bif kyes t18 false then vLoad false 1 t20 σ else some undefV) fun t21 =>
  bindV (bif kyes t18 false then abin .lss t21 (I 1) else some undefV) fun t22 =>
  bindV (vPick t18 tt t22) fun t23 =>
  bindV (bif kyes t23 false then vFieldAddr 0 t3 else some undefV) fun t25 =>
  bindV (bif kyes t23 false then vLoad false 1 t25 σ else some undefV) fun t26 =>
  bindV (bif kyes t23 false then abin .gtr t26 (I 3) else some undefV) fun t27 =>
  bindV (vPick t23 tt t27) fun t28 =>
  ifV t28 (
  some (ff, σ)) (
  bindR (call n_mail_Mails_sorts [a0] σ) fun t30 σ =>
  bindV (vNil a0) fun t33 =>
  bindV (vFieldAddr 2 t33) fun t34 =>
  bindV (vLoad false 1 t34 σ) fun t35 =>
  bindV (vFieldAddr 1 t3) fun t36 =>
  bindV (vLoad false 1 t36 σ) fun t37 =>
  bindV (vLookup true (.agg ⟨(rep [(I 0)] 5)⟩) true t35 t37 σ) fun t38 =>
  bindV (vExtract 0 t38) fun t39 =>
  bindV (vExtract 1 t38) fun t40 =>
  bindR (vBox (.agg ⟨(rep [(I 0)] 5)⟩) σ) fun t5 σ =>
  bindS (vStore 5 t5 t39 σ) fun σ =>
  ifV t40 (
  some (ff, σ)) (
  bindV (vNil a0) fun t43 =>
  bindV (vFieldAddr 0 t43) fun t44 =>
  bindV (vLoad false 1 t44 σ) fun t45 =>
  bindV (vLoad true 5 t3 σ) fun t46 =>
  bindR (call n_box_Box_api_Mail_Put [t45, t46] σ) fun t47 σ =>
  some (t47, σ)))
theorem mail_Mails_SayEq (call : CallF H) (f : Nat) (a0 a1 : Value) (σ : St H) : kbody call f (codeOf P n_mail_Mails_Say) [a0, a1] σ = mail_Mails_Say call f a0 a1 σ := by kernel_rfl

def ring_Ring_agent_request_Len (call : CallF H) (f : Nat) (a0 : Value) (σ : St H) : R H :=
  bindV (vEq .nilp false a0 nilP) fun t4 =>
  ifV t4 (
  some ((I 0), σ)) (
  bindV (vNil a0) fun t6 =>
  bindV (vFieldAddr 2 t6) fun t7 =>
  bindV (vLoad false 1 t7 σ) fun t8 =>
  some (t8, σ))
theorem ring_Ring_agent_request_LenEq (call : CallF H) (f : Nat) (a0 : Value) (σ : St H) : kbody call f (codeOf P n_ring_Ring_agent_request_Len) [a0] σ = ring_Ring_agent_request_Len call f a0 σ := by kernel_rfl

abbrev mail_Mails_sortsR : List ARes := []
def mail_Mails_sortsL1 (call : CallF H) (f : Nat) (n : Nat) : Value → Value → Value → St H → R H :=
  Nat.rec (fun _ _ _ _ => none) (fun _ r1 => fun t0 t2 t3 σ =>
  ifV t3 (
  bindV (vNil t0) fun t22 =>
  bindV (vFieldAddr 2 t22) fun t23 =>
  bindV (vLoad false 1 t23 σ) fun t24 =>
  bindV (vFieldAddr 1 t2) fun t25 =>
  bindV (vLoad false 1 t25 σ) fun t26 =>
  bindV (vLoad true 5 t2 σ) fun t27 =>
  bindS (vMapUpdate true t24 t26 t27 σ) fun σ =>
  bindV (vNil t0) fun t29 =>
  bindV (vFieldAddr 1 t29) fun t30 =>
  bindV (vLoad false 1 t30 σ) fun t31 =>
  bindV (vFieldAddr 1 t2) fun t32 =>
  bindV (vLoad false 1 t32 σ) fun t33 =>
  bindV (vFieldAddr 3 t2) fun t34 =>
  bindV (vLoad false 1 t34 σ) fun t35 =>
  bindR (call n_line_Line_int_Put [t31, t33, t35] σ) fun t36 σ =>
  bindV (vLoad true 5 t2 σ) fun t37 =>
  bindR (vBox (.agg ⟨(rep [(I 0)] 5)⟩) σ) fun t2v1 σ =>
  bindS (vStore 5 t2v1 t37 σ) fun σ =>
  bindV (vNil t0) fun t15 =>
  bindV (vFieldAddr 0 t15) fun t16 =>
  bindV (vLoad false 1 t16 σ) fun t17 =>
  bindR (call n_box_Box_api_Mail_Take [t17] σ) fun t18 σ =>
  bindV (vExtract 0 t18) fun t19 =>
  bindV (vExtract 1 t18) fun t20 =>
  bindS (vStore 5 t2v1 t19 σ) fun σ =>
  r1 t0 t2v1 t20 σ) (
  some (.tuple ⟨[]⟩, σ))) n
def mail_Mails_sortsJ2 (call : CallF H) (f : Nat) (t0 : Value) (σ : St H) : R H :=
  bindV (vNil t0) fun t6 =>
  bindV (vFieldAddr 0 t6) fun t7 =>
  bindV (vLoad false 1 t7 σ) fun t8 =>
  bindR (call n_box_Box_api_Mail_Take [t8] σ) fun t9 σ =>
  bindV (vExtract 0 t9) fun t10 =>
  bindV (vExtract 1 t9) fun t11 =>
  bindR (vBox (.agg ⟨(rep [(I 0)] 5)⟩) σ) fun t2 σ =>
  bindS (vStore 5 t2 t10 σ) fun σ =>
  mail_Mails_sortsL1 call f f t0 t2 t11 σ
def mail_Mails_sorts (call : CallF H) (f : Nat) (a0 : Value) (σ : St H) : R H := mail_Mails_sortsJ2 call f a0 σ
theorem mail_Mails_sortsEq (call : CallF H) (f : Nat) (a0 : Value) (σ : St H) : kbody call f (codeOf P n_mail_Mails_sorts) [a0] σ = mail_Mails_sorts call f a0 σ :=
  kbody_of (rs := mail_Mails_sortsR) (by kernel_rfl) (by kernel_rfl) (by kernel_rfl) (seq_eq (by kernel_rfl) (block_eq (by kernel_rfl) (loop_eq (fun n e σ => mail_Mails_sortsL1 call f n (e 0) (e 2) (e 3) σ) (by kernel_rfl) (by kernel_rfl) (fun n1 => (leaf (by kernel_rfl)))))
  (leaf (B := fun e σ => mail_Mails_sortsJ2 call f (e 0) σ) (by kernel_rfl))) (by kernel_rfl)

def law19x_begun (call : CallF H) (f : Nat) (σ : St H) : R H :=
  bindV (vBuild (rep [(I 0)] 4) [(2, 1, (I 5)), (3, 1, (I 2))]) fun t15 =>
  bindR (vBuildSlice 1 (rep [(I 0)] 4) [(0, 4, t15)] σ) fun t16 σ =>
  bindV (vBuild [(I 0), (.slice none 0 0)] [(0, 1, (I 1)), (1, 1, t16)]) fun t17 =>
  bindR (vBox (.agg ⟨[(I 0), (.slice none 0 0)]⟩) σ) fun t1 σ =>
  bindS (vStore 2 t1 t17 σ) fun σ =>
  bindV (vLoad true 2 t1 σ) fun t18 =>
  bindR (call n_job_New [t18, (I 3), (I 2)] σ) fun t19 σ =>
  bindR (vBox (.agg ⟨(rep [(I 0)] 9)⟩) σ) fun t2 σ =>
  bindS (vStore 9 t2 t19 σ) fun σ =>
  bindV (vBuild [(I 0), (I 0), (I 0), (I 0), (.slice none 0 0)] [(0, 1, (I 1))]) fun t21 =>
  bindV (vBuild [(I 0), (I 0), (I 0), (.slice none 0 0)] [(0, 1, (I 2)), (1, 1, (I 5)), (2, 1, (I 5))]) fun t22 =>
  bindV (vLoad true 2 t1 σ) fun t23 =>
  bindV (vLoad true 9 t2 σ) fun t24 =>
  bindR (call n_job_Tick [t21, t22, t23, t24, (I 7)] σ) fun t25 σ =>
  bindV (vExtract 0 t25) fun t26 =>
  bindV (vExtract 1 t25) fun t27 =>
  bindR (vBox (.agg ⟨(rep [(I 0)] 9)⟩) σ) fun t3 σ =>
  bindS (vStore 9 t3 t26 σ) fun σ =>
  bindV (vBuild [(I 0), (I 0), (I 0), (I 0), (.slice none 0 0)] [(0, 1, (I 1))]) fun t29 =>
  bindV (vBuild [(I 0), (I 0), (I 0), (.slice none 0 0)] [(0, 1, (I 2)), (1, 1, (I 5)), (2, 1, (I 5))]) fun t30 =>
  bindV (vLoad true 2 t1 σ) fun t31 =>
  bindV (vLoad true 9 t3 σ) fun t32 =>
  bindR (call n_job_Tick [t29, t30, t31, t32, (I 8)] σ) fun t33 σ =>
  bindV (vExtract 0 t33) fun t34 =>
  bindV (vExtract 1 t33) fun t35 =>
  bindR (vBox (.agg ⟨(rep [(I 0)] 9)⟩) σ) fun t5 σ =>
  bindS (vStore 9 t5 t34 σ) fun σ =>
  bindR (call n_bench_New [] σ) fun t36 σ =>
  bindR (call n_agent_New [] σ) fun t37 σ =>
  bindR (call n_mail_New [] σ) fun t38 σ =>
  bindV (vEq .nilp false t36 nilP) fun t40 =>
  bindV (bif kyes t40 false then some t37 else some undefV) fun t42 =>
  bindV (bif kyes t40 false then vEq .nilp false t42 nilP else some undefV) fun t43 =>
  bindV (vPick t40 tt t43) fun t44 =>
  bindV (bif kyes t44 false then some t38 else some undefV) fun t46 =>
  bindV (bif kyes t44 false then vEq .nilp false t46 nilP else some undefV) fun t47 =>
  bindV (vPick t44 tt t47) fun t48 =>
  ifV t48 (
  some (ff, σ)) (
  bindR (call n_bench_Bench_Ready [t36, (I 2), (I 9)] σ) fun t50 σ =>
  bindR (call n_bench_Bench_Ready [t36, (I 1), (I 9)] σ) fun t52 σ =>
  bindR (call n_agent_Agent_Ask [t37, (I 4), (I 1)] σ) fun t54 σ =>
  bindR (call n_agent_Agent_Tick [t37] σ) fun t57 σ =>
  bindV (vExtract 0 t57) fun t58 =>
  bindV (vExtract 1 t57) fun t59 =>
  bindV (vBuild (rep [(I 0)] 5) [(0, 1, (I 2)), (1, 1, (I 2)), (3, 1, (I 5))]) fun t61 =>
  bindR (call n_mail_Mails_Say [t38, t61] σ) fun t62 σ =>
  bindR (call n_mail_Mails_Due [t38, (I 5)] σ) fun t64 σ =>
  bindR (call n_law18x_Begun [] σ) fun t65 σ =>
  bindR (bif kyes t65 true then call n_law2x_Begun [] σ else some (undefV, σ)) fun t67 σ =>
  bindV (vPick t65 t67 ff) fun t68 =>
  bindV (bif kyes t68 true then vFieldAddr 0 t2 else some undefV) fun t70 =>
  bindV (bif kyes t68 true then vLoad false 1 t70 σ else some undefV) fun t71 =>
  bindV (bif kyes t68 true then abin .eql t71 (I 2) else some undefV) fun t72 =>
  bindV (vPick t68 t72 ff) fun t73 =>
  bindV (bif kyes t73 true then vLoad true 9 t2 σ else some undefV) fun t75 =>
  bindR (bif kyes t73 true then call n_job_Active [t75] σ else some (undefV, σ)) fun t76 σ =>
  bindV (vPick t73 t76 ff) fun t77 =>
  bindV (bif kyes t77 true then vLoad true 2 t1 σ else some undefV) fun t79 =>
  bindV (bif kyes t77 true then vLoad true 9 t2 σ else some undefV) fun t80 =>
  bindR (bif kyes t77 true then call n_job_Deadline [t79, t80] σ else some (undefV, σ)) fun t81 σ =>
  bindV (bif kyes t77 true then abin .eql t81 (I 8) else some undefV) fun t82 =>
  bindV (vPick t77 t82 ff) fun t83 =>
  bindV (bif kyes t83 true then vLoad true 2 t1 σ else some undefV) fun t85 =>
  bindV (bif kyes t83 true then vLoad true 9 t2 σ else some undefV) fun t86 =>
  bindR (bif kyes t83 true then call n_job_Begins [t85, t86] σ else some (undefV, σ)) fun t87 σ =>
  bindV (bif kyes t83 true then abin .eql t87 (I 3) else some undefV) fun t88 =>
  bindV (vPick t83 t88 ff) fun t89 =>
  bindV (bif kyes t89 true then some t27 else some undefV) fun t91 =>
  bindV (bif kyes t89 true then abin .eql t91 (I 1) else some undefV) fun t92 =>
  bindV (vPick t89 t92 ff) fun t93 =>
  bindV (bif kyes t93 true then vFieldAddr 3 t3 else some undefV) fun t95 =>
  bindV (bif kyes t93 true then vLoad false 1 t95 σ else some undefV) fun t96 =>
  bindV (bif kyes t93 true then abin .eql t96 (I 1) else some undefV) fun t97 =>
  bindV (vPick t93 t97 ff) fun t98 =>
  bindV (bif kyes t98 true then some t35 else some undefV) fun t100 =>
  bindV (bif kyes t98 true then abin .eql t100 (I 2) else some undefV) fun t101 =>
  bindV (vPick t98 t101 ff) fun t102 =>
  bindV (bif kyes t102 true then vFieldAddr 8 t5 else some undefV) fun t104 =>
  bindV (bif kyes t102 true then vLoad false 1 t104 σ else some undefV) fun t105 =>
  bindV (bif kyes t102 true then abin .eql t105 (I 9) else some undefV) fun t106 =>
  bindV (vPick t102 t106 ff) fun t107 =>
  bindV (bif kyes t107 true then some t36 else some undefV) fun t109 =>
  bindR (bif kyes t107 true then call n_bench_Bench_Runs [t109] σ else some (undefV, σ)) fun t110 σ =>
  bindV (bif kyes t107 true then abin .eql t110 (I 1) else some undefV) fun t111 =>
  bindV (vPick t107 t111 ff) fun t112 =>
  bindV (bif kyes t112 true then some t36 else some undefV) fun t114 =>
  bindR (bif kyes t112 true then call n_bench_Bench_Leave [t114, (I 1)] σ else some (undefV, σ)) fun t115 σ =>
  bindV (vPick t112 t115 ff) fun t116 =>
  bindV (bif kyes t116 true then some t36 else some undefV) fun t118 =>
  bindR (bif kyes t116 true then call n_bench_Bench_Len [t118] σ else some (undefV, σ)) fun t119 σ =>
  bindV (bif kyes t116 true then abin .eql t119 (I 1) else some undefV) fun t120 =>
  bindV (vPick t116 t120 ff) fun t121 =>
  bindV (bif kyes t121 true then some t54 else some undefV) fun t123 =>
  bindV (vPick t121 t123 ff) fun t124 =>
  bindV (bif kyes t124 true then some t58 else some undefV) fun t126 =>
  bindV (bif kyes t124 true then abin .eql t126 (I 4) else some undefV) fun t127 =>
  bindV (vPick t124 t127 ff) fun t128 =>
  bindV (bif kyes t128 true then some t59 else some undefV) fun t130 =>
  bindV (vPick t128 t130 ff) fun t131 =>
  bindV (bif kyes t131 true then some t37 else some undefV) fun t133 =>
  bindR (bif kyes t131 true then call n_agent_Agent_Serves [t133] σ else some (undefV, σ)) fun t134 σ =>
  bindV (bif kyes t131 true then abin .eql t134 (I 0) else some undefV) fun t135 =>
  bindV (vPick t131 t135 ff) fun t136 =>
  bindV (bif kyes t136 true then some t62 else some undefV) fun t138 =>
  bindV (vPick t136 t138 ff) fun t139 =>
  bindV (bif kyes t139 true then some t64 else some undefV) fun t141 =>
  bindV (bif kyes t139 true then vLen .slice t141 σ else some undefV) fun t142 =>
  bindV (bif kyes t139 true then abin .eql t142 (I 1) else some undefV) fun t143 =>
  bindV (vPick t139 t143 ff) fun t144 =>
  bindV (bif kyes t144 true then some t38 else some undefV) fun t146 =>
  bindR (bif kyes t144 true then call n_mail_Mails_Len [t146] σ else some (undefV, σ)) fun t147 σ =>
  bindV (bif kyes t144 true then abin .eql t147 (I 0) else some undefV) fun t148 =>
  bindV (vPick t144 t148 ff) fun t149 =>
  some (t149, σ))
theorem law19x_begunEq (call : CallF H) (f : Nat) (σ : St H) : kbody call f (codeOf P n_law19x_begun) [] σ = law19x_begun call f σ := by kernel_rfl

def seat_Seats_admit_place_Drop (call : CallF H) (f : Nat) (a0 a1 : Value) (σ : St H) : R H :=
  bindR (call n_seat_Seats_admit_place_at [a0, a1] σ) fun t8 σ =>
  bindV (vEq .nilp false t8 nilP) fun t10 =>
  ifV t10 (
  some (ff, σ)) (
  bindV (vBuild [(I 0), (I 0), (I 0), (.slice none 0 0), (I 0), (.slice none 0 0), ff] []) fun t12 =>
  bindV (vNil t8) fun t13 =>
  bindS (vStore 7 t13 t12 σ) fun σ =>
  some (tt, σ))
theorem seat_Seats_admit_place_DropEq (call : CallF H) (f : Nat) (a0 a1 : Value) (σ : St H) : kbody call f (codeOf P n_seat_Seats_admit_place_Drop) [a0, a1] σ = seat_Seats_admit_place_Drop call f a0 a1 σ := by kernel_rfl

def job_there (call : CallF H) (f : Nat) (a0 a1 : Value) (σ : St H) : R H :=
  bindR (vBox a0 σ) fun t2 σ =>
  bindR (vBox a1 σ) fun t3 σ =>
  bindV (vFieldAddr 4 t3) fun t5 =>
  bindV (vLoad false 1 t5 σ) fun t6 =>
  bindV (abin .geq t6 (I 0)) fun t7 =>
  bindV (bif kyes t7 true then vFieldAddr 4 t3 else some undefV) fun t9 =>
  bindV (bif kyes t7 true then vLoad false 1 t9 σ else some undefV) fun t10 =>
  bindV (bif kyes t7 true then vFieldAddr 1 t2 else some undefV) fun t11 =>
  bindV (bif kyes t7 true then vLoad false 1 t11 σ else some undefV) fun t12 =>
  bindV (bif kyes t7 true then vLen .slice t12 σ else some undefV) fun t13 =>
  bindV (bif kyes t7 true then abin .lss t10 t13 else some undefV) fun t14 =>
  bindV (vPick t7 t14 ff) fun t15 =>
  some (t15, σ)
theorem job_thereEq (call : CallF H) (f : Nat) (a0 a1 : Value) (σ : St H) : kbody call f (codeOf P n_job_there) [a0, a1] σ = job_there call f a0 a1 σ := by kernel_rfl

def bench_Bench_Ready (call : CallF H) (f : Nat) (a0 a1 a2 : Value) (σ : St H) : R H :=
  bindV (vEq .nilp true a0 nilP) fun t8 =>
  bindV (bif kyes t8 true then some a1 else some undefV) fun t10 =>
  bindV (bif kyes t8 true then abin .geq t10 (I 1) else some undefV) fun t11 =>
  bindV (vPick t8 t11 ff) fun t12 =>
  bindV (bif kyes t12 true then some a0 else some undefV) fun t14 =>
  bindV (bif kyes t12 true then vNil t14 else some undefV) fun t15 =>
  bindV (bif kyes t12 true then vFieldAddr 0 t15 else some undefV) fun t16 =>
  bindV (bif kyes t12 true then vLoad false 1 t16 σ else some undefV) fun t17 =>
  bindV (bif kyes t12 true then some a1 else some undefV) fun t18 =>
  bindV (bif kyes t12 true then some a2 else some undefV) fun t19 =>
  bindV (bif kyes t12 true then some a1 else some undefV) fun t20 =>
  bindR (bif kyes t12 true then call n_heap_Heap_int_Put [t17, t18, t19, t20] σ else some (undefV, σ)) fun t21 σ =>
  bindV (vPick t12 t21 ff) fun t22 =>
  some (t22, σ)
theorem bench_Bench_ReadyEq (call : CallF H) (f : Nat) (a0 a1 a2 : Value) (σ : St H) : kbody call f (codeOf P n_bench_Bench_Ready) [a0, a1, a2] σ = bench_Bench_Ready call f a0 a1 a2 σ := by kernel_rfl

def job_Deadline (call : CallF H) (f : Nat) (a0 a1 : Value) (σ : St H) : R H :=
  bindR (vBox a0 σ) fun t2 σ =>
  bindR (vBox a1 σ) fun t3 σ =>
  bindV (vLoad true 2 t2 σ) fun t5 =>
  bindV (vFieldAddr 4 t3) fun t6 =>
  bindV (vLoad false 1 t6 σ) fun t7 =>
  bindV (vFieldAddr 1 t3) fun t8 =>
  bindV (vLoad false 1 t8 σ) fun t9 =>
  bindR (call n_plan_Deadline [t5, t7, t9] σ) fun t10 σ =>
  some (t10, σ)
theorem job_DeadlineEq (call : CallF H) (f : Nat) (a0 a1 : Value) (σ : St H) : kbody call f (codeOf P n_job_Deadline) [a0, a1] σ = job_Deadline call f a0 a1 σ := by kernel_rfl

def slices_ContainsFunc__int_int (call : CallF H) (f : Nat) (a0 a1 : Value) (σ : St H) : R H :=
  bindR (call n_slices_IndexFunc__int_int [a0, a1] σ) fun t7 σ =>
  bindV (abin .geq t7 (I 0)) fun t8 =>
  some (t8, σ)
theorem slices_ContainsFunc__int_intEq (call : CallF H) (f : Nat) (a0 a1 : Value) (σ : St H) : kbody call f (codeOf P n_slices_ContainsFunc__int_int) [a0, a1] σ = slices_ContainsFunc__int_int call f a0 a1 σ := by kernel_rfl

def judge_overdone_1 (call : CallF H) (f : Nat) (a0 a1 : Value) (σ : St H) : R H :=
  bindV (vLoad false 1 a1 σ) fun t9 =>
  bindR (call n_kernel_Kernel_Admit [t9] σ) fun t10 σ =>
  bindR (call n_admit_Admit_Task [t10, a0] σ) fun t12 σ =>
  bindV (vExtract 0 t12) fun t13 =>
  bindV (vExtract 1 t12) fun t14 =>
  bindR (vBox (.agg ⟨[(I 0), (I 0), (I 0), (.slice none 0 0)]⟩) σ) fun t4 σ =>
  bindS (vStore 4 t4 t13 σ) fun σ =>
  bindV (vLoad false 1 a1 σ) fun t16 =>
  bindR (call n_kernel_Kernel_Job [t16, a0] σ) fun t18 σ =>
  bindV (vExtract 0 t18) fun t19 =>
  bindV (vExtract 1 t18) fun t20 =>
  bindR (vBox (.agg ⟨(rep [(I 0)] 9)⟩) σ) fun t6 σ =>
  bindS (vStore 9 t6 t19 σ) fun σ =>
  bindV (vFieldAddr 3 t6) fun t21 =>
  bindV (vLoad false 1 t21 σ) fun t22 =>
  bindV (vFieldAddr 0 t4) fun t23 =>
  bindV (vLoad false 1 t23 σ) fun t24 =>
  bindV (abin .gtr t22 t24) fun t25 =>
  some (t25, σ)
theorem judge_overdone_1Eq (call : CallF H) (f : Nat) (a0 a1 : Value) (σ : St H) : kbody call f (codeOf P n_judge_overdone_1) [a0, a1] σ = judge_overdone_1 call f a0 a1 σ := by kernel_rfl

abbrev slices_Concat__int_intR : List ARes := [.tmp 2]
def slices_Concat__int_intJ1 (call : CallF H) (f : Nat) (t6 : Value) (σ : St H) : R H :=
  some (t6, σ)
def slices_Concat__int_intL2 (call : CallF H) (f : Nat) (n : Nat) : Value → Value → Value → Value → St H → R H :=
  Nat.rec (fun _ _ _ _ _ => none) (fun _ r2 => fun t6 t25 t26 t27 σ =>
  bindV (abin .lss t27 t26) fun t28 =>
  ifV t28 (
  bindV (vIndexAddr 1 t25 t27) fun t29 =>
  bindV (vLoad false 1 t29 σ) fun t30 =>
  bindR (vAppend 1 8 [(I 0)] false t6 t30 σ) fun t33 σ =>
  bindV (abin .add t27 (I 1)) fun t34 =>
  r2 t33 t25 t26 t34 σ) (
  slices_Concat__int_intJ1 call f t6 σ)) n
def slices_Concat__int_intJ3 (call : CallF H) (f : Nat) (t0 t6 : Value) (σ : St H) : R H :=
  bindV (vLen .slice t0 σ) fun t26 =>
  slices_Concat__int_intL2 call f f t6 t0 t26 (I 0) σ
def slices_Concat__int_intJ4 (call : CallF H) (f : Nat) (t0 t3 : Value) (σ : St H) : R H :=
  bindR (call n_slices_Grow__int_int [(.slice none 0 0), t3] σ) fun t24 σ =>
  slices_Concat__int_intJ3 call f t0 t24 σ
def slices_Concat__int_intJ6 (call : CallF H) (f : Nat) (r5 : Value → Value → Value → Value → Value → St H → R H) (t0 t3 t9 t10 t11 : Value) (σ : St H) : R H :=
  bindV (abin .add t11 (I 1)) fun t22 =>
  r5 t0 t3 t9 t10 t22 σ
def slices_Concat__int_intL5 (call : CallF H) (f : Nat) (n : Nat) : Value → Value → Value → Value → Value → St H → R H :=
  Nat.rec (fun _ _ _ _ _ _ => none) (fun _ r5 => fun t0 t3 t9 t10 t11 σ =>
  bindV (abin .lss t11 t10) fun t12 =>
  ifV t12 (
  bindV (vIndexAddr 1 t9 t11) fun t13 =>
  bindV (vLoad false 1 t13 σ) fun t14 =>
  bindV (vLen .slice t14 σ) fun t17 =>
  bindV (abin .add t3 t17) fun t18 =>
  bindV (abin .lss t18 (I 0)) fun t20 =>
  ifV t20 (
  bindV (none) fun t21 =>
  bindV (none) fun _ =>
  slices_Concat__int_intJ6 call f r5 t0 t18 t9 t10 t11 σ) (
  slices_Concat__int_intJ6 call f r5 t0 t18 t9 t10 t11 σ)) (
  slices_Concat__int_intJ4 call f t0 t3 σ)) n
def slices_Concat__int_intJ7 (call : CallF H) (f : Nat) (t0 t3 : Value) (σ : St H) : R H :=
  bindV (vLen .slice t0 σ) fun t10 =>
  slices_Concat__int_intL5 call f f t0 t3 t0 t10 (I 0) σ
def slices_Concat__int_intJ8 (call : CallF H) (f : Nat) (t0 : Value) (σ : St H) : R H :=
  slices_Concat__int_intJ7 call f t0 (I 0) σ
def slices_Concat__int_intJ9 (call : CallF H) (f : Nat) (t0 : Value) (σ : St H) : R H :=
  slices_Concat__int_intJ8 call f t0 σ
def slices_Concat__int_int (call : CallF H) (f : Nat) (a0 : Value) (σ : St H) : R H := slices_Concat__int_intJ9 call f a0 σ
theorem slices_Concat__int_intEq (call : CallF H) (f : Nat) (a0 : Value) (σ : St H) : kbody call f (codeOf P n_slices_Concat__int_int) [a0] σ = slices_Concat__int_int call f a0 σ :=
  kbody_of (rs := slices_Concat__int_intR) (by kernel_rfl) (by kernel_rfl) (by kernel_rfl) (seq_eq (by kernel_rfl) (seq_eq (by kernel_rfl) (seq_eq (by kernel_rfl) (seq_eq (by kernel_rfl) (seq_eq (by kernel_rfl) (leaf (B := fun e σ => slices_Concat__int_intJ1 call f (e 6) σ) (by kernel_rfl))
  (seq_eq (by kernel_rfl) (block_eq (by kernel_rfl) (loop_eq (fun n e σ => slices_Concat__int_intL2 call f n (e 6) (e 25) (e 26) (e 27) σ) (by kernel_rfl) (by kernel_rfl) (fun n2 => (leaf (by kernel_rfl)))))
  (leaf (B := fun e σ => slices_Concat__int_intJ3 call f (e 0) (e 6) σ) (by kernel_rfl))))
  (leaf (B := fun e σ => slices_Concat__int_intJ4 call f (e 0) (e 3) σ) (by kernel_rfl)))
  (seq_eq (by kernel_rfl) (block_eq (by kernel_rfl) (loop_eq (fun n e σ => slices_Concat__int_intL5 call f n (e 0) (e 3) (e 9) (e 10) (e 11) σ) (by kernel_rfl) (by kernel_rfl) (fun n5 => (leaf (by kernel_rfl)))))
  (leaf (B := fun e σ => slices_Concat__int_intJ7 call f (e 0) (e 3) σ) (by kernel_rfl))))
  (leaf (B := fun e σ => slices_Concat__int_intJ8 call f (e 0) σ) (by kernel_rfl)))
  (leaf (B := fun e σ => slices_Concat__int_intJ9 call f (e 0) σ) (by kernel_rfl))) (by kernel_rfl)

abbrev seat_Seats_admit_place_IdsR : List ARes := [.tmp 2]
def seat_Seats_admit_place_IdsJ1 (call : CallF H) (f : Nat) (t3 : Value) (σ : St H) : R H :=
  some (t3, σ)
def seat_Seats_admit_place_IdsJ3 (call : CallF H) (f : Nat) (r2 : Value → Value → Value → Value → St H → R H) (t3 t11 t12 t13 : Value) (σ : St H) : R H :=
  bindV (abin .add t13 (I 1)) fun t25 =>
  r2 t3 t11 t12 t25 σ
def seat_Seats_admit_place_IdsL2 (call : CallF H) (f : Nat) (n : Nat) : Value → Value → Value → Value → St H → R H :=
  Nat.rec (fun _ _ _ _ _ => none) (fun _ r2 => fun t3 t11 t12 t13 σ =>
  bindV (abin .lss t13 t12) fun t14 =>
  ifV t14 (
  bindV (vIndexAddr 7 t11 t13) fun t16 =>
  bindV (vLoad true 7 t16 σ) fun t17 =>
  bindR (vBox (.agg ⟨[(I 0), (I 0), (I 0), (.slice none 0 0), (I 0), (.slice none 0 0), ff]⟩) σ) fun t5 σ =>
  bindS (vStore 7 t5 t17 σ) fun σ =>
  bindV (vFieldAddr 6 t5) fun t18 =>
  bindV (vLoad false 1 t18 σ) fun t19 =>
  ifV t19 (
  bindV (abin .add t13 (I 1)) fun t22 =>
  bindR (vBuildSlice 1 [(I 0)] [(0, 1, t22)] σ) fun t23 σ =>
  bindR (vAppend 1 8 [(I 0)] false t3 t23 σ) fun t24 σ =>
  seat_Seats_admit_place_IdsJ3 call f r2 t24 t11 t12 t13 σ) (
  seat_Seats_admit_place_IdsJ3 call f r2 t3 t11 t12 t13 σ)) (
  seat_Seats_admit_place_IdsJ1 call f t3 σ)) n
def seat_Seats_admit_place_IdsJ4 (call : CallF H) (f : Nat) (t0 t3 : Value) (σ : St H) : R H :=
  bindV (vNil t0) fun t9 =>
  bindV (vFieldAddr 0 t9) fun t10 =>
  bindV (vLoad false 1 t10 σ) fun t11 =>
  bindV (vLen .slice t11 σ) fun t12 =>
  seat_Seats_admit_place_IdsL2 call f f t3 t11 t12 (I 0) σ
def seat_Seats_admit_place_IdsJ5 (call : CallF H) (f : Nat) (t0 : Value) (σ : St H) : R H :=
  seat_Seats_admit_place_IdsJ4 call f t0 (.slice none 0 0) σ
def seat_Seats_admit_place_IdsJ6 (call : CallF H) (f : Nat) (t0 : Value) (σ : St H) : R H :=
  bindV (vEq .nilp false t0 nilP) fun t7 =>
  ifV t7 (
  some ((.slice none 0 0), σ)) (
  seat_Seats_admit_place_IdsJ5 call f t0 σ)
def seat_Seats_admit_place_IdsJ7 (call : CallF H) (f : Nat) (t0 : Value) (σ : St H) : R H :=
  seat_Seats_admit_place_IdsJ6 call f t0 σ
def seat_Seats_admit_place_Ids (call : CallF H) (f : Nat) (a0 : Value) (σ : St H) : R H := seat_Seats_admit_place_IdsJ7 call f a0 σ
theorem seat_Seats_admit_place_IdsEq (call : CallF H) (f : Nat) (a0 : Value) (σ : St H) : kbody call f (codeOf P n_seat_Seats_admit_place_Ids) [a0] σ = seat_Seats_admit_place_Ids call f a0 σ :=
  kbody_of (rs := seat_Seats_admit_place_IdsR) (by kernel_rfl) (by kernel_rfl) (by kernel_rfl) (seq_eq (by kernel_rfl) (seq_eq (by kernel_rfl) (seq_eq (by kernel_rfl) (seq_eq (by kernel_rfl) (leaf (B := fun e σ => seat_Seats_admit_place_IdsJ1 call f (e 3) σ) (by kernel_rfl))
  (seq_eq (by kernel_rfl) (block_eq (by kernel_rfl) (loop_eq (fun n e σ => seat_Seats_admit_place_IdsL2 call f n (e 3) (e 11) (e 12) (e 13) σ) (by kernel_rfl) (by kernel_rfl) (fun n2 => (leaf (by kernel_rfl)))))
  (leaf (B := fun e σ => seat_Seats_admit_place_IdsJ4 call f (e 0) (e 3) σ) (by kernel_rfl))))
  (leaf (B := fun e σ => seat_Seats_admit_place_IdsJ5 call f (e 0) σ) (by kernel_rfl)))
  (leaf (B := fun e σ => seat_Seats_admit_place_IdsJ6 call f (e 0) σ) (by kernel_rfl)))
  (leaf (B := fun e σ => seat_Seats_admit_place_IdsJ7 call f (e 0) σ) (by kernel_rfl))) (by kernel_rfl)

def rule_Config (call : CallF H) (f : Nat) (a0 : Value) (σ : St H) : R H :=
  bindR (vBox a0 σ) fun t1 σ =>
  bindV (vFieldAddr 0 t1) fun t4 =>
  bindV (vLoad false 1 t4 σ) fun t5 =>
  bindR (call n_rule_within [t5, (I 1), (I 6)] σ) fun t6 σ =>
  bindV (aun .not t6) fun t7 =>
  bindV (bif kyes t7 false then vFieldAddr 1 t1 else some undefV) fun t9 =>
  bindV (bif kyes t7 false then vLoad false 1 t9 σ else some undefV) fun t10 =>
  bindR (bif kyes t7 false then call n_rule_within [t10, (I 0), (I 3)] σ else some (undefV, σ)) fun t11 σ =>
  bindV (bif kyes t7 false then aun .not t11 else some undefV) fun t12 =>
  bindV (vPick t7 tt t12) fun t13 =>
  bindV (bif kyes t13 false then vFieldAddr 2 t1 else some undefV) fun t15 =>
  bindV (bif kyes t13 false then vLoad false 1 t15 σ else some undefV) fun t16 =>
  bindR (bif kyes t13 false then call n_rule_within [t16, (I 0), (I 5)] σ else some (undefV, σ)) fun t17 σ =>
  bindV (bif kyes t13 false then aun .not t17 else some undefV) fun t18 =>
  bindV (vPick t13 tt t18) fun t19 =>
  bindV (bif kyes t19 false then vFieldAddr 3 t1 else some undefV) fun t21 =>
  bindV (bif kyes t19 false then vLoad false 1 t21 σ else some undefV) fun t22 =>
  bindR (bif kyes t19 false then call n_rule_within [t22, (I 0), (I 5)] σ else some (undefV, σ)) fun t23 σ =>
  bindV (bif kyes t19 false then aun .not t23 else some undefV) fun t24 =>
  bindV (vPick t19 tt t24) fun t25 =>
  ifV t25 (
  some (ff, σ)) (
  bindV (vFieldAddr 4 t1) fun t27 =>
  bindV (vLoad false 1 t27 σ) fun t28 =>
  bindV (vLen .slice t28 σ) fun t29 =>
  bindV (abin .leq t29 (I 6)) fun t30 =>
  bindV (bif kyes t30 true then vFieldAddr 4 t1 else some undefV) fun t32 =>
  bindV (bif kyes t30 true then vLoad false 1 t32 σ else some undefV) fun t33 =>
  bindV (bif kyes t30 true then some (.func (.func n_rule_Config_1) ⟨[]⟩ ⟨[t1]⟩) else some undefV) fun t34 =>
  bindR (bif kyes t30 true then call n_slices_ContainsFunc__int_int [t33, t34] σ else some (undefV, σ)) fun t35 σ =>
  bindV (bif kyes t30 true then aun .not t35 else some undefV) fun t36 =>
  bindV (vPick t30 t36 ff) fun t37 =>
  some (t37, σ))
theorem rule_ConfigEq (call : CallF H) (f : Nat) (a0 : Value) (σ : St H) : kbody call f (codeOf P n_rule_Config) [a0] σ = rule_Config call f a0 σ := by kernel_rfl

def slices_Clone__int_int (call : CallF H) (f : Nat) (a0 : Value) (σ : St H) : R H :=
  bindV (vEq .nils false a0 (.slice none 0 0)) fun t4 =>
  ifV t4 (
  some ((.slice none 0 0), σ)) (
  bindR (vBuildSlice 0 [] [] σ) fun t5 σ =>
  bindR (vAppend 1 8 [(I 0)] false t5 a0 σ) fun t7 σ =>
  some (t7, σ))
theorem slices_Clone__int_intEq (call : CallF H) (f : Nat) (a0 : Value) (σ : St H) : kbody call f (codeOf P n_slices_Clone__int_int) [a0] σ = slices_Clone__int_int call f a0 σ := by kernel_rfl

def seat_New_admit_place (call : CallF H) (f : Nat) (a0 : Value) (σ : St H) : R H :=
  bindV (vMx [a0, (I 0)]) fun t4 =>
  bindV (vMn [t4, (I 100)]) fun t5 =>
  bindR (vMkSlice 88 [(I 0), (I 0), (I 0), (.slice none 0 0), (I 0), (.slice none 0 0), ff] t5 t5 σ) fun t6 σ =>
  bindV (vBuild [(.slice none 0 0)] [(0, 1, t6)]) fun t7 =>
  bindR (vBox t7 σ) fun t8 σ =>
  some (t8, σ)
theorem seat_New_admit_placeEq (call : CallF H) (f : Nat) (a0 : Value) (σ : St H) : kbody call f (codeOf P n_seat_New_admit_place) [a0] σ = seat_New_admit_place call f a0 σ := by kernel_rfl

def box_New_api_Mail (call : CallF H) (f : Nat) (a0 : Value) (σ : St H) : R H :=
  bindV (vMx [a0, (I 0)]) fun t4 =>
  bindV (vMn [t4, (I 100)]) fun t5 =>
  bindR (vMkChan 40 t5 σ) fun t6 σ =>
  bindV (vBuild [(.chan none)] [(0, 1, t6)]) fun t7 =>
  bindR (vBox t7 σ) fun t8 σ =>
  some (t8, σ)
theorem box_New_api_MailEq (call : CallF H) (f : Nat) (a0 : Value) (σ : St H) : kbody call f (codeOf P n_box_New_api_Mail) [a0] σ = box_New_api_Mail call f a0 σ := by kernel_rfl

def line_New_int (call : CallF H) (f : Nat) (a0 : Value) (σ : St H) : R H :=
  bindR (call n_heap_New_int [a0] σ) fun t4 σ =>
  bindV (vBuild [nilP] [(0, 1, t4)]) fun t5 =>
  bindR (vBox t5 σ) fun t6 σ =>
  some (t6, σ)
theorem line_New_intEq (call : CallF H) (f : Nat) (a0 : Value) (σ : St H) : kbody call f (codeOf P n_line_New_int) [a0] σ = line_New_int call f a0 σ := by kernel_rfl

def heap_New_int (call : CallF H) (f : Nat) (a0 : Value) (σ : St H) : R H :=
  bindV (vMx [a0, (I 0)]) fun t4 =>
  bindV (vMn [t4, (I 1000)]) fun t5 =>
  bindR (vMkMap σ) fun t6 σ =>
  bindV (vBuild [(I 0), (.slice none 0 0), (.map none), (I 0)] [(0, 1, t5), (2, 1, t6)]) fun t7 =>
  bindR (vBox t7 σ) fun t8 σ =>
  some (t8, σ)
theorem heap_New_intEq (call : CallF H) (f : Nat) (a0 : Value) (σ : St H) : kbody call f (codeOf P n_heap_New_int) [a0] σ = heap_New_int call f a0 σ := by kernel_rfl

def ring_New_agent_request (call : CallF H) (f : Nat) (a0 : Value) (σ : St H) : R H :=
  bindV (vMx [a0, (I 0)]) fun t4 =>
  bindV (vMn [t4, (I 1000)]) fun t5 =>
  bindR (vMkSlice 16 [(I 0), (I 0)] t5 t5 σ) fun t6 σ =>
  bindV (vBuild [(.slice none 0 0), (I 0), (I 0)] [(0, 1, t6)]) fun t7 =>
  bindR (vBox t7 σ) fun t8 σ =>
  some (t8, σ)
theorem ring_New_agent_requestEq (call : CallF H) (f : Nat) (a0 : Value) (σ : St H) : kbody call f (codeOf P n_ring_New_agent_request) [a0] σ = ring_New_agent_request call f a0 σ := by kernel_rfl

def seat_Seats_admit_place_at (call : CallF H) (f : Nat) (a0 a1 : Value) (σ : St H) : R H :=
  bindV (vEq .nilp false a0 nilP) fun t6 =>
  bindV (bif kyes t6 false then some a1 else some undefV) fun t8 =>
  bindV (bif kyes t6 false then abin .lss t8 (I 1) else some undefV) fun t9 =>
  bindV (vPick t6 tt t9) fun t10 =>
  bindV (bif kyes t10 false then some a1 else some undefV) fun t12 =>
  bindV (bif kyes t10 false then some a0 else some undefV) fun t13 =>
  bindV (bif kyes t10 false then vNil t13 else some undefV) fun t14 =>
  bindV (bif kyes t10 false then vFieldAddr 0 t14 else some undefV) fun t15 =>
  bindV (bif kyes t10 false then vLoad false 1 t15 σ else some undefV) fun t16 =>
  bindV (bif kyes t10 false then vLen .slice t16 σ else some undefV) fun t17 =>
  bindV (bif kyes t10 false then abin .gtr t12 t17 else some undefV) fun t18 =>
  bindV (vPick t10 tt t18) fun t19 =>
  bindV (bif kyes t19 false then some a0 else some undefV) fun t21 =>
  bindV (bif kyes t19 false then vNil t21 else some undefV) fun t22 =>
  bindV (bif kyes t19 false then vFieldAddr 0 t22 else some undefV) fun t23 =>
  bindV (bif kyes t19 false then vLoad false 1 t23 σ else some undefV) fun t24 =>
  bindV (bif kyes t19 false then some a1 else some undefV) fun t25 =>
  bindV (bif kyes t19 false then abin .sub t25 (I 1) else some undefV) fun t26 =>
  bindV (bif kyes t19 false then vIndexAddr 7 t24 t26 else some undefV) fun t27 =>
  bindV (bif kyes t19 false then vFieldAddr 6 t27 else some undefV) fun t28 =>
  bindV (bif kyes t19 false then vLoad false 1 t28 σ else some undefV) fun t29 =>
  bindV (bif kyes t19 false then aun .not t29 else some undefV) fun t30 =>
  bindV (vPick t19 tt t30) fun t31 =>
  ifV t31 (
  some (nilP, σ)) (
  bindV (vNil a0) fun t33 =>
  bindV (vFieldAddr 0 t33) fun t34 =>
  bindV (vLoad false 1 t34 σ) fun t35 =>
  bindV (abin .sub a1 (I 1)) fun t37 =>
  bindV (vIndexAddr 7 t35 t37) fun t38 =>
  some (t38, σ))
theorem seat_Seats_admit_place_atEq (call : CallF H) (f : Nat) (a0 a1 : Value) (σ : St H) : kbody call f (codeOf P n_seat_Seats_admit_place_at) [a0, a1] σ = seat_Seats_admit_place_at call f a0 a1 σ := by kernel_rfl

end
end Go.G

