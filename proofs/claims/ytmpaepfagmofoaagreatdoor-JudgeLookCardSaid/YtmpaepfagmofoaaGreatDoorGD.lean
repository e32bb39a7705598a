/- Functions of the program, one Lean function each, and the proofs that they are the same (4). -/
import Derived.Test.YtmpaepfagmofoaaGreatDoorGN
set_option linter.all false
namespace Go.G
open Go Go.Ax
set_option maxRecDepth 100000
set_option linter.unusedVariables false
variable {H : HeapI}
noncomputable section
def rule_Same (call : CallF H) (f : Nat) (a0 a1 : Value) (σ : St H) : R H :=
  bindR (vBox a0 σ) fun t2 σ =>
  bindR (vBox a1 σ) fun t3 σ =>
  bindV (vFieldAddr 0 t2) fun t5 =>
  bindV (vLoad false 1 t5 σ) fun t6 =>
  bindV (vFieldAddr 0 t3) fun t7 =>
  bindV (vLoad false 1 t7 σ) fun t8 =>
  bindV (abin .eql t6 t8) fun t9 =>
  bindV (bif kyes t9 true then vFieldAddr 1 t2 else some undefV) fun t11 =>
  bindV (bif kyes t9 true then vLoad false 1 t11 σ else some undefV) fun t12 =>
  bindV (bif kyes t9 true then vFieldAddr 1 t3 else some undefV) fun t13 =>
  bindV (bif kyes t9 true then vLoad false 1 t13 σ else some undefV) fun t14 =>
  bindV (bif kyes t9 true then abin .eql t12 t14 else some undefV) fun t15 =>
  bindV (vPick t9 t15 ff) fun t16 =>
  bindV (bif kyes t16 true then vFieldAddr 2 t2 else some undefV) fun t18 =>
  bindV (bif kyes t16 true then vLoad false 1 t18 σ else some undefV) fun t19 =>
  bindV (bif kyes t16 true then vFieldAddr 2 t3 else some undefV) fun t20 =>
  bindV (bif kyes t16 true then vLoad false 1 t20 σ else some undefV) fun t21 =>
  bindV (bif kyes t16 true then abin .eql t19 t21 else some undefV) fun t22 =>
  bindV (vPick t16 t22 ff) fun t23 =>
  bindV (bif kyes t23 true then vFieldAddr 3 t2 else some undefV) fun t25 =>
  bindV (bif kyes t23 true then vLoad false 1 t25 σ else some undefV) fun t26 =>
  bindV (bif kyes t23 true then vFieldAddr 3 t3 else some undefV) fun t27 =>
  bindV (bif kyes t23 true then vLoad false 1 t27 σ else some undefV) fun t28 =>
  bindR (bif kyes t23 true then call n_slices_Equal__api_Section_api_Section [t26, t28] σ else some (undefV, σ)) fun t29 σ =>
  bindV (vPick t23 t29 ff) fun t30 =>
  some (t30, σ)
theorem rule_SameEq (call : CallF H) (f : Nat) (a0 a1 : Value) (σ : St H) : kbody call f (codeOf P n_rule_Same) [a0, a1] σ = rule_Same call f a0 a1 σ := by kernel_rfl

abbrev rule_AgentsR : List ARes := [.tmp 4]
def rule_AgentsJ1 (call : CallF H) (f : Nat) (t5 : Value) (σ : St H) : R H :=
  bindR (call n_slices_Sort__int_int [t5] σ) fun t35 σ =>
  bindR (call n_slices_Compact__int_int [t5] σ) fun t37 σ =>
  some (t37, σ)
def rule_AgentsL2 (call : CallF H) (f : Nat) (n : Nat) : Value → Value → Value → Value → Value → St H → R H :=
  Nat.rec (fun _ _ _ _ _ _ => none) (fun _ r2 => fun t2 t5 t18 t19 t20 σ =>
  bindV (abin .lss t20 t19) fun t21 =>
  ifV t21 (
  bindV (vIndexAddr 3 t18 t20) fun t22 =>
  bindV (vLoad true 3 t22 σ) fun t23 =>
  bindR (vBox (.agg ⟨[(I 0), (I 0), (I 0)]⟩) σ) fun t7 σ =>
  bindS (vStore 3 t7 t23 σ) fun σ =>
  bindV (vFieldAddr 4 t2) fun t25 =>
  bindV (vLoad false 1 t25 σ) fun t26 =>
  bindV (vFieldAddr 0 t7) fun t27 =>
  bindV (vLoad false 1 t27 σ) fun t28 =>
  bindV (vIndexAddr 1 t26 t28) fun t29 =>
  bindV (vLoad false 1 t29 σ) fun t30 =>
  bindR (vBuildSlice 1 [(I 0)] [(0, 1, t30)] σ) fun t31 σ =>
  bindR (vAppend 1 8 [(I 0)] false t5 t31 σ) fun t32 σ =>
  bindV (abin .add t20 (I 1)) fun t33 =>
  r2 t2 t32 t18 t19 t33 σ) (
  rule_AgentsJ1 call f t5 σ)) n
def rule_AgentsJ3 (call : CallF H) (f : Nat) (t2 t3 t5 : Value) (σ : St H) : R H :=
  bindV (vFieldAddr 3 t3) fun t17 =>
  bindV (vLoad false 1 t17 σ) fun t18 =>
  bindV (vLen .slice t18 σ) fun t19 =>
  rule_AgentsL2 call f f t2 t5 t18 t19 (I 0) σ
def rule_AgentsJ4 (call : CallF H) (f : Nat) (t2 t3 : Value) (σ : St H) : R H :=
  rule_AgentsJ3 call f t2 t3 (.slice none 0 0) σ
def rule_AgentsJ5 (call : CallF H) (f : Nat) (t2 t3 : Value) (σ : St H) : R H :=
  bindV (vLoad true 5 t2 σ) fun t8 =>
  bindR (call n_rule_Config [t8] σ) fun t9 σ =>
  bindV (aun .not t9) fun t10 =>
  bindV (bif kyes t10 false then vLoad true 5 t2 σ else some undefV) fun t12 =>
  bindV (bif kyes t10 false then vLoad true 4 t3 σ else some undefV) fun t13 =>
  bindR (bif kyes t10 false then call n_rule_Task [t12, t13] σ else some (undefV, σ)) fun t14 σ =>
  bindV (bif kyes t10 false then aun .not t14 else some undefV) fun t15 =>
  bindV (vPick t10 tt t15) fun t16 =>
  ifV t16 (
  some ((.slice none 0 0), σ)) (
  rule_AgentsJ4 call f t2 t3 σ)
def rule_AgentsJ6 (call : CallF H) (f : Nat) (t0 t1 : Value) (σ : St H) : R H :=
  bindR (vBox t0 σ) fun t2 σ =>
  bindR (vBox t1 σ) fun t3 σ =>
  rule_AgentsJ5 call f t2 t3 σ
def rule_Agents (call : CallF H) (f : Nat) (a0 a1 : Value) (σ : St H) : R H := rule_AgentsJ6 call f a0 a1 σ
theorem rule_AgentsEq (call : CallF H) (f : Nat) (a0 a1 : Value) (σ : St H) : kbody call f (codeOf P n_rule_Agents) [a0, a1] σ = rule_Agents call f a0 a1 σ :=
  kbody_of (rs := rule_AgentsR) (by kernel_rfl) (by kernel_rfl) (by kernel_rfl) (seq_eq (by kernel_rfl) (seq_eq (by kernel_rfl) (seq_eq (by kernel_rfl) (seq_eq (by kernel_rfl) (leaf (B := fun e σ => rule_AgentsJ1 call f (e 5) σ) (by kernel_rfl))
  (seq_eq (by kernel_rfl) (block_eq (by kernel_rfl) (loop_eq (fun n e σ => rule_AgentsL2 call f n (e 2) (e 5) (e 18) (e 19) (e 20) σ) (by kernel_rfl) (by kernel_rfl) (fun n2 => (leaf (by kernel_rfl)))))
  (leaf (B := fun e σ => rule_AgentsJ3 call f (e 2) (e 3) (e 5) σ) (by kernel_rfl))))
  (leaf (B := fun e σ => rule_AgentsJ4 call f (e 2) (e 3) σ) (by kernel_rfl)))
  (leaf (B := fun e σ => rule_AgentsJ5 call f (e 2) (e 3) σ) (by kernel_rfl)))
  (leaf (B := fun e σ => rule_AgentsJ6 call f (e 0) (e 1) σ) (by kernel_rfl))) (by kernel_rfl)

def note_num (call : CallF H) (f : Nat) (a0 : Value) (σ : St H) : R H :=
  bindR (call n_strconv_FormatInt [a0, (I 10)] σ) fun t4 σ =>
  some (t4, σ)
theorem note_numEq (call : CallF H) (f : Nat) (a0 : Value) (σ : St H) : kbody call f (codeOf P n_note_num) [a0] σ = note_num call f a0 σ := by kernel_rfl

def note_widest (call : CallF H) (f : Nat) (σ : St H) : R H :=
  bindR (vBox (.agg ⟨[(I 0), (I 0), (I 0), (I 0), (.slice none 0 0)]⟩) σ) fun t0 σ =>
  bindR (vMkSlice 8 [(I 0)] (I 6) (I 6) σ) fun t1 σ =>
  bindV (vBuild [(I 0), (I 0), (I 0), (I 0), (.slice none 0 0)] [(0, 1, (I 1)), (1, 1, (I 1)), (4, 1, t1)]) fun t2 =>
  bindS (vStore 5 t0 t2 σ) fun σ =>
  resV [.c t0 true 5] σ
theorem note_widestEq (call : CallF H) (f : Nat) (σ : St H) : kbody call f (codeOf P n_note_widest) [] σ = note_widest call f σ := by kernel_rfl

def strings_Split (call : CallF H) (f : Nat) (a0 a1 : Value) (σ : St H) : R H :=
  bindR (call n_strings_genSplit [a0, a1, (I 0), (I (-1))] σ) fun t7 σ =>
  some (t7, σ)
theorem strings_SplitEq (call : CallF H) (f : Nat) (a0 a1 : Value) (σ : St H) : kbody call f (codeOf P n_strings_Split) [a0, a1] σ = strings_Split call f a0 a1 σ := by kernel_rfl

def note_parse (call : CallF H) (f : Nat) (a0 : Value) (σ : St H) : R H :=
  bindR (call n_strconv_ParseInt [a0, (I 10), (I 32)] σ) fun t7 σ =>
  bindV (vExtract 0 t7) fun t8 =>
  bindV (vExtract 1 t7) fun t9 =>
  bindV (vEq .nili true t9 .nilIface) fun t11 =>
  ifV t11 (
  some ((I (-1)), σ)) (
  some (t8, σ))
theorem note_parseEq (call : CallF H) (f : Nat) (a0 : Value) (σ : St H) : kbody call f (codeOf P n_note_parse) [a0] σ = note_parse call f a0 σ := by kernel_rfl

def strings_Cut (call : CallF H) (f : Nat) (a0 a1 : Value) (σ : St H) : R H :=
  bindR (call n_internal_stringslite_Cut [a0, a1] σ) fun t9 σ =>
  bindV (vExtract 0 t9) fun t10 =>
  bindV (vExtract 1 t9) fun t11 =>
  bindV (vExtract 2 t9) fun t12 =>
  some (.tuple ⟨[t10, t11, t12]⟩, σ)
theorem strings_CutEq (call : CallF H) (f : Nat) (a0 a1 : Value) (σ : St H) : kbody call f (codeOf P n_strings_Cut) [a0, a1] σ = strings_Cut call f a0 a1 σ := by kernel_rfl

abbrev slices_Equal__api_Section_api_SectionR : List ARes := [.tmp 4]
def slices_Equal__api_Section_api_SectionJ1 (call : CallF H) (f : Nat) (σ : St H) : R H :=
  some (tt, σ)
def slices_Equal__api_Section_api_SectionL2 (call : CallF H) (f : Nat) (n : Nat) : Value → Value → Value → Value → St H → R H :=
  Nat.rec (fun _ _ _ _ _ => none) (fun _ r2 => fun t0 t1 t12 t13 σ =>
  bindV (abin .lss t13 t12) fun t14 =>
  ifV t14 (
  bindV (vIndexAddr 3 t0 t13) fun t18 =>
  bindV (vLoad true 3 t18 σ) fun t19 =>
  bindV (vIndexAddr 3 t1 t13) fun t22 =>
  bindV (vLoad true 3 t22 σ) fun t23 =>
  bindV (vEq (.agg [true, true, true]) true t19 t23) fun t24 =>
  ifV t24 (
  some (ff, σ)) (
  bindV (abin .add t13 (I 1)) fun t25 =>
  r2 t0 t1 t12 t25 σ)) (
  slices_Equal__api_Section_api_SectionJ1 call f σ)) n
def slices_Equal__api_Section_api_SectionJ3 (call : CallF H) (f : Nat) (t0 t1 : Value) (σ : St H) : R H :=
  bindV (vLen .slice t0 σ) fun t12 =>
  slices_Equal__api_Section_api_SectionL2 call f f t0 t1 t12 (I 0) σ
def slices_Equal__api_Section_api_SectionJ4 (call : CallF H) (f : Nat) (t0 t1 : Value) (σ : St H) : R H :=
  bindV (vLen .slice t0 σ) fun t7 =>
  bindV (vLen .slice t1 σ) fun t9 =>
  bindV (abin .neq t7 t9) fun t10 =>
  ifV t10 (
  some (ff, σ)) (
  slices_Equal__api_Section_api_SectionJ3 call f t0 t1 σ)
def slices_Equal__api_Section_api_SectionJ5 (call : CallF H) (f : Nat) (t0 t1 : Value) (σ : St H) : R H :=
  slices_Equal__api_Section_api_SectionJ4 call f t0 t1 σ
def slices_Equal__api_Section_api_Section (call : CallF H) (f : Nat) (a0 a1 : Value) (σ : St H) : R H := slices_Equal__api_Section_api_SectionJ5 call f a0 a1 σ
theorem slices_Equal__api_Section_api_SectionEq (call : CallF H) (f : Nat) (a0 a1 : Value) (σ : St H) : kbody call f (codeOf P n_slices_Equal__api_Section_api_Section) [a0, a1] σ = slices_Equal__api_Section_api_Section call f a0 a1 σ :=
  kbody_of (rs := slices_Equal__api_Section_api_SectionR) (by kernel_rfl) (by kernel_rfl) (by kernel_rfl) (seq_eq (by kernel_rfl) (seq_eq (by kernel_rfl) (seq_eq (by kernel_rfl) (leaf (B := fun e σ => slices_Equal__api_Section_api_SectionJ1 call f σ) (by kernel_rfl))
  (seq_eq (by kernel_rfl) (block_eq (by kernel_rfl) (loop_eq (fun n e σ => slices_Equal__api_Section_api_SectionL2 call f n (e 0) (e 1) (e 12) (e 13) σ) (by kernel_rfl) (by kernel_rfl) (fun n2 => (leaf (by kernel_rfl)))))
  (leaf (B := fun e σ => slices_Equal__api_Section_api_SectionJ3 call f (e 0) (e 1) σ) (by kernel_rfl))))
  (leaf (B := fun e σ => slices_Equal__api_Section_api_SectionJ4 call f (e 0) (e 1) σ) (by kernel_rfl)))
  (leaf (B := fun e σ => slices_Equal__api_Section_api_SectionJ5 call f (e 0) (e 1) σ) (by kernel_rfl))) (by kernel_rfl)

abbrev slices_Compact__int_intR : List ARes := [.tmp 2]
def slices_Compact__int_intJ1 (call : CallF H) (f : Nat) (t0 : Value) (σ : St H) : R H :=
  some (t0, σ)
def slices_Compact__int_intJ3 (call : CallF H) (f : Nat) (r2 : Value → Value → St H → R H) (t0 t3 : Value) (σ : St H) : R H :=
  bindV (abin .add t3 (I 1)) fun t15 =>
  r2 t0 t15 σ
def slices_Compact__int_intJ4 (call : CallF H) (f : Nat) (r2 : Value → Value → St H → R H) (t0 t3 : Value) (σ : St H) : R H :=
  bindV (vSlice 1 t0 (some t3) none none) fun t56 =>
  bindV (none) fun _ =>
  bindV (vSlice 1 t0 none (some t3) none) fun t59 =>
  some (t59, σ)
def slices_Compact__int_intJ6 (call : CallF H) (f : Nat) (r2 : Value → Value → St H → R H) (r5 : Value → Value → Value → Value → St H → R H) (t0 t3 t4 t5 : Value) (σ : St H) : R H :=
  bindV (abin .add t5 (I 1)) fun t34 =>
  r5 t0 t3 t4 t34 σ
def slices_Compact__int_intL5 (call : CallF H) (f : Nat) (r2 : Value → Value → St H → R H) (n : Nat) : Value → Value → Value → Value → St H → R H :=
  Nat.rec (fun _ _ _ _ _ => none) (fun _ r5 => fun t0 t3 t4 t5 σ =>
  bindV (vLen .slice t4 σ) fun t31 =>
  bindV (abin .lss t5 t31) fun t32 =>
  ifV t32 (
  bindV (vIndexAddr 1 t4 t5) fun t37 =>
  bindV (vLoad false 1 t37 σ) fun t38 =>
  bindV (abin .sub t5 (I 1)) fun t41 =>
  bindV (vIndexAddr 1 t4 t41) fun t42 =>
  bindV (vLoad false 1 t42 σ) fun t43 =>
  bindV (abin .neq t38 t43) fun t44 =>
  ifV t44 (
  bindV (vIndexAddr 1 t4 t5) fun t49 =>
  bindV (vLoad false 1 t49 σ) fun t50 =>
  bindV (vIndexAddr 1 t0 t3) fun t51 =>
  bindS (vStore 1 t51 t50 σ) fun σ =>
  bindV (abin .add t3 (I 1)) fun t53 =>
  slices_Compact__int_intJ6 call f r2 r5 t0 t53 t4 t5 σ) (
  slices_Compact__int_intJ6 call f r2 r5 t0 t3 t4 t5 σ)) (
  slices_Compact__int_intJ4 call f r2 t0 t3 σ)) n
def slices_Compact__int_intJ7 (call : CallF H) (f : Nat) (r2 : Value → Value → St H → R H) (t0 t3 t4 : Value) (σ : St H) : R H :=
  slices_Compact__int_intL5 call f r2 f t0 t3 t4 (I 1) σ
def slices_Compact__int_intJ8 (call : CallF H) (f : Nat) (r2 : Value → Value → St H → R H) (t0 t3 : Value) (σ : St H) : R H :=
  bindV (vSlice 1 t0 (some t3) none none) fun t28 =>
  slices_Compact__int_intJ7 call f r2 t0 t3 t28 σ
def slices_Compact__int_intJ9 (call : CallF H) (f : Nat) (r2 : Value → Value → St H → R H) (t0 t3 t25 : Value) (σ : St H) : R H :=
  ifV t25 (slices_Compact__int_intJ8 call f r2 t0 t3 σ) (slices_Compact__int_intJ3 call f r2 t0 t3 σ)
def slices_Compact__int_intJ10 (call : CallF H) (f : Nat) (r2 : Value → Value → St H → R H) (t0 t3 : Value) (σ : St H) : R H :=
  bindV (vIndexAddr 1 t0 t3) fun t18 =>
  bindV (vLoad false 1 t18 σ) fun t19 =>
  bindV (abin .sub t3 (I 1)) fun t22 =>
  bindV (vIndexAddr 1 t0 t22) fun t23 =>
  bindV (vLoad false 1 t23 σ) fun t24 =>
  bindV (abin .eql t19 t24) fun t25 =>
  slices_Compact__int_intJ9 call f r2 t0 t3 t25 σ
def slices_Compact__int_intJ11 (call : CallF H) (f : Nat) (r2 : Value → Value → St H → R H) (t0 t3 : Value) (σ : St H) : R H :=
  bindV (vLen .slice t0 σ) fun t12 =>
  bindV (abin .lss t3 t12) fun t13 =>
  ifV t13 (
  slices_Compact__int_intJ10 call f r2 t0 t3 σ) (
  slices_Compact__int_intJ1 call f t0 σ)
def slices_Compact__int_intL2 (call : CallF H) (f : Nat) (n : Nat) : Value → Value → St H → R H :=
  Nat.rec (fun _ _ _ => none) (fun _ r2 => fun t0 t3 σ =>
  slices_Compact__int_intJ11 call f r2 t0 t3 σ) n
def slices_Compact__int_intJ12 (call : CallF H) (f : Nat) (t0 : Value) (σ : St H) : R H :=
  slices_Compact__int_intL2 call f f t0 (I 1) σ
def slices_Compact__int_intJ13 (call : CallF H) (f : Nat) (t0 : Value) (σ : St H) : R H :=
  bindV (vLen .slice t0 σ) fun t7 =>
  bindV (abin .lss t7 (I 2)) fun t8 =>
  ifV t8 (
  some (t0, σ)) (
  slices_Compact__int_intJ12 call f t0 σ)
def slices_Compact__int_intJ14 (call : CallF H) (f : Nat) (t0 : Value) (σ : St H) : R H :=
  slices_Compact__int_intJ13 call f t0 σ
def slices_Compact__int_int (call : CallF H) (f : Nat) (a0 : Value) (σ : St H) : R H := slices_Compact__int_intJ14 call f a0 σ
theorem slices_Compact__int_intEq (call : CallF H) (f : Nat) (a0 : Value) (σ : St H) : kbody call f (codeOf P n_slices_Compact__int_int) [a0] σ = slices_Compact__int_int call f a0 σ :=
  kbody_of (rs := slices_Compact__int_intR) (by kernel_rfl) (by kernel_rfl) (by kernel_rfl) (seq_eq (by kernel_rfl) (seq_eq (by kernel_rfl) (seq_eq (by kernel_rfl) (leaf (B := fun e σ => slices_Compact__int_intJ1 call f (e 0) σ) (by kernel_rfl))
  (seq_eq (by kernel_rfl) (block_eq (by kernel_rfl) (loop_eq (fun n e σ => slices_Compact__int_intL2 call f n (e 0) (e 3) σ) (by kernel_rfl) (by kernel_rfl) (fun n2 => (tr (seq_eq (by kernel_rfl) (seq_eq (by kernel_rfl) (leaf (B := fun e σ => slices_Compact__int_intJ3 call f (slices_Compact__int_intL2 call f n2) (e 0) (e 3) σ) (by kernel_rfl))
  (block_eq (by kernel_rfl) (seq_eq (by kernel_rfl) (tr (B := fun e σ => slices_Compact__int_intJ9 call f (slices_Compact__int_intL2 call f n2) (e 0) (e 3) (e 25) σ) (cond_eq (by kernel_rfl) (seq_eq (by kernel_rfl) (seq_eq (by kernel_rfl) (leaf (B := fun e σ => slices_Compact__int_intJ4 call f (slices_Compact__int_intL2 call f n2) (e 0) (e 3) σ) (by kernel_rfl))
  (seq_eq (by kernel_rfl) (block_eq (by kernel_rfl) (loop_eq (fun n e σ => slices_Compact__int_intL5 call f (slices_Compact__int_intL2 call f n2) n (e 0) (e 3) (e 4) (e 5) σ) (by kernel_rfl) (by kernel_rfl) (fun n5 => (leaf (by kernel_rfl)))))
  (leaf (B := fun e σ => slices_Compact__int_intJ7 call f (slices_Compact__int_intL2 call f n2) (e 0) (e 3) (e 4) σ) (by kernel_rfl))))
  (leaf (B := fun e σ => slices_Compact__int_intJ8 call f (slices_Compact__int_intL2 call f n2) (e 0) (e 3) σ) (by kernel_rfl)))
  (leaf (B := fun e σ => slices_Compact__int_intJ3 call f (slices_Compact__int_intL2 call f n2) (e 0) (e 3) σ) (by kernel_rfl))) (by kernel_rfl))
  (leaf (B := fun e σ => slices_Compact__int_intJ10 call f (slices_Compact__int_intL2 call f n2) (e 0) (e 3) σ) (by kernel_rfl)))))
  (leaf (B := fun e σ => slices_Compact__int_intJ11 call f (slices_Compact__int_intL2 call f n2) (e 0) (e 3) σ) (by kernel_rfl))) (by kernel_rfl)))))
  (leaf (B := fun e σ => slices_Compact__int_intJ12 call f (e 0) σ) (by kernel_rfl))))
  (leaf (B := fun e σ => slices_Compact__int_intJ13 call f (e 0) σ) (by kernel_rfl)))
  (leaf (B := fun e σ => slices_Compact__int_intJ14 call f (e 0) σ) (by kernel_rfl))) (by kernel_rfl)

def strconv_FormatInt (call : CallF H) (f : Nat) (a0 a1 : Value) (σ : St H) : R H :=
  bindR (call n_internal_strconv_FormatInt [a0, a1] σ) fun t7 σ =>
  some (t7, σ)
theorem strconv_FormatIntEq (call : CallF H) (f : Nat) (a0 a1 : Value) (σ : St H) : kbody call f (codeOf P n_strconv_FormatInt) [a0, a1] σ = strconv_FormatInt call f a0 a1 σ := by kernel_rfl

def strconv_ParseInt (call : CallF H) (f : Nat) (a0 a1 a2 : Value) (σ : St H) : R H :=
  bindR (call n_internal_strconv_ParseInt [a0, a1, a2] σ) fun t13 σ =>
  bindV (vExtract 0 t13) fun t14 =>
  bindV (vExtract 1 t13) fun t15 =>
  bindV (vEq .nili true t15 .nilIface) fun t17 =>
  ifV t17 (
  bindR (call n_strconv_toError [(.string ⟨⟨[80, 97, 114, 115, 101, 73, 110, 116]⟩⟩), a0, a1, a2, t15] σ) fun t23 σ =>
  some (.tuple ⟨[t14, t23]⟩, σ)) (
  some (.tuple ⟨[t14, .nilIface]⟩, σ))
theorem strconv_ParseIntEq (call : CallF H) (f : Nat) (a0 a1 a2 : Value) (σ : St H) : kbody call f (codeOf P n_strconv_ParseInt) [a0, a1, a2] σ = strconv_ParseInt call f a0 a1 a2 σ := by kernel_rfl

def strings_Index (call : CallF H) (f : Nat) (a0 a1 : Value) (σ : St H) : R H :=
  bindR (call n_internal_stringslite_Index [a0, a1] σ) fun t7 σ =>
  some (t7, σ)
theorem strings_IndexEq (call : CallF H) (f : Nat) (a0 a1 : Value) (σ : St H) : kbody call f (codeOf P n_strings_Index) [a0, a1] σ = strings_Index call f a0 a1 σ := by kernel_rfl

def strconv_baseError (call : CallF H) (f : Nat) (a0 a1 a2 : Value) (σ : St H) : R H :=
  bindR (call n_internal_stringslite_Clone [a1] σ) fun t9 σ =>
  bindR (call n_strconv_Itoa [a2] σ) fun t11 σ =>
  bindV (abin .add (.string ⟨⟨[105, 110, 118, 97, 108, 105, 100, 32, 98, 97, 115, 101, 32]⟩⟩) t11) fun t12 =>
  bindR (call n_errors_New [t12] σ) fun t13 σ =>
  bindV (vBuild [(.string ⟨⟨[]⟩⟩), (.string ⟨⟨[]⟩⟩), .nilIface] [(0, 1, a0), (1, 1, t9), (2, 1, t13)]) fun t14 =>
  bindR (vBox t14 σ) fun t15 σ =>
  some (t15, σ)
theorem strconv_baseErrorEq (call : CallF H) (f : Nat) (a0 a1 a2 : Value) (σ : St H) : kbody call f (codeOf P n_strconv_baseError) [a0, a1, a2] σ = strconv_baseError call f a0 a1 a2 σ := by kernel_rfl

def strconv_bitSizeError (call : CallF H) (f : Nat) (a0 a1 a2 : Value) (σ : St H) : R H :=
  bindR (call n_internal_stringslite_Clone [a1] σ) fun t9 σ =>
  bindR (call n_strconv_Itoa [a2] σ) fun t11 σ =>
  bindV (abin .add (.string ⟨⟨[105, 110, 118, 97, 108, 105, 100, 32, 98, 105, 116, 32, 115, 105, 122, 101, 32]⟩⟩) t11) fun t12 =>
  bindR (call n_errors_New [t12] σ) fun t13 σ =>
  bindV (vBuild [(.string ⟨⟨[]⟩⟩), (.string ⟨⟨[]⟩⟩), .nilIface] [(0, 1, a0), (1, 1, t9), (2, 1, t13)]) fun t14 =>
  bindR (vBox t14 σ) fun t15 σ =>
  some (t15, σ)
theorem strconv_bitSizeErrorEq (call : CallF H) (f : Nat) (a0 a1 a2 : Value) (σ : St H) : kbody call f (codeOf P n_strconv_bitSizeError) [a0, a1, a2] σ = strconv_bitSizeError call f a0 a1 a2 σ := by kernel_rfl

def internal_stringslite_IndexByte (call : CallF H) (f : Nat) (a0 a1 : Value) (σ : St H) : R H :=
  bindR (call n_internal_bytealg_IndexByteString [a0, a1] σ) fun t7 σ =>
  some (t7, σ)
theorem internal_stringslite_IndexByteEq (call : CallF H) (f : Nat) (a0 a1 : Value) (σ : St H) : kbody call f (codeOf P n_internal_stringslite_IndexByte) [a0, a1] σ = internal_stringslite_IndexByte call f a0 a1 σ := by kernel_rfl

def internal_bytealg_Cutover (call : CallF H) (f : Nat) (a0 : Value) (σ : St H) : R H :=
  bindV (abin .add a0 (I 16)) fun t4 =>
  bindV (abin .quo t4 (I 8)) fun t5 =>
  some (t5, σ)
theorem internal_bytealg_CutoverEq (call : CallF H) (f : Nat) (a0 : Value) (σ : St H) : kbody call f (codeOf P n_internal_bytealg_Cutover) [a0] σ = internal_bytealg_Cutover call f a0 σ := by kernel_rfl

def internal_strconv_log10Pow2 (call : CallF H) (f : Nat) (a0 : Value) (σ : St H) : R H :=
  bindV (abin .mul a0 (I 78913)) fun t4 =>
  bindV (abin .shr t4 (.int .u64 18)) fun t5 =>
  some (t5, σ)
theorem internal_strconv_log10Pow2Eq (call : CallF H) (f : Nat) (a0 : Value) (σ : St H) : kbody call f (codeOf P n_internal_strconv_log10Pow2) [a0] σ = internal_strconv_log10Pow2 call f a0 σ := by kernel_rfl

def internal_strconv_bool2x_int (call : CallF H) (f : Nat) (a0 : Value) (σ : St H) : R H :=
  ifV a0 (
  some ((I 1), σ)) (
  some ((I 0), σ))
theorem internal_strconv_bool2x_intEq (call : CallF H) (f : Nat) (a0 : Value) (σ : St H) : kbody call f (codeOf P n_internal_strconv_bool2x_int) [a0] σ = internal_strconv_bool2x_int call f a0 σ := by kernel_rfl

def internal_strconv_isPowerOfTwo (call : CallF H) (f : Nat) (a0 : Value) (σ : St H) : R H :=
  bindV (abin .sub a0 (I 1)) fun t5 =>
  bindV (abin .and a0 t5) fun t6 =>
  bindV (abin .eql t6 (I 0)) fun t7 =>
  some (t7, σ)
theorem internal_strconv_isPowerOfTwoEq (call : CallF H) (f : Nat) (a0 : Value) (σ : St H) : kbody call f (codeOf P n_internal_strconv_isPowerOfTwo) [a0] σ = internal_strconv_isPowerOfTwo call f a0 σ := by kernel_rfl

def math_bits_TrailingZeros (call : CallF H) (f : Nat) (a0 : Value) (σ : St H) : R H :=
  ifV ff (
  bindV (vConv .u32 a0) fun t4 =>
  bindR (call n_math_bits_TrailingZeros32 [t4] σ) fun t5 σ =>
  some (t5, σ)) (
  bindR (call n_math_bits_TrailingZeros64 [a0] σ) fun t7 σ =>
  some (t7, σ))
theorem math_bits_TrailingZerosEq (call : CallF H) (f : Nat) (a0 : Value) (σ : St H) : kbody call f (codeOf P n_math_bits_TrailingZeros) [a0] σ = math_bits_TrailingZeros call f a0 σ := by kernel_rfl

end
end Go.G

namespace Go.G
open Go Go.Ax
set_option maxRecDepth 100000
set_option linter.unusedVariables false
variable {H : HeapI}
noncomputable section
def internal_strconv_lower (call : CallF H) (f : Nat) (a0 : Value) (σ : St H) : R H :=
  bindV (abin .or a0 (.int .u8 32)) fun t4 =>
  some (t4, σ)
theorem internal_strconv_lowerEq (call : CallF H) (f : Nat) (a0 : Value) (σ : St H) : kbody call f (codeOf P n_internal_strconv_lower) [a0] σ = internal_strconv_lower call f a0 σ := by kernel_rfl

def strconv_Itoa (call : CallF H) (f : Nat) (a0 : Value) (σ : St H) : R H :=
  bindR (call n_internal_strconv_Itoa [a0] σ) fun t4 σ =>
  some (t4, σ)
theorem strconv_ItoaEq (call : CallF H) (f : Nat) (a0 : Value) (σ : St H) : kbody call f (codeOf P n_strconv_Itoa) [a0] σ = strconv_Itoa call f a0 σ := by kernel_rfl

def internal_strconv_Itoa (call : CallF H) (f : Nat) (a0 : Value) (σ : St H) : R H :=
  bindR (call n_internal_strconv_FormatInt [a0, (I 10)] σ) fun t4 σ =>
  some (t4, σ)
theorem internal_strconv_ItoaEq (call : CallF H) (f : Nat) (a0 : Value) (σ : St H) : kbody call f (codeOf P n_internal_strconv_Itoa) [a0] σ = internal_strconv_Itoa call f a0 σ := by kernel_rfl

end
end Go.G

