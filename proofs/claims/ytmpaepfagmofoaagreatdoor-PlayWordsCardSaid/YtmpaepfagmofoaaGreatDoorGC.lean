/- Functions of the program, one Lean function each, and the proofs that they are the same (3). -/
import Derived.Test.YtmpaepfagmofoaaGreatDoorGN
set_option linter.all false
namespace Go.G
open Go Go.Ax
set_option maxRecDepth 100000
set_option linter.unusedVariables false
variable {H : HeapI}
noncomputable section
def admit_Admit_Loads (call : CallF H) (f : Nat) (a0 a1 : Value) (σ : St H) : R H :=
  bindV (vEq .nilp false a0 nilP) fun t8 =>
  bindV (bif kyes t8 false then some a1 else some undefV) fun t10 =>
  bindV (bif kyes t8 false then abin .lss t10 (I 0) else some undefV) fun t11 =>
  bindV (vPick t8 tt t11) fun t12 =>
  bindV (bif kyes t12 false then some a1 else some undefV) fun t14 =>
  bindV (bif kyes t12 false then some a0 else some undefV) fun t15 =>
  bindV (bif kyes t12 false then vNil t15 else some undefV) fun t16 =>
  bindV (bif kyes t12 false then vFieldAddr 0 t16 else some undefV) fun t17 =>
  bindV (bif kyes t12 false then vFieldAddr 0 t17 else some undefV) fun t18 =>
  bindV (bif kyes t12 false then vLoad false 1 t18 σ else some undefV) fun t19 =>
  bindV (bif kyes t12 false then abin .geq t14 t19 else some undefV) fun t20 =>
  bindV (vPick t12 tt t20) fun t21 =>
  ifV t21 (
  some ((.slice none 0 0), σ)) (
  bindR (call n_admit_Admit_all [a0] σ) fun t24 σ =>
  bindV (vExtract 0 t24) fun t25 =>
  bindV (vExtract 1 t24) fun t26 =>
  bindV (vNil a0) fun t28 =>
  bindV (vFieldAddr 0 t28) fun t29 =>
  bindV (vLoad true 5 t29 σ) fun t30 =>
  bindR (call n_load_All [t30, t25, t26] σ) fun t33 σ =>
  bindV (vIndexAddr 1 t33 a1) fun t35 =>
  bindV (vLoad false 1 t35 σ) fun t36 =>
  some (t36, σ))
theorem admit_Admit_LoadsEq (call : CallF H) (f : Nat) (a0 a1 : Value) (σ : St H) : kbody call f (codeOf P n_admit_Admit_Loads) [a0, a1] σ = admit_Admit_Loads call f a0 a1 σ := by kernel_rfl

def law14x_Begun (call : CallF H) (f : Nat) (σ : St H) : R H :=
  bindR (call n_law14x_begun [] σ) fun t1 σ =>
  some (t1, σ)
theorem law14x_BegunEq (call : CallF H) (f : Nat) (σ : St H) : kbody call f (codeOf P n_law14x_Begun) [] σ = law14x_Begun call f σ := by kernel_rfl

def admit_Admit_Wait (call : CallF H) (f : Nat) (a0 a1 a2 : Value) (σ : St H) : R H :=
  bindV (vEq .nilp false a0 nilP) fun t10 =>
  ifV t10 (
  some ((I 0), σ)) (
  bindR (call n_admit_Admit_all [a0] σ) fun t13 σ =>
  bindV (vExtract 0 t13) fun t14 =>
  bindV (vExtract 1 t13) fun t15 =>
  bindV (vNil a0) fun t17 =>
  bindV (vFieldAddr 0 t17) fun t18 =>
  bindV (vLoad true 5 t18 σ) fun t19 =>
  bindV (vNil a0) fun t22 =>
  bindV (vFieldAddr 5 t22) fun t23 =>
  bindV (vLoad false 1 t23 σ) fun t24 =>
  bindR (call n_seat_Seats_admit_place_Ids [t24] σ) fun t25 σ =>
  kif (kand (rck (vLoad true 5 t18 σ) t19) true) (
  bindR (call n_slices_Index__int_int [t25, a1] σ) fun t27 σ =>
  kif (kand (rck (vLoad true 5 t18 σ) t19) true) (
  bindR (call n_wait_Section [t19, t14, t27, a2] σ) fun t29 σ =>
  some (t29, σ))))
theorem admit_Admit_WaitEq (call : CallF H) (f : Nat) (a0 a1 a2 : Value) (σ : St H) : kbody call f (codeOf P n_admit_Admit_Wait) [a0, a1, a2] σ = admit_Admit_Wait call f a0 a1 a2 σ := by kernel_rfl

def heap_New_string (call : CallF H) (f : Nat) (a0 : Value) (σ : St H) : R H :=
  bindV (vMx [a0, (I 0)]) fun t4 =>
  bindV (vMn [t4, (I 1000)]) fun t5 =>
  bindR (vMkMap σ) fun t6 σ =>
  bindV (vBuild [(I 0), (.slice none 0 0), (.map none), (I 0)] [(0, 1, t5), (2, 1, t6)]) fun t7 =>
  bindR (vBox t7 σ) fun t8 σ =>
  some (t8, σ)
theorem heap_New_stringEq (call : CallF H) (f : Nat) (a0 : Value) (σ : St H) : kbody call f (codeOf P n_heap_New_string) [a0] σ = heap_New_string call f a0 σ := by kernel_rfl

def ring_New_int (call : CallF H) (f : Nat) (a0 : Value) (σ : St H) : R H :=
  bindV (vMx [a0, (I 0)]) fun t4 =>
  bindV (vMn [t4, (I 1000)]) fun t5 =>
  bindR (vMkSlice 8 [(I 0)] t5 t5 σ) fun t6 σ =>
  bindV (vBuild [(.slice none 0 0), (I 0), (I 0)] [(0, 1, t6)]) fun t7 =>
  bindR (vBox t7 σ) fun t8 σ =>
  some (t8, σ)
theorem ring_New_intEq (call : CallF H) (f : Nat) (a0 : Value) (σ : St H) : kbody call f (codeOf P n_ring_New_int) [a0] σ = ring_New_int call f a0 σ := by kernel_rfl

def seat_New_string (call : CallF H) (f : Nat) (a0 : Value) (σ : St H) : R H :=
  bindV (vMx [a0, (I 0)]) fun t4 =>
  bindV (vMn [t4, (I 100)]) fun t5 =>
  bindR (vMkSlice 24 [(.string ⟨⟨[]⟩⟩), ff] t5 t5 σ) fun t6 σ =>
  bindV (vBuild [(.slice none 0 0)] [(0, 1, t6)]) fun t7 =>
  bindR (vBox t7 σ) fun t8 σ =>
  some (t8, σ)
theorem seat_New_stringEq (call : CallF H) (f : Nat) (a0 : Value) (σ : St H) : kbody call f (codeOf P n_seat_New_string) [a0] σ = seat_New_string call f a0 σ := by kernel_rfl

def box_New_int (call : CallF H) (f : Nat) (a0 : Value) (σ : St H) : R H :=
  bindV (vMx [a0, (I 0)]) fun t4 =>
  bindV (vMn [t4, (I 100)]) fun t5 =>
  bindR (vMkChan 8 t5 σ) fun t6 σ =>
  bindV (vBuild [(.chan none)] [(0, 1, t6)]) fun t7 =>
  bindR (vBox t7 σ) fun t8 σ =>
  some (t8, σ)
theorem box_New_intEq (call : CallF H) (f : Nat) (a0 : Value) (σ : St H) : kbody call f (codeOf P n_box_New_int) [a0] σ = box_New_int call f a0 σ := by kernel_rfl

def heap_Heap_string_Put (call : CallF H) (f : Nat) (a0 a1 a2 a3 : Value) (σ : St H) : R H :=
  bindV (vEq .nilp false a0 nilP) fun t10 =>
  ifV t10 (
  some (ff, σ)) (
  bindR (call n_heap_Heap_string_Drop [a0, a1] σ) fun t13 σ =>
  bindV (aun .not t13) fun t14 =>
  bindV (bif kyes t14 true then some a0 else some undefV) fun t16 =>
  bindV (bif kyes t14 true then vNil t16 else some undefV) fun t17 =>
  bindV (bif kyes t14 true then vFieldAddr 1 t17 else some undefV) fun t18 =>
  bindV (bif kyes t14 true then vLoad false 1 t18 σ else some undefV) fun t19 =>
  bindV (bif kyes t14 true then vLen .slice t19 σ else some undefV) fun t20 =>
  bindV (bif kyes t14 true then some a0 else some undefV) fun t21 =>
  bindV (bif kyes t14 true then vNil t21 else some undefV) fun t22 =>
  bindV (bif kyes t14 true then vFieldAddr 0 t22 else some undefV) fun t23 =>
  bindV (bif kyes t14 true then vLoad false 1 t23 σ else some undefV) fun t24 =>
  bindV (bif kyes t14 true then abin .geq t20 t24 else some undefV) fun t25 =>
  bindV (vPick t14 t25 ff) fun t26 =>
  ifV t26 (
  some (ff, σ)) (
  bindV (vNil a0) fun t28 =>
  bindV (vFieldAddr 3 t28) fun t29 =>
  bindV (vLoad false 1 t29 σ) fun t30 =>
  bindV (abin .add t30 (I 1)) fun t31 =>
  bindV (vNil a0) fun t32 =>
  bindV (vFieldAddr 3 t32) fun t33 =>
  bindS (vStore 1 t33 t31 σ) fun σ =>
  bindV (vNil a0) fun t35 =>
  bindV (vFieldAddr 2 t35) fun t36 =>
  bindV (vLoad false 1 t36 σ) fun t37 =>
  bindV (vNil a0) fun t40 =>
  bindV (vFieldAddr 1 t40) fun t41 =>
  bindV (vLoad false 1 t41 σ) fun t42 =>
  bindV (vLen .slice t42 σ) fun t43 =>
  bindS (vMapUpdate false t37 a1 t43 σ) fun σ =>
  bindV (vNil a0) fun t46 =>
  bindV (vFieldAddr 1 t46) fun t47 =>
  bindV (vLoad false 1 t47 σ) fun t48 =>
  bindV (vNil a0) fun t53 =>
  bindV (vFieldAddr 3 t53) fun t54 =>
  bindV (vLoad false 1 t54 σ) fun t55 =>
  bindV (vBuild [(.string ⟨⟨[]⟩⟩), (I 0), (I 0), (I 0)] [(0, 1, a1), (1, 1, a2), (2, 1, a3), (3, 1, t55)]) fun t56 =>
  bindR (vBuildSlice 1 [(.string ⟨⟨[]⟩⟩), (I 0), (I 0), (I 0)] [(0, 4, t56)] σ) fun t57 σ =>
  bindR (vAppend 4 40 [(.string ⟨⟨[]⟩⟩), (I 0), (I 0), (I 0)] false t48 t57 σ) fun t58 σ =>
  bindV (vNil a0) fun t59 =>
  bindV (vFieldAddr 1 t59) fun t60 =>
  bindS (vStore 1 t60 t58 σ) fun σ =>
  bindV (vNil a0) fun t63 =>
  bindV (vFieldAddr 1 t63) fun t64 =>
  bindV (vLoad false 1 t64 σ) fun t65 =>
  bindV (vLen .slice t65 σ) fun t66 =>
  bindV (abin .sub t66 (I 1)) fun t67 =>
  bindR (call n_heap_Heap_string_rise [a0, t67] σ) fun t68 σ =>
  some (tt, σ)))
theorem heap_Heap_string_PutEq (call : CallF H) (f : Nat) (a0 a1 a2 a3 : Value) (σ : St H) : kbody call f (codeOf P n_heap_Heap_string_Put) [a0, a1, a2, a3] σ = heap_Heap_string_Put call f a0 a1 a2 a3 σ := by kernel_rfl

def heap_Heap_string_First (call : CallF H) (f : Nat) (a0 : Value) (σ : St H) : R H :=
  bindR (call n_heap_Heap_string_Len [a0] σ) fun t6 σ =>
  bindV (abin .eql t6 (I 0)) fun t7 =>
  ifV t7 (
  some (.tuple ⟨[(.string ⟨⟨[]⟩⟩), ff]⟩, σ)) (
  bindV (vNil a0) fun t10 =>
  bindV (vFieldAddr 1 t10) fun t11 =>
  bindV (vLoad false 1 t11 σ) fun t12 =>
  bindV (vIndexAddr 4 t12 (I 0)) fun t13 =>
  bindV (vFieldAddr 0 t13) fun t14 =>
  bindV (vLoad false 1 t14 σ) fun t15 =>
  some (.tuple ⟨[t15, tt]⟩, σ))
theorem heap_Heap_string_FirstEq (call : CallF H) (f : Nat) (a0 : Value) (σ : St H) : kbody call f (codeOf P n_heap_Heap_string_First) [a0] σ = heap_Heap_string_First call f a0 σ := by kernel_rfl

def ring_Ring_int_Put (call : CallF H) (f : Nat) (a0 a1 : Value) (σ : St H) : R H :=
  bindR (call n_ring_Ring_int_Room [a0] σ) fun t6 σ =>
  bindV (abin .eql t6 (I 0)) fun t7 =>
  ifV t7 (
  some (ff, σ)) (
  bindV (vNil a0) fun t9 =>
  bindV (vFieldAddr 0 t9) fun t10 =>
  bindV (vLoad false 1 t10 σ) fun t11 =>
  bindV (vNil a0) fun t13 =>
  bindV (vFieldAddr 1 t13) fun t14 =>
  bindV (vLoad false 1 t14 σ) fun t15 =>
  bindV (vNil a0) fun t17 =>
  bindV (vFieldAddr 2 t17) fun t18 =>
  bindV (vLoad false 1 t18 σ) fun t19 =>
  bindV (abin .add t15 t19) fun t20 =>
  bindV (vNil a0) fun t22 =>
  bindV (vFieldAddr 0 t22) fun t23 =>
  bindV (vLoad false 1 t23 σ) fun t24 =>
  bindV (vLen .slice t24 σ) fun t25 =>
  bindV (abin .rem t20 t25) fun t26 =>
  bindV (vIndexAddr 1 t11 t26) fun t28 =>
  bindS (vStore 1 t28 a1 σ) fun σ =>
  bindV (vNil a0) fun t30 =>
  bindV (vFieldAddr 2 t30) fun t31 =>
  bindV (vLoad false 1 t31 σ) fun t32 =>
  bindV (abin .add t32 (I 1)) fun t33 =>
  bindV (vNil a0) fun t34 =>
  bindV (vFieldAddr 2 t34) fun t35 =>
  bindS (vStore 1 t35 t33 σ) fun σ =>
  some (tt, σ))
theorem ring_Ring_int_PutEq (call : CallF H) (f : Nat) (a0 a1 : Value) (σ : St H) : kbody call f (codeOf P n_ring_Ring_int_Put) [a0, a1] σ = ring_Ring_int_Put call f a0 a1 σ := by kernel_rfl

def ring_Ring_int_TakeJ1 (call : CallF H) (f : Nat) (t4 t5 : Value) (σ : St H) : R H :=
  some (.tuple ⟨[t4, t5]⟩, σ)
def ring_Ring_int_Take (call : CallF H) (f : Nat) (a0 : Value) (σ : St H) : R H :=
  bindR (call n_ring_Ring_int_At [a0, (I 0)] σ) fun t8 σ =>
  bindV (vExtract 0 t8) fun t9 =>
  bindV (vExtract 1 t8) fun t10 =>
  ifV t10 (
  bindV (vNil a0) fun t14 =>
  bindV (vFieldAddr 1 t14) fun t15 =>
  bindV (vLoad false 1 t15 σ) fun t16 =>
  bindV (abin .add t16 (I 1)) fun t17 =>
  bindV (vNil a0) fun t19 =>
  bindV (vFieldAddr 0 t19) fun t20 =>
  bindV (vLoad false 1 t20 σ) fun t21 =>
  bindV (vLen .slice t21 σ) fun t22 =>
  bindV (abin .rem t17 t22) fun t23 =>
  bindV (vNil a0) fun t24 =>
  bindV (vFieldAddr 1 t24) fun t25 =>
  bindS (vStore 1 t25 t23 σ) fun σ =>
  bindV (vNil a0) fun t27 =>
  bindV (vFieldAddr 2 t27) fun t28 =>
  bindV (vLoad false 1 t28 σ) fun t29 =>
  bindV (abin .sub t29 (I 1)) fun t30 =>
  bindV (vNil a0) fun t31 =>
  bindV (vFieldAddr 2 t31) fun t32 =>
  bindS (vStore 1 t32 t30 σ) fun σ =>
  ring_Ring_int_TakeJ1 call f t9 t10 σ) (
  ring_Ring_int_TakeJ1 call f t9 t10 σ)
theorem ring_Ring_int_TakeEq (call : CallF H) (f : Nat) (a0 : Value) (σ : St H) : kbody call f (codeOf P n_ring_Ring_int_Take) [a0] σ = ring_Ring_int_Take call f a0 σ := by kernel_rfl

abbrev seat_Seats_string_AddR : List ARes := [.tmp 4]
def seat_Seats_string_AddJ1 (call : CallF H) (f : Nat) (σ : St H) : R H :=
  some ((I 0), σ)
def seat_Seats_string_AddL2 (call : CallF H) (f : Nat) (n : Nat) : Value → Value → Value → Value → St H → R H :=
  Nat.rec (fun _ _ _ _ _ => none) (fun _ r2 => fun t0 t1 t12 t13 σ =>
  bindV (abin .lss t13 t12) fun t14 =>
  ifV t14 (
  bindV (vNil t0) fun t17 =>
  bindV (vFieldAddr 0 t17) fun t18 =>
  bindV (vLoad false 1 t18 σ) fun t19 =>
  bindV (vIndexAddr 2 t19 t13) fun t21 =>
  bindV (vFieldAddr 1 t21) fun t22 =>
  bindV (vLoad false 1 t22 σ) fun t23 =>
  bindV (aun .not t23) fun t24 =>
  ifV t24 (
  bindV (vNil t0) fun t26 =>
  bindV (vFieldAddr 0 t26) fun t27 =>
  bindV (vLoad false 1 t27 σ) fun t28 =>
  bindV (vBuild [(.string ⟨⟨[]⟩⟩), ff] [(0, 1, t1), (1, 1, tt)]) fun t31 =>
  bindV (vIndexAddr 2 t28 t13) fun t32 =>
  bindS (vStore 2 t32 t31 σ) fun σ =>
  bindV (abin .add t13 (I 1)) fun t34 =>
  some (t34, σ)) (
  bindV (abin .add t13 (I 1)) fun t35 =>
  r2 t0 t1 t12 t35 σ)) (
  seat_Seats_string_AddJ1 call f σ)) n
def seat_Seats_string_AddJ3 (call : CallF H) (f : Nat) (t0 t1 : Value) (σ : St H) : R H :=
  bindV (vNil t0) fun t9 =>
  bindV (vFieldAddr 0 t9) fun t10 =>
  bindV (vLoad false 1 t10 σ) fun t11 =>
  bindV (vLen .slice t11 σ) fun t12 =>
  seat_Seats_string_AddL2 call f f t0 t1 t12 (I 0) σ
def seat_Seats_string_AddJ4 (call : CallF H) (f : Nat) (t0 t1 : Value) (σ : St H) : R H :=
  bindV (vEq .nilp false t0 nilP) fun t7 =>
  ifV t7 (
  some ((I 0), σ)) (
  seat_Seats_string_AddJ3 call f t0 t1 σ)
def seat_Seats_string_AddJ5 (call : CallF H) (f : Nat) (t0 t1 : Value) (σ : St H) : R H :=
  seat_Seats_string_AddJ4 call f t0 t1 σ
def seat_Seats_string_Add (call : CallF H) (f : Nat) (a0 a1 : Value) (σ : St H) : R H := seat_Seats_string_AddJ5 call f a0 a1 σ
theorem seat_Seats_string_AddEq (call : CallF H) (f : Nat) (a0 a1 : Value) (σ : St H) : kbody call f (codeOf P n_seat_Seats_string_Add) [a0, a1] σ = seat_Seats_string_Add call f a0 a1 σ :=
  kbody_of (rs := seat_Seats_string_AddR) (by kernel_rfl) (by kernel_rfl) (by kernel_rfl) (seq_eq (by kernel_rfl) (seq_eq (by kernel_rfl) (seq_eq (by kernel_rfl) (leaf (B := fun e σ => seat_Seats_string_AddJ1 call f σ) (by kernel_rfl))
  (seq_eq (by kernel_rfl) (block_eq (by kernel_rfl) (loop_eq (fun n e σ => seat_Seats_string_AddL2 call f n (e 0) (e 1) (e 12) (e 13) σ) (by kernel_rfl) (by kernel_rfl) (fun n2 => (leaf (by kernel_rfl)))))
  (leaf (B := fun e σ => seat_Seats_string_AddJ3 call f (e 0) (e 1) σ) (by kernel_rfl))))
  (leaf (B := fun e σ => seat_Seats_string_AddJ4 call f (e 0) (e 1) σ) (by kernel_rfl)))
  (leaf (B := fun e σ => seat_Seats_string_AddJ5 call f (e 0) (e 1) σ) (by kernel_rfl))) (by kernel_rfl)

def seat_Seats_string_Drop (call : CallF H) (f : Nat) (a0 a1 : Value) (σ : St H) : R H :=
  bindR (call n_seat_Seats_string_at [a0, a1] σ) fun t8 σ =>
  bindV (vEq .nilp false t8 nilP) fun t10 =>
  ifV t10 (
  some (ff, σ)) (
  bindV (vBuild [(.string ⟨⟨[]⟩⟩), ff] []) fun t12 =>
  bindV (vNil t8) fun t13 =>
  bindS (vStore 2 t13 t12 σ) fun σ =>
  some (tt, σ))
theorem seat_Seats_string_DropEq (call : CallF H) (f : Nat) (a0 a1 : Value) (σ : St H) : kbody call f (codeOf P n_seat_Seats_string_Drop) [a0, a1] σ = seat_Seats_string_Drop call f a0 a1 σ := by kernel_rfl

def box_Box_int_Put (call : CallF H) (f : Nat) (a0 a1 : Value) (σ : St H) : R H :=
  bindR (call n_box_Box_int_way [a0] σ) fun t6 σ =>
  bindR (vSel (some a1) (I 0) t6 σ) fun t8 σ =>
  bindV (vExtract 0 t8) fun t9 =>
  bindV (abin .eql t9 (I 0)) fun t10 =>
  ifV t10 (
  some (tt, σ)) (
  some (ff, σ))
theorem box_Box_int_PutEq (call : CallF H) (f : Nat) (a0 a1 : Value) (σ : St H) : kbody call f (codeOf P n_box_Box_int_Put) [a0, a1] σ = box_Box_int_Put call f a0 a1 σ := by kernel_rfl

def box_Either_int (call : CallF H) (f : Nat) (a0 a1 : Value) (σ : St H) : R H :=
  bindR (call n_box_Box_int_Take [a0] σ) fun t13 σ =>
  bindV (vExtract 0 t13) fun t14 =>
  bindV (vExtract 1 t13) fun t15 =>
  ifV t15 (
  some (.tuple ⟨[t14, (I 1)]⟩, σ)) (
  bindR (call n_box_Box_int_Take [a1] σ) fun t20 σ =>
  bindV (vExtract 0 t20) fun t21 =>
  bindV (vExtract 1 t20) fun t22 =>
  ifV t22 (
  some (.tuple ⟨[t21, (I 2)]⟩, σ)) (
  some (.tuple ⟨[(I 0), (I 0)]⟩, σ)))
theorem box_Either_intEq (call : CallF H) (f : Nat) (a0 a1 : Value) (σ : St H) : kbody call f (codeOf P n_box_Either_int) [a0, a1] σ = box_Either_int call f a0 a1 σ := by kernel_rfl

def law1x_Begun (call : CallF H) (f : Nat) (σ : St H) : R H :=
  bindR (call n_law1x_begun [] σ) fun t1 σ =>
  some (t1, σ)
theorem law1x_BegunEq (call : CallF H) (f : Nat) (σ : St H) : kbody call f (codeOf P n_law1x_Begun) [] σ = law1x_Begun call f σ := by kernel_rfl

def heap_Heap_string_Len (call : CallF H) (f : Nat) (a0 : Value) (σ : St H) : R H :=
  bindV (vEq .nilp false a0 nilP) fun t4 =>
  ifV t4 (
  some ((I 0), σ)) (
  bindV (vNil a0) fun t6 =>
  bindV (vFieldAddr 1 t6) fun t7 =>
  bindV (vLoad false 1 t7 σ) fun t8 =>
  bindV (vLen .slice t8 σ) fun t9 =>
  some (t9, σ))
theorem heap_Heap_string_LenEq (call : CallF H) (f : Nat) (a0 : Value) (σ : St H) : kbody call f (codeOf P n_heap_Heap_string_Len) [a0] σ = heap_Heap_string_Len call f a0 σ := by kernel_rfl

def ring_Ring_int_Room (call : CallF H) (f : Nat) (a0 : Value) (σ : St H) : R H :=
  bindV (vEq .nilp false a0 nilP) fun t4 =>
  ifV t4 (
  some ((I 0), σ)) (
  bindV (vNil a0) fun t6 =>
  bindV (vFieldAddr 0 t6) fun t7 =>
  bindV (vLoad false 1 t7 σ) fun t8 =>
  bindV (vLen .slice t8 σ) fun t9 =>
  bindV (vNil a0) fun t11 =>
  bindV (vFieldAddr 2 t11) fun t12 =>
  bindV (vLoad false 1 t12 σ) fun t13 =>
  bindV (abin .sub t9 t13) fun t14 =>
  some (t14, σ))
theorem ring_Ring_int_RoomEq (call : CallF H) (f : Nat) (a0 : Value) (σ : St H) : kbody call f (codeOf P n_ring_Ring_int_Room) [a0] σ = ring_Ring_int_Room call f a0 σ := by kernel_rfl

def box_Box_int_Len (call : CallF H) (f : Nat) (a0 : Value) (σ : St H) : R H :=
  bindR (call n_box_Box_int_way [a0] σ) fun t4 σ =>
  bindV (vLen .chan t4 σ) fun t5 =>
  some (t5, σ)
theorem box_Box_int_LenEq (call : CallF H) (f : Nat) (a0 : Value) (σ : St H) : kbody call f (codeOf P n_box_Box_int_Len) [a0] σ = box_Box_int_Len call f a0 σ := by kernel_rfl

abbrev slices_IndexFunc__api_Piece_api_PieceR : List ARes := [.tmp 4]
def slices_IndexFunc__api_Piece_api_PieceJ1 (call : CallF H) (f : Nat) (σ : St H) : R H :=
  some ((I (-1)), σ)
def slices_IndexFunc__api_Piece_api_PieceL2 (call : CallF H) (f : Nat) (n : Nat) : Value → Value → Value → Value → St H → R H :=
  Nat.rec (fun _ _ _ _ _ => none) (fun _ r2 => fun t0 t1 t7 t8 σ =>
  bindV (abin .lss t8 t7) fun t9 =>
  ifV t9 (
  bindV (vIndexAddr 4 t0 t8) fun t14 =>
  bindV (vLoad true 4 t14 σ) fun t15 =>
  bindR (vCallv t1 [t15] call σ) fun t16 σ =>
  ifV t16 (
  some (t8, σ)) (
  bindV (abin .add t8 (I 1)) fun t18 =>
  r2 t0 t1 t7 t18 σ)) (
  slices_IndexFunc__api_Piece_api_PieceJ1 call f σ)) n
def slices_IndexFunc__api_Piece_api_PieceJ3 (call : CallF H) (f : Nat) (t0 t1 : Value) (σ : St H) : R H :=
  bindV (vLen .slice t0 σ) fun t7 =>
  slices_IndexFunc__api_Piece_api_PieceL2 call f f t0 t1 t7 (I 0) σ
def slices_IndexFunc__api_Piece_api_PieceJ4 (call : CallF H) (f : Nat) (t0 t1 : Value) (σ : St H) : R H :=
  slices_IndexFunc__api_Piece_api_PieceJ3 call f t0 t1 σ
def slices_IndexFunc__api_Piece_api_Piece (call : CallF H) (f : Nat) (a0 a1 : Value) (σ : St H) : R H := slices_IndexFunc__api_Piece_api_PieceJ4 call f a0 a1 σ
theorem slices_IndexFunc__api_Piece_api_PieceEq (call : CallF H) (f : Nat) (a0 a1 : Value) (σ : St H) : kbody call f (codeOf P n_slices_IndexFunc__api_Piece_api_Piece) [a0, a1] σ = slices_IndexFunc__api_Piece_api_Piece call f a0 a1 σ :=
  kbody_of (rs := slices_IndexFunc__api_Piece_api_PieceR) (by kernel_rfl) (by kernel_rfl) (by kernel_rfl) (seq_eq (by kernel_rfl) (seq_eq (by kernel_rfl) (leaf (B := fun e σ => slices_IndexFunc__api_Piece_api_PieceJ1 call f σ) (by kernel_rfl))
  (seq_eq (by kernel_rfl) (block_eq (by kernel_rfl) (loop_eq (fun n e σ => slices_IndexFunc__api_Piece_api_PieceL2 call f n (e 0) (e 1) (e 7) (e 8) σ) (by kernel_rfl) (by kernel_rfl) (fun n2 => (leaf (by kernel_rfl)))))
  (leaf (B := fun e σ => slices_IndexFunc__api_Piece_api_PieceJ3 call f (e 0) (e 1) σ) (by kernel_rfl))))
  (leaf (B := fun e σ => slices_IndexFunc__api_Piece_api_PieceJ4 call f (e 0) (e 1) σ) (by kernel_rfl))) (by kernel_rfl)

def slices_ContainsFunc__api_Load_api_Load (call : CallF H) (f : Nat) (a0 a1 : Value) (σ : St H) : R H :=
  bindR (call n_slices_IndexFunc__api_Load_api_Load [a0, a1] σ) fun t7 σ =>
  bindV (abin .geq t7 (I 0)) fun t8 =>
  some (t8, σ)
theorem slices_ContainsFunc__api_Load_api_LoadEq (call : CallF H) (f : Nat) (a0 a1 : Value) (σ : St H) : kbody call f (codeOf P n_slices_ContainsFunc__api_Load_api_Load) [a0, a1] σ = slices_ContainsFunc__api_Load_api_Load call f a0 a1 σ := by kernel_rfl

def busy_may_1 (call : CallF H) (f : Nat) (a0 : Value) (σ : St H) : R H :=
  bindR (vBox a0 σ) fun t1 σ =>
  bindV (vLoad true 3 t1 σ) fun t3 =>
  bindR (call n_rule_Load [t3] σ) fun t4 σ =>
  bindV (aun .not t4) fun t5 =>
  some (t5, σ)
theorem busy_may_1Eq (call : CallF H) (f : Nat) (a0 : Value) (σ : St H) : kbody call f (codeOf P n_busy_may_1) [a0] σ = busy_may_1 call f a0 σ := by kernel_rfl

def rule_Load (call : CallF H) (f : Nat) (a0 : Value) (σ : St H) : R H :=
  bindR (vBox a0 σ) fun t1 σ =>
  bindV (vFieldAddr 0 t1) fun t3 =>
  bindV (vLoad false 1 t3 σ) fun t4 =>
  bindR (call n_rule_within [t4, (I 1), (I 20000)] σ) fun t5 σ =>
  bindV (bif kyes t5 true then vFieldAddr 1 t1 else some undefV) fun t7 =>
  bindV (bif kyes t5 true then vLoad false 1 t7 σ else some undefV) fun t8 =>
  bindV (bif kyes t5 true then abin .geq t8 (I 1) else some undefV) fun t9 =>
  bindV (vPick t5 t9 ff) fun t10 =>
  bindV (bif kyes t10 true then vFieldAddr 1 t1 else some undefV) fun t12 =>
  bindV (bif kyes t10 true then vLoad false 1 t12 σ else some undefV) fun t13 =>
  bindV (bif kyes t10 true then vFieldAddr 2 t1 else some undefV) fun t14 =>
  bindV (bif kyes t10 true then vLoad false 1 t14 σ else some undefV) fun t15 =>
  bindV (bif kyes t10 true then abin .leq t13 t15 else some undefV) fun t16 =>
  bindV (vPick t10 t16 ff) fun t17 =>
  bindV (bif kyes t17 true then vFieldAddr 2 t1 else some undefV) fun t19 =>
  bindV (bif kyes t17 true then vLoad false 1 t19 σ else some undefV) fun t20 =>
  bindV (bif kyes t17 true then abin .leq t20 (I 200) else some undefV) fun t21 =>
  bindV (vPick t17 t21 ff) fun t22 =>
  some (t22, σ)
theorem rule_LoadEq (call : CallF H) (f : Nat) (a0 : Value) (σ : St H) : kbody call f (codeOf P n_rule_Load) [a0] σ = rule_Load call f a0 σ := by kernel_rfl

def tick_UpJ1 (call : CallF H) (f : Nat) (t5 : Value) (σ : St H) : R H :=
  some (t5, σ)
def tick_Up (call : CallF H) (f : Nat) (a0 a1 : Value) (σ : St H) : R H :=
  bindV (abin .leq a1 (I 0)) fun t7 =>
  ifV t7 (
  some ((I 0), σ)) (
  bindV (abin .quo a0 a1) fun t10 =>
  bindV (abin .rem a0 a1) fun t13 =>
  bindV (abin .gtr t13 (I 0)) fun t14 =>
  ifV t14 (
  bindV (abin .add t10 (I 1)) fun t16 =>
  tick_UpJ1 call f t16 σ) (
  tick_UpJ1 call f t10 σ))
theorem tick_UpEq (call : CallF H) (f : Nat) (a0 a1 : Value) (σ : St H) : kbody call f (codeOf P n_tick_Up) [a0, a1] σ = tick_Up call f a0 a1 σ := by kernel_rfl

def demand_Bound_1 (call : CallF H) (f : Nat) (a0 : Value) (σ : St H) : R H :=
  bindR (vBox a0 σ) fun t1 σ =>
  bindV (vLoad true 3 t1 σ) fun t3 =>
  bindR (call n_rule_Load [t3] σ) fun t4 σ =>
  bindV (aun .not t4) fun t5 =>
  some (t5, σ)
theorem demand_Bound_1Eq (call : CallF H) (f : Nat) (a0 : Value) (σ : St H) : kbody call f (codeOf P n_demand_Bound_1) [a0] σ = demand_Bound_1 call f a0 σ := by kernel_rfl

def demand_due (call : CallF H) (f : Nat) (a0 a1 : Value) (σ : St H) : R H :=
  bindR (vBox a0 σ) fun t2 σ =>
  bindV (vFieldAddr 1 t2) fun t5 =>
  bindV (vLoad false 1 t5 σ) fun t6 =>
  bindV (abin .gtr t6 a1) fun t8 =>
  ifV t8 (
  some ((I 0), σ)) (
  bindV (vFieldAddr 0 t2) fun t9 =>
  bindV (vLoad false 1 t9 σ) fun t10 =>
  bindV (vFieldAddr 1 t2) fun t12 =>
  bindV (vLoad false 1 t12 σ) fun t13 =>
  bindV (abin .sub a1 t13) fun t14 =>
  bindV (vFieldAddr 2 t2) fun t15 =>
  bindV (vLoad false 1 t15 σ) fun t16 =>
  bindR (call n_tick_Down [t14, t16] σ) fun t17 σ =>
  kif (kand (rck (vLoad false 1 t9 σ) t10) true) (
  bindV (abin .add t17 (I 1)) fun t18 =>
  bindV (abin .mul t10 t18) fun t19 =>
  some (t19, σ)))
theorem demand_dueEq (call : CallF H) (f : Nat) (a0 a1 : Value) (σ : St H) : kbody call f (codeOf P n_demand_due) [a0, a1] σ = demand_due call f a0 a1 σ := by kernel_rfl

def most_may (call : CallF H) (f : Nat) (a0 a1 a2 : Value) (σ : St H) : R H :=
  bindV (vLen .slice a0 σ) fun t8 =>
  bindV (abin .leq t8 (I 23)) fun t9 =>
  bindV (bif kyes t9 true then some a1 else some undefV) fun t11 =>
  bindV (bif kyes t9 true then abin .geq t11 (I 1) else some undefV) fun t12 =>
  bindV (vPick t9 t12 ff) fun t13 =>
  bindV (bif kyes t13 true then some a1 else some undefV) fun t15 =>
  bindV (bif kyes t13 true then some a2 else some undefV) fun t16 =>
  bindV (bif kyes t13 true then abin .leq t15 t16 else some undefV) fun t17 =>
  bindV (vPick t13 t17 ff) fun t18 =>
  bindV (bif kyes t18 true then some a2 else some undefV) fun t20 =>
  bindV (bif kyes t18 true then abin .leq t20 (I 200) else some undefV) fun t21 =>
  bindV (vPick t18 t21 ff) fun t22 =>
  bindV (bif kyes t22 true then some a0 else some undefV) fun t24 =>
  bindR (bif kyes t22 true then call n_demand_Fits [t24] σ else some (undefV, σ)) fun t25 σ =>
  bindV (vPick t22 t25 ff) fun t26 =>
  some (t26, σ)
theorem most_mayEq (call : CallF H) (f : Nat) (a0 a1 a2 : Value) (σ : St H) : kbody call f (codeOf P n_most_may) [a0, a1, a2] σ = most_may call f a0 a1 a2 σ := by kernel_rfl

def most_with (call : CallF H) (f : Nat) (a0 a1 : Value) (σ : St H) : R H :=
  bindR (vBox a1 σ) fun t3 σ =>
  bindV (vLoad true 3 t3 σ) fun t7 =>
  bindR (call n_slices_Clone__api_Load_api_Load [a0] σ) fun t6 σ =>
  kif (kand (rck (vLoad true 3 t3 σ) t7) true) (
  bindR (vBuildSlice 1 [(I 0), (I 0), (I 0)] [(0, 3, t7)] σ) fun t8 σ =>
  bindR (vAppend 3 24 [(I 0), (I 0), (I 0)] false t6 t8 σ) fun t9 σ =>
  bindR (call n_demand_Fits [t9] σ) fun t10 σ =>
  some (t10, σ))
theorem most_withEq (call : CallF H) (f : Nat) (a0 a1 : Value) (σ : St H) : kbody call f (codeOf P n_most_with) [a0, a1] σ = most_with call f a0 a1 σ := by kernel_rfl

abbrev slices_stableCmpFunc_window_placeR : List ARes := []
def slices_stableCmpFunc_window_placeJ2 (call : CallF H) (f : Nat) (r1 : Value → Value → Value → Value → St H → R H) (t0 t1 t2 t6 : Value) (σ : St H) : R H :=
  bindV (abin .mul t6 (I 2)) fun t62 =>
  r1 t0 t1 t2 t62 σ
def slices_stableCmpFunc_window_placeJ3 (call : CallF H) (f : Nat) (r1 : Value → Value → Value → Value → St H → R H) (t0 t1 t2 t6 t7 : Value) (σ : St H) : R H :=
  bindV (abin .add t7 t6) fun t51 =>
  bindV (abin .lss t51 t1) fun t54 =>
  ifV t54 (
  bindR (call n_slices_symMergeCmpFunc_window_place [t0, t7, t51, t1, t2] σ) fun t60 σ =>
  slices_stableCmpFunc_window_placeJ2 call f r1 t0 t1 t2 t6 σ) (
  slices_stableCmpFunc_window_placeJ2 call f r1 t0 t1 t2 t6 σ)
def slices_stableCmpFunc_window_placeL4 (call : CallF H) (f : Nat) (r1 : Value → Value → Value → Value → St H → R H) (n : Nat) : Value → Value → Value → Value → Value → Value → St H → R H :=
  Nat.rec (fun _ _ _ _ _ _ _ => none) (fun _ r4 => fun t0 t1 t2 t6 t7 t8 σ =>
  bindV (abin .leq t8 t1) fun t35 =>
  ifV t35 (
  bindV (abin .add t7 t6) fun t40 =>
  bindR (call n_slices_symMergeCmpFunc_window_place [t0, t7, t40, t8, t2] σ) fun t43 σ =>
  bindV (abin .mul (I 2) t6) fun t47 =>
  bindV (abin .add t8 t47) fun t48 =>
  r4 t0 t1 t2 t6 t8 t48 σ) (
  slices_stableCmpFunc_window_placeJ3 call f r1 t0 t1 t2 t6 t7 σ)) n
def slices_stableCmpFunc_window_placeJ5 (call : CallF H) (f : Nat) (r1 : Value → Value → Value → Value → St H → R H) (t0 t1 t2 t6 : Value) (σ : St H) : R H :=
  bindV (abin .mul (I 2) t6) fun t32 =>
  slices_stableCmpFunc_window_placeL4 call f r1 f t0 t1 t2 t6 (I 0) t32 σ
def slices_stableCmpFunc_window_placeJ6 (call : CallF H) (f : Nat) (r1 : Value → Value → Value → Value → St H → R H) (t0 t1 t2 t6 : Value) (σ : St H) : R H :=
  bindV (abin .lss t6 t1) fun t30 =>
  ifV t30 (
  slices_stableCmpFunc_window_placeJ5 call f r1 t0 t1 t2 t6 σ) (
  some (.tuple ⟨[]⟩, σ))
def slices_stableCmpFunc_window_placeL1 (call : CallF H) (f : Nat) (n : Nat) : Value → Value → Value → Value → St H → R H :=
  Nat.rec (fun _ _ _ _ _ => none) (fun _ r1 => fun t0 t1 t2 t6 σ =>
  slices_stableCmpFunc_window_placeJ6 call f r1 t0 t1 t2 t6 σ) n
def slices_stableCmpFunc_window_placeJ7 (call : CallF H) (f : Nat) (t0 t1 t2 t6 t7 : Value) (σ : St H) : R H :=
  bindR (call n_slices_insertionSortCmpFunc_window_place [t0, t7, t1, t2] σ) fun t27 σ =>
  slices_stableCmpFunc_window_placeL1 call f f t0 t1 t2 t6 σ
def slices_stableCmpFunc_window_placeL8 (call : CallF H) (f : Nat) (n : Nat) : Value → Value → Value → Value → Value → Value → St H → R H :=
  Nat.rec (fun _ _ _ _ _ _ _ => none) (fun _ r8 => fun t0 t1 t2 t6 t7 t8 σ =>
  bindV (abin .leq t8 t1) fun t13 =>
  ifV t13 (
  bindR (call n_slices_insertionSortCmpFunc_window_place [t0, t7, t8, t2] σ) fun t18 σ =>
  bindV (abin .add t8 t6) fun t22 =>
  r8 t0 t1 t2 t6 t8 t22 σ) (
  slices_stableCmpFunc_window_placeJ7 call f t0 t1 t2 t6 t7 σ)) n
def slices_stableCmpFunc_window_placeJ9 (call : CallF H) (f : Nat) (t0 t1 t2 t6 : Value) (σ : St H) : R H :=
  slices_stableCmpFunc_window_placeL8 call f f t0 t1 t2 t6 (I 0) t6 σ
def slices_stableCmpFunc_window_placeJ10 (call : CallF H) (f : Nat) (t0 t1 t2 : Value) (σ : St H) : R H :=
  slices_stableCmpFunc_window_placeJ9 call f t0 t1 t2 (I 20) σ
def slices_stableCmpFunc_window_place (call : CallF H) (f : Nat) (a0 a1 a2 : Value) (σ : St H) : R H := slices_stableCmpFunc_window_placeJ10 call f a0 a1 a2 σ
theorem slices_stableCmpFunc_window_placeEq (call : CallF H) (f : Nat) (a0 a1 a2 : Value) (σ : St H) : kbody call f (codeOf P n_slices_stableCmpFunc_window_place) [a0, a1, a2] σ = slices_stableCmpFunc_window_place call f a0 a1 a2 σ :=
  kbody_of (rs := slices_stableCmpFunc_window_placeR) (by kernel_rfl) (by kernel_rfl) (by kernel_rfl) (seq_eq (by kernel_rfl) (seq_eq (by kernel_rfl) (seq_eq (by kernel_rfl) (seq_eq (by kernel_rfl) (block_eq (by kernel_rfl) (loop_eq (fun n e σ => slices_stableCmpFunc_window_placeL1 call f n (e 0) (e 1) (e 2) (e 6) σ) (by kernel_rfl) (by kernel_rfl) (fun n1 => (tr (seq_eq (by kernel_rfl) (block_eq (by kernel_rfl) (seq_eq (by kernel_rfl) (seq_eq (by kernel_rfl) (leaf (B := fun e σ => slices_stableCmpFunc_window_placeJ3 call f (slices_stableCmpFunc_window_placeL1 call f n1) (e 0) (e 1) (e 2) (e 6) (e 7) σ) (by kernel_rfl))
  (block_eq (by kernel_rfl) (loop_eq (fun n e σ => slices_stableCmpFunc_window_placeL4 call f (slices_stableCmpFunc_window_placeL1 call f n1) n (e 0) (e 1) (e 2) (e 6) (e 7) (e 8) σ) (by kernel_rfl) (by kernel_rfl) (fun n4 => (leaf (by kernel_rfl))))))
  (leaf (B := fun e σ => slices_stableCmpFunc_window_placeJ5 call f (slices_stableCmpFunc_window_placeL1 call f n1) (e 0) (e 1) (e 2) (e 6) σ) (by kernel_rfl))))
  (leaf (B := fun e σ => slices_stableCmpFunc_window_placeJ6 call f (slices_stableCmpFunc_window_placeL1 call f n1) (e 0) (e 1) (e 2) (e 6) σ) (by kernel_rfl))) (by kernel_rfl)))))
  (leaf (B := fun e σ => slices_stableCmpFunc_window_placeJ7 call f (e 0) (e 1) (e 2) (e 6) (e 7) σ) (by kernel_rfl)))
  (block_eq (by kernel_rfl) (loop_eq (fun n e σ => slices_stableCmpFunc_window_placeL8 call f n (e 0) (e 1) (e 2) (e 6) (e 7) (e 8) σ) (by kernel_rfl) (by kernel_rfl) (fun n8 => (leaf (by kernel_rfl))))))
  (leaf (B := fun e σ => slices_stableCmpFunc_window_placeJ9 call f (e 0) (e 1) (e 2) (e 6) σ) (by kernel_rfl)))
  (leaf (B := fun e σ => slices_stableCmpFunc_window_placeJ10 call f (e 0) (e 1) (e 2) σ) (by kernel_rfl))) (by kernel_rfl)

abbrev slices_pdqsortCmpFunc_window_placeR : List ARes := []
def slices_pdqsortCmpFunc_window_placeJ2 (call : CallF H) (f : Nat) (r1 : Value → Value → Value → Value → Value → Value → Value → St H → R H) (t0 t1 t2 t3 t4 t10 t11 t12 t13 : Value) (σ : St H) : R H :=
  bindV (abin .gtr t1 (I 0)) fun t82 =>
  bindV (bif kyes t82 true then some t4 else some undefV) fun t84 =>
  bindV (bif kyes t82 true then some t0 else some undefV) fun t85 =>
  bindV (bif kyes t82 true then some t1 else some undefV) fun t86 =>
  bindV (bif kyes t82 true then abin .sub t86 (I 1) else some undefV) fun t87 =>
  bindV (bif kyes t82 true then vIndexAddr 2 t85 t87 else some undefV) fun t88 =>
  bindV (bif kyes t82 true then vLoad true 2 t88 σ else some undefV) fun t89 =>
  bindV (bif kyes t82 true then some t0 else some undefV) fun t90 =>
  bindV (bif kyes t82 true then some t13 else some undefV) fun t91 =>
  bindV (bif kyes t82 true then vIndexAddr 2 t90 t91 else some undefV) fun t92 =>
  bindV (bif kyes t82 true then vLoad true 2 t92 σ else some undefV) fun t93 =>
  bindR (bif kyes t82 true then vCallv t84 [t89, t93] call σ else some (undefV, σ)) fun t94 σ =>
  bindV (bif kyes t82 true then abin .lss t94 (I 0) else some undefV) fun t95 =>
  bindV (bif kyes t82 true then aun .not t95 else some undefV) fun t96 =>
  bindV (vPick t82 t96 ff) fun t97 =>
  ifV t97 (
  bindR (call n_slices_partitionEqualCmpFunc_window_place [t0, t1, t2, t13, t4] σ) fun t103 σ =>
  r1 t0 t103 t2 t3 t4 t10 t11 σ) (
  bindR (call n_slices_partitionCmpFunc_window_place [t0, t1, t2, t13, t4] σ) fun t111 σ =>
  bindV (vExtract 0 t111) fun t112 =>
  bindV (vExtract 1 t111) fun t113 =>
  bindV (abin .sub t112 t1) fun t117 =>
  bindV (abin .sub t2 t112) fun t120 =>
  bindV (abin .quo t12 (I 8)) fun t122 =>
  bindV (abin .lss t117 t120) fun t125 =>
  ifV t125 (
  bindV (abin .geq t117 t122) fun t128 =>
  bindR (call n_slices_pdqsortCmpFunc_window_place [t0, t1, t112, t3, t4] σ) fun t134 σ =>
  bindV (abin .add t112 (I 1)) fun t136 =>
  r1 t0 t136 t2 t3 t4 t128 t113 σ) (
  bindV (abin .geq t120 t122) fun t139 =>
  bindV (abin .add t112 (I 1)) fun t142 =>
  bindR (call n_slices_pdqsortCmpFunc_window_place [t0, t142, t2, t3, t4] σ) fun t146 σ =>
  r1 t0 t1 t112 t3 t4 t139 t113 σ))
def slices_pdqsortCmpFunc_window_placeJ3 (call : CallF H) (f : Nat) (r1 : Value → Value → Value → Value → Value → Value → Value → St H → R H) (t0 t1 t2 t3 t4 t10 t11 t12 t13 t14 : Value) (σ : St H) : R H :=
  bindV (bif kyes t10 true then some t11 else some undefV) fun t70 =>
  bindV (vPick t10 t70 ff) fun t71 =>
  bindV (bif kyes t71 true then some t14 else some undefV) fun t73 =>
  bindV (bif kyes t71 true then abin .eql t73 (I 1) else some undefV) fun t74 =>
  bindV (vPick t71 t74 ff) fun t75 =>
  ifV t75 (
  bindR (call n_slices_partialInsertionSortCmpFunc_window_place [t0, t1, t2, t4] σ) fun t80 σ =>
  ifV t80 (
  some (.tuple ⟨[]⟩, σ)) (
  slices_pdqsortCmpFunc_window_placeJ2 call f r1 t0 t1 t2 t3 t4 t10 t11 t12 t13 σ)) (
  slices_pdqsortCmpFunc_window_placeJ2 call f r1 t0 t1 t2 t3 t4 t10 t11 t12 t13 σ)
def slices_pdqsortCmpFunc_window_placeJ4 (call : CallF H) (f : Nat) (r1 : Value → Value → Value → Value → Value → Value → Value → St H → R H) (t0 t1 t2 t3 t4 t10 t11 t12 : Value) (σ : St H) : R H :=
  bindR (call n_slices_choosePivotCmpFunc_window_place [t0, t1, t2, t4] σ) fun t52 σ =>
  bindV (vExtract 0 t52) fun t53 =>
  bindV (vExtract 1 t52) fun t54 =>
  bindV (abin .eql t54 (I 2)) fun t56 =>
  ifV t56 (
  bindR (call n_slices_reverseRangeCmpFunc_window_place [t0, t1, t2, t4] σ) fun t61 σ =>
  bindV (abin .sub t2 (I 1)) fun t63 =>
  bindV (abin .sub t53 t1) fun t66 =>
  bindV (abin .sub t63 t66) fun t67 =>
  slices_pdqsortCmpFunc_window_placeJ3 call f r1 t0 t1 t2 t3 t4 t10 t11 t12 t67 (I 1) σ) (
  slices_pdqsortCmpFunc_window_placeJ3 call f r1 t0 t1 t2 t3 t4 t10 t11 t12 t53 t54 σ)
def slices_pdqsortCmpFunc_window_placeL1 (call : CallF H) (f : Nat) (n : Nat) : Value → Value → Value → Value → Value → Value → Value → St H → R H :=
  Nat.rec (fun _ _ _ _ _ _ _ _ => none) (fun _ r1 => fun t0 t1 t2 t3 t4 t10 t11 σ =>
  bindV (abin .sub t2 t1) fun t23 =>
  bindV (abin .leq t23 (I 12)) fun t25 =>
  ifV t25 (
  bindR (call n_slices_insertionSortCmpFunc_window_place [t0, t1, t2, t4] σ) fun t30 σ =>
  some (.tuple ⟨[]⟩, σ)) (
  bindV (abin .eql t3 (I 0)) fun t32 =>
  ifV t32 (
  bindR (call n_slices_heapSortCmpFunc_window_place [t0, t1, t2, t4] σ) fun t37 σ =>
  some (.tuple ⟨[]⟩, σ)) (
  bindV (aun .not t10) fun t39 =>
  ifV t39 (
  bindR (call n_slices_breakPatternsCmpFunc_window_place [t0, t1, t2, t4] σ) fun t44 σ =>
  bindV (abin .sub t3 (I 1)) fun t46 =>
  slices_pdqsortCmpFunc_window_placeJ4 call f r1 t0 t1 t2 t46 t4 t10 t11 t23 σ) (
  slices_pdqsortCmpFunc_window_placeJ4 call f r1 t0 t1 t2 t3 t4 t10 t11 t23 σ)))) n
def slices_pdqsortCmpFunc_window_placeJ5 (call : CallF H) (f : Nat) (t0 t1 t2 t3 t4 t10 : Value) (σ : St H) : R H :=
  slices_pdqsortCmpFunc_window_placeL1 call f f t0 t1 t2 t3 t4 t10 tt σ
def slices_pdqsortCmpFunc_window_placeJ6 (call : CallF H) (f : Nat) (t0 t1 t2 t3 t4 : Value) (σ : St H) : R H :=
  slices_pdqsortCmpFunc_window_placeJ5 call f t0 t1 t2 t3 t4 tt σ
def slices_pdqsortCmpFunc_window_place (call : CallF H) (f : Nat) (a0 a1 a2 a3 a4 : Value) (σ : St H) : R H := slices_pdqsortCmpFunc_window_placeJ6 call f a0 a1 a2 a3 a4 σ
theorem slices_pdqsortCmpFunc_window_placeEq (call : CallF H) (f : Nat) (a0 a1 a2 a3 a4 : Value) (σ : St H) : kbody call f (codeOf P n_slices_pdqsortCmpFunc_window_place) [a0, a1, a2, a3, a4] σ = slices_pdqsortCmpFunc_window_place call f a0 a1 a2 a3 a4 σ :=
  kbody_of (rs := slices_pdqsortCmpFunc_window_placeR) (by kernel_rfl) (by kernel_rfl) (by kernel_rfl) (seq_eq (by kernel_rfl) (seq_eq (by kernel_rfl) (block_eq (by kernel_rfl) (loop_eq (fun n e σ => slices_pdqsortCmpFunc_window_placeL1 call f n (e 0) (e 1) (e 2) (e 3) (e 4) (e 10) (e 11) σ) (by kernel_rfl) (by kernel_rfl) (fun n1 => (leaf (by kernel_rfl)))))
  (leaf (B := fun e σ => slices_pdqsortCmpFunc_window_placeJ5 call f (e 0) (e 1) (e 2) (e 3) (e 4) (e 10) σ) (by kernel_rfl)))
  (leaf (B := fun e σ => slices_pdqsortCmpFunc_window_placeJ6 call f (e 0) (e 1) (e 2) (e 3) (e 4) σ) (by kernel_rfl))) (by kernel_rfl)

abbrev slices_rotateCmpFunc_api_MailR : List ARes := []
def slices_rotateCmpFunc_api_MailJ1 (call : CallF H) (f : Nat) (t0 t2 t4 t10 : Value) (σ : St H) : R H :=
  bindV (abin .sub t2 t10) fun t53 =>
  bindR (call n_slices_swapRangeCmpFunc_api_Mail [t0, t53, t2, t10, t4] σ) fun t57 σ =>
  some (.tuple ⟨[]⟩, σ)
def slices_rotateCmpFunc_api_MailL2 (call : CallF H) (f : Nat) (n : Nat) : Value → Value → Value → Value → Value → St H → R H :=
  Nat.rec (fun _ _ _ _ _ _ => none) (fun _ r2 => fun t0 t2 t4 t10 t11 σ =>
  bindV (abin .neq t10 t11) fun t20 =>
  ifV t20 (
  bindV (abin .gtr t10 t11) fun t23 =>
  ifV t23 (
  bindV (abin .sub t2 t10) fun t27 =>
  bindR (call n_slices_swapRangeCmpFunc_api_Mail [t0, t27, t2, t11, t4] σ) fun t31 σ =>
  bindV (abin .sub t10 t11) fun t34 =>
  r2 t0 t2 t4 t34 t11 σ) (
  bindV (abin .sub t2 t10) fun t38 =>
  bindV (abin .add t2 t11) fun t41 =>
  bindV (abin .sub t41 t10) fun t43 =>
  bindR (call n_slices_swapRangeCmpFunc_api_Mail [t0, t38, t43, t10, t4] σ) fun t46 σ =>
  bindV (abin .sub t11 t10) fun t49 =>
  r2 t0 t2 t4 t10 t49 σ)) (
  slices_rotateCmpFunc_api_MailJ1 call f t0 t2 t4 t10 σ)) n
def slices_rotateCmpFunc_api_MailJ3 (call : CallF H) (f : Nat) (t0 t2 t3 t4 t10 : Value) (σ : St H) : R H :=
  bindV (abin .sub t3 t2) fun t17 =>
  slices_rotateCmpFunc_api_MailL2 call f f t0 t2 t4 t10 t17 σ
def slices_rotateCmpFunc_api_MailJ4 (call : CallF H) (f : Nat) (t0 t1 t2 t3 t4 : Value) (σ : St H) : R H :=
  bindV (abin .sub t2 t1) fun t14 =>
  slices_rotateCmpFunc_api_MailJ3 call f t0 t2 t3 t4 t14 σ
def slices_rotateCmpFunc_api_Mail (call : CallF H) (f : Nat) (a0 a1 a2 a3 a4 : Value) (σ : St H) : R H := slices_rotateCmpFunc_api_MailJ4 call f a0 a1 a2 a3 a4 σ
theorem slices_rotateCmpFunc_api_MailEq (call : CallF H) (f : Nat) (a0 a1 a2 a3 a4 : Value) (σ : St H) : kbody call f (codeOf P n_slices_rotateCmpFunc_api_Mail) [a0, a1, a2, a3, a4] σ = slices_rotateCmpFunc_api_Mail call f a0 a1 a2 a3 a4 σ :=
  kbody_of (rs := slices_rotateCmpFunc_api_MailR) (by kernel_rfl) (by kernel_rfl) (by kernel_rfl) (seq_eq (by kernel_rfl) (seq_eq (by kernel_rfl) (seq_eq (by kernel_rfl) (leaf (B := fun e σ => slices_rotateCmpFunc_api_MailJ1 call f (e 0) (e 2) (e 4) (e 10) σ) (by kernel_rfl))
  (block_eq (by kernel_rfl) (loop_eq (fun n e σ => slices_rotateCmpFunc_api_MailL2 call f n (e 0) (e 2) (e 4) (e 10) (e 11) σ) (by kernel_rfl) (by kernel_rfl) (fun n2 => (leaf (by kernel_rfl))))))
  (leaf (B := fun e σ => slices_rotateCmpFunc_api_MailJ3 call f (e 0) (e 2) (e 3) (e 4) (e 10) σ) (by kernel_rfl)))
  (leaf (B := fun e σ => slices_rotateCmpFunc_api_MailJ4 call f (e 0) (e 1) (e 2) (e 3) (e 4) σ) (by kernel_rfl))) (by kernel_rfl)

abbrev slices_siftDownOrdered_intR : List ARes := []
def slices_siftDownOrdered_intJ2 (call : CallF H) (f : Nat) (r1 : Value → Value → Value → Value → St H → R H) (t0 t2 t3 t8 t9 : Value) (σ : St H) : R H :=
  bindV (abin .add t3 t8) fun t42 =>
  bindV (vIndexAddr 1 t0 t42) fun t43 =>
  bindV (vLoad false 1 t43 σ) fun t44 =>
  bindV (abin .add t3 t9) fun t48 =>
  bindV (vIndexAddr 1 t0 t48) fun t49 =>
  bindV (vLoad false 1 t49 σ) fun t50 =>
  bindR (call n_cmp_Less_int [t44, t50] σ) fun t51 σ =>
  bindV (aun .not t51) fun t52 =>
  ifV t52 (
  some (.tuple ⟨[]⟩, σ)) (
  bindV (abin .add t3 t8) fun t56 =>
  bindV (abin .add t3 t9) fun t60 =>
  bindV (abin .add t3 t9) fun t64 =>
  bindV (vIndexAddr 1 t0 t64) fun t65 =>
  bindV (vLoad false 1 t65 σ) fun t66 =>
  bindV (abin .add t3 t8) fun t70 =>
  bindV (vIndexAddr 1 t0 t70) fun t71 =>
  bindV (vLoad false 1 t71 σ) fun t72 =>
  bindV (vIndexAddr 1 t0 t56) fun t73 =>
  bindS (vStore 1 t73 t66 σ) fun σ =>
  bindV (vIndexAddr 1 t0 t60) fun t74 =>
  bindS (vStore 1 t74 t72 σ) fun σ =>
  r1 t0 t2 t3 t9 σ)
def slices_siftDownOrdered_intL1 (call : CallF H) (f : Nat) (n : Nat) : Value → Value → Value → Value → St H → R H :=
  Nat.rec (fun _ _ _ _ _ => none) (fun _ r1 => fun t0 t2 t3 t8 σ =>
  bindV (abin .mul (I 2) t8) fun t12 =>
  bindV (abin .add t12 (I 1)) fun t13 =>
  bindV (abin .geq t13 t2) fun t16 =>
  ifV t16 (
  some (.tuple ⟨[]⟩, σ)) (
  bindV (abin .add t13 (I 1)) fun t18 =>
  bindV (abin .lss t18 t2) fun t20 =>
  bindV (bif kyes t20 true then some t0 else some undefV) fun t22 =>
  bindV (bif kyes t20 true then some t3 else some undefV) fun t23 =>
  bindV (bif kyes t20 true then some t13 else some undefV) fun t24 =>
  bindV (bif kyes t20 true then abin .add t23 t24 else some undefV) fun t25 =>
  bindV (bif kyes t20 true then vIndexAddr 1 t22 t25 else some undefV) fun t26 =>
  bindV (bif kyes t20 true then vLoad false 1 t26 σ else some undefV) fun t27 =>
  bindV (bif kyes t20 true then some t0 else some undefV) fun t28 =>
  bindV (bif kyes t20 true then some t3 else some undefV) fun t29 =>
  bindV (bif kyes t20 true then some t13 else some undefV) fun t30 =>
  bindV (bif kyes t20 true then abin .add t29 t30 else some undefV) fun t31 =>
  bindV (bif kyes t20 true then abin .add t31 (I 1) else some undefV) fun t32 =>
  bindV (bif kyes t20 true then vIndexAddr 1 t28 t32 else some undefV) fun t33 =>
  bindV (bif kyes t20 true then vLoad false 1 t33 σ else some undefV) fun t34 =>
  bindR (bif kyes t20 true then call n_cmp_Less_int [t27, t34] σ else some (undefV, σ)) fun t35 σ =>
  bindV (vPick t20 t35 ff) fun t36 =>
  ifV t36 (
  bindV (abin .add t13 (I 1)) fun t38 =>
  slices_siftDownOrdered_intJ2 call f r1 t0 t2 t3 t8 t38 σ) (
  slices_siftDownOrdered_intJ2 call f r1 t0 t2 t3 t8 t13 σ))) n
def slices_siftDownOrdered_intJ3 (call : CallF H) (f : Nat) (t0 t1 t2 t3 : Value) (σ : St H) : R H :=
  slices_siftDownOrdered_intL1 call f f t0 t2 t3 t1 σ
def slices_siftDownOrdered_int (call : CallF H) (f : Nat) (a0 a1 a2 a3 : Value) (σ : St H) : R H := slices_siftDownOrdered_intJ3 call f a0 a1 a2 a3 σ
theorem slices_siftDownOrdered_intEq (call : CallF H) (f : Nat) (a0 a1 a2 a3 : Value) (σ : St H) : kbody call f (codeOf P n_slices_siftDownOrdered_int) [a0, a1, a2, a3] σ = slices_siftDownOrdered_int call f a0 a1 a2 a3 σ :=
  kbody_of (rs := slices_siftDownOrdered_intR) (by kernel_rfl) (by kernel_rfl) (by kernel_rfl) (seq_eq (by kernel_rfl) (block_eq (by kernel_rfl) (loop_eq (fun n e σ => slices_siftDownOrdered_intL1 call f n (e 0) (e 2) (e 3) (e 8) σ) (by kernel_rfl) (by kernel_rfl) (fun n1 => (leaf (by kernel_rfl)))))
  (leaf (B := fun e σ => slices_siftDownOrdered_intJ3 call f (e 0) (e 1) (e 2) (e 3) σ) (by kernel_rfl))) (by kernel_rfl)

def slices_nextPowerOfTwo (call : CallF H) (f : Nat) (a0 : Value) (σ : St H) : R H :=
  bindV (vConv .u64 a0) fun t4 =>
  bindR (call n_math_bits_Len [t4] σ) fun t5 σ =>
  bindV (abin .shl (.int .u64 1) t5) fun t6 =>
  some (t6, σ)
theorem slices_nextPowerOfTwoEq (call : CallF H) (f : Nat) (a0 : Value) (σ : St H) : kbody call f (codeOf P n_slices_nextPowerOfTwo) [a0] σ = slices_nextPowerOfTwo call f a0 σ := by kernel_rfl

def slices_xorshift_Next (call : CallF H) (f : Nat) (a0 : Value) (σ : St H) : R H :=
  bindV (vNil a0) fun t4 =>
  bindV (vLoad false 1 t4 σ) fun t5 =>
  bindV (vNil a0) fun t7 =>
  bindV (vLoad false 1 t7 σ) fun t8 =>
  bindV (abin .shl t8 (.int .u64 13)) fun t9 =>
  bindV (abin .xor t5 t9) fun t10 =>
  bindV (vNil a0) fun t11 =>
  bindS (vStore 1 t11 t10 σ) fun σ =>
  bindV (vNil a0) fun t13 =>
  bindV (vLoad false 1 t13 σ) fun t14 =>
  bindV (vNil a0) fun t16 =>
  bindV (vLoad false 1 t16 σ) fun t17 =>
  bindV (abin .shr t17 (.int .u64 7)) fun t18 =>
  bindV (abin .xor t14 t18) fun t19 =>
  bindV (vNil a0) fun t20 =>
  bindS (vStore 1 t20 t19 σ) fun σ =>
  bindV (vNil a0) fun t22 =>
  bindV (vLoad false 1 t22 σ) fun t23 =>
  bindV (vNil a0) fun t25 =>
  bindV (vLoad false 1 t25 σ) fun t26 =>
  bindV (abin .shl t26 (.int .u64 17)) fun t27 =>
  bindV (abin .xor t23 t27) fun t28 =>
  bindV (vNil a0) fun t29 =>
  bindS (vStore 1 t29 t28 σ) fun σ =>
  bindV (vNil a0) fun t31 =>
  bindV (vLoad false 1 t31 σ) fun t32 =>
  some (t32, σ)
theorem slices_xorshift_NextEq (call : CallF H) (f : Nat) (a0 : Value) (σ : St H) : kbody call f (codeOf P n_slices_xorshift_Next) [a0] σ = slices_xorshift_Next call f a0 σ := by kernel_rfl

def slices_medianAdjacentOrdered_int (call : CallF H) (f : Nat) (a0 a1 a2 : Value) (σ : St H) : R H :=
  bindV (abin .sub a1 (I 1)) fun t9 =>
  bindV (abin .add a1 (I 1)) fun t12 =>
  bindR (call n_slices_medianOrdered_int [a0, t9, a1, t12, a2] σ) fun t14 σ =>
  some (t14, σ)
theorem slices_medianAdjacentOrdered_intEq (call : CallF H) (f : Nat) (a0 a1 a2 : Value) (σ : St H) : kbody call f (codeOf P n_slices_medianAdjacentOrdered_int) [a0, a1, a2] σ = slices_medianAdjacentOrdered_int call f a0 a1 a2 σ := by kernel_rfl

def slices_medianOrdered_int (call : CallF H) (f : Nat) (a0 a1 a2 a3 a4 : Value) (σ : St H) : R H :=
  bindR (call n_slices_order2Ordered_int [a0, a1, a2, a4] σ) fun t16 σ =>
  bindV (vExtract 0 t16) fun t17 =>
  bindV (vExtract 1 t16) fun t18 =>
  bindR (call n_slices_order2Ordered_int [a0, t18, a3, a4] σ) fun t24 σ =>
  bindV (vExtract 0 t24) fun t25 =>
  bindV (vExtract 1 t24) fun t26 =>
  bindR (call n_slices_order2Ordered_int [a0, t17, t25, a4] σ) fun t32 σ =>
  bindV (vExtract 0 t32) fun t33 =>
  bindV (vExtract 1 t32) fun t34 =>
  some (t34, σ)
theorem slices_medianOrdered_intEq (call : CallF H) (f : Nat) (a0 a1 a2 a3 a4 : Value) (σ : St H) : kbody call f (codeOf P n_slices_medianOrdered_int) [a0, a1, a2, a3, a4] σ = slices_medianOrdered_int call f a0 a1 a2 a3 a4 σ := by kernel_rfl

abbrev load_AllR : List ARes := [.tmp 6]
def load_AllJ1 (call : CallF H) (f : Nat) (t7 : Value) (σ : St H) : R H :=
  some (t7, σ)
def load_AllJ3 (call : CallF H) (f : Nat) (r2 : Value → Value → Value → Value → Value → Value → St H → R H) (t1 t3 t7 t27 t28 t29 : Value) (σ : St H) : R H :=
  bindV (abin .add t29 (I 1)) fun t58 =>
  r2 t1 t3 t7 t27 t28 t58 σ
def load_AllL4 (call : CallF H) (f : Nat) (r2 : Value → Value → Value → Value → Value → Value → St H → R H) (n : Nat) : Value → Value → Value → Value → Value → Value → Value → Value → Value → St H → R H :=
  Nat.rec (fun _ _ _ _ _ _ _ _ _ _ => none) (fun _ r4 => fun t1 t3 t7 t27 t28 t29 t41 t42 t43 σ =>
  bindV (abin .lss t43 t42) fun t44 =>
  ifV t44 (
  bindV (vIndexAddr 1 t41 t43) fun t46 =>
  bindV (vLoad false 1 t46 σ) fun t47 =>
  bindV (vIndexAddr 1 t7 t43) fun t52 =>
  bindV (vLoad false 1 t52 σ) fun t53 =>
  bindR (vAppend 3 24 [(I 0), (I 0), (I 0)] false t53 t47 σ) fun t55 σ =>
  bindV (vIndexAddr 1 t7 t43) fun t56 =>
  bindS (vStore 1 t56 t55 σ) fun σ =>
  bindV (abin .add t43 (I 1)) fun t57 =>
  r4 t1 t3 t7 t27 t28 t29 t41 t42 t57 σ) (
  load_AllJ3 call f r2 t1 t3 t7 t27 t28 t29 σ)) n
def load_AllJ5 (call : CallF H) (f : Nat) (r2 : Value → Value → Value → Value → Value → Value → St H → R H) (t1 t3 t7 t10 t27 t28 t29 : Value) (σ : St H) : R H :=
  bindV (vLen .slice t10 σ) fun t42 =>
  load_AllL4 call f r2 f t1 t3 t7 t27 t28 t29 t10 t42 (I 0) σ
def load_AllJ6 (call : CallF H) (f : Nat) (r2 : Value → Value → Value → Value → Value → Value → St H → R H) (t1 t3 t7 t10 t27 t28 t29 : Value) (σ : St H) : R H :=
  bindV (vEq .nils false t10 (.slice none 0 0)) fun t40 =>
  ifV t40 (
  some ((.slice none 0 0), σ)) (
  load_AllJ5 call f r2 t1 t3 t7 t10 t27 t28 t29 σ)
def load_AllJ7 (call : CallF H) (f : Nat) (r2 : Value → Value → Value → Value → Value → Value → St H → R H) (t1 t3 t7 t8 t9 t27 t28 t29 : Value) (σ : St H) : R H :=
  bindV (vLoad true 5 t3 σ) fun t34 =>
  bindV (vLoad true 2 t9 σ) fun t37 =>
  bindR (call n_load_Of [t34, t1, t8, t37] σ) fun t38 σ =>
  load_AllJ6 call f r2 t1 t3 t7 t38 t27 t28 t29 σ
def load_AllJ8 (call : CallF H) (f : Nat) (r2 : Value → Value → Value → Value → Value → Value → St H → R H) (t1 t3 t7 t27 t28 t29 : Value) (σ : St H) : R H :=
  bindV (vIndexAddr 2 t27 t29) fun t32 =>
  bindV (vLoad true 2 t32 σ) fun t33 =>
  bindR (vBox (.agg ⟨[(I 0), (.slice none 0 0)]⟩) σ) fun t9 σ =>
  bindS (vStore 2 t9 t33 σ) fun σ =>
  load_AllJ7 call f r2 t1 t3 t7 t29 t9 t27 t28 t29 σ
def load_AllJ9 (call : CallF H) (f : Nat) (r2 : Value → Value → Value → Value → Value → Value → St H → R H) (t1 t3 t7 t27 t28 t29 t30 : Value) (σ : St H) : R H :=
  ifV t30 (
  load_AllJ8 call f r2 t1 t3 t7 t27 t28 t29 σ) (
  load_AllJ1 call f t7 σ)
def load_AllJ10 (call : CallF H) (f : Nat) (r2 : Value → Value → Value → Value → Value → Value → St H → R H) (t1 t3 t7 t27 t28 t29 : Value) (σ : St H) : R H :=
  bindV (abin .lss t29 t28) fun t30 =>
  load_AllJ9 call f r2 t1 t3 t7 t27 t28 t29 t30 σ
def load_AllL2 (call : CallF H) (f : Nat) (n : Nat) : Value → Value → Value → Value → Value → Value → St H → R H :=
  Nat.rec (fun _ _ _ _ _ _ _ => none) (fun _ r2 => fun t1 t3 t7 t27 t28 t29 σ =>
  load_AllJ10 call f r2 t1 t3 t7 t27 t28 t29 σ) n
def load_AllJ11 (call : CallF H) (f : Nat) (t1 t2 t3 t7 : Value) (σ : St H) : R H :=
  bindV (vLen .slice t2 σ) fun t28 =>
  load_AllL2 call f f t1 t3 t7 t2 t28 (I 0) σ
def load_AllJ12 (call : CallF H) (f : Nat) (t1 t2 t3 : Value) (σ : St H) : R H :=
  bindV (vFieldAddr 0 t3) fun t24 =>
  bindV (vLoad false 1 t24 σ) fun t25 =>
  bindR (vMkSlice 24 [(.slice none 0 0)] t25 t25 σ) fun t26 σ =>
  load_AllJ11 call f t1 t2 t3 t26 σ
def load_AllJ13 (call : CallF H) (f : Nat) (t1 t2 t3 : Value) (σ : St H) : R H :=
  bindV (vLoad true 5 t3 σ) fun t13 =>
  bindR (call n_load_may [t13, t1] σ) fun t15 σ =>
  bindV (aun .not t15) fun t16 =>
  bindV (bif kyes t16 false then some t2 else some undefV) fun t18 =>
  bindV (bif kyes t16 false then vLen .slice t18 σ else some undefV) fun t19 =>
  bindV (bif kyes t16 false then some t1 else some undefV) fun t20 =>
  bindV (bif kyes t16 false then vLen .slice t20 σ else some undefV) fun t21 =>
  bindV (bif kyes t16 false then abin .neq t19 t21 else some undefV) fun t22 =>
  bindV (vPick t16 tt t22) fun t23 =>
  ifV t23 (
  some ((.slice none 0 0), σ)) (
  load_AllJ12 call f t1 t2 t3 σ)
def load_AllJ14 (call : CallF H) (f : Nat) (t0 t1 t2 : Value) (σ : St H) : R H :=
  bindR (vBox t0 σ) fun t3 σ =>
  load_AllJ13 call f t1 t2 t3 σ
def load_All (call : CallF H) (f : Nat) (a0 a1 a2 : Value) (σ : St H) : R H := load_AllJ14 call f a0 a1 a2 σ
theorem load_AllEq (call : CallF H) (f : Nat) (a0 a1 a2 : Value) (σ : St H) : kbody call f (codeOf P n_load_All) [a0, a1, a2] σ = load_All call f a0 a1 a2 σ :=
  kbody_of (rs := load_AllR) (by kernel_rfl) (by kernel_rfl) (by kernel_rfl) (seq_eq (by kernel_rfl) (seq_eq (by kernel_rfl) (seq_eq (by kernel_rfl) (seq_eq (by kernel_rfl) (leaf (B := fun e σ => load_AllJ1 call f (e 7) σ) (by kernel_rfl))
  (seq_eq (by kernel_rfl) (block_eq (by kernel_rfl) (loop_eq (fun n e σ => load_AllL2 call f n (e 1) (e 3) (e 7) (e 27) (e 28) (e 29) σ) (by kernel_rfl) (by kernel_rfl) (fun n2 => (tr (seq_eq (by kernel_rfl) (seq_eq (by kernel_rfl) (seq_eq (by kernel_rfl) (leaf (B := fun e σ => load_AllJ3 call f (load_AllL2 call f n2) (e 1) (e 3) (e 7) (e 27) (e 28) (e 29) σ) (by kernel_rfl))
  (block_eq (by kernel_rfl) (seq_eq (by kernel_rfl) (seq_eq (by kernel_rfl) (seq_eq (by kernel_rfl) (seq_eq (by kernel_rfl) (block_eq (by kernel_rfl) (loop_eq (fun n e σ => load_AllL4 call f (load_AllL2 call f n2) n (e 1) (e 3) (e 7) (e 27) (e 28) (e 29) (e 41) (e 42) (e 43) σ) (by kernel_rfl) (by kernel_rfl) (fun n4 => (leaf (by kernel_rfl)))))
  (leaf (B := fun e σ => load_AllJ5 call f (load_AllL2 call f n2) (e 1) (e 3) (e 7) (e 10) (e 27) (e 28) (e 29) σ) (by kernel_rfl)))
  (leaf (B := fun e σ => load_AllJ6 call f (load_AllL2 call f n2) (e 1) (e 3) (e 7) (e 10) (e 27) (e 28) (e 29) σ) (by kernel_rfl)))
  (leaf (B := fun e σ => load_AllJ7 call f (load_AllL2 call f n2) (e 1) (e 3) (e 7) (e 8) (e 9) (e 27) (e 28) (e 29) σ) (by kernel_rfl)))
  (leaf (B := fun e σ => load_AllJ8 call f (load_AllL2 call f n2) (e 1) (e 3) (e 7) (e 27) (e 28) (e 29) σ) (by kernel_rfl)))))
  (leaf (B := fun e σ => load_AllJ9 call f (load_AllL2 call f n2) (e 1) (e 3) (e 7) (e 27) (e 28) (e 29) (e 30) σ) (by kernel_rfl)))
  (leaf (B := fun e σ => load_AllJ10 call f (load_AllL2 call f n2) (e 1) (e 3) (e 7) (e 27) (e 28) (e 29) σ) (by kernel_rfl))) (by kernel_rfl)))))
  (leaf (B := fun e σ => load_AllJ11 call f (e 1) (e 2) (e 3) (e 7) σ) (by kernel_rfl))))
  (leaf (B := fun e σ => load_AllJ12 call f (e 1) (e 2) (e 3) σ) (by kernel_rfl)))
  (leaf (B := fun e σ => load_AllJ13 call f (e 1) (e 2) (e 3) σ) (by kernel_rfl)))
  (leaf (B := fun e σ => load_AllJ14 call f (e 0) (e 1) (e 2) σ) (by kernel_rfl))) (by kernel_rfl)

def law14x_begun (call : CallF H) (f : Nat) (σ : St H) : R H :=
  bindV (vBuild [(I 0), (I 0), (I 0), (I 0), (.slice none 0 0)] [(0, 1, (I 2)), (2, 1, (I 1)), (3, 1, (I 1))]) fun t12 =>
  bindR (vBox (.agg ⟨[(I 0), (I 0), (I 0), (I 0), (.slice none 0 0)]⟩) σ) fun t1 σ =>
  bindS (vStore 5 t1 t12 σ) fun σ =>
  bindV (vBuild [(I 0), (I 0), (I 0)] [(0, 1, (I 6)), (1, 1, (I 10)), (2, 1, (I 10))]) fun t13 =>
  bindR (vBuildSlice 1 [(I 0), (I 0), (I 0)] [(0, 3, t13)] σ) fun t14 σ =>
  bindV (vBuild [(I 0), (I 0), (I 0)] [(0, 1, (I 6)), (1, 1, (I 10)), (2, 1, (I 10))]) fun t15 =>
  bindR (vBuildSlice 1 [(I 0), (I 0), (I 0)] [(0, 3, t15)] σ) fun t16 σ =>
  bindR (vBuildSlice 2 [(.slice none 0 0), (.slice none 0 0)] [(0, 1, t14), (1, 1, t16)] σ) fun t17 σ =>
  bindV (vBuild [(I 0), (I 0), (I 0), (.slice none 0 0)] [(0, 1, (I 5)), (1, 1, (I 10)), (2, 1, (I 10))]) fun t18 =>
  bindR (vBox (.agg ⟨[(I 0), (I 0), (I 0), (.slice none 0 0)]⟩) σ) fun t3 σ =>
  bindS (vStore 4 t3 t18 σ) fun σ =>
  bindV (vLoad true 4 t3 σ) fun t21 =>
  bindR (call n_whole_Place [t17, t21, (I 0)] σ) fun t22 σ =>
  bindV (vExtract 0 t22) fun t23 =>
  bindV (vExtract 1 t22) fun t24 =>
  bindR (vBox (.agg ⟨[(I 0), (.slice none 0 0)]⟩) σ) fun t4 σ =>
  bindS (vStore 2 t4 t23 σ) fun σ =>
  bindR (vBuildSlice 2 [(.slice none 0 0), (.slice none 0 0)] [(0, 1, (.slice none 0 0)), (1, 1, (.slice none 0 0))] σ) fun t26 σ =>
  bindV (vLoad true 4 t3 σ) fun t27 =>
  bindR (call n_whole_Place [t26, t27, (I 1)] σ) fun t28 σ =>
  bindV (vExtract 0 t28) fun t29 =>
  bindV (vExtract 1 t28) fun t30 =>
  bindR (vBox (.agg ⟨[(I 0), (.slice none 0 0)]⟩) σ) fun t6 σ =>
  bindS (vStore 2 t6 t29 σ) fun σ =>
  bindV (vLoad true 5 t1 σ) fun t32 =>
  bindV (vLoad true 4 t3 σ) fun t34 =>
  bindR (call n_window_Split [t32, t17, t34] σ) fun t35 σ =>
  bindV (vExtract 0 t35) fun t36 =>
  bindV (vExtract 1 t35) fun t37 =>
  bindR (vBox (.agg ⟨[(I 0), (.slice none 0 0)]⟩) σ) fun t8 σ =>
  bindS (vStore 2 t8 t36 σ) fun σ =>
  bindV (vLoad true 5 t1 σ) fun t39 =>
  bindV (vBuild [(I 0), (I 0), (I 0), (.slice none 0 0)] [(0, 1, (I 5)), (1, 1, (I 20)), (2, 1, (I 20))]) fun t41 =>
  bindR (call n_zero_Split [t39, t17, t41] σ) fun t42 σ =>
  bindV (vExtract 0 t42) fun t43 =>
  bindV (vExtract 1 t42) fun t44 =>
  bindR (vBox (.agg ⟨[(I 0), (.slice none 0 0)]⟩) σ) fun t10 σ =>
  bindS (vStore 2 t10 t43 σ) fun σ =>
  bindR (call n_law12x_Begun [] σ) fun t45 σ =>
  bindV (bif kyes t45 true then some t24 else some undefV) fun t47 =>
  bindV (bif kyes t45 true then aun .not t47 else some undefV) fun t48 =>
  bindV (vPick t45 t48 ff) fun t49 =>
  bindV (bif kyes t49 true then some t30 else some undefV) fun t51 =>
  bindV (vPick t49 t51 ff) fun t52 =>
  bindV (bif kyes t52 true then vFieldAddr 0 t6 else some undefV) fun t54 =>
  bindV (bif kyes t52 true then vLoad false 1 t54 σ else some undefV) fun t55 =>
  bindV (bif kyes t52 true then abin .eql t55 (I 1) else some undefV) fun t56 =>
  bindV (vPick t52 t56 ff) fun t57 =>
  bindV (bif kyes t57 true then vFieldAddr 1 t6 else some undefV) fun t59 =>
  bindV (bif kyes t57 true then vLoad false 1 t59 σ else some undefV) fun t60 =>
  bindV (bif kyes t57 true then vLen .slice t60 σ else some undefV) fun t61 =>
  bindV (bif kyes t57 true then abin .eql t61 (I 1) else some undefV) fun t62 =>
  bindV (vPick t57 t62 ff) fun t63 =>
  bindV (bif kyes t63 true then some t37 else some undefV) fun t65 =>
  bindV (bif kyes t63 true then vLoad true 5 t1 σ else some undefV) fun t66 =>
  bindV (bif kyes t63 true then vLoad true 4 t3 σ else some undefV) fun t67 =>
  bindV (bif kyes t63 true then vLoad true 2 t8 σ else some undefV) fun t68 =>
  bindR (bif kyes t63 true then call n_plan_May [t66, t67, t68] σ else some (undefV, σ)) fun t69 σ =>
  bindV (bif kyes t63 true then vEq .sc false t65 t69 else some undefV) fun t70 =>
  bindV (vPick t63 t70 ff) fun t71 =>
  bindV (bif kyes t71 true then some t44 else some undefV) fun t73 =>
  bindV (bif kyes t71 true then vLoad true 5 t1 σ else some undefV) fun t74 =>
  bindV (bif kyes t71 true then vBuild [(I 0), (I 0), (I 0), (.slice none 0 0)] [(0, 1, (I 5)), (1, 1, (I 20)), (2, 1, (I 20))] else some undefV) fun t75 =>
  bindV (bif kyes t71 true then vLoad true 2 t10 σ else some undefV) fun t76 =>
  bindR (bif kyes t71 true then call n_plan_May [t74, t75, t76] σ else some (undefV, σ)) fun t77 σ =>
  bindV (bif kyes t71 true then vEq .sc false t73 t77 else some undefV) fun t78 =>
  bindV (vPick t71 t78 ff) fun t79 =>
  bindV (bif kyes t79 true then vLoad true 5 t1 σ else some undefV) fun t81 =>
  bindV (bif kyes t79 true then vLoad true 4 t3 σ else some undefV) fun t82 =>
  bindR (bif kyes t79 true then call n_window_Size [t81, t82, (I 2)] σ else some (undefV, σ)) fun t83 σ =>
  bindV (bif kyes t79 true then abin .eql t83 (I 4) else some undefV) fun t84 =>
  bindV (vPick t79 t84 ff) fun t85 =>
  bindV (bif kyes t85 true then vLoad true 2 t6 σ else some undefV) fun t87 =>
  bindR (bif kyes t85 true then call n_plan_Budget [t87] σ else some (undefV, σ)) fun t88 σ =>
  bindV (bif kyes t85 true then abin .eql t88 (I 5) else some undefV) fun t89 =>
  bindV (vPick t85 t89 ff) fun t90 =>
  bindV (bif kyes t90 true then vLoad true 2 t6 σ else some undefV) fun t92 =>
  bindR (bif kyes t90 true then call n_plan_Deadline [t92, (I 0), (I 7)] σ else some (undefV, σ)) fun t93 σ =>
  bindV (bif kyes t90 true then abin .eql t93 (I 17) else some undefV) fun t94 =>
  bindV (vPick t90 t94 ff) fun t95 =>
  bindV (bif kyes t95 true then vLoad true 2 t6 σ else some undefV) fun t97 =>
  bindV (bif kyes t95 true then vLoad true 2 t6 σ else some undefV) fun t98 =>
  bindR (bif kyes t95 true then call n_plan_Eq [t97, t98] σ else some (undefV, σ)) fun t99 σ =>
  bindV (vPick t95 t99 ff) fun t100 =>
  bindV (bif kyes t100 true then some t17 else some undefV) fun t102 =>
  bindV (bif kyes t100 true then vBuild [(I 0), (I 0), (I 0)] [(0, 1, (I 1)), (1, 1, (I 10)), (2, 1, (I 10))] else some undefV) fun t103 =>
  bindR (bif kyes t100 true then call n_whole_Core [t102, t103] σ else some (undefV, σ)) fun t104 σ =>
  bindV (bif kyes t100 true then abin .eql t104 (I 0) else some undefV) fun t105 =>
  bindV (vPick t100 t105 ff) fun t106 =>
  some (t106, σ)
theorem law14x_begunEq (call : CallF H) (f : Nat) (σ : St H) : kbody call f (codeOf P n_law14x_begun) [] σ = law14x_begun call f σ := by kernel_rfl

abbrev slices_Index__int_intR : List ARes := [.tmp 4]
def slices_Index__int_intJ1 (call : CallF H) (f : Nat) (σ : St H) : R H :=
  some ((I (-1)), σ)
def slices_Index__int_intL2 (call : CallF H) (f : Nat) (n : Nat) : Value → Value → Value → Value → St H → R H :=
  Nat.rec (fun _ _ _ _ _ => none) (fun _ r2 => fun t0 t1 t7 t8 σ =>
  bindV (abin .lss t8 t7) fun t9 =>
  ifV t9 (
  bindV (vIndexAddr 1 t0 t8) fun t14 =>
  bindV (vLoad false 1 t14 σ) fun t15 =>
  bindV (abin .eql t1 t15) fun t16 =>
  ifV t16 (
  some (t8, σ)) (
  bindV (abin .add t8 (I 1)) fun t18 =>
  r2 t0 t1 t7 t18 σ)) (
  slices_Index__int_intJ1 call f σ)) n
def slices_Index__int_intJ3 (call : CallF H) (f : Nat) (t0 t1 : Value) (σ : St H) : R H :=
  bindV (vLen .slice t0 σ) fun t7 =>
  slices_Index__int_intL2 call f f t0 t1 t7 (I 0) σ
def slices_Index__int_intJ4 (call : CallF H) (f : Nat) (t0 t1 : Value) (σ : St H) : R H :=
  slices_Index__int_intJ3 call f t0 t1 σ
def slices_Index__int_int (call : CallF H) (f : Nat) (a0 a1 : Value) (σ : St H) : R H := slices_Index__int_intJ4 call f a0 a1 σ
theorem slices_Index__int_intEq (call : CallF H) (f : Nat) (a0 a1 : Value) (σ : St H) : kbody call f (codeOf P n_slices_Index__int_int) [a0, a1] σ = slices_Index__int_int call f a0 a1 σ :=
  kbody_of (rs := slices_Index__int_intR) (by kernel_rfl) (by kernel_rfl) (by kernel_rfl) (seq_eq (by kernel_rfl) (seq_eq (by kernel_rfl) (leaf (B := fun e σ => slices_Index__int_intJ1 call f σ) (by kernel_rfl))
  (seq_eq (by kernel_rfl) (block_eq (by kernel_rfl) (loop_eq (fun n e σ => slices_Index__int_intL2 call f n (e 0) (e 1) (e 7) (e 8) σ) (by kernel_rfl) (by kernel_rfl) (fun n2 => (leaf (by kernel_rfl)))))
  (leaf (B := fun e σ => slices_Index__int_intJ3 call f (e 0) (e 1) σ) (by kernel_rfl))))
  (leaf (B := fun e σ => slices_Index__int_intJ4 call f (e 0) (e 1) σ) (by kernel_rfl))) (by kernel_rfl)

def heap_Heap_string_DropJ1 (call : CallF H) (f : Nat) (σ : St H) : R H :=
  some (tt, σ)
def heap_Heap_string_Drop (call : CallF H) (f : Nat) (a0 a1 : Value) (σ : St H) : R H :=
  bindV (vEq .nilp false a0 nilP) fun t9 =>
  ifV t9 (
  some (ff, σ)) (
  bindV (vNil a0) fun t12 =>
  bindV (vFieldAddr 2 t12) fun t13 =>
  bindV (vLoad false 1 t13 σ) fun t14 =>
  bindV (vLookup false (I 0) true t14 a1 σ) fun t16 =>
  bindV (vExtract 0 t16) fun t17 =>
  bindV (vExtract 1 t16) fun t18 =>
  bindV (aun .not t18) fun t20 =>
  ifV t20 (
  some (ff, σ)) (
  bindV (vNil a0) fun t22 =>
  bindV (vFieldAddr 1 t22) fun t23 =>
  bindV (vLoad false 1 t23 σ) fun t24 =>
  bindV (vLen .slice t24 σ) fun t25 =>
  bindV (abin .sub t25 (I 1)) fun t26 =>
  bindR (call n_heap_Heap_string_swap [a0, t17, t26] σ) fun t30 σ =>
  bindV (vNil a0) fun t33 =>
  bindV (vFieldAddr 1 t33) fun t34 =>
  bindV (vLoad false 1 t34 σ) fun t35 =>
  bindV (vSlice 4 t35 none (some t26) none) fun t37 =>
  bindV (vNil a0) fun t38 =>
  bindV (vFieldAddr 1 t38) fun t39 =>
  bindS (vStore 1 t39 t37 σ) fun σ =>
  bindV (vNil a0) fun t41 =>
  bindV (vFieldAddr 2 t41) fun t42 =>
  bindV (vLoad false 1 t42 σ) fun t43 =>
  bindS (vDelete false t43 a1 σ) fun σ =>
  bindV (abin .lss t17 t26) fun t47 =>
  ifV t47 (
  bindR (call n_heap_Heap_string_rise [a0, t17] σ) fun t50 σ =>
  bindR (call n_heap_Heap_string_sink [a0, t17] σ) fun t53 σ =>
  heap_Heap_string_DropJ1 call f σ) (
  heap_Heap_string_DropJ1 call f σ)))
theorem heap_Heap_string_DropEq (call : CallF H) (f : Nat) (a0 a1 : Value) (σ : St H) : kbody call f (codeOf P n_heap_Heap_string_Drop) [a0, a1] σ = heap_Heap_string_Drop call f a0 a1 σ := by kernel_rfl

abbrev heap_Heap_string_riseR : List ARes := []
def heap_Heap_string_riseL1 (call : CallF H) (f : Nat) (n : Nat) : Value → Value → St H → R H :=
  Nat.rec (fun _ _ _ => none) (fun _ r1 => fun t0 t1 σ =>
  bindV (abin .gtr t1 (I 0)) fun t5 =>
  bindV (bif kyes t5 true then some t0 else some undefV) fun t7 =>
  bindV (bif kyes t5 true then some t1 else some undefV) fun t8 =>
  bindV (bif kyes t5 true then some t1 else some undefV) fun t9 =>
  bindV (bif kyes t5 true then abin .sub t9 (I 1) else some undefV) fun t10 =>
  bindV (bif kyes t5 true then abin .quo t10 (I 2) else some undefV) fun t11 =>
  bindR (bif kyes t5 true then call n_heap_Heap_string_less [t7, t8, t11] σ else some (undefV, σ)) fun t12 σ =>
  bindV (vPick t5 t12 ff) fun t13 =>
  ifV t13 (
  bindV (abin .sub t1 (I 1)) fun t17 =>
  bindV (abin .quo t17 (I 2)) fun t18 =>
  bindR (call n_heap_Heap_string_swap [t0, t1, t18] σ) fun t19 σ =>
  bindV (abin .sub t1 (I 1)) fun t21 =>
  bindV (abin .quo t21 (I 2)) fun t22 =>
  r1 t0 t22 σ) (
  some (.tuple ⟨[]⟩, σ))) n
def heap_Heap_string_rise (call : CallF H) (f : Nat) (a0 a1 : Value) (σ : St H) : R H := heap_Heap_string_riseL1 call f f a0 a1 σ
theorem heap_Heap_string_riseEq (call : CallF H) (f : Nat) (a0 a1 : Value) (σ : St H) : kbody call f (codeOf P n_heap_Heap_string_rise) [a0, a1] σ = heap_Heap_string_rise call f a0 a1 σ :=
  kbody_of (rs := heap_Heap_string_riseR) (by kernel_rfl) (by kernel_rfl) (by kernel_rfl) (block_eq (by kernel_rfl) (loop_eq (fun n e σ => heap_Heap_string_riseL1 call f n (e 0) (e 1) σ) (by kernel_rfl) (by kernel_rfl) (fun n1 => (leaf (by kernel_rfl))))) (by kernel_rfl)

def ring_Ring_int_At (call : CallF H) (f : Nat) (a0 a1 : Value) (σ : St H) : R H :=
  bindV (abin .lss a1 (I 0)) fun t8 =>
  bindV (bif kyes t8 false then some a1 else some undefV) fun t10 =>
  bindV (bif kyes t8 false then some a0 else some undefV) fun t11 =>
  bindR (bif kyes t8 false then call n_ring_Ring_int_Len [t11] σ else some (undefV, σ)) fun t12 σ =>
  bindV (bif kyes t8 false then abin .geq t10 t12 else some undefV) fun t13 =>
  bindV (vPick t8 tt t13) fun t14 =>
  ifV t14 (
  some (.tuple ⟨[(I 0), ff]⟩, σ)) (
  bindV (vNil a0) fun t17 =>
  bindV (vFieldAddr 0 t17) fun t18 =>
  bindV (vLoad false 1 t18 σ) fun t19 =>
  bindV (vNil a0) fun t21 =>
  bindV (vFieldAddr 1 t21) fun t22 =>
  bindV (vLoad false 1 t22 σ) fun t23 =>
  bindV (abin .add t23 a1) fun t25 =>
  bindV (vNil a0) fun t27 =>
  bindV (vFieldAddr 0 t27) fun t28 =>
  bindV (vLoad false 1 t28 σ) fun t29 =>
  bindV (vLen .slice t29 σ) fun t30 =>
  bindV (abin .rem t25 t30) fun t31 =>
  bindV (vIndexAddr 1 t19 t31) fun t32 =>
  bindV (vLoad false 1 t32 σ) fun t33 =>
  some (.tuple ⟨[t33, tt]⟩, σ))
theorem ring_Ring_int_AtEq (call : CallF H) (f : Nat) (a0 a1 : Value) (σ : St H) : kbody call f (codeOf P n_ring_Ring_int_At) [a0, a1] σ = ring_Ring_int_At call f a0 a1 σ := by kernel_rfl

def seat_Seats_string_at (call : CallF H) (f : Nat) (a0 a1 : Value) (σ : St H) : R H :=
  bindV (vEq .nilp false a0 nilP) fun t6 =>
  bindV (bif kyes t6 false then some a1 else some undefV) fun t8 =>
  bindV (bif kyes t6 false then abin .lss t8 (I 1) else some undefV) fun t9 =>
  bindV (vPick t6 tt t9) fun t10 =>
  bindV (bif kyes t10 false then some a1 else some undefV) fun t12 =>
  bindV (bif kyes t10 false then some a0 else some undefV) fun t13 =>
  bindV (bif kyes t10 false then vNil t13 else some undefV) fun t14 =>
  bindV (bif kyes t10 false then vFieldAddr 0 t14 else some undefV) fun t15 =>
  bindV (bif kyes t10 false then vLoad false 1 t15 σ else some undefV) fun t16 =>
  bindV (bif kyes t10 false then vLen .slice t16 σ else some undefV) fun t17 =>
  bindV (bif kyes t10 false then abin .gtr t12 t17 else some undefV) fun t18 =>
  bindV (vPick t10 tt t18) fun t19 =>
  bindV (bif kyes t19 false then some a0 else some undefV) fun t21 =>
  bindV (bif kyes t19 false then vNil t21 else some undefV) fun t22 =>
  bindV (bif kyes t19 false then vFieldAddr 0 t22 else some undefV) fun t23 =>
  bindV (bif kyes t19 false then vLoad false 1 t23 σ else some undefV) fun t24 =>
  bindV (bif kyes t19 false then some a1 else some undefV) fun t25 =>
  bindV (bif kyes t19 false then abin .sub t25 (I 1) else some undefV) fun t26 =>
  bindV (bif kyes t19 false then vIndexAddr 2 t24 t26 else some undefV) fun t27 =>
  bindV (bif kyes t19 false then vFieldAddr 1 t27 else some undefV) fun t28 =>
  bindV (bif kyes t19 false then vLoad false 1 t28 σ else some undefV) fun t29 =>
  bindV (bif kyes t19 false then aun .not t29 else some undefV) fun t30 =>
  bindV (vPick t19 tt t30) fun t31 =>
  ifV t31 (
  some (nilP, σ)) (
  bindV (vNil a0) fun t33 =>
  bindV (vFieldAddr 0 t33) fun t34 =>
  bindV (vLoad false 1 t34 σ) fun t35 =>
  bindV (abin .sub a1 (I 1)) fun t37 =>
  bindV (vIndexAddr 2 t35 t37) fun t38 =>
  some (t38, σ))
theorem seat_Seats_string_atEq (call : CallF H) (f : Nat) (a0 a1 : Value) (σ : St H) : kbody call f (codeOf P n_seat_Seats_string_at) [a0, a1] σ = seat_Seats_string_at call f a0 a1 σ := by kernel_rfl

def box_Box_int_way (call : CallF H) (f : Nat) (a0 : Value) (σ : St H) : R H :=
  bindV (vEq .nilp false a0 nilP) fun t4 =>
  ifV t4 (
  some ((.chan none), σ)) (
  bindV (vNil a0) fun t6 =>
  bindV (vFieldAddr 0 t6) fun t7 =>
  bindV (vLoad false 1 t7 σ) fun t8 =>
  some (t8, σ))
theorem box_Box_int_wayEq (call : CallF H) (f : Nat) (a0 : Value) (σ : St H) : kbody call f (codeOf P n_box_Box_int_way) [a0] σ = box_Box_int_way call f a0 σ := by kernel_rfl

def box_Box_int_Take (call : CallF H) (f : Nat) (a0 : Value) (σ : St H) : R H :=
  bindR (call n_box_Box_int_way [a0] σ) fun t7 σ =>
  bindR (vSel none (I 0) t7 σ) fun t8 σ =>
  bindV (vExtract 0 t8) fun t9 =>
  bindV (abin .eql t9 (I 0)) fun t10 =>
  ifV t10 (
  bindV (vExtract 2 t8) fun t12 =>
  some (.tuple ⟨[t12, tt]⟩, σ)) (
  some (.tuple ⟨[(I 0), ff]⟩, σ))
theorem box_Box_int_TakeEq (call : CallF H) (f : Nat) (a0 : Value) (σ : St H) : kbody call f (codeOf P n_box_Box_int_Take) [a0] σ = box_Box_int_Take call f a0 σ := by kernel_rfl

def law1x_begun (call : CallF H) (f : Nat) (σ : St H) : R H :=
  bindR (call n_tick_Add [(I 4611686018427387904), (I 4611686018427387904)] σ) fun t8 σ =>
  bindV (vExtract 0 t8) fun t9 =>
  bindV (vExtract 1 t8) fun t10 =>
  bindR (call n_tick_Mul [(I (-3)), (I 5)] σ) fun t12 σ =>
  bindV (vExtract 0 t12) fun t13 =>
  bindV (vExtract 1 t12) fun t14 =>
  bindR (vBuildSlice 3 [(I 0), (I 0), (I 0)] [(0, 1, (I 4611686018427387904)), (1, 1, (I 4611686018427387904)), (2, 1, (I (-4611686018427387904)))] σ) fun t16 σ =>
  bindR (call n_tick_Sum [t16] σ) fun t17 σ =>
  bindV (vExtract 0 t17) fun t18 =>
  bindV (vExtract 1 t17) fun t19 =>
  bindV (abin .eql t9 (I 0)) fun t21 =>
  bindV (bif kyes t21 true then some t10 else some undefV) fun t23 =>
  bindV (bif kyes t21 true then aun .not t23 else some undefV) fun t24 =>
  bindV (vPick t21 t24 ff) fun t25 =>
  bindV (bif kyes t25 true then some t13 else some undefV) fun t27 =>
  bindV (bif kyes t25 true then abin .eql t27 (I (-15)) else some undefV) fun t28 =>
  bindV (vPick t25 t28 ff) fun t29 =>
  bindV (bif kyes t29 true then some t14 else some undefV) fun t31 =>
  bindV (vPick t29 t31 ff) fun t32 =>
  bindV (bif kyes t32 true then some t18 else some undefV) fun t34 =>
  bindV (bif kyes t32 true then abin .eql t34 (I 4611686018427387904) else some undefV) fun t35 =>
  bindV (vPick t32 t35 ff) fun t36 =>
  bindV (bif kyes t36 true then some t19 else some undefV) fun t38 =>
  bindV (vPick t36 t38 ff) fun t39 =>
  bindR (bif kyes t39 true then call n_tick_Up [(I 7), (I 2)] σ else some (undefV, σ)) fun t41 σ =>
  bindV (bif kyes t39 true then abin .eql t41 (I 4) else some undefV) fun t42 =>
  bindV (vPick t39 t42 ff) fun t43 =>
  bindR (bif kyes t43 true then call n_tick_Down [(I (-7)), (I 2)] σ else some (undefV, σ)) fun t45 σ =>
  bindV (bif kyes t43 true then abin .eql t45 (I (-4)) else some undefV) fun t46 =>
  bindV (vPick t43 t46 ff) fun t47 =>
  bindR (bif kyes t47 true then call n_tick_Less [(I 1), (I 3), (I 2), (I 5)] σ else some (undefV, σ)) fun t49 σ =>
  bindV (vPick t47 t49 ff) fun t50 =>
  bindR (bif kyes t50 true then call n_tick_Less [(I 1), (I 0), (I 2), (I 5)] σ else some (undefV, σ)) fun t52 σ =>
  bindV (bif kyes t50 true then aun .not t52 else some undefV) fun t53 =>
  bindV (vPick t50 t53 ff) fun t54 =>
  some (t54, σ)
theorem law1x_begunEq (call : CallF H) (f : Nat) (σ : St H) : kbody call f (codeOf P n_law1x_begun) [] σ = law1x_begun call f σ := by kernel_rfl

abbrev slices_IndexFunc__api_Load_api_LoadR : List ARes := [.tmp 4]
def slices_IndexFunc__api_Load_api_LoadJ1 (call : CallF H) (f : Nat) (σ : St H) : R H :=
  some ((I (-1)), σ)
def slices_IndexFunc__api_Load_api_LoadL2 (call : CallF H) (f : Nat) (n : Nat) : Value → Value → Value → Value → St H → R H :=
  Nat.rec (fun _ _ _ _ _ => none) (fun _ r2 => fun t0 t1 t7 t8 σ =>
  bindV (abin .lss t8 t7) fun t9 =>
  ifV t9 (
  bindV (vIndexAddr 3 t0 t8) fun t14 =>
  bindV (vLoad true 3 t14 σ) fun t15 =>
  bindR (vCallv t1 [t15] call σ) fun t16 σ =>
  ifV t16 (
  some (t8, σ)) (
  bindV (abin .add t8 (I 1)) fun t18 =>
  r2 t0 t1 t7 t18 σ)) (
  slices_IndexFunc__api_Load_api_LoadJ1 call f σ)) n
def slices_IndexFunc__api_Load_api_LoadJ3 (call : CallF H) (f : Nat) (t0 t1 : Value) (σ : St H) : R H :=
  bindV (vLen .slice t0 σ) fun t7 =>
  slices_IndexFunc__api_Load_api_LoadL2 call f f t0 t1 t7 (I 0) σ
def slices_IndexFunc__api_Load_api_LoadJ4 (call : CallF H) (f : Nat) (t0 t1 : Value) (σ : St H) : R H :=
  slices_IndexFunc__api_Load_api_LoadJ3 call f t0 t1 σ
def slices_IndexFunc__api_Load_api_Load (call : CallF H) (f : Nat) (a0 a1 : Value) (σ : St H) : R H := slices_IndexFunc__api_Load_api_LoadJ4 call f a0 a1 σ
theorem slices_IndexFunc__api_Load_api_LoadEq (call : CallF H) (f : Nat) (a0 a1 : Value) (σ : St H) : kbody call f (codeOf P n_slices_IndexFunc__api_Load_api_Load) [a0, a1] σ = slices_IndexFunc__api_Load_api_Load call f a0 a1 σ :=
  kbody_of (rs := slices_IndexFunc__api_Load_api_LoadR) (by kernel_rfl) (by kernel_rfl) (by kernel_rfl) (seq_eq (by kernel_rfl) (seq_eq (by kernel_rfl) (leaf (B := fun e σ => slices_IndexFunc__api_Load_api_LoadJ1 call f σ) (by kernel_rfl))
  (seq_eq (by kernel_rfl) (block_eq (by kernel_rfl) (loop_eq (fun n e σ => slices_IndexFunc__api_Load_api_LoadL2 call f n (e 0) (e 1) (e 7) (e 8) σ) (by kernel_rfl) (by kernel_rfl) (fun n2 => (leaf (by kernel_rfl)))))
  (leaf (B := fun e σ => slices_IndexFunc__api_Load_api_LoadJ3 call f (e 0) (e 1) σ) (by kernel_rfl))))
  (leaf (B := fun e σ => slices_IndexFunc__api_Load_api_LoadJ4 call f (e 0) (e 1) σ) (by kernel_rfl))) (by kernel_rfl)

abbrev slices_insertionSortCmpFunc_window_placeR : List ARes := []
def slices_insertionSortCmpFunc_window_placeJ2 (call : CallF H) (f : Nat) (r1 : Value → Value → Value → Value → Value → St H → R H) (t0 t1 t2 t3 t8 : Value) (σ : St H) : R H :=
  bindV (abin .add t8 (I 1)) fun t16 =>
  r1 t0 t1 t2 t3 t16 σ
def slices_insertionSortCmpFunc_window_placeL3 (call : CallF H) (f : Nat) (r1 : Value → Value → Value → Value → Value → St H → R H) (n : Nat) : Value → Value → Value → Value → Value → Value → St H → R H :=
  Nat.rec (fun _ _ _ _ _ _ _ => none) (fun _ r3 => fun t0 t1 t2 t3 t8 t9 σ =>
  bindV (abin .gtr t9 t1) fun t20 =>
  bindV (bif kyes t20 true then some t3 else some undefV) fun t22 =>
  bindV (bif kyes t20 true then some t0 else some undefV) fun t23 =>
  bindV (bif kyes t20 true then some t9 else some undefV) fun t24 =>
  bindV (bif kyes t20 true then vIndexAddr 2 t23 t24 else some undefV) fun t25 =>
  bindV (bif kyes t20 true then vLoad true 2 t25 σ else some undefV) fun t26 =>
  bindV (bif kyes t20 true then some t0 else some undefV) fun t27 =>
  bindV (bif kyes t20 true then some t9 else some undefV) fun t28 =>
  bindV (bif kyes t20 true then abin .sub t28 (I 1) else some undefV) fun t29 =>
  bindV (bif kyes t20 true then vIndexAddr 2 t27 t29 else some undefV) fun t30 =>
  bindV (bif kyes t20 true then vLoad true 2 t30 σ else some undefV) fun t31 =>
  bindR (bif kyes t20 true then vCallv t22 [t26, t31] call σ else some (undefV, σ)) fun t32 σ =>
  bindV (bif kyes t20 true then abin .lss t32 (I 0) else some undefV) fun t33 =>
  bindV (vPick t20 t33 ff) fun t34 =>
  ifV t34 (
  bindV (abin .sub t9 (I 1)) fun t41 =>
  bindV (abin .sub t9 (I 1)) fun t44 =>
  bindV (vIndexAddr 2 t0 t44) fun t45 =>
  bindV (vLoad true 2 t45 σ) fun t46 =>
  bindV (vIndexAddr 2 t0 t9) fun t49 =>
  bindV (vLoad true 2 t49 σ) fun t50 =>
  bindV (vIndexAddr 2 t0 t9) fun t51 =>
  bindS (vStore 2 t51 t46 σ) fun σ =>
  bindV (vIndexAddr 2 t0 t41) fun t52 =>
  bindS (vStore 2 t52 t50 σ) fun σ =>
  bindV (abin .sub t9 (I 1)) fun t36 =>
  r3 t0 t1 t2 t3 t8 t36 σ) (
  slices_insertionSortCmpFunc_window_placeJ2 call f r1 t0 t1 t2 t3 t8 σ)) n
def slices_insertionSortCmpFunc_window_placeJ4 (call : CallF H) (f : Nat) (r1 : Value → Value → Value → Value → Value → St H → R H) (t0 t1 t2 t3 t8 : Value) (σ : St H) : R H :=
  slices_insertionSortCmpFunc_window_placeL3 call f r1 f t0 t1 t2 t3 t8 t8 σ
def slices_insertionSortCmpFunc_window_placeJ5 (call : CallF H) (f : Nat) (r1 : Value → Value → Value → Value → Value → St H → R H) (t0 t1 t2 t3 t8 : Value) (σ : St H) : R H :=
  bindV (abin .lss t8 t2) fun t14 =>
  ifV t14 (
  slices_insertionSortCmpFunc_window_placeJ4 call f r1 t0 t1 t2 t3 t8 σ) (
  some (.tuple ⟨[]⟩, σ))
def slices_insertionSortCmpFunc_window_placeL1 (call : CallF H) (f : Nat) (n : Nat) : Value → Value → Value → Value → Value → St H → R H :=
  Nat.rec (fun _ _ _ _ _ _ => none) (fun _ r1 => fun t0 t1 t2 t3 t8 σ =>
  slices_insertionSortCmpFunc_window_placeJ5 call f r1 t0 t1 t2 t3 t8 σ) n
def slices_insertionSortCmpFunc_window_placeJ6 (call : CallF H) (f : Nat) (t0 t1 t2 t3 : Value) (σ : St H) : R H :=
  bindV (abin .add t1 (I 1)) fun t11 =>
  slices_insertionSortCmpFunc_window_placeL1 call f f t0 t1 t2 t3 t11 σ
def slices_insertionSortCmpFunc_window_place (call : CallF H) (f : Nat) (a0 a1 a2 a3 : Value) (σ : St H) : R H := slices_insertionSortCmpFunc_window_placeJ6 call f a0 a1 a2 a3 σ
theorem slices_insertionSortCmpFunc_window_placeEq (call : CallF H) (f : Nat) (a0 a1 a2 a3 : Value) (σ : St H) : kbody call f (codeOf P n_slices_insertionSortCmpFunc_window_place) [a0, a1, a2, a3] σ = slices_insertionSortCmpFunc_window_place call f a0 a1 a2 a3 σ :=
  kbody_of (rs := slices_insertionSortCmpFunc_window_placeR) (by kernel_rfl) (by kernel_rfl) (by kernel_rfl) (seq_eq (by kernel_rfl) (block_eq (by kernel_rfl) (loop_eq (fun n e σ => slices_insertionSortCmpFunc_window_placeL1 call f n (e 0) (e 1) (e 2) (e 3) (e 8) σ) (by kernel_rfl) (by kernel_rfl) (fun n1 => (tr (seq_eq (by kernel_rfl) (seq_eq (by kernel_rfl) (leaf (B := fun e σ => slices_insertionSortCmpFunc_window_placeJ2 call f (slices_insertionSortCmpFunc_window_placeL1 call f n1) (e 0) (e 1) (e 2) (e 3) (e 8) σ) (by kernel_rfl))
  (block_eq (by kernel_rfl) (seq_eq (by kernel_rfl) (block_eq (by kernel_rfl) (loop_eq (fun n e σ => slices_insertionSortCmpFunc_window_placeL3 call f (slices_insertionSortCmpFunc_window_placeL1 call f n1) n (e 0) (e 1) (e 2) (e 3) (e 8) (e 9) σ) (by kernel_rfl) (by kernel_rfl) (fun n3 => (leaf (by kernel_rfl)))))
  (leaf (B := fun e σ => slices_insertionSortCmpFunc_window_placeJ4 call f (slices_insertionSortCmpFunc_window_placeL1 call f n1) (e 0) (e 1) (e 2) (e 3) (e 8) σ) (by kernel_rfl)))))
  (leaf (B := fun e σ => slices_insertionSortCmpFunc_window_placeJ5 call f (slices_insertionSortCmpFunc_window_placeL1 call f n1) (e 0) (e 1) (e 2) (e 3) (e 8) σ) (by kernel_rfl))) (by kernel_rfl)))))
  (leaf (B := fun e σ => slices_insertionSortCmpFunc_window_placeJ6 call f (e 0) (e 1) (e 2) (e 3) σ) (by kernel_rfl))) (by kernel_rfl)

end
end Go.G

namespace Go.G
open Go Go.Ax
set_option maxRecDepth 100000
set_option linter.unusedVariables false
variable {H : HeapI}
noncomputable section
abbrev slices_symMergeCmpFunc_window_placeR : List ARes := []
def slices_symMergeCmpFunc_window_placeJ1 (call : CallF H) (f : Nat) (t0 t3 t4 t18 t24 : Value) (σ : St H) : R H :=
  bindV (abin .lss t18 t24) fun t208 =>
  bindV (bif kyes t208 true then some t24 else some undefV) fun t210 =>
  bindV (bif kyes t208 true then some t3 else some undefV) fun t211 =>
  bindV (bif kyes t208 true then abin .lss t210 t211 else some undefV) fun t212 =>
  bindV (vPick t208 t212 ff) fun t213 =>
  ifV t213 (
  bindR (call n_slices_symMergeCmpFunc_window_place [t0, t18, t24, t3, t4] σ) fun t219 σ =>
  some (.tuple ⟨[]⟩, σ)) (
  some (.tuple ⟨[]⟩, σ))
def slices_symMergeCmpFunc_window_placeJ2 (call : CallF H) (f : Nat) (t0 t1 t3 t4 t18 t20 t24 : Value) (σ : St H) : R H :=
  bindV (abin .lss t1 t20) fun t194 =>
  bindV (bif kyes t194 true then some t20 else some undefV) fun t196 =>
  bindV (bif kyes t194 true then some t18 else some undefV) fun t197 =>
  bindV (bif kyes t194 true then abin .lss t196 t197 else some undefV) fun t198 =>
  bindV (vPick t194 t198 ff) fun t199 =>
  ifV t199 (
  bindR (call n_slices_symMergeCmpFunc_window_place [t0, t1, t20, t18, t4] σ) fun t205 σ =>
  slices_symMergeCmpFunc_window_placeJ1 call f t0 t3 t4 t18 t24 σ) (
  slices_symMergeCmpFunc_window_placeJ1 call f t0 t3 t4 t18 t24 σ)
def slices_symMergeCmpFunc_window_placeJ3 (call : CallF H) (f : Nat) (t0 t1 t2 t3 t4 t18 t19 t20 : Value) (σ : St H) : R H :=
  bindV (abin .sub t19 t20) fun t177 =>
  bindV (abin .lss t20 t2) fun t180 =>
  bindV (bif kyes t180 true then some t2 else some undefV) fun t182 =>
  bindV (bif kyes t180 true then some t177 else some undefV) fun t183 =>
  bindV (bif kyes t180 true then abin .lss t182 t183 else some undefV) fun t184 =>
  bindV (vPick t180 t184 ff) fun t185 =>
  ifV t185 (
  bindR (call n_slices_rotateCmpFunc_window_place [t0, t20, t2, t177, t4] σ) fun t191 σ =>
  slices_symMergeCmpFunc_window_placeJ2 call f t0 t1 t3 t4 t18 t20 t177 σ) (
  slices_symMergeCmpFunc_window_placeJ2 call f t0 t1 t3 t4 t18 t20 t177 σ)
def slices_symMergeCmpFunc_window_placeL4 (call : CallF H) (f : Nat) (n : Nat) : Value → Value → Value → Value → Value → Value → Value → Value → Value → Value → St H → R H :=
  Nat.rec (fun _ _ _ _ _ _ _ _ _ _ _ => none) (fun _ r4 => fun t0 t1 t2 t3 t4 t18 t19 t20 t21 t22 σ =>
  bindV (abin .lss t20 t21) fun t151 =>
  ifV t151 (
  bindV (abin .add t20 t21) fun t154 =>
  bindV (vConv .u64 t154) fun t155 =>
  bindV (abin .shr t155 (.int .u64 1)) fun t156 =>
  bindV (vConv .i64 t156) fun t157 =>
  bindV (abin .sub t22 t157) fun t162 =>
  bindV (vIndexAddr 2 t0 t162) fun t163 =>
  bindV (vLoad true 2 t163 σ) fun t164 =>
  bindV (vIndexAddr 2 t0 t157) fun t167 =>
  bindV (vLoad true 2 t167 σ) fun t168 =>
  bindR (vCallv t4 [t164, t168] call σ) fun t169 σ =>
  bindV (abin .lss t169 (I 0)) fun t170 =>
  bindV (aun .not t170) fun t171 =>
  ifV t171 (
  bindV (abin .add t157 (I 1)) fun t173 =>
  r4 t0 t1 t2 t3 t4 t18 t19 t173 t21 t22 σ) (
  r4 t0 t1 t2 t3 t4 t18 t19 t20 t157 t22 σ)) (
  slices_symMergeCmpFunc_window_placeJ3 call f t0 t1 t2 t3 t4 t18 t19 t20 σ)) n
def slices_symMergeCmpFunc_window_placeJ5 (call : CallF H) (f : Nat) (t0 t1 t2 t3 t4 t18 t19 t20 t21 : Value) (σ : St H) : R H :=
  bindV (abin .sub t19 (I 1)) fun t148 =>
  slices_symMergeCmpFunc_window_placeL4 call f f t0 t1 t2 t3 t4 t18 t19 t20 t21 t148 σ
def slices_symMergeCmpFunc_window_placeJ6 (call : CallF H) (f : Nat) (t0 t1 t2 t3 t4 t18 t19 : Value) (σ : St H) : R H :=
  bindV (abin .gtr t2 t18) fun t140 =>
  ifV t140 (
  bindV (abin .sub t19 t3) fun t143 =>
  slices_symMergeCmpFunc_window_placeJ5 call f t0 t1 t2 t3 t4 t18 t19 t143 t18 σ) (
  slices_symMergeCmpFunc_window_placeJ5 call f t0 t1 t2 t3 t4 t18 t19 t1 t2 σ)
def slices_symMergeCmpFunc_window_placeJ7 (call : CallF H) (f : Nat) (t0 t1 t2 t3 t4 t18 t19 : Value) (σ : St H) : R H :=
  slices_symMergeCmpFunc_window_placeJ6 call f t0 t1 t2 t3 t4 t18 t19 σ
def slices_symMergeCmpFunc_window_placeJ8 (call : CallF H) (f : Nat) (t0 t1 t2 t3 t4 t18 : Value) (σ : St H) : R H :=
  bindV (abin .add t18 t2) fun t137 =>
  slices_symMergeCmpFunc_window_placeJ7 call f t0 t1 t2 t3 t4 t18 t137 σ
def slices_symMergeCmpFunc_window_placeJ9 (call : CallF H) (f : Nat) (t0 t1 t2 t3 t4 : Value) (σ : St H) : R H :=
  bindV (abin .add t1 t3) fun t131 =>
  bindV (vConv .u64 t131) fun t132 =>
  bindV (abin .shr t132 (.int .u64 1)) fun t133 =>
  bindV (vConv .i64 t133) fun t134 =>
  slices_symMergeCmpFunc_window_placeJ8 call f t0 t1 t2 t3 t4 t134 σ
def slices_symMergeCmpFunc_window_placeL10 (call : CallF H) (f : Nat) (n : Nat) : Value → Value → Value → St H → R H :=
  Nat.rec (fun _ _ _ _ => none) (fun _ r10 => fun t0 t14 t17 σ =>
  bindV (abin .gtr t17 t14) fun t110 =>
  ifV t110 (
  bindV (abin .sub t17 (I 1)) fun t117 =>
  bindV (abin .sub t17 (I 1)) fun t120 =>
  bindV (vIndexAddr 2 t0 t120) fun t121 =>
  bindV (vLoad true 2 t121 σ) fun t122 =>
  bindV (vIndexAddr 2 t0 t17) fun t125 =>
  bindV (vLoad true 2 t125 σ) fun t126 =>
  bindV (vIndexAddr 2 t0 t17) fun t127 =>
  bindS (vStore 2 t127 t122 σ) fun σ =>
  bindV (vIndexAddr 2 t0 t117) fun t128 =>
  bindS (vStore 2 t128 t126 σ) fun σ =>
  bindV (abin .sub t17 (I 1)) fun t112 =>
  r10 t0 t14 t112 σ) (
  some (.tuple ⟨[]⟩, σ))) n
def slices_symMergeCmpFunc_window_placeJ11 (call : CallF H) (f : Nat) (t0 t2 t14 : Value) (σ : St H) : R H :=
  slices_symMergeCmpFunc_window_placeL10 call f f t0 t14 t2 σ
def slices_symMergeCmpFunc_window_placeL12 (call : CallF H) (f : Nat) (n : Nat) : Value → Value → Value → Value → Value → St H → R H :=
  Nat.rec (fun _ _ _ _ _ _ => none) (fun _ r12 => fun t0 t2 t4 t14 t15 σ =>
  bindV (abin .lss t14 t15) fun t85 =>
  ifV t85 (
  bindV (abin .add t14 t15) fun t88 =>
  bindV (vConv .u64 t88) fun t89 =>
  bindV (abin .shr t89 (.int .u64 1)) fun t90 =>
  bindV (vConv .i64 t90) fun t91 =>
  bindV (vIndexAddr 2 t0 t2) fun t95 =>
  bindV (vLoad true 2 t95 σ) fun t96 =>
  bindV (vIndexAddr 2 t0 t91) fun t99 =>
  bindV (vLoad true 2 t99 σ) fun t100 =>
  bindR (vCallv t4 [t96, t100] call σ) fun t101 σ =>
  bindV (abin .lss t101 (I 0)) fun t102 =>
  bindV (aun .not t102) fun t103 =>
  ifV t103 (
  bindV (abin .add t91 (I 1)) fun t105 =>
  r12 t0 t2 t4 t105 t15 σ) (
  r12 t0 t2 t4 t14 t91 σ)) (
  slices_symMergeCmpFunc_window_placeJ11 call f t0 t2 t14 σ)) n
def slices_symMergeCmpFunc_window_placeJ13 (call : CallF H) (f : Nat) (t0 t2 t4 t14 : Value) (σ : St H) : R H :=
  slices_symMergeCmpFunc_window_placeL12 call f f t0 t2 t4 t14 t2 σ
def slices_symMergeCmpFunc_window_placeJ14 (call : CallF H) (f : Nat) (t0 t1 t2 t4 : Value) (σ : St H) : R H :=
  slices_symMergeCmpFunc_window_placeJ13 call f t0 t2 t4 t1 σ
def slices_symMergeCmpFunc_window_placeJ15 (call : CallF H) (f : Nat) (t0 t1 t2 t3 t4 t80 : Value) (σ : St H) : R H :=
  ifV t80 (slices_symMergeCmpFunc_window_placeJ14 call f t0 t1 t2 t4 σ) (slices_symMergeCmpFunc_window_placeJ9 call f t0 t1 t2 t3 t4 σ)
def slices_symMergeCmpFunc_window_placeJ16 (call : CallF H) (f : Nat) (t0 t1 t2 t3 t4 : Value) (σ : St H) : R H :=
  bindV (abin .sub t3 t2) fun t79 =>
  bindV (abin .eql t79 (I 1)) fun t80 =>
  slices_symMergeCmpFunc_window_placeJ15 call f t0 t1 t2 t3 t4 t80 σ
def slices_symMergeCmpFunc_window_placeL17 (call : CallF H) (f : Nat) (n : Nat) : Value → Value → Value → St H → R H :=
  Nat.rec (fun _ _ _ _ => none) (fun _ r17 => fun t0 t10 t13 σ =>
  bindV (abin .sub t10 (I 1)) fun t57 =>
  bindV (abin .lss t13 t57) fun t58 =>
  ifV t58 (
  bindV (abin .add t13 (I 1)) fun t65 =>
  bindV (abin .add t13 (I 1)) fun t68 =>
  bindV (vIndexAddr 2 t0 t68) fun t69 =>
  bindV (vLoad true 2 t69 σ) fun t70 =>
  bindV (vIndexAddr 2 t0 t13) fun t73 =>
  bindV (vLoad true 2 t73 σ) fun t74 =>
  bindV (vIndexAddr 2 t0 t13) fun t75 =>
  bindS (vStore 2 t75 t70 σ) fun σ =>
  bindV (vIndexAddr 2 t0 t65) fun t76 =>
  bindS (vStore 2 t76 t74 σ) fun σ =>
  bindV (abin .add t13 (I 1)) fun t60 =>
  r17 t0 t10 t60 σ) (
  some (.tuple ⟨[]⟩, σ))) n
def slices_symMergeCmpFunc_window_placeJ18 (call : CallF H) (f : Nat) (t0 t1 t10 : Value) (σ : St H) : R H :=
  slices_symMergeCmpFunc_window_placeL17 call f f t0 t10 t1 σ
def slices_symMergeCmpFunc_window_placeL19 (call : CallF H) (f : Nat) (n : Nat) : Value → Value → Value → Value → Value → St H → R H :=
  Nat.rec (fun _ _ _ _ _ _ => none) (fun _ r19 => fun t0 t1 t4 t10 t11 σ =>
  bindV (abin .lss t10 t11) fun t33 =>
  ifV t33 (
  bindV (abin .add t10 t11) fun t36 =>
  bindV (vConv .u64 t36) fun t37 =>
  bindV (abin .shr t37 (.int .u64 1)) fun t38 =>
  bindV (vConv .i64 t38) fun t39 =>
  bindV (vIndexAddr 2 t0 t39) fun t43 =>
  bindV (vLoad true 2 t43 σ) fun t44 =>
  bindV (vIndexAddr 2 t0 t1) fun t47 =>
  bindV (vLoad true 2 t47 σ) fun t48 =>
  bindR (vCallv t4 [t44, t48] call σ) fun t49 σ =>
  bindV (abin .lss t49 (I 0)) fun t50 =>
  ifV t50 (
  bindV (abin .add t39 (I 1)) fun t52 =>
  r19 t0 t1 t4 t52 t11 σ) (
  r19 t0 t1 t4 t10 t39 σ)) (
  slices_symMergeCmpFunc_window_placeJ18 call f t0 t1 t10 σ)) n
def slices_symMergeCmpFunc_window_placeJ20 (call : CallF H) (f : Nat) (t0 t1 t3 t4 t10 : Value) (σ : St H) : R H :=
  slices_symMergeCmpFunc_window_placeL19 call f f t0 t1 t4 t10 t3 σ
def slices_symMergeCmpFunc_window_placeJ21 (call : CallF H) (f : Nat) (t0 t1 t2 t3 t4 : Value) (σ : St H) : R H :=
  slices_symMergeCmpFunc_window_placeJ20 call f t0 t1 t3 t4 t2 σ
def slices_symMergeCmpFunc_window_placeJ22 (call : CallF H) (f : Nat) (t0 t1 t2 t3 t4 t28 : Value) (σ : St H) : R H :=
  ifV t28 (slices_symMergeCmpFunc_window_placeJ21 call f t0 t1 t2 t3 t4 σ) (slices_symMergeCmpFunc_window_placeJ16 call f t0 t1 t2 t3 t4 σ)
def slices_symMergeCmpFunc_window_placeJ23 (call : CallF H) (f : Nat) (t0 t1 t2 t3 t4 : Value) (σ : St H) : R H :=
  bindV (abin .sub t2 t1) fun t27 =>
  bindV (abin .eql t27 (I 1)) fun t28 =>
  slices_symMergeCmpFunc_window_placeJ22 call f t0 t1 t2 t3 t4 t28 σ
def slices_symMergeCmpFunc_window_place (call : CallF H) (f : Nat) (a0 a1 a2 a3 a4 : Value) (σ : St H) : R H := slices_symMergeCmpFunc_window_placeJ23 call f a0 a1 a2 a3 a4 σ
theorem slices_symMergeCmpFunc_window_placeEq (call : CallF H) (f : Nat) (a0 a1 a2 a3 a4 : Value) (σ : St H) : kbody call f (codeOf P n_slices_symMergeCmpFunc_window_place) [a0, a1, a2, a3, a4] σ = slices_symMergeCmpFunc_window_place call f a0 a1 a2 a3 a4 σ :=
  kbody_of (rs := slices_symMergeCmpFunc_window_placeR) (by kernel_rfl) (by kernel_rfl) (by kernel_rfl) (seq_eq (by kernel_rfl) (seq_eq (by kernel_rfl) (seq_eq (by kernel_rfl) (seq_eq (by kernel_rfl) (seq_eq (by kernel_rfl) (seq_eq (by kernel_rfl) (seq_eq (by kernel_rfl) (seq_eq (by kernel_rfl) (leaf (B := fun e σ => slices_symMergeCmpFunc_window_placeJ3 call f (e 0) (e 1) (e 2) (e 3) (e 4) (e 18) (e 19) (e 20) σ) (by kernel_rfl))
  (block_eq (by kernel_rfl) (loop_eq (fun n e σ => slices_symMergeCmpFunc_window_placeL4 call f n (e 0) (e 1) (e 2) (e 3) (e 4) (e 18) (e 19) (e 20) (e 21) (e 22) σ) (by kernel_rfl) (by kernel_rfl) (fun n4 => (leaf (by kernel_rfl))))))
  (leaf (B := fun e σ => slices_symMergeCmpFunc_window_placeJ5 call f (e 0) (e 1) (e 2) (e 3) (e 4) (e 18) (e 19) (e 20) (e 21) σ) (by kernel_rfl)))
  (leaf (B := fun e σ => slices_symMergeCmpFunc_window_placeJ6 call f (e 0) (e 1) (e 2) (e 3) (e 4) (e 18) (e 19) σ) (by kernel_rfl)))
  (leaf (B := fun e σ => slices_symMergeCmpFunc_window_placeJ7 call f (e 0) (e 1) (e 2) (e 3) (e 4) (e 18) (e 19) σ) (by kernel_rfl)))
  (leaf (B := fun e σ => slices_symMergeCmpFunc_window_placeJ8 call f (e 0) (e 1) (e 2) (e 3) (e 4) (e 18) σ) (by kernel_rfl)))
  (leaf (B := fun e σ => slices_symMergeCmpFunc_window_placeJ9 call f (e 0) (e 1) (e 2) (e 3) (e 4) σ) (by kernel_rfl)))
  (seq_eq (by kernel_rfl) (tr (B := fun e σ => slices_symMergeCmpFunc_window_placeJ15 call f (e 0) (e 1) (e 2) (e 3) (e 4) (e 80) σ) (cond_eq (by kernel_rfl) (seq_eq (by kernel_rfl) (seq_eq (by kernel_rfl) (seq_eq (by kernel_rfl) (seq_eq (by kernel_rfl) (leaf (B := fun e σ => karesV e σ slices_symMergeCmpFunc_window_placeR) (by kernel_rfl))
  (seq_eq (by kernel_rfl) (block_eq (by kernel_rfl) (loop_eq (fun n e σ => slices_symMergeCmpFunc_window_placeL10 call f n (e 0) (e 14) (e 17) σ) (by kernel_rfl) (by kernel_rfl) (fun n10 => (leaf (by kernel_rfl)))))
  (leaf (B := fun e σ => slices_symMergeCmpFunc_window_placeJ11 call f (e 0) (e 2) (e 14) σ) (by kernel_rfl))))
  (block_eq (by kernel_rfl) (loop_eq (fun n e σ => slices_symMergeCmpFunc_window_placeL12 call f n (e 0) (e 2) (e 4) (e 14) (e 15) σ) (by kernel_rfl) (by kernel_rfl) (fun n12 => (leaf (by kernel_rfl))))))
  (leaf (B := fun e σ => slices_symMergeCmpFunc_window_placeJ13 call f (e 0) (e 2) (e 4) (e 14) σ) (by kernel_rfl)))
  (leaf (B := fun e σ => slices_symMergeCmpFunc_window_placeJ14 call f (e 0) (e 1) (e 2) (e 4) σ) (by kernel_rfl)))
  (leaf (B := fun e σ => slices_symMergeCmpFunc_window_placeJ9 call f (e 0) (e 1) (e 2) (e 3) (e 4) σ) (by kernel_rfl))) (by kernel_rfl))
  (leaf (B := fun e σ => slices_symMergeCmpFunc_window_placeJ16 call f (e 0) (e 1) (e 2) (e 3) (e 4) σ) (by kernel_rfl))))
  (seq_eq (by kernel_rfl) (tr (B := fun e σ => slices_symMergeCmpFunc_window_placeJ22 call f (e 0) (e 1) (e 2) (e 3) (e 4) (e 28) σ) (cond_eq (by kernel_rfl) (seq_eq (by kernel_rfl) (seq_eq (by kernel_rfl) (seq_eq (by kernel_rfl) (seq_eq (by kernel_rfl) (leaf (B := fun e σ => karesV e σ slices_symMergeCmpFunc_window_placeR) (by kernel_rfl))
  (seq_eq (by kernel_rfl) (block_eq (by kernel_rfl) (loop_eq (fun n e σ => slices_symMergeCmpFunc_window_placeL17 call f n (e 0) (e 10) (e 13) σ) (by kernel_rfl) (by kernel_rfl) (fun n17 => (leaf (by kernel_rfl)))))
  (leaf (B := fun e σ => slices_symMergeCmpFunc_window_placeJ18 call f (e 0) (e 1) (e 10) σ) (by kernel_rfl))))
  (block_eq (by kernel_rfl) (loop_eq (fun n e σ => slices_symMergeCmpFunc_window_placeL19 call f n (e 0) (e 1) (e 4) (e 10) (e 11) σ) (by kernel_rfl) (by kernel_rfl) (fun n19 => (leaf (by kernel_rfl))))))
  (leaf (B := fun e σ => slices_symMergeCmpFunc_window_placeJ20 call f (e 0) (e 1) (e 3) (e 4) (e 10) σ) (by kernel_rfl)))
  (leaf (B := fun e σ => slices_symMergeCmpFunc_window_placeJ21 call f (e 0) (e 1) (e 2) (e 3) (e 4) σ) (by kernel_rfl)))
  (leaf (B := fun e σ => slices_symMergeCmpFunc_window_placeJ16 call f (e 0) (e 1) (e 2) (e 3) (e 4) σ) (by kernel_rfl))) (by kernel_rfl))
  (leaf (B := fun e σ => slices_symMergeCmpFunc_window_placeJ23 call f (e 0) (e 1) (e 2) (e 3) (e 4) σ) (by kernel_rfl)))) (by kernel_rfl)

abbrev slices_heapSortCmpFunc_window_placeR : List ARes := []
def slices_heapSortCmpFunc_window_placeL1 (call : CallF H) (f : Nat) (n : Nat) : Value → Value → Value → Value → Value → St H → R H :=
  Nat.rec (fun _ _ _ _ _ _ => none) (fun _ r1 => fun t0 t3 t8 t9 t12 σ =>
  bindV (abin .geq t12 (I 0)) fun t33 =>
  ifV t33 (
  bindV (abin .add t8 t12) fun t41 =>
  bindV (abin .add t8 t12) fun t45 =>
  bindV (vIndexAddr 2 t0 t45) fun t46 =>
  bindV (vLoad true 2 t46 σ) fun t47 =>
  bindV (vIndexAddr 2 t0 t8) fun t50 =>
  bindV (vLoad true 2 t50 σ) fun t51 =>
  bindV (vIndexAddr 2 t0 t8) fun t52 =>
  bindS (vStore 2 t52 t47 σ) fun σ =>
  bindV (vIndexAddr 2 t0 t41) fun t53 =>
  bindS (vStore 2 t53 t51 σ) fun σ =>
  bindR (call n_slices_siftDownCmpFunc_window_place [t0, t9, t12, t8, t3] σ) fun t59 σ =>
  bindV (abin .sub t12 (I 1)) fun t35 =>
  r1 t0 t3 t8 t9 t35 σ) (
  some (.tuple ⟨[]⟩, σ))) n
def slices_heapSortCmpFunc_window_placeJ2 (call : CallF H) (f : Nat) (t0 t3 t8 t9 t10 : Value) (σ : St H) : R H :=
  bindV (abin .sub t10 (I 1)) fun t31 =>
  slices_heapSortCmpFunc_window_placeL1 call f f t0 t3 t8 t9 t31 σ
def slices_heapSortCmpFunc_window_placeL3 (call : CallF H) (f : Nat) (n : Nat) : Value → Value → Value → Value → Value → Value → St H → R H :=
  Nat.rec (fun _ _ _ _ _ _ _ => none) (fun _ r3 => fun t0 t3 t8 t9 t10 t11 σ =>
  bindV (abin .geq t11 (I 0)) fun t21 =>
  ifV t21 (
  bindR (call n_slices_siftDownCmpFunc_window_place [t0, t11, t10, t8, t3] σ) fun t29 σ =>
  bindV (abin .sub t11 (I 1)) fun t23 =>
  r3 t0 t3 t8 t9 t10 t23 σ) (
  slices_heapSortCmpFunc_window_placeJ2 call f t0 t3 t8 t9 t10 σ)) n
def slices_heapSortCmpFunc_window_placeJ4 (call : CallF H) (f : Nat) (t0 t3 t8 t9 t10 : Value) (σ : St H) : R H :=
  bindV (abin .sub t10 (I 1)) fun t18 =>
  bindV (abin .quo t18 (I 2)) fun t19 =>
  slices_heapSortCmpFunc_window_placeL3 call f f t0 t3 t8 t9 t10 t19 σ
def slices_heapSortCmpFunc_window_placeJ5 (call : CallF H) (f : Nat) (t0 t1 t2 t3 t8 t9 : Value) (σ : St H) : R H :=
  bindV (abin .sub t2 t1) fun t16 =>
  slices_heapSortCmpFunc_window_placeJ4 call f t0 t3 t8 t9 t16 σ
def slices_heapSortCmpFunc_window_placeJ6 (call : CallF H) (f : Nat) (t0 t1 t2 t3 t8 : Value) (σ : St H) : R H :=
  slices_heapSortCmpFunc_window_placeJ5 call f t0 t1 t2 t3 t8 (I 0) σ
def slices_heapSortCmpFunc_window_placeJ7 (call : CallF H) (f : Nat) (t0 t1 t2 t3 : Value) (σ : St H) : R H :=
  slices_heapSortCmpFunc_window_placeJ6 call f t0 t1 t2 t3 t1 σ
def slices_heapSortCmpFunc_window_place (call : CallF H) (f : Nat) (a0 a1 a2 a3 : Value) (σ : St H) : R H := slices_heapSortCmpFunc_window_placeJ7 call f a0 a1 a2 a3 σ
theorem slices_heapSortCmpFunc_window_placeEq (call : CallF H) (f : Nat) (a0 a1 a2 a3 : Value) (σ : St H) : kbody call f (codeOf P n_slices_heapSortCmpFunc_window_place) [a0, a1, a2, a3] σ = slices_heapSortCmpFunc_window_place call f a0 a1 a2 a3 σ :=
  kbody_of (rs := slices_heapSortCmpFunc_window_placeR) (by kernel_rfl) (by kernel_rfl) (by kernel_rfl) (seq_eq (by kernel_rfl) (seq_eq (by kernel_rfl) (seq_eq (by kernel_rfl) (seq_eq (by kernel_rfl) (seq_eq (by kernel_rfl) (block_eq (by kernel_rfl) (loop_eq (fun n e σ => slices_heapSortCmpFunc_window_placeL1 call f n (e 0) (e 3) (e 8) (e 9) (e 12) σ) (by kernel_rfl) (by kernel_rfl) (fun n1 => (leaf (by kernel_rfl)))))
  (leaf (B := fun e σ => slices_heapSortCmpFunc_window_placeJ2 call f (e 0) (e 3) (e 8) (e 9) (e 10) σ) (by kernel_rfl)))
  (seq_eq (by kernel_rfl) (block_eq (by kernel_rfl) (loop_eq (fun n e σ => slices_heapSortCmpFunc_window_placeL3 call f n (e 0) (e 3) (e 8) (e 9) (e 10) (e 11) σ) (by kernel_rfl) (by kernel_rfl) (fun n3 => (leaf (by kernel_rfl)))))
  (leaf (B := fun e σ => slices_heapSortCmpFunc_window_placeJ4 call f (e 0) (e 3) (e 8) (e 9) (e 10) σ) (by kernel_rfl))))
  (leaf (B := fun e σ => slices_heapSortCmpFunc_window_placeJ5 call f (e 0) (e 1) (e 2) (e 3) (e 8) (e 9) σ) (by kernel_rfl)))
  (leaf (B := fun e σ => slices_heapSortCmpFunc_window_placeJ6 call f (e 0) (e 1) (e 2) (e 3) (e 8) σ) (by kernel_rfl)))
  (leaf (B := fun e σ => slices_heapSortCmpFunc_window_placeJ7 call f (e 0) (e 1) (e 2) (e 3) σ) (by kernel_rfl))) (by kernel_rfl)

abbrev slices_breakPatternsCmpFunc_window_placeR : List ARes := []
def slices_breakPatternsCmpFunc_window_placeJ2 (call : CallF H) (f : Nat) (r1 : Value → Value → Value → Value → Value → Value → St H → R H) (t0 t1 t8 t9 t10 t11 t12 : Value) (σ : St H) : R H :=
  bindV (abin .add t1 t12) fun t54 =>
  bindV (abin .add t1 t12) fun t58 =>
  bindV (vIndexAddr 2 t0 t58) fun t59 =>
  bindV (vLoad true 2 t59 σ) fun t60 =>
  bindV (vIndexAddr 2 t0 t11) fun t63 =>
  bindV (vLoad true 2 t63 σ) fun t64 =>
  bindV (vIndexAddr 2 t0 t11) fun t65 =>
  bindS (vStore 2 t65 t60 σ) fun σ =>
  bindV (vIndexAddr 2 t0 t54) fun t66 =>
  bindS (vStore 2 t66 t64 σ) fun σ =>
  bindV (abin .add t11 (I 1)) fun t37 =>
  r1 t0 t1 t8 t9 t10 t37 σ
def slices_breakPatternsCmpFunc_window_placeL1 (call : CallF H) (f : Nat) (n : Nat) : Value → Value → Value → Value → Value → Value → St H → R H :=
  Nat.rec (fun _ _ _ _ _ _ _ => none) (fun _ r1 => fun t0 t1 t8 t9 t10 t11 σ =>
  bindV (abin .quo t8 (I 4)) fun t31 =>
  bindV (abin .mul t31 (I 2)) fun t32 =>
  bindV (abin .add t1 t32) fun t33 =>
  bindV (abin .add t33 (I 1)) fun t34 =>
  bindV (abin .leq t11 t34) fun t35 =>
  ifV t35 (
  bindR (call n_slices_xorshift_Next [t9] σ) fun t38 σ =>
  bindV (abin .sub t10 (.int .u64 1)) fun t40 =>
  bindV (abin .and t38 t40) fun t41 =>
  bindV (vConv .i64 t41) fun t42 =>
  bindV (abin .geq t42 t8) fun t45 =>
  ifV t45 (
  bindV (abin .sub t42 t8) fun t48 =>
  slices_breakPatternsCmpFunc_window_placeJ2 call f r1 t0 t1 t8 t9 t10 t11 t48 σ) (
  slices_breakPatternsCmpFunc_window_placeJ2 call f r1 t0 t1 t8 t9 t10 t11 t42 σ)) (
  some (.tuple ⟨[]⟩, σ))) n
def slices_breakPatternsCmpFunc_window_placeJ3 (call : CallF H) (f : Nat) (t0 t1 t8 t9 t10 : Value) (σ : St H) : R H :=
  bindV (abin .quo t8 (I 4)) fun t24 =>
  bindV (abin .mul t24 (I 2)) fun t25 =>
  bindV (abin .add t1 t25) fun t26 =>
  bindV (abin .sub t26 (I 1)) fun t27 =>
  slices_breakPatternsCmpFunc_window_placeL1 call f f t0 t1 t8 t9 t10 t27 σ
def slices_breakPatternsCmpFunc_window_placeJ4 (call : CallF H) (f : Nat) (t0 t1 t8 t9 : Value) (σ : St H) : R H :=
  bindR (call n_slices_nextPowerOfTwo [t8] σ) fun t21 σ =>
  slices_breakPatternsCmpFunc_window_placeJ3 call f t0 t1 t8 t9 t21 σ
def slices_breakPatternsCmpFunc_window_placeJ5 (call : CallF H) (f : Nat) (t0 t1 t8 : Value) (σ : St H) : R H :=
  bindV (vConv .u64 t8) fun t19 =>
  bindR (vBox (.int .u64 0) σ) fun t9 σ =>
  bindS (vStore 1 t9 t19 σ) fun σ =>
  slices_breakPatternsCmpFunc_window_placeJ4 call f t0 t1 t8 t9 σ
def slices_breakPatternsCmpFunc_window_placeJ6 (call : CallF H) (f : Nat) (t0 t1 t8 t17 : Value) (σ : St H) : R H :=
  ifV t17 (slices_breakPatternsCmpFunc_window_placeJ5 call f t0 t1 t8 σ) (some (.tuple ⟨[]⟩, σ))
def slices_breakPatternsCmpFunc_window_placeJ7 (call : CallF H) (f : Nat) (t0 t1 t8 : Value) (σ : St H) : R H :=
  bindV (abin .geq t8 (I 8)) fun t17 =>
  slices_breakPatternsCmpFunc_window_placeJ6 call f t0 t1 t8 t17 σ
def slices_breakPatternsCmpFunc_window_placeJ8 (call : CallF H) (f : Nat) (t0 t1 t2 : Value) (σ : St H) : R H :=
  bindV (abin .sub t2 t1) fun t15 =>
  slices_breakPatternsCmpFunc_window_placeJ7 call f t0 t1 t15 σ
def slices_breakPatternsCmpFunc_window_place (call : CallF H) (f : Nat) (a0 a1 a2 a3 : Value) (σ : St H) : R H := slices_breakPatternsCmpFunc_window_placeJ8 call f a0 a1 a2 σ
theorem slices_breakPatternsCmpFunc_window_placeEq (call : CallF H) (f : Nat) (a0 a1 a2 a3 : Value) (σ : St H) : kbody call f (codeOf P n_slices_breakPatternsCmpFunc_window_place) [a0, a1, a2, a3] σ = slices_breakPatternsCmpFunc_window_place call f a0 a1 a2 a3 σ :=
  kbody_of (rs := slices_breakPatternsCmpFunc_window_placeR) (by kernel_rfl) (by kernel_rfl) (by kernel_rfl) (seq_eq (by kernel_rfl) (seq_eq (by kernel_rfl) (tr (B := fun e σ => slices_breakPatternsCmpFunc_window_placeJ6 call f (e 0) (e 1) (e 8) (e 17) σ) (cond_eq (by kernel_rfl) (seq_eq (by kernel_rfl) (seq_eq (by kernel_rfl) (seq_eq (by kernel_rfl) (block_eq (by kernel_rfl) (loop_eq (fun n e σ => slices_breakPatternsCmpFunc_window_placeL1 call f n (e 0) (e 1) (e 8) (e 9) (e 10) (e 11) σ) (by kernel_rfl) (by kernel_rfl) (fun n1 => (leaf (by kernel_rfl)))))
  (leaf (B := fun e σ => slices_breakPatternsCmpFunc_window_placeJ3 call f (e 0) (e 1) (e 8) (e 9) (e 10) σ) (by kernel_rfl)))
  (leaf (B := fun e σ => slices_breakPatternsCmpFunc_window_placeJ4 call f (e 0) (e 1) (e 8) (e 9) σ) (by kernel_rfl)))
  (leaf (B := fun e σ => slices_breakPatternsCmpFunc_window_placeJ5 call f (e 0) (e 1) (e 8) σ) (by kernel_rfl)))
  (leaf (B := fun e σ => karesV e σ slices_breakPatternsCmpFunc_window_placeR) (by kernel_rfl))) (by kernel_rfl))
  (leaf (B := fun e σ => slices_breakPatternsCmpFunc_window_placeJ7 call f (e 0) (e 1) (e 8) σ) (by kernel_rfl)))
  (leaf (B := fun e σ => slices_breakPatternsCmpFunc_window_placeJ8 call f (e 0) (e 1) (e 2) σ) (by kernel_rfl))) (by kernel_rfl)

def slices_choosePivotCmpFunc_window_placeJ1 (call : CallF H) (f : Nat) (t11 t13 : Value) (σ : St H) : R H :=
  bindV (vLoad false 1 t11 σ) fun t55 =>
  bindV (abin .eql t55 (I 0)) fun t58 =>
  ifV t58 (
  some (.tuple ⟨[t13, (I 1)]⟩, σ)) (
  bindV (abin .eql t55 (I 12)) fun t61 =>
  ifV t61 (
  some (.tuple ⟨[t13, (I 2)]⟩, σ)) (
  some (.tuple ⟨[t13, (I 0)]⟩, σ)))
def slices_choosePivotCmpFunc_window_placeJ2 (call : CallF H) (f : Nat) (t0 t3 t11 t12 t13 t14 : Value) (σ : St H) : R H :=
  bindR (call n_slices_medianCmpFunc_window_place [t0, t12, t13, t14, t11, t3] σ) fun t54 σ =>
  slices_choosePivotCmpFunc_window_placeJ1 call f t11 t54 σ
def slices_choosePivotCmpFunc_window_place (call : CallF H) (f : Nat) (a0 a1 a2 a3 : Value) (σ : St H) : R H :=
  bindV (abin .sub a2 a1) fun t17 =>
  bindR (vBox (I 0) σ) fun t11 σ =>
  bindV (abin .quo t17 (I 4)) fun t20 =>
  bindV (abin .mul t20 (I 1)) fun t21 =>
  bindV (abin .add a1 t21) fun t22 =>
  bindV (abin .quo t17 (I 4)) fun t25 =>
  bindV (abin .mul t25 (I 2)) fun t26 =>
  bindV (abin .add a1 t26) fun t27 =>
  bindV (abin .quo t17 (I 4)) fun t30 =>
  bindV (abin .mul t30 (I 3)) fun t31 =>
  bindV (abin .add a1 t31) fun t32 =>
  bindV (abin .geq t17 (I 8)) fun t34 =>
  ifV t34 (
  bindV (abin .geq t17 (I 50)) fun t36 =>
  ifV t36 (
  bindR (call n_slices_medianAdjacentCmpFunc_window_place [a0, t22, t11, a3] σ) fun t40 σ =>
  bindR (call n_slices_medianAdjacentCmpFunc_window_place [a0, t27, t11, a3] σ) fun t44 σ =>
  bindR (call n_slices_medianAdjacentCmpFunc_window_place [a0, t32, t11, a3] σ) fun t48 σ =>
  slices_choosePivotCmpFunc_window_placeJ2 call f a0 a3 t11 t40 t44 t48 σ) (
  slices_choosePivotCmpFunc_window_placeJ2 call f a0 a3 t11 t22 t27 t32 σ)) (
  slices_choosePivotCmpFunc_window_placeJ1 call f t11 t27 σ)
theorem slices_choosePivotCmpFunc_window_placeEq (call : CallF H) (f : Nat) (a0 a1 a2 a3 : Value) (σ : St H) : kbody call f (codeOf P n_slices_choosePivotCmpFunc_window_place) [a0, a1, a2, a3] σ = slices_choosePivotCmpFunc_window_place call f a0 a1 a2 a3 σ := by kernel_rfl

abbrev slices_reverseRangeCmpFunc_window_placeR : List ARes := []
def slices_reverseRangeCmpFunc_window_placeL1 (call : CallF H) (f : Nat) (n : Nat) : Value → Value → Value → St H → R H :=
  Nat.rec (fun _ _ _ _ => none) (fun _ r1 => fun t0 t8 t9 σ =>
  bindV (abin .lss t8 t9) fun t15 =>
  ifV t15 (
  bindV (vIndexAddr 2 t0 t9) fun t22 =>
  bindV (vLoad true 2 t22 σ) fun t23 =>
  bindV (vIndexAddr 2 t0 t8) fun t26 =>
  bindV (vLoad true 2 t26 σ) fun t27 =>
  bindV (vIndexAddr 2 t0 t8) fun t28 =>
  bindS (vStore 2 t28 t23 σ) fun σ =>
  bindV (vIndexAddr 2 t0 t9) fun t29 =>
  bindS (vStore 2 t29 t27 σ) fun σ =>
  bindV (abin .add t8 (I 1)) fun t31 =>
  bindV (abin .sub t9 (I 1)) fun t33 =>
  r1 t0 t31 t33 σ) (
  some (.tuple ⟨[]⟩, σ))) n
def slices_reverseRangeCmpFunc_window_placeJ2 (call : CallF H) (f : Nat) (t0 t2 t8 : Value) (σ : St H) : R H :=
  bindV (abin .sub t2 (I 1)) fun t12 =>
  slices_reverseRangeCmpFunc_window_placeL1 call f f t0 t8 t12 σ
def slices_reverseRangeCmpFunc_window_placeJ3 (call : CallF H) (f : Nat) (t0 t1 t2 : Value) (σ : St H) : R H :=
  slices_reverseRangeCmpFunc_window_placeJ2 call f t0 t2 t1 σ
def slices_reverseRangeCmpFunc_window_place (call : CallF H) (f : Nat) (a0 a1 a2 a3 : Value) (σ : St H) : R H := slices_reverseRangeCmpFunc_window_placeJ3 call f a0 a1 a2 σ
theorem slices_reverseRangeCmpFunc_window_placeEq (call : CallF H) (f : Nat) (a0 a1 a2 a3 : Value) (σ : St H) : kbody call f (codeOf P n_slices_reverseRangeCmpFunc_window_place) [a0, a1, a2, a3] σ = slices_reverseRangeCmpFunc_window_place call f a0 a1 a2 a3 σ :=
  kbody_of (rs := slices_reverseRangeCmpFunc_window_placeR) (by kernel_rfl) (by kernel_rfl) (by kernel_rfl) (seq_eq (by kernel_rfl) (seq_eq (by kernel_rfl) (block_eq (by kernel_rfl) (loop_eq (fun n e σ => slices_reverseRangeCmpFunc_window_placeL1 call f n (e 0) (e 8) (e 9) σ) (by kernel_rfl) (by kernel_rfl) (fun n1 => (leaf (by kernel_rfl)))))
  (leaf (B := fun e σ => slices_reverseRangeCmpFunc_window_placeJ2 call f (e 0) (e 2) (e 8) σ) (by kernel_rfl)))
  (leaf (B := fun e σ => slices_reverseRangeCmpFunc_window_placeJ3 call f (e 0) (e 1) (e 2) σ) (by kernel_rfl))) (by kernel_rfl)

abbrev slices_partialInsertionSortCmpFunc_window_placeR : List ARes := [.tmp 8]
def slices_partialInsertionSortCmpFunc_window_placeJ1 (call : CallF H) (f : Nat) (σ : St H) : R H :=
  some (ff, σ)
def slices_partialInsertionSortCmpFunc_window_placeJ3 (call : CallF H) (f : Nat) (r2 : Value → Value → Value → Value → Value → Value → St H → R H) (t0 t1 t2 t3 t9 t10 : Value) (σ : St H) : R H :=
  bindV (abin .add t10 (I 1)) fun t18 =>
  r2 t0 t1 t2 t3 t9 t18 σ
def slices_partialInsertionSortCmpFunc_window_placeL4 (call : CallF H) (f : Nat) (r2 : Value → Value → Value → Value → Value → Value → St H → R H) (n : Nat) : Value → Value → Value → Value → Value → Value → Value → St H → R H :=
  Nat.rec (fun _ _ _ _ _ _ _ _ => none) (fun _ r4 => fun t0 t1 t2 t3 t9 t10 t12 σ =>
  bindV (abin .lss t12 t2) fun t109 =>
  ifV t109 (
  bindV (vIndexAddr 2 t0 t12) fun t115 =>
  bindV (vLoad true 2 t115 σ) fun t116 =>
  bindV (abin .sub t12 (I 1)) fun t119 =>
  bindV (vIndexAddr 2 t0 t119) fun t120 =>
  bindV (vLoad true 2 t120 σ) fun t121 =>
  bindR (vCallv t3 [t116, t121] call σ) fun t122 σ =>
  bindV (abin .lss t122 (I 0)) fun t123 =>
  bindV (aun .not t123) fun t124 =>
  ifV t124 (
  slices_partialInsertionSortCmpFunc_window_placeJ3 call f r2 t0 t1 t2 t3 t9 t10 σ) (
  bindV (abin .sub t12 (I 1)) fun t129 =>
  bindV (abin .sub t12 (I 1)) fun t132 =>
  bindV (vIndexAddr 2 t0 t132) fun t133 =>
  bindV (vLoad true 2 t133 σ) fun t134 =>
  bindV (vIndexAddr 2 t0 t12) fun t137 =>
  bindV (vLoad true 2 t137 σ) fun t138 =>
  bindV (vIndexAddr 2 t0 t12) fun t139 =>
  bindS (vStore 2 t139 t134 σ) fun σ =>
  bindV (vIndexAddr 2 t0 t129) fun t140 =>
  bindS (vStore 2 t140 t138 σ) fun σ =>
  bindV (abin .add t12 (I 1)) fun t111 =>
  r4 t0 t1 t2 t3 t9 t10 t111 σ)) (
  slices_partialInsertionSortCmpFunc_window_placeJ3 call f r2 t0 t1 t2 t3 t9 t10 σ)) n
def slices_partialInsertionSortCmpFunc_window_placeJ5 (call : CallF H) (f : Nat) (r2 : Value → Value → Value → Value → Value → Value → St H → R H) (t0 t1 t2 t3 t9 t10 : Value) (σ : St H) : R H :=
  bindV (abin .add t9 (I 1)) fun t106 =>
  slices_partialInsertionSortCmpFunc_window_placeL4 call f r2 f t0 t1 t2 t3 t9 t10 t106 σ
def slices_partialInsertionSortCmpFunc_window_placeJ6 (call : CallF H) (f : Nat) (r2 : Value → Value → Value → Value → Value → Value → St H → R H) (t0 t1 t2 t3 t9 t10 t104 : Value) (σ : St H) : R H :=
  ifV t104 (slices_partialInsertionSortCmpFunc_window_placeJ5 call f r2 t0 t1 t2 t3 t9 t10 σ) (slices_partialInsertionSortCmpFunc_window_placeJ3 call f r2 t0 t1 t2 t3 t9 t10 σ)
def slices_partialInsertionSortCmpFunc_window_placeJ7 (call : CallF H) (f : Nat) (r2 : Value → Value → Value → Value → Value → Value → St H → R H) (t0 t1 t2 t3 t9 t10 : Value) (σ : St H) : R H :=
  bindV (abin .sub t2 t9) fun t103 =>
  bindV (abin .geq t103 (I 2)) fun t104 =>
  slices_partialInsertionSortCmpFunc_window_placeJ6 call f r2 t0 t1 t2 t3 t9 t10 t104 σ
def slices_partialInsertionSortCmpFunc_window_placeL8 (call : CallF H) (f : Nat) (r2 : Value → Value → Value → Value → Value → Value → St H → R H) (n : Nat) : Value → Value → Value → Value → Value → Value → Value → St H → R H :=
  Nat.rec (fun _ _ _ _ _ _ _ _ => none) (fun _ r8 => fun t0 t1 t2 t3 t9 t10 t11 σ =>
  bindV (abin .geq t11 (I 1)) fun t69 =>
  ifV t69 (
  bindV (vIndexAddr 2 t0 t11) fun t75 =>
  bindV (vLoad true 2 t75 σ) fun t76 =>
  bindV (abin .sub t11 (I 1)) fun t79 =>
  bindV (vIndexAddr 2 t0 t79) fun t80 =>
  bindV (vLoad true 2 t80 σ) fun t81 =>
  bindR (vCallv t3 [t76, t81] call σ) fun t82 σ =>
  bindV (abin .lss t82 (I 0)) fun t83 =>
  bindV (aun .not t83) fun t84 =>
  ifV t84 (
  slices_partialInsertionSortCmpFunc_window_placeJ7 call f r2 t0 t1 t2 t3 t9 t10 σ) (
  bindV (abin .sub t11 (I 1)) fun t89 =>
  bindV (abin .sub t11 (I 1)) fun t92 =>
  bindV (vIndexAddr 2 t0 t92) fun t93 =>
  bindV (vLoad true 2 t93 σ) fun t94 =>
  bindV (vIndexAddr 2 t0 t11) fun t97 =>
  bindV (vLoad true 2 t97 σ) fun t98 =>
  bindV (vIndexAddr 2 t0 t11) fun t99 =>
  bindS (vStore 2 t99 t94 σ) fun σ =>
  bindV (vIndexAddr 2 t0 t89) fun t100 =>
  bindS (vStore 2 t100 t98 σ) fun σ =>
  bindV (abin .sub t11 (I 1)) fun t71 =>
  r8 t0 t1 t2 t3 t9 t10 t71 σ)) (
  slices_partialInsertionSortCmpFunc_window_placeJ7 call f r2 t0 t1 t2 t3 t9 t10 σ)) n
def slices_partialInsertionSortCmpFunc_window_placeJ9 (call : CallF H) (f : Nat) (r2 : Value → Value → Value → Value → Value → Value → St H → R H) (t0 t1 t2 t3 t9 t10 : Value) (σ : St H) : R H :=
  bindV (abin .sub t9 (I 1)) fun t67 =>
  slices_partialInsertionSortCmpFunc_window_placeL8 call f r2 f t0 t1 t2 t3 t9 t10 t67 σ
def slices_partialInsertionSortCmpFunc_window_placeJ10 (call : CallF H) (f : Nat) (r2 : Value → Value → Value → Value → Value → Value → St H → R H) (t0 t1 t2 t3 t9 t10 t65 : Value) (σ : St H) : R H :=
  ifV t65 (slices_partialInsertionSortCmpFunc_window_placeJ9 call f r2 t0 t1 t2 t3 t9 t10 σ) (slices_partialInsertionSortCmpFunc_window_placeJ7 call f r2 t0 t1 t2 t3 t9 t10 σ)
def slices_partialInsertionSortCmpFunc_window_placeJ11 (call : CallF H) (f : Nat) (r2 : Value → Value → Value → Value → Value → Value → St H → R H) (t0 t1 t2 t3 t9 t10 : Value) (σ : St H) : R H :=
  bindV (abin .sub t9 t1) fun t64 =>
  bindV (abin .geq t64 (I 2)) fun t65 =>
  slices_partialInsertionSortCmpFunc_window_placeJ10 call f r2 t0 t1 t2 t3 t9 t10 t65 σ
def slices_partialInsertionSortCmpFunc_window_placeJ12 (call : CallF H) (f : Nat) (r2 : Value → Value → Value → Value → Value → Value → St H → R H) (t0 t1 t2 t3 t9 t10 : Value) (σ : St H) : R H :=
  bindV (abin .sub t9 (I 1)) fun t50 =>
  bindV (abin .sub t9 (I 1)) fun t53 =>
  bindV (vIndexAddr 2 t0 t53) fun t54 =>
  bindV (vLoad true 2 t54 σ) fun t55 =>
  bindV (vIndexAddr 2 t0 t9) fun t58 =>
  bindV (vLoad true 2 t58 σ) fun t59 =>
  bindV (vIndexAddr 2 t0 t9) fun t60 =>
  bindS (vStore 2 t60 t55 σ) fun σ =>
  bindV (vIndexAddr 2 t0 t50) fun t61 =>
  bindS (vStore 2 t61 t59 σ) fun σ =>
  slices_partialInsertionSortCmpFunc_window_placeJ11 call f r2 t0 t1 t2 t3 t9 t10 σ
def slices_partialInsertionSortCmpFunc_window_placeJ13 (call : CallF H) (f : Nat) (r2 : Value → Value → Value → Value → Value → Value → St H → R H) (t0 t1 t2 t3 t9 t10 : Value) (σ : St H) : R H :=
  bindV (abin .sub t2 t1) fun t44 =>
  bindV (abin .lss t44 (I 50)) fun t45 =>
  ifV t45 (
  some (ff, σ)) (
  slices_partialInsertionSortCmpFunc_window_placeJ12 call f r2 t0 t1 t2 t3 t9 t10 σ)
def slices_partialInsertionSortCmpFunc_window_placeJ14 (call : CallF H) (f : Nat) (r2 : Value → Value → Value → Value → Value → Value → St H → R H) (t0 t1 t2 t3 t9 t10 : Value) (σ : St H) : R H :=
  bindV (abin .eql t9 t2) fun t41 =>
  ifV t41 (
  some (tt, σ)) (
  slices_partialInsertionSortCmpFunc_window_placeJ13 call f r2 t0 t1 t2 t3 t9 t10 σ)
def slices_partialInsertionSortCmpFunc_window_placeL15 (call : CallF H) (f : Nat) (r2 : Value → Value → Value → Value → Value → Value → St H → R H) (n : Nat) : Value → Value → Value → Value → Value → Value → St H → R H :=
  Nat.rec (fun _ _ _ _ _ _ _ => none) (fun _ r15 => fun t0 t1 t2 t3 t9 t10 σ =>
  bindV (abin .lss t9 t2) fun t21 =>
  bindV (bif kyes t21 true then some t3 else some undefV) fun t23 =>
  bindV (bif kyes t21 true then some t0 else some undefV) fun t24 =>
  bindV (bif kyes t21 true then some t9 else some undefV) fun t25 =>
  bindV (bif kyes t21 true then vIndexAddr 2 t24 t25 else some undefV) fun t26 =>
  bindV (bif kyes t21 true then vLoad true 2 t26 σ else some undefV) fun t27 =>
  bindV (bif kyes t21 true then some t0 else some undefV) fun t28 =>
  bindV (bif kyes t21 true then some t9 else some undefV) fun t29 =>
  bindV (bif kyes t21 true then abin .sub t29 (I 1) else some undefV) fun t30 =>
  bindV (bif kyes t21 true then vIndexAddr 2 t28 t30 else some undefV) fun t31 =>
  bindV (bif kyes t21 true then vLoad true 2 t31 σ else some undefV) fun t32 =>
  bindR (bif kyes t21 true then vCallv t23 [t27, t32] call σ else some (undefV, σ)) fun t33 σ =>
  bindV (bif kyes t21 true then abin .lss t33 (I 0) else some undefV) fun t34 =>
  bindV (bif kyes t21 true then aun .not t34 else some undefV) fun t35 =>
  bindV (vPick t21 t35 ff) fun t36 =>
  ifV t36 (
  bindV (abin .add t9 (I 1)) fun t38 =>
  r15 t0 t1 t2 t3 t38 t10 σ) (
  slices_partialInsertionSortCmpFunc_window_placeJ14 call f r2 t0 t1 t2 t3 t9 t10 σ)) n
def slices_partialInsertionSortCmpFunc_window_placeJ16 (call : CallF H) (f : Nat) (r2 : Value → Value → Value → Value → Value → Value → St H → R H) (t0 t1 t2 t3 t9 t10 : Value) (σ : St H) : R H :=
  bindV (abin .lss t10 (I 5)) fun t16 =>
  ifV t16 (
  slices_partialInsertionSortCmpFunc_window_placeL15 call f r2 f t0 t1 t2 t3 t9 t10 σ) (
  slices_partialInsertionSortCmpFunc_window_placeJ1 call f σ)
def slices_partialInsertionSortCmpFunc_window_placeL2 (call : CallF H) (f : Nat) (n : Nat) : Value → Value → Value → Value → Value → Value → St H → R H :=
  Nat.rec (fun _ _ _ _ _ _ _ => none) (fun _ r2 => fun t0 t1 t2 t3 t9 t10 σ =>
  slices_partialInsertionSortCmpFunc_window_placeJ16 call f r2 t0 t1 t2 t3 t9 t10 σ) n
def slices_partialInsertionSortCmpFunc_window_placeJ17 (call : CallF H) (f : Nat) (t0 t1 t2 t3 t9 : Value) (σ : St H) : R H :=
  slices_partialInsertionSortCmpFunc_window_placeL2 call f f t0 t1 t2 t3 t9 (I 0) σ
def slices_partialInsertionSortCmpFunc_window_placeJ18 (call : CallF H) (f : Nat) (t0 t1 t2 t3 : Value) (σ : St H) : R H :=
  bindV (abin .add t1 (I 1)) fun t14 =>
  slices_partialInsertionSortCmpFunc_window_placeJ17 call f t0 t1 t2 t3 t14 σ
def slices_partialInsertionSortCmpFunc_window_placeJ19 (call : CallF H) (f : Nat) (t0 t1 t2 t3 : Value) (σ : St H) : R H :=
  slices_partialInsertionSortCmpFunc_window_placeJ18 call f t0 t1 t2 t3 σ
def slices_partialInsertionSortCmpFunc_window_place (call : CallF H) (f : Nat) (a0 a1 a2 a3 : Value) (σ : St H) : R H := slices_partialInsertionSortCmpFunc_window_placeJ19 call f a0 a1 a2 a3 σ
theorem slices_partialInsertionSortCmpFunc_window_placeEq (call : CallF H) (f : Nat) (a0 a1 a2 a3 : Value) (σ : St H) : kbody call f (codeOf P n_slices_partialInsertionSortCmpFunc_window_place) [a0, a1, a2, a3] σ = slices_partialInsertionSortCmpFunc_window_place call f a0 a1 a2 a3 σ :=
  kbody_of (rs := slices_partialInsertionSortCmpFunc_window_placeR) (by kernel_rfl) (by kernel_rfl) (by kernel_rfl) (seq_eq (by kernel_rfl) (seq_eq (by kernel_rfl) (seq_eq (by kernel_rfl) (leaf (B := fun e σ => slices_partialInsertionSortCmpFunc_window_placeJ1 call f σ) (by kernel_rfl))
  (seq_eq (by kernel_rfl) (block_eq (by kernel_rfl) (loop_eq (fun n e σ => slices_partialInsertionSortCmpFunc_window_placeL2 call f n (e 0) (e 1) (e 2) (e 3) (e 9) (e 10) σ) (by kernel_rfl) (by kernel_rfl) (fun n2 => (tr (seq_eq (by kernel_rfl) (seq_eq (by kernel_rfl) (leaf (B := fun e σ => slices_partialInsertionSortCmpFunc_window_placeJ3 call f (slices_partialInsertionSortCmpFunc_window_placeL2 call f n2) (e 0) (e 1) (e 2) (e 3) (e 9) (e 10) σ) (by kernel_rfl))
  (block_eq (by kernel_rfl) (seq_eq (by kernel_rfl) (seq_eq (by kernel_rfl) (seq_eq (by kernel_rfl) (seq_eq (by kernel_rfl) (seq_eq (by kernel_rfl) (seq_eq (by kernel_rfl) (tr (B := fun e σ => slices_partialInsertionSortCmpFunc_window_placeJ6 call f (slices_partialInsertionSortCmpFunc_window_placeL2 call f n2) (e 0) (e 1) (e 2) (e 3) (e 9) (e 10) (e 104) σ) (cond_eq (by kernel_rfl) (seq_eq (by kernel_rfl) (block_eq (by kernel_rfl) (loop_eq (fun n e σ => slices_partialInsertionSortCmpFunc_window_placeL4 call f (slices_partialInsertionSortCmpFunc_window_placeL2 call f n2) n (e 0) (e 1) (e 2) (e 3) (e 9) (e 10) (e 12) σ) (by kernel_rfl) (by kernel_rfl) (fun n4 => (leaf (by kernel_rfl)))))
  (leaf (B := fun e σ => slices_partialInsertionSortCmpFunc_window_placeJ5 call f (slices_partialInsertionSortCmpFunc_window_placeL2 call f n2) (e 0) (e 1) (e 2) (e 3) (e 9) (e 10) σ) (by kernel_rfl)))
  (leaf (B := fun e σ => slices_partialInsertionSortCmpFunc_window_placeJ3 call f (slices_partialInsertionSortCmpFunc_window_placeL2 call f n2) (e 0) (e 1) (e 2) (e 3) (e 9) (e 10) σ) (by kernel_rfl))) (by kernel_rfl))
  (leaf (B := fun e σ => slices_partialInsertionSortCmpFunc_window_placeJ7 call f (slices_partialInsertionSortCmpFunc_window_placeL2 call f n2) (e 0) (e 1) (e 2) (e 3) (e 9) (e 10) σ) (by kernel_rfl)))
  (seq_eq (by kernel_rfl) (tr (B := fun e σ => slices_partialInsertionSortCmpFunc_window_placeJ10 call f (slices_partialInsertionSortCmpFunc_window_placeL2 call f n2) (e 0) (e 1) (e 2) (e 3) (e 9) (e 10) (e 65) σ) (cond_eq (by kernel_rfl) (seq_eq (by kernel_rfl) (block_eq (by kernel_rfl) (loop_eq (fun n e σ => slices_partialInsertionSortCmpFunc_window_placeL8 call f (slices_partialInsertionSortCmpFunc_window_placeL2 call f n2) n (e 0) (e 1) (e 2) (e 3) (e 9) (e 10) (e 11) σ) (by kernel_rfl) (by kernel_rfl) (fun n8 => (leaf (by kernel_rfl)))))
  (leaf (B := fun e σ => slices_partialInsertionSortCmpFunc_window_placeJ9 call f (slices_partialInsertionSortCmpFunc_window_placeL2 call f n2) (e 0) (e 1) (e 2) (e 3) (e 9) (e 10) σ) (by kernel_rfl)))
  (leaf (B := fun e σ => slices_partialInsertionSortCmpFunc_window_placeJ7 call f (slices_partialInsertionSortCmpFunc_window_placeL2 call f n2) (e 0) (e 1) (e 2) (e 3) (e 9) (e 10) σ) (by kernel_rfl))) (by kernel_rfl))
  (leaf (B := fun e σ => slices_partialInsertionSortCmpFunc_window_placeJ11 call f (slices_partialInsertionSortCmpFunc_window_placeL2 call f n2) (e 0) (e 1) (e 2) (e 3) (e 9) (e 10) σ) (by kernel_rfl))))
  (leaf (B := fun e σ => slices_partialInsertionSortCmpFunc_window_placeJ12 call f (slices_partialInsertionSortCmpFunc_window_placeL2 call f n2) (e 0) (e 1) (e 2) (e 3) (e 9) (e 10) σ) (by kernel_rfl)))
  (leaf (B := fun e σ => slices_partialInsertionSortCmpFunc_window_placeJ13 call f (slices_partialInsertionSortCmpFunc_window_placeL2 call f n2) (e 0) (e 1) (e 2) (e 3) (e 9) (e 10) σ) (by kernel_rfl)))
  (leaf (B := fun e σ => slices_partialInsertionSortCmpFunc_window_placeJ14 call f (slices_partialInsertionSortCmpFunc_window_placeL2 call f n2) (e 0) (e 1) (e 2) (e 3) (e 9) (e 10) σ) (by kernel_rfl)))
  (block_eq (by kernel_rfl) (loop_eq (fun n e σ => slices_partialInsertionSortCmpFunc_window_placeL15 call f (slices_partialInsertionSortCmpFunc_window_placeL2 call f n2) n (e 0) (e 1) (e 2) (e 3) (e 9) (e 10) σ) (by kernel_rfl) (by kernel_rfl) (fun n15 => (leaf (by kernel_rfl))))))))
  (leaf (B := fun e σ => slices_partialInsertionSortCmpFunc_window_placeJ16 call f (slices_partialInsertionSortCmpFunc_window_placeL2 call f n2) (e 0) (e 1) (e 2) (e 3) (e 9) (e 10) σ) (by kernel_rfl))) (by kernel_rfl)))))
  (leaf (B := fun e σ => slices_partialInsertionSortCmpFunc_window_placeJ17 call f (e 0) (e 1) (e 2) (e 3) (e 9) σ) (by kernel_rfl))))
  (leaf (B := fun e σ => slices_partialInsertionSortCmpFunc_window_placeJ18 call f (e 0) (e 1) (e 2) (e 3) σ) (by kernel_rfl)))
  (leaf (B := fun e σ => slices_partialInsertionSortCmpFunc_window_placeJ19 call f (e 0) (e 1) (e 2) (e 3) σ) (by kernel_rfl))) (by kernel_rfl)

abbrev slices_partitionEqualCmpFunc_window_placeR : List ARes := [.tmp 10]
def slices_partitionEqualCmpFunc_window_placeJ1 (call : CallF H) (f : Nat) (t11 : Value) (σ : St H) : R H :=
  some (t11, σ)
def slices_partitionEqualCmpFunc_window_placeJ3 (call : CallF H) (f : Nat) (r2 : Value → Value → Value → Value → Value → St H → R H) (t0 t1 t4 t11 t12 : Value) (σ : St H) : R H :=
  bindV (abin .gtr t11 t12) fun t70 =>
  ifV t70 (
  slices_partitionEqualCmpFunc_window_placeJ1 call f t11 σ) (
  bindV (vIndexAddr 2 t0 t12) fun t77 =>
  bindV (vLoad true 2 t77 σ) fun t78 =>
  bindV (vIndexAddr 2 t0 t11) fun t81 =>
  bindV (vLoad true 2 t81 σ) fun t82 =>
  bindV (vIndexAddr 2 t0 t11) fun t83 =>
  bindS (vStore 2 t83 t78 σ) fun σ =>
  bindV (vIndexAddr 2 t0 t12) fun t84 =>
  bindS (vStore 2 t84 t82 σ) fun σ =>
  bindV (abin .add t11 (I 1)) fun t86 =>
  bindV (abin .sub t12 (I 1)) fun t88 =>
  r2 t0 t1 t4 t86 t88 σ)
def slices_partitionEqualCmpFunc_window_placeL4 (call : CallF H) (f : Nat) (r2 : Value → Value → Value → Value → Value → St H → R H) (n : Nat) : Value → Value → Value → Value → Value → St H → R H :=
  Nat.rec (fun _ _ _ _ _ _ => none) (fun _ r4 => fun t0 t1 t4 t11 t12 σ =>
  bindV (abin .leq t11 t12) fun t52 =>
  bindV (bif kyes t52 true then some t4 else some undefV) fun t54 =>
  bindV (bif kyes t52 true then some t0 else some undefV) fun t55 =>
  bindV (bif kyes t52 true then some t1 else some undefV) fun t56 =>
  bindV (bif kyes t52 true then vIndexAddr 2 t55 t56 else some undefV) fun t57 =>
  bindV (bif kyes t52 true then vLoad true 2 t57 σ else some undefV) fun t58 =>
  bindV (bif kyes t52 true then some t0 else some undefV) fun t59 =>
  bindV (bif kyes t52 true then some t12 else some undefV) fun t60 =>
  bindV (bif kyes t52 true then vIndexAddr 2 t59 t60 else some undefV) fun t61 =>
  bindV (bif kyes t52 true then vLoad true 2 t61 σ else some undefV) fun t62 =>
  bindR (bif kyes t52 true then vCallv t54 [t58, t62] call σ else some (undefV, σ)) fun t63 σ =>
  bindV (bif kyes t52 true then abin .lss t63 (I 0) else some undefV) fun t64 =>
  bindV (vPick t52 t64 ff) fun t65 =>
  ifV t65 (
  bindV (abin .sub t12 (I 1)) fun t67 =>
  r4 t0 t1 t4 t11 t67 σ) (
  slices_partitionEqualCmpFunc_window_placeJ3 call f r2 t0 t1 t4 t11 t12 σ)) n
def slices_partitionEqualCmpFunc_window_placeL5 (call : CallF H) (f : Nat) (r2 : Value → Value → Value → Value → Value → St H → R H) (n : Nat) : Value → Value → Value → Value → Value → St H → R H :=
  Nat.rec (fun _ _ _ _ _ _ => none) (fun _ r5 => fun t0 t1 t4 t11 t12 σ =>
  bindV (abin .leq t11 t12) fun t33 =>
  bindV (bif kyes t33 true then some t4 else some undefV) fun t35 =>
  bindV (bif kyes t33 true then some t0 else some undefV) fun t36 =>
  bindV (bif kyes t33 true then some t1 else some undefV) fun t37 =>
  bindV (bif kyes t33 true then vIndexAddr 2 t36 t37 else some undefV) fun t38 =>
  bindV (bif kyes t33 true then vLoad true 2 t38 σ else some undefV) fun t39 =>
  bindV (bif kyes t33 true then some t0 else some undefV) fun t40 =>
  bindV (bif kyes t33 true then some t11 else some undefV) fun t41 =>
  bindV (bif kyes t33 true then vIndexAddr 2 t40 t41 else some undefV) fun t42 =>
  bindV (bif kyes t33 true then vLoad true 2 t42 σ else some undefV) fun t43 =>
  bindR (bif kyes t33 true then vCallv t35 [t39, t43] call σ else some (undefV, σ)) fun t44 σ =>
  bindV (bif kyes t33 true then abin .lss t44 (I 0) else some undefV) fun t45 =>
  bindV (bif kyes t33 true then aun .not t45 else some undefV) fun t46 =>
  bindV (vPick t33 t46 ff) fun t47 =>
  ifV t47 (
  bindV (abin .add t11 (I 1)) fun t49 =>
  r5 t0 t1 t4 t49 t12 σ) (
  slices_partitionEqualCmpFunc_window_placeL4 call f r2 f t0 t1 t4 t11 t12 σ)) n
def slices_partitionEqualCmpFunc_window_placeL2 (call : CallF H) (f : Nat) (n : Nat) : Value → Value → Value → Value → Value → St H → R H :=
  Nat.rec (fun _ _ _ _ _ _ => none) (fun _ r2 => fun t0 t1 t4 t11 t12 σ =>
  slices_partitionEqualCmpFunc_window_placeL5 call f r2 f t0 t1 t4 t11 t12 σ) n
def slices_partitionEqualCmpFunc_window_placeJ6 (call : CallF H) (f : Nat) (t0 t1 t2 t4 : Value) (σ : St H) : R H :=
  bindV (abin .add t1 (I 1)) fun t28 =>
  bindV (abin .sub t2 (I 1)) fun t30 =>
  slices_partitionEqualCmpFunc_window_placeL2 call f f t0 t1 t4 t28 t30 σ
def slices_partitionEqualCmpFunc_window_placeJ7 (call : CallF H) (f : Nat) (t0 t1 t2 t3 t4 : Value) (σ : St H) : R H :=
  bindV (vIndexAddr 2 t0 t3) fun t19 =>
  bindV (vLoad true 2 t19 σ) fun t20 =>
  bindV (vIndexAddr 2 t0 t1) fun t23 =>
  bindV (vLoad true 2 t23 σ) fun t24 =>
  bindV (vIndexAddr 2 t0 t1) fun t25 =>
  bindS (vStore 2 t25 t20 σ) fun σ =>
  bindV (vIndexAddr 2 t0 t3) fun t26 =>
  bindS (vStore 2 t26 t24 σ) fun σ =>
  slices_partitionEqualCmpFunc_window_placeJ6 call f t0 t1 t2 t4 σ
def slices_partitionEqualCmpFunc_window_placeJ8 (call : CallF H) (f : Nat) (t0 t1 t2 t3 t4 : Value) (σ : St H) : R H :=
  slices_partitionEqualCmpFunc_window_placeJ7 call f t0 t1 t2 t3 t4 σ
def slices_partitionEqualCmpFunc_window_place (call : CallF H) (f : Nat) (a0 a1 a2 a3 a4 : Value) (σ : St H) : R H := slices_partitionEqualCmpFunc_window_placeJ8 call f a0 a1 a2 a3 a4 σ
theorem slices_partitionEqualCmpFunc_window_placeEq (call : CallF H) (f : Nat) (a0 a1 a2 a3 a4 : Value) (σ : St H) : kbody call f (codeOf P n_slices_partitionEqualCmpFunc_window_place) [a0, a1, a2, a3, a4] σ = slices_partitionEqualCmpFunc_window_place call f a0 a1 a2 a3 a4 σ :=
  kbody_of (rs := slices_partitionEqualCmpFunc_window_placeR) (by kernel_rfl) (by kernel_rfl) (by kernel_rfl) (seq_eq (by kernel_rfl) (seq_eq (by kernel_rfl) (seq_eq (by kernel_rfl) (seq_eq (by kernel_rfl) (leaf (B := fun e σ => slices_partitionEqualCmpFunc_window_placeJ1 call f (e 11) σ) (by kernel_rfl))
  (block_eq (by kernel_rfl) (loop_eq (fun n e σ => slices_partitionEqualCmpFunc_window_placeL2 call f n (e 0) (e 1) (e 4) (e 11) (e 12) σ) (by kernel_rfl) (by kernel_rfl) (fun n2 => (tr (block_eq (by kernel_rfl) (seq_eq (by kernel_rfl) (seq_eq (by kernel_rfl) (leaf (B := fun e σ => slices_partitionEqualCmpFunc_window_placeJ3 call f (slices_partitionEqualCmpFunc_window_placeL2 call f n2) (e 0) (e 1) (e 4) (e 11) (e 12) σ) (by kernel_rfl))
  (block_eq (by kernel_rfl) (loop_eq (fun n e σ => slices_partitionEqualCmpFunc_window_placeL4 call f (slices_partitionEqualCmpFunc_window_placeL2 call f n2) n (e 0) (e 1) (e 4) (e 11) (e 12) σ) (by kernel_rfl) (by kernel_rfl) (fun n4 => (leaf (by kernel_rfl))))))
  (block_eq (by kernel_rfl) (loop_eq (fun n e σ => slices_partitionEqualCmpFunc_window_placeL5 call f (slices_partitionEqualCmpFunc_window_placeL2 call f n2) n (e 0) (e 1) (e 4) (e 11) (e 12) σ) (by kernel_rfl) (by kernel_rfl) (fun n5 => (leaf (by kernel_rfl))))))) (by kernel_rfl))))))
  (leaf (B := fun e σ => slices_partitionEqualCmpFunc_window_placeJ6 call f (e 0) (e 1) (e 2) (e 4) σ) (by kernel_rfl)))
  (leaf (B := fun e σ => slices_partitionEqualCmpFunc_window_placeJ7 call f (e 0) (e 1) (e 2) (e 3) (e 4) σ) (by kernel_rfl)))
  (leaf (B := fun e σ => slices_partitionEqualCmpFunc_window_placeJ8 call f (e 0) (e 1) (e 2) (e 3) (e 4) σ) (by kernel_rfl))) (by kernel_rfl)

abbrev slices_partitionCmpFunc_window_placeR : List ARes := [.tmp 10, .tmp 11]
def slices_partitionCmpFunc_window_placeJ1 (call : CallF H) (f : Nat) (t0 t1 t13 : Value) (σ : St H) : R H :=
  bindV (vIndexAddr 2 t0 t1) fun t169 =>
  bindV (vLoad true 2 t169 σ) fun t170 =>
  bindV (vIndexAddr 2 t0 t13) fun t173 =>
  bindV (vLoad true 2 t173 σ) fun t174 =>
  bindV (vIndexAddr 2 t0 t13) fun t175 =>
  bindS (vStore 2 t175 t170 σ) fun σ =>
  bindV (vIndexAddr 2 t0 t1) fun t176 =>
  bindS (vStore 2 t176 t174 σ) fun σ =>
  some (.tuple ⟨[t13, ff]⟩, σ)
def slices_partitionCmpFunc_window_placeJ3 (call : CallF H) (f : Nat) (r2 : Value → Value → Value → Value → Value → St H → R H) (t0 t1 t4 t12 t13 : Value) (σ : St H) : R H :=
  bindV (abin .gtr t12 t13) fun t144 =>
  ifV t144 (
  slices_partitionCmpFunc_window_placeJ1 call f t0 t1 t13 σ) (
  bindV (vIndexAddr 2 t0 t13) fun t151 =>
  bindV (vLoad true 2 t151 σ) fun t152 =>
  bindV (vIndexAddr 2 t0 t12) fun t155 =>
  bindV (vLoad true 2 t155 σ) fun t156 =>
  bindV (vIndexAddr 2 t0 t12) fun t157 =>
  bindS (vStore 2 t157 t152 σ) fun σ =>
  bindV (vIndexAddr 2 t0 t13) fun t158 =>
  bindS (vStore 2 t158 t156 σ) fun σ =>
  bindV (abin .add t12 (I 1)) fun t160 =>
  bindV (abin .sub t13 (I 1)) fun t162 =>
  r2 t0 t1 t4 t160 t162 σ)
def slices_partitionCmpFunc_window_placeL4 (call : CallF H) (f : Nat) (r2 : Value → Value → Value → Value → Value → St H → R H) (n : Nat) : Value → Value → Value → Value → Value → St H → R H :=
  Nat.rec (fun _ _ _ _ _ _ => none) (fun _ r4 => fun t0 t1 t4 t12 t13 σ =>
  bindV (abin .leq t12 t13) fun t125 =>
  bindV (bif kyes t125 true then some t4 else some undefV) fun t127 =>
  bindV (bif kyes t125 true then some t0 else some undefV) fun t128 =>
  bindV (bif kyes t125 true then some t13 else some undefV) fun t129 =>
  bindV (bif kyes t125 true then vIndexAddr 2 t128 t129 else some undefV) fun t130 =>
  bindV (bif kyes t125 true then vLoad true 2 t130 σ else some undefV) fun t131 =>
  bindV (bif kyes t125 true then some t0 else some undefV) fun t132 =>
  bindV (bif kyes t125 true then some t1 else some undefV) fun t133 =>
  bindV (bif kyes t125 true then vIndexAddr 2 t132 t133 else some undefV) fun t134 =>
  bindV (bif kyes t125 true then vLoad true 2 t134 σ else some undefV) fun t135 =>
  bindR (bif kyes t125 true then vCallv t127 [t131, t135] call σ else some (undefV, σ)) fun t136 σ =>
  bindV (bif kyes t125 true then abin .lss t136 (I 0) else some undefV) fun t137 =>
  bindV (bif kyes t125 true then aun .not t137 else some undefV) fun t138 =>
  bindV (vPick t125 t138 ff) fun t139 =>
  ifV t139 (
  bindV (abin .sub t13 (I 1)) fun t141 =>
  r4 t0 t1 t4 t12 t141 σ) (
  slices_partitionCmpFunc_window_placeJ3 call f r2 t0 t1 t4 t12 t13 σ)) n
def slices_partitionCmpFunc_window_placeL5 (call : CallF H) (f : Nat) (r2 : Value → Value → Value → Value → Value → St H → R H) (n : Nat) : Value → Value → Value → Value → Value → St H → R H :=
  Nat.rec (fun _ _ _ _ _ _ => none) (fun _ r5 => fun t0 t1 t4 t12 t13 σ =>
  bindV (abin .leq t12 t13) fun t107 =>
  bindV (bif kyes t107 true then some t4 else some undefV) fun t109 =>
  bindV (bif kyes t107 true then some t0 else some undefV) fun t110 =>
  bindV (bif kyes t107 true then some t12 else some undefV) fun t111 =>
  bindV (bif kyes t107 true then vIndexAddr 2 t110 t111 else some undefV) fun t112 =>
  bindV (bif kyes t107 true then vLoad true 2 t112 σ else some undefV) fun t113 =>
  bindV (bif kyes t107 true then some t0 else some undefV) fun t114 =>
  bindV (bif kyes t107 true then some t1 else some undefV) fun t115 =>
  bindV (bif kyes t107 true then vIndexAddr 2 t114 t115 else some undefV) fun t116 =>
  bindV (bif kyes t107 true then vLoad true 2 t116 σ else some undefV) fun t117 =>
  bindR (bif kyes t107 true then vCallv t109 [t113, t117] call σ else some (undefV, σ)) fun t118 σ =>
  bindV (bif kyes t107 true then abin .lss t118 (I 0) else some undefV) fun t119 =>
  bindV (vPick t107 t119 ff) fun t120 =>
  ifV t120 (
  bindV (abin .add t12 (I 1)) fun t122 =>
  r5 t0 t1 t4 t122 t13 σ) (
  slices_partitionCmpFunc_window_placeL4 call f r2 f t0 t1 t4 t12 t13 σ)) n
def slices_partitionCmpFunc_window_placeL2 (call : CallF H) (f : Nat) (n : Nat) : Value → Value → Value → Value → Value → St H → R H :=
  Nat.rec (fun _ _ _ _ _ _ => none) (fun _ r2 => fun t0 t1 t4 t12 t13 σ =>
  slices_partitionCmpFunc_window_placeL5 call f r2 f t0 t1 t4 t12 t13 σ) n
def slices_partitionCmpFunc_window_placeJ6 (call : CallF H) (f : Nat) (t0 t1 t4 t12 t13 : Value) (σ : St H) : R H :=
  bindV (abin .sub t13 (I 1)) fun t104 =>
  slices_partitionCmpFunc_window_placeL2 call f f t0 t1 t4 t12 t104 σ
def slices_partitionCmpFunc_window_placeJ7 (call : CallF H) (f : Nat) (t0 t1 t4 t12 t13 : Value) (σ : St H) : R H :=
  bindV (abin .add t12 (I 1)) fun t102 =>
  slices_partitionCmpFunc_window_placeJ6 call f t0 t1 t4 t102 t13 σ
def slices_partitionCmpFunc_window_placeJ8 (call : CallF H) (f : Nat) (t0 t1 t4 t12 t13 : Value) (σ : St H) : R H :=
  bindV (vIndexAddr 2 t0 t13) fun t93 =>
  bindV (vLoad true 2 t93 σ) fun t94 =>
  bindV (vIndexAddr 2 t0 t12) fun t97 =>
  bindV (vLoad true 2 t97 σ) fun t98 =>
  bindV (vIndexAddr 2 t0 t12) fun t99 =>
  bindS (vStore 2 t99 t94 σ) fun σ =>
  bindV (vIndexAddr 2 t0 t13) fun t100 =>
  bindS (vStore 2 t100 t98 σ) fun σ =>
  slices_partitionCmpFunc_window_placeJ7 call f t0 t1 t4 t12 t13 σ
def slices_partitionCmpFunc_window_placeJ9 (call : CallF H) (f : Nat) (t0 t1 t4 t12 t13 : Value) (σ : St H) : R H :=
  bindV (abin .gtr t12 t13) fun t71 =>
  ifV t71 (
  bindV (vIndexAddr 2 t0 t1) fun t78 =>
  bindV (vLoad true 2 t78 σ) fun t79 =>
  bindV (vIndexAddr 2 t0 t13) fun t82 =>
  bindV (vLoad true 2 t82 σ) fun t83 =>
  bindV (vIndexAddr 2 t0 t13) fun t84 =>
  bindS (vStore 2 t84 t79 σ) fun σ =>
  bindV (vIndexAddr 2 t0 t1) fun t85 =>
  bindS (vStore 2 t85 t83 σ) fun σ =>
  some (.tuple ⟨[t13, tt]⟩, σ)) (
  slices_partitionCmpFunc_window_placeJ8 call f t0 t1 t4 t12 t13 σ)
def slices_partitionCmpFunc_window_placeL10 (call : CallF H) (f : Nat) (n : Nat) : Value → Value → Value → Value → Value → St H → R H :=
  Nat.rec (fun _ _ _ _ _ _ => none) (fun _ r10 => fun t0 t1 t4 t12 t13 σ =>
  bindV (abin .leq t12 t13) fun t52 =>
  bindV (bif kyes t52 true then some t4 else some undefV) fun t54 =>
  bindV (bif kyes t52 true then some t0 else some undefV) fun t55 =>
  bindV (bif kyes t52 true then some t13 else some undefV) fun t56 =>
  bindV (bif kyes t52 true then vIndexAddr 2 t55 t56 else some undefV) fun t57 =>
  bindV (bif kyes t52 true then vLoad true 2 t57 σ else some undefV) fun t58 =>
  bindV (bif kyes t52 true then some t0 else some undefV) fun t59 =>
  bindV (bif kyes t52 true then some t1 else some undefV) fun t60 =>
  bindV (bif kyes t52 true then vIndexAddr 2 t59 t60 else some undefV) fun t61 =>
  bindV (bif kyes t52 true then vLoad true 2 t61 σ else some undefV) fun t62 =>
  bindR (bif kyes t52 true then vCallv t54 [t58, t62] call σ else some (undefV, σ)) fun t63 σ =>
  bindV (bif kyes t52 true then abin .lss t63 (I 0) else some undefV) fun t64 =>
  bindV (bif kyes t52 true then aun .not t64 else some undefV) fun t65 =>
  bindV (vPick t52 t65 ff) fun t66 =>
  ifV t66 (
  bindV (abin .sub t13 (I 1)) fun t68 =>
  r10 t0 t1 t4 t12 t68 σ) (
  slices_partitionCmpFunc_window_placeJ9 call f t0 t1 t4 t12 t13 σ)) n
def slices_partitionCmpFunc_window_placeL11 (call : CallF H) (f : Nat) (n : Nat) : Value → Value → Value → Value → Value → St H → R H :=
  Nat.rec (fun _ _ _ _ _ _ => none) (fun _ r11 => fun t0 t1 t4 t12 t13 σ =>
  bindV (abin .leq t12 t13) fun t34 =>
  bindV (bif kyes t34 true then some t4 else some undefV) fun t36 =>
  bindV (bif kyes t34 true then some t0 else some undefV) fun t37 =>
  bindV (bif kyes t34 true then some t12 else some undefV) fun t38 =>
  bindV (bif kyes t34 true then vIndexAddr 2 t37 t38 else some undefV) fun t39 =>
  bindV (bif kyes t34 true then vLoad true 2 t39 σ else some undefV) fun t40 =>
  bindV (bif kyes t34 true then some t0 else some undefV) fun t41 =>
  bindV (bif kyes t34 true then some t1 else some undefV) fun t42 =>
  bindV (bif kyes t34 true then vIndexAddr 2 t41 t42 else some undefV) fun t43 =>
  bindV (bif kyes t34 true then vLoad true 2 t43 σ else some undefV) fun t44 =>
  bindR (bif kyes t34 true then vCallv t36 [t40, t44] call σ else some (undefV, σ)) fun t45 σ =>
  bindV (bif kyes t34 true then abin .lss t45 (I 0) else some undefV) fun t46 =>
  bindV (vPick t34 t46 ff) fun t47 =>
  ifV t47 (
  bindV (abin .add t12 (I 1)) fun t49 =>
  r11 t0 t1 t4 t49 t13 σ) (
  slices_partitionCmpFunc_window_placeL10 call f f t0 t1 t4 t12 t13 σ)) n
def slices_partitionCmpFunc_window_placeJ12 (call : CallF H) (f : Nat) (t0 t1 t2 t4 : Value) (σ : St H) : R H :=
  bindV (abin .add t1 (I 1)) fun t29 =>
  bindV (abin .sub t2 (I 1)) fun t31 =>
  slices_partitionCmpFunc_window_placeL11 call f f t0 t1 t4 t29 t31 σ
def slices_partitionCmpFunc_window_placeJ13 (call : CallF H) (f : Nat) (t0 t1 t2 t3 t4 : Value) (σ : St H) : R H :=
  bindV (vIndexAddr 2 t0 t3) fun t20 =>
  bindV (vLoad true 2 t20 σ) fun t21 =>
  bindV (vIndexAddr 2 t0 t1) fun t24 =>
  bindV (vLoad true 2 t24 σ) fun t25 =>
  bindV (vIndexAddr 2 t0 t1) fun t26 =>
  bindS (vStore 2 t26 t21 σ) fun σ =>
  bindV (vIndexAddr 2 t0 t3) fun t27 =>
  bindS (vStore 2 t27 t25 σ) fun σ =>
  slices_partitionCmpFunc_window_placeJ12 call f t0 t1 t2 t4 σ
def slices_partitionCmpFunc_window_placeJ14 (call : CallF H) (f : Nat) (t0 t1 t2 t3 t4 : Value) (σ : St H) : R H :=
  slices_partitionCmpFunc_window_placeJ13 call f t0 t1 t2 t3 t4 σ
def slices_partitionCmpFunc_window_place (call : CallF H) (f : Nat) (a0 a1 a2 a3 a4 : Value) (σ : St H) : R H := slices_partitionCmpFunc_window_placeJ14 call f a0 a1 a2 a3 a4 σ
theorem slices_partitionCmpFunc_window_placeEq (call : CallF H) (f : Nat) (a0 a1 a2 a3 a4 : Value) (σ : St H) : kbody call f (codeOf P n_slices_partitionCmpFunc_window_place) [a0, a1, a2, a3, a4] σ = slices_partitionCmpFunc_window_place call f a0 a1 a2 a3 a4 σ :=
  kbody_of (rs := slices_partitionCmpFunc_window_placeR) (by kernel_rfl) (by kernel_rfl) (by kernel_rfl) (seq_eq (by kernel_rfl) (seq_eq (by kernel_rfl) (seq_eq (by kernel_rfl) (seq_eq (by kernel_rfl) (seq_eq (by kernel_rfl) (seq_eq (by kernel_rfl) (seq_eq (by kernel_rfl) (seq_eq (by kernel_rfl) (seq_eq (by kernel_rfl) (seq_eq (by kernel_rfl) (leaf (B := fun e σ => slices_partitionCmpFunc_window_placeJ1 call f (e 0) (e 1) (e 13) σ) (by kernel_rfl))
  (block_eq (by kernel_rfl) (loop_eq (fun n e σ => slices_partitionCmpFunc_window_placeL2 call f n (e 0) (e 1) (e 4) (e 12) (e 13) σ) (by kernel_rfl) (by kernel_rfl) (fun n2 => (tr (block_eq (by kernel_rfl) (seq_eq (by kernel_rfl) (seq_eq (by kernel_rfl) (leaf (B := fun e σ => slices_partitionCmpFunc_window_placeJ3 call f (slices_partitionCmpFunc_window_placeL2 call f n2) (e 0) (e 1) (e 4) (e 12) (e 13) σ) (by kernel_rfl))
  (block_eq (by kernel_rfl) (loop_eq (fun n e σ => slices_partitionCmpFunc_window_placeL4 call f (slices_partitionCmpFunc_window_placeL2 call f n2) n (e 0) (e 1) (e 4) (e 12) (e 13) σ) (by kernel_rfl) (by kernel_rfl) (fun n4 => (leaf (by kernel_rfl))))))
  (block_eq (by kernel_rfl) (loop_eq (fun n e σ => slices_partitionCmpFunc_window_placeL5 call f (slices_partitionCmpFunc_window_placeL2 call f n2) n (e 0) (e 1) (e 4) (e 12) (e 13) σ) (by kernel_rfl) (by kernel_rfl) (fun n5 => (leaf (by kernel_rfl))))))) (by kernel_rfl))))))
  (leaf (B := fun e σ => slices_partitionCmpFunc_window_placeJ6 call f (e 0) (e 1) (e 4) (e 12) (e 13) σ) (by kernel_rfl)))
  (leaf (B := fun e σ => slices_partitionCmpFunc_window_placeJ7 call f (e 0) (e 1) (e 4) (e 12) (e 13) σ) (by kernel_rfl)))
  (leaf (B := fun e σ => slices_partitionCmpFunc_window_placeJ8 call f (e 0) (e 1) (e 4) (e 12) (e 13) σ) (by kernel_rfl)))
  (leaf (B := fun e σ => slices_partitionCmpFunc_window_placeJ9 call f (e 0) (e 1) (e 4) (e 12) (e 13) σ) (by kernel_rfl)))
  (block_eq (by kernel_rfl) (loop_eq (fun n e σ => slices_partitionCmpFunc_window_placeL10 call f n (e 0) (e 1) (e 4) (e 12) (e 13) σ) (by kernel_rfl) (by kernel_rfl) (fun n10 => (leaf (by kernel_rfl))))))
  (block_eq (by kernel_rfl) (loop_eq (fun n e σ => slices_partitionCmpFunc_window_placeL11 call f n (e 0) (e 1) (e 4) (e 12) (e 13) σ) (by kernel_rfl) (by kernel_rfl) (fun n11 => (leaf (by kernel_rfl))))))
  (leaf (B := fun e σ => slices_partitionCmpFunc_window_placeJ12 call f (e 0) (e 1) (e 2) (e 4) σ) (by kernel_rfl)))
  (leaf (B := fun e σ => slices_partitionCmpFunc_window_placeJ13 call f (e 0) (e 1) (e 2) (e 3) (e 4) σ) (by kernel_rfl)))
  (leaf (B := fun e σ => slices_partitionCmpFunc_window_placeJ14 call f (e 0) (e 1) (e 2) (e 3) (e 4) σ) (by kernel_rfl))) (by kernel_rfl)

abbrev slices_swapRangeCmpFunc_api_MailR : List ARes := []
def slices_swapRangeCmpFunc_api_MailL1 (call : CallF H) (f : Nat) (n : Nat) : Value → Value → Value → Value → Value → St H → R H :=
  Nat.rec (fun _ _ _ _ _ _ => none) (fun _ r1 => fun t0 t1 t2 t3 t10 σ =>
  bindV (abin .lss t10 t3) fun t13 =>
  ifV t13 (
  bindV (abin .add t1 t10) fun t19 =>
  bindV (abin .add t2 t10) fun t23 =>
  bindV (abin .add t2 t10) fun t27 =>
  bindV (vIndexAddr 5 t0 t27) fun t28 =>
  bindV (vLoad true 5 t28 σ) fun t29 =>
  bindV (abin .add t1 t10) fun t33 =>
  bindV (vIndexAddr 5 t0 t33) fun t34 =>
  bindV (vLoad true 5 t34 σ) fun t35 =>
  bindV (vIndexAddr 5 t0 t19) fun t36 =>
  bindS (vStore 5 t36 t29 σ) fun σ =>
  bindV (vIndexAddr 5 t0 t23) fun t37 =>
  bindS (vStore 5 t37 t35 σ) fun σ =>
  bindV (abin .add t10 (I 1)) fun t15 =>
  r1 t0 t1 t2 t3 t15 σ) (
  some (.tuple ⟨[]⟩, σ))) n
def slices_swapRangeCmpFunc_api_MailJ2 (call : CallF H) (f : Nat) (t0 t1 t2 t3 : Value) (σ : St H) : R H :=
  slices_swapRangeCmpFunc_api_MailL1 call f f t0 t1 t2 t3 (I 0) σ
def slices_swapRangeCmpFunc_api_Mail (call : CallF H) (f : Nat) (a0 a1 a2 a3 a4 : Value) (σ : St H) : R H := slices_swapRangeCmpFunc_api_MailJ2 call f a0 a1 a2 a3 σ
theorem slices_swapRangeCmpFunc_api_MailEq (call : CallF H) (f : Nat) (a0 a1 a2 a3 a4 : Value) (σ : St H) : kbody call f (codeOf P n_slices_swapRangeCmpFunc_api_Mail) [a0, a1, a2, a3, a4] σ = slices_swapRangeCmpFunc_api_Mail call f a0 a1 a2 a3 a4 σ :=
  kbody_of (rs := slices_swapRangeCmpFunc_api_MailR) (by kernel_rfl) (by kernel_rfl) (by kernel_rfl) (seq_eq (by kernel_rfl) (block_eq (by kernel_rfl) (loop_eq (fun n e σ => slices_swapRangeCmpFunc_api_MailL1 call f n (e 0) (e 1) (e 2) (e 3) (e 10) σ) (by kernel_rfl) (by kernel_rfl) (fun n1 => (leaf (by kernel_rfl)))))
  (leaf (B := fun e σ => slices_swapRangeCmpFunc_api_MailJ2 call f (e 0) (e 1) (e 2) (e 3) σ) (by kernel_rfl))) (by kernel_rfl)

def slices_order2Ordered_int (call : CallF H) (f : Nat) (a0 a1 a2 a3 : Value) (σ : St H) : R H :=
  bindV (vIndexAddr 1 a0 a2) fun t12 =>
  bindV (vLoad false 1 t12 σ) fun t13 =>
  bindV (vIndexAddr 1 a0 a1) fun t16 =>
  bindV (vLoad false 1 t16 σ) fun t17 =>
  bindR (call n_cmp_Less_int [t13, t17] σ) fun t18 σ =>
  ifV t18 (
  bindV (vNil a3) fun t20 =>
  bindV (vLoad false 1 t20 σ) fun t21 =>
  bindV (abin .add t21 (I 1)) fun t22 =>
  bindV (vNil a3) fun t23 =>
  bindS (vStore 1 t23 t22 σ) fun σ =>
  some (.tuple ⟨[a2, a1]⟩, σ)) (
  some (.tuple ⟨[a1, a2]⟩, σ))
theorem slices_order2Ordered_intEq (call : CallF H) (f : Nat) (a0 a1 a2 a3 : Value) (σ : St H) : kbody call f (codeOf P n_slices_order2Ordered_int) [a0, a1, a2, a3] σ = slices_order2Ordered_int call f a0 a1 a2 a3 σ := by kernel_rfl

def law12x_Begun (call : CallF H) (f : Nat) (σ : St H) : R H :=
  bindR (call n_law12x_begun [] σ) fun t1 σ =>
  some (t1, σ)
theorem law12x_BegunEq (call : CallF H) (f : Nat) (σ : St H) : kbody call f (codeOf P n_law12x_Begun) [] σ = law12x_Begun call f σ := by kernel_rfl

def plan_May (call : CallF H) (f : Nat) (a0 a1 a2 : Value) (σ : St H) : R H :=
  bindR (vBox a0 σ) fun t3 σ =>
  bindR (vBox a1 σ) fun t4 σ =>
  bindR (vBox a2 σ) fun t5 σ =>
  bindV (vLoad true 5 t3 σ) fun t8 =>
  bindR (call n_rule_Config [t8] σ) fun t9 σ =>
  bindV (aun .not t9) fun t10 =>
  bindV (bif kyes t10 false then vLoad true 5 t3 σ else some undefV) fun t12 =>
  bindV (bif kyes t10 false then vLoad true 4 t4 σ else some undefV) fun t13 =>
  bindR (bif kyes t10 false then call n_rule_Task [t12, t13] σ else some (undefV, σ)) fun t14 σ =>
  bindV (bif kyes t10 false then aun .not t14 else some undefV) fun t15 =>
  bindV (vPick t10 tt t15) fun t16 =>
  bindV (bif kyes t16 false then vLoad true 5 t3 σ else some undefV) fun t18 =>
  bindV (bif kyes t16 false then vLoad true 2 t5 σ else some undefV) fun t19 =>
  bindR (bif kyes t16 false then call n_plan_apart [t18, t19] σ else some (undefV, σ)) fun t20 σ =>
  bindV (bif kyes t16 false then aun .not t20 else some undefV) fun t21 =>
  bindV (vPick t16 tt t21) fun t22 =>
  ifV t22 (
  some (ff, σ)) (
  bindV (vFieldAddr 1 t5) fun t23 =>
  bindV (vLoad false 1 t23 σ) fun t24 =>
  bindV (vLen .slice t24 σ) fun t25 =>
  bindV (vFieldAddr 0 t5) fun t26 =>
  bindV (vLoad false 1 t26 σ) fun t27 =>
  bindV (abin .eql t27 (I 1)) fun t29 =>
  ifV t29 (
  bindV (abin .eql t25 (I 1)) fun t31 =>
  bindV (bif kyes t31 true then vFieldAddr 1 t5 else some undefV) fun t33 =>
  bindV (bif kyes t31 true then vLoad false 1 t33 σ else some undefV) fun t34 =>
  bindV (bif kyes t31 true then vIndexAddr 4 t34 (I 0) else some undefV) fun t35 =>
  bindV (bif kyes t31 true then vFieldAddr 1 t35 else some undefV) fun t36 =>
  bindV (bif kyes t31 true then vLoad false 1 t36 σ else some undefV) fun t37 =>
  bindV (bif kyes t31 true then abin .eql t37 (I 0) else some undefV) fun t38 =>
  bindV (vPick t31 t38 ff) fun t39 =>
  bindV (bif kyes t39 true then vFieldAddr 1 t5 else some undefV) fun t41 =>
  bindV (bif kyes t39 true then vLoad false 1 t41 σ else some undefV) fun t42 =>
  bindV (bif kyes t39 true then vIndexAddr 4 t42 (I 0) else some undefV) fun t43 =>
  bindV (bif kyes t39 true then vFieldAddr 2 t43 else some undefV) fun t44 =>
  bindV (bif kyes t39 true then vLoad false 1 t44 σ else some undefV) fun t45 =>
  bindV (bif kyes t39 true then vFieldAddr 1 t4 else some undefV) fun t46 =>
  bindV (bif kyes t39 true then vLoad false 1 t46 σ else some undefV) fun t47 =>
  bindV (bif kyes t39 true then abin .eql t45 t47 else some undefV) fun t48 =>
  bindV (vPick t39 t48 ff) fun t49 =>
  bindV (bif kyes t49 true then vFieldAddr 1 t5 else some undefV) fun t51 =>
  bindV (bif kyes t49 true then vLoad false 1 t51 σ else some undefV) fun t52 =>
  bindV (bif kyes t49 true then vIndexAddr 4 t52 (I 0) else some undefV) fun t53 =>
  bindV (bif kyes t49 true then vFieldAddr 3 t53 else some undefV) fun t54 =>
  bindV (bif kyes t49 true then vLoad false 1 t54 σ else some undefV) fun t55 =>
  bindV (bif kyes t49 true then vFieldAddr 0 t4 else some undefV) fun t56 =>
  bindV (bif kyes t49 true then vLoad false 1 t56 σ else some undefV) fun t57 =>
  bindV (bif kyes t49 true then abin .eql t55 t57 else some undefV) fun t58 =>
  bindV (vPick t49 t58 ff) fun t59 =>
  some (t59, σ)) (
  bindV (abin .eql t27 (I 2)) fun t61 =>
  ifV t61 (
  bindV (vLoad true 5 t3 σ) fun t62 =>
  bindV (vLoad true 4 t4 σ) fun t63 =>
  bindV (vLoad true 2 t5 σ) fun t64 =>
  bindR (call n_plan_split [t62, t63, t64] σ) fun t65 σ =>
  some (t65, σ)) (
  bindV (abin .eql t27 (I 3)) fun t67 =>
  ifV t67 (
  bindV (vLoad true 5 t3 σ) fun t68 =>
  bindV (vLoad true 4 t4 σ) fun t69 =>
  bindV (vLoad true 2 t5 σ) fun t70 =>
  bindR (call n_plan_split [t68, t69, t70] σ) fun t71 σ =>
  bindV (bif kyes t71 true then some t25 else some undefV) fun t73 =>
  bindV (bif kyes t71 true then abin .eql t73 (I 2) else some undefV) fun t74 =>
  bindV (vPick t71 t74 ff) fun t75 =>
  bindV (bif kyes t75 true then vFieldAddr 1 t5 else some undefV) fun t77 =>
  bindV (bif kyes t75 true then vLoad false 1 t77 σ else some undefV) fun t78 =>
  bindV (bif kyes t75 true then vIndexAddr 4 t78 (I 0) else some undefV) fun t79 =>
  bindV (bif kyes t75 true then vFieldAddr 2 t79 else some undefV) fun t80 =>
  bindV (bif kyes t75 true then vLoad false 1 t80 σ else some undefV) fun t81 =>
  bindV (bif kyes t75 true then vFieldAddr 1 t5 else some undefV) fun t82 =>
  bindV (bif kyes t75 true then vLoad false 1 t82 σ else some undefV) fun t83 =>
  bindV (bif kyes t75 true then vIndexAddr 4 t83 (I 0) else some undefV) fun t84 =>
  bindV (bif kyes t75 true then vFieldAddr 3 t84 else some undefV) fun t85 =>
  bindV (bif kyes t75 true then vLoad false 1 t85 σ else some undefV) fun t86 =>
  bindV (bif kyes t75 true then abin .eql t81 t86 else some undefV) fun t87 =>
  bindV (vPick t75 t87 ff) fun t88 =>
  some (t88, σ)) (
  some (ff, σ)))))
theorem plan_MayEq (call : CallF H) (f : Nat) (a0 a1 a2 : Value) (σ : St H) : kbody call f (codeOf P n_plan_May) [a0, a1, a2] σ = plan_May call f a0 a1 a2 σ := by kernel_rfl

abbrev plan_BudgetR : List ARes := [.tmp 2]
def plan_BudgetJ1 (call : CallF H) (f : Nat) (t3 : Value) (σ : St H) : R H :=
  some (t3, σ)
def plan_BudgetL2 (call : CallF H) (f : Nat) (n : Nat) : Value → Value → Value → Value → St H → R H :=
  Nat.rec (fun _ _ _ _ _ => none) (fun _ r2 => fun t3 t7 t8 t9 σ =>
  bindV (abin .lss t9 t8) fun t10 =>
  ifV t10 (
  bindV (vIndexAddr 4 t7 t9) fun t11 =>
  bindV (vLoad true 4 t11 σ) fun t12 =>
  bindR (vBox (.agg ⟨(rep [(I 0)] 4)⟩) σ) fun t5 σ =>
  bindS (vStore 4 t5 t12 σ) fun σ =>
  bindV (vFieldAddr 3 t5) fun t14 =>
  bindV (vLoad false 1 t14 σ) fun t15 =>
  bindV (abin .add t3 t15) fun t16 =>
  bindV (abin .add t9 (I 1)) fun t17 =>
  r2 t16 t7 t8 t17 σ) (
  plan_BudgetJ1 call f t3 σ)) n
def plan_BudgetJ3 (call : CallF H) (f : Nat) (t1 t3 : Value) (σ : St H) : R H :=
  bindV (vFieldAddr 1 t1) fun t6 =>
  bindV (vLoad false 1 t6 σ) fun t7 =>
  bindV (vLen .slice t7 σ) fun t8 =>
  plan_BudgetL2 call f f t3 t7 t8 (I 0) σ
def plan_BudgetJ4 (call : CallF H) (f : Nat) (t1 : Value) (σ : St H) : R H :=
  plan_BudgetJ3 call f t1 (I 0) σ
def plan_BudgetJ5 (call : CallF H) (f : Nat) (t0 : Value) (σ : St H) : R H :=
  bindR (vBox t0 σ) fun t1 σ =>
  plan_BudgetJ4 call f t1 σ
def plan_Budget (call : CallF H) (f : Nat) (a0 : Value) (σ : St H) : R H := plan_BudgetJ5 call f a0 σ
theorem plan_BudgetEq (call : CallF H) (f : Nat) (a0 : Value) (σ : St H) : kbody call f (codeOf P n_plan_Budget) [a0] σ = plan_Budget call f a0 σ :=
  kbody_of (rs := plan_BudgetR) (by kernel_rfl) (by kernel_rfl) (by kernel_rfl) (seq_eq (by kernel_rfl) (seq_eq (by kernel_rfl) (seq_eq (by kernel_rfl) (leaf (B := fun e σ => plan_BudgetJ1 call f (e 3) σ) (by kernel_rfl))
  (seq_eq (by kernel_rfl) (block_eq (by kernel_rfl) (loop_eq (fun n e σ => plan_BudgetL2 call f n (e 3) (e 7) (e 8) (e 9) σ) (by kernel_rfl) (by kernel_rfl) (fun n2 => (leaf (by kernel_rfl)))))
  (leaf (B := fun e σ => plan_BudgetJ3 call f (e 1) (e 3) σ) (by kernel_rfl))))
  (leaf (B := fun e σ => plan_BudgetJ4 call f (e 1) σ) (by kernel_rfl)))
  (leaf (B := fun e σ => plan_BudgetJ5 call f (e 0) σ) (by kernel_rfl))) (by kernel_rfl)

def plan_Eq (call : CallF H) (f : Nat) (a0 a1 : Value) (σ : St H) : R H :=
  bindR (vBox a0 σ) fun t2 σ =>
  bindR (vBox a1 σ) fun t3 σ =>
  bindV (vFieldAddr 0 t2) fun t5 =>
  bindV (vLoad false 1 t5 σ) fun t6 =>
  bindV (vFieldAddr 0 t3) fun t7 =>
  bindV (vLoad false 1 t7 σ) fun t8 =>
  bindV (abin .eql t6 t8) fun t9 =>
  bindV (bif kyes t9 true then vFieldAddr 1 t2 else some undefV) fun t11 =>
  bindV (bif kyes t9 true then vLoad false 1 t11 σ else some undefV) fun t12 =>
  bindV (bif kyes t9 true then vFieldAddr 1 t3 else some undefV) fun t13 =>
  bindV (bif kyes t9 true then vLoad false 1 t13 σ else some undefV) fun t14 =>
  bindR (bif kyes t9 true then call n_slices_Equal__api_Piece_api_Piece [t12, t14] σ else some (undefV, σ)) fun t15 σ =>
  bindV (vPick t9 t15 ff) fun t16 =>
  some (t16, σ)
theorem plan_EqEq (call : CallF H) (f : Nat) (a0 a1 : Value) (σ : St H) : kbody call f (codeOf P n_plan_Eq) [a0, a1] σ = plan_Eq call f a0 a1 σ := by kernel_rfl

def heap_Heap_string_swap (call : CallF H) (f : Nat) (a0 a1 a2 : Value) (σ : St H) : R H :=
  bindV (vNil a0) fun t7 =>
  bindV (vFieldAddr 1 t7) fun t8 =>
  bindV (vLoad false 1 t8 σ) fun t9 =>
  bindV (vNil a0) fun t12 =>
  bindV (vFieldAddr 1 t12) fun t13 =>
  bindV (vLoad false 1 t13 σ) fun t14 =>
  bindV (vNil a0) fun t17 =>
  bindV (vFieldAddr 1 t17) fun t18 =>
  bindV (vLoad false 1 t18 σ) fun t19 =>
  bindV (vIndexAddr 4 t19 a2) fun t21 =>
  bindV (vLoad true 4 t21 σ) fun t22 =>
  bindV (vNil a0) fun t24 =>
  bindV (vFieldAddr 1 t24) fun t25 =>
  bindV (vLoad false 1 t25 σ) fun t26 =>
  bindV (vIndexAddr 4 t26 a1) fun t28 =>
  bindV (vLoad true 4 t28 σ) fun t29 =>
  bindV (vIndexAddr 4 t9 a1) fun t30 =>
  bindS (vStore 4 t30 t22 σ) fun σ =>
  bindV (vIndexAddr 4 t14 a2) fun t31 =>
  bindS (vStore 4 t31 t29 σ) fun σ =>
  bindV (vNil a0) fun t33 =>
  bindV (vFieldAddr 2 t33) fun t34 =>
  bindV (vLoad false 1 t34 σ) fun t35 =>
  bindV (vNil a0) fun t37 =>
  bindV (vFieldAddr 1 t37) fun t38 =>
  bindV (vLoad false 1 t38 σ) fun t39 =>
  bindV (vIndexAddr 4 t39 a1) fun t41 =>
  bindV (vFieldAddr 0 t41) fun t42 =>
  bindV (vLoad false 1 t42 σ) fun t43 =>
  bindV (vNil a0) fun t45 =>
  bindV (vFieldAddr 2 t45) fun t46 =>
  bindV (vLoad false 1 t46 σ) fun t47 =>
  bindV (vNil a0) fun t49 =>
  bindV (vFieldAddr 1 t49) fun t50 =>
  bindV (vLoad false 1 t50 σ) fun t51 =>
  bindV (vIndexAddr 4 t51 a2) fun t53 =>
  bindV (vFieldAddr 0 t53) fun t54 =>
  bindV (vLoad false 1 t54 σ) fun t55 =>
  bindR (vMapEntry false (I 0) t35 t43 σ) fun t58 σ =>
  bindV (vExtract 1 t58) fun t59 =>
  bindS (vEntryStore t35 t59 a1 σ) fun σ =>
  bindR (vMapEntry false (I 0) t47 t55 σ) fun t60 σ =>
  bindV (vExtract 1 t60) fun t61 =>
  bindS (vEntryStore t47 t61 a2 σ) fun σ =>
  some (.tuple ⟨[]⟩, σ)
theorem heap_Heap_string_swapEq (call : CallF H) (f : Nat) (a0 a1 a2 : Value) (σ : St H) : kbody call f (codeOf P n_heap_Heap_string_swap) [a0, a1, a2] σ = heap_Heap_string_swap call f a0 a1 a2 σ := by kernel_rfl

abbrev heap_Heap_string_sinkR : List ARes := []
def heap_Heap_string_sinkJ2 (call : CallF H) (f : Nat) (r1 : Value → Value → St H → R H) (t0 t1 t4 : Value) (σ : St H) : R H :=
  bindV (vNil t0) fun t27 =>
  bindV (vFieldAddr 1 t27) fun t28 =>
  bindV (vLoad false 1 t28 σ) fun t29 =>
  bindV (vLen .slice t29 σ) fun t30 =>
  bindV (abin .geq t4 t30) fun t31 =>
  bindV (bif kyes t31 false then some t0 else some undefV) fun t33 =>
  bindV (bif kyes t31 false then some t4 else some undefV) fun t34 =>
  bindV (bif kyes t31 false then some t1 else some undefV) fun t35 =>
  bindR (bif kyes t31 false then call n_heap_Heap_string_less [t33, t34, t35] σ else some (undefV, σ)) fun t36 σ =>
  bindV (bif kyes t31 false then aun .not t36 else some undefV) fun t37 =>
  bindV (vPick t31 tt t37) fun t38 =>
  ifV t38 (
  some (.tuple ⟨[]⟩, σ)) (
  bindR (call n_heap_Heap_string_swap [t0, t1, t4] σ) fun t42 σ =>
  r1 t0 t4 σ)
def heap_Heap_string_sinkL1 (call : CallF H) (f : Nat) (n : Nat) : Value → Value → St H → R H :=
  Nat.rec (fun _ _ _ => none) (fun _ r1 => fun t0 t1 σ =>
  bindV (abin .mul (I 2) t1) fun t6 =>
  bindV (abin .add t6 (I 1)) fun t7 =>
  bindV (abin .add t7 (I 1)) fun t9 =>
  bindV (vNil t0) fun t11 =>
  bindV (vFieldAddr 1 t11) fun t12 =>
  bindV (vLoad false 1 t12 σ) fun t13 =>
  bindV (vLen .slice t13 σ) fun t14 =>
  bindV (abin .lss t9 t14) fun t15 =>
  bindV (bif kyes t15 true then some t0 else some undefV) fun t17 =>
  bindV (bif kyes t15 true then some t7 else some undefV) fun t18 =>
  bindV (bif kyes t15 true then abin .add t18 (I 1) else some undefV) fun t19 =>
  bindV (bif kyes t15 true then some t7 else some undefV) fun t20 =>
  bindR (bif kyes t15 true then call n_heap_Heap_string_less [t17, t19, t20] σ else some (undefV, σ)) fun t21 σ =>
  bindV (vPick t15 t21 ff) fun t22 =>
  ifV t22 (
  bindV (abin .add t7 (I 1)) fun t24 =>
  heap_Heap_string_sinkJ2 call f r1 t0 t1 t24 σ) (
  heap_Heap_string_sinkJ2 call f r1 t0 t1 t7 σ)) n
def heap_Heap_string_sink (call : CallF H) (f : Nat) (a0 a1 : Value) (σ : St H) : R H := heap_Heap_string_sinkL1 call f f a0 a1 σ
theorem heap_Heap_string_sinkEq (call : CallF H) (f : Nat) (a0 a1 : Value) (σ : St H) : kbody call f (codeOf P n_heap_Heap_string_sink) [a0, a1] σ = heap_Heap_string_sink call f a0 a1 σ :=
  kbody_of (rs := heap_Heap_string_sinkR) (by kernel_rfl) (by kernel_rfl) (by kernel_rfl) (block_eq (by kernel_rfl) (loop_eq (fun n e σ => heap_Heap_string_sinkL1 call f n (e 0) (e 1) σ) (by kernel_rfl) (by kernel_rfl) (fun n1 => (leaf (by kernel_rfl))))) (by kernel_rfl)

def heap_Heap_string_less (call : CallF H) (f : Nat) (a0 a1 a2 : Value) (σ : St H) : R H :=
  bindV (vNil a0) fun t10 =>
  bindV (vFieldAddr 1 t10) fun t11 =>
  bindV (vLoad false 1 t11 σ) fun t12 =>
  bindV (vIndexAddr 4 t12 a1) fun t14 =>
  bindV (vLoad true 4 t14 σ) fun t15 =>
  bindV (vNil a0) fun t17 =>
  bindV (vFieldAddr 1 t17) fun t18 =>
  bindV (vLoad false 1 t18 σ) fun t19 =>
  bindV (vIndexAddr 4 t19 a2) fun t21 =>
  bindV (vLoad true 4 t21 σ) fun t22 =>
  bindR (vBox (.agg ⟨[(.string ⟨⟨[]⟩⟩), (I 0), (I 0), (I 0)]⟩) σ) fun t7 σ =>
  bindR (vBox (.agg ⟨[(.string ⟨⟨[]⟩⟩), (I 0), (I 0), (I 0)]⟩) σ) fun t8 σ =>
  bindS (vStore 4 t7 t15 σ) fun σ =>
  kif (kand (rck (vLoad true 4 t21 σ) t22) (kand (rck (vLoad false 1 t18 σ) t19) true)) (
  bindS (vStore 4 t8 t22 σ) fun σ =>
  bindV (vFieldAddr 1 t7) fun t24 =>
  bindV (vLoad false 1 t24 σ) fun t25 =>
  bindV (vFieldAddr 1 t8) fun t26 =>
  bindV (vLoad false 1 t26 σ) fun t27 =>
  bindV (abin .neq t25 t27) fun t28 =>
  ifV t28 (
  bindV (vFieldAddr 1 t7) fun t29 =>
  bindV (vLoad false 1 t29 σ) fun t30 =>
  bindV (vFieldAddr 1 t8) fun t31 =>
  bindV (vLoad false 1 t31 σ) fun t32 =>
  bindV (abin .lss t30 t32) fun t33 =>
  some (t33, σ)) (
  bindV (vFieldAddr 2 t7) fun t35 =>
  bindV (vLoad false 1 t35 σ) fun t36 =>
  bindV (vFieldAddr 2 t8) fun t37 =>
  bindV (vLoad false 1 t37 σ) fun t38 =>
  bindV (abin .neq t36 t38) fun t39 =>
  ifV t39 (
  bindV (vFieldAddr 2 t7) fun t40 =>
  bindV (vLoad false 1 t40 σ) fun t41 =>
  bindV (vFieldAddr 2 t8) fun t42 =>
  bindV (vLoad false 1 t42 σ) fun t43 =>
  bindV (abin .lss t41 t43) fun t44 =>
  some (t44, σ)) (
  bindV (vFieldAddr 3 t7) fun t45 =>
  bindV (vLoad false 1 t45 σ) fun t46 =>
  bindV (vFieldAddr 3 t8) fun t47 =>
  bindV (vLoad false 1 t47 σ) fun t48 =>
  bindV (abin .lss t46 t48) fun t49 =>
  some (t49, σ))))
theorem heap_Heap_string_lessEq (call : CallF H) (f : Nat) (a0 a1 a2 : Value) (σ : St H) : kbody call f (codeOf P n_heap_Heap_string_less) [a0, a1, a2] σ = heap_Heap_string_less call f a0 a1 a2 σ := by kernel_rfl

def ring_Ring_int_Len (call : CallF H) (f : Nat) (a0 : Value) (σ : St H) : R H :=
  bindV (vEq .nilp false a0 nilP) fun t4 =>
  ifV t4 (
  some ((I 0), σ)) (
  bindV (vNil a0) fun t6 =>
  bindV (vFieldAddr 2 t6) fun t7 =>
  bindV (vLoad false 1 t7 σ) fun t8 =>
  some (t8, σ))
theorem ring_Ring_int_LenEq (call : CallF H) (f : Nat) (a0 : Value) (σ : St H) : kbody call f (codeOf P n_ring_Ring_int_Len) [a0] σ = ring_Ring_int_Len call f a0 σ := by kernel_rfl

def tick_Add (call : CallF H) (f : Nat) (a0 a1 : Value) (σ : St H) : R H :=
  bindR (call n_tick_of [a0] σ) fun t7 σ =>
  bindR (call n_tick_of [a1] σ) fun t9 σ =>
  bindR (call n_tick_wide_plus [t7, t9] σ) fun t10 σ =>
  bindR (call n_tick_wide_narrow [t10] σ) fun t11 σ =>
  bindV (vExtract 0 t11) fun t12 =>
  bindV (vExtract 1 t11) fun t13 =>
  some (.tuple ⟨[t12, t13]⟩, σ)
theorem tick_AddEq (call : CallF H) (f : Nat) (a0 a1 : Value) (σ : St H) : kbody call f (codeOf P n_tick_Add) [a0, a1] σ = tick_Add call f a0 a1 σ := by kernel_rfl

def tick_Mul (call : CallF H) (f : Nat) (a0 a1 : Value) (σ : St H) : R H :=
  bindR (call n_tick_times [a0, a1] σ) fun t8 σ =>
  bindR (call n_tick_wide_narrow [t8] σ) fun t9 σ =>
  bindV (vExtract 0 t9) fun t10 =>
  bindV (vExtract 1 t9) fun t11 =>
  some (.tuple ⟨[t10, t11]⟩, σ)
theorem tick_MulEq (call : CallF H) (f : Nat) (a0 a1 : Value) (σ : St H) : kbody call f (codeOf P n_tick_Mul) [a0, a1] σ = tick_Mul call f a0 a1 σ := by kernel_rfl

abbrev tick_SumR : List ARes := [.tmp 2, .tmp 3]
def tick_SumJ1 (call : CallF H) (f : Nat) (t4 : Value) (σ : St H) : R H :=
  bindV (vLoad true 2 t4 σ) fun t18 =>
  bindR (call n_tick_wide_narrow [t18] σ) fun t19 σ =>
  bindV (vExtract 0 t19) fun t20 =>
  bindV (vExtract 1 t19) fun t21 =>
  some (.tuple ⟨[t20, t21]⟩, σ)
def tick_SumL2 (call : CallF H) (f : Nat) (n : Nat) : Value → Value → Value → Value → St H → R H :=
  Nat.rec (fun _ _ _ _ _ => none) (fun _ r2 => fun t4 t7 t8 t9 σ =>
  bindV (abin .lss t9 t8) fun t10 =>
  ifV t10 (
  bindV (vIndexAddr 1 t7 t9) fun t11 =>
  bindV (vLoad false 1 t11 σ) fun t12 =>
  bindV (vLoad true 2 t4 σ) fun t13 =>
  bindR (call n_tick_of [t12] σ) fun t15 σ =>
  kif (kand (rck (vLoad true 2 t4 σ) t13) true) (
  bindR (call n_tick_wide_plus [t13, t15] σ) fun t16 σ =>
  bindS (vStore 2 t4 t16 σ) fun σ =>
  bindV (abin .add t9 (I 1)) fun t17 =>
  r2 t4 t7 t8 t17 σ)) (
  tick_SumJ1 call f t4 σ)) n
def tick_SumJ3 (call : CallF H) (f : Nat) (t0 t4 : Value) (σ : St H) : R H :=
  bindV (vLen .slice t0 σ) fun t8 =>
  tick_SumL2 call f f t4 t0 t8 (I 0) σ
def tick_SumJ4 (call : CallF H) (f : Nat) (t0 : Value) (σ : St H) : R H :=
  bindR (vBox (.agg ⟨[(I 0), (.int .u64 0)]⟩) σ) fun t4 σ =>
  tick_SumJ3 call f t0 t4 σ
def tick_SumJ5 (call : CallF H) (f : Nat) (t0 : Value) (σ : St H) : R H :=
  tick_SumJ4 call f t0 σ
def tick_Sum (call : CallF H) (f : Nat) (a0 : Value) (σ : St H) : R H := tick_SumJ5 call f a0 σ
theorem tick_SumEq (call : CallF H) (f : Nat) (a0 : Value) (σ : St H) : kbody call f (codeOf P n_tick_Sum) [a0] σ = tick_Sum call f a0 σ :=
  kbody_of (rs := tick_SumR) (by kernel_rfl) (by kernel_rfl) (by kernel_rfl) (seq_eq (by kernel_rfl) (seq_eq (by kernel_rfl) (seq_eq (by kernel_rfl) (leaf (B := fun e σ => tick_SumJ1 call f (e 4) σ) (by kernel_rfl))
  (seq_eq (by kernel_rfl) (block_eq (by kernel_rfl) (loop_eq (fun n e σ => tick_SumL2 call f n (e 4) (e 7) (e 8) (e 9) σ) (by kernel_rfl) (by kernel_rfl) (fun n2 => (leaf (by kernel_rfl)))))
  (leaf (B := fun e σ => tick_SumJ3 call f (e 0) (e 4) σ) (by kernel_rfl))))
  (leaf (B := fun e σ => tick_SumJ4 call f (e 0) σ) (by kernel_rfl)))
  (leaf (B := fun e σ => tick_SumJ5 call f (e 0) σ) (by kernel_rfl))) (by kernel_rfl)

def tick_Less (call : CallF H) (f : Nat) (a0 a1 a2 a3 : Value) (σ : St H) : R H :=
  bindV (abin .gtr a1 (I 0)) fun t10 =>
  bindV (bif kyes t10 true then some a3 else some undefV) fun t12 =>
  bindV (bif kyes t10 true then abin .gtr t12 (I 0) else some undefV) fun t13 =>
  bindV (vPick t10 t13 ff) fun t14 =>
  bindV (bif kyes t14 true then some a0 else some undefV) fun t16 =>
  bindV (bif kyes t14 true then some a3 else some undefV) fun t17 =>
  bindR (bif kyes t14 true then call n_tick_times [t16, t17] σ else some (undefV, σ)) fun t18 σ =>
  bindV (bif kyes t14 true then some a2 else some undefV) fun t19 =>
  bindV (bif kyes t14 true then some a1 else some undefV) fun t20 =>
  bindR (bif kyes t14 true then call n_tick_times [t19, t20] σ else some (undefV, σ)) fun t21 σ =>
  bindR (bif kyes t14 true then call n_tick_wide_less [t18, t21] σ else some (undefV, σ)) fun t22 σ =>
  bindV (vPick t14 t22 ff) fun t23 =>
  some (t23, σ)
theorem tick_LessEq (call : CallF H) (f : Nat) (a0 a1 a2 a3 : Value) (σ : St H) : kbody call f (codeOf P n_tick_Less) [a0, a1, a2, a3] σ = tick_Less call f a0 a1 a2 a3 σ := by kernel_rfl

abbrev slices_rotateCmpFunc_window_placeR : List ARes := []
def slices_rotateCmpFunc_window_placeJ1 (call : CallF H) (f : Nat) (t0 t2 t4 t10 : Value) (σ : St H) : R H :=
  bindV (abin .sub t2 t10) fun t53 =>
  bindR (call n_slices_swapRangeCmpFunc_window_place [t0, t53, t2, t10, t4] σ) fun t57 σ =>
  some (.tuple ⟨[]⟩, σ)
def slices_rotateCmpFunc_window_placeL2 (call : CallF H) (f : Nat) (n : Nat) : Value → Value → Value → Value → Value → St H → R H :=
  Nat.rec (fun _ _ _ _ _ _ => none) (fun _ r2 => fun t0 t2 t4 t10 t11 σ =>
  bindV (abin .neq t10 t11) fun t20 =>
  ifV t20 (
  bindV (abin .gtr t10 t11) fun t23 =>
  ifV t23 (
  bindV (abin .sub t2 t10) fun t27 =>
  bindR (call n_slices_swapRangeCmpFunc_window_place [t0, t27, t2, t11, t4] σ) fun t31 σ =>
  bindV (abin .sub t10 t11) fun t34 =>
  r2 t0 t2 t4 t34 t11 σ) (
  bindV (abin .sub t2 t10) fun t38 =>
  bindV (abin .add t2 t11) fun t41 =>
  bindV (abin .sub t41 t10) fun t43 =>
  bindR (call n_slices_swapRangeCmpFunc_window_place [t0, t38, t43, t10, t4] σ) fun t46 σ =>
  bindV (abin .sub t11 t10) fun t49 =>
  r2 t0 t2 t4 t10 t49 σ)) (
  slices_rotateCmpFunc_window_placeJ1 call f t0 t2 t4 t10 σ)) n
def slices_rotateCmpFunc_window_placeJ3 (call : CallF H) (f : Nat) (t0 t2 t3 t4 t10 : Value) (σ : St H) : R H :=
  bindV (abin .sub t3 t2) fun t17 =>
  slices_rotateCmpFunc_window_placeL2 call f f t0 t2 t4 t10 t17 σ
def slices_rotateCmpFunc_window_placeJ4 (call : CallF H) (f : Nat) (t0 t1 t2 t3 t4 : Value) (σ : St H) : R H :=
  bindV (abin .sub t2 t1) fun t14 =>
  slices_rotateCmpFunc_window_placeJ3 call f t0 t2 t3 t4 t14 σ
def slices_rotateCmpFunc_window_place (call : CallF H) (f : Nat) (a0 a1 a2 a3 a4 : Value) (σ : St H) : R H := slices_rotateCmpFunc_window_placeJ4 call f a0 a1 a2 a3 a4 σ
theorem slices_rotateCmpFunc_window_placeEq (call : CallF H) (f : Nat) (a0 a1 a2 a3 a4 : Value) (σ : St H) : kbody call f (codeOf P n_slices_rotateCmpFunc_window_place) [a0, a1, a2, a3, a4] σ = slices_rotateCmpFunc_window_place call f a0 a1 a2 a3 a4 σ :=
  kbody_of (rs := slices_rotateCmpFunc_window_placeR) (by kernel_rfl) (by kernel_rfl) (by kernel_rfl) (seq_eq (by kernel_rfl) (seq_eq (by kernel_rfl) (seq_eq (by kernel_rfl) (leaf (B := fun e σ => slices_rotateCmpFunc_window_placeJ1 call f (e 0) (e 2) (e 4) (e 10) σ) (by kernel_rfl))
  (block_eq (by kernel_rfl) (loop_eq (fun n e σ => slices_rotateCmpFunc_window_placeL2 call f n (e 0) (e 2) (e 4) (e 10) (e 11) σ) (by kernel_rfl) (by kernel_rfl) (fun n2 => (leaf (by kernel_rfl))))))
  (leaf (B := fun e σ => slices_rotateCmpFunc_window_placeJ3 call f (e 0) (e 2) (e 3) (e 4) (e 10) σ) (by kernel_rfl)))
  (leaf (B := fun e σ => slices_rotateCmpFunc_window_placeJ4 call f (e 0) (e 1) (e 2) (e 3) (e 4) σ) (by kernel_rfl))) (by kernel_rfl)

abbrev slices_siftDownCmpFunc_window_placeR : List ARes := []
def slices_siftDownCmpFunc_window_placeJ2 (call : CallF H) (f : Nat) (r1 : Value → Value → Value → Value → Value → St H → R H) (t0 t2 t3 t4 t10 t11 : Value) (σ : St H) : R H :=
  bindV (abin .add t3 t10) fun t47 =>
  bindV (vIndexAddr 2 t0 t47) fun t48 =>
  bindV (vLoad true 2 t48 σ) fun t49 =>
  bindV (abin .add t3 t11) fun t53 =>
  bindV (vIndexAddr 2 t0 t53) fun t54 =>
  bindV (vLoad true 2 t54 σ) fun t55 =>
  bindR (vCallv t4 [t49, t55] call σ) fun t56 σ =>
  bindV (abin .lss t56 (I 0)) fun t57 =>
  bindV (aun .not t57) fun t58 =>
  ifV t58 (
  some (.tuple ⟨[]⟩, σ)) (
  bindV (abin .add t3 t10) fun t62 =>
  bindV (abin .add t3 t11) fun t66 =>
  bindV (abin .add t3 t11) fun t70 =>
  bindV (vIndexAddr 2 t0 t70) fun t71 =>
  bindV (vLoad true 2 t71 σ) fun t72 =>
  bindV (abin .add t3 t10) fun t76 =>
  bindV (vIndexAddr 2 t0 t76) fun t77 =>
  bindV (vLoad true 2 t77 σ) fun t78 =>
  bindV (vIndexAddr 2 t0 t62) fun t79 =>
  bindS (vStore 2 t79 t72 σ) fun σ =>
  bindV (vIndexAddr 2 t0 t66) fun t80 =>
  bindS (vStore 2 t80 t78 σ) fun σ =>
  r1 t0 t2 t3 t4 t11 σ)
def slices_siftDownCmpFunc_window_placeL1 (call : CallF H) (f : Nat) (n : Nat) : Value → Value → Value → Value → Value → St H → R H :=
  Nat.rec (fun _ _ _ _ _ _ => none) (fun _ r1 => fun t0 t2 t3 t4 t10 σ =>
  bindV (abin .mul (I 2) t10) fun t14 =>
  bindV (abin .add t14 (I 1)) fun t15 =>
  bindV (abin .geq t15 t2) fun t18 =>
  ifV t18 (
  some (.tuple ⟨[]⟩, σ)) (
  bindV (abin .add t15 (I 1)) fun t20 =>
  bindV (abin .lss t20 t2) fun t22 =>
  bindV (bif kyes t22 true then some t4 else some undefV) fun t24 =>
  bindV (bif kyes t22 true then some t0 else some undefV) fun t25 =>
  bindV (bif kyes t22 true then some t3 else some undefV) fun t26 =>
  bindV (bif kyes t22 true then some t15 else some undefV) fun t27 =>
  bindV (bif kyes t22 true then abin .add t26 t27 else some undefV) fun t28 =>
  bindV (bif kyes t22 true then vIndexAddr 2 t25 t28 else some undefV) fun t29 =>
  bindV (bif kyes t22 true then vLoad true 2 t29 σ else some undefV) fun t30 =>
  bindV (bif kyes t22 true then some t0 else some undefV) fun t31 =>
  bindV (bif kyes t22 true then some t3 else some undefV) fun t32 =>
  bindV (bif kyes t22 true then some t15 else some undefV) fun t33 =>
  bindV (bif kyes t22 true then abin .add t32 t33 else some undefV) fun t34 =>
  bindV (bif kyes t22 true then abin .add t34 (I 1) else some undefV) fun t35 =>
  bindV (bif kyes t22 true then vIndexAddr 2 t31 t35 else some undefV) fun t36 =>
  bindV (bif kyes t22 true then vLoad true 2 t36 σ else some undefV) fun t37 =>
  bindR (bif kyes t22 true then vCallv t24 [t30, t37] call σ else some (undefV, σ)) fun t38 σ =>
  bindV (bif kyes t22 true then abin .lss t38 (I 0) else some undefV) fun t39 =>
  bindV (vPick t22 t39 ff) fun t40 =>
  ifV t40 (
  bindV (abin .add t15 (I 1)) fun t42 =>
  slices_siftDownCmpFunc_window_placeJ2 call f r1 t0 t2 t3 t4 t10 t42 σ) (
  slices_siftDownCmpFunc_window_placeJ2 call f r1 t0 t2 t3 t4 t10 t15 σ))) n
def slices_siftDownCmpFunc_window_placeJ3 (call : CallF H) (f : Nat) (t0 t1 t2 t3 t4 : Value) (σ : St H) : R H :=
  slices_siftDownCmpFunc_window_placeL1 call f f t0 t2 t3 t4 t1 σ
def slices_siftDownCmpFunc_window_place (call : CallF H) (f : Nat) (a0 a1 a2 a3 a4 : Value) (σ : St H) : R H := slices_siftDownCmpFunc_window_placeJ3 call f a0 a1 a2 a3 a4 σ
theorem slices_siftDownCmpFunc_window_placeEq (call : CallF H) (f : Nat) (a0 a1 a2 a3 a4 : Value) (σ : St H) : kbody call f (codeOf P n_slices_siftDownCmpFunc_window_place) [a0, a1, a2, a3, a4] σ = slices_siftDownCmpFunc_window_place call f a0 a1 a2 a3 a4 σ :=
  kbody_of (rs := slices_siftDownCmpFunc_window_placeR) (by kernel_rfl) (by kernel_rfl) (by kernel_rfl) (seq_eq (by kernel_rfl) (block_eq (by kernel_rfl) (loop_eq (fun n e σ => slices_siftDownCmpFunc_window_placeL1 call f n (e 0) (e 2) (e 3) (e 4) (e 10) σ) (by kernel_rfl) (by kernel_rfl) (fun n1 => (leaf (by kernel_rfl)))))
  (leaf (B := fun e σ => slices_siftDownCmpFunc_window_placeJ3 call f (e 0) (e 1) (e 2) (e 3) (e 4) σ) (by kernel_rfl))) (by kernel_rfl)

def slices_medianAdjacentCmpFunc_window_place (call : CallF H) (f : Nat) (a0 a1 a2 a3 : Value) (σ : St H) : R H :=
  bindV (abin .sub a1 (I 1)) fun t11 =>
  bindV (abin .add a1 (I 1)) fun t14 =>
  bindR (call n_slices_medianCmpFunc_window_place [a0, t11, a1, t14, a2, a3] σ) fun t17 σ =>
  some (t17, σ)
theorem slices_medianAdjacentCmpFunc_window_placeEq (call : CallF H) (f : Nat) (a0 a1 a2 a3 : Value) (σ : St H) : kbody call f (codeOf P n_slices_medianAdjacentCmpFunc_window_place) [a0, a1, a2, a3] σ = slices_medianAdjacentCmpFunc_window_place call f a0 a1 a2 a3 σ := by kernel_rfl

def slices_medianCmpFunc_window_place (call : CallF H) (f : Nat) (a0 a1 a2 a3 a4 a5 : Value) (σ : St H) : R H :=
  bindR (call n_slices_order2CmpFunc_window_place [a0, a1, a2, a4, a5] σ) fun t19 σ =>
  bindV (vExtract 0 t19) fun t20 =>
  bindV (vExtract 1 t19) fun t21 =>
  bindR (call n_slices_order2CmpFunc_window_place [a0, t21, a3, a4, a5] σ) fun t28 σ =>
  bindV (vExtract 0 t28) fun t29 =>
  bindV (vExtract 1 t28) fun t30 =>
  bindR (call n_slices_order2CmpFunc_window_place [a0, t20, t29, a4, a5] σ) fun t37 σ =>
  bindV (vExtract 0 t37) fun t38 =>
  bindV (vExtract 1 t37) fun t39 =>
  some (t39, σ)
theorem slices_medianCmpFunc_window_placeEq (call : CallF H) (f : Nat) (a0 a1 a2 a3 a4 a5 : Value) (σ : St H) : kbody call f (codeOf P n_slices_medianCmpFunc_window_place) [a0, a1, a2, a3, a4, a5] σ = slices_medianCmpFunc_window_place call f a0 a1 a2 a3 a4 a5 σ := by kernel_rfl

def law12x_begun (call : CallF H) (f : Nat) (σ : St H) : R H :=
  bindR (vBuildSlice 1 [(I 0)] [(0, 1, (I 0))] σ) fun t6 σ =>
  bindV (vBuild [(I 0), (I 0), (I 0), (I 0), (.slice none 0 0)] [(0, 1, (I 2)), (1, 1, (I 1)), (2, 1, (I 1)), (4, 1, t6)]) fun t7 =>
  bindR (vBox (.agg ⟨[(I 0), (I 0), (I 0), (I 0), (.slice none 0 0)]⟩) σ) fun t1 σ =>
  bindS (vStore 5 t1 t7 σ) fun σ =>
  bindV (vBuild [(I 0), (I 0), (I 0)] [(1, 1, (I 1)), (2, 1, (I 2))]) fun t8 =>
  bindR (vBuildSlice 1 [(I 0), (I 0), (I 0)] [(0, 3, t8)] σ) fun t9 σ =>
  bindV (vBuild [(I 0), (I 0), (I 0), (.slice none 0 0)] [(0, 1, (I 3)), (1, 1, (I 20)), (2, 1, (I 20)), (3, 1, t9)]) fun t10 =>
  bindR (vBox (.agg ⟨[(I 0), (I 0), (I 0), (.slice none 0 0)]⟩) σ) fun t2 σ =>
  bindS (vStore 4 t2 t10 σ) fun σ =>
  bindV (vBuild [(I 0), (I 0), (I 0)] [(1, 1, (I 1)), (2, 1, (I 4))]) fun t11 =>
  bindR (vBuildSlice 1 [(I 0), (I 0), (I 0)] [(0, 3, t11)] σ) fun t12 σ =>
  bindV (vBuild [(I 0), (I 0), (I 0), (.slice none 0 0)] [(0, 1, (I 3)), (1, 1, (I 20)), (2, 1, (I 30)), (3, 1, t12)]) fun t13 =>
  bindR (vBox (.agg ⟨[(I 0), (I 0), (I 0), (.slice none 0 0)]⟩) σ) fun t3 σ =>
  bindS (vStore 4 t3 t13 σ) fun σ =>
  bindV (vBuild (rep [(I 0)] 4) [(0, 1, (I 1)), (2, 1, (I 20)), (3, 1, (I 3))]) fun t14 =>
  bindR (vBuildSlice 1 (rep [(I 0)] 4) [(0, 4, t14)] σ) fun t15 σ =>
  bindV (vBuild [(I 0), (.slice none 0 0)] [(0, 1, (I 1)), (1, 1, t15)]) fun t16 =>
  bindR (vBox (.agg ⟨[(I 0), (.slice none 0 0)]⟩) σ) fun t4 σ =>
  bindS (vStore 2 t4 t16 σ) fun σ =>
  bindV (vLoad true 5 t1 σ) fun t17 =>
  bindV (vLoad true 4 t2 σ) fun t18 =>
  bindV (vLoad true 4 t3 σ) fun t19 =>
  bindR (vBuildSlice 2 [(I 0), (I 0), (I 0), (.slice none 0 0), (I 0), (I 0), (I 0), (.slice none 0 0)] [(0, 4, t18), (4, 4, t19)] σ) fun t20 σ =>
  bindV (vLoad true 2 t4 σ) fun t21 =>
  bindV (vLoad true 2 t4 σ) fun t22 =>
  bindR (vBuildSlice 2 [(I 0), (.slice none 0 0), (I 0), (.slice none 0 0)] [(0, 2, t21), (2, 2, t22)] σ) fun t23 σ =>
  bindR (call n_load_All [t17, t20, t23] σ) fun t24 σ =>
  bindR (call n_law9x_Begun [] σ) fun t25 σ =>
  bindV (bif kyes t25 true then vLoad true 5 t1 σ else some undefV) fun t27 =>
  bindV (bif kyes t25 true then vLoad true 4 t3 σ else some undefV) fun t28 =>
  bindR (bif kyes t25 true then call n_wait_Longest [t27, t28, (I 0)] σ else some (undefV, σ)) fun t29 σ =>
  bindV (bif kyes t25 true then abin .eql t29 (I 4) else some undefV) fun t30 =>
  bindV (vPick t25 t30 ff) fun t31 =>
  bindV (bif kyes t31 true then vLoad true 5 t1 σ else some undefV) fun t33 =>
  bindV (bif kyes t31 true then vLoad true 4 t2 σ else some undefV) fun t34 =>
  bindV (bif kyes t31 true then vLoad true 4 t3 σ else some undefV) fun t35 =>
  bindR (bif kyes t31 true then vBuildSlice 2 [(I 0), (I 0), (I 0), (.slice none 0 0), (I 0), (I 0), (I 0), (.slice none 0 0)] [(0, 4, t34), (4, 4, t35)] σ else some (undefV, σ)) fun t36 σ =>
  bindR (bif kyes t31 true then call n_wait_Section [t33, t36, (I 0), (I 0)] σ else some (undefV, σ)) fun t37 σ =>
  bindV (bif kyes t31 true then abin .eql t37 (I 8) else some undefV) fun t38 =>
  bindV (vPick t31 t38 ff) fun t39 =>
  bindV (bif kyes t39 true then vLoad true 5 t1 σ else some undefV) fun t41 =>
  bindV (bif kyes t39 true then vLoad true 4 t2 σ else some undefV) fun t42 =>
  bindV (bif kyes t39 true then vLoad true 4 t3 σ else some undefV) fun t43 =>
  bindR (bif kyes t39 true then vBuildSlice 2 [(I 0), (I 0), (I 0), (.slice none 0 0), (I 0), (I 0), (I 0), (.slice none 0 0)] [(0, 4, t42), (4, 4, t43)] σ else some (undefV, σ)) fun t44 σ =>
  bindR (bif kyes t39 true then call n_wait_Task [t41, t44, (I 1)] σ else some (undefV, σ)) fun t45 σ =>
  bindV (bif kyes t39 true then abin .eql t45 (I 8) else some undefV) fun t46 =>
  bindV (vPick t39 t46 ff) fun t47 =>
  bindV (bif kyes t47 true then some t24 else some undefV) fun t49 =>
  bindV (bif kyes t47 true then vLen .slice t49 σ else some undefV) fun t50 =>
  bindV (bif kyes t47 true then abin .eql t50 (I 2) else some undefV) fun t51 =>
  bindV (vPick t47 t51 ff) fun t52 =>
  bindV (bif kyes t52 true then some t24 else some undefV) fun t54 =>
  bindV (bif kyes t52 true then vIndexAddr 1 t54 (I 0) else some undefV) fun t55 =>
  bindV (bif kyes t52 true then vLoad false 1 t55 σ else some undefV) fun t56 =>
  bindV (bif kyes t52 true then vLen .slice t56 σ else some undefV) fun t57 =>
  bindV (bif kyes t52 true then abin .eql t57 (I 0) else some undefV) fun t58 =>
  bindV (vPick t52 t58 ff) fun t59 =>
  bindV (bif kyes t59 true then some t24 else some undefV) fun t61 =>
  bindV (bif kyes t59 true then vIndexAddr 1 t61 (I 1) else some undefV) fun t62 =>
  bindV (bif kyes t59 true then vLoad false 1 t62 σ else some undefV) fun t63 =>
  bindV (bif kyes t59 true then vLen .slice t63 σ else some undefV) fun t64 =>
  bindV (bif kyes t59 true then abin .eql t64 (I 2) else some undefV) fun t65 =>
  bindV (vPick t59 t65 ff) fun t66 =>
  bindV (bif kyes t66 true then some t24 else some undefV) fun t68 =>
  bindV (bif kyes t66 true then vIndexAddr 1 t68 (I 1) else some undefV) fun t69 =>
  bindV (bif kyes t66 true then vLoad false 1 t69 σ else some undefV) fun t70 =>
  bindV (bif kyes t66 true then vIndexAddr 3 t70 (I 0) else some undefV) fun t71 =>
  bindV (bif kyes t66 true then vFieldAddr 0 t71 else some undefV) fun t72 =>
  bindV (bif kyes t66 true then vLoad false 1 t72 σ else some undefV) fun t73 =>
  bindV (bif kyes t66 true then abin .eql t73 (I 11) else some undefV) fun t74 =>
  bindV (vPick t66 t74 ff) fun t75 =>
  bindV (bif kyes t75 true then some t24 else some undefV) fun t77 =>
  bindV (bif kyes t75 true then vIndexAddr 1 t77 (I 1) else some undefV) fun t78 =>
  bindV (bif kyes t75 true then vLoad false 1 t78 σ else some undefV) fun t79 =>
  bindR (bif kyes t75 true then call n_load_Share [t79] σ else some (undefV, σ)) fun t80 σ =>
  bindV (bif kyes t75 true then abin .eql t80 (I 9167) else some undefV) fun t81 =>
  bindV (vPick t75 t81 ff) fun t82 =>
  some (t82, σ)
theorem law12x_begunEq (call : CallF H) (f : Nat) (σ : St H) : kbody call f (codeOf P n_law12x_begun) [] σ = law12x_begun call f σ := by kernel_rfl

abbrev plan_apartR : List ARes := [.tmp 4]
def plan_apartJ1 (call : CallF H) (f : Nat) (σ : St H) : R H :=
  some (tt, σ)
def plan_apartL2 (call : CallF H) (f : Nat) (n : Nat) : Value → Value → Value → Value → Value → St H → R H :=
  Nat.rec (fun _ _ _ _ _ _ => none) (fun _ r2 => fun t2 t5 t10 t11 t12 σ =>
  bindV (abin .lss t12 t11) fun t13 =>
  ifV t13 (
  bindV (vIndexAddr 4 t10 t12) fun t14 =>
  bindV (vLoad true 4 t14 σ) fun t15 =>
  bindR (vBox (.agg ⟨(rep [(I 0)] 4)⟩) σ) fun t7 σ =>
  bindS (vStore 4 t7 t15 σ) fun σ =>
  bindV (vLoad true 5 t2 σ) fun t16 =>
  bindV (vLoad true 4 t7 σ) fun t17 =>
  bindR (call n_rule_Piece [t16, t17] σ) fun t18 σ =>
  bindV (aun .not t18) fun t19 =>
  bindV (bif kyes t19 false then some t5 else some undefV) fun t21 =>
  bindV (bif kyes t19 false then vFieldAddr 0 t7 else some undefV) fun t22 =>
  bindV (bif kyes t19 false then vLoad false 1 t22 σ else some undefV) fun t23 =>
  bindV (bif kyes t19 false then vLookup true ff false t21 t23 σ else some undefV) fun t24 =>
  bindV (vPick t19 tt t24) fun t25 =>
  ifV t25 (
  some (ff, σ)) (
  bindV (vFieldAddr 0 t7) fun t27 =>
  bindV (vLoad false 1 t27 σ) fun t28 =>
  bindS (vMapUpdate true t5 t28 tt σ) fun σ =>
  bindV (abin .add t12 (I 1)) fun t29 =>
  r2 t2 t5 t10 t11 t29 σ)) (
  plan_apartJ1 call f σ)) n
def plan_apartJ3 (call : CallF H) (f : Nat) (t2 t3 t5 : Value) (σ : St H) : R H :=
  bindV (vFieldAddr 1 t3) fun t9 =>
  bindV (vLoad false 1 t9 σ) fun t10 =>
  bindV (vLen .slice t10 σ) fun t11 =>
  plan_apartL2 call f f t2 t5 t10 t11 (I 0) σ
def plan_apartJ4 (call : CallF H) (f : Nat) (t2 t3 : Value) (σ : St H) : R H :=
  bindR (vMkMap σ) fun t8 σ =>
  plan_apartJ3 call f t2 t3 t8 σ
def plan_apartJ5 (call : CallF H) (f : Nat) (t0 t1 : Value) (σ : St H) : R H :=
  bindR (vBox t0 σ) fun t2 σ =>
  bindR (vBox t1 σ) fun t3 σ =>
  plan_apartJ4 call f t2 t3 σ
def plan_apart (call : CallF H) (f : Nat) (a0 a1 : Value) (σ : St H) : R H := plan_apartJ5 call f a0 a1 σ
theorem plan_apartEq (call : CallF H) (f : Nat) (a0 a1 : Value) (σ : St H) : kbody call f (codeOf P n_plan_apart) [a0, a1] σ = plan_apart call f a0 a1 σ :=
  kbody_of (rs := plan_apartR) (by kernel_rfl) (by kernel_rfl) (by kernel_rfl) (seq_eq (by kernel_rfl) (seq_eq (by kernel_rfl) (seq_eq (by kernel_rfl) (leaf (B := fun e σ => plan_apartJ1 call f σ) (by kernel_rfl))
  (seq_eq (by kernel_rfl) (block_eq (by kernel_rfl) (loop_eq (fun n e σ => plan_apartL2 call f n (e 2) (e 5) (e 10) (e 11) (e 12) σ) (by kernel_rfl) (by kernel_rfl) (fun n2 => (leaf (by kernel_rfl)))))
  (leaf (B := fun e σ => plan_apartJ3 call f (e 2) (e 3) (e 5) σ) (by kernel_rfl))))
  (leaf (B := fun e σ => plan_apartJ4 call f (e 2) (e 3) σ) (by kernel_rfl)))
  (leaf (B := fun e σ => plan_apartJ5 call f (e 0) (e 1) σ) (by kernel_rfl))) (by kernel_rfl)

abbrev plan_splitR : List ARes := [.tmp 6]
def plan_splitJ1 (call : CallF H) (f : Nat) (t3 t4 t5 t7 : Value) (σ : St H) : R H :=
  bindV (vFieldAddr 1 t5) fun t65 =>
  bindV (vLoad false 1 t65 σ) fun t66 =>
  bindV (abin .sub t7 (I 1)) fun t68 =>
  bindV (vIndexAddr 4 t66 t68) fun t69 =>
  bindV (vLoad true 4 t69 σ) fun t70 =>
  bindR (vBox (.agg ⟨(rep [(I 0)] 4)⟩) σ) fun t11 σ =>
  bindS (vStore 4 t11 t70 σ) fun σ =>
  bindV (vFieldAddr 1 t11) fun t71 =>
  bindV (vLoad false 1 t71 σ) fun t72 =>
  bindV (vFieldAddr 2 t11) fun t73 =>
  bindV (vLoad false 1 t73 σ) fun t74 =>
  bindV (abin .add t72 t74) fun t75 =>
  bindV (vFieldAddr 1 t4) fun t76 =>
  bindV (vLoad false 1 t76 σ) fun t77 =>
  bindV (abin .leq t75 t77) fun t78 =>
  bindV (bif kyes t78 true then vLoad true 2 t5 σ else some undefV) fun t80 =>
  bindV (bif kyes t78 true then vFieldAddr 0 t4 else some undefV) fun t82 =>
  bindV (bif kyes t78 true then vLoad false 1 t82 σ else some undefV) fun t83 =>
  bindV (bif kyes t78 true then some t7 else some undefV) fun t84 =>
  bindV (bif kyes t78 true then abin .sub t84 (I 1) else some undefV) fun t85 =>
  bindV (bif kyes t78 true then vFieldAddr 3 t3 else some undefV) fun t86 =>
  bindV (bif kyes t78 true then vLoad false 1 t86 σ else some undefV) fun t87 =>
  bindV (bif kyes t78 true then abin .mul t85 t87 else some undefV) fun t88 =>
  bindV (bif kyes t78 true then abin .add t83 t88 else some undefV) fun t89 =>
  bindR (bif kyes t78 true then call n_plan_Budget [t80] σ else some (undefV, σ)) fun t81 σ =>
  kif (kand (kimp (kyes t78 true) (rck (vLoad false 1 t86 σ) t87)) (kand (kimp (kyes t78 true) (rck (vLoad false 1 t82 σ) t83)) true)) (
  bindV (bif kyes t78 true then abin .eql t81 t89 else some undefV) fun t90 =>
  bindV (vPick t78 t90 ff) fun t91 =>
  some (t91, σ))
def plan_splitL2 (call : CallF H) (f : Nat) (n : Nat) : Value → Value → Value → Value → Value → St H → R H :=
  Nat.rec (fun _ _ _ _ _ _ => none) (fun _ r2 => fun t3 t4 t5 t7 t8 σ =>
  bindV (abin .lss t8 t7) fun t33 =>
  ifV t33 (
  bindV (vFieldAddr 1 t5) fun t36 =>
  bindV (vLoad false 1 t36 σ) fun t37 =>
  bindV (abin .sub t8 (I 1)) fun t39 =>
  bindV (vIndexAddr 4 t37 t39) fun t40 =>
  bindV (vLoad true 4 t40 σ) fun t41 =>
  bindV (vFieldAddr 1 t5) fun t42 =>
  bindV (vLoad false 1 t42 σ) fun t43 =>
  bindV (vIndexAddr 4 t43 t8) fun t45 =>
  bindV (vLoad true 4 t45 σ) fun t46 =>
  bindR (vBox (.agg ⟨(rep [(I 0)] 4)⟩) σ) fun t9 σ =>
  bindR (vBox (.agg ⟨(rep [(I 0)] 4)⟩) σ) fun t10 σ =>
  bindS (vStore 4 t9 t41 σ) fun σ =>
  kif (kand (rck (vLoad true 4 t45 σ) t46) (kand (rck (vLoad false 1 t42 σ) t43) true)) (
  bindS (vStore 4 t10 t46 σ) fun σ =>
  bindV (vFieldAddr 1 t10) fun t47 =>
  bindV (vLoad false 1 t47 σ) fun t48 =>
  bindV (vFieldAddr 1 t9) fun t49 =>
  bindV (vLoad false 1 t49 σ) fun t50 =>
  bindV (vFieldAddr 2 t9) fun t51 =>
  bindV (vLoad false 1 t51 σ) fun t52 =>
  bindV (abin .add t50 t52) fun t53 =>
  bindV (vFieldAddr 2 t3) fun t54 =>
  bindV (vLoad false 1 t54 σ) fun t55 =>
  bindV (abin .add t53 t55) fun t56 =>
  bindV (abin .lss t48 t56) fun t57 =>
  bindV (bif kyes t57 false then vFieldAddr 3 t10 else some undefV) fun t59 =>
  bindV (bif kyes t57 false then vLoad false 1 t59 σ else some undefV) fun t60 =>
  bindV (bif kyes t57 false then vFieldAddr 3 t3 else some undefV) fun t61 =>
  bindV (bif kyes t57 false then vLoad false 1 t61 σ else some undefV) fun t62 =>
  bindV (bif kyes t57 false then abin .leq t60 t62 else some undefV) fun t63 =>
  bindV (vPick t57 tt t63) fun t64 =>
  ifV t64 (
  some (ff, σ)) (
  bindV (abin .add t8 (I 1)) fun t35 =>
  r2 t3 t4 t5 t7 t35 σ))) (
  plan_splitJ1 call f t3 t4 t5 t7 σ)) n
def plan_splitJ3 (call : CallF H) (f : Nat) (t3 t4 t5 t7 : Value) (σ : St H) : R H :=
  plan_splitL2 call f f t3 t4 t5 t7 (I 1) σ
def plan_splitJ4 (call : CallF H) (f : Nat) (t3 t4 t5 t7 : Value) (σ : St H) : R H :=
  bindV (vFieldAddr 3 t4) fun t15 =>
  bindV (vLoad false 1 t15 σ) fun t16 =>
  bindV (vLen .slice t16 σ) fun t17 =>
  bindV (abin .gtr t17 (I 0)) fun t18 =>
  bindV (bif kyes t18 false then some t7 else some undefV) fun t20 =>
  bindV (bif kyes t18 false then abin .lss t20 (I 2) else some undefV) fun t21 =>
  bindV (vPick t18 tt t21) fun t22 =>
  bindV (bif kyes t22 false then vFieldAddr 1 t5 else some undefV) fun t24 =>
  bindV (bif kyes t22 false then vLoad false 1 t24 σ else some undefV) fun t25 =>
  bindV (bif kyes t22 false then vIndexAddr 4 t25 (I 0) else some undefV) fun t26 =>
  bindV (bif kyes t22 false then vFieldAddr 1 t26 else some undefV) fun t27 =>
  bindV (bif kyes t22 false then vLoad false 1 t27 σ else some undefV) fun t28 =>
  bindV (bif kyes t22 false then abin .neq t28 (I 0) else some undefV) fun t29 =>
  bindV (vPick t22 tt t29) fun t30 =>
  ifV t30 (
  some (ff, σ)) (
  plan_splitJ3 call f t3 t4 t5 t7 σ)
def plan_splitJ5 (call : CallF H) (f : Nat) (t3 t4 t5 : Value) (σ : St H) : R H :=
  bindV (vFieldAddr 1 t5) fun t12 =>
  bindV (vLoad false 1 t12 σ) fun t13 =>
  bindV (vLen .slice t13 σ) fun t14 =>
  plan_splitJ4 call f t3 t4 t5 t14 σ
def plan_splitJ6 (call : CallF H) (f : Nat) (t0 t1 t2 : Value) (σ : St H) : R H :=
  bindR (vBox t0 σ) fun t3 σ =>
  bindR (vBox t1 σ) fun t4 σ =>
  bindR (vBox t2 σ) fun t5 σ =>
  plan_splitJ5 call f t3 t4 t5 σ
def plan_split (call : CallF H) (f : Nat) (a0 a1 a2 : Value) (σ : St H) : R H := plan_splitJ6 call f a0 a1 a2 σ
theorem plan_splitEq (call : CallF H) (f : Nat) (a0 a1 a2 : Value) (σ : St H) : kbody call f (codeOf P n_plan_split) [a0, a1, a2] σ = plan_split call f a0 a1 a2 σ :=
  kbody_of (rs := plan_splitR) (by kernel_rfl) (by kernel_rfl) (by kernel_rfl) (seq_eq (by kernel_rfl) (seq_eq (by kernel_rfl) (seq_eq (by kernel_rfl) (seq_eq (by kernel_rfl) (leaf (B := fun e σ => plan_splitJ1 call f (e 3) (e 4) (e 5) (e 7) σ) (by kernel_rfl))
  (seq_eq (by kernel_rfl) (block_eq (by kernel_rfl) (loop_eq (fun n e σ => plan_splitL2 call f n (e 3) (e 4) (e 5) (e 7) (e 8) σ) (by kernel_rfl) (by kernel_rfl) (fun n2 => (leaf (by kernel_rfl)))))
  (leaf (B := fun e σ => plan_splitJ3 call f (e 3) (e 4) (e 5) (e 7) σ) (by kernel_rfl))))
  (leaf (B := fun e σ => plan_splitJ4 call f (e 3) (e 4) (e 5) (e 7) σ) (by kernel_rfl)))
  (leaf (B := fun e σ => plan_splitJ5 call f (e 3) (e 4) (e 5) σ) (by kernel_rfl)))
  (leaf (B := fun e σ => plan_splitJ6 call f (e 0) (e 1) (e 2) σ) (by kernel_rfl))) (by kernel_rfl)

abbrev slices_Equal__api_Piece_api_PieceR : List ARes := [.tmp 4]
def slices_Equal__api_Piece_api_PieceJ1 (call : CallF H) (f : Nat) (σ : St H) : R H :=
  some (tt, σ)
def slices_Equal__api_Piece_api_PieceL2 (call : CallF H) (f : Nat) (n : Nat) : Value → Value → Value → Value → St H → R H :=
  Nat.rec (fun _ _ _ _ _ => none) (fun _ r2 => fun t0 t1 t12 t13 σ =>
  bindV (abin .lss t13 t12) fun t14 =>
  ifV t14 (
  bindV (vIndexAddr 4 t0 t13) fun t18 =>
  bindV (vLoad true 4 t18 σ) fun t19 =>
  bindV (vIndexAddr 4 t1 t13) fun t22 =>
  bindV (vLoad true 4 t22 σ) fun t23 =>
  bindV (vEq (.agg [true, true, true, true]) true t19 t23) fun t24 =>
  ifV t24 (
  some (ff, σ)) (
  bindV (abin .add t13 (I 1)) fun t25 =>
  r2 t0 t1 t12 t25 σ)) (
  slices_Equal__api_Piece_api_PieceJ1 call f σ)) n
def slices_Equal__api_Piece_api_PieceJ3 (call : CallF H) (f : Nat) (t0 t1 : Value) (σ : St H) : R H :=
  bindV (vLen .slice t0 σ) fun t12 =>
  slices_Equal__api_Piece_api_PieceL2 call f f t0 t1 t12 (I 0) σ
def slices_Equal__api_Piece_api_PieceJ4 (call : CallF H) (f : Nat) (t0 t1 : Value) (σ : St H) : R H :=
  bindV (vLen .slice t0 σ) fun t7 =>
  bindV (vLen .slice t1 σ) fun t9 =>
  bindV (abin .neq t7 t9) fun t10 =>
  ifV t10 (
  some (ff, σ)) (
  slices_Equal__api_Piece_api_PieceJ3 call f t0 t1 σ)
def slices_Equal__api_Piece_api_PieceJ5 (call : CallF H) (f : Nat) (t0 t1 : Value) (σ : St H) : R H :=
  slices_Equal__api_Piece_api_PieceJ4 call f t0 t1 σ
def slices_Equal__api_Piece_api_Piece (call : CallF H) (f : Nat) (a0 a1 : Value) (σ : St H) : R H := slices_Equal__api_Piece_api_PieceJ5 call f a0 a1 σ
theorem slices_Equal__api_Piece_api_PieceEq (call : CallF H) (f : Nat) (a0 a1 : Value) (σ : St H) : kbody call f (codeOf P n_slices_Equal__api_Piece_api_Piece) [a0, a1] σ = slices_Equal__api_Piece_api_Piece call f a0 a1 σ :=
  kbody_of (rs := slices_Equal__api_Piece_api_PieceR) (by kernel_rfl) (by kernel_rfl) (by kernel_rfl) (seq_eq (by kernel_rfl) (seq_eq (by kernel_rfl) (seq_eq (by kernel_rfl) (leaf (B := fun e σ => slices_Equal__api_Piece_api_PieceJ1 call f σ) (by kernel_rfl))
  (seq_eq (by kernel_rfl) (block_eq (by kernel_rfl) (loop_eq (fun n e σ => slices_Equal__api_Piece_api_PieceL2 call f n (e 0) (e 1) (e 12) (e 13) σ) (by kernel_rfl) (by kernel_rfl) (fun n2 => (leaf (by kernel_rfl)))))
  (leaf (B := fun e σ => slices_Equal__api_Piece_api_PieceJ3 call f (e 0) (e 1) σ) (by kernel_rfl))))
  (leaf (B := fun e σ => slices_Equal__api_Piece_api_PieceJ4 call f (e 0) (e 1) σ) (by kernel_rfl)))
  (leaf (B := fun e σ => slices_Equal__api_Piece_api_PieceJ5 call f (e 0) (e 1) σ) (by kernel_rfl))) (by kernel_rfl)

def tick_of (call : CallF H) (f : Nat) (a0 : Value) (σ : St H) : R H :=
  bindR (vBox (.agg ⟨[(I 0), (.int .u64 0)]⟩) σ) fun t2 σ =>
  bindV (abin .shr a0 (.int .u64 63)) fun t4 =>
  bindV (vConv .u64 a0) fun t6 =>
  bindV (vBuild [(I 0), (.int .u64 0)] [(0, 1, t4), (1, 1, t6)]) fun t7 =>
  bindS (vStore 2 t2 t7 σ) fun σ =>
  resV [.c t2 true 2] σ
theorem tick_ofEq (call : CallF H) (f : Nat) (a0 : Value) (σ : St H) : kbody call f (codeOf P n_tick_of) [a0] σ = tick_of call f a0 σ := by kernel_rfl

def tick_wide_plus (call : CallF H) (f : Nat) (a0 a1 : Value) (σ : St H) : R H :=
  bindR (vBox a0 σ) fun t2 σ =>
  bindR (vBox a1 σ) fun t3 σ =>
  bindR (vBox (.agg ⟨[(I 0), (.int .u64 0)]⟩) σ) fun t4 σ =>
  bindV (vFieldAddr 1 t2) fun t8 =>
  bindV (vLoad false 1 t8 σ) fun t9 =>
  bindV (vFieldAddr 1 t3) fun t10 =>
  bindV (vLoad false 1 t10 σ) fun t11 =>
  bindV (vAdd64 t9 t11 (.int .u64 0)) fun t12 =>
  bindV (vExtract 0 t12) fun t13 =>
  bindV (vExtract 1 t12) fun t14 =>
  bindV (vFieldAddr 0 t2) fun t15 =>
  bindV (vLoad false 1 t15 σ) fun t16 =>
  bindV (vFieldAddr 0 t3) fun t17 =>
  bindV (vLoad false 1 t17 σ) fun t18 =>
  bindV (abin .add t16 t18) fun t19 =>
  bindV (vConv .i64 t14) fun t21 =>
  bindV (abin .add t19 t21) fun t22 =>
  bindV (vBuild [(I 0), (.int .u64 0)] [(0, 1, t22), (1, 1, t13)]) fun t24 =>
  bindS (vStore 2 t4 t24 σ) fun σ =>
  resV [.c t4 true 2] σ
theorem tick_wide_plusEq (call : CallF H) (f : Nat) (a0 a1 : Value) (σ : St H) : kbody call f (codeOf P n_tick_wide_plus) [a0, a1] σ = tick_wide_plus call f a0 a1 σ := by kernel_rfl

def tick_wide_narrow (call : CallF H) (f : Nat) (a0 : Value) (σ : St H) : R H :=
  bindR (vBox a0 σ) fun t1 σ =>
  bindV (vFieldAddr 1 t1) fun t5 =>
  bindV (vLoad false 1 t5 σ) fun t6 =>
  bindV (vConv .i64 t6) fun t7 =>
  bindV (vLoad true 2 t1 σ) fun t8 =>
  bindR (call n_tick_of [t7] σ) fun t10 σ =>
  kif (kand (rck (vLoad true 2 t1 σ) t8) true) (
  bindV (vEq (.agg [true, true]) true t8 t10) fun t11 =>
  ifV t11 (
  some (.tuple ⟨[(I 0), ff]⟩, σ)) (
  some (.tuple ⟨[t7, tt]⟩, σ)))
theorem tick_wide_narrowEq (call : CallF H) (f : Nat) (a0 : Value) (σ : St H) : kbody call f (codeOf P n_tick_wide_narrow) [a0] σ = tick_wide_narrow call f a0 σ := by kernel_rfl

def tick_timesJ1 (call : CallF H) (f : Nat) (t4 t6 t7 : Value) (σ : St H) : R H :=
  bindV (vBuild [(I 0), (.int .u64 0)] [(0, 1, t7), (1, 1, t6)]) fun t30 =>
  bindS (vStore 2 t4 t30 σ) fun σ =>
  resV [.c t4 true 2] σ
def tick_timesJ2 (call : CallF H) (f : Nat) (t0 t1 t4 t6 t7 : Value) (σ : St H) : R H :=
  bindV (abin .lss t1 (I 0)) fun t24 =>
  ifV t24 (
  bindV (abin .sub t7 t0) fun t27 =>
  tick_timesJ1 call f t4 t6 t27 σ) (
  tick_timesJ1 call f t4 t6 t7 σ)
def tick_times (call : CallF H) (f : Nat) (a0 a1 : Value) (σ : St H) : R H :=
  bindR (vBox (.agg ⟨[(I 0), (.int .u64 0)]⟩) σ) fun t4 σ =>
  bindV (vConv .u64 a0) fun t10 =>
  bindV (vConv .u64 a1) fun t12 =>
  bindR (call n_math_bits_Mul64 [t10, t12] σ) fun t13 σ =>
  bindV (vExtract 0 t13) fun t14 =>
  bindV (vExtract 1 t13) fun t15 =>
  bindV (vConv .i64 t14) fun t17 =>
  bindV (abin .lss a0 (I 0)) fun t19 =>
  ifV t19 (
  bindV (abin .sub t17 a1) fun t22 =>
  tick_timesJ2 call f a0 a1 t4 t15 t22 σ) (
  tick_timesJ2 call f a0 a1 t4 t15 t17 σ)
theorem tick_timesEq (call : CallF H) (f : Nat) (a0 a1 : Value) (σ : St H) : kbody call f (codeOf P n_tick_times) [a0, a1] σ = tick_times call f a0 a1 σ := by kernel_rfl

def tick_wide_less (call : CallF H) (f : Nat) (a0 a1 : Value) (σ : St H) : R H :=
  bindR (vBox a0 σ) fun t2 σ =>
  bindR (vBox a1 σ) fun t3 σ =>
  bindV (vFieldAddr 0 t2) fun t5 =>
  bindV (vLoad false 1 t5 σ) fun t6 =>
  bindV (vFieldAddr 0 t3) fun t7 =>
  bindV (vLoad false 1 t7 σ) fun t8 =>
  bindV (abin .lss t6 t8) fun t9 =>
  bindV (bif kyes t9 false then vFieldAddr 0 t2 else some undefV) fun t11 =>
  bindV (bif kyes t9 false then vLoad false 1 t11 σ else some undefV) fun t12 =>
  bindV (bif kyes t9 false then vFieldAddr 0 t3 else some undefV) fun t13 =>
  bindV (bif kyes t9 false then vLoad false 1 t13 σ else some undefV) fun t14 =>
  bindV (bif kyes t9 false then abin .eql t12 t14 else some undefV) fun t15 =>
  bindV (bif kyes t9 false then some t15 else some undefV) fun t16 =>
  bindV (bif kyes t16 true then vFieldAddr 1 t2 else some undefV) fun t17 =>
  bindV (bif kyes t16 true then vLoad false 1 t17 σ else some undefV) fun t18 =>
  bindV (bif kyes t16 true then vFieldAddr 1 t3 else some undefV) fun t19 =>
  bindV (bif kyes t16 true then vLoad false 1 t19 σ else some undefV) fun t20 =>
  bindV (bif kyes t16 true then abin .lss t18 t20 else some undefV) fun t21 =>
  bindV (bif kyes t9 false then vPick t16 t21 ff else some undefV) fun t22 =>
  bindV (vPick t9 tt t22) fun t23 =>
  some (t23, σ)
theorem tick_wide_lessEq (call : CallF H) (f : Nat) (a0 a1 : Value) (σ : St H) : kbody call f (codeOf P n_tick_wide_less) [a0, a1] σ = tick_wide_less call f a0 a1 σ := by kernel_rfl

abbrev slices_swapRangeCmpFunc_window_placeR : List ARes := []
def slices_swapRangeCmpFunc_window_placeL1 (call : CallF H) (f : Nat) (n : Nat) : Value → Value → Value → Value → Value → St H → R H :=
  Nat.rec (fun _ _ _ _ _ _ => none) (fun _ r1 => fun t0 t1 t2 t3 t10 σ =>
  bindV (abin .lss t10 t3) fun t13 =>
  ifV t13 (
  bindV (abin .add t1 t10) fun t19 =>
  bindV (abin .add t2 t10) fun t23 =>
  bindV (abin .add t2 t10) fun t27 =>
  bindV (vIndexAddr 2 t0 t27) fun t28 =>
  bindV (vLoad true 2 t28 σ) fun t29 =>
  bindV (abin .add t1 t10) fun t33 =>
  bindV (vIndexAddr 2 t0 t33) fun t34 =>
  bindV (vLoad true 2 t34 σ) fun t35 =>
  bindV (vIndexAddr 2 t0 t19) fun t36 =>
  bindS (vStore 2 t36 t29 σ) fun σ =>
  bindV (vIndexAddr 2 t0 t23) fun t37 =>
  bindS (vStore 2 t37 t35 σ) fun σ =>
  bindV (abin .add t10 (I 1)) fun t15 =>
  r1 t0 t1 t2 t3 t15 σ) (
  some (.tuple ⟨[]⟩, σ))) n
def slices_swapRangeCmpFunc_window_placeJ2 (call : CallF H) (f : Nat) (t0 t1 t2 t3 : Value) (σ : St H) : R H :=
  slices_swapRangeCmpFunc_window_placeL1 call f f t0 t1 t2 t3 (I 0) σ
def slices_swapRangeCmpFunc_window_place (call : CallF H) (f : Nat) (a0 a1 a2 a3 a4 : Value) (σ : St H) : R H := slices_swapRangeCmpFunc_window_placeJ2 call f a0 a1 a2 a3 σ
theorem slices_swapRangeCmpFunc_window_placeEq (call : CallF H) (f : Nat) (a0 a1 a2 a3 a4 : Value) (σ : St H) : kbody call f (codeOf P n_slices_swapRangeCmpFunc_window_place) [a0, a1, a2, a3, a4] σ = slices_swapRangeCmpFunc_window_place call f a0 a1 a2 a3 a4 σ :=
  kbody_of (rs := slices_swapRangeCmpFunc_window_placeR) (by kernel_rfl) (by kernel_rfl) (by kernel_rfl) (seq_eq (by kernel_rfl) (block_eq (by kernel_rfl) (loop_eq (fun n e σ => slices_swapRangeCmpFunc_window_placeL1 call f n (e 0) (e 1) (e 2) (e 3) (e 10) σ) (by kernel_rfl) (by kernel_rfl) (fun n1 => (leaf (by kernel_rfl)))))
  (leaf (B := fun e σ => slices_swapRangeCmpFunc_window_placeJ2 call f (e 0) (e 1) (e 2) (e 3) σ) (by kernel_rfl))) (by kernel_rfl)

def slices_order2CmpFunc_window_place (call : CallF H) (f : Nat) (a0 a1 a2 a3 a4 : Value) (σ : St H) : R H :=
  bindV (vIndexAddr 2 a0 a2) fun t15 =>
  bindV (vLoad true 2 t15 σ) fun t16 =>
  bindV (vIndexAddr 2 a0 a1) fun t19 =>
  bindV (vLoad true 2 t19 σ) fun t20 =>
  bindR (vCallv a4 [t16, t20] call σ) fun t21 σ =>
  bindV (abin .lss t21 (I 0)) fun t22 =>
  ifV t22 (
  bindV (vNil a3) fun t24 =>
  bindV (vLoad false 1 t24 σ) fun t25 =>
  bindV (abin .add t25 (I 1)) fun t26 =>
  bindV (vNil a3) fun t27 =>
  bindS (vStore 1 t27 t26 σ) fun σ =>
  some (.tuple ⟨[a2, a1]⟩, σ)) (
  some (.tuple ⟨[a1, a2]⟩, σ))
theorem slices_order2CmpFunc_window_placeEq (call : CallF H) (f : Nat) (a0 a1 a2 a3 a4 : Value) (σ : St H) : kbody call f (codeOf P n_slices_order2CmpFunc_window_place) [a0, a1, a2, a3, a4] σ = slices_order2CmpFunc_window_place call f a0 a1 a2 a3 a4 σ := by kernel_rfl

def law9x_Begun (call : CallF H) (f : Nat) (σ : St H) : R H :=
  bindR (call n_law9x_begun [] σ) fun t1 σ =>
  some (t1, σ)
theorem law9x_BegunEq (call : CallF H) (f : Nat) (σ : St H) : kbody call f (codeOf P n_law9x_Begun) [] σ = law9x_Begun call f σ := by kernel_rfl

abbrev load_ShareR : List ARes := [.tmp 2]
def load_ShareJ1 (call : CallF H) (f : Nat) (t3 : Value) (σ : St H) : R H :=
  some (t3, σ)
def load_ShareL2 (call : CallF H) (f : Nat) (n : Nat) : Value → Value → Value → Value → St H → R H :=
  Nat.rec (fun _ _ _ _ _ => none) (fun _ r2 => fun t3 t6 t7 t8 σ =>
  bindV (abin .lss t8 t7) fun t9 =>
  ifV t9 (
  bindV (vIndexAddr 3 t6 t8) fun t10 =>
  bindV (vLoad true 3 t10 σ) fun t11 =>
  bindR (vBox (.agg ⟨[(I 0), (I 0), (I 0)]⟩) σ) fun t5 σ =>
  bindS (vStore 3 t5 t11 σ) fun σ =>
  bindV (vFieldAddr 0 t5) fun t13 =>
  bindV (vLoad false 1 t13 σ) fun t14 =>
  bindV (abin .mul t14 (I 10000)) fun t15 =>
  bindV (vFieldAddr 2 t5) fun t16 =>
  bindV (vLoad false 1 t16 σ) fun t17 =>
  bindR (call n_tick_Up [t15, t17] σ) fun t18 σ =>
  bindV (abin .add t3 t18) fun t19 =>
  bindV (abin .add t8 (I 1)) fun t20 =>
  r2 t19 t6 t7 t20 σ) (
  load_ShareJ1 call f t3 σ)) n
def load_ShareJ3 (call : CallF H) (f : Nat) (t0 t3 : Value) (σ : St H) : R H :=
  bindV (vLen .slice t0 σ) fun t7 =>
  load_ShareL2 call f f t3 t0 t7 (I 0) σ
def load_ShareJ4 (call : CallF H) (f : Nat) (t0 : Value) (σ : St H) : R H :=
  load_ShareJ3 call f t0 (I 0) σ
def load_ShareJ5 (call : CallF H) (f : Nat) (t0 : Value) (σ : St H) : R H :=
  load_ShareJ4 call f t0 σ
def load_Share (call : CallF H) (f : Nat) (a0 : Value) (σ : St H) : R H := load_ShareJ5 call f a0 σ
theorem load_ShareEq (call : CallF H) (f : Nat) (a0 : Value) (σ : St H) : kbody call f (codeOf P n_load_Share) [a0] σ = load_Share call f a0 σ :=
  kbody_of (rs := load_ShareR) (by kernel_rfl) (by kernel_rfl) (by kernel_rfl) (seq_eq (by kernel_rfl) (seq_eq (by kernel_rfl) (seq_eq (by kernel_rfl) (leaf (B := fun e σ => load_ShareJ1 call f (e 3) σ) (by kernel_rfl))
  (seq_eq (by kernel_rfl) (block_eq (by kernel_rfl) (loop_eq (fun n e σ => load_ShareL2 call f n (e 3) (e 6) (e 7) (e 8) σ) (by kernel_rfl) (by kernel_rfl) (fun n2 => (leaf (by kernel_rfl)))))
  (leaf (B := fun e σ => load_ShareJ3 call f (e 0) (e 3) σ) (by kernel_rfl))))
  (leaf (B := fun e σ => load_ShareJ4 call f (e 0) σ) (by kernel_rfl)))
  (leaf (B := fun e σ => load_ShareJ5 call f (e 0) σ) (by kernel_rfl))) (by kernel_rfl)

def rule_Piece (call : CallF H) (f : Nat) (a0 a1 : Value) (σ : St H) : R H :=
  bindR (vBox a0 σ) fun t2 σ =>
  bindR (vBox a1 σ) fun t3 σ =>
  bindV (vFieldAddr 0 t3) fun t6 =>
  bindV (vLoad false 1 t6 σ) fun t7 =>
  bindV (abin .geq t7 (I 0)) fun t8 =>
  bindV (bif kyes t8 true then vFieldAddr 0 t3 else some undefV) fun t10 =>
  bindV (bif kyes t8 true then vLoad false 1 t10 σ else some undefV) fun t11 =>
  bindV (bif kyes t8 true then vFieldAddr 0 t2 else some undefV) fun t12 =>
  bindV (bif kyes t8 true then vLoad false 1 t12 σ else some undefV) fun t13 =>
  bindV (bif kyes t8 true then abin .lss t11 t13 else some undefV) fun t14 =>
  bindV (vPick t8 t14 ff) fun t15 =>
  bindV (bif kyes t15 true then vFieldAddr 1 t3 else some undefV) fun t17 =>
  bindV (bif kyes t15 true then vLoad false 1 t17 σ else some undefV) fun t18 =>
  bindR (bif kyes t15 true then call n_rule_within [t18, (I 0), (I 200)] σ else some (undefV, σ)) fun t19 σ =>
  bindV (vPick t15 t19 ff) fun t20 =>
  bindV (bif kyes t20 true then vFieldAddr 3 t3 else some undefV) fun t23 =>
  bindV (bif kyes t20 true then vLoad false 1 t23 σ else some undefV) fun t24 =>
  bindV (bif kyes t20 true then abin .geq t24 (I 1) else some undefV) fun t25 =>
  bindV (vPick t20 t25 ff) fun t26 =>
  bindV (bif kyes t26 true then vFieldAddr 3 t3 else some undefV) fun t28 =>
  bindV (bif kyes t26 true then vLoad false 1 t28 σ else some undefV) fun t29 =>
  bindV (bif kyes t26 true then vFieldAddr 2 t3 else some undefV) fun t30 =>
  bindV (bif kyes t26 true then vLoad false 1 t30 σ else some undefV) fun t31 =>
  bindV (bif kyes t26 true then abin .leq t29 t31 else some undefV) fun t32 =>
  bindV (vPick t26 t32 ff) fun t33 =>
  bindV (bif kyes t33 true then vFieldAddr 2 t3 else some undefV) fun t35 =>
  bindV (bif kyes t33 true then vLoad false 1 t35 σ else some undefV) fun t36 =>
  bindV (bif kyes t33 true then abin .leq t36 (I 200) else some undefV) fun t37 =>
  bindV (vPick t33 t37 ff) fun t38 =>
  bindV (bif kyes t38 true then vFieldAddr 1 t3 else some undefV) fun t40 =>
  bindV (bif kyes t38 true then vLoad false 1 t40 σ else some undefV) fun t41 =>
  bindV (bif kyes t38 true then vFieldAddr 2 t3 else some undefV) fun t42 =>
  bindV (bif kyes t38 true then vLoad false 1 t42 σ else some undefV) fun t43 =>
  bindV (bif kyes t38 true then abin .add t41 t43 else some undefV) fun t44 =>
  bindV (bif kyes t38 true then abin .leq t44 (I 200) else some undefV) fun t45 =>
  bindV (vPick t38 t45 ff) fun t46 =>
  some (t46, σ)
theorem rule_PieceEq (call : CallF H) (f : Nat) (a0 a1 : Value) (σ : St H) : kbody call f (codeOf P n_rule_Piece) [a0, a1] σ = rule_Piece call f a0 a1 σ := by kernel_rfl

def math_bits_Mul64 (call : CallF H) (f : Nat) (a0 a1 : Value) (σ : St H) : R H :=
  bindV (abin .and a0 (.int .u64 4294967295)) fun t15 =>
  bindV (abin .shr a0 (.int .u64 32)) fun t17 =>
  bindV (abin .and a1 (.int .u64 4294967295)) fun t19 =>
  bindV (abin .shr a1 (.int .u64 32)) fun t21 =>
  bindV (abin .mul t15 t19) fun t24 =>
  bindV (abin .mul t17 t19) fun t27 =>
  bindV (abin .shr t24 (.int .u64 32)) fun t29 =>
  bindV (abin .add t27 t29) fun t30 =>
  bindV (abin .and t30 (.int .u64 4294967295)) fun t32 =>
  bindV (abin .shr t30 (.int .u64 32)) fun t34 =>
  bindV (abin .mul t15 t21) fun t38 =>
  bindV (abin .add t32 t38) fun t39 =>
  bindV (abin .mul t17 t21) fun t42 =>
  bindV (abin .add t42 t34) fun t44 =>
  bindV (abin .shr t39 (.int .u64 32)) fun t46 =>
  bindV (abin .add t44 t46) fun t47 =>
  bindV (abin .mul a0 a1) fun t50 =>
  some (.tuple ⟨[t47, t50]⟩, σ)
theorem math_bits_Mul64Eq (call : CallF H) (f : Nat) (a0 a1 : Value) (σ : St H) : kbody call f (codeOf P n_math_bits_Mul64) [a0, a1] σ = math_bits_Mul64 call f a0 a1 σ := by kernel_rfl

def law9x_begun (call : CallF H) (f : Nat) (σ : St H) : R H :=
  bindV (vBuild [(I 0), (I 0), (I 0)] [(0, 1, (I 2)), (1, 1, (I 4)), (2, 1, (I 6))]) fun t8 =>
  bindV (vBuild [(I 0), (I 0), (I 0)] [(0, 1, (I 3)), (1, 1, (I 8)), (2, 1, (I 9))]) fun t9 =>
  bindR (vBuildSlice 2 (rep [(I 0)] 6) [(0, 3, t8), (3, 3, t9)] σ) fun t10 σ =>
  bindR (call n_busy_Time [t10] σ) fun t13 σ =>
  bindV (vExtract 0 t13) fun t14 =>
  bindV (vExtract 1 t13) fun t15 =>
  bindR (call n_busy_Time [(.slice none 0 0)] σ) fun t17 σ =>
  bindV (vExtract 0 t17) fun t18 =>
  bindV (vExtract 1 t17) fun t19 =>
  bindV (vBuild [(I 0), (I 0), (I 0)] [(0, 1, (I 5)), (1, 1, (I 5)), (2, 1, (I 4))]) fun t21 =>
  bindR (vBuildSlice 1 [(I 0), (I 0), (I 0)] [(0, 3, t21)] σ) fun t22 σ =>
  bindR (call n_busy_Time [t22] σ) fun t23 σ =>
  bindV (vExtract 0 t23) fun t24 =>
  bindV (vExtract 1 t23) fun t25 =>
  bindR (call n_law7x_Begun [] σ) fun t26 σ =>
  bindV (bif kyes t26 true then some t10 else some undefV) fun t28 =>
  bindR (bif kyes t26 true then call n_busy_Asked [t28, (I 7)] σ else some (undefV, σ)) fun t29 σ =>
  bindV (bif kyes t26 true then abin .eql t29 (I 7) else some undefV) fun t30 =>
  bindV (vPick t26 t30 ff) fun t31 =>
  bindV (bif kyes t31 true then some t15 else some undefV) fun t33 =>
  bindV (vPick t31 t33 ff) fun t34 =>
  bindV (bif kyes t34 true then some t14 else some undefV) fun t36 =>
  bindV (bif kyes t34 true then abin .eql t36 (I 5) else some undefV) fun t37 =>
  bindV (vPick t34 t37 ff) fun t38 =>
  bindV (bif kyes t38 true then some t18 else some undefV) fun t40 =>
  bindV (bif kyes t38 true then abin .eql t40 (I 0) else some undefV) fun t41 =>
  bindV (vPick t38 t41 ff) fun t42 =>
  bindV (bif kyes t42 true then some t19 else some undefV) fun t44 =>
  bindV (vPick t42 t44 ff) fun t45 =>
  bindV (bif kyes t45 true then some t25 else some undefV) fun t47 =>
  bindV (bif kyes t45 true then aun .not t47 else some undefV) fun t48 =>
  bindV (vPick t45 t48 ff) fun t49 =>
  bindV (bif kyes t49 true then some t10 else some undefV) fun t51 =>
  bindR (bif kyes t49 true then call n_demand_Bound [t51, (I 8)] σ else some (undefV, σ)) fun t52 σ =>
  bindV (bif kyes t49 true then abin .eql t52 (I 5) else some undefV) fun t53 =>
  bindV (vPick t49 t53 ff) fun t54 =>
  bindV (bif kyes t54 true then some t10 else some undefV) fun t56 =>
  bindR (bif kyes t54 true then call n_demand_Fits [t56] σ else some (undefV, σ)) fun t57 σ =>
  bindV (vPick t54 t57 ff) fun t58 =>
  bindV (bif kyes t58 true then some t10 else some undefV) fun t60 =>
  bindR (bif kyes t58 true then call n_most_Fit [t60, (I 5), (I 10), (I 9)] σ else some (undefV, σ)) fun t61 σ =>
  bindV (bif kyes t58 true then abin .eql t61 (I 2) else some undefV) fun t62 =>
  bindV (vPick t58 t62 ff) fun t63 =>
  bindR (bif kyes t63 true then call n_most_Tight [(.slice none 0 0), (I 10), (I 4)] σ else some (undefV, σ)) fun t65 σ =>
  bindV (bif kyes t63 true then abin .eql t65 (I 4) else some undefV) fun t66 =>
  bindV (vPick t63 t66 ff) fun t67 =>
  some (t67, σ)
theorem law9x_begunEq (call : CallF H) (f : Nat) (σ : St H) : kbody call f (codeOf P n_law9x_begun) [] σ = law9x_begun call f σ := by kernel_rfl

def law7x_Begun (call : CallF H) (f : Nat) (σ : St H) : R H :=
  bindR (call n_law7x_begun [] σ) fun t1 σ =>
  some (t1, σ)
theorem law7x_BegunEq (call : CallF H) (f : Nat) (σ : St H) : kbody call f (codeOf P n_law7x_Begun) [] σ = law7x_Begun call f σ := by kernel_rfl

def law7x_begun (call : CallF H) (f : Nat) (σ : St H) : R H :=
  bindR (vBuildSlice 1 [(I 0)] [(0, 1, (I 0))] σ) fun t11 σ =>
  bindV (vBuild [(I 0), (I 0), (I 0), (I 0), (.slice none 0 0)] [(0, 1, (I 2)), (1, 1, (I 1)), (2, 1, (I 1)), (4, 1, t11)]) fun t12 =>
  bindR (vBox (.agg ⟨[(I 0), (I 0), (I 0), (I 0), (.slice none 0 0)]⟩) σ) fun t1 σ =>
  bindS (vStore 5 t1 t12 σ) fun σ =>
  bindV (vBuild [(I 0), (I 0), (I 0)] [(1, 1, (I 1)), (2, 1, (I 2))]) fun t13 =>
  bindR (vBuildSlice 1 [(I 0), (I 0), (I 0)] [(0, 3, t13)] σ) fun t14 σ =>
  bindV (vBuild [(I 0), (I 0), (I 0), (.slice none 0 0)] [(0, 1, (I 3)), (1, 1, (I 8)), (2, 1, (I 10)), (3, 1, t14)]) fun t15 =>
  bindR (vBox (.agg ⟨[(I 0), (I 0), (I 0), (.slice none 0 0)]⟩) σ) fun t2 σ =>
  bindS (vStore 4 t2 t15 σ) fun σ =>
  bindV (vLoad true 5 t1 σ) fun t16 =>
  bindV (vLoad true 4 t2 σ) fun t18 =>
  bindR (call n_note_PutConfig [t16] σ) fun t17 σ =>
  kif (kand (rck (vLoad true 4 t2 σ) t18) true) (
  bindR (call n_note_PutTask [t18] σ) fun t19 σ =>
  bindR (call n_note_GetConfig [t17] σ) fun t22 σ =>
  bindV (vExtract 0 t22) fun t23 =>
  bindV (vExtract 1 t22) fun t24 =>
  bindR (vBox (.agg ⟨[(I 0), (I 0), (I 0), (I 0), (.slice none 0 0)]⟩) σ) fun t5 σ =>
  bindS (vStore 5 t5 t23 σ) fun σ =>
  bindV (vLoad true 5 t1 σ) fun t26 =>
  bindR (call n_note_GetTask [t26, t19] σ) fun t28 σ =>
  bindV (vExtract 0 t28) fun t29 =>
  bindV (vExtract 1 t28) fun t30 =>
  bindR (vBox (.agg ⟨[(I 0), (I 0), (I 0), (.slice none 0 0)]⟩) σ) fun t7 σ =>
  bindS (vStore 4 t7 t29 σ) fun σ =>
  bindV (vBuild [(I 0), (I 0), (I 0), (I 0), (.slice none 0 0)] [(0, 1, (I 1))]) fun t32 =>
  bindR (call n_note_GetTask [t32, t19] σ) fun t34 σ =>
  bindV (vExtract 0 t34) fun t35 =>
  bindV (vExtract 1 t34) fun t36 =>
  bindR (vBox (.agg ⟨[(I 0), (I 0), (I 0), (.slice none 0 0)]⟩) σ) fun t9 σ =>
  bindS (vStore 4 t9 t35 σ) fun σ =>
  bindR (call n_law1x_Begun [] σ) fun t37 σ =>
  bindV (bif kyes t37 true then vLoad true 5 t1 σ else some undefV) fun t39 =>
  bindR (bif kyes t37 true then call n_rule_Config [t39] σ else some (undefV, σ)) fun t40 σ =>
  bindV (vPick t37 t40 ff) fun t41 =>
  bindV (bif kyes t41 true then vLoad true 5 t1 σ else some undefV) fun t43 =>
  bindV (bif kyes t41 true then vLoad true 4 t2 σ else some undefV) fun t44 =>
  bindR (bif kyes t41 true then call n_rule_Task [t43, t44] σ else some (undefV, σ)) fun t45 σ =>
  bindV (vPick t41 t45 ff) fun t46 =>
  bindV (bif kyes t46 true then vBuild [(I 0), (I 0), (I 0), (I 0), (.slice none 0 0)] [] else some undefV) fun t48 =>
  bindR (bif kyes t46 true then call n_rule_Config [t48] σ else some (undefV, σ)) fun t49 σ =>
  bindV (bif kyes t46 true then aun .not t49 else some undefV) fun t50 =>
  bindV (vPick t46 t50 ff) fun t51 =>
  bindV (bif kyes t51 true then some t17 else some undefV) fun t53 =>
  bindV (bif kyes t51 true then abin .eql t53 (.string ⟨⟨[99, 111, 114, 101, 115, 32, 50, 32, 115, 121, 110, 99, 115, 32, 49, 32, 108, 97, 103, 32, 49, 32, 109, 111, 118, 101, 32, 48, 32, 114, 101, 115, 32, 48]⟩⟩) else some undefV) fun t54 =>
  bindV (vPick t51 t54 ff) fun t55 =>
  bindV (bif kyes t55 true then some t19 else some undefV) fun t57 =>
  bindV (bif kyes t55 true then abin .eql t57 (.string ⟨⟨[51, 47, 56, 47, 49, 48, 32, 48, 64, 49, 43, 50]⟩⟩) else some undefV) fun t58 =>
  bindV (vPick t55 t58 ff) fun t59 =>
  bindV (bif kyes t59 true then some t24 else some undefV) fun t61 =>
  bindV (bif kyes t59 true then abin .eql t61 (I 0) else some undefV) fun t62 =>
  bindV (vPick t59 t62 ff) fun t63 =>
  bindV (bif kyes t63 true then vFieldAddr 0 t5 else some undefV) fun t65 =>
  bindV (bif kyes t63 true then vLoad false 1 t65 σ else some undefV) fun t66 =>
  bindV (bif kyes t63 true then abin .eql t66 (I 2) else some undefV) fun t67 =>
  bindV (vPick t63 t67 ff) fun t68 =>
  bindV (bif kyes t68 true then vFieldAddr 4 t5 else some undefV) fun t70 =>
  bindV (bif kyes t68 true then vLoad false 1 t70 σ else some undefV) fun t71 =>
  bindV (bif kyes t68 true then vLen .slice t71 σ else some undefV) fun t72 =>
  bindV (bif kyes t68 true then abin .eql t72 (I 1) else some undefV) fun t73 =>
  bindV (vPick t68 t73 ff) fun t74 =>
  bindV (bif kyes t74 true then some t30 else some undefV) fun t76 =>
  bindV (bif kyes t74 true then abin .eql t76 (I 0) else some undefV) fun t77 =>
  bindV (vPick t74 t77 ff) fun t78 =>
  bindV (bif kyes t78 true then vLoad true 4 t7 σ else some undefV) fun t80 =>
  bindV (bif kyes t78 true then vLoad true 4 t2 σ else some undefV) fun t81 =>
  bindR (bif kyes t78 true then call n_rule_Same [t80, t81] σ else some (undefV, σ)) fun t82 σ =>
  bindV (vPick t78 t82 ff) fun t83 =>
  bindV (bif kyes t83 true then some t36 else some undefV) fun t85 =>
  bindV (bif kyes t83 true then abin .eql t85 (I 1) else some undefV) fun t86 =>
  bindV (vPick t83 t86 ff) fun t87 =>
  bindV (bif kyes t87 true then vBuild [(I 0), (I 0), (I 0)] [(0, 1, (I 1)), (1, 1, (I 1)), (2, 1, (I 1))] else some undefV) fun t89 =>
  bindR (bif kyes t87 true then call n_rule_Load [t89] σ else some (undefV, σ)) fun t90 σ =>
  bindV (vPick t87 t90 ff) fun t91 =>
  bindV (bif kyes t91 true then vLoad true 5 t1 σ else some undefV) fun t93 =>
  bindV (bif kyes t91 true then vBuild (rep [(I 0)] 4) [(0, 1, (I 1)), (2, 1, (I 3)), (3, 1, (I 3))] else some undefV) fun t94 =>
  bindR (bif kyes t91 true then call n_rule_Piece [t93, t94] σ else some (undefV, σ)) fun t95 σ =>
  bindV (vPick t91 t95 ff) fun t96 =>
  bindV (bif kyes t96 true then vLoad true 5 t1 σ else some undefV) fun t98 =>
  bindV (bif kyes t96 true then vLoad true 4 t2 σ else some undefV) fun t99 =>
  bindR (bif kyes t96 true then call n_rule_Agents [t98, t99] σ else some (undefV, σ)) fun t100 σ =>
  bindV (bif kyes t96 true then vLen .slice t100 σ else some undefV) fun t101 =>
  bindV (bif kyes t96 true then abin .eql t101 (I 1) else some undefV) fun t102 =>
  bindV (vPick t96 t102 ff) fun t103 =>
  some (t103, σ))
theorem law7x_begunEq (call : CallF H) (f : Nat) (σ : St H) : kbody call f (codeOf P n_law7x_begun) [] σ = law7x_begun call f σ := by kernel_rfl

abbrev note_PutConfigR : List ARes := [.tmp 2]
def note_PutConfigJ1 (call : CallF H) (f : Nat) (t3 : Value) (σ : St H) : R H :=
  bindR (call n_strings_Join [t3, (.string ⟨⟨[32]⟩⟩)] σ) fun t43 σ =>
  some (t43, σ)
def note_PutConfigL2 (call : CallF H) (f : Nat) (n : Nat) : Value → Value → Value → Value → St H → R H :=
  Nat.rec (fun _ _ _ _ _ => none) (fun _ r2 => fun t3 t30 t31 t32 σ =>
  bindV (abin .lss t32 t31) fun t33 =>
  ifV t33 (
  bindV (vIndexAddr 1 t30 t32) fun t34 =>
  bindV (vLoad false 1 t34 σ) fun t35 =>
  bindR (call n_note_num [t35] σ) fun t38 σ =>
  bindR (vBuildSlice 1 [(.string ⟨⟨[]⟩⟩)] [(0, 1, t38)] σ) fun t39 σ =>
  bindR (vAppend 1 16 [(.string ⟨⟨[]⟩⟩)] false t3 t39 σ) fun t40 σ =>
  bindV (abin .add t32 (I 1)) fun t41 =>
  r2 t40 t30 t31 t41 σ) (
  note_PutConfigJ1 call f t3 σ)) n
def note_PutConfigJ3 (call : CallF H) (f : Nat) (t1 t3 : Value) (σ : St H) : R H :=
  bindV (vFieldAddr 4 t1) fun t29 =>
  bindV (vLoad false 1 t29 σ) fun t30 =>
  bindV (vLen .slice t30 σ) fun t31 =>
  note_PutConfigL2 call f f t3 t30 t31 (I 0) σ
def note_PutConfigJ4 (call : CallF H) (f : Nat) (t1 t3 : Value) (σ : St H) : R H :=
  bindV (vFieldAddr 4 t1) fun t22 =>
  bindV (vLoad false 1 t22 σ) fun t23 =>
  bindV (vLen .slice t23 σ) fun t24 =>
  bindV (abin .gtr t24 (I 0)) fun t25 =>
  ifV t25 (
  bindR (vBuildSlice 1 [(.string ⟨⟨[]⟩⟩)] [(0, 1, (.string ⟨⟨[114, 101, 115]⟩⟩))] σ) fun t27 σ =>
  bindR (vAppend 1 16 [(.string ⟨⟨[]⟩⟩)] false t3 t27 σ) fun t28 σ =>
  note_PutConfigJ3 call f t1 t28 σ) (
  note_PutConfigJ3 call f t1 t3 σ)
def note_PutConfigJ5 (call : CallF H) (f : Nat) (t1 : Value) (σ : St H) : R H :=
  bindV (vFieldAddr 0 t1) fun t9 =>
  bindV (vLoad false 1 t9 σ) fun t10 =>
  bindV (vFieldAddr 1 t1) fun t12 =>
  bindV (vLoad false 1 t12 σ) fun t13 =>
  bindV (vFieldAddr 2 t1) fun t15 =>
  bindV (vLoad false 1 t15 σ) fun t16 =>
  bindV (vFieldAddr 3 t1) fun t18 =>
  bindV (vLoad false 1 t18 σ) fun t19 =>
  bindR (call n_note_num [t10] σ) fun t11 σ =>
  kif (kand (rck (vLoad false 1 t18 σ) t19) (kand (rck (vLoad false 1 t15 σ) t16) (kand (rck (vLoad false 1 t12 σ) t13) true))) (
  bindR (call n_note_num [t13] σ) fun t14 σ =>
  kif (kand (rck (vLoad false 1 t18 σ) t19) (kand (rck (vLoad false 1 t15 σ) t16) true)) (
  bindR (call n_note_num [t16] σ) fun t17 σ =>
  kif (kand (rck (vLoad false 1 t18 σ) t19) true) (
  bindR (call n_note_num [t19] σ) fun t20 σ =>
  bindR (vBuildSlice 8 (rep [(.string ⟨⟨[]⟩⟩)] 8) [(0, 1, (.string ⟨⟨[99, 111, 114, 101, 115]⟩⟩)), (1, 1, t11), (2, 1, (.string ⟨⟨[115, 121, 110, 99, 115]⟩⟩)), (3, 1, t14), (4, 1, (.string ⟨⟨[108, 97, 103]⟩⟩)), (5, 1, t17), (6, 1, (.string ⟨⟨[109, 111, 118, 101]⟩⟩)), (7, 1, t20)] σ) fun t21 σ =>
  note_PutConfigJ4 call f t1 t21 σ)))
def note_PutConfigJ6 (call : CallF H) (f : Nat) (t1 : Value) (σ : St H) : R H :=
  bindV (vLoad true 5 t1 σ) fun t6 =>
  bindR (call n_rule_Config [t6] σ) fun t7 σ =>
  bindV (aun .not t7) fun t8 =>
  ifV t8 (
  some ((.string ⟨⟨[]⟩⟩), σ)) (
  note_PutConfigJ5 call f t1 σ)
def note_PutConfigJ7 (call : CallF H) (f : Nat) (t0 : Value) (σ : St H) : R H :=
  bindR (vBox t0 σ) fun t1 σ =>
  note_PutConfigJ6 call f t1 σ
def note_PutConfig (call : CallF H) (f : Nat) (a0 : Value) (σ : St H) : R H := note_PutConfigJ7 call f a0 σ
theorem note_PutConfigEq (call : CallF H) (f : Nat) (a0 : Value) (σ : St H) : kbody call f (codeOf P n_note_PutConfig) [a0] σ = note_PutConfig call f a0 σ :=
  kbody_of (rs := note_PutConfigR) (by kernel_rfl) (by kernel_rfl) (by kernel_rfl) (seq_eq (by kernel_rfl) (seq_eq (by kernel_rfl) (seq_eq (by kernel_rfl) (seq_eq (by kernel_rfl) (seq_eq (by kernel_rfl) (leaf (B := fun e σ => note_PutConfigJ1 call f (e 3) σ) (by kernel_rfl))
  (seq_eq (by kernel_rfl) (block_eq (by kernel_rfl) (loop_eq (fun n e σ => note_PutConfigL2 call f n (e 3) (e 30) (e 31) (e 32) σ) (by kernel_rfl) (by kernel_rfl) (fun n2 => (leaf (by kernel_rfl)))))
  (leaf (B := fun e σ => note_PutConfigJ3 call f (e 1) (e 3) σ) (by kernel_rfl))))
  (leaf (B := fun e σ => note_PutConfigJ4 call f (e 1) (e 3) σ) (by kernel_rfl)))
  (leaf (B := fun e σ => note_PutConfigJ5 call f (e 1) σ) (by kernel_rfl)))
  (leaf (B := fun e σ => note_PutConfigJ6 call f (e 1) σ) (by kernel_rfl)))
  (leaf (B := fun e σ => note_PutConfigJ7 call f (e 0) σ) (by kernel_rfl))) (by kernel_rfl)

abbrev note_PutTaskR : List ARes := [.tmp 2]
def note_PutTaskJ1 (call : CallF H) (f : Nat) (t3 : Value) (σ : St H) : R H :=
  some (t3, σ)
def note_PutTaskL2 (call : CallF H) (f : Nat) (n : Nat) : Value → Value → Value → Value → St H → R H :=
  Nat.rec (fun _ _ _ _ _ => none) (fun _ r2 => fun t3 t24 t25 t26 σ =>
  bindV (abin .lss t26 t25) fun t27 =>
  ifV t27 (
  bindV (vIndexAddr 3 t24 t26) fun t28 =>
  bindV (vLoad true 3 t28 σ) fun t29 =>
  bindR (vBox (.agg ⟨[(I 0), (I 0), (I 0)]⟩) σ) fun t5 σ =>
  bindS (vStore 3 t5 t29 σ) fun σ =>
  bindV (vFieldAddr 0 t5) fun t31 =>
  bindV (vLoad false 1 t31 σ) fun t32 =>
  bindV (vFieldAddr 1 t5) fun t36 =>
  bindV (vLoad false 1 t36 σ) fun t37 =>
  bindV (vFieldAddr 2 t5) fun t41 =>
  bindV (vLoad false 1 t41 σ) fun t42 =>
  bindR (call n_note_num [t32] σ) fun t33 σ =>
  kif (kand (rck (vLoad false 1 t41 σ) t42) (kand (rck (vLoad false 1 t36 σ) t37) true)) (
  bindV (abin .add (.string ⟨⟨[32]⟩⟩) t33) fun t34 =>
  bindV (abin .add t34 (.string ⟨⟨[64]⟩⟩)) fun t35 =>
  bindR (call n_note_num [t37] σ) fun t38 σ =>
  kif (kand (rck (vLoad false 1 t41 σ) t42) true) (
  bindV (abin .add t35 t38) fun t39 =>
  bindV (abin .add t39 (.string ⟨⟨[43]⟩⟩)) fun t40 =>
  bindR (call n_note_num [t42] σ) fun t43 σ =>
  bindV (abin .add t40 t43) fun t44 =>
  bindV (abin .add t3 t44) fun t45 =>
  bindV (abin .add t26 (I 1)) fun t46 =>
  r2 t45 t24 t25 t46 σ))) (
  note_PutTaskJ1 call f t3 σ)) n
def note_PutTaskJ3 (call : CallF H) (f : Nat) (t1 t3 : Value) (σ : St H) : R H :=
  bindV (vFieldAddr 3 t1) fun t23 =>
  bindV (vLoad false 1 t23 σ) fun t24 =>
  bindV (vLen .slice t24 σ) fun t25 =>
  note_PutTaskL2 call f f t3 t24 t25 (I 0) σ
def note_PutTaskJ4 (call : CallF H) (f : Nat) (t1 : Value) (σ : St H) : R H :=
  bindV (vFieldAddr 0 t1) fun t10 =>
  bindV (vLoad false 1 t10 σ) fun t11 =>
  bindV (vFieldAddr 1 t1) fun t14 =>
  bindV (vLoad false 1 t14 σ) fun t15 =>
  bindV (vFieldAddr 2 t1) fun t19 =>
  bindV (vLoad false 1 t19 σ) fun t20 =>
  bindR (call n_note_num [t11] σ) fun t12 σ =>
  kif (kand (rck (vLoad false 1 t19 σ) t20) (kand (rck (vLoad false 1 t14 σ) t15) true)) (
  bindV (abin .add t12 (.string ⟨⟨[47]⟩⟩)) fun t13 =>
  bindR (call n_note_num [t15] σ) fun t16 σ =>
  kif (kand (rck (vLoad false 1 t19 σ) t20) true) (
  bindV (abin .add t13 t16) fun t17 =>
  bindV (abin .add t17 (.string ⟨⟨[47]⟩⟩)) fun t18 =>
  bindR (call n_note_num [t20] σ) fun t21 σ =>
  bindV (abin .add t18 t21) fun t22 =>
  note_PutTaskJ3 call f t1 t22 σ))
def note_PutTaskJ5 (call : CallF H) (f : Nat) (t1 : Value) (σ : St H) : R H :=
  bindV (vLoad true 4 t1 σ) fun t7 =>
  bindR (call n_note_widest [] σ) fun t6 σ =>
  kif (kand (rck (vLoad true 4 t1 σ) t7) true) (
  bindR (call n_rule_Task [t6, t7] σ) fun t8 σ =>
  bindV (aun .not t8) fun t9 =>
  ifV t9 (
  some ((.string ⟨⟨[]⟩⟩), σ)) (
  note_PutTaskJ4 call f t1 σ))
def note_PutTaskJ6 (call : CallF H) (f : Nat) (t0 : Value) (σ : St H) : R H :=
  bindR (vBox t0 σ) fun t1 σ =>
  note_PutTaskJ5 call f t1 σ
def note_PutTask (call : CallF H) (f : Nat) (a0 : Value) (σ : St H) : R H := note_PutTaskJ6 call f a0 σ
theorem note_PutTaskEq (call : CallF H) (f : Nat) (a0 : Value) (σ : St H) : kbody call f (codeOf P n_note_PutTask) [a0] σ = note_PutTask call f a0 σ :=
  kbody_of (rs := note_PutTaskR) (by kernel_rfl) (by kernel_rfl) (by kernel_rfl) (seq_eq (by kernel_rfl) (seq_eq (by kernel_rfl) (seq_eq (by kernel_rfl) (seq_eq (by kernel_rfl) (leaf (B := fun e σ => note_PutTaskJ1 call f (e 3) σ) (by kernel_rfl))
  (seq_eq (by kernel_rfl) (block_eq (by kernel_rfl) (loop_eq (fun n e σ => note_PutTaskL2 call f n (e 3) (e 24) (e 25) (e 26) σ) (by kernel_rfl) (by kernel_rfl) (fun n2 => (leaf (by kernel_rfl)))))
  (leaf (B := fun e σ => note_PutTaskJ3 call f (e 1) (e 3) σ) (by kernel_rfl))))
  (leaf (B := fun e σ => note_PutTaskJ4 call f (e 1) σ) (by kernel_rfl)))
  (leaf (B := fun e σ => note_PutTaskJ5 call f (e 1) σ) (by kernel_rfl)))
  (leaf (B := fun e σ => note_PutTaskJ6 call f (e 0) σ) (by kernel_rfl))) (by kernel_rfl)

abbrev note_GetConfigR : List ARes := [.cell 2 true 5, .tmp 3]
def note_GetConfigJ1 (call : CallF H) (f : Nat) (t0 t2 t5 : Value) (σ : St H) : R H :=
  bindV (vLoad true 5 t5 σ) fun t49 =>
  bindR (call n_note_PutConfig [t49] σ) fun t50 σ =>
  bindV (abin .neq t50 t0) fun t52 =>
  ifV t52 (
  bindV (vBuild [(I 0), (I 0), (I 0), (I 0), (.slice none 0 0)] []) fun t53 =>
  bindS (vStore 5 t2 t53 σ) fun σ =>
  resV [.c t2 true 5, .v (I 1)] σ) (
  bindV (vLoad true 5 t5 σ) fun t54 =>
  bindS (vStore 5 t2 t54 σ) fun σ =>
  resV [.c t2 true 5, .v (I 0)] σ)
def note_GetConfigL2 (call : CallF H) (f : Nat) (n : Nat) : Value → Value → Value → Value → Value → Value → St H → R H :=
  Nat.rec (fun _ _ _ _ _ _ _ => none) (fun _ r2 => fun t0 t2 t5 t35 t36 t37 σ =>
  bindV (abin .lss t37 t36) fun t38 =>
  ifV t38 (
  bindV (vIndexAddr 1 t35 t37) fun t39 =>
  bindV (vLoad false 1 t39 σ) fun t40 =>
  bindV (vFieldAddr 4 t5) fun t41 =>
  bindV (vLoad false 1 t41 σ) fun t42 =>
  bindR (call n_note_parse [t40] σ) fun t44 σ =>
  kif (kand (rck (vLoad false 1 t41 σ) t42) true) (
  bindR (vBuildSlice 1 [(I 0)] [(0, 1, t44)] σ) fun t45 σ =>
  bindR (vAppend 1 8 [(I 0)] false t42 t45 σ) fun t46 σ =>
  bindV (vFieldAddr 4 t5) fun t47 =>
  bindS (vStore 1 t47 t46 σ) fun σ =>
  bindV (abin .add t37 (I 1)) fun t48 =>
  r2 t0 t2 t5 t35 t36 t48 σ)) (
  note_GetConfigJ1 call f t0 t2 t5 σ)) n
def note_GetConfigJ3 (call : CallF H) (f : Nat) (t0 t2 t4 t5 : Value) (σ : St H) : R H :=
  bindV (vLen .slice t4 σ) fun t33 =>
  bindV (vMn [(I 9), t33]) fun t34 =>
  bindV (vSlice 1 t4 (some t34) none none) fun t35 =>
  bindV (vLen .slice t35 σ) fun t36 =>
  note_GetConfigL2 call f f t0 t2 t5 t35 t36 (I 0) σ
def note_GetConfigJ4 (call : CallF H) (f : Nat) (t0 t2 t4 : Value) (σ : St H) : R H :=
  bindV (vIndexAddr 1 t4 (I 1)) fun t15 =>
  bindV (vLoad false 1 t15 σ) fun t16 =>
  bindV (vIndexAddr 1 t4 (I 3)) fun t19 =>
  bindV (vLoad false 1 t19 σ) fun t20 =>
  bindV (vIndexAddr 1 t4 (I 5)) fun t23 =>
  bindV (vLoad false 1 t23 σ) fun t24 =>
  bindV (vIndexAddr 1 t4 (I 7)) fun t27 =>
  bindV (vLoad false 1 t27 σ) fun t28 =>
  bindR (call n_note_parse [t16] σ) fun t17 σ =>
  kif (kand (rck (vLoad false 1 t27 σ) t28) (kand (rck (vLoad false 1 t23 σ) t24) (kand (rck (vLoad false 1 t19 σ) t20) true))) (
  bindR (call n_note_parse [t20] σ) fun t21 σ =>
  kif (kand (rck (vLoad false 1 t27 σ) t28) (kand (rck (vLoad false 1 t23 σ) t24) true)) (
  bindR (call n_note_parse [t24] σ) fun t25 σ =>
  kif (kand (rck (vLoad false 1 t27 σ) t28) true) (
  bindR (call n_note_parse [t28] σ) fun t29 σ =>
  bindV (vBuild [(I 0), (I 0), (I 0), (I 0), (.slice none 0 0)] [(0, 1, t17), (1, 1, t21), (2, 1, t25), (3, 1, t29)]) fun t30 =>
  bindR (vBox (.agg ⟨[(I 0), (I 0), (I 0), (I 0), (.slice none 0 0)]⟩) σ) fun t5 σ =>
  bindS (vStore 5 t5 t30 σ) fun σ =>
  note_GetConfigJ3 call f t0 t2 t4 t5 σ)))
def note_GetConfigJ5 (call : CallF H) (f : Nat) (t0 t2 t4 : Value) (σ : St H) : R H :=
  bindV (vLen .slice t4 σ) fun t11 =>
  bindV (abin .lss t11 (I 8)) fun t12 =>
  ifV t12 (
  bindV (vBuild [(I 0), (I 0), (I 0), (I 0), (.slice none 0 0)] []) fun t13 =>
  bindS (vStore 5 t2 t13 σ) fun σ =>
  resV [.c t2 true 5, .v (I 1)] σ) (
  note_GetConfigJ4 call f t0 t2 t4 σ)
def note_GetConfigJ6 (call : CallF H) (f : Nat) (t0 t2 : Value) (σ : St H) : R H :=
  bindR (call n_strings_Split [t0, (.string ⟨⟨[32]⟩⟩)] σ) fun t9 σ =>
  note_GetConfigJ5 call f t0 t2 t9 σ
def note_GetConfigJ7 (call : CallF H) (f : Nat) (t0 : Value) (σ : St H) : R H :=
  bindR (vBox (.agg ⟨[(I 0), (I 0), (I 0), (I 0), (.slice none 0 0)]⟩) σ) fun t2 σ =>
  note_GetConfigJ6 call f t0 t2 σ
def note_GetConfig (call : CallF H) (f : Nat) (a0 : Value) (σ : St H) : R H := note_GetConfigJ7 call f a0 σ
theorem note_GetConfigEq (call : CallF H) (f : Nat) (a0 : Value) (σ : St H) : kbody call f (codeOf P n_note_GetConfig) [a0] σ = note_GetConfig call f a0 σ :=
  kbody_of (rs := note_GetConfigR) (by kernel_rfl) (by kernel_rfl) (by kernel_rfl) (seq_eq (by kernel_rfl) (seq_eq (by kernel_rfl) (seq_eq (by kernel_rfl) (seq_eq (by kernel_rfl) (seq_eq (by kernel_rfl) (leaf (B := fun e σ => note_GetConfigJ1 call f (e 0) (e 2) (e 5) σ) (by kernel_rfl))
  (seq_eq (by kernel_rfl) (block_eq (by kernel_rfl) (loop_eq (fun n e σ => note_GetConfigL2 call f n (e 0) (e 2) (e 5) (e 35) (e 36) (e 37) σ) (by kernel_rfl) (by kernel_rfl) (fun n2 => (leaf (by kernel_rfl)))))
  (leaf (B := fun e σ => note_GetConfigJ3 call f (e 0) (e 2) (e 4) (e 5) σ) (by kernel_rfl))))
  (leaf (B := fun e σ => note_GetConfigJ4 call f (e 0) (e 2) (e 4) σ) (by kernel_rfl)))
  (leaf (B := fun e σ => note_GetConfigJ5 call f (e 0) (e 2) (e 4) σ) (by kernel_rfl)))
  (leaf (B := fun e σ => note_GetConfigJ6 call f (e 0) (e 2) σ) (by kernel_rfl)))
  (leaf (B := fun e σ => note_GetConfigJ7 call f (e 0) σ) (by kernel_rfl))) (by kernel_rfl)

abbrev note_GetTaskR : List ARes := [.cell 4 true 4, .tmp 5]
def note_GetTaskJ1 (call : CallF H) (f : Nat) (t1 t2 t4 t8 : Value) (σ : St H) : R H :=
  bindV (vLoad true 5 t2 σ) fun t72 =>
  bindR (call n_rule_Config [t72] σ) fun t73 σ =>
  bindV (aun .not t73) fun t74 =>
  bindV (bif kyes t74 false then vLoad true 5 t2 σ else some undefV) fun t76 =>
  bindV (bif kyes t74 false then vLoad true 4 t8 σ else some undefV) fun t77 =>
  bindR (bif kyes t74 false then call n_rule_Task [t76, t77] σ else some (undefV, σ)) fun t78 σ =>
  bindV (bif kyes t74 false then aun .not t78 else some undefV) fun t79 =>
  bindV (vPick t74 tt t79) fun t80 =>
  bindV (bif kyes t80 false then vLoad true 4 t8 σ else some undefV) fun t82 =>
  bindR (bif kyes t80 false then call n_note_PutTask [t82] σ else some (undefV, σ)) fun t83 σ =>
  bindV (bif kyes t80 false then some t1 else some undefV) fun t84 =>
  bindV (bif kyes t80 false then abin .neq t83 t84 else some undefV) fun t85 =>
  bindV (vPick t80 tt t85) fun t86 =>
  ifV t86 (
  bindV (vBuild [(I 0), (I 0), (I 0), (.slice none 0 0)] []) fun t87 =>
  bindS (vStore 4 t4 t87 σ) fun σ =>
  resV [.c t4 true 4, .v (I 1)] σ) (
  bindV (vLoad true 4 t8 σ) fun t88 =>
  bindS (vStore 4 t4 t88 σ) fun σ =>
  resV [.c t4 true 4, .v (I 0)] σ)
def note_GetTaskL2 (call : CallF H) (f : Nat) (n : Nat) : Value → Value → Value → Value → Value → Value → Value → St H → R H :=
  Nat.rec (fun _ _ _ _ _ _ _ _ => none) (fun _ r2 => fun t1 t2 t4 t8 t41 t42 t43 σ =>
  bindV (abin .lss t43 t42) fun t44 =>
  ifV t44 (
  bindV (vIndexAddr 1 t41 t43) fun t45 =>
  bindV (vLoad false 1 t45 σ) fun t46 =>
  bindR (call n_strings_Cut [t46, (.string ⟨⟨[64]⟩⟩)] σ) fun t49 σ =>
  bindV (vExtract 0 t49) fun t50 =>
  bindV (vExtract 1 t49) fun t51 =>
  bindV (vExtract 2 t49) fun t52 =>
  bindR (call n_strings_Cut [t51, (.string ⟨⟨[43]⟩⟩)] σ) fun t55 σ =>
  bindV (vExtract 0 t55) fun t56 =>
  bindV (vExtract 1 t55) fun t57 =>
  bindV (vExtract 2 t55) fun t58 =>
  bindV (vFieldAddr 3 t8) fun t59 =>
  bindV (vLoad false 1 t59 σ) fun t60 =>
  bindR (call n_note_parse [t50] σ) fun t62 σ =>
  kif (kand (rck (vLoad false 1 t59 σ) t60) true) (
  bindR (call n_note_parse [t56] σ) fun t64 σ =>
  kif (kand (rck (vLoad false 1 t59 σ) t60) true) (
  bindR (call n_note_parse [t57] σ) fun t66 σ =>
  kif (kand (rck (vLoad false 1 t59 σ) t60) true) (
  bindV (vBuild [(I 0), (I 0), (I 0)] [(0, 1, t62), (1, 1, t64), (2, 1, t66)]) fun t67 =>
  bindR (vBuildSlice 1 [(I 0), (I 0), (I 0)] [(0, 3, t67)] σ) fun t68 σ =>
  bindR (vAppend 3 24 [(I 0), (I 0), (I 0)] false t60 t68 σ) fun t69 σ =>
  bindV (vFieldAddr 3 t8) fun t70 =>
  bindS (vStore 1 t70 t69 σ) fun σ =>
  bindV (abin .add t43 (I 1)) fun t71 =>
  r2 t1 t2 t4 t8 t41 t42 t71 σ)))) (
  note_GetTaskJ1 call f t1 t2 t4 t8 σ)) n
def note_GetTaskJ3 (call : CallF H) (f : Nat) (t1 t2 t4 t6 t8 : Value) (σ : St H) : R H :=
  bindV (vSlice 1 t6 (some (I 1)) none none) fun t41 =>
  bindV (vLen .slice t41 σ) fun t42 =>
  note_GetTaskL2 call f f t1 t2 t4 t8 t41 t42 (I 0) σ
def note_GetTaskJ4 (call : CallF H) (f : Nat) (t1 t2 t4 t6 t7 : Value) (σ : St H) : R H :=
  bindV (vIndexAddr 1 t7 (I 0)) fun t28 =>
  bindV (vLoad false 1 t28 σ) fun t29 =>
  bindV (vIndexAddr 1 t7 (I 1)) fun t32 =>
  bindV (vLoad false 1 t32 σ) fun t33 =>
  bindV (vIndexAddr 1 t7 (I 2)) fun t36 =>
  bindV (vLoad false 1 t36 σ) fun t37 =>
  bindR (call n_note_parse [t29] σ) fun t30 σ =>
  kif (kand (rck (vLoad false 1 t36 σ) t37) (kand (rck (vLoad false 1 t32 σ) t33) true)) (
  bindR (call n_note_parse [t33] σ) fun t34 σ =>
  kif (kand (rck (vLoad false 1 t36 σ) t37) true) (
  bindR (call n_note_parse [t37] σ) fun t38 σ =>
  bindV (vBuild [(I 0), (I 0), (I 0), (.slice none 0 0)] [(0, 1, t30), (1, 1, t34), (2, 1, t38)]) fun t39 =>
  bindR (vBox (.agg ⟨[(I 0), (I 0), (I 0), (.slice none 0 0)]⟩) σ) fun t8 σ =>
  bindS (vStore 4 t8 t39 σ) fun σ =>
  note_GetTaskJ3 call f t1 t2 t4 t6 t8 σ))
def note_GetTaskJ5 (call : CallF H) (f : Nat) (t1 t2 t4 t6 t7 : Value) (σ : St H) : R H :=
  bindV (vLen .slice t7 σ) fun t24 =>
  bindV (abin .neq t24 (I 3)) fun t25 =>
  ifV t25 (
  bindV (vBuild [(I 0), (I 0), (I 0), (.slice none 0 0)] []) fun t26 =>
  bindS (vStore 4 t4 t26 σ) fun σ =>
  resV [.c t4 true 4, .v (I 1)] σ) (
  note_GetTaskJ4 call f t1 t2 t4 t6 t7 σ)
def note_GetTaskJ6 (call : CallF H) (f : Nat) (t1 t2 t4 t6 : Value) (σ : St H) : R H :=
  bindV (vIndexAddr 1 t6 (I 0)) fun t20 =>
  bindV (vLoad false 1 t20 σ) fun t21 =>
  bindR (call n_strings_Split [t21, (.string ⟨⟨[47]⟩⟩)] σ) fun t22 σ =>
  note_GetTaskJ5 call f t1 t2 t4 t6 t22 σ
def note_GetTaskJ7 (call : CallF H) (f : Nat) (t1 t2 t4 : Value) (σ : St H) : R H :=
  bindR (call n_strings_Split [t1, (.string ⟨⟨[32]⟩⟩)] σ) fun t18 σ =>
  note_GetTaskJ6 call f t1 t2 t4 t18 σ
def note_GetTaskJ8 (call : CallF H) (f : Nat) (t0 t1 : Value) (σ : St H) : R H :=
  bindR (vBox t0 σ) fun t2 σ =>
  bindR (vBox (.agg ⟨[(I 0), (I 0), (I 0), (.slice none 0 0)]⟩) σ) fun t4 σ =>
  note_GetTaskJ7 call f t1 t2 t4 σ
def note_GetTask (call : CallF H) (f : Nat) (a0 a1 : Value) (σ : St H) : R H := note_GetTaskJ8 call f a0 a1 σ
theorem note_GetTaskEq (call : CallF H) (f : Nat) (a0 a1 : Value) (σ : St H) : kbody call f (codeOf P n_note_GetTask) [a0, a1] σ = note_GetTask call f a0 a1 σ :=
  kbody_of (rs := note_GetTaskR) (by kernel_rfl) (by kernel_rfl) (by kernel_rfl) (seq_eq (by kernel_rfl) (seq_eq (by kernel_rfl) (seq_eq (by kernel_rfl) (seq_eq (by kernel_rfl) (seq_eq (by kernel_rfl) (seq_eq (by kernel_rfl) (leaf (B := fun e σ => note_GetTaskJ1 call f (e 1) (e 2) (e 4) (e 8) σ) (by kernel_rfl))
  (seq_eq (by kernel_rfl) (block_eq (by kernel_rfl) (loop_eq (fun n e σ => note_GetTaskL2 call f n (e 1) (e 2) (e 4) (e 8) (e 41) (e 42) (e 43) σ) (by kernel_rfl) (by kernel_rfl) (fun n2 => (leaf (by kernel_rfl)))))
  (leaf (B := fun e σ => note_GetTaskJ3 call f (e 1) (e 2) (e 4) (e 6) (e 8) σ) (by kernel_rfl))))
  (leaf (B := fun e σ => note_GetTaskJ4 call f (e 1) (e 2) (e 4) (e 6) (e 7) σ) (by kernel_rfl)))
  (leaf (B := fun e σ => note_GetTaskJ5 call f (e 1) (e 2) (e 4) (e 6) (e 7) σ) (by kernel_rfl)))
  (leaf (B := fun e σ => note_GetTaskJ6 call f (e 1) (e 2) (e 4) (e 6) σ) (by kernel_rfl)))
  (leaf (B := fun e σ => note_GetTaskJ7 call f (e 1) (e 2) (e 4) σ) (by kernel_rfl)))
  (leaf (B := fun e σ => note_GetTaskJ8 call f (e 0) (e 1) σ) (by kernel_rfl))) (by kernel_rfl)

end
end Go.G

