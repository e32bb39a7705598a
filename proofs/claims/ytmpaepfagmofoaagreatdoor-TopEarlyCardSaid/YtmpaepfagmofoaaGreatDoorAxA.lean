/- The abstract machine, its tries and heaps, the way from the model's code to its own. -/
import GoSem.Dispatch
import GoSem.Core.Machine
import Derived.Calls
import Derived.Laws.CopyRow
set_option linter.all false
namespace Go.Ax
open Go

/-! A trie from numbers. -/
inductive Tr (α : Type) : Type where
  | leaf : Tr α
  | tip : α → Tr α
  | node : Tr α → Tr α → Tr α

noncomputable section

def Tr.get {α : Type} (d : Nat) : Tr α → Nat → Option α :=
 Nat.rec (motive := fun _ => Tr α → Nat → Option α) (fun t n => Tr.rec none (fun a => Bool.rec none (some a) (Nat.beq n 0)) (fun _ _ _ _ => none) t)
   (fun _ ih t n => Tr.rec none (fun _ => none) (fun l r _ _ => Bool.rec (ih r (Nat.div n 2)) (ih l (Nat.div n 2)) (Nat.beq (Nat.mod n 2) 0)) t) d

def Tr.set {α : Type} (d : Nat) (v : Option α) : Tr α → Nat → Tr α :=
 Nat.rec (motive := fun _ => Tr α → Nat → Tr α) (fun _ _ => Option.rec .leaf .tip v)
   (fun _ ih t n => Tr.rec (Bool.rec (.node .leaf (ih .leaf (Nat.div n 2))) (.node (ih .leaf (Nat.div n 2)) .leaf) (Nat.beq (Nat.mod n 2) 0))
      (fun _ => Bool.rec (.node .leaf (ih .leaf (Nat.div n 2))) (.node (ih .leaf (Nat.div n 2)) .leaf) (Nat.beq (Nat.mod n 2) 0))
      (fun l r _ _ => Bool.rec (.node l (ih r (Nat.div n 2))) (.node (ih l (Nat.div n 2)) r) (Nat.beq (Nat.mod n 2) 0)) t) d

inductive Od where
  | tmp (t : Nat)
  | const (v : Value)
  | fn (f : FuncId)

inductive EqK where
  | sc | nilp | nils | nilm | nilf | nili | agg (ks : List Bool)

inductive LenK where
  | str | slice | map | chan

inductive AOp where
  | val (x : Od)
  | pick (c a b : Od)
  | box (x : Od)
  | build (zero : List Value) (parts : List (Nat × Nat × Od))
  | buildSlice (len : Nat) (cells : List Value) (parts : List (Nat × Nat × Od))
  | load (agg : Bool) (size : Nat) (x : Od)
  | store (size : Nat) (a x : Od)
  | nilCheck (x : Od)
  | bin (op : BinOp) (x y : Od)
  | eq (k : EqK) (neg : Bool) (x y : Od)
  | un (op : UnOp) (x : Od)
  | conv (k : IntKind) (x : Od)
  | mkFunc (f : FuncId) (first captured : List Od)
  | mkMap
  | mkChan (bytes : Nat) (n : Od)
  | mkSlice (bytes : Nat) (zero : List Value) (l c : Od)
  | slice (size : Nat) (x : Od) (lo hi mx : Option Od)
  | sliceArr (n size : Nat) (x : Od) (lo hi mx : Option Od)
  | fieldAddr (off : Nat) (x : Od)
  | field (agg : Bool) (size off : Nat) (x : Od)
  | indexAddr (size : Nat) (x i : Od)
  | indexArr (n size : Nat) (x i : Od)
  | index (agg : Bool) (n size : Nat) (x i : Od)
  | lookup (kk : Bool) (zero : Value) (m k : Od) (ok : Bool)
  | mapUpdate (kk : Bool) (m k v : Od)
  | mapEntry (kk : Bool) (zero : Value) (m k : Od)
  | entryStore (m s v : Od)
  | extract (x : Od) (i : Nat)
  | call (f : FuncId) (args : List Od)
  | callv (x : Od) (args : List Od)
  | len (k : LenK) (x : Od)
  | append (size bytes : Nat) (zero : List Value) (zeros : Bool) (s x : Od)
  | cap (x : Od)
  | mn (xs : List Od)
  | mx (xs : List Od)
  | delete (kk : Bool) (m k : Od)
  | sel (send : Option Od) (zero : Value) (c : Od)
  | add64 (x y c : Od)
  | fail

structure AI where
  dst : Option Nat
  op : AOp
  guard : Option (Nat × Bool)

/-- an item of a region that draws its order: a plain instruction; a read that is noted; an effect with the notes that are to be looked at again behind it -/
inductive DI where
  | pure (i : AI)
  | read (i : AI) (id : Nat)
  | effect (i : AI) (chk : List Nat)

inductive ACode where
  | skip
  | region (l : List AI)
  | dregion (l : List DI)
  | seq (a b : ACode)
  | cond (c : Od) (a b : ACode)
  | block (id : Nat) (b : ACode)
  | loop (b : ACode)
  | exit (id : Nat)
  | ret
  | fail

inductive AObj where
  | cells (cs : List Value) (ro : Bool) (z : Nat)
  | map (es : List MapEntry) (clock : Nat)
  | chan (cap : Nat) (buf : List Value) (sent rcvd : Nat)

/-- what keeps the objects: a trie where a kernel runs it, a function where one reasons about it -/
structure HeapI where
  T : Type
  get : T → Nat → Option AObj
  set : T → Nat → Option AObj → T
  ok : Nat → Bool
  get_set : ∀ t k o, ok k = true → get (set t k o) k = o
  get_set_ne : ∀ t c k o, ok k = true → c ≠ k → get (set t k o) c = get t c
  ok_of : ∀ t k o, get t k = some o → ok k = true
  set_comm : ∀ t a b u v, ok a = true → ok b = true → a ≠ b → set (set t a u) b v = set (set t b v) a u

structure St (H : HeapI) where
  heap : H.T
  nxt : Nat

section
variable {H : HeapI}

abbrev Env := Tr Value
abbrev R (H : HeapI) := Option (Value × St H)
abbrev CallF (H : HeapI) := FuncId → List Value → St H → R H

def undefV : Value := .tuple #[]

def St.obj (σ : St H) (b : Nat) : Option AObj := H.get σ.heap b
def St.put (σ : St H) (b : Nat) (o : Option AObj) : St H := ⟨H.set σ.heap b o, σ.nxt⟩

def ev (o : Od) (τ : Env) : Value :=
  Od.rec (fun t => Option.rec undefV (fun v => v) (Tr.get 9 τ t)) (fun v => v) (fun f => .func (.func f) #[] #[]) o

def evs (l : List Od) (τ : Env) : List Value := List.rec [] (fun x _ ih => ev x τ :: ih) l

def St.cells (σ : (St H)) (b : Nat) : Option (List Value) :=
  Option.rec none (fun o => AObj.rec (fun cs _ _ => some cs) (fun _ _ => none) (fun _ _ _ _ => none) o) (σ.obj b)

def fresh (σ : (St H)) (o : AObj) (f : Nat → Value) : (R H) :=
  Bool.rec none (some (f σ.nxt, ⟨H.set σ.heap σ.nxt (some o), Nat.succ σ.nxt⟩)) (H.ok σ.nxt)

def oneC : Value → Bool
  | .agg _ | .tuple _ => false
  | _ => true

def one (cs : List Value) : Nat → Option Value :=
  List.rec (fun _ => none) (fun c _ ih n => Nat.rec (some c) (fun n _ => ih n) n) cs

def take (cs : List Value) : Nat → Option (List Value) :=
  List.rec (fun n => Nat.rec (some []) (fun _ _ => none) n) (fun c _ ih n => Nat.rec (some []) (fun n _ => Option.rec none (fun r => some (c :: r)) (ih n)) n) cs

def get (cs : List Value) (size : Nat) : Nat → Option (List Value) :=
  List.rec (fun n => Nat.rec (take [] size) (fun _ _ => none) n) (fun c cs ih n => Nat.rec (take (c :: cs) size) (fun n _ => ih n) n) cs

def putHere (cs : List Value) : List Value → Option (List Value) :=
  List.rec (fun vs => List.rec (some []) (fun _ _ _ => none) vs)
    (fun c cs ih vs => List.rec (some (c :: cs)) (fun v vs _ => Bool.rec none (Option.rec none (fun r => some (v :: r)) (ih vs)) (oneC v)) vs) cs

def put (vs : List Value) (cs : List Value) : Nat → Option (List Value) :=
  List.rec (fun n => Nat.rec (putHere [] vs) (fun _ _ => none) n)
    (fun c cs ih n => Nat.rec (putHere (c :: cs) vs) (fun n _ => Option.rec none (fun r => some (c :: r)) (ih n)) n) cs

def mkv (agg : Bool) (size : Nat) (cs : List Value) (o : Nat) : Option Value :=
  Bool.rec (one cs o) (Option.rec none (fun l => some (.agg ⟨l⟩)) (get cs size o)) agg

def rep (z : List Value) : Nat → List Value
  | 0 => []
  | n + 1 => z ++ rep z n

def pureR (σ : (St H)) (v : Option Value) : (R H) := Option.rec none (fun v => some (v, σ)) v

def opVal (x : Od) (_ : (CallF H)) (τ : Env) (σ : (St H)) : (R H) := some (ev x τ, σ)
def opPick (c a b : Od) (_ : (CallF H)) (τ : Env) (σ : (St H)) : (R H) :=
  match ev c τ with | .bool true => some (ev a τ, σ) | .bool false => some (ev b τ, σ) | _ => none
def opBox (x : Od) (_ : (CallF H)) (τ : Env) (σ : (St H)) : (R H) := fresh σ (.cells (ev x τ).cells.toList false 0) fun b => .pointer (some ⟨b, 0, none⟩)
def putAll (ps : List (Nat × Nat × Od)) (τ : Env) : List Value → Option (List Value) :=
  List.rec (fun cs => some cs) (fun p _ ih cs =>
    (fun (vs : List Value) => Bool.rec none (Option.rec none ih (put vs cs p.1)) (Nat.beq vs.length p.2.1)) (ev p.2.2 τ).cells.toList) ps
def opBuild (z : List Value) (ps : List (Nat × Nat × Od)) (_ : (CallF H)) (τ : Env) (σ : (St H)) : (R H) :=
  Option.rec none (fun cs => some (.agg ⟨cs⟩, σ)) (putAll ps τ z)
def opBuildSlice (n : Nat) (z : List Value) (ps : List (Nat × Nat × Od)) (_ : (CallF H)) (τ : Env) (σ : (St H)) : (R H) :=
  Option.rec none (fun cs => fresh σ (.cells cs false 1) fun b => .slice (some ⟨b, 0, none⟩) n n) (putAll ps τ z)
def loadAt (agg : Bool) (size : Nat) (σ : (St H)) (a : Addr) : (R H) :=
  Option.rec none (fun cs => pureR σ (mkv agg size cs a.off)) (σ.cells a.block)
def opLoad (agg : Bool) (size : Nat) (x : Od) (_ : (CallF H)) (τ : Env) (σ : (St H)) : (R H) :=
  match ev x τ with | .pointer (some a) => loadAt agg size σ a | _ => none
def storeAt (size : Nat) (p : Addr) (vs : List Value) (σ : (St H)) : (R H) :=
  match σ.obj p.block with
  | some (.cells cs false z) =>
    Bool.rec none (Option.rec none (fun cs' => some (undefV, σ.put p.block (some (.cells cs' false z)))) (put vs cs p.off)) (Nat.beq vs.length size)
  | _ => none
def opStore (size : Nat) (a x : Od) (_ : (CallF H)) (τ : Env) (σ : (St H)) : (R H) :=
  match ev a τ with | .pointer (some p) => storeAt size p (ev x τ).cells.toList σ | _ => none
def opNil (x : Od) (_ : (CallF H)) (τ : Env) (σ : (St H)) : (R H) :=
  match ev x τ with | .pointer (some a) => some (.pointer (some a), σ) | _ => none

def binInt (op : BinOp) (k : IntKind) (a b : Int) : Option Value :=
  match op with
  | .add => some (.int k (k.wrap (a + b)))
  | .sub => some (.int k (k.wrap (a - b)))
  | .mul => some (.int k (k.wrap (a * b)))
  | .quo => if b = 0 then none else some (.int k (k.wrap (a.tdiv b)))
  | .rem => if b = 0 then none else some (.int k (a.tmod b))
  | .and => some (.int k (k.wrap (BitVec.ofInt k.bits a &&& BitVec.ofInt k.bits b).toNat))
  | .or => some (.int k (k.wrap (BitVec.ofInt k.bits a ||| BitVec.ofInt k.bits b).toNat))
  | .xor => some (.int k (k.wrap (BitVec.ofInt k.bits a ^^^ BitVec.ofInt k.bits b).toNat))
  | .andNot => some (.int k (k.wrap (BitVec.ofInt k.bits a &&& ~~~ (BitVec.ofInt k.bits b)).toNat))
  | .eql => some (.bool (decide (a = b)))
  | .neq => some (.bool (!decide (a = b)))
  | .lss => some (.bool (decide (a < b)))
  | .leq => some (.bool (decide (a ≤ b)))
  | .gtr => some (.bool (decide (b < a)))
  | .geq => some (.bool (decide (b ≤ a)))
  | _ => none

def binStr (op : BinOp) (a b : List UInt8) : Option Value :=
  match op with
  | .add => if a.length + b.length ≤ 2 ^ 40 then some (.string ⟨⟨a ++ b⟩⟩) else none
  | .eql => some (.bool (a == b))
  | .neq => some (.bool (!(a == b)))
  | _ => none

def abin (op : BinOp) (x y : Value) : Option Value :=
  match op, x, y with
  | .shl, .int k a, .int _ b => if b < 0 then none else some (.int k (k.wrap (a * 2 ^ (min b.toNat k.bits))))
  | .shr, .int k a, .int _ b => if b < 0 then none else some (.int k (a.fdiv (2 ^ (min b.toNat k.bits))))
  | op, .int k a, .int k' b => if k = k' then binInt op k a b else none
  | op, .string a, .string b => binStr op a.data.toList b.data.toList
  | _, _, _ => none

/-- scalars of one kind: true: numbers, false: bools -/
def scEq (k : Bool) (x y : Value) : Option Bool :=
  match k, x, y with
  | true, .int j a, .int k b => if j = k then some (decide (a = b)) else none
  | false, .bool a, .bool b => some (a == b)
  | _, _, _ => none

def aggEq : List Bool → List Value → List Value → Option Bool
  | [], _, _ => some true
  | k :: ks, a :: as, b :: bs => match scEq k a b with
    | some true => aggEq ks as bs
    | some false => some false
    | none => none
  | _, _, _ => none

def aeq (k : EqK) (x y : Value) : Option Bool :=
  match k, x, y with
  | .sc, .bool a, .bool b => some (a == b)
  | .nilp, .pointer none, .pointer b => some b.isNone
  | .nilp, .pointer _, .pointer none => some false
  | .nils, .slice none _ _, .slice b _ _ => some b.isNone
  | .nils, .slice _ _ _, .slice none _ _ => some false
  | .nilm, .map none, .map b => some b.isNone
  | .nilm, .map _, .map none => some false
  | .nilf, .nilFunc, .nilFunc => some true
  | .nilf, .func _ _ _, .nilFunc => some false
  | .nili, .nilIface, .nilIface => some true
  | .agg ks, .agg a, .agg b => aggEq ks a.toList b.toList
  | _, _, _ => none

def aun (op : UnOp) (x : Value) : Option Value :=
  match op, x with
  | .neg, .int k n => some (.int k (k.wrap (0 - n)))
  | .not, .bool b => some (.bool !b)
  | _, _ => none

def opBin (op : BinOp) (x y : Od) (_ : (CallF H)) (τ : Env) (σ : (St H)) : (R H) := pureR σ (abin op (ev x τ) (ev y τ))
def opEq (k : EqK) (neg : Bool) (x y : Od) (_ : (CallF H)) (τ : Env) (σ : (St H)) : (R H) :=
  Option.rec none (fun b => some (.bool (neg != b), σ)) (aeq k (ev x τ) (ev y τ))
def opUn (op : UnOp) (x : Od) (_ : (CallF H)) (τ : Env) (σ : (St H)) : (R H) := pureR σ (aun op (ev x τ))
def opConv (k : IntKind) (x : Od) (_ : (CallF H)) (τ : Env) (σ : (St H)) : (R H) :=
  match ev x τ with | .int _ n => some (.int k (k.wrap n), σ) | _ => none
def opFunc (f : FuncId) (xs ys : List Od) (_ : (CallF H)) (τ : Env) (σ : (St H)) : (R H) := some (.func (.func f) ⟨evs xs τ⟩ ⟨evs ys τ⟩, σ)
def opMkMap (_ : (CallF H)) (_ : Env) (σ : (St H)) : (R H) := fresh σ (.map [] 0) fun b => .map (some b)
def opMkChan (bytes : Nat) (n : Od) (_ : (CallF H)) (τ : Env) (σ : (St H)) : (R H) :=
  match ev n τ with
  | .int _ m => if 0 ≤ m ∧ m ≤ 2 ^ 40 ∧ m * bytes ≤ 2 ^ 40 then fresh σ (.chan m.toNat [] 0 0) fun b => .chan (some b) else none
  | _ => none
def opMkSlice (bytes : Nat) (z : List Value) (l c : Od) (_ : (CallF H)) (τ : Env) (σ : (St H)) : (R H) :=
  match ev l τ, ev c τ with
  | .int _ l, .int _ c =>
    if 0 ≤ l ∧ l ≤ c ∧ c * bytes ≤ 2 ^ 40 ∧ c ≤ 2 ^ 40 then fresh σ (.cells (rep z c.toNat) false 1) fun b => .slice (some ⟨b, 0, none⟩) l.toNat c.toNat else none
  | _, _ => none

def bound (x : Value) (y : Nat) : Option Nat :=
  match x with
  | .int _ i => if 0 ≤ i ∧ i ≤ y then some i.toNat else none
  | _ => none

/-- low, high, max of a slice expression; high is at most max -/
def bounds (len cap : Nat) (lo hi mx : Option Value) : Option (Nat × Nat × Nat) :=
  match (match mx with | some v => bound v cap | none => some cap) with
  | none => none
  | some m =>
    match (match hi, mx with | some v, _ => bound v m | none, none => some len | none, some _ => none) with
    | none => none
    | some h =>
      match (match lo with | some v => bound v h | none => some 0) with
      | none => none
      | some l => bif Nat.ble h m then some (l, h, m) else none

def evo (o : Option Od) (τ : Env) : Option Value := match o with | some x => some (ev x τ) | none => none

def sliceV (size : Nat) (a : Option Addr) (full : Bool) (l h m : Nat) : Option Value :=
  match a with
  | none => some (.slice none (h - l) (m - l))
  | some ⟨b, o, none⟩ => some (.slice (some ⟨b, bif Nat.beq m l then o else o + l * size, none⟩) (h - l) (m - l))
  | some ⟨b, o, some 0⟩ =>
    bif full then some (.slice (some ⟨b, bif Nat.beq m l then o else o + l * size, none⟩) (h - l) (m - l))
    else bif Nat.beq m l && Nat.blt 0 l then some (.slice (some ⟨b, o, some 1⟩) 0 0)
    else some (.slice (some ⟨b, o + l * size, some 0⟩) (h - l) (m - l))
  | _ => none

def opSlice (size : Nat) (x : Od) (lo hi mx : Option Od) (_ : (CallF H)) (τ : Env) (σ : (St H)) : (R H) :=
  match ev x τ with
  | .slice a len cap => match bounds len cap (evo lo τ) (evo hi τ) (evo mx τ) with
    | some (l, h, m) => pureR σ (sliceV size a mx.isSome l h m)
    | none => none
  | _ => none
def opSliceArr (n size : Nat) (x : Od) (lo hi mx : Option Od) (_ : (CallF H)) (τ : Env) (σ : (St H)) : (R H) :=
  match ev x τ with
  | .pointer (some ⟨b, o, none⟩) => match bounds n n (evo lo τ) (evo hi τ) (evo mx τ) with
    | some (l, h, m) => some (.slice (some ⟨b, bif Nat.beq m l then o else o + l * size, none⟩) (h - l) (m - l), σ)
    | none => none
  | _ => none
def opFieldAddr (off : Nat) (x : Od) (_ : (CallF H)) (τ : Env) (σ : (St H)) : (R H) :=
  match ev x τ with | .pointer (some a) => some (.pointer (some ⟨a.block, Nat.add a.off off, none⟩), σ) | _ => none
def opField (agg : Bool) (size off : Nat) (x : Od) (_ : (CallF H)) (τ : Env) (σ : (St H)) : (R H) :=
  match ev x τ with | .agg cs => pureR σ (mkv agg size cs.toList off) | _ => none
def opIndexAddr (size : Nat) (x i : Od) (_ : (CallF H)) (τ : Env) (σ : (St H)) : (R H) :=
  match ev x τ, ev i τ with
  | .slice (some a) len _, .int _ i => if 0 ≤ i ∧ i < len then some (.pointer (some ⟨a.block, a.off + i.toNat * size, none⟩), σ) else none
  | _, _ => none
def opIndexArr (n size : Nat) (x i : Od) (_ : (CallF H)) (τ : Env) (σ : (St H)) : (R H) :=
  match ev x τ, ev i τ with
  | .pointer (some a), .int _ i => if 0 ≤ i ∧ i < n then some (.pointer (some ⟨a.block, a.off + i.toNat * size, none⟩), σ) else none
  | _, _ => none
def opIndex (agg : Bool) (n size : Nat) (x i : Od) (_ : (CallF H)) (τ : Env) (σ : (St H)) : (R H) :=
  match ev x τ, ev i τ with
  | .agg cs, .int _ i => if 0 ≤ i ∧ i < n then pureR σ (mkv agg size cs.toList (i.toNat * size)) else none
  | _, _ => none

def keyEq : Value → Value → Option Bool
  | .int j a, .int k b => if j = k then some (decide (a = b)) else none
  | .string a, .string b => some (a.data.toList == b.data.toList)
  | _, _ => none

/-- where a key stands among entries -/
def findE (k : Value) : List MapEntry → Nat → Option (Option (Nat × Value))
  | [], _ => some none
  | e :: es, i => match keyEq k e.key with
    | some true => some (some (i, e.val))
    | some false => findE k es (i + 1)
    | none => none

def setE (v : Value) : List MapEntry → Nat → List MapEntry
  | [], _ => []
  | e :: es, 0 => { e with val := v } :: es
  | e :: es, n + 1 => e :: setE v es n

def delE : List MapEntry → Nat → List MapEntry
  | [], _ => []
  | _ :: es, 0 => es
  | e :: es, n + 1 => e :: delE es n

def nthE : List MapEntry → Nat → Option MapEntry
  | [], _ => none
  | e :: _, 0 => some e
  | _ :: es, n + 1 => nthE es n

def bornAt (b : Int) : List MapEntry → Nat → Option Nat
  | [], _ => none
  | e :: es, i => if (e.born : Int) = b then some i else bornAt b es (i + 1)

/-- a key of its map's kind: true: numbers, false: strings -/
def keyIs (kk : Bool) (v : Value) : Bool :=
  match kk, v with
  | true, .int _ _ | false, .string _ => true
  | _, _ => false

def St.map (σ : (St H)) : Value → Option (List MapEntry)
  | .map none => some []
  | .map (some r) => match σ.obj r with | some (.map es _) => some es | _ => none
  | _ => none

def opLookup (kk : Bool) (z : Value) (m k : Od) (ok : Bool) (_ : (CallF H)) (τ : Env) (σ : (St H)) : (R H) :=
  match σ.map (ev m τ) with
  | some es => bif keyIs kk (ev k τ) then
      match findE (ev k τ) es 0 with
      | some (some (_, v)) => some (bif ok then .tuple #[v, .bool true] else v, σ)
      | some none => some (bif ok then .tuple #[z, .bool false] else z, σ)
      | none => none
    else none
  | none => none
def opMapUpdate (kk : Bool) (m k v : Od) (_ : (CallF H)) (τ : Env) (σ : (St H)) : (R H) :=
  match ev m τ with
  | .map (some r) => match σ.obj r with
    | some (.map es clock) => bif keyIs kk (ev k τ) then
        match findE (ev k τ) es 0 with
        | some (some (i, _)) => some (undefV, σ.put r (some (.map (setE (ev v τ) es i) clock)))
        | some none => some (undefV, σ.put r (some (.map (es ++ [{ key := ev k τ, val := ev v τ, born := clock }]) (clock + 1))))
        | none => none
      else none
    | _ => none
  | _ => none
def opMapEntry (kk : Bool) (z : Value) (m k : Od) (_ : (CallF H)) (τ : Env) (σ : (St H)) : (R H) :=
  match ev m τ with
  | .map (some r) => match σ.obj r with
    | some (.map es clock) => bif keyIs kk (ev k τ) then
        match findE (ev k τ) es 0 with
        | some (some (i, v)) => match nthE es i with
          | some e => some (.tuple #[v, .int .i64 e.born], σ)
          | none => none
        | some none => some (.tuple #[z, .int .i64 clock], σ.put r (some (.map (es ++ [{ key := ev k τ, val := z, born := clock }]) (clock + 1))))
        | none => none
      else none
    | _ => none
  | _ => none
def opEntryStore (m s v : Od) (_ : (CallF H)) (τ : Env) (σ : (St H)) : (R H) :=
  match ev m τ, ev s τ with
  | .map (some r), .int _ b => match σ.obj r with
    | some (.map es clock) => match bornAt b es 0 with
      | some i => some (undefV, σ.put r (some (.map (setE (ev v τ) es i) clock)))
      | none => none
    | _ => none
  | _, _ => none
def opExtract (x : Od) (i : Nat) (_ : (CallF H)) (τ : Env) (σ : (St H)) : (R H) :=
  match ev x τ with | .tuple vs => pureR σ (one vs.toList i) | _ => none
def opCall (f : FuncId) (xs : List Od) (call : (CallF H)) (τ : Env) (σ : (St H)) : (R H) := call f (evs xs τ) σ
def opCallv (x : Od) (xs : List Od) (call : (CallF H)) (τ : Env) (σ : (St H)) : (R H) :=
  match ev x τ with | .func (.func f) first captured => call f (first.toList ++ evs xs τ ++ captured.toList) σ | _ => none
def opLen (k : LenK) (x : Od) (_ : (CallF H)) (τ : Env) (σ : (St H)) : (R H) :=
  match k, ev x τ with
  | .slice, .slice _ n _ => some (.int .i64 n, σ)
  | .str, .string s => some (.int .i64 s.data.toList.length, σ)
  | .map, .map m => match σ.map (.map m) with | some es => some (.int .i64 es.length, σ) | none => none
  | .chan, .chan none => some (.int .i64 0, σ)
  | .chan, .chan (some r) => match σ.obj r with
    | some (.chan _ buf _ _) => some (.int .i64 buf.length, σ)
    | _ => none
  | _, _ => none

/-- the first n elements of a slice -/
def firstC (σ : (St H)) (size n : Nat) : Value → Option (List Value)
  | .slice none _ _ => some []
  | .slice (some a) _ _ => bif Nat.beq n 0 then some [] else match σ.cells a.block with | some cs => get cs (n * size) a.off | none => none
  | _ => none

def moreN (bytes : Nat) (zeros : Bool) (x : Value) : Option Nat :=
  match zeros, x with
  | true, .int _ n => if 0 ≤ n ∧ n ≤ 2 ^ 40 ∧ n * bytes ≤ 2 ^ 40 then some n.toNat else none
  | false, .slice _ n _ => some n
  | _, _ => none

def moreC (σ : (St H)) (size n : Nat) (zero : List Value) (zeros : Bool) (x : Value) : Option (List Value) :=
  match zeros with
  | true => some (rep zero n)
  | false => firstC σ size n x

def allOne : List Value → Bool
  | [] => true
  | v :: vs => oneC v && allOne vs

def growTo (σ : (St H)) (cs : List Value) (size need : Nat) : (R H) :=
  fresh σ (.cells cs false size) fun b => .slice (some ⟨b, 0, some 0⟩) need need

def appendTo (zeros : Bool) (σ : (St H)) (size bytes : Nat) (base : Option Addr) (len cap n : Nat) (new : List Value) : (R H) :=
  bif Nat.ble (len + n) cap then
    match base with
    | none => some (.slice none (len + n) cap, σ)
    | some a =>
      bif Nat.beq n 0 then some (.slice base len cap, σ) else
      match σ.obj a.block with
      | some (.cells cs false z) =>
        match put new cs (a.off + len * size) with
        | some cs' => some (.slice base (len + n) cap, σ.put a.block (some (.cells cs' false z)))
        | none => none
      | _ => none
  else bif Nat.ble ((len + n) * bytes) (2 ^ 40) && Nat.ble (len + n) (2 ^ 40) then
    match base with
    | none => bif Nat.beq len 0 then growTo σ new size (len + n) else none
    | some a =>
      bif zeros then none else
      match σ.obj a.block with
      | some (.cells cs ro z) =>
        match get cs (len * size) a.off with
        | none => none
        | some old =>
          match a.spot with
          | none => growTo σ (old ++ new) size (len + n)
          | some 0 => bif !ro && Nat.beq z size && Nat.beq (a.off + cap * size) cs.length && allOne new then growTo (σ.put a.block none) (old ++ new) size (len + n) else none
          | _ => none
      | _ => none
  else none

def opAppend (size bytes : Nat) (zero : List Value) (zeros : Bool) (s x : Od) (_ : (CallF H)) (τ : Env) (σ : (St H)) : (R H) :=
  match ev s τ with
  | .slice base len cap =>
    match moreN bytes zeros (ev x τ) with
    | none => none
    | some n => match moreC σ size n zero zeros (ev x τ) with
      | none => none
      | some new => bif Nat.beq new.length (n * size) then appendTo zeros σ size bytes base len cap n new else none
  | _ => none
def opCap (x : Od) (_ : (CallF H)) (τ : Env) (σ : (St H)) : (R H) :=
  match ev x τ with
  | .slice none _ c => some (.int .i64 c, σ)
  | .slice (some ⟨_, _, none⟩) _ c => some (.int .i64 c, σ)
  | _ => none

def foldInt (f : Int → Int → Int) : Value → List Value → Option Value
  | v, [] => some v
  | .int k a, .int _ b :: vs => foldInt f (.int k (f a b)) vs
  | _, _ => none
def opMn (xs : List Od) (_ : (CallF H)) (τ : Env) (σ : (St H)) : (R H) :=
  match evs xs τ with | v :: vs => pureR σ (foldInt (fun a b => if b < a then b else a) v vs) | [] => none
def opMx (xs : List Od) (_ : (CallF H)) (τ : Env) (σ : (St H)) : (R H) :=
  match evs xs τ with | v :: vs => pureR σ (foldInt (fun a b => if a < b then b else a) v vs) | [] => none
def opDelete (kk : Bool) (m k : Od) (_ : (CallF H)) (τ : Env) (σ : (St H)) : (R H) :=
  match ev m τ with
  | .map none => bif keyIs kk (ev k τ) then some (undefV, σ) else none
  | .map (some r) => match σ.obj r with
    | some (.map es clock) => bif keyIs kk (ev k τ) then
        match findE (ev k τ) es 0 with
        | some (some (i, _)) => some (undefV, σ.put r (some (.map (delE es i) clock)))
        | some none => some (undefV, σ)
        | none => none
      else none
    | _ => none
  | _ => none
def opSel (send : Option Od) (z : Value) (c : Od) (_ : (CallF H)) (τ : Env) (σ : (St H)) : (R H) :=
  match ev c τ with
  | .chan (some r) => match σ.obj r with
    | some (.chan cap buf sent rcvd) =>
      match send with
      | some x =>
        bif Nat.blt buf.length cap then
          some (.tuple #[.int .i64 0, .bool false], σ.put r (some (.chan cap (buf ++ [ev x τ]) (sent + 1) rcvd)))
        else some (.tuple #[.int .i64 (-1), .bool false], σ)
      | none =>
        match buf with
        | [] => some (.tuple #[.int .i64 (-1), .bool false, z], σ)
        | v :: buf => some (.tuple #[.int .i64 0, .bool true, v], σ.put r (some (.chan cap buf sent (rcvd + 1))))
    | _ => none
  | .chan none => match send with
    | some _ => some (.tuple #[.int .i64 (-1), .bool false], σ)
    | none => some (.tuple #[.int .i64 (-1), .bool false, z], σ)
  | _ => none
def opAdd64 (x y c : Od) (_ : (CallF H)) (τ : Env) (σ : (St H)) : (R H) :=
  match ev x τ, ev y τ, ev c τ with
  | .int .u64 x, .int .u64 y, .int .u64 c =>
    if 0 ≤ x ∧ 0 ≤ y ∧ 0 ≤ c ∧ c ≤ 1 then
      some (.tuple #[.int .u64 ((x + y + c) % 2 ^ 64), .int .u64 ((x + y + c) / 2 ^ 64)], σ)
    else none
  | _, _, _ => none
def opFail (_ : (CallF H)) (_ : Env) (_ : (St H)) : (R H) := none

def aop (o : AOp) : (CallF H) → Env → (St H) → (R H) :=
  @AOp.casesOn (fun _ => (CallF H) → Env → (St H) → (R H)) o opVal opPick opBox opBuild opBuildSlice opLoad opStore opNil opBin opEq opUn opConv opFunc opMkMap
    opMkChan opMkSlice opSlice opSliceArr opFieldAddr opField opIndexAddr opIndexArr opIndex opLookup opMapUpdate opMapEntry opEntryStore opExtract opCall opCallv opLen opAppend
    opCap opMn opMx opDelete opSel opAdd64 opFail

def setD (d : Option Nat) (v : Value) (τ : Env) : Env := Option.rec τ (fun t => Tr.set 9 (some v) τ t) d

abbrev RE (H : HeapI) := Option (Env × St H)
def doOp (op : AOp) (dst : Option Nat) (call : (CallF H)) (τ : Env) (σ : (St H)) : (RE H) :=
  Option.rec none (fun p => Prod.rec (fun v σ' => some (setD dst v τ, σ')) p) (aop op call τ σ)
def yes (t : Nat) (want : Bool) (τ : Env) : Bool :=
  match Tr.get 9 τ t with
  | some (.bool b) => b == want
  | _ => false
def ai (i : AI) : (CallF H) → Env → (St H) → (RE H) :=
  AI.rec (fun dst op g => Option.rec (doOp op dst) (fun p => Prod.rec (fun t want call τ σ => Bool.rec (some (setD dst undefV τ, σ)) (doOp op dst call τ σ) (yes t want τ)) p) g) i
def ais (l : List AI) : (CallF H) → Env → (St H) → (RE H) :=
  List.rec (fun _ τ σ => some (τ, σ)) (fun i _ ih call τ σ => Option.rec none (fun p => Prod.rec (fun τ' σ' => ih call τ' σ') p) (ai i call τ σ)) l

/-- a noted read: its number, the operation, the environment then, what it gave -/
structure Note where
  id : Nat
  op : AOp
  τ : Env
  v : Value

def scBeq : Value → Value → Bool
  | .int j a, .int k b => decide (j = k) && decide (a = b)
  | .bool a, .bool b => a == b
  | .string a, .string b => a.data.toList == b.data.toList
  | .pointer a, .pointer b => decide (a = b)
  | .slice a l c, .slice b m d => decide (a = b) && (Nat.beq l m && Nat.beq c d)
  | .map a, .map b => decide (a = b)
  | .chan a, .chan b => decide (a = b)
  | .nilFunc, .nilFunc => true
  | .nilIface, .nilIface => true
  | _, _ => false
def scBeqL : List Value → List Value → Bool
  | [], [] => true
  | a :: as, b :: bs => scBeq a b && scBeqL as bs
  | _, _ => false
def vbeq : Value → Value → Bool
  | .agg a, .agg b => scBeqL a.toList b.toList
  | .tuple a, .tuple b => scBeqL a.toList b.toList
  | a, b => scBeq a b

def memN (n : Nat) : List Nat → Bool
  | [] => false
  | m :: ms => Nat.beq n m || memN n ms

def yesO (g : Option (Nat × Bool)) (τ : Env) : Bool := Option.rec true (fun p => yes p.1 p.2 τ) g
def nocall : (CallF H) := fun _ _ _ => none
def recheck (chk : List Nat) (σ : (St H)) (ns : List Note) : Bool :=
  List.rec true (fun n _ ih => Bool.rec ih (Option.rec false (fun p => Bool.rec false ih (vbeq p.1 n.v)) (aop n.op nocall n.τ σ)) (memN n.id chk)) ns

def dis (l : List DI) : (CallF H) → List Note → Env → (St H) → (RE H) :=
  List.rec (fun _ _ τ σ => some (τ, σ)) (fun d _ ih => DI.rec
    (fun i call ns τ σ => Option.rec none (fun p => Prod.rec (fun τ' σ' => ih call ns τ' σ') p) (ai i call τ σ))
    (fun i id call ns τ σ => Bool.rec (ih call ns (setD i.dst undefV τ) σ)
      (Option.rec none (fun p => Prod.rec (fun v σ' => ih call (⟨id, i.op, τ, v⟩ :: ns) (setD i.dst v τ) σ') p) (aop i.op call τ σ)) (yesO i.guard τ))
    (fun i chk call ns τ σ => Option.rec none (fun p => Prod.rec (fun τ' σ' => Bool.rec none (Bool.rec none (ih call ns τ' σ') (recheck chk σ' ns)) (Nat.ble σ.nxt σ'.nxt)) p) (ai i call τ σ)) d) l

inductive AX where
  | normal
  | exit (id : Nat)
  | ret

abbrev RX (H : HeapI) := Option (AX × Env × St H)
def thenX (k : Env → (St H) → (RX H)) (r : (RX H)) : (RX H) :=
  Option.rec none (fun r => Prod.rec (fun x p => AX.rec (Prod.rec k p) (fun id => some (.exit id, p)) (some (.ret, p)) x) r) r
def blockX (id : Nat) (r : (RX H)) : (RX H) :=
  Option.rec none (fun r => Prod.rec (fun x p => AX.rec (some (.normal, p)) (fun id' => Bool.rec (some (.exit id', p)) (some (.normal, p)) (Nat.beq id' id)) (some (.ret, p)) x) r) r
def aloop (body : Env → (St H) → (RX H)) (n : Nat) : Env → (St H) → (RX H) :=
  Nat.rec (fun _ _ => none) (fun _ ih τ σ => thenX ih (body τ σ)) n

def cRegion (l : List AI) (call : (CallF H)) (_ : Nat) (τ : Env) (σ : (St H)) : (RX H) := Option.rec none (fun p => some (.normal, p)) (ais l call τ σ)
def cDraw (l : List DI) (call : (CallF H)) (_ : Nat) (τ : Env) (σ : (St H)) : (RX H) := Option.rec none (fun p => some (.normal, p)) (dis l call [] τ σ)

def acode (c : ACode) : (CallF H) → Nat → Env → (St H) → (RX H) :=
  ACode.rec (motive := fun _ => (CallF H) → Nat → Env → (St H) → (RX H))
    (fun _ _ τ σ => some (.normal, τ, σ))
    cRegion cDraw
    (fun _ _ a b call f τ σ => thenX (b call f) (a call f τ σ))
    (fun c _ _ a b call f τ σ => match ev c τ with | .bool true => a call f τ σ | .bool false => b call f τ σ | _ => none)
    (fun id _ b call f τ σ => blockX id (b call f τ σ))
    (fun _ b call f τ σ => aloop (b call f) f τ σ)
    (fun id _ _ τ σ => some (.exit id, τ, σ))
    (fun _ _ τ σ => some (.ret, τ, σ))
    (fun _ _ _ _ => none) c

/-- a result variable: a slot, or a cell's address with its shape -/
inductive ARes where
  | tmp (t : Nat)
  | cell (t : Nat) (agg : Bool) (size : Nat)
  | bad

structure AFn where
  body : ACode
  results : List ARes
  nt : Nat

def ares (τ : Env) (σ : (St H)) (r : ARes) : Option Value :=
  ARes.rec (fun t => some (ev (.tmp t) τ)) (fun t agg size => match ev (.tmp t) τ with
    | .pointer (some a) => Option.rec none (fun cs => mkv agg size cs a.off) (σ.cells a.block)
    | _ => none) none r
def aresL (τ : Env) (σ : (St H)) (l : List ARes) : Option (List Value) :=
  List.rec (some []) (fun r _ ih => Option.rec none (fun v => Option.rec none (fun vs => some (v :: vs)) ih) (ares τ σ r)) l
def aresV (τ : Env) (σ : (St H)) (l : List ARes) : (R H) :=
  match aresL τ σ l with
  | some [v] => some (v, σ)
  | some vs => some (.tuple ⟨vs⟩, σ)
  | none => none
def init (l : List Value) : Nat → Env → Env :=
  List.rec (fun _ τ => τ) (fun v _ ih n τ => ih (Nat.succ n) (Tr.set 9 (some v) τ n)) l
def abody (call : (CallF H)) (fuel : Nat) (fn : AFn) (args : List Value) (σ : (St H)) : (R H) :=
  bif Nat.ble args.length fn.nt then
    match acode fn.body call fuel (init args 0 .leaf) σ with
    | some (.normal, τ, σ') => aresV τ σ' fn.results
    | some (.ret, τ, σ') => aresV τ σ' fn.results
    | _ => none
  else none

abbrev Hook (H : HeapI) := List Value → St H → R H
def acall (fns : FuncId → Option AFn) (hooks : FuncId → Option (Hook H)) (loops : Nat) (n : Nat) : (CallF H) :=
  Nat.rec (fun _ _ _ => none) (fun _ ih f args σ => match hooks f with
    | some h => h args σ
    | none => match fns f with
      | some fn => abody ih loops fn args σ
      | none => none) n
end
end
end Go.Ax

namespace Go.Ax
open Go
variable {H : HeapI}

theorem beq_no {n m : Nat} (h : n ≠ m) : Nat.beq n m = false := by
  cases hb : Nat.beq n m
  · rfl
  · exact absurd (Nat.eq_of_beq_eq_true hb) h
theorem beq_yes (n : Nat) : Nat.beq n n = true := Nat.beq_refl n

namespace Tr
variable {α : Type}
theorem get_z_leaf (n : Nat) : Tr.get 0 (.leaf : Tr α) n = none := rfl
theorem get_z_tip (a : α) (n : Nat) : Tr.get 0 (.tip a) n = bif Nat.beq n 0 then some a else none := by
  show @Bool.rec (fun _ => Option α) none (some a) (Nat.beq n 0) = _; cases Nat.beq n 0 <;> rfl
theorem get_z_node (l r : Tr α) (n : Nat) : Tr.get 0 (.node l r) n = none := rfl
theorem get_s_leaf (d n : Nat) : Tr.get (d + 1) (.leaf : Tr α) n = none := rfl
theorem get_s_tip (d : Nat) (a : α) (n : Nat) : Tr.get (d + 1) (.tip a) n = none := rfl
theorem get_s_node (d : Nat) (l r : Tr α) (n : Nat) : Tr.get (d + 1) (.node l r) n = if n % 2 = 0 then Tr.get d l (n / 2) else Tr.get d r (n / 2) := by
  show @Bool.rec (fun _ => Option α) (Tr.get d r (n / 2)) (Tr.get d l (n / 2)) (Nat.beq (n % 2) 0) = _
  by_cases h : n % 2 = 0
  · rw [if_pos h, h]; rfl
  · rw [if_neg h, beq_no h]
theorem set_z (v : Option α) (t : Tr α) (n : Nat) : Tr.set 0 v t n = (match v with | some a => .tip a | none => .leaf) := by cases v <;> rfl
theorem set_s_node (d : Nat) (v : Option α) (l r : Tr α) (n : Nat) : Tr.set (d + 1) v (.node l r) n = if n % 2 = 0 then .node (Tr.set d v l (n / 2)) r else .node l (Tr.set d v r (n / 2)) := by
  show @Bool.rec (fun _ => Tr α) (Tr.node l (Tr.set d v r (n / 2))) (.node (Tr.set d v l (n / 2)) r) (Nat.beq (n % 2) 0) = _
  by_cases h : n % 2 = 0
  · rw [if_pos h, h]; rfl
  · rw [if_neg h, beq_no h]
theorem set_s_leaf (d : Nat) (v : Option α) (n : Nat) : Tr.set (d + 1) v (.leaf : Tr α) n = if n % 2 = 0 then .node (Tr.set d v .leaf (n / 2)) .leaf else .node .leaf (Tr.set d v .leaf (n / 2)) := by
  show @Bool.rec (fun _ => Tr α) (Tr.node .leaf (Tr.set d v .leaf (n / 2))) (.node (Tr.set d v .leaf (n / 2)) .leaf) (Nat.beq (n % 2) 0) = _
  by_cases h : n % 2 = 0
  · rw [if_pos h, h]; rfl
  · rw [if_neg h, beq_no h]
theorem set_s_tip (d : Nat) (v : Option α) (a : α) (n : Nat) : Tr.set (d + 1) v (.tip a) n = if n % 2 = 0 then .node (Tr.set d v .leaf (n / 2)) .leaf else .node .leaf (Tr.set d v .leaf (n / 2)) := by
  show @Bool.rec (fun _ => Tr α) (Tr.node .leaf (Tr.set d v .leaf (n / 2))) (.node (Tr.set d v .leaf (n / 2)) .leaf) (Nat.beq (n % 2) 0) = _
  by_cases h : n % 2 = 0
  · rw [if_pos h, h]; rfl
  · rw [if_neg h, beq_no h]

theorem get_leaf (d n : Nat) : Tr.get d (.leaf : Tr α) n = none := by cases d <;> rfl

theorem lt_of_get : ∀ (d : Nat) (t : Tr α) (n : Nat) (a : α), Tr.get d t n = some a → n < 2 ^ d
  | 0, .tip b, n, a, h => by
    rw [get_z_tip] at h
    by_cases hn : n = 0
    · omega
    · rw [beq_no hn] at h; simp at h
  | 0, .leaf, n, a, h => by simp [get_z_leaf] at h
  | 0, .node _ _, n, a, h => by simp [get_z_node] at h
  | d + 1, .leaf, n, a, h => by simp [get_s_leaf] at h
  | d + 1, .tip _, n, a, h => by simp [get_s_tip] at h
  | d + 1, .node l r, n, a, h => by
    rw [get_s_node] at h
    have : n / 2 < 2 ^ d := by
      split at h
      · exact lt_of_get d l _ _ h
      · exact lt_of_get d r _ _ h
    rw [Nat.pow_succ]; omega

theorem get_set : ∀ (d : Nat) (t : Tr α) (n : Nat) (v : Option α), n < 2 ^ d → Tr.get d (Tr.set d v t n) n = v
  | 0, t, n, v, h => by
    have : n = 0 := by simpa using h
    subst this
    rw [set_z]; cases v <;> rfl
  | d + 1, .leaf, n, v, h => by
    rw [set_s_leaf]
    have : n / 2 < 2 ^ d := by rw [Nat.pow_succ] at h; omega
    split <;> (rw [get_s_node]; simp [*, get_set d _ _ _ this])
  | d + 1, .tip a, n, v, h => by
    rw [set_s_tip]
    have : n / 2 < 2 ^ d := by rw [Nat.pow_succ] at h; omega
    split <;> (rw [get_s_node]; simp [*, get_set d _ _ _ this])
  | d + 1, .node l r, n, v, h => by
    rw [set_s_node]
    have : n / 2 < 2 ^ d := by rw [Nat.pow_succ] at h; omega
    split <;> (rw [get_s_node]; simp [*, get_set d _ _ _ this])

theorem get_set_ne : ∀ (d : Nat) (t : Tr α) (m n : Nat) (v : Option α), n < 2 ^ d → m ≠ n → Tr.get d (Tr.set d v t n) m = Tr.get d t m
  | 0, t, m, n, v, h, hm => by
    have h0 : n = 0 := by simpa using h
    subst h0
    rw [set_z]
    have hb : Nat.beq m 0 = false := beq_no hm
    cases v <;> cases t <;> simp [get_z_leaf, get_z_tip, get_z_node, hb]
  | d + 1, .leaf, m, n, v, h, hm => by
    rw [set_s_leaf]
    have hn : n / 2 < 2 ^ d := by rw [Nat.pow_succ] at h; omega
    split
    · rw [get_s_node, get_s_leaf]; split
      · rw [get_set_ne d _ _ _ _ hn (by omega), get_leaf]
      · exact get_leaf _ _
    · rw [get_s_node, get_s_leaf]; split
      · exact get_leaf _ _
      · rw [get_set_ne d _ _ _ _ hn (by omega), get_leaf]
  | d + 1, .tip a, m, n, v, h, hm => by
    rw [set_s_tip]
    have hn : n / 2 < 2 ^ d := by rw [Nat.pow_succ] at h; omega
    split
    · rw [get_s_node, get_s_tip]; split
      · rw [get_set_ne d _ _ _ _ hn (by omega), get_leaf]
      · exact get_leaf _ _
    · rw [get_s_node, get_s_tip]; split
      · exact get_leaf _ _
      · rw [get_set_ne d _ _ _ _ hn (by omega), get_leaf]
  | d + 1, .node l r, m, n, v, h, hm => by
    rw [set_s_node]
    have hn : n / 2 < 2 ^ d := by rw [Nat.pow_succ] at h; omega
    split
    · rw [get_s_node, get_s_node]; split
      · rw [get_set_ne d _ _ _ _ hn (by omega)]
      · rfl
    · rw [get_s_node, get_s_node]; split
      · rfl
      · rw [get_set_ne d _ _ _ _ hn (by omega)]
end Tr

theorem Tr.set_set_comm {α : Type} : ∀ (d : Nat) (t : Tr α) (a b : Nat) (u v : Option α), a < 2 ^ d → b < 2 ^ d → a ≠ b → Tr.set d v (Tr.set d u t a) b = Tr.set d u (Tr.set d v t b) a
  | 0, t, a, b, u, v, ha, hb, hab => by simp at ha hb; omega
  | d + 1, .leaf, a, b, u, v, ha, hb, hab => by
    have h1 : a / 2 < 2 ^ d := by rw [Nat.pow_succ] at ha; omega
    have h2 : b / 2 < 2 ^ d := by rw [Nat.pow_succ] at hb; omega
    rw [Tr.set_s_leaf, Tr.set_s_leaf]
    by_cases p : a % 2 = 0 <;> by_cases q : b % 2 = 0
    · simp only [p, q, if_true, Tr.set_s_node]; rw [Tr.set_set_comm d .leaf (a/2) (b/2) u v h1 h2 (by omega)]
    · simp [p, q, Tr.set_s_node]
    · simp [p, q, Tr.set_s_node]
    · simp only [p, q, if_false, Tr.set_s_node]; rw [Tr.set_set_comm d .leaf (a/2) (b/2) u v h1 h2 (by omega)]
  | d + 1, .tip x, a, b, u, v, ha, hb, hab => by
    have h1 : a / 2 < 2 ^ d := by rw [Nat.pow_succ] at ha; omega
    have h2 : b / 2 < 2 ^ d := by rw [Nat.pow_succ] at hb; omega
    rw [Tr.set_s_tip, Tr.set_s_tip]
    by_cases p : a % 2 = 0 <;> by_cases q : b % 2 = 0
    · simp only [p, q, if_true, Tr.set_s_node]; rw [Tr.set_set_comm d .leaf (a/2) (b/2) u v h1 h2 (by omega)]
    · simp [p, q, Tr.set_s_node]
    · simp [p, q, Tr.set_s_node]
    · simp only [p, q, if_false, Tr.set_s_node]; rw [Tr.set_set_comm d .leaf (a/2) (b/2) u v h1 h2 (by omega)]
  | d + 1, .node l r, a, b, u, v, ha, hb, hab => by
    have h1 : a / 2 < 2 ^ d := by rw [Nat.pow_succ] at ha; omega
    have h2 : b / 2 < 2 ^ d := by rw [Nat.pow_succ] at hb; omega
    rw [Tr.set_s_node, Tr.set_s_node]
    by_cases p : a % 2 = 0 <;> by_cases q : b % 2 = 0
    · simp only [p, q, if_true, Tr.set_s_node]; rw [Tr.set_set_comm d l (a/2) (b/2) u v h1 h2 (by omega)]
    · simp [p, q, Tr.set_s_node]
    · simp [p, q, Tr.set_s_node]
    · simp only [p, q, if_false, Tr.set_s_node]; rw [Tr.set_set_comm d r (a/2) (b/2) u v h1 h2 (by omega)]

/-- a trie of 13 levels: 8,192 objects -/
noncomputable def trieH : HeapI where
  T := Tr AObj
  get t k := Tr.get 13 t k
  set t k o := Tr.set 13 o t k
  ok k := Nat.blt k 8192
  get_set t k o h := Tr.get_set 13 t k o (Nat.le_of_ble_eq_true h)
  get_set_ne t c k o h hc := Tr.get_set_ne 13 t c k o (Nat.le_of_ble_eq_true h) hc
  ok_of t k o h := Nat.ble_eq_true_of_le (Tr.lt_of_get 13 t k o h)
  set_comm t a b u v ha hb hab := Tr.set_set_comm 13 t a b u v (Nat.le_of_ble_eq_true ha) (Nat.le_of_ble_eq_true hb) hab

/-- a function: as many objects as one likes -/
def funH : HeapI where
  T := Nat → Option AObj
  get t k := t k
  set t k o := fun c => if c = k then o else t c
  ok _ := true
  get_set t k o _ := by simp
  get_set_ne t c k o _ hc := by simp [hc]
  ok_of _ _ _ _ := rfl
  set_comm t a b u v _ _ hab := by
    funext c
    by_cases h1 : c = a
    · subst h1; simp [hab]
    · simp [h1]

theorem St.obj_put (σ : (St H)) (b : Nat) (o : Option AObj) (h : H.ok b = true) : (σ.put b o).obj b = o := H.get_set _ _ _ h
theorem St.obj_put_ne (σ : (St H)) (b c : Nat) (o : Option AObj) (h : H.ok b = true) (hc : c ≠ b) : (σ.put b o).obj c = σ.obj c := H.get_set_ne _ _ _ _ h hc
theorem St.obj_lt {σ : (St H)} {b : Nat} {o : AObj} (h : σ.obj b = some o) : H.ok b = true := H.ok_of _ _ _ h
@[simp] theorem St.nxt_put (σ : (St H)) (b : Nat) (o : Option AObj) : (σ.put b o).nxt = σ.nxt := rfl

/-! Pointwise relation of lists. -/
inductive All2 {α β : Type} (r : α → β → Prop) : List α → List β → Prop
  | nil : All2 r [] []
  | cons {a b as bs} : r a b → All2 r as bs → All2 r (a :: as) (b :: bs)

/-- of each abstract block: the concrete one, where it begins in it, how many elements more a slice of it may hold -/
abbrev Mp := Nat → Option (Nat × Nat × Nat)

def cloS : Value → Bool
  | .bool _ | .int _ _ | .string _ | .nilFunc | .nilIface => true
  | .pointer none | .slice none _ _ | .map none | .chan none => true
  | _ => false

inductive VRel (M : Mp) : Value → Value → Prop
  | sc {v} : cloS v = true → VRel M v v
  | ptr {b o B O x} : M b = some (B, O, x) → VRel M (.pointer (some ⟨b, o, none⟩)) (.pointer (some ⟨B, O + o, none⟩))
  | slE {b o B O x l c} : M b = some (B, O, x) → VRel M (.slice (some ⟨b, o, none⟩) l c) (.slice (some ⟨B, O + o, none⟩) l c)
  | slL {b o B O x l c} : M b = some (B, O, x) → VRel M (.slice (some ⟨b, o, some 0⟩) l c) (.slice (some ⟨B, O + o, none⟩) l (c + x))
  | slU {b o a c} : VRel M (.slice (some ⟨b, o, some 1⟩) 0 0) (.slice (some a) 0 c)
  | map {b B O x} : M b = some (B, O, x) → VRel M (.map (some b)) (.map (some B))
  | chan {b B O x} : M b = some (B, O, x) → VRel M (.chan (some b)) (.chan (some B))
  | func {f xs ys xs' ys'} : All2 (VRel M) xs.toList xs'.toList → All2 (VRel M) ys.toList ys'.toList → VRel M (.func (.func f) xs ys) (.func (.func f) xs' ys')
  | agg {xs ys} : All2 (VRel M) xs.toList ys.toList → VRel M (.agg xs) (.agg ys)
  | tuple {xs ys} : All2 (VRel M) xs.toList ys.toList → VRel M (.tuple xs) (.tuple ys)

def Mp.le (M M' : Mp) : Prop := ∀ b t, M b = some t → M' b = some t

mutual
theorem VRel.mono {M M' : Mp} (h : M.le M') : ∀ {v w}, VRel M v w → VRel M' v w
  | _, _, .sc hc => .sc hc
  | _, _, .ptr hb => .ptr (h _ _ hb)
  | _, _, .slE hb => .slE (h _ _ hb)
  | _, _, .slL hb => .slL (h _ _ hb)
  | _, _, .slU => .slU
  | _, _, .map hb => .map (h _ _ hb)
  | _, _, .chan hb => .chan (h _ _ hb)
  | _, _, .func a b => .func (VRel.monoL h a) (VRel.monoL h b)
  | _, _, .agg a => .agg (VRel.monoL h a)
  | _, _, .tuple a => .tuple (VRel.monoL h a)
theorem VRel.monoL {M M' : Mp} (h : M.le M') : ∀ {v w}, All2 (VRel M) v w → All2 (VRel M') v w
  | _, _, .nil => .nil
  | _, _, .cons a b => .cons (VRel.mono h a) (VRel.monoL h b)
end
end Go.Ax

namespace Go.Ax
open Go
variable {H : HeapI}

theorem St.obj_mk_same (h : H.T) (k n : Nat) (o : AObj) (hk : H.ok k = true) : St.obj ⟨H.set h k (some o), n⟩ k = some o := by
  unfold St.obj; exact H.get_set h k (some o) hk
theorem St.obj_mk_ne (h : H.T) (c k n : Nat) (o : AObj) (hk : H.ok k = true) (hc : c ≠ k) : St.obj ⟨H.set h k (some o), n⟩ c = H.get h c := by
  unfold St.obj; exact H.get_set_ne h c k (some o) hk hc

structure ERelE (M : Mp) (e e' : MapEntry) : Prop where
  key : e.key = e'.key
  val : VRel M e.val e'.val
  born : e.born = e'.born

def CellsAt (M : Mp) (c : Array Value) (O : Nat) (cs : List Value) : Prop := ∀ i v, cs[i]? = some v → ∃ v', c[O + i]? = some v' ∧ VRel M v v'

inductive ObjRel (M : Mp) (B O x : Nat) (w : World) : AObj → Prop
  | cells {cs ro z c e fr} : w.heap[B]? = some (.cells c e fr) → CellsAt M c O cs → O + cs.length + x * z ≤ c.size → (ro = false → fr = (0, 0)) → (z = 0 → O = 0) → ObjRel M B O x w (.cells cs ro z)
  | map {es clock es'} : w.heap[B]? = some (.map es' clock) → All2 (ERelE M) es es'.toList → ObjRel M B O x w (.map es clock)
  | chan {cap buf s r buf'} : w.heap[B]? = some (.chan cap buf' false s r false) → All2 (VRel M) buf buf'.toList → ObjRel M B O x w (.chan cap buf s r)

def AObj.writable : AObj → Bool
  | .cells _ ro _ => !ro
  | _ => true

structure HRel (M : Mp) (σ : (St H)) (w : World) : Prop where
  at_ : ∀ b o, σ.obj b = some o → ∃ B O x, M b = some (B, O, x) ∧ ObjRel M B O x w o
  apart : ∀ b b' o o' B O x B' O' x', σ.obj b = some o → σ.obj b' = some o' → o.writable = true → b ≠ b' → M b = some (B, O, x) → M b' = some (B', O', x') → B ≠ B'

def FP (M : Mp) (σ : (St H)) (B : Nat) : Prop := ∃ b o O x, σ.obj b = some o ∧ o.writable = true ∧ M b = some (B, O, x)

structure Goes (M : Mp) (σ : (St H)) (w : World) (M' : Mp) (σ' : (St H)) (w' : World) : Prop where
  le : M.le M'
  only : ∀ b, M' b ≠ M b → σ.nxt ≤ b ∧ b < σ'.nxt
  nxt : σ.nxt ≤ σ'.nxt
  rel : HRel M' σ' w'
  foot : ∀ B, FP M' σ' B → FP M σ B ∨ w.heap.size ≤ B
  keep : ∀ B, B < w.heap.size → ¬ FP M σ B → w'.heap[B]? = w.heap[B]?
  size : w.heap.size ≤ w'.heap.size
  tape : w'.tape = w.tape
  os : w'.os = w.os
  output : w'.output = w.output
  objs : ∀ b o, σ'.obj b = some o → (∃ o0, σ.obj b = some o0 ∧ o0.writable = o.writable) ∨ (o.writable = true ∧ σ.nxt ≤ b ∧ b < σ'.nxt)

/-- the first numbers are the world's own -/
def Base (M : Mp) : Prop := ∀ g, g < 256 → M g = some (g, 0, 0)
theorem Base.le {M M' : Mp} (h : Base M) (le : M.le M') : Base M' := fun g hg => le _ _ (h g hg)

def Fresh (M : Mp) (σ σ' : (St H)) : Prop := (∀ b, σ.nxt ≤ b → b < σ'.nxt → M b = none) ∧ Base M

theorem Mp.le_refl (M : Mp) : M.le M := fun _ _ h => h
theorem Mp.le_trans {M M' M'' : Mp} (h : M.le M') (h' : M'.le M'') : M.le M'' := fun b t hb => h' b t (h b t hb)

theorem Goes.refl {M} {σ : St H} {w} (h : HRel M σ w) : Goes M σ w M σ w :=
  ⟨Mp.le_refl M, fun _ h => absurd rfl h, Nat.le_refl _, h, fun _ h => .inl h, fun _ _ _ => rfl, Nat.le_refl _, rfl, rfl, rfl, fun _ o h => .inl ⟨o, h, rfl⟩⟩

theorem Goes.trans {M} {σ : St H} {w M'} {σ' : St H} {w' M''} {σ'' : St H} {w''} (h : Goes M σ w M' σ' w') (h' : Goes M' σ' w' M'' σ'' w'') : Goes M σ w M'' σ'' w'' where
  le := Mp.le_trans h.le h'.le
  only b hb := by
    by_cases e : M' b = M b
    · have := h'.only b (by rw [e]; exact hb); have := h.nxt; omega
    · have := h.only b e; have := h'.nxt; omega
  nxt := Nat.le_trans h.nxt h'.nxt
  rel := h'.rel
  foot B hB := by
    rcases h'.foot B hB with hf | hf
    · exact h.foot B hf
    · exact .inr (Nat.le_trans h.size hf)
  keep B hB hn := by
    rw [h'.keep B (Nat.lt_of_lt_of_le hB h.size) (fun hf => ?_), h.keep B hB hn]
    rcases h.foot B hf with hf | hf
    · exact hn hf
    · omega
  size := Nat.le_trans h.size h'.size
  tape := h'.tape.trans h.tape
  os := h'.os.trans h.os
  output := h'.output.trans h.output
  objs b o hb := by
    have h1 := h.nxt; have h2 := h'.nxt
    rcases h'.objs b o hb with ⟨o0, h0, e0⟩ | ⟨hw, h3, h4⟩
    · rcases h.objs b o0 h0 with ⟨o1, h5, e1⟩ | ⟨hw, h3, h4⟩
      · exact .inl ⟨o1, h5, e1.trans e0⟩
      · exact .inr ⟨e0 ▸ hw, h3, by omega⟩
    · exact .inr ⟨hw, by omega, h4⟩

theorem Fresh.left {M : Mp} {σ σ' σ'' : (St H)} (h : Fresh M σ σ'') (h2 : σ'.nxt ≤ σ''.nxt) : Fresh M σ σ' := ⟨fun b hb hb' => h.1 b hb (by omega), h.2⟩
theorem Fresh.right {M} {σ : St H} {w M'} {σ' : St H} {w'} {σ'' : St H} (h : Fresh M σ σ'') (g : Goes M σ w M' σ' w') : Fresh M' σ' σ'' := ⟨fun b hb hb' => by
  have hM := h.1 b (Nat.le_trans g.nxt hb) hb'
  by_cases e : M' b = M b
  · rw [e, hM]
  · have := g.only b e; omega, h.2.le g.le⟩

/-- the worlds differ in what was drawn alone -/
theorem HRel.of_heap {M} {σ : St H} {w w'} (h : HRel M σ w) (e : w'.heap = w.heap) : HRel M σ w' where
  at_ b o hb := by
    obtain ⟨B, O, x, hM, ho⟩ := h.at_ b o hb
    refine ⟨B, O, x, hM, ?_⟩
    cases ho with
    | cells a b c d f => exact .cells (e ▸ a) b c d f
    | map a b => exact .map (e ▸ a) b
    | chan a b => exact .chan (e ▸ a) b
  apart := h.apart

theorem Goes.draw {M} {σ : St H} {w} (h : HRel M σ w) (n : Nat) : Goes M σ w M σ { w with drawn := n } :=
  ⟨Mp.le_refl M, fun _ h => absurd rfl h, Nat.le_refl _, h.of_heap rfl, fun _ h => .inl h, fun _ _ _ => rfl, Nat.le_refl _, rfl, rfl, rfl, fun _ o h => .inl ⟨o, h, rfl⟩⟩

theorem CellsAt.mono {M M' : Mp} {c O cs} (h : CellsAt M c O cs) (le : M.le M') : CellsAt M' c O cs := fun i v hi =>
  let ⟨v', a, b⟩ := h i v hi; ⟨v', a, b.mono le⟩
theorem All2.imp {α β : Type} {r s : α → β → Prop} (f : ∀ a b, r a b → s a b) : ∀ {as bs}, All2 r as bs → All2 s as bs
  | _, _, .nil => .nil
  | _, _, .cons a b => .cons (f _ _ a) (All2.imp f b)
theorem ERelE.mono {M M' : Mp} {e e'} (h : ERelE M e e') (le : M.le M') : ERelE M' e e' := ⟨h.key, h.val.mono le, h.born⟩
theorem All2.length {α β : Type} {r : α → β → Prop} : ∀ {as bs}, All2 r as bs → as.length = bs.length
  | _, _, .nil => rfl
  | _, _, .cons _ b => by simp [b.length]
theorem All2.append {α β : Type} {r : α → β → Prop} : ∀ {as bs cs ds}, All2 r as bs → All2 r cs ds → All2 r (as ++ cs) (bs ++ ds)
  | _, _, _, _, .nil, h => h
  | _, _, _, _, .cons a b, h => .cons a (All2.append b h)
theorem All2.get {α β : Type} {r : α → β → Prop} : ∀ {as : List α} {bs : List β}, All2 r as bs → ∀ (i : Nat) (a : α), as[i]? = some a → ∃ b, bs[i]? = some b ∧ r a b
  | _, _, .nil, i, a, h => by simp at h
  | _, _, .cons x y, 0, a, h => by simp at h; subst h; exact ⟨_, by simp, x⟩
  | _, _, .cons x y, i + 1, a, h => by simp at h; obtain ⟨b, hb, hr⟩ := y.get i a h; exact ⟨b, by simpa using hb, hr⟩
theorem All2.of_get {α β : Type} {r : α → β → Prop} : ∀ {as : List α} {bs : List β}, as.length = bs.length → (∀ (i : Nat) (a : α), as[i]? = some a → ∃ b, bs[i]? = some b ∧ r a b) → All2 r as bs
  | [], [], _, _ => .nil
  | a :: as, b :: bs, hl, h => by
    obtain ⟨b', hb, hr⟩ := h 0 a (by simp)
    simp at hb; subst hb
    exact .cons hr (All2.of_get (by simpa using hl) fun i x hx => by obtain ⟨y, hy, hr⟩ := h (i + 1) x (by simpa using hx); exact ⟨y, by simpa using hy, hr⟩)
  | [], _ :: _, h, _ => by simp at h
  | _ :: _, [], h, _ => by simp at h

/-- an object reads as before where its block does and the map grows -/
theorem ObjRel.keep {M M' : Mp} {B O x w w' o} (h : ObjRel M B O x w o) (le : M.le M') (e : w'.heap[B]? = w.heap[B]?) : ObjRel M' B O x w' o := by
  cases h with
  | cells a b c d f => exact .cells (e ▸ a) (b.mono le) c d f
  | map a b => exact .map (e ▸ a) (b.imp fun _ _ h => h.mono le)
  | chan a b => exact .chan (e ▸ a) (b.imp fun _ _ h => h.mono le)

theorem ObjRel.lt {M : Mp} {B O x w o} (h : ObjRel M B O x w o) : B < w.heap.size := by
  cases h with
  | cells a => exact (Array.getElem?_eq_some_iff.1 a).1
  | map a => exact (Array.getElem?_eq_some_iff.1 a).1
  | chan a => exact (Array.getElem?_eq_some_iff.1 a).1

/-- a new block -/
theorem fresh_goes {M} {σ : St H} {w o f v} {σ' : St H} (h : HRel M σ w) (hf : fresh σ o f = some (v, σ')) (fr : Fresh M σ σ') (O : Obj)
    (x : Nat) (hx : ∀ M' : Mp, M.le M' → ObjRel M' w.heap.size 0 x (w.alloc O) o) (how : o.writable = true := by rfl) :
    ∃ M', v = f σ.nxt ∧ M' σ.nxt = some (w.heap.size, 0, x) ∧ Goes M σ w M' σ' (w.alloc O) := by
  unfold fresh at hf
  cases hlt : H.ok σ.nxt with
  | false => rw [hlt] at hf; cases hf
  | true =>
    rw [hlt] at hf
    have hn : H.ok σ.nxt = true := hlt
    injection hf with hf
    injection hf with h1 h2
    subst h1; subst h2
    have hnone : M σ.nxt = none := fr.1 σ.nxt (Nat.le_refl _) (Nat.lt_succ_self _)
    let M' : Mp := fun b => if b = σ.nxt then some (w.heap.size, 0, x) else M b
    have hle : M.le M' := fun b t hb => by
      have : b ≠ σ.nxt := fun e => by rw [e, hnone] at hb; cases hb
      simp [M', this, hb]
    have hM : M' σ.nxt = some (w.heap.size, 0, x) := by simp [M']
    have hobj : ∀ b, b ≠ σ.nxt → St.obj (H := H) ⟨H.set σ.heap σ.nxt (some o), Nat.succ σ.nxt⟩ b = σ.obj b := fun b hb => by unfold St.obj; exact H.get_set_ne σ.heap b σ.nxt (some o) hn hb
    have hself : St.obj (H := H) ⟨H.set σ.heap σ.nxt (some o), Nat.succ σ.nxt⟩ σ.nxt = some o := by unfold St.obj; exact H.get_set σ.heap σ.nxt (some o) hn
    have hnobj : σ.obj σ.nxt = none := by
      cases hc : σ.obj σ.nxt with
      | none => rfl
      | some o' => obtain ⟨_, _, _, hm, _⟩ := h.at_ _ _ hc; rw [hnone] at hm; cases hm
    have hold : ∀ B, B < w.heap.size → (w.alloc O).heap[B]? = w.heap[B]? := fun B hB => by
      simp only [World.alloc, Array.getElem?_push]; rw [if_neg (by omega)]
    have hblt : ∀ b o B O x, σ.obj b = some o → M b = some (B, O, x) → B < w.heap.size := fun b o B O x hb hm => by
      obtain ⟨B', O', x', hm', hr⟩ := h.at_ _ _ hb
      rw [hm] at hm'; injection hm' with hm'; injection hm' with hm1 _; subst hm1
      exact hr.lt
    refine ⟨M', rfl, hM, hle, ?_, Nat.le_succ _, ⟨?_, ?_⟩, ?_, fun B hB _ => hold B hB, by simp, rfl, rfl, rfl, fun b o' hb => ?_⟩
    · intro b hb
      by_cases e : b = σ.nxt
      · subst e; exact ⟨Nat.le_refl _, Nat.lt_succ_self _⟩
      · simp [M', e] at hb
    · intro b o' hb
      by_cases e : b = σ.nxt
      · subst e; rw [hself] at hb; injection hb with hb; subst hb
        exact ⟨_, _, _, hM, hx M' hle⟩
      · rw [hobj b e] at hb
        obtain ⟨B, O', x', hm, hr⟩ := h.at_ _ _ hb
        exact ⟨B, O', x', hle _ _ hm, hr.keep hle (hold B hr.lt)⟩
    · intro b b' o₁ o₂ B O₁ x₁ B' O₂ x₂ hb hb' hwr hne hm hm'
      by_cases e : b = σ.nxt
      · subst e
        rw [hM] at hm; injection hm with hm; injection hm with hm1 _; subst hm1
        have e' : b' ≠ σ.nxt := fun e => hne e.symm
        rw [hobj b' e'] at hb'
        simp only [M', e', if_false] at hm'
        exact Nat.ne_of_gt (hblt _ _ _ _ _ hb' hm')
      · rw [hobj b e] at hb
        simp only [M', e, if_false] at hm
        by_cases e' : b' = σ.nxt
        · subst e'
          rw [hM] at hm'; injection hm' with hm'; injection hm' with hm1 _; subst hm1
          exact Nat.ne_of_lt (hblt _ _ _ _ _ hb hm)
        · rw [hobj b' e'] at hb'
          simp only [M', e', if_false] at hm'
          exact h.apart _ _ _ _ _ _ _ _ _ _ hb hb' hwr hne hm hm'
    · rintro B ⟨b, o', O', x', hb, hwr, hm⟩
      by_cases e : b = σ.nxt
      · subst e
        rw [hM] at hm; injection hm with hm; injection hm with hm1 _
        exact .inr (by omega)
      · rw [hobj b e] at hb
        simp only [M', e, if_false] at hm
        exact .inl ⟨b, o', O', x', hb, hwr, hm⟩
    · by_cases e : b = σ.nxt
      · subst e; rw [hself] at hb; injection hb with hb; subst hb
        exact .inr ⟨how, Nat.le_refl _, Nat.lt_succ_self _⟩
      · rw [hobj b e] at hb; exact .inl ⟨o', hb, rfl⟩

/-- an object turns in its place -/
theorem put_goes {M} {σ : St H} {w b o o' B O x w'} (h : HRel M σ w) (hb : σ.obj b = some o) (hw : o.writable = true) (hM : M b = some (B, O, x))
    (hr : ObjRel M B O x w' o') (hother : ∀ B', B' ≠ B → w'.heap[B']? = w.heap[B']?) (hsize : w'.heap.size = w.heap.size) (ht : w'.tape = w.tape) (hos : w'.os = w.os) (hout : w'.output = w.output) (how : o'.writable = true := by rfl) :
    Goes M σ w M (σ.put b (some o')) w' := by
  have hlt := St.obj_lt hb
  have hobj : ∀ c, c ≠ b → (σ.put b (some o')).obj c = σ.obj c := fun c hc => St.obj_put_ne σ b c _ hlt hc
  have hself : (σ.put b (some o')).obj b = some o' := St.obj_put σ b _ hlt
  refine ⟨Mp.le_refl M, fun _ h => absurd rfl h, Nat.le_refl _, ⟨?_, ?_⟩, ?_, ?_, by omega, ht, hos, hout, fun c oc hc => ?_⟩
  · intro c oc hc
    by_cases e : c = b
    · subst e; rw [hself] at hc; injection hc with hc; subst hc; exact ⟨_, _, _, hM, hr⟩
    · rw [hobj c e] at hc
      obtain ⟨B', O', x', hm, hr'⟩ := h.at_ _ _ hc
      exact ⟨B', O', x', hm, hr'.keep (Mp.le_refl M) (hother B' (h.apart _ _ _ _ _ _ _ _ _ _ hb hc hw (Ne.symm e) hM hm).symm)⟩
  · intro c c' oc oc' B₁ O₁ x₁ B₂ O₂ x₂ hc hc' hwr hne hm hm'
    by_cases e : c = b
    · subst e
      have e' : c' ≠ c := hne.symm
      rw [hobj c' e'] at hc'
      exact h.apart _ _ _ _ _ _ _ _ _ _ hb hc' hw hne hm hm'
    · rw [hobj c e] at hc
      by_cases e' : c' = b
      · subst e'
        exact h.apart _ _ _ _ _ _ _ _ _ _ hc hb hwr hne hm hm'
      · rw [hobj c' e'] at hc'
        exact h.apart _ _ _ _ _ _ _ _ _ _ hc hc' hwr hne hm hm'
  · rintro B₁ ⟨c, oc, O₁, x₁, hc, hwr, hm⟩
    by_cases e : c = b
    · subst e; exact .inl ⟨c, o, O₁, x₁, hb, hw, hm⟩
    · rw [hobj c e] at hc; exact .inl ⟨c, oc, O₁, x₁, hc, hwr, hm⟩
  · intro B₁ _ hn
    refine hother B₁ fun e => hn ?_
    subst e
    exact ⟨b, o, O, x, hb, hw, hM⟩
  · by_cases e : c = b
    · subst e; rw [hself] at hc; injection hc with hc; subst hc
      exact .inl ⟨o, hb, hw.trans how.symm⟩
    · rw [hobj c e] at hc; exact .inl ⟨oc, hc, rfl⟩

end Go.Ax

namespace Go.Ax
open Go
variable {H : HeapI}

def cloL : List Value → Bool
  | [] => true
  | v :: vs => cloS v && cloL vs
/-- no address in it -/
def clo : Value → Bool
  | .agg a => cloL a.toList
  | .tuple a => cloL a.toList
  | v => cloS v

section
variable (P : Program) (n : Nat)

def cod : Operand → Option Od
  | .tmp t => bif Nat.blt t n then some (.tmp t) else none
  | .const v => bif clo v then some (.const v) else none
  | .global _ => none
  | .func f => some (.fn f)

def cods : List Operand → Option (List Od)
  | [] => some []
  | x :: xs => (cod n x).bind fun y => (cods xs).bind fun ys => some (y :: ys)

def copt : Option Operand → Option (Option Od)
  | none => some none
  | some x => (cod n x).map some

def szOf (t : TypeId) : Option Nat := (P.info? t).map (·.size)
def byOf (t : TypeId) : Option Nat := (P.info? t).map (·.bytes)
def zOf (t : TypeId) : Option Value := (P.info? t).bind fun i => i.zero.bind fun z => bif clo z then some z else none
def isA : TypeDesc → Bool
  | .struct _ | .array _ _ => true
  | _ => false
def aggOf (t : TypeId) : Option Bool := (P.underlying t).map isA

/-- offset and size of each field -/
def places : List Field → Option (List (Nat × Nat))
  | [] => some []
  | f :: fs => (szOf P f.type).bind fun s => (places fs).bind fun r => some ((f.offset, s) :: r)

def cparts (place : Nat → Option (Nat × Nat)) : List (Nat × Operand) → Option (List (Nat × Nat × Od))
  | [] => some []
  | (i, x) :: ps => (place i).bind fun (o, s) => (cod n x).bind fun y => (cparts place ps).bind fun r => some ((o, s, y) :: r)

def isAdd (f : FuncId) : Bool :=
  match P.funcs[f]? with
  | some fn => !fn.body.isSome && ((fn.name == "math/bits.Add64") && (fn.origin == ""))
  | none => false

def flat : List Field → Nat → Option (List Bool)
  | [], _ => some []
  | f :: fs, n => bif Nat.beq f.offset n && !(f.name == "_") then
      match P.underlying f.type with
      | some (.int _) => (flat fs (n + 1)).map (true :: ·)
      | some .bool => (flat fs (n + 1)).map (false :: ·)
      | _ => none
    else none

def eqK (t : TypeId) : Option EqK :=
  match P.underlying t with
  | some .bool => some .sc
  | some (.pointer _) => some .nilp
  | some (.slice _) => some .nils
  | some (.map _ _) => some .nilm
  | some (.func _ _ _) => some .nilf
  | some (.interface _) => some .nili
  | some (.struct fs) => bif !(P.stoodInHeld t) && !(P.eqGuardType P.depth t) then (flat P fs.toList 0).map .agg else none
  | _ => none

def nilOk : EqK → Operand → Bool
  | .nili, .const .nilIface => true
  | .nili, _ => false
  | _, _ => true

def ceq (neg : Bool) (op : BinOp) (t : TypeId) (x y : Od) (yo : Operand) : Option AOp :=
  match P.underlying t with
  | some (.int _) | some .string => some (.bin op x y)
  | _ => (eqK P t).bind fun k => bif nilOk k yo then some (.eq k neg x y) else none

def keyK (t : TypeId) : Option Bool :=
  match P.underlying t with
  | some (.int _) => some true
  | some .string => some false
  | _ => none

/-- what is appended: false: a slice's elements; true: so many zeros -/
def zerosOf (u : TypeId) : Option Bool :=
  match P.underlying u with
  | some (.slice _) => some false
  | some (.int _) => some true
  | _ => none

def cappend (e u : TypeId) (s x : Od) : Option AOp :=
  (szOf P e).bind fun size => (byOf P e).bind fun bytes => (zOf P e).bind fun z => (zerosOf P u).bind fun zs =>
    bif Nat.beq z.cells.toList.length size && Nat.blt 0 size && Nat.blt 0 bytes then some (.append size bytes z.cells.toList zs s x) else none

def cbuiltin (b : Builtin) (ts : List TypeId) (xs : List Od) : Option AOp :=
  match b, ts, xs with
  | .len, t :: _, [x] => match P.underlying t with
    | some .string => some (.len .str x)
    | some (.slice _) => some (.len .slice x)
    | some (.map _ _) => some (.len .map x)
    | some (.chan _ _) => some (.len .chan x)
    | some (.array n _) => some (.val (.const (goInt n)))
    | some (.pointer a) => match P.underlying a with | some (.array n _) => some (.val (.const (goInt n))) | _ => none
    | _ => none
  | .cap, t :: _, [x] => match P.underlying t with
    | some (.slice _) => some (.cap x)
    | _ => none
  | .append, [t, u], [s, x] => match P.underlying t with
    | some (.slice e) => cappend P e u s x
    | _ => none
  | .min, _, xs => some (.mn xs)
  | .max, _, xs => some (.mx xs)
  | .delete, t :: _, [m, k] => match P.underlying t with
    | some (.map kt _) => (keyK P kt).bind fun kk => some (.delete kk m k)
    | _ => none
  | _, _, _ => none

def cop (o : Op) : Option AOp :=
  match o with
  | .move x | .assign x => (cod n x).map .val
  | .pick c a b => (cod n c).bind fun c => (cod n a).bind fun a => (cod n b).bind fun b => some (.pick c a b)
  | .alloc t => (zOf P t).bind fun z => some (.box (.const z))
  | .box _ x => (cod n x).map .box
  | .build t ps => (zOf P t).bind fun z => match P.underlying t with
    | some (.struct fs) => (places P fs.toList).bind fun pl => (cparts n (pl[·]?) ps.toList).bind fun ps => some (.build z.cells.toList ps)
    | some (.array _ e) => (szOf P e).bind fun s => (cparts n (fun i => some (i * s, s)) ps.toList).bind fun ps => some (.build z.cells.toList ps)
    | _ => none
  | .buildSlice t l ps => match P.underlying t with
    | some (.slice e) => (szOf P e).bind fun s => (zOf P e).bind fun z =>
      bif Nat.beq z.cells.toList.length s && Nat.blt 0 s && Nat.ble (l * s) 65536 then
        (cparts n (fun i => some (i * s, s)) ps.toList).bind fun ps => some (.buildSlice l (rep z.cells.toList l) ps)
      else none
    | _ => none
  | .load t a => (szOf P t).bind fun s => (aggOf P t).bind fun g => (cod n a).bind fun a => some (.load g s a)
  | .store t a v => (szOf P t).bind fun s => (cod n a).bind fun a => (cod n v).bind fun v => some (.store s a v)
  | .nilCheck x => (cod n x).map .nilCheck
  | .binOp op t x y _ => (cod n x).bind fun x => (cod n y).bind fun y' =>
    match op with
    | .eql => ceq P false .eql t x y' y
    | .neq => ceq P true .neq t x y' y
    | op => some (.bin op x y')
  | .unOp op _ x => (cod n x).map (.un op)
  | .convert s d x => (P.underlying s).bind fun _ => match P.underlying d with
    | some (.int k) => (cod n x).map (.conv k)
    | _ => none
  | .makeFunc (.func f) a b => (cods n a.toList).bind fun a => (cods n b.toList).bind fun b => some (.mkFunc f a b)
  | .makeMap t r => match r, P.underlying t with
    | none, _ => some .mkMap
    | some (.const (.int _ _)), some (.map _ _) => some .mkMap
    | _, _ => none
  | .makeChan t l => match P.underlying t with
    | some (.chan _ e) => (byOf P e).bind fun b => (cod n l).bind fun l => some (.mkChan b l)
    | _ => none
  | .makeSlice t l c => match P.underlying t with
    | some (.slice e) => (szOf P e).bind fun s => (byOf P e).bind fun b => (zOf P e).bind fun z => (cod n l).bind fun l => (cod n c).bind fun c =>
      bif Nat.beq z.cells.toList.length s && Nat.blt 0 s then some (.mkSlice b z.cells.toList l c) else none
    | _ => none
  | .slice t x lo hi mx => (cod n x).bind fun x => (copt n lo).bind fun lo => (copt n hi).bind fun hi => (copt n mx).bind fun mx =>
    match P.underlying t with
    | some (.array l e) => (szOf P e).bind fun s => some (.sliceArr l s x lo hi mx)
    | some (.slice e) => (szOf P e).bind fun s => some (.slice s x lo hi mx)
    | _ => none
  | .fieldAddr t x f => match P.underlying t with
    | some (.struct fs) => match fs[f]? with
      | some f => (szOf P f.type).bind fun s => bif Nat.blt 0 s then (cod n x).map (.fieldAddr f.offset) else none
      | none => none
    | _ => none
  | .field t x f => match P.underlying t with
    | some (.struct fs) => match fs[f]? with
      | some f => (szOf P f.type).bind fun s => (aggOf P f.type).bind fun g => (cod n x).map (.field g s f.offset)
      | none => none
    | _ => none
  | .indexAddr t x i => (cod n x).bind fun x => (cod n i).bind fun i => match P.underlying t with
    | some (.array l e) => (szOf P e).bind fun s => some (.indexArr l s x i)
    | some (.slice e) => (szOf P e).bind fun s => some (.indexAddr s x i)
    | _ => none
  | .index t x i => (cod n x).bind fun x => (cod n i).bind fun i => match P.underlying t with
    | some (.array l e) => (szOf P e).bind fun s => (aggOf P e).bind fun g => some (.index g l s x i)
    | _ => none
  | .lookup t m k ok => match P.underlying t with
    | some (.map kt e) => (keyK P kt).bind fun kk => (zOf P e).bind fun z => (cod n m).bind fun m => (cod n k).bind fun k => some (.lookup kk z m k ok)
    | _ => none
  | .mapUpdate t m k v => match P.underlying t with
    | some (.map kt _) => (keyK P kt).bind fun kk => (cod n m).bind fun m => (cod n k).bind fun k => (cod n v).bind fun v => some (.mapUpdate kk m k v)
    | _ => none
  | .mapEntry t m k => match P.underlying t with
    | some (.map kt e) => (keyK P kt).bind fun kk => (zOf P e).bind fun z => (cod n m).bind fun m => (cod n k).bind fun k => some (.mapEntry kk z m k)
    | _ => none
  | .entryStore _ m s v => (cod n m).bind fun m => (cod n s).bind fun s => (cod n v).bind fun v => some (.entryStore m s v)
  | .extract x i => (cod n x).map (.extract · i)
  | .call c => (cods n c.args.toList).bind fun xs => match c.callee with
    | .value (.func f) => bif isAdd P f then (match xs with | [x, y, c] => some (.add64 x y c) | _ => none) else some (.call f xs)
    | .value f => (cod n f).map (.callv · xs)
    | .builtin b => cbuiltin P b c.argTypes.toList xs
    | .invoke _ _ => none
  | .select cs blocking =>
    match cs.toList, blocking with
    | [c], false => (zOf P c.elem).bind fun z => (cod n c.chan).bind fun ch => match c.send with
      | some x => (cod n x).map fun x => .sel (some x) z ch
      | none => some (.sel none z ch)
    | _, _ => none
  | _ => none

def cguard (ops : List Oper) : Option (Nat × Bool) → Option (Option (Nat × Bool))
  | none => some none
  | some (j, b) => match ops[j]? with
    | some o => match o.dst with | some d => bif Nat.blt d n then some (some (d, b)) else none | none => none
    | none => none

def dstOk : Option Nat → Bool
  | none => true
  | some d => Nat.blt d n

def cai (ops : List Oper) (o : Oper) : AI :=
  match cop P n o.op, cguard n ops o.guard with
  | some op, some g => bif dstOk n o.dst then ⟨o.dst, op, g⟩ else ⟨none, .fail, none⟩
  | none, some g => bif dstOk n o.dst then ⟨o.dst, .fail, g⟩ else ⟨none, .fail, none⟩
  | _, none => ⟨none, .fail, none⟩

end

inductive Kl where | pure | read | alloc | eff

def klass : AOp → Kl
  | .load .. | .lookup .. | .len .. => .read
  | .box _ | .buildSlice .. | .mkMap | .mkChan .. | .mkSlice .. => .alloc
  | .store .. | .mapUpdate .. | .mapEntry .. | .entryStore .. | .call .. | .callv .. | .append .. | .delete .. | .sel .. | .fail => .eff
  | _ => .pure

/-- an operation of a region: its number, the mask of those that stand ahead of it, its class, itself -/
structure Nd where
  id : Nat
  mask : Nat
  kl : Kl
  i : AI

def maskOf (ms : List (Nat × Nat)) : List Edge → Nat → Nat
  | [], s => s
  | e :: es, s => bif Region.binds .any e then maskOf ms es (s ||| 2 ^ e.on ||| (match ms.lookup e.on with | some m => m | none => 0)) else maskOf ms es s

def nodes (P : Program) (n : Nat) (ops : List Oper) : List Oper → Nat → List (Nat × Nat) → List Nd
  | [], _, _ => []
  | o :: os, k, ms =>
    let m := maskOf ms o.after.toList 0
    let i := cai P n ops o
    ⟨k, m, klass i.op, i⟩ :: nodes P n ops os (k + 1) ((k, m) :: ms)

def isK (done : Nat) (want : Nat) (nd : Nd) : Bool :=
  (match nd.kl, want with
   | .pure, 0 | .read, 0 | .eff, 1 | .alloc, 2 => true
   | _, _ => false) && Nat.beq (nd.mask &&& done) nd.mask

def pickK (done want : Nat) : List Nd → Option (Nd × List Nd)
  | [] => none
  | nd :: ns => bif isK done want nd then some (nd, ns) else
    match pickK done want ns with | some (x, r) => some (x, nd :: r) | none => none

def order : Nat → Nat → List Nd → List Nd
  | 0, _, _ => []
  | n + 1, done, l =>
    match (match pickK done 0 l with | some r => some r | none => match pickK done 1 l with | some r => some r | none => pickK done 2 l) with
    | some (x, r) => x :: order n (done ||| 2 ^ x.id) r
    | none => []

def odT : Od → List Nat
  | .tmp t => [t]
  | _ => []
def odsT : List Od → List Nat
  | [] => []
  | x :: xs => odT x ++ odsT xs
def opsT : List (Nat × Nat × Od) → List Nat
  | [] => []
  | x :: xs => odT x.2.2 ++ opsT xs
def optT : Option Od → List Nat
  | none => []
  | some x => odT x

/-- the slots that an operation reads -/
def reads : AOp → List Nat
  | .val x | .box x | .load _ _ x | .nilCheck x | .un _ x | .conv _ x | .mkChan _ x | .fieldAddr _ x | .field _ _ _ x | .extract x _ | .len _ x | .cap x => odT x
  | .pick a b c | .mapUpdate _ a b c | .entryStore a b c | .add64 a b c => odT a ++ (odT b ++ odT c)
  | .build _ ps | .buildSlice _ _ ps => opsT ps
  | .store _ a b | .bin _ a b | .eq _ _ a b | .mkSlice _ _ a b | .indexAddr _ a b | .indexArr _ _ a b | .index _ _ _ a b | .lookup _ _ a b _ | .mapEntry _ _ a b | .append _ _ _ _ a b | .delete _ a b => odT a ++ odT b
  | .mkFunc _ a b => odsT a ++ odsT b
  | .mkMap | .fail => []
  | .slice _ x a b c | .sliceArr _ _ x a b c => odT x ++ (optT a ++ (optT b ++ optT c))
  | .call _ xs | .mn xs | .mx xs => odsT xs
  | .callv x xs => odT x ++ odsT xs
  | .sel a _ c => optT a ++ odT c

def gT : Option (Nat × Bool) → List Nat
  | none => []
  | some (t, _) => [t]

/-- the slots that an instruction reads -/
def readsI (i : AI) : List Nat := gT i.guard ++ reads i.op

def hasD (d : Option Nat) (l : List Nat) : Bool := match d with | some t => memN t l | none => false
def sameD : Option Nat → Option Nat → Bool
  | some a, some b => Nat.beq a b
  | _, _ => false

/-- do two instructions touch one slot, one of them to write it? -/
def clash (p x : AI) : Bool := hasD p.dst (readsI x) || hasD x.dst (readsI p) || sameD p.dst x.dst

/-- must p stand ahead of x in every order, if it does in this one? -/
def must (p x : Nd) : Bool :=
  clash p.i x.i || (match p.kl, x.kl with
    | .eff, .eff | .alloc, .eff | .eff, .read | .alloc, .read => true
    | _, _ => false)

def mustAll (x : Nd) : List Nd → Bool
  | [] => true
  | p :: ps => (!(must p x) || x.mask.testBit p.id) && mustAll x ps

/-- a canonical order: each number once, masks respected, all that must be ordered is; prev: those ahead; seen: their numbers -/
def orderOk : List Nd → List Nd → Nat → Bool
  | [], _, _ => true
  | x :: xs, prev, seen => !(seen.testBit x.id) && Nat.beq (x.mask &&& seen) x.mask && mustAll x prev && orderOk xs (x :: prev) (seen ||| 2 ^ x.id)

/-- the items of a region that draws; rs: the reads so far -/
def items : List Nd → List Nat → List DI
  | [], _ => []
  | nd :: ns, rs => match nd.kl with
    | .read => .read nd.i nd.id :: items ns (nd.id :: rs)
    | .eff => .effect nd.i (rs.filter fun r => !(nd.mask.testBit r)) :: items ns rs
    | _ => .pure nd.i :: items ns rs

def ccode (P : Program) (n : Nat) : Code → ACode
  | .skip => .skip
  | .region _ ops d =>
    bif d then
      let ns := nodes P n ops.toList ops.toList 0 []
      let l := order ns.length 0 ns
      bif Nat.beq l.length ns.length && orderOk l [] 0 then .dregion (items l []) else .fail
    else .region (ops.toList.map (cai P n ops.toList))
  | .seq a b => .seq (ccode P n a) (ccode P n b)
  | .cond c a b => match cod n c with | some c => .cond c (ccode P n a) (ccode P n b) | none => .fail
  | .block id b => .block id (ccode P n b)
  | .loop b => .loop (ccode P n b)
  | .exit id => .exit id
  | .ret => .ret
  | _ => .fail

def cres (P : Program) (n : Nat) : ResultVar → ARes
  | .tmp t => bif Nat.blt t n then .tmp t else .bad
  | .cell t ty => match szOf P ty, aggOf P ty with | some s, some g => bif Nat.blt t n then .cell t g s else .bad | _, _ => .bad

def callable (P : Program) (f : FuncId) : Bool :=
  match P.funcs[f]? with
  | some fn => fn.body.isSome && !(fn.name == "runtime.NumGoroutine")
  | none => false

def cfn (P : Program) (f : FuncId) : Option AFn :=
  match P.funcs[f]? with
  | some fn => match fn.body with
    | some c => bif Nat.ble fn.ntmps 512 && Nat.ble fn.params.size fn.ntmps && !(fn.name == "runtime.NumGoroutine") then some ⟨ccode P fn.ntmps c, fn.results.toList.map (cres P fn.ntmps), fn.ntmps⟩ else none
    | none => none
  | none => none

end Go.Ax

namespace Go.Ax
open Go
variable {H : HeapI}

theorem one_eq : ∀ (cs : List Value) (n : Nat), one cs n = cs[n]?
  | [], n => by cases n <;> rfl
  | c :: cs, 0 => rfl
  | c :: cs, n + 1 => by show one cs n = _; rw [one_eq cs n]; simp

theorem take_some : ∀ (cs : List Value) (n : Nat) (r : List Value), take cs n = some r → n ≤ cs.length ∧ r = cs.take n
  | [], 0, r, h => by injection h with h; subst h; simp
  | [], n + 1, r, h => by cases h
  | c :: cs, 0, r, h => by injection h with h; subst h; simp
  | c :: cs, n + 1, r, h => by
    have h' : (Option.rec none (fun r => some (c :: r)) (take cs n) : Option (List Value)) = some r := h
    cases hr : take cs n with
    | none => rw [hr] at h'; cases h'
    | some r' =>
      rw [hr] at h'
      injection h' with h'
      obtain ⟨a, b⟩ := take_some cs n r' hr
      subst h'; subst b
      simp; exact a

theorem get_some : ∀ (cs : List Value) (size o : Nat) (r : List Value), get cs size o = some r → o + size ≤ cs.length ∧ r = (cs.drop o).take size
  | [], size, 0, r, h => by have := take_some [] size r h; simpa using this
  | [], size, o + 1, r, h => by cases h
  | c :: cs, size, 0, r, h => by have := take_some (c :: cs) size r h; simpa using this
  | c :: cs, size, o + 1, r, h => by
    have := get_some cs size o r h
    simp only [List.length_cons, List.drop_succ_cons]
    exact ⟨by omega, this.2⟩

theorem putHere_some : ∀ (cs vs r : List Value), putHere cs vs = some r → vs.length ≤ cs.length ∧ (∀ v ∈ vs, oneC v = true) ∧ r = vs ++ cs.drop vs.length
  | [], [], r, h => by injection h with h; subst h; simp
  | [], _ :: _, r, h => by cases h
  | c :: cs, [], r, h => by injection h with h; subst h; simp
  | c :: cs, v :: vs, r, h => by
    have h' : (Bool.rec none (Option.rec none (fun r => some (v :: r)) (putHere cs vs)) (oneC v) : Option (List Value)) = some r := h
    cases ho : oneC v with
    | false => rw [ho] at h'; cases h'
    | true =>
      rw [ho] at h'
      cases hr : putHere cs vs with
      | none => rw [hr] at h'; cases h'
      | some r' =>
        rw [hr] at h'
        injection h' with h'
        obtain ⟨a, b, d⟩ := putHere_some cs vs r' hr
        subst h'; subst d
        refine ⟨by simp; exact a, ?_, by simp⟩
        intro x hx
        rcases List.mem_cons.1 hx with e | e
        · exact e ▸ ho
        · exact b x e

theorem put_some : ∀ (vs cs : List Value) (o : Nat) (r : List Value), put vs cs o = some r →
    o + vs.length ≤ cs.length ∧ (∀ v ∈ vs, oneC v = true) ∧ r = cs.take o ++ vs ++ cs.drop (o + vs.length)
  | vs, [], 0, r, h => by
    obtain ⟨a, b, d⟩ := putHere_some [] vs r h
    exact ⟨by omega, b, by simpa using d⟩
  | vs, [], o + 1, r, h => by cases h
  | vs, c :: cs, 0, r, h => by
    obtain ⟨a, b, d⟩ := putHere_some (c :: cs) vs r h
    exact ⟨by omega, b, by simpa using d⟩
  | vs, c :: cs, o + 1, r, h => by
    have h' : (Option.rec none (fun r => some (c :: r)) (put vs cs o) : Option (List Value)) = some r := h
    cases hr : put vs cs o with
    | none => rw [hr] at h'; cases h'
    | some r' =>
      rw [hr] at h'
      injection h' with h'
      obtain ⟨a, b, d⟩ := put_some vs cs o r' hr
      subst h'; subst d
      refine ⟨by simp; omega, b, ?_⟩
      simp only [List.take_succ_cons, List.cons_append, List.append_assoc]
      rw [show o + 1 + vs.length = (o + vs.length) + 1 by omega, List.drop_succ_cons]

theorem rep_length (z : List Value) : ∀ n, (rep z n).length = n * z.length
  | 0 => by simp [rep]
  | n + 1 => by simp [rep, rep_length z n, Nat.succ_mul]; omega

theorem rep_get (z : List Value) (hz : 0 < z.length) : ∀ n i, i < n * z.length → (rep z n)[i]? = z[i % z.length]?
  | 0, i, h => by simp at h
  | n + 1, i, h => by
    simp only [rep, List.getElem?_append]
    split
    · rename_i hi; rw [Nat.mod_eq_of_lt hi]
    · rename_i hi
      rw [rep_get z hz n (i - z.length) (by rw [Nat.succ_mul] at h; omega)]
      rw [← Nat.mod_eq_sub_mod (by omega)]

theorem oneC_iff (v : Value) : oneC v = v.oneCell' := by cases v <;> rfl

theorem VRel.oneC {M : Mp} {v v' : Value} (h : VRel M v v') : Ax.oneC v = Ax.oneC v' := by cases h <;> rfl

/-! constants relate to themselves -/
theorem cloL_rel (M : Mp) : ∀ l, cloL l = true → All2 (VRel M) l l
  | [], _ => .nil
  | v :: vs, h => by
    simp only [cloL, Bool.and_eq_true] at h
    exact .cons (.sc h.1) (cloL_rel M vs h.2)

theorem clo_rel (M : Mp) (v : Value) (h : clo v = true) : VRel M v v := by
  unfold clo at h
  split at h
  · exact .agg (cloL_rel M _ h)
  · exact .tuple (cloL_rel M _ h)
  · exact .sc h

/-- the cells of related values are related -/
theorem cells_rel {M : Mp} {v v' : Value} (h : VRel M v v') : All2 (VRel M) v.cells.toList v'.cells.toList := by
  cases h with
  | agg h => exact h
  | sc hc => cases v <;> first | exact .cons (.sc hc) .nil | (simp [cloS] at hc)
  | ptr h => exact .cons (.ptr h) .nil
  | slE h => exact .cons (.slE h) .nil
  | slL h => exact .cons (.slL h) .nil
  | slU => exact .cons .slU .nil
  | map h => exact .cons (.map h) .nil
  | chan h => exact .cons (.chan h) .nil
  | func a b => exact .cons (.func a b) .nil
  | tuple h => exact .cons (.tuple h) .nil

/-! frames -/
structure ERel (n : Nat) (M : Mp) (τ : Env) (tmps : Array Value) : Prop where
  size : tmps.size = n
  at_ : ∀ t, t < n → VRel M (ev (.tmp t) τ) (tmps.getD t undef)

theorem ERel.mono {n M M' τ tmps} (h : ERel n M τ tmps) (le : M.le M') : ERel n M' τ tmps := ⟨h.size, fun t ht => (h.at_ t ht).mono le⟩

theorem ev_tmp (t : Nat) (τ : Env) : ev (.tmp t) τ = (Tr.get 9 τ t).getD undefV := by
  show (Option.rec undefV (fun v => v) (Tr.get 9 τ t) : Value) = _
  cases Tr.get 9 τ t <;> rfl

theorem undef_rel (M : Mp) : VRel M undefV undef := .tuple .nil

theorem cod_rel {n M τ} {a : Act} (h : ERel n M τ a.tmps) {x : Operand} {y : Od} (hc : cod n x = some y) : VRel M (ev y τ) (a.eval x) := by
  cases x with
  | tmp t =>
    simp only [cod] at hc
    cases hb : Nat.blt t n with
    | false => rw [hb] at hc; cases hc
    | true =>
      rw [hb] at hc; injection hc with hc; subst hc
      exact h.at_ t (Nat.le_of_ble_eq_true hb)
  | const v =>
    simp only [cod] at hc
    cases hb : clo v with
    | false => rw [hb] at hc; cases hc
    | true => rw [hb] at hc; injection hc with hc; subst hc; exact clo_rel M v hb
  | global g => cases hc
  | func f => injection hc with hc; subst hc; exact .func .nil .nil

theorem cods_rel {n M τ} {a : Act} (h : ERel n M τ a.tmps) : ∀ {xs : List Operand} {ys : List Od}, cods n xs = some ys → All2 (VRel M) (evs ys τ) (xs.map a.eval)
  | [], ys, hc => by injection hc with hc; subst hc; exact .nil
  | x :: xs, ys, hc => by
    simp only [cods, Option.bind_eq_some_iff] at hc
    obtain ⟨y, hy, ys', hys, e⟩ := hc
    injection e with e; subst e
    exact .cons (cod_rel h hy) (cods_rel h hys)

theorem ev_set {n : Nat} (hn : n ≤ 512) (τ : Env) (d t : Nat) (v : Value) (hd : d < n) : ev (.tmp t) (Tr.set 9 (some v) τ d) = if t = d then v else ev (.tmp t) τ := by
  rw [ev_tmp, ev_tmp]
  split
  · rename_i e; subst e; rw [Tr.get_set 9 _ _ _ (by omega)]; rfl
  · rename_i e; rw [Tr.get_set_ne 9 _ _ _ _ (by omega) e]

theorem ERel.put {n M τ} {a : Act} (hn : n ≤ 512) (h : ERel n M τ a.tmps) {dst : Option Nat} (hd : dstOk n dst = true) {v v' : Value} (hv : VRel M v v') :
    ERel n M (setD dst v τ) (a.put dst v').tmps := by
  cases dst with
  | none => exact h
  | some d =>
    have hdn : d < n := Nat.le_of_ble_eq_true hd
    refine ⟨by simp [Act.put, h.size], fun t ht => ?_⟩
    show VRel M (ev (.tmp t) (Tr.set 9 (some v) τ d)) _
    rw [ev_set hn τ d t v hdn]
    simp only [Act.put, Array.getD_eq_getD_getElem?, Array.getElem?_setIfInBounds]
    split
    · rename_i e; subst e; simp [h.size, hdn, hv]
    · rename_i e
      rw [if_neg (fun e' => e e'.symm)]
      have := h.at_ t ht
      simpa [Array.getD_eq_getD_getElem?] using this

@[simp] theorem Act.put_defers (a : Act) (d : Option Nat) (v : Value) : (a.put d v).defers = a.defers := by cases d <;> rfl

end Go.Ax

