/- The machine once more, its ends handed on; tables of printed functions; runs. -/
import Derived.Test.YtmpaepfagmofoaaGreatDoorAxF
set_option linter.all false
namespace Go.Ax
open Go
variable {H : HeapI}

noncomputable section
abbrev KEnv := Nat → Value
def kev (o : Od) (e : KEnv) : Value := Od.rec (fun t => e t) (fun v => v) (fun f => .func (.func f) #[] #[]) o
def kevs (l : List Od) (e : KEnv) : List Value := List.rec [] (fun x _ ih => kev x e :: ih) l
def kevo (o : Option Od) (e : KEnv) : Option Value := Option.rec none (fun x => some (kev x e)) o
def kevp (l : List (Nat × Nat × Od)) (e : KEnv) : List (Nat × Nat × Value) := List.rec [] (fun x _ ih => (x.1, x.2.1, kev x.2.2 e) :: ih) l

/-! the steps, by values -/
def vPick (c a b : Value) : Option Value := match c with | .bool true => some a | .bool false => some b | _ => none
def vPut (ps : List (Nat × Nat × Value)) : List Value → Option (List Value) :=
  List.rec (fun cs => some cs) (fun p _ ih cs =>
    (fun (vs : List Value) => Bool.rec none (Option.rec none ih (put vs cs p.1)) (Nat.beq vs.length p.2.1)) p.2.2.cells.toList) ps
def vBuild (z : List Value) (ps : List (Nat × Nat × Value)) : Option Value := Option.rec none (fun cs => some (.agg ⟨cs⟩)) (vPut ps z)
def vBox (x : Value) (σ : St H) : R H := fresh σ (.cells x.cells.toList false 0) fun b => .pointer (some ⟨b, 0, none⟩)
def vBuildSlice (n : Nat) (z : List Value) (ps : List (Nat × Nat × Value)) (σ : St H) : R H :=
  Option.rec none (fun cs => fresh σ (.cells cs false 1) fun b => .slice (some ⟨b, 0, none⟩) n n) (vPut ps z)
def vLoad (agg : Bool) (size : Nat) (x : Value) (σ : St H) : Option Value :=
  match x with
  | .pointer (some a) => Option.rec none (fun cs => mkv agg size cs a.off) (σ.cells a.block)
  | _ => none
def vStore (size : Nat) (a x : Value) (σ : St H) : Option (St H) :=
  match a with
  | .pointer (some p) => match σ.obj p.block with
    | some (.cells cs false z) =>
      Bool.rec none (Option.rec none (fun cs' => some (σ.put p.block (some (.cells cs' false z)))) (put x.cells.toList cs p.off)) (Nat.beq x.cells.toList.length size)
    | _ => none
  | _ => none
def vNil (x : Value) : Option Value := match x with | .pointer (some a) => some (.pointer (some a)) | _ => none
def vEq (k : EqK) (neg : Bool) (x y : Value) : Option Value := Option.rec none (fun b => some (.bool (neg != b))) (aeq k x y)
def vConv (k : IntKind) (x : Value) : Option Value := match x with | .int _ n => some (.int k (k.wrap n)) | _ => none
def vMkMap (σ : St H) : R H := fresh σ (.map [] 0) fun b => .map (some b)
def vMkChan (bytes : Nat) (n : Value) (σ : St H) : R H :=
  match n with
  | .int _ m => if 0 ≤ m ∧ m ≤ 2 ^ 40 ∧ m * bytes ≤ 2 ^ 40 then fresh σ (.chan m.toNat [] 0 0) fun b => .chan (some b) else none
  | _ => none
def vMkSlice (bytes : Nat) (z : List Value) (l c : Value) (σ : St H) : R H :=
  match l, c with
  | .int _ l, .int _ c =>
    if 0 ≤ l ∧ l ≤ c ∧ c * bytes ≤ 2 ^ 40 ∧ c ≤ 2 ^ 40 then fresh σ (.cells (rep z c.toNat) false 1) fun b => .slice (some ⟨b, 0, none⟩) l.toNat c.toNat else none
  | _, _ => none
def vSlice (size : Nat) (x : Value) (lo hi mx : Option Value) : Option Value :=
  match x with
  | .slice a len cap => match bounds len cap lo hi mx with
    | some (l, h, m) => sliceV size a mx.isSome l h m
    | none => none
  | _ => none
def vSliceArr (n size : Nat) (x : Value) (lo hi mx : Option Value) : Option Value :=
  match x with
  | .pointer (some ⟨b, o, none⟩) => match bounds n n lo hi mx with
    | some (l, h, m) => some (.slice (some ⟨b, bif Nat.beq m l then o else o + l * size, none⟩) (h - l) (m - l))
    | none => none
  | _ => none
def vFieldAddr (off : Nat) (x : Value) : Option Value := match x with | .pointer (some a) => some (.pointer (some ⟨a.block, Nat.add a.off off, none⟩)) | _ => none
def vField (agg : Bool) (size off : Nat) (x : Value) : Option Value := match x with | .agg cs => mkv agg size cs.toList off | _ => none
def vIndexAddr (size : Nat) (x i : Value) : Option Value :=
  match x, i with
  | .slice (some a) len _, .int _ i => if 0 ≤ i ∧ i < len then some (.pointer (some ⟨a.block, a.off + i.toNat * size, none⟩)) else none
  | _, _ => none
def vIndexArr (n size : Nat) (x i : Value) : Option Value :=
  match x, i with
  | .pointer (some a), .int _ i => if 0 ≤ i ∧ i < n then some (.pointer (some ⟨a.block, a.off + i.toNat * size, none⟩)) else none
  | _, _ => none
def vIndex (agg : Bool) (n size : Nat) (x i : Value) : Option Value :=
  match x, i with
  | .agg cs, .int _ i => if 0 ≤ i ∧ i < n then mkv agg size cs.toList (i.toNat * size) else none
  | _, _ => none
def vLookup (kk : Bool) (z : Value) (ok : Bool) (m k : Value) (σ : St H) : Option Value :=
  match σ.map m with
  | some es => bif keyIs kk k then
      match findE k es 0 with
      | some (some (_, v)) => some (bif ok then .tuple #[v, .bool true] else v)
      | some none => some (bif ok then .tuple #[z, .bool false] else z)
      | none => none
    else none
  | none => none
def vMapUpdate (kk : Bool) (m k v : Value) (σ : St H) : Option (St H) :=
  match m with
  | .map (some r) => match σ.obj r with
    | some (.map es clock) => bif keyIs kk k then
        match findE k es 0 with
        | some (some (i, _)) => some (σ.put r (some (.map (setE v es i) clock)))
        | some none => some (σ.put r (some (.map (es ++ [{ key := k, val := v, born := clock }]) (clock + 1))))
        | none => none
      else none
    | _ => none
  | _ => none
def vMapEntry (kk : Bool) (z : Value) (m k : Value) (σ : St H) : R H :=
  match m with
  | .map (some r) => match σ.obj r with
    | some (.map es clock) => bif keyIs kk k then
        match findE k es 0 with
        | some (some (i, v)) => match nthE es i with
          | some e => some (.tuple #[v, .int .i64 e.born], σ)
          | none => none
        | some none => some (.tuple #[z, .int .i64 clock], σ.put r (some (.map (es ++ [{ key := k, val := z, born := clock }]) (clock + 1))))
        | none => none
      else none
    | _ => none
  | _ => none
def vEntryStore (m s v : Value) (σ : St H) : Option (St H) :=
  match m, s with
  | .map (some r), .int _ b => match σ.obj r with
    | some (.map es clock) => match bornAt b es 0 with
      | some i => some (σ.put r (some (.map (setE v es i) clock)))
      | none => none
    | _ => none
  | _, _ => none
def vExtract (i : Nat) (x : Value) : Option Value := match x with | .tuple vs => one vs.toList i | _ => none
def vCallv (x : Value) (xs : List Value) (call : CallF H) (σ : St H) : R H :=
  match x with | .func (.func f) first captured => call f (first.toList ++ xs ++ captured.toList) σ | _ => none
def vLen (k : LenK) (x : Value) (σ : St H) : Option Value :=
  match k, x with
  | .slice, .slice _ n _ => some (.int .i64 n)
  | .str, .string s => some (.int .i64 s.data.toList.length)
  | .map, .map m => match σ.map (.map m) with | some es => some (.int .i64 es.length) | none => none
  | .chan, .chan none => some (.int .i64 0)
  | .chan, .chan (some r) => match σ.obj r with
    | some (.chan _ buf _ _) => some (.int .i64 buf.length)
    | _ => none
  | _, _ => none
def vAppend (size bytes : Nat) (zero : List Value) (zeros : Bool) (s x : Value) (σ : St H) : R H :=
  match s with
  | .slice base len cap =>
    match moreN bytes zeros x with
    | none => none
    | some n => match moreC σ size n zero zeros x with
      | none => none
      | some new => bif Nat.beq new.length (n * size) then appendTo zeros σ size bytes base len cap n new else none
  | _ => none
def vCap (x : Value) : Option Value :=
  match x with
  | .slice none _ c => some (.int .i64 c)
  | .slice (some ⟨_, _, none⟩) _ c => some (.int .i64 c)
  | _ => none
def vMn (xs : List Value) : Option Value := match xs with | v :: vs => foldInt (fun a b => if b < a then b else a) v vs | [] => none
def vMx (xs : List Value) : Option Value := match xs with | v :: vs => foldInt (fun a b => if a < b then b else a) v vs | [] => none
def vDelete (kk : Bool) (m k : Value) (σ : St H) : Option (St H) :=
  match m with
  | .map none => bif keyIs kk k then some σ else none
  | .map (some r) => match σ.obj r with
    | some (.map es clock) => bif keyIs kk k then
        match findE k es 0 with
        | some (some (i, _)) => some (σ.put r (some (.map (delE es i) clock)))
        | some none => some σ
        | none => none
      else none
    | _ => none
  | _ => none
def vSel (send : Option Value) (z : Value) (c : Value) (σ : St H) : R H :=
  match c with
  | .chan (some r) => match σ.obj r with
    | some (.chan cap buf sent rcvd) =>
      match send with
      | some x =>
        bif Nat.blt buf.length cap then
          some (.tuple #[.int .i64 0, .bool false], σ.put r (some (.chan cap (buf ++ [x]) (sent + 1) rcvd)))
        else some (.tuple #[.int .i64 (-1), .bool false], σ)
      | none =>
        match buf with
        | [] => some (.tuple #[.int .i64 (-1), .bool false, z], σ)
        | v :: buf => some (.tuple #[.int .i64 0, .bool true, v], σ.put r (some (.chan cap buf sent (rcvd + 1))))
    | _ => none
  | .chan none => match send with
    | some _ => some (.tuple #[.int .i64 (-1), .bool false], σ)
    | none => some (.tuple #[.int .i64 (-1), .bool false, z], σ)
  | _ => none
def vAdd64 (x y c : Value) : Option Value :=
  match x, y, c with
  | .int .u64 x, .int .u64 y, .int .u64 c =>
    if 0 ≤ x ∧ 0 ≤ y ∧ 0 ≤ c ∧ c ≤ 1 then
      some (.tuple #[.int .u64 ((x + y + c) % 2 ^ 64), .int .u64 ((x + y + c) / 2 ^ 64)])
    else none
  | _, _, _ => none

/-- what a step gives: a value; a heap; both -/
inductive KR (H : HeapI) where
  | v (x : Value)
  | p (o : Option Value)
  | s (o : Option (St H))
  | r (o : R H)

def kres (op : AOp) (call : CallF H) (e : KEnv) (σ : St H) : KR H :=
  @AOp.casesOn (fun _ => KR H) op
    (fun x => .v (kev x e))
    (fun c a b => .p (vPick (kev c e) (kev a e) (kev b e)))
    (fun x => .r (vBox (kev x e) σ))
    (fun z ps => .p (vBuild z (kevp ps e)))
    (fun n z ps => .r (vBuildSlice n z (kevp ps e) σ))
    (fun agg size x => .p (vLoad agg size (kev x e) σ))
    (fun size a x => .s (vStore size (kev a e) (kev x e) σ))
    (fun x => .p (vNil (kev x e)))
    (fun op x y => .p (abin op (kev x e) (kev y e)))
    (fun k neg x y => .p (vEq k neg (kev x e) (kev y e)))
    (fun op x => .p (aun op (kev x e)))
    (fun k x => .p (vConv k (kev x e)))
    (fun f xs ys => .v (.func (.func f) ⟨kevs xs e⟩ ⟨kevs ys e⟩))
    (.r (vMkMap σ))
    (fun b n => .r (vMkChan b (kev n e) σ))
    (fun b z l c => .r (vMkSlice b z (kev l e) (kev c e) σ))
    (fun size x lo hi mx => .p (vSlice size (kev x e) (kevo lo e) (kevo hi e) (kevo mx e)))
    (fun n size x lo hi mx => .p (vSliceArr n size (kev x e) (kevo lo e) (kevo hi e) (kevo mx e)))
    (fun off x => .p (vFieldAddr off (kev x e)))
    (fun agg size off x => .p (vField agg size off (kev x e)))
    (fun size x i => .p (vIndexAddr size (kev x e) (kev i e)))
    (fun n size x i => .p (vIndexArr n size (kev x e) (kev i e)))
    (fun agg n size x i => .p (vIndex agg n size (kev x e) (kev i e)))
    (fun kk z m k ok => .p (vLookup kk z ok (kev m e) (kev k e) σ))
    (fun kk m k v => .s (vMapUpdate kk (kev m e) (kev k e) (kev v e) σ))
    (fun kk z m k => .r (vMapEntry kk z (kev m e) (kev k e) σ))
    (fun m s v => .s (vEntryStore (kev m e) (kev s e) (kev v e) σ))
    (fun x i => .p (vExtract i (kev x e)))
    (fun f xs => .r (call f (kevs xs e) σ))
    (fun x xs => .r (vCallv (kev x e) (kevs xs e) call σ))
    (fun k x => .p (vLen k (kev x e) σ))
    (fun size bytes zero zeros s x => .r (vAppend size bytes zero zeros (kev s e) (kev x e) σ))
    (fun x => .p (vCap (kev x e)))
    (fun xs => .p (vMn (kevs xs e)))
    (fun xs => .p (vMx (kevs xs e)))
    (fun kk m k => .s (vDelete kk (kev m e) (kev k e) σ))
    (fun send z c => .r (vSel (kevo send e) z (kev c e) σ))
    (fun x y c => .p (vAdd64 (kev x e) (kev y e) (kev c e)))
    (.p none)

def bindV {β : Type} (o : Option Value) (k : Value → Option β) : Option β := Option.rec none k o
def bindS {β : Type} (o : Option (St H)) (k : St H → Option β) : Option β := Option.rec none k o
def bindR {β : Type} (o : R H) (k : Value → St H → Option β) : Option β := Option.rec none (fun p => Prod.rec k p) o

def kgd (g : Bool) (x : KR H) (σ : St H) : KR H :=
  KR.rec (fun x => .p (bif g then some x else some undefV)) (fun o => .p (bif g then o else some undefV)) (fun o => .s (bif g then o else some σ)) (fun o => .r (bif g then o else some (undefV, σ))) x
def kbind {β : Type} (x : KR H) (σ : St H) (k : Value → St H → Option β) : Option β :=
  KR.rec (fun x => k x σ) (fun o => bindV o (fun v => k v σ)) (fun o => bindS o (fun σ' => k undefV σ')) (fun o => bindR o k) x

def kyes (v : Value) (want : Bool) : Bool := match v with | .bool b => b == want | _ => false
/-- a slot is set; only one of 512 -/
def kset {β : Type} (d : Option Nat) (v : Value) (e : KEnv) (k : KEnv → Option β) : Option β :=
  Option.rec (k e) (fun d => Bool.rec none (k (fun t => Bool.rec (e t) v (Nat.beq t d))) (Nat.blt d 512)) d

def kgO (g : Option (Nat × Bool)) (e : KEnv) (x : KR H) (σ : St H) : KR H := Option.rec x (fun p => kgd (kyes (e p.1) p.2) x σ) g
def kyesO (g : Option (Nat × Bool)) (e : KEnv) : Bool := Option.rec true (fun p => kyes (e p.1) p.2) g
def kai {β : Type} (i : AI) (call : CallF H) (e : KEnv) (σ : St H) (k : KEnv → St H → Option β) : Option β :=
  kbind (kgO i.guard e (kres i.op call e σ) σ) σ fun v σ' => kset i.dst v e fun e' => k e' σ'
def kais {β : Type} (l : List AI) : CallF H → KEnv → St H → (KEnv → St H → Option β) → Option β :=
  List.rec (fun _ e σ k => k e σ) (fun i _ ih call e σ k => kai i call e σ fun e' σ' => ih call e' σ' k) l

/-- a read that is noted; whether it was done -/
structure KNote where
  id : Nat
  op : AOp
  e : KEnv
  v : Value
  g : Bool

/-- a read looked at again -/
def rck (o : Option Value) (v : Value) : Bool := Option.rec false (fun w => vbeq w v) o
def kagain (n : KNote) (σ : St H) : Bool := KR.rec (fun x => vbeq x n.v) (fun o => rck o n.v) (fun _ => false) (fun _ => false) (kres n.op (nocall (H := H)) n.e σ)
def krecheck (chk : List Nat) (σ : St H) (ns : List KNote) : Bool :=
  List.rec true (fun n _ ih => Bool.rec ih (Bool.rec false ih (Bool.rec true (kagain n σ) n.g)) (memN n.id chk)) ns

def kdis {β : Type} (l : List DI) : CallF H → List KNote → KEnv → St H → (KEnv → St H → Option β) → Option β :=
  List.rec (fun _ _ e σ k => k e σ) (fun d _ ih => DI.rec
    (fun i call ns e σ k => kai i call e σ fun e' σ' => ih call ns e' σ' k)
    (fun i id call ns e σ k => kbind (kgO i.guard e (kres i.op call e σ) σ) σ fun v σ' => kset i.dst v e fun e' => ih call (⟨id, i.op, e, v, kyesO i.guard e⟩ :: ns) e' σ' k)
    (fun i chk call ns e σ k => kai i call e σ fun e' σ' => Bool.rec none (ih call ns e' σ' k) (krecheck chk σ' ns)) d) l

def kif {β : Type} (c : Bool) (x : Option β) : Option β := Bool.rec none x c
def kand (x y : Bool) : Bool := Bool.rec false y x
def kimp (g x : Bool) : Bool := Bool.rec true x g
def ifV {β : Type} (c : Value) (a b : Option β) : Option β := match c with | .bool true => a | .bool false => b | _ => none
def kloop {β : Type} (body : KEnv → St H → (KEnv → St H → Option β) → Option β) (n : Nat) : KEnv → St H → Option β :=
  Nat.rec (fun _ _ => none) (fun _ ih e σ => body e σ ih) n

/-- what comes behind: the normal end; the ends of blocks; a return -/
def kcode {β : Type} (c : ACode) : CallF H → Nat → KEnv → St H → (KEnv → St H → Option β) → (Nat → KEnv → St H → Option β) → (KEnv → St H → Option β) → Option β :=
  ACode.rec (motive := fun _ => CallF H → Nat → KEnv → St H → (KEnv → St H → Option β) → (Nat → KEnv → St H → Option β) → (KEnv → St H → Option β) → Option β)
    (fun _ _ e σ kn _ _ => kn e σ)
    (fun l call _ e σ kn _ _ => kais l call e σ kn)
    (fun l call _ e σ kn _ _ => kdis l call [] e σ kn)
    (fun _ _ a b call f e σ kn kx kr => a call f e σ (fun e σ => b call f e σ kn kx kr) kx kr)
    (fun c _ _ a b call f e σ kn kx kr => ifV (kev c e) (a call f e σ kn kx kr) (b call f e σ kn kx kr))
    (fun id _ b call f e σ kn kx kr => b call f e σ kn (fun i e σ => bif Nat.beq i id then kn e σ else kx i e σ) kr)
    (fun _ b call f e σ _ kx kr => kloop (fun e σ k => b call f e σ k kx kr) f e σ)
    (fun id _ _ e σ _ kx _ => kx id e σ)
    (fun _ _ e σ _ _ kr => kr e σ)
    (fun _ _ _ _ _ _ _ => none) c

def kares (e : KEnv) (σ : St H) (r : ARes) : Option Value :=
  ARes.rec (fun t => some (e t)) (fun t agg size => vLoad agg size (e t) σ) none r
def karesL (e : KEnv) (σ : St H) (l : List ARes) : Option (List Value) :=
  List.rec (some []) (fun r _ ih => Option.rec none (fun v => Option.rec none (fun vs => some (v :: vs)) ih) (kares e σ r)) l
def karesV (e : KEnv) (σ : St H) (l : List ARes) : R H :=
  match karesL e σ l with
  | some [v] => some (v, σ)
  | some vs => some (.tuple ⟨vs⟩, σ)
  | none => none
def kinit (l : List Value) : Nat → KEnv → KEnv :=
  List.rec (fun _ e => e) (fun v _ ih n e => ih (Nat.succ n) (fun t => Bool.rec (e t) v (Nat.beq t n))) l
def kbody (call : CallF H) (fuel : Nat) (fn : AFn) (args : List Value) (σ : St H) : R H :=
  Bool.rec none (Bool.rec none (kcode fn.body call fuel (kinit args 0 fun _ => undefV) σ (fun e σ' => karesV e σ' fn.results) (fun _ _ _ => none) (fun e σ' => karesV e σ' fn.results)) (Nat.ble args.length 512)) (Nat.ble args.length fn.nt)
end
end Go.Ax

namespace Go.Ax
open Go
variable {H : HeapI}

variable {β : Type} {call : CallF H} {σ : St H} {τ : Env} {e : KEnv}

/-- the slots alike -/
def Ag (τ : Env) (e : KEnv) : Prop := ∀ t, ev (.tmp t) τ = e t

theorem kev_eq (h : Ag τ e) (x : Od) : kev x e = ev x τ := by
  cases x with
  | tmp t => exact (h t).symm
  | const v => rfl
  | fn f => rfl
theorem kevs_eq (h : Ag τ e) : ∀ l : List Od, kevs l e = evs l τ
  | [] => rfl
  | x :: l => by
    show kev x e :: kevs l e = ev x τ :: evs l τ
    rw [kev_eq h, kevs_eq h l]
theorem kevo_eq (h : Ag τ e) (o : Option Od) : kevo o e = evo o τ := by
  cases o with
  | none => rfl
  | some x => exact congrArg some (kev_eq h x)
theorem kevp_put (h : Ag τ e) : ∀ (l : List (Nat × Nat × Od)) (cs : List Value), vPut (kevp l e) cs = putAll l τ cs
  | [], _ => rfl
  | p :: l, cs => by
    show (fun (vs : List Value) => (Bool.rec none (Option.rec none (vPut (kevp l e)) (put vs cs p.1)) (Nat.beq vs.length p.2.1) : Option (List Value))) (kev p.2.2 e).cells.toList = _
    rw [putAll_step, kev_eq h, show vPut (kevp l e) = putAll l τ from funext (kevp_put h l)]

theorem bindR_pureR (o : Option Value) (k : Value → St H → Option β) : bindR (pureR σ o) k = bindV o (fun v => k v σ) := by cases o <;> rfl
theorem bindR_none (k : Value → St H → Option β) : bindR (none : R H) k = none := rfl
theorem bindR_some (v : Value) (k : Value → St H → Option β) : bindR (some (v, σ) : R H) k = k v σ := rfl

theorem kres_eq (h : Ag τ e) (op : AOp) (k : Value → St H → Option β) : kbind (kres op call e σ) σ k = bindR (aop op call τ σ) k := by
  cases op
  case val x => show k (kev x e) σ = bindR (opVal x call τ σ) k; rw [kev_eq h]; rfl
  case pick c x y =>
    show bindV (vPick (kev c e) (kev x e) (kev y e)) _ = bindR (opPick c x y call τ σ) k
    rw [kev_eq h, kev_eq h, kev_eq h]; unfold opPick vPick
    generalize ev c τ = v1; generalize ev x τ = v2; generalize ev y τ = v3
    split <;> first | rfl | (split <;> first | rfl | (exfalso; simp_all; done))
  case box x => show bindR (vBox (kev x e) σ) k = bindR (opBox x call τ σ) k; rw [kev_eq h]; rfl
  case build z ps =>
    show bindV (vBuild z (kevp ps e)) _ = bindR (opBuild z ps call τ σ) k
    unfold vBuild opBuild; rw [kevp_put h]
    cases putAll ps τ z <;> rfl
  case buildSlice n z ps =>
    show bindR (vBuildSlice n z (kevp ps e) σ) k = bindR (opBuildSlice n z ps call τ σ) k
    unfold vBuildSlice opBuildSlice; rw [kevp_put h]
  case load g s x =>
    show bindV (vLoad g s (kev x e) σ) _ = bindR (opLoad g s x call τ σ) k
    rw [kev_eq h]; unfold vLoad opLoad loadAt
    generalize ev x τ = v1
    split
    · rename_i a
      dsimp only
      cases σ.cells a.block with
      | none => rfl
      | some cs => exact (bindR_pureR _ k).symm
    · (split <;> first | rfl | (exfalso; simp_all; done))
  case store s x y =>
    show bindS (vStore s (kev x e) (kev y e) σ) _ = bindR (opStore s x y call τ σ) k
    rw [kev_eq h, kev_eq h]; unfold vStore opStore storeAt
    generalize ev x τ = v1; generalize ev y τ = v2
    split
    · rename_i p
      dsimp only
      generalize σ.obj p.block = ob
      split
      · rename_i cs z
        dsimp only
        cases Nat.beq v2.cells.toList.length s with
        | false => rfl
        | true => cases put v2.cells.toList cs p.off <;> rfl
      · (split <;> first | rfl | (exfalso; simp_all; done))
    · (split <;> first | rfl | (exfalso; simp_all; done))
  case nilCheck x =>
    show bindV (vNil (kev x e)) _ = bindR (opNil x call τ σ) k
    rw [kev_eq h]; unfold vNil opNil; generalize ev x τ = v1; split <;> first | rfl | (split <;> first | rfl | (exfalso; simp_all; done))
  case bin op x y =>
    show bindV (abin op (kev x e) (kev y e)) _ = bindR (opBin op x y call τ σ) k
    rw [kev_eq h, kev_eq h]; exact (bindR_pureR _ k).symm
  case eq j neg x y =>
    show bindV (vEq j neg (kev x e) (kev y e)) _ = bindR (opEq j neg x y call τ σ) k
    rw [kev_eq h, kev_eq h]; unfold vEq opEq
    cases aeq j (ev x τ) (ev y τ) <;> rfl
  case un op x =>
    show bindV (aun op (kev x e)) _ = bindR (opUn op x call τ σ) k
    rw [kev_eq h]; exact (bindR_pureR _ k).symm
  case conv j x =>
    show bindV (vConv j (kev x e)) _ = bindR (opConv j x call τ σ) k
    rw [kev_eq h]; unfold vConv opConv; generalize ev x τ = v1; split <;> first | rfl | (split <;> first | rfl | (exfalso; simp_all; done))
  case mkFunc f xs ys => show k (.func (.func f) ⟨kevs xs e⟩ ⟨kevs ys e⟩) σ = bindR (opFunc f xs ys call τ σ) k; rw [kevs_eq h, kevs_eq h]; rfl
  case mkMap => rfl
  case mkChan b x => show bindR (vMkChan b (kev x e) σ) k = bindR (opMkChan b x call τ σ) k; rw [kev_eq h]; rfl
  case mkSlice b z x y => show bindR (vMkSlice b z (kev x e) (kev y e) σ) k = bindR (opMkSlice b z x y call τ σ) k; rw [kev_eq h, kev_eq h]; rfl
  case slice s x lo hi mx =>
    show bindV (vSlice s (kev x e) (kevo lo e) (kevo hi e) (kevo mx e)) _ = bindR (opSlice s x lo hi mx call τ σ) k
    rw [kev_eq h, kevo_eq h, kevo_eq h, kevo_eq h]; unfold vSlice opSlice
    have hs : mx.isSome = (evo mx τ).isSome := by cases mx <;> rfl
    rw [hs]
    generalize ev x τ = v1; generalize evo lo τ = v2; generalize evo hi τ = v3; generalize evo mx τ = v4
    split
    · rename_i a len cap
      dsimp only
      cases bounds len cap v2 v3 v4 with
      | none => rfl
      | some p => obtain ⟨l, hh, m⟩ := p; exact (bindR_pureR _ k).symm
    · (split <;> first | rfl | (exfalso; simp_all; done))
  case sliceArr n s x lo hi mx =>
    show bindV (vSliceArr n s (kev x e) (kevo lo e) (kevo hi e) (kevo mx e)) _ = bindR (opSliceArr n s x lo hi mx call τ σ) k
    rw [kev_eq h, kevo_eq h, kevo_eq h, kevo_eq h]; unfold vSliceArr opSliceArr
    generalize ev x τ = v1; generalize evo lo τ = v2; generalize evo hi τ = v3; generalize evo mx τ = v4
    split
    · dsimp only
      cases bounds n n v2 v3 v4 with
      | none => rfl
      | some p => obtain ⟨l, hh, m⟩ := p; rfl
    · (split <;> first | rfl | (exfalso; simp_all; done))
  case fieldAddr off x =>
    show bindV (vFieldAddr off (kev x e)) _ = bindR (opFieldAddr off x call τ σ) k
    rw [kev_eq h]; unfold vFieldAddr opFieldAddr; generalize ev x τ = v1; split <;> first | rfl | (split <;> first | rfl | (exfalso; simp_all; done))
  case field g s off x =>
    show bindV (vField g s off (kev x e)) _ = bindR (opField g s off x call τ σ) k
    rw [kev_eq h]; unfold vField opField
    generalize ev x τ = v1
    split
    · exact (bindR_pureR _ k).symm
    · (split <;> first | rfl | (exfalso; simp_all; done))
  case indexAddr s x y =>
    show bindV (vIndexAddr s (kev x e) (kev y e)) _ = bindR (opIndexAddr s x y call τ σ) k
    rw [kev_eq h, kev_eq h]; unfold vIndexAddr opIndexAddr
    generalize ev x τ = v1; generalize ev y τ = v2
    cases v1 <;> try rfl
    rename_i a len cap
    cases a <;> try rfl
    rename_i a
    cases v2 <;> try rfl
    rename_i kd i
    dsimp only
    by_cases hc : 0 ≤ i ∧ i < len
    · rw [if_pos hc, if_pos hc]; rfl
    · rw [if_neg hc, if_neg hc]; rfl
  case indexArr n s x y =>
    show bindV (vIndexArr n s (kev x e) (kev y e)) _ = bindR (opIndexArr n s x y call τ σ) k
    rw [kev_eq h, kev_eq h]; unfold vIndexArr opIndexArr
    generalize ev x τ = v1; generalize ev y τ = v2
    split
    · rename_i a _ i; by_cases hc : 0 ≤ i ∧ i < n
      · dsimp only; rw [if_pos hc, if_pos hc]; rfl
      · dsimp only; rw [if_neg hc, if_neg hc]; rfl
    · (split <;> first | rfl | (exfalso; simp_all; done))
  case index g n s x y =>
    show bindV (vIndex g n s (kev x e) (kev y e)) _ = bindR (opIndex g n s x y call τ σ) k
    rw [kev_eq h, kev_eq h]; unfold vIndex opIndex
    generalize ev x τ = v1; generalize ev y τ = v2
    split
    · rename_i a _ i; by_cases hc : 0 ≤ i ∧ i < n
      · dsimp only; rw [if_pos hc, if_pos hc]; exact (bindR_pureR _ k).symm
      · dsimp only; rw [if_neg hc, if_neg hc]; rfl
    · (split <;> first | rfl | (exfalso; simp_all; done))
  case lookup kk z x y ok =>
    show bindV (vLookup kk z ok (kev x e) (kev y e) σ) _ = bindR (opLookup kk z x y ok call τ σ) k
    rw [kev_eq h, kev_eq h]; unfold vLookup opLookup
    cases σ.map (ev x τ) with
    | none => rfl
    | some es =>
      cases keyIs kk (ev y τ) with
      | false => rfl
      | true =>
        simp only [cond_true]
        cases findE (ev y τ) es 0 with
        | none => rfl
        | some o => cases o <;> rfl
  case mapUpdate kk x y z =>
    show bindS (vMapUpdate kk (kev x e) (kev y e) (kev z e) σ) _ = bindR (opMapUpdate kk x y z call τ σ) k
    rw [kev_eq h, kev_eq h, kev_eq h]; unfold vMapUpdate opMapUpdate
    generalize ev x τ = v1; generalize ev y τ = v2; generalize ev z τ = v3
    split
    · rename_i r
      dsimp only
      generalize σ.obj r = ob
      split
      · rename_i es clock
        dsimp only
        cases keyIs kk v2 with
        | false => rfl
        | true =>
          simp only [cond_true]
          generalize findE v2 es 0 = fe
          split <;> first | rfl | (split <;> first | rfl | (exfalso; simp_all; done))
      · (split <;> first | rfl | (exfalso; simp_all; done))
    · (split <;> first | rfl | (exfalso; simp_all; done))
  case mapEntry kk z x y =>
    show bindR (vMapEntry kk z (kev x e) (kev y e) σ) k = bindR (opMapEntry kk z x y call τ σ) k
    rw [kev_eq h, kev_eq h]; rfl
  case entryStore x y z =>
    show bindS (vEntryStore (kev x e) (kev y e) (kev z e) σ) _ = bindR (opEntryStore x y z call τ σ) k
    rw [kev_eq h, kev_eq h, kev_eq h]; unfold vEntryStore opEntryStore
    generalize ev x τ = v1; generalize ev y τ = v2; generalize ev z τ = v3
    split
    · rename_i r _ b
      dsimp only
      generalize σ.obj r = ob
      split
      · rename_i es clock
        dsimp only
        generalize bornAt b es 0 = fe
        split <;> first | rfl | (split <;> first | rfl | (exfalso; simp_all; done))
      · (split <;> first | rfl | (exfalso; simp_all; done))
    · (split <;> first | rfl | (exfalso; simp_all; done))
  case extract x i =>
    show bindV (vExtract i (kev x e)) _ = bindR (opExtract x i call τ σ) k
    rw [kev_eq h]; unfold vExtract opExtract
    generalize ev x τ = v1
    split
    · exact (bindR_pureR _ k).symm
    · (split <;> first | rfl | (exfalso; simp_all; done))
  case call f xs => show bindR (call f (kevs xs e) σ) k = bindR (opCall f xs call τ σ) k; rw [kevs_eq h]; rfl
  case callv x xs => show bindR (vCallv (kev x e) (kevs xs e) call σ) k = bindR (opCallv x xs call τ σ) k; rw [kevs_eq h, kev_eq h]; rfl
  case len j x =>
    show bindV (vLen j (kev x e) σ) _ = bindR (opLen j x call τ σ) k
    rw [kev_eq h]; unfold vLen opLen
    generalize ev x τ = v1
    cases j <;> cases v1 <;> try rfl
    · rename_i m; dsimp only; cases σ.map (.map m) <;> rfl
    · rename_i m
      cases m with
      | none => rfl
      | some r =>
        dsimp only
        generalize σ.obj r = ob
        cases ob with
        | none => rfl
        | some ob => cases ob <;> rfl
  case append s b z zs x y => show bindR (vAppend s b z zs (kev x e) (kev y e) σ) k = bindR (opAppend s b z zs x y call τ σ) k; rw [kev_eq h, kev_eq h]; rfl
  case cap x =>
    show bindV (vCap (kev x e)) _ = bindR (opCap x call τ σ) k
    rw [kev_eq h]; unfold vCap opCap; generalize ev x τ = v1
    cases v1 <;> try rfl
    rename_i a l c
    cases a with
    | none => rfl
    | some a => obtain ⟨b, o, s⟩ := a; cases s <;> rfl
  case mn xs =>
    show bindV (vMn (kevs xs e)) _ = bindR (opMn xs call τ σ) k
    rw [kevs_eq h]; unfold vMn opMn
    generalize evs xs τ = l
    split
    · exact (bindR_pureR _ k).symm
    · rfl
  case mx xs =>
    show bindV (vMx (kevs xs e)) _ = bindR (opMx xs call τ σ) k
    rw [kevs_eq h]; unfold vMx opMx
    generalize evs xs τ = l
    split
    · exact (bindR_pureR _ k).symm
    · rfl
  case delete kk x y =>
    show bindS (vDelete kk (kev x e) (kev y e) σ) _ = bindR (opDelete kk x y call τ σ) k
    rw [kev_eq h, kev_eq h]; unfold vDelete opDelete
    generalize ev x τ = v1; generalize ev y τ = v2
    split
    · cases keyIs kk v2 <;> rfl
    · rename_i r
      dsimp only
      generalize σ.obj r = ob
      split
      · rename_i es clock
        dsimp only
        cases keyIs kk v2 with
        | false => rfl
        | true => simp only [cond_true]; generalize findE v2 es 0 = fe; split <;> first | rfl | (split <;> first | rfl | (exfalso; simp_all; done))
      · (split <;> first | rfl | (exfalso; simp_all; done))
    · (split <;> first | rfl | (exfalso; simp_all; done))
  case sel s z c =>
    show bindR (vSel (kevo s e) z (kev c e) σ) k = bindR (opSel s z c call τ σ) k
    rw [kev_eq h]; unfold vSel opSel
    cases s with
    | none => rfl
    | some x =>
      have : kevo (some x) e = some (ev x τ) := congrArg some (kev_eq h x)
      rw [this]; rfl
  case add64 x y c =>
    show bindV (vAdd64 (kev x e) (kev y e) (kev c e)) _ = bindR (opAdd64 x y c call τ σ) k
    rw [kev_eq h, kev_eq h, kev_eq h]; unfold vAdd64 opAdd64
    generalize ev x τ = v1; generalize ev y τ = v2; generalize ev c τ = v3
    split
    · rename_i a b c
      by_cases hc : 0 ≤ a ∧ 0 ≤ b ∧ 0 ≤ c ∧ c ≤ 1
      · dsimp only; rw [if_pos hc, if_pos hc]; rfl
      · dsimp only; rw [if_neg hc, if_neg hc]; rfl
    · (split <;> first | rfl | (exfalso; simp_all; done))
  case fail => rfl

theorem kyes_eq (h : Ag τ e) (t : Nat) (want : Bool) : kyes (e t) want = yes t want τ := by
  rw [← h t, ev_tmp]; unfold yes kyes
  cases Tr.get 9 τ t with
  | none => rfl
  | some v => cases v <;> rfl
theorem kyesO_eq (h : Ag τ e) (g : Option (Nat × Bool)) : kyesO g e = yesO g τ := by
  cases g with
  | none => rfl
  | some p => exact kyes_eq h p.1 p.2

theorem ag_set (h : Ag τ e) {d : Nat} (hd : d < 512) (v : Value) : Ag (setD (some d) v τ) (fun t => Bool.rec (e t) v (Nat.beq t d)) := fun t => by
  show ev (.tmp t) (Tr.set 9 (some v) τ d) = _
  by_cases he : t = d
  · subst he; rw [ev_tmp, Tr.get_set 9 _ _ _ hd]; show v = (Bool.rec (e t) v (Nat.beq t t) : Value); rw [beq_yes]
  · rw [ev_tmp, Tr.get_set_ne 9 _ _ _ _ hd he]; show _ = (Bool.rec (e t) v (Nat.beq t d) : Value); rw [beq_no he, ← h t, ev_tmp]

theorem kset_some (h : Ag τ e) {d : Option Nat} {v : Value} {k : KEnv → Option β} {r : β} (hk : kset d v e k = some r) : ∃ e', Ag (setD d v τ) e' ∧ k e' = some r := by
  cases d with
  | none => exact ⟨e, h, hk⟩
  | some d =>
    have hk : (Bool.rec none (k (fun t => Bool.rec (e t) v (Nat.beq t d))) (Nat.blt d 512) : Option β) = some r := hk
    cases hb : Nat.blt d 512 with
    | false => rw [hb] at hk; cases hk
    | true => rw [hb] at hk; exact ⟨_, ag_set h (Nat.le_of_ble_eq_true hb) v, hk⟩

theorem bindR_some_inv {o : R H} {k : Value → St H → Option β} {r : β} (h : bindR o k = some r) : ∃ v σ', o = some (v, σ') ∧ k v σ' = some r := by
  cases o with
  | none => cases h
  | some p => exact ⟨p.1, p.2, rfl, h⟩

/-- a guarded step: it is done, or passed over -/
theorem kstep_some (h : Ag τ e) {op : AOp} {g : Option (Nat × Bool)} {k : Value → St H → Option β} {r : β} (hk : kbind (kgO g e (kres op call e σ) σ) σ k = some r) :
    (yesO g τ = true ∧ ∃ v σ', aop op call τ σ = some (v, σ') ∧ k v σ' = some r) ∨ (yesO g τ = false ∧ k undefV σ = some r) := by
  have run : kbind (kres op call e σ) σ k = some r → ∃ v σ', aop op call τ σ = some (v, σ') ∧ k v σ' = some r := fun hk => by
    rw [kres_eq h] at hk; exact bindR_some_inv hk
  cases g with
  | none => exact .inl ⟨rfl, run hk⟩
  | some p =>
    have hk : kbind (kgd (kyes (e p.1) p.2) (kres op call e σ) σ) σ k = some r := hk
    rw [kyes_eq h] at hk
    show (yes p.1 p.2 τ = true ∧ _) ∨ (yes p.1 p.2 τ = false ∧ _)
    cases hy : yes p.1 p.2 τ with
    | true =>
      rw [hy] at hk
      refine .inl ⟨rfl, run ?_⟩
      rw [← hk]
      cases kres op call e σ <;> rfl
    | false =>
      rw [hy] at hk
      refine .inr ⟨rfl, ?_⟩
      rw [← hk]
      cases kres op call e σ <;> rfl

theorem kai_some (h : Ag τ e) {i : AI} {k : KEnv → St H → Option β} {r : β} (hk : kai i call e σ k = some r) :
    ∃ τ' σ' e', ai i call τ σ = some (τ', σ') ∧ Ag τ' e' ∧ k e' σ' = some r := by
  obtain ⟨dst, op, g⟩ := i
  have hk : kbind (kgO g e (kres op call e σ) σ) σ (fun v σ' => kset dst v e fun e' => k e' σ') = some r := hk
  rcases kstep_some h hk with ⟨hy, v, σ', h1, h2⟩ | ⟨hy, h2⟩
  · obtain ⟨e', h3, h4⟩ := kset_some h h2
    refine ⟨_, σ', e', ?_, h3, h4⟩
    have hd : doOp op dst call τ σ = some (setD dst v τ, σ') := by unfold doOp; rw [h1]
    cases g with
    | none => rw [ai_none]; exact hd
    | some p => obtain ⟨t, b⟩ := p; rw [ai_some, show yes t b τ = true from hy]; exact hd
  · obtain ⟨e', h3, h4⟩ := kset_some h h2
    refine ⟨_, σ, e', ?_, h3, h4⟩
    cases g with
    | none => cases hy
    | some p => obtain ⟨t, b⟩ := p; rw [ai_some, show yes t b τ = false from hy]; rfl

theorem kais_some {r : β} {k : KEnv → St H → Option β} : ∀ {l : List AI} {τ : Env} {e : KEnv} {σ : St H}, Ag τ e → kais l call e σ k = some r → ∃ τ' σ' e', ais l call τ σ = some (τ', σ') ∧ Ag τ' e' ∧ k e' σ' = some r
  | [], τ, e, σ, h, hk => ⟨τ, σ, e, rfl, h, hk⟩
  | i :: l, τ, e, σ, h, hk => by
    have hk : kai i call e σ (fun e' σ' => kais l call e' σ' k) = some r := hk
    obtain ⟨τ1, σ1, e1, h1, h2, h3⟩ := kai_some h hk
    obtain ⟨τ2, σ2, e2, h4, h5, h6⟩ := kais_some h2 h3
    refine ⟨τ2, σ2, e2, ?_, h5, h6⟩
    show (Option.rec none (fun p => Prod.rec (fun τ' σ' => ais l call τ' σ') p) (ai i call τ σ) : RE H) = _
    rw [h1]; exact h4

/-- the notes of both, one by one; those of reads that were passed over stand in the second list alone -/
inductive NR : List Note → List KNote → Prop
  | nil : NR [] []
  | skip {ns ms m} : m.g = false → NR ns ms → NR ns (m :: ms)
  | cons {ns ms n m} : m.g = true → n.id = m.id → n.op = m.op → Ag n.τ m.e → n.v = m.v → NR ns ms → NR (n :: ns) (m :: ms)

theorem kagain_true {m : KNote} (h : Ag τ m.e) (hk : kagain m σ = true) : ∃ p : Value × St H, aop m.op nocall τ σ = some p ∧ vbeq p.1 m.v = true := by
  have he := kres_eq (call := nocall) (σ := σ) h m.op (fun v s => some (v, s))
  unfold kagain at hk
  cases hr : kres m.op nocall m.e σ with
  | v w =>
    rw [hr] at hk he
    have hk : vbeq w m.v = true := hk
    have he : some (w, σ) = bindR (aop m.op nocall τ σ) (fun v s => some (v, s)) := he
    refine ⟨(w, σ), ?_, hk⟩
    cases ha : aop m.op nocall τ σ with
    | none => rw [ha] at he; cases he
    | some p => rw [ha] at he; rw [he]; rfl
  | p o =>
    rw [hr] at hk he
    have hk : (Option.rec false (fun w => vbeq w m.v) o : Bool) = true := hk
    cases o with
    | none => cases hk
    | some w =>
      have he : some (w, σ) = bindR (aop m.op nocall τ σ) (fun v s => some (v, s)) := he
      refine ⟨(w, σ), ?_, hk⟩
      cases ha : aop m.op nocall τ σ with
      | none => rw [ha] at he; cases he
      | some p => rw [ha] at he; rw [he]; rfl
  | s o => rw [hr] at hk; cases hk
  | r o => rw [hr] at hk; cases hk

theorem krecheck_true {chk : List Nat} : ∀ {ns : List Note} {ms : List KNote}, NR ns ms → krecheck chk σ ms = true → recheck chk σ ns = true
  | _, _, .nil, _ => rfl
  | _, _, .skip (m := m) (ms := ms) hg h, hk => by
    have hk : (Bool.rec (krecheck chk σ ms) (Bool.rec false (krecheck chk σ ms) (Bool.rec true (kagain m σ) m.g)) (memN m.id chk) : Bool) = true := hk
    rw [hg] at hk
    refine krecheck_true h ?_
    cases hm : memN m.id chk <;> rw [hm] at hk <;> exact hk
  | _, _, .cons (n := n) (m := m) (ns := ns) (ms := ms) hg h1 h2 h3 h4 h, hk => by
    have hk : (Bool.rec (krecheck chk σ ms) (Bool.rec false (krecheck chk σ ms) (Bool.rec true (kagain m σ) m.g)) (memN m.id chk) : Bool) = true := hk
    rw [hg] at hk
    show (Bool.rec (recheck chk σ ns) (Option.rec false (fun p => Bool.rec false (recheck chk σ ns) (vbeq p.1 n.v)) (aop n.op nocall n.τ σ)) (memN n.id chk) : Bool) = true
    rw [h1]
    cases hm : memN m.id chk with
    | false => rw [hm] at hk; exact krecheck_true h hk
    | true =>
      rw [hm] at hk
      have hk : (Bool.rec false (krecheck chk σ ms) (kagain m σ) : Bool) = true := hk
      cases ha : kagain m σ with
      | false => rw [ha] at hk; cases hk
      | true =>
        rw [ha] at hk
        obtain ⟨p, h5, h6⟩ := kagain_true h3 ha
        rw [h2, h5, h4]
        show (Bool.rec false (recheck chk σ ns) (vbeq p.1 m.v) : Bool) = true
        rw [h6]
        exact krecheck_true h hk

theorem kdis_some (hG : GrowsC call) {r : β} {k : KEnv → St H → Option β} : ∀ {l : List DI} {ns : List Note} {ms : List KNote} {τ : Env} {e : KEnv} {σ : St H}, Ag τ e → NR ns ms → kdis l call ms e σ k = some r →
    ∃ τ' σ' e', dis l call ns τ σ = some (τ', σ') ∧ Ag τ' e' ∧ k e' σ' = some r
  | [], ns, ms, τ, e, σ, h, hn, hk => ⟨τ, σ, e, rfl, h, hk⟩
  | .pure i :: l, ns, ms, τ, e, σ, h, hn, hk => by
    have hk : kai i call e σ (fun e' σ' => kdis l call ms e' σ' k) = some r := hk
    obtain ⟨τ1, σ1, e1, h1, h2, h3⟩ := kai_some h hk
    obtain ⟨τ2, σ2, e2, h4, h5, h6⟩ := kdis_some hG h2 hn h3
    refine ⟨τ2, σ2, e2, ?_, h5, h6⟩
    show (Option.rec none (fun p => Prod.rec (fun τ' σ' => dis l call ns τ' σ') p) (ai i call τ σ) : RE H) = _
    rw [h1]; exact h4
  | .read i id :: l, ns, ms, τ, e, σ, h, hn, hk => by
    have hk : kbind (kgO i.guard e (kres i.op call e σ) σ) σ (fun v σ' => kset i.dst v e fun e' => kdis l call (⟨id, i.op, e, v, kyesO i.guard e⟩ :: ms) e' σ' k) = some r := hk
    rcases kstep_some h hk with ⟨hy, v, σ', h1, h2⟩ | ⟨hy, h2⟩
    · obtain ⟨e', h3, h4⟩ := kset_some h h2
      have hn' : NR (⟨id, i.op, τ, v⟩ :: ns) (⟨id, i.op, e, v, kyesO i.guard e⟩ :: ms) := .cons (by rw [← hy]; exact kyesO_eq h i.guard) rfl rfl h rfl hn
      obtain ⟨τ2, σ2, e2, h5, h6, h7⟩ := kdis_some hG h3 hn' h4
      refine ⟨τ2, σ2, e2, ?_, h6, h7⟩
      show (Bool.rec (dis l call ns (setD i.dst undefV τ) σ) (Option.rec none (fun p => Prod.rec (fun v σ' => dis l call (⟨id, i.op, τ, v⟩ :: ns) (setD i.dst v τ) σ') p) (aop i.op call τ σ)) (yesO i.guard τ) : RE H) = _
      rw [hy, h1]; exact h5
    · obtain ⟨e', h3, h4⟩ := kset_some h h2
      have hn' : NR ns (⟨id, i.op, e, undefV, kyesO i.guard e⟩ :: ms) := .skip (by rw [← hy]; exact kyesO_eq h i.guard) hn
      obtain ⟨τ2, σ2, e2, h5, h6, h7⟩ := kdis_some hG h3 hn' h4
      refine ⟨τ2, σ2, e2, ?_, h6, h7⟩
      show (Bool.rec (dis l call ns (setD i.dst undefV τ) σ) (Option.rec none (fun p => Prod.rec (fun v σ' => dis l call (⟨id, i.op, τ, v⟩ :: ns) (setD i.dst v τ) σ') p) (aop i.op call τ σ)) (yesO i.guard τ) : RE H) = _
      rw [hy]; exact h5
  | .effect i chk :: l, ns, ms, τ, e, σ, h, hn, hk => by
    have hk : kai i call e σ (fun e' σ' => (Bool.rec none (kdis l call ms e' σ' k) (krecheck chk σ' ms) : Option β)) = some r := hk
    obtain ⟨τ1, σ1, e1, h1, h2, h3⟩ := kai_some h hk
    cases hc : krecheck chk σ1 ms with
    | false => rw [hc] at h3; cases h3
    | true =>
      rw [hc] at h3
      obtain ⟨τ2, σ2, e2, h4, h5, h6⟩ := kdis_some hG h2 hn h3
      refine ⟨τ2, σ2, e2, ?_, h5, h6⟩
      show (Option.rec none (fun p => Prod.rec (fun τ' σ' => Bool.rec none (Bool.rec none (dis l call ns τ' σ') (recheck chk σ' ns)) (Nat.ble σ.nxt σ'.nxt)) p) (ai i call τ σ) : RE H) = _
      rw [h1]
      show (Bool.rec none (Bool.rec none (dis l call ns τ1 σ1) (recheck chk σ1 ns)) (Nat.ble σ.nxt σ1.nxt) : RE H) = _
      rw [krecheck_true hn hc, Nat.ble_eq_true_of_le (ai_grows hG h1)]
      exact h4

/-- the end that was come to -/
def KEnd (kn : KEnv → St H → Option β) (kx : Nat → KEnv → St H → Option β) (kr : KEnv → St H → Option β) (r : β) : AX → KEnv → St H → Prop
  | .normal, e, σ => kn e σ = some r
  | .exit i, e, σ => kx i e σ = some r
  | .ret, e, σ => kr e σ = some r

theorem kcode_some (hG : GrowsC call) (f : Nat) {r : β} : ∀ {c : ACode} {τ : Env} {e : KEnv} {σ : St H} {kn : KEnv → St H → Option β} {kx : Nat → KEnv → St H → Option β} {kr : KEnv → St H → Option β}, Ag τ e →
    kcode c call f e σ kn kx kr = some r → ∃ x τ' σ' e', acode c call f τ σ = some (x, τ', σ') ∧ Ag τ' e' ∧ KEnd kn kx kr r x e' σ' := by
  intro c
  induction c with
  | skip => intro τ e σ kn kx kr h hk; exact ⟨.normal, τ, σ, e, rfl, h, hk⟩
  | region l =>
    intro τ e σ kn kx kr h hk
    obtain ⟨τ', σ', e', h1, h2, h3⟩ := kais_some h (show kais l call e σ kn = some r from hk)
    refine ⟨.normal, τ', σ', e', ?_, h2, h3⟩
    show (Option.rec none (fun p => some (.normal, p)) (ais l call τ σ) : RX H) = _
    rw [h1]
  | dregion l =>
    intro τ e σ kn kx kr h hk
    obtain ⟨τ', σ', e', h1, h2, h3⟩ := kdis_some hG h .nil (show kdis l call [] e σ kn = some r from hk)
    refine ⟨.normal, τ', σ', e', ?_, h2, h3⟩
    show (Option.rec none (fun p => some (.normal, p)) (dis l call [] τ σ) : RX H) = _
    rw [h1]
  | seq a b iha ihb =>
    intro τ e σ kn kx kr h hk
    obtain ⟨x, τ', σ', e', h1, h2, h3⟩ := iha h (show kcode a call f e σ (fun e σ => kcode b call f e σ kn kx kr) kx kr = some r from hk)
    have hs : acode (.seq a b) call f τ σ = thenX (acode b call f) (acode a call f τ σ) := rfl
    rw [hs, h1]
    cases x with
    | normal => exact ihb h2 h3
    | exit i => exact ⟨.exit i, τ', σ', e', rfl, h2, h3⟩
    | ret => exact ⟨.ret, τ', σ', e', rfl, h2, h3⟩
  | cond c a b iha ihb =>
    intro τ e σ kn kx kr h hk
    have hk : ifV (kev c e) (kcode a call f e σ kn kx kr) (kcode b call f e σ kn kx kr) = some r := hk
    rw [kev_eq h] at hk
    show ∃ x τ' σ' e', (match ev c τ with | .bool true => acode a call f τ σ | .bool false => acode b call f τ σ | _ => none) = some (x, τ', σ') ∧ _
    generalize ev c τ = vc at hk ⊢
    unfold ifV at hk
    split at hk
    · exact iha h hk
    · exact ihb h hk
    · cases hk
  | block id b ihb =>
    intro τ e σ kn kx kr h hk
    obtain ⟨x, τ', σ', e', h1, h2, h3⟩ := ihb h (show kcode b call f e σ kn (fun i e σ => bif Nat.beq i id then kn e σ else kx i e σ) kr = some r from hk)
    have hs : acode (.block id b) call f τ σ = blockX id (acode b call f τ σ) := rfl
    rw [hs, h1]
    cases x with
    | normal => exact ⟨.normal, τ', σ', e', rfl, h2, h3⟩
    | exit i =>
      have h3 : (bif Nat.beq i id then kn e' σ' else kx i e' σ') = some r := h3
      show ∃ x τ'' σ'' e'', (Bool.rec (some (.exit i, (τ', σ'))) (some (.normal, (τ', σ'))) (Nat.beq i id) : RX H) = _ ∧ _
      cases hb : Nat.beq i id with
      | true => rw [hb] at h3; exact ⟨.normal, τ', σ', e', rfl, h2, h3⟩
      | false => rw [hb] at h3; exact ⟨.exit i, τ', σ', e', rfl, h2, h3⟩
    | ret => exact ⟨.ret, τ', σ', e', rfl, h2, h3⟩
  | loop b ihb =>
    intro τ e σ kn kx kr h hk
    have key : ∀ n {τ : Env} {e : KEnv} {σ : St H}, Ag τ e → kloop (fun e σ k => kcode b call f e σ k kx kr) n e σ = some r →
        ∃ x τ' σ' e', aloop (acode b call f) n τ σ = some (x, τ', σ') ∧ Ag τ' e' ∧ KEnd kn kx kr r x e' σ' := fun n => by
      induction n with
      | zero => intro τ e σ _ hk; cases hk
      | succ n ih =>
        intro τ e σ h hk
        obtain ⟨x, τ', σ', e', h1, h2, h3⟩ := ihb h (show kcode b call f e σ (kloop (fun e σ k => kcode b call f e σ k kx kr) n) kx kr = some r from hk)
        have hs : aloop (acode b call f) (n + 1) τ σ = thenX (aloop (acode b call f) n) (acode b call f τ σ) := rfl
        rw [hs, h1]
        cases x with
        | normal => exact ih h2 h3
        | exit i => exact ⟨.exit i, τ', σ', e', rfl, h2, h3⟩
        | ret => exact ⟨.ret, τ', σ', e', rfl, h2, h3⟩
    exact key f h hk
  | exit id => intro τ e σ kn kx kr h hk; exact ⟨.exit id, τ, σ, e, rfl, h, hk⟩
  | ret => intro τ e σ kn kx kr h hk; exact ⟨.ret, τ, σ, e, rfl, h, hk⟩
  | fail => intro τ e σ kn kx kr h hk; cases hk

theorem kares_eq (h : Ag τ e) (r : ARes) : kares e σ r = ares τ σ r := by
  cases r with
  | tmp t => exact congrArg some (h t).symm
  | cell t agg size =>
    show vLoad agg size (e t) σ = (match ev (.tmp t) τ with | .pointer (some a) => Option.rec none (fun cs => mkv agg size cs a.off) (σ.cells a.block) | _ => none)
    rw [← h t]; rfl
  | bad => rfl
theorem karesL_eq (h : Ag τ e) : ∀ l : List ARes, karesL e σ l = aresL τ σ l
  | [] => rfl
  | r :: l => by
    show (Option.rec none (fun v => Option.rec none (fun vs => some (v :: vs)) (karesL e σ l)) (kares e σ r) : Option (List Value)) = Option.rec none (fun v => Option.rec none (fun vs => some (v :: vs)) (aresL τ σ l)) (ares τ σ r)
    rw [kares_eq h, karesL_eq h l]
theorem karesV_eq (h : Ag τ e) (l : List ARes) : karesV e σ l = aresV τ σ l := by unfold karesV aresV; rw [karesL_eq h]; rfl

theorem kinit_ag : ∀ {l : List Value} {n : Nat} {τ : Env} {e : KEnv}, Ag τ e → n + l.length ≤ 512 → Ag (init l n τ) (kinit l n e)
  | [], n, τ, e, h, _ => h
  | v :: l, n, τ, e, h, hl => by
    simp only [List.length_cons] at hl
    exact kinit_ag (l := l) (n := n + 1) (ag_set h (by omega) v) (by omega)

theorem kbody_some (hG : GrowsC call) {fuel : Nat} {fn : AFn} {args : List Value} {v : Value} {σ' : St H} (h : kbody call fuel fn args σ = some (v, σ')) : abody call fuel fn args σ = some (v, σ') := by
  unfold kbody at h
  cases h1 : Nat.ble args.length fn.nt with
  | false => rw [h1] at h; cases h
  | true =>
    rw [h1] at h
    cases h2 : Nat.ble args.length 512 with
    | false => rw [h2] at h; cases h
    | true =>
      rw [h2] at h
      have hag : Ag (init args 0 .leaf) (kinit args 0 fun _ => undefV) := kinit_ag (fun t => by rw [ev_tmp, Tr.get_leaf]; rfl) (by have := Nat.le_of_ble_eq_true h2; omega)
      obtain ⟨x, τ', σ1, e', h3, h4, h5⟩ := kcode_some hG fuel hag h
      unfold abody
      rw [h1, h3]
      have fin : karesV e' σ1 fn.results = some (v, σ') → aresV τ' σ1 fn.results = some (v, σ') := fun hr => by rw [← karesV_eq h4]; exact hr
      cases x with
      | normal => exact fin h5
      | exit i => cases h5
      | ret => exact fin h5

/-- hooks that let no number shrink -/
def GrowsH (hooks : FuncId → Option (Hook H)) : Prop := ∀ f h, hooks f = some h → ∀ args σ v σ', h args σ = some (v, σ') → σ.nxt ≤ σ'.nxt

theorem abody_grows (hG : GrowsC call) {fuel : Nat} {fn : AFn} {args : List Value} {v : Value} {σ' : St H} (h : abody call fuel fn args σ = some (v, σ')) : σ.nxt ≤ σ'.nxt := by
  unfold abody at h
  replace h := (bif_s h).2
  have res : ∀ {τ : Env} {σ1 : St H}, aresV τ σ1 fn.results = some (v, σ') → σ' = σ1 := fun hr => by
    unfold aresV at hr
    split at hr
    · exact (some_inj2 hr).2.symm
    · exact (some_inj2 hr).2.symm
    · cases hr
  split at h
  · rename_i hx; rw [res h]; exact acode_grows hG fuel _ _ _ _ _ _ hx
  · rename_i hx; rw [res h]; exact acode_grows hG fuel _ _ _ _ _ _ hx
  · cases h

theorem acall_grows {fns : FuncId → Option AFn} {hooks : FuncId → Option (Hook H)} (hH : GrowsH hooks) (loops : Nat) : ∀ n, GrowsC (acall fns hooks loops n)
  | 0 => fun f args σ v σ' h => by cases h
  | n + 1 => fun f args σ v σ' h => by
    have h : (match hooks f with
      | some h => h args σ
      | none => match fns f with
        | some fn => abody (acall fns hooks loops n) loops fn args σ
        | none => none) = some (v, σ') := h
    split at h
    · rename_i hk hhk; exact hH f hk hhk args σ v σ' h
    · split at h
      · exact abody_grows (acall_grows hH loops n) h
      · cases h

theorem acall_of_k {fns : FuncId → Option AFn} {hooks : FuncId → Option (Hook H)} (hH : GrowsH hooks) {loops n : Nat} {f : FuncId} {fn : AFn} {args : List Value} {r : Value × St H}
    (hh : hooks f = none) (hf : fns f = some fn) (h : kbody (acall fns hooks loops n) loops fn args σ = some r) : acall fns hooks loops (n + 1) f args σ = some r := by
  show (match hooks f with
      | some h => h args σ
      | none => match fns f with
        | some fn => abody (acall fns hooks loops n) loops fn args σ
        | none => none) = some r
  rw [hh, hf]
  exact kbody_some (acall_grows hH loops n) h

/-! for printed functions -/
/-- parts of code -/
def ACode.sl : ACode → ACode | .seq a _ => a | _ => .fail
def ACode.sr : ACode → ACode | .seq _ b => b | _ => .fail
def ACode.co : ACode → Od | .cond c _ _ => c | _ => .tmp 0
def ACode.ct : ACode → ACode | .cond _ a _ => a | _ => .fail
def ACode.cf : ACode → ACode | .cond _ _ b => b | _ => .fail
def ACode.bi : ACode → Nat | .block i _ => i | _ => 0
def ACode.bb : ACode → ACode | .block _ b => b | _ => .fail
def ACode.lb : ACode → ACode | .loop b => b | _ => .fail
section
variable {c : ACode} {f : Nat} {kn : KEnv → St H → Option β} {kx : Nat → KEnv → St H → Option β} {kr : KEnv → St H → Option β} {A B : KEnv → St H → Option β}
theorem leaf (h : (fun e σ => kcode c call f e σ kn kx kr) = B) : ∀ e σ, kcode c call f e σ kn kx kr = B e σ := fun e σ => congrFun (congrFun h e) σ
theorem tr (h : ∀ e σ, kcode c call f e σ kn kx kr = A e σ) (h2 : A = B) : ∀ e σ, kcode c call f e σ kn kx kr = B e σ := h2 ▸ h
theorem seq_eq (h : c = .seq c.sl c.sr) (hb : ∀ e σ, kcode c.sr call f e σ kn kx kr = B e σ) (ha : ∀ e σ, kcode c.sl call f e σ B kx kr = A e σ) : ∀ e σ, kcode c call f e σ kn kx kr = A e σ := fun e σ => by
  rw [h]
  show kcode c.sl call f e σ (fun e σ => kcode c.sr call f e σ kn kx kr) kx kr = _
  rw [show (fun e σ => kcode c.sr call f e σ kn kx kr) = B from funext fun e => funext fun σ => hb e σ]
  exact ha e σ
theorem cond_eq (h : c = .cond c.co c.ct c.cf) (ha : ∀ e σ, kcode c.ct call f e σ kn kx kr = A e σ) (hb : ∀ e σ, kcode c.cf call f e σ kn kx kr = B e σ) : ∀ e σ, kcode c call f e σ kn kx kr = ifV (kev c.co e) (A e σ) (B e σ) := fun e σ => by
  rw [h]
  show ifV (kev c.co e) (kcode c.ct call f e σ kn kx kr) (kcode c.cf call f e σ kn kx kr) = _
  rw [ha, hb]; rfl
theorem block_eq (h : c = .block c.bi c.bb) (hb : ∀ e σ, kcode c.bb call f e σ kn (fun j e σ => bif Nat.beq j c.bi then kn e σ else kx j e σ) kr = B e σ) : ∀ e σ, kcode c call f e σ kn kx kr = B e σ := fun e σ => by
  rw [h]; exact hb e σ
theorem loop_eq (L : Nat → KEnv → St H → Option β) (h : c = .loop c.lb) (h0 : L 0 = fun _ _ => none) (hs : ∀ n e σ, kcode c.lb call f e σ (L n) kx kr = L (n + 1) e σ) : ∀ e σ, kcode c call f e σ kn kx kr = L f e σ := fun e σ => by
  rw [h]
  show kloop (fun e σ k => kcode c.lb call f e σ k kx kr) f e σ = _
  have key : ∀ n e σ, kloop (fun e σ k => kcode c.lb call f e σ k kx kr) n e σ = L n e σ := fun n => by
    induction n with
    | zero => intro e σ; rw [h0]; rfl
    | succ n ih =>
      intro e σ
      show kcode c.lb call f e σ (kloop (fun e σ k => kcode c.lb call f e σ k kx kr) n) kx kr = _
      rw [show kloop (fun e σ k => kcode c.lb call f e σ k kx kr) n = L n from funext fun e => funext fun σ => ih e σ]
      exact hs n e σ
  exact key f e σ
end
theorem kbody_of {fn : AFn} {args : List Value} {rs : List ARes} {fuel : Nat} (h1 : Nat.ble args.length fn.nt = true) (h2 : Nat.ble args.length 512 = true) (hr : fn.results = rs) {B : KEnv → St H → R H}
    (hb : ∀ e σ, kcode fn.body call fuel e σ (fun e σ' => karesV e σ' rs) (fun _ _ _ => none) (fun e σ' => karesV e σ' rs) = B e σ) {r : R H} (h : B (kinit args 0 fun _ => undefV) σ = r) :
    kbody call fuel fn args σ = r := by
  subst hr
  unfold kbody; rw [h1, h2]
  exact (hb _ _).trans h
def codeOf (P : Program) (f : Nat) : AFn := match cfn P f with | some fn => fn | none => ⟨.fail, [], 0⟩
theorem codeOf_eq {P : Program} {f : Nat} (h : (cfn P f).isSome = true) : cfn P f = some (codeOf P f) := by
  unfold codeOf; cases hc : cfn P f with
  | none => rw [hc] at h; cases h
  | some fn => rfl
/-- results, one by one: a value, or what stands in a cell -/
inductive RV where
  | v (x : Value)
  | c (x : Value) (agg : Bool) (size : Nat)
noncomputable def resL (σ : St H) (l : List RV) : Option (List Value) :=
  List.rec (some []) (fun r _ ih => Option.rec none (fun v => Option.rec none (fun vs => some (v :: vs)) ih) (RV.rec (fun x => some x) (fun x agg size => vLoad agg size x σ) r : Option Value)) l
noncomputable def resV (l : List RV) (σ : St H) : R H :=
  match resL σ l with
  | some [v] => some (v, σ)
  | some vs => some (.tuple ⟨vs⟩, σ)
  | none => none
end Go.Ax

namespace Go.Ax
open Go
variable {H : HeapI}

noncomputable section
abbrev PFn (H : HeapI) := CallF H → Nat → List Value → St H → R H
def ap0 (F : CallF H → Nat → St H → R H) : PFn H := fun call f args σ => match args with | [] => F call f σ | _ => none
def ap1 (F : CallF H → Nat → Value → St H → R H) : PFn H := fun call f args σ => match args with | [a] => F call f a σ | _ => none
def ap2 (F : CallF H → Nat → Value → Value → St H → R H) : PFn H := fun call f args σ => match args with | [a, b] => F call f a b σ | _ => none
def ap3 (F : CallF H → Nat → Value → Value → Value → St H → R H) : PFn H := fun call f args σ => match args with | [a, b, c] => F call f a b c σ | _ => none
def ap4 (F : CallF H → Nat → Value → Value → Value → Value → St H → R H) : PFn H := fun call f args σ => match args with | [a, b, c, d] => F call f a b c d σ | _ => none
def ap5 (F : CallF H → Nat → Value → Value → Value → Value → Value → St H → R H) : PFn H := fun call f args σ => match args with | [a, b, c, d, e] => F call f a b c d e σ | _ => none
def ap6 (F : CallF H → Nat → Value → Value → Value → Value → Value → Value → St H → R H) : PFn H := fun call f args σ => match args with | [a, b, c, d, e, g] => F call f a b c d e g σ | _ => none

/-- a printed function stands for a number's code -/
structure OKF (P : Program) (k : Nat) (g : PFn H) : Prop where
  is : (cfn P k).isSome = true
  eq : ∀ call f args σ r, g call f args σ = some r → kbody call f (codeOf P k) args σ = some r

variable {P : Program} {k : Nat}
theorem ok0 {F : CallF H → Nat → St H → R H} (h : (cfn P k).isSome = true) (hF : ∀ call f σ, kbody call f (codeOf P k) [] σ = F call f σ) : OKF P k (ap0 F) :=
  ⟨h, fun call f args σ r hr => by unfold ap0 at hr; split at hr; · rw [hF]; exact hr
                                   · cases hr⟩
theorem ok1 {F : CallF H → Nat → Value → St H → R H} (h : (cfn P k).isSome = true) (hF : ∀ call f a σ, kbody call f (codeOf P k) [a] σ = F call f a σ) : OKF P k (ap1 F) :=
  ⟨h, fun call f args σ r hr => by unfold ap1 at hr; split at hr; · rw [hF]; exact hr
                                   · cases hr⟩
theorem ok2 {F : CallF H → Nat → Value → Value → St H → R H} (h : (cfn P k).isSome = true) (hF : ∀ call f a b σ, kbody call f (codeOf P k) [a, b] σ = F call f a b σ) : OKF P k (ap2 F) :=
  ⟨h, fun call f args σ r hr => by unfold ap2 at hr; split at hr; · rw [hF]; exact hr
                                   · cases hr⟩
theorem ok3 {F : CallF H → Nat → Value → Value → Value → St H → R H} (h : (cfn P k).isSome = true) (hF : ∀ call f a b c σ, kbody call f (codeOf P k) [a, b, c] σ = F call f a b c σ) : OKF P k (ap3 F) :=
  ⟨h, fun call f args σ r hr => by unfold ap3 at hr; split at hr; · rw [hF]; exact hr
                                   · cases hr⟩
theorem ok4 {F : CallF H → Nat → Value → Value → Value → Value → St H → R H} (h : (cfn P k).isSome = true) (hF : ∀ call f a b c d σ, kbody call f (codeOf P k) [a, b, c, d] σ = F call f a b c d σ) : OKF P k (ap4 F) :=
  ⟨h, fun call f args σ r hr => by unfold ap4 at hr; split at hr; · rw [hF]; exact hr
                                   · cases hr⟩
theorem ok5 {F : CallF H → Nat → Value → Value → Value → Value → Value → St H → R H} (h : (cfn P k).isSome = true) (hF : ∀ call f a b c d e σ, kbody call f (codeOf P k) [a, b, c, d, e] σ = F call f a b c d e σ) : OKF P k (ap5 F) :=
  ⟨h, fun call f args σ r hr => by unfold ap5 at hr; split at hr; · rw [hF]; exact hr
                                   · cases hr⟩
theorem ok6 {F : CallF H → Nat → Value → Value → Value → Value → Value → Value → St H → R H} (h : (cfn P k).isSome = true) (hF : ∀ call f a b c d e g σ, kbody call f (codeOf P k) [a, b, c, d, e, g] σ = F call f a b c d e g σ) : OKF P k (ap6 F) :=
  ⟨h, fun call f args σ r hr => by unfold ap6 at hr; split at hr; · rw [hF]; exact hr
                                   · cases hr⟩

inductive DT (H : HeapI) where
  | leaf : DT H
  | node (k : Nat) (g : PFn H) (l r : DT H) : DT H

def DT.get (t : DT H) (f : Nat) : Option (PFn H) :=
  DT.rec none (fun k g _ _ il ir => Bool.rec (Bool.rec ir il (Nat.blt f k)) (some g) (Nat.beq f k)) t

inductive DOK (P : Program) : DT H → Prop
  | leaf : DOK P .leaf
  | node {k g l r} : OKF P k g → DOK P l → DOK P r → DOK P (.node k g l r)

theorem DOK.get {t : DT H} (h : DOK P t) {f : Nat} {g : PFn H} (hg : t.get f = some g) : OKF P f g := by
  induction h with
  | leaf => cases hg
  | @node k g' l r ho hl hr il ir =>
    have hg : (Bool.rec (Bool.rec (r.get f) (l.get f) (Nat.blt f k)) (some g') (Nat.beq f k) : Option (PFn H)) = some g := hg
    cases h1 : Nat.beq f k with
    | true =>
      rw [h1] at hg
      have hg : some g' = some g := hg
      injection hg with hg; subst hg
      rw [Nat.eq_of_beq_eq_true h1]; exact ho
    | false =>
      rw [h1] at hg
      have hg : (Bool.rec (r.get f) (l.get f) (Nat.blt f k) : Option (PFn H)) = some g := hg
      cases h2 : Nat.blt f k with
      | true => rw [h2] at hg; exact il hg
      | false => rw [h2] at hg; exact ir hg

/-- calls by the table; hooks ahead of it -/
def sall (t : DT H) (hooks : FuncId → Option (Hook H)) (fuel : Nat) (n : Nat) : CallF H :=
  Nat.rec (fun _ _ _ => none) (fun _ ih f args σ => Option.rec (Option.rec none (fun g => g ih fuel args σ) (t.get f)) (fun h => h args σ) (hooks f)) n

theorem sall_ok {t : DT H} {hooks : FuncId → Option (Hook H)} (hH : HooksOK P hooks) (hmix : P.follows .mixedOrders = true) (hD : DOK P t) (fuel : Nat) : ∀ n, CallOK P (sall t hooks fuel n)
  | 0 => fun f args σ v σ' h => by cases h
  | n + 1 => fun f args σ v σ' h => by
    have h : (Option.rec (Option.rec none (fun g => g (sall t hooks fuel n) fuel args σ) (t.get f)) (fun h => h args σ) (hooks f) : R H) = some (v, σ') := h
    have ih := sall_ok hH hmix hD fuel n
    cases hh : hooks f with
    | some hk => rw [hh] at h; exact hH f hk hh args σ v σ' h
    | none =>
      rw [hh] at h
      have h : (Option.rec none (fun g => g (sall t hooks fuel n) fuel args σ) (t.get f) : R H) = some (v, σ') := h
      cases hg : t.get f with
      | none => rw [hg] at h; cases h
      | some g =>
        rw [hg] at h
        have ho := hD.get hg
        exact abody_sound ih hmix (codeOf_eq ho.is) (kbody_some ih.grows (ho.eq _ _ _ _ _ h))
end
end Go.Ax

namespace Go.Ax
open Go

theorem all2_clo (M : Mp) : ∀ {l : List Value}, (∀ v ∈ l, cloS v = true) → All2 (VRel M) l l
  | [], _ => .nil
  | v :: l, h => .cons (.sc (h v (List.mem_cons_self ..))) (all2_clo M fun u hu => h u (List.mem_cons_of_mem _ hu))

theorem closed_run {P : Program} {mx : Nat} (hmx : mx < 256) {f : FuncId} {call : CallF trieH} (hC : CallOK P call) {args : List Value} (hargs : ∀ v ∈ args, cloS v = true) {m : Int}
    (hrun : isTrue (call f args (bare mx m)) = true) {w : World} (hw : w.cell? ⟨mx, 0, none⟩ = some (.int .i64 m)) :
    Calls P f args.toArray w fun e w' => e = .returned (.bool true) ∧ RowKit.Below w.heap.size w w' := by
  obtain ⟨σb, hb⟩ : ∃ σb, call f args (bare mx m) = some (.bool true, σb) := by
    unfold isTrue at hrun
    split at hrun
    · rename_i b σb hr; subst hrun; exact ⟨σb, hr⟩
    · cases hrun
  obtain ⟨_, hle, hd⟩ := hC _ _ _ _ _ hb
  let M0 : Mp := fun b => if b < 256 then some (b, 0, 0) else none
  have hobj : ∀ b o, (bare mx m).obj b = some o → b = mx ∧ o = .cells [.int .i64 m] true 1 := fun b o hbo => by
    by_cases e : b = mx
    · subst e
      have : (bare b m).obj b = some (.cells [.int .i64 m] true 1) := St.obj_mk_same _ _ _ _ (Nat.ble_eq_true_of_le (by omega))
      rw [this] at hbo; injection hbo with hbo; exact ⟨rfl, hbo.symm⟩
    · have : (bare mx m).obj b = Tr.get 13 .leaf b := St.obj_mk_ne (H := trieH) _ _ _ _ _ (Nat.ble_eq_true_of_le (by omega)) e
      rw [this, Tr.get_leaf] at hbo; cases hbo
  have hH0 : HRel M0 (bare mx m) w := by
    refine ⟨fun b o hbo => ?_, fun b b' o o' B O x B' O' x' h1 h2 hw _ _ _ => ?_⟩
    · obtain ⟨rfl, rfl⟩ := hobj b o hbo
      refine ⟨b, 0, 0, by simp [M0, hmx], ?_⟩
      unfold World.cell? at hw
      split at hw
      · rename_i c e fr hblk
        simp at hw
        refine .cells hblk (fun i u hi => ?_) ?_ (fun e => by cases e) (fun _ => rfl)
        · cases i with
          | zero => simp at hi; subst hi; exact ⟨_, by simpa using hw, .sc rfl⟩
          | succ i => simp at hi
        · have := (Array.getElem?_eq_some_iff.1 hw).1
          simp; omega
      · cases hw
    · obtain ⟨rfl, rfl⟩ := hobj b o h1
      cases hw
  have fr0 : Fresh M0 (bare mx m) σb := ⟨fun b hb1 _ => by have hb1 : 256 ≤ b := hb1; simp [M0]; omega, fun g hg => by simp [M0, hg]⟩
  refine (hd M0 w args.toArray fr0 hH0 (by simpa using all2_clo M0 hargs)).mono ?_
  rintro e w' ⟨M', v', rfl, hv, hg⟩
  rw [hv.bool_inv]
  have hfp : ∀ B, ¬ FP M0 (bare mx m) B := fun B ⟨b, o, _, _, h1, h2, _⟩ => by obtain ⟨_, rfl⟩ := hobj b o h1; cases h2
  exact ⟨rfl, hg.os, hg.tape, hg.output, hg.size, fun B hB => hg.keep B hB (hfp B)⟩

section
variable {H : HeapI}
/-- no kernel has no job -/
noncomputable def hIdle2 (args : List Value) (σ : St H) : R H :=
  match args with
  | [.pointer none] => some (.bool true, σ)
  | _ => hIdle args σ
noncomputable def hooks2 (N : Nums) (f : FuncId) : Option (Hook H) := bif Nat.beq f N.idle then some hIdle2 else hooksOf N f

theorem nocall_ok (P : Program) : CallOK P (nocall (H := H)) := fun f args σ v σ' h => by cases h

theorem hooks2_ok {P : Program} {N : Nums} (L : LibOK P N) (hmix : P.follows .mixedOrders = true) (hc : (cfn P N.idle).isSome = true)
    (hnil : ∀ σ : St H, kbody nocall 1 (codeOf P N.idle) [.pointer none] σ = some (.bool true, σ)) : HooksOK P (hooks2 (H := H) N) := by
  intro f h hf args σ v σ' hr
  unfold hooks2 at hf
  rcases bif_some hf with ⟨hb, rfl⟩ | ⟨_, hf⟩
  · have e := Nat.eq_of_beq_eq_true hb; subst e
    unfold hIdle2 at hr
    split at hr
    · obtain ⟨rfl, rfl⟩ := some_inj2 hr
      exact abody_sound (nocall_ok P) hmix (codeOf_eq hc) (kbody_some (nocall_ok P).grows (hnil σ))
    · exact hIdle_ok L.idle.1 L.idle.2 hr
  · exact hooksOf_ok L f h hf args σ v σ' hr

/-- a closed run as a hook ahead of others -/
noncomputable def cl (mx k : Nat) (hk : FuncId → Option (Hook H)) (f : FuncId) : Option (Hook H) := bif Nat.beq f k then some (closed mx) else hk f
theorem cl_ok {P : Program} {mx k : Nat} {hk : FuncId → Option (Hook H)} (hH : HooksOK P hk) {call : CallF trieH} (hC : CallOK P call) (hrun : ∀ m, isTrue (call k [] (bare mx m)) = true) : HooksOK P (cl mx k hk) := by
  intro f h hf args σ v σ' hr
  unfold cl at hf
  rcases bif_some hf with ⟨hb, rfl⟩ | ⟨_, hf⟩
  · have e := Nat.eq_of_beq_eq_true hb; subst e
    exact closed_ok hC hrun hr
  · exact hH f h hf args σ v σ' hr
end
end Go.Ax

