import PyProof.Rows.All
import Wide.All
import OpenK.AllK
import Wide.FinOn
import HandS.ForMost
import HandS.TupAny
import HandS.TupMul
import HandS.Wide
import HandS.IsInst
import HandS.Flow
import HandS.Deep
import HandS.Conv
import HandS.Zip
import HandS.DictComp
import KE.GoesMore
import KE.SortData
import HandS.FStr
import HandS.Text
import HandS.RaiseMore
import HandS.HeadHook1
import KE.KDictPairs
import KE.KExcSuper
import HandS.Nested
import HandS.ExcInit
import HandS.ExcSuper
import HandS.WordsExc
import HandS.ExcInitHot
import HandS.HotCalls
import HandS.ExcIs
import HandS.ExcField
import KE.KExcIs
import HandS.Defaults
import HandS.SetFor
import HandS.TupSets
import HandS.Words
import HandS.Head0
import HandS.Head1
import HandS.Head2
import HandS.HeadEnd
import HandS.HeadHook2
import HandS.HeadHook4
import PySem.Challenge.RW_capkern_k13_memories_frames_origins
set_option Elab.async false
set_option linter.all false
set_option maxRecDepth 100000
/-! EvA: data, compact programs, a total evaluator of them (by an AI agent). -/
namespace Ev
open PySem

abbrev D := PyData
/-- a text by its signs -/
def A (l : List Nat) : Str := ⟨l.toArray⟩
/-- an exception: its class, its fields -/
structure Exn where
  cls : Str
  args : List (Str × D)
/-- a running value: data, a reference to a cell, the script, a written tuple, or the exception that is handled -/
inductive W where
  | d (x : D) | r (n : Nat) | s (xs : List D) | g (xs : List D) | x (e : Exn) | t (xs : List D)
inductive Cell where
  | lst (xs : List D) | dK (kvs : List (L2.Key × D)) | dT (kvs : List (List L2.Key × D)) | dead
  | wl (ws : List W) | wK (kvs : List (L2.Key × W))
  | lkK (kvs : List (L2.Key × D)) | lkT (kvs : List (List L2.Key × D))
abbrev Store := List Cell
abbrev Env := List (Option W)
inductive Res (α : Type) where
  | ok (a : α) (M : Store) | exn (x : Exn) (M : Store) | stuck
def Res.bind {α β : Type} (x : Res α) (f : α → Store → Res β) : Res β := match x with
  | .ok a M => f a M
  | .exn x M => .exn x M
  | .stuck => .stuck
theorem Res.bind_ok {α β : Type} (a : α) (M : Store) (f : α → Store → Res β) : (Res.ok a M).bind f = f a M := rfl
theorem Res.bind_exn {α β : Type} (a : Exn) (M : Store) (f : α → Store → Res β) : (Res.exn a M : Res α).bind f = .exn a M := rfl
theorem Res.bind_assoc {α β γ : Type} (r : Res α) (f : α → Store → Res β) (g : β → Store → Res γ) : (r.bind f).bind g = r.bind fun a M => (f a M).bind g := by cases r <;> rfl
theorem Res.bind_stuck {α β : Type} (f : α → Store → Res β) : (Res.stuck : Res α).bind f = .stuck := rfl
/-- nothing raised leaves it -/
def nox {α : Type} (r : Res α) : Res α := match r with
  | .ok a M => .ok a M
  | .exn _ _ => .stuck
  | .stuck => .stuck
inductive Fl where
  | nx (e : Env) | rt (w : W) | bk (e : Env) | ct (e : Env)
/-- how a new list is kept: as fixed data, or as a cell -/
inductive Md where
  | F | M | N
inductive BOp where
  | add | sub | mul | fdiv | mod | pow | shl | shr | band | bor | bxor
inductive COp where
  | eq | ne | lt | le | gt | ge | isin | notin
inductive Ty where
  | int | str | bool | tuple | list
inductive Blt where
  | len | abs | int | max2 | min2 | list | tuple | str | sum | all | any | min1 | max1 | lset | sorted | sset | listr | listr2 | tupr | tupr2 | dict | keys | tupk
inductive Mth where
  | append | pop | pop0 | remove | index | count | get2 | get1 | split | join | replace | tcount | lower | find | insert
mutual
inductive CT where
  | name (i : Nat) | tup (ts : CTs)
inductive CTs where
  | nil | cons (t : CT) (r : CTs)
end
mutual
inductive CE where
  | var (i : Nat)
  | cst (x : D)
  | glob (i : Nat)
  | bin (md : Md) (op : BOp) (a b : CE)
  | neg (a : CE)
  | cmp (op : COp) (a b : CE)
  | isN (a : CE)
  | notN (a : CE)
  | chain (op op2 : COp) (a b c : CE)
  | andV (a b : CE)
  | orV (a b : CE)
  | notV (a : CE)
  | ite (c : CB) (a b : CE)
  | tup (es : CEs)
  | lst (md : Md) (es : CEs)
  | sub (a i : CE)
  | slc (md : Md) (a : CE) (lo hi : CO)
  | call (f : Nat) (es : CEs)
  | blt (id : Blt) (md : Md) (es : CEs)
  | isi (a : CE) (t : Ty)
  | mth (id : Mth) (o : CE) (es : CEs)
  | comp (md : Md) (own : List Nat) (tg : CT) (it : CI) (cd : CC) (elt : CE)
  | comp2 (md : Md) (own own1 : List Nat) (tg : CT) (it : CI) (cd : CC) (tg1 : CT) (it1 : CI) (cd1 : CC) (elt : CE)
  | dnew (t : Bool)
  | dcomp (own : List Nat) (tg : CT) (it : CI) (cd : CC) (k v : CE)
  | ddisp (md : Md) (ks : List L2.Key) (es : CEs)
  | dsub (ks : List L2.Key) (es : CEs) (i : CE)
  | dgetd (ks : List L2.Key) (es : CEs) (i dflt : CE)
  | kget (i : Nat) (a : CE)
  | kin (neg : Bool) (a : CE) (i : Nat)
  | compN (own : List Nat) (tg : CT) (it : CI) (cd : CC) (elt : CE)
  | fmt (a : CE)
  | fstr (es : CEs)
  | lockE (a x : CE)
  | exIs (a : CE) (c : Str)
  | exFld (a : CE) (f : Str)
inductive CO where
  | no | so (a : CE)
inductive CC where
  | no | so (b : CB)
inductive CEs where
  | nil | cons (a : CE) (r : CEs)
inductive CB where
  | and (a b : CB) | or (a b : CB) | not (a : CB) | tru (a : CE) | cmp (op : COp) (a b : CE) | isN (a : CE) | notN (a : CE) | chain (op op2 : COp) (a b c : CE) | kin (neg : Bool) (a : CE) (i : Nat)
inductive CI where
  | ex (a : CE) | keys (a : CE) | rng1 (a : CE) | rng2 (a b : CE) | enum (a : CE) | zip (a b : CE) | enumT (a : CE)
end
mutual
inductive CS where
  | set (tg : CT) (e : CE)
  | par (ix : List Nat) (es : CEs)
  | setI (o i e : CE)
  | expr (e : CE)
  | ret (e : CE)
  | retN
  | ifs (c : CB) (a b : CSs)
  | forS (tg : CT) (it : CI) (b : CSs)
  | whl (c : CB) (b : CSs)
  | pass
  | brk
  | cont
  | lockS (a : CE) (s : CS)
  | raise (c : Str) (es : CEs)
  | tryS (i : Nat) (c : Str) (b s : CSs)
inductive CSs where
  | nil | cons (a : CS) (r : CSs)
end

/-! ### cells and lists -/
def flatD : D → Bool
  | .none => true | .bool _ => true | .int _ => true | .str _ => true
  | _ => false
/-- an item of a written tuple, as a running value -/
def gW : D → W
  | .tuple xs => .g xs
  | x => .d x
def cellLst (M : Store) (n : Nat) : Option (List D) := match M[n]? with
  | some (.lst xs) => some xs
  | _ => none
def lstOf : W → Store → Option (List D)
  | .d (.list xs), _ => some xs
  | .r n, M => cellLst M n
  | _, _ => none
/-- the items of a list or a tuple -/
def seqOf : W → Store → Option (List D)
  | .d (.tuple xs), _ => some xs
  | .s xs, _ => some xs
  | .g xs, _ => if xs.all flatD = true then some xs else none
  | w, M => lstOf w M
def datOf : W → Store → Option D
  | .d x, _ => some x
  | .r n, M => (cellLst M n).map .list
  | _, _ => none
def mk (md : Md) (xs : List D) (M : Store) : Res W := match md with
  | .F => .ok (.d (.list xs)) M
  | .M => .ok (.r M.length) (M ++ [.lst xs])
  | .N => .ok (.r M.length) (M ++ [.wl (xs.map .d)])
def lim {α : Type} (n : Nat) (r : Res α) : Res α := if n ≤ sizeLine then r else .stuck
def must {α : Type} (c : Prop) [Decidable c] (r : Res α) : Res α := if c then r else .stuck
/-- some x goes on -/
def withO {α β : Type} (o : Option α) (f : α → Res β) : Res β := match o with
  | some a => f a
  | none => .stuck
theorem withO_some {α β : Type} (a : α) (f : α → Res β) : withO (some a) f = f a := rfl
theorem withO_none {α β : Type} (f : α → Res β) : withO (none : Option α) f = .stuck := rfl

def inV (x : D) (xs : List D) : Bool := xs.any fun y => PyData.eqv y x
def okEq (x : D) : Bool := SeqAt.shaped x
/-- a and b of ints -/
def binI (op : BOp) (i j : Int) (M : Store) : Res W := match op with
  | .add => .ok (.d (.int (i + j))) M
  | .sub => .ok (.d (.int (i - j))) M
  | .mul => must ((-18446744073709551616 < i ∧ i < 18446744073709551616) ∨ (-18446744073709551616 < j ∧ j < 18446744073709551616)) (.ok (.d (.int (i * j))) M)
  | .fdiv => must (0 < j ∧ j < 18446744073709551616) (.ok (.d (.int (i / j))) M)
  | .mod => must (0 < j) (.ok (.d (.int (i % j))) M)
  | .pow => must (0 ≤ j ∧ j ≤ 1000000 ∧ i.natAbs < 18446744073709551616) (.ok (.d (.int (i ^ j.toNat))) M)
  | .shl => must (0 ≤ j ∧ j ≤ 1000000 ∧ i.natAbs < 18446744073709551616) (.ok (.d (.int (i * 2 ^ j.toNat))) M)
  | .shr => must (0 ≤ j) (.ok (.d (.int (i / 2 ^ j.toNat))) M)
  | .band => .ok (.d (.int (Builtin.bitAnd i j))) M
  | .bor => .ok (.d (.int (Builtin.bitOr i j))) M
  | .bxor => .ok (.d (.int (Builtin.bitXor i j))) M
def addL (md : Md) (a b : W) (M : Store) : Res W := withO (lstOf a M) fun xs => withO (lstOf b M) fun ys => lim (xs.length + ys.length) (mk md (xs ++ ys) M)
def binW (md : Md) (op : BOp) (a b : W) (M : Store) : Res W := match op, a, b with
  | op, .d (.int i), .d (.int j) => binI op i j M
  | .add, .d (.tuple xs), .d (.tuple ys) => lim (xs.length + ys.length) (.ok (.d (.tuple (xs ++ ys))) M)
  | .add, .d (.str x), .d (.str y) => lim (x.length + y.length) (.ok (.d (.str (x ++ y))) M)
  | .add, a, b => addL md a b M
  | .mul, .d (.tuple xs), .d (.int n) => must (xs.isEmpty = false ∧ 2 ≤ n ∧ n ≤ 1000 ∧ xs.length ≤ 1000) (.ok (.d (.tuple (List.replicate n.toNat xs).flatten)) M)
  | _, _, _ => .stuck

/-- == told at once, whatever the texts are -/
def scalD : D → D → Bool
  | .none, .none => true | .none, .int _ => true | .int _, .none => true | .none, .bool _ => true | .bool _, .none => true | .none, .str _ => true | .str _, .none => true
  | .int _, .int _ => true | .bool _, .bool _ => true | .str _, .str _ => true
  | .int _, .str _ => true | .str _, .int _ => true | .bool _, .str _ => true | .str _, .bool _ => true
  | _, _ => false
def eqD (a b : D) : Option Bool := if scalD a b = true then some (PyData.eqv a b) else if okEq a = true ∧ okEq b = true then some (PyData.eqv a b) else none
/-- x in xs -/
def inD (x : D) (xs : List D) : Option Bool := if (flatD x = true ∧ xs.all flatD = true) ∨ (okEq x = true ∧ okEq (.list xs) = true) then some (inV x xs) else none
def inStr (x y : Str) : Bool := !(Builtin.Str.occurrences y x 0 y.length 1).isEmpty
def boolR (b : Bool) (M : Store) : Res W := .ok (.d (.bool b)) M

/-! ### dicts -/
abbrev Key := L2.Key
def keyOf : D → Option Key
  | .int i => some (.inl i)
  | .str x => some (.inr x)
  | _ => none
def keysOf : List D → Option (List Key)
  | [] => some []
  | x :: r => (keyOf x).bind fun k => (keysOf r).bind fun ks => some (k :: ks)
def tkeyOf : D → Option (List Key)
  | .tuple xs => keysOf xs
  | _ => none
def valD {κ β : Type} [DecidableEq κ] (kvs : List (κ × β)) (k : κ) : Option β := (kvs.find? fun kv => decide (kv.1 = k)).map (·.2)
def putD {κ β : Type} [DecidableEq κ] (kvs : List (κ × β)) (k : κ) (v : β) : List (κ × β) := if kvs.any (fun kv => decide (kv.1 = k)) then kvs.map (fun kv => if kv.1 = k then (kv.1, v) else kv) else kvs ++ [(k, v)]
/-- what the dict has for a key -/
def dgetW (w : W) (k : D) (M : Store) : Option (Option W) := match w with
  | .r n => match M[n]? with
    | some (.dK kvs) => (keyOf k).map fun k => (valD kvs k).map .d
    | some (.dT kvs) => (tkeyOf k).map fun k => (valD kvs k).map .d
    | some (.wK kvs) => (keyOf k).map fun k => valD kvs k
    | some (.lkK kvs) => (keyOf k).map fun k => (valD kvs k).map .d
    | some (.lkT kvs) => (tkeyOf k).map fun k => (valD kvs k).map .d
    | _ => none
  | _ => none
def isDic (w : W) (M : Store) : Bool := match w with
  | .r n => match M[n]? with
    | some (.dK _) => true
    | some (.dT _) => true
    | some (.wK _) => true
    | _ => false
  | _ => false
def dlen (w : W) (M : Store) : Option Nat := match w with
  | .r n => match M[n]? with
    | some (.dK kvs) => some kvs.length
    | _ => none
  | _ => none
/-- the pairs, put one after another -/
def dictG : List (Key × D) → List D → Option (List (Key × D))
  | acc, [] => some acc
  | acc, .tuple [x, v] :: r => (keyOf x).bind fun k => dictG (putD acc k v) r
  | _, _ => none

def cmpI (op : COp) (i j : Int) : Option Bool := match op with
  | .lt => some (decide (i < j))
  | .le => some (decide (i ≤ j))
  | .gt => some (decide (j < i))
  | .ge => some (decide (j ≤ i))
  | _ => none
def ordW (op : COp) (a b : W) : Option Bool := match a, b with
  | .d (.int i), .d (.int j) => cmpI op i j
  | _, _ => none
def eqW (a b : W) (M : Store) : Option Bool := (datOf a M).bind fun x => (datOf b M).bind fun y => eqD x y
def memD (x : D) (b : W) (M : Store) : Option Bool := match seqOf b M with
  | some ys => inD x ys
  | none => match x, b with
    | .str x, .d (.str y) => some (inStr x y)
    | x, b => (dgetW b x M).map (·.isSome)
def memW (a b : W) (M : Store) : Option Bool := match a with
  | .d x => memD x b M
  | _ => none
def cmpW (op : COp) (a b : W) (M : Store) : Option Bool := match op with
  | .eq => eqW a b M
  | .ne => (eqW a b M).map (!·)
  | .isin => memW a b M
  | .notin => (memW a b M).map (!·)
  | .lt => ordW .lt a b
  | .le => ordW .le a b
  | .gt => ordW .gt a b
  | .ge => ordW .ge a b
def isNW (w : W) (M : Store) : Option Bool := match w with
  | .d .none => some true
  | .d _ => some false
  | .r n => match M[n]? with
    | some (.lst _) => some false
    | some (.dK _) => some false
    | some (.dT _) => some false
    | some (.wl _) => some false
    | some (.wK _) => some false
    | _ => none
  | .g _ => some false
  | .s _ => none
  | .x _ => none
  | .t _ => none
def truW (w : W) (M : Store) : Option Bool := match w with
  | .d (.bool b) => some b
  | .d .none => some false
  | .d (.int i) => some (i != 0)
  | .d (.str x) => if x.length ≤ sizeLine then some (x.length != 0) else none
  | w => (seqOf w M).map (!·.isEmpty)
inductive Tg where
  | non | bl | int | str | tup | lst
def tgW (w : W) (M : Store) : Option Tg := match w with
  | .d .none => some .non
  | .d (.bool _) => some .bl
  | .d (.int _) => some .int
  | .d (.str _) => some .str
  | .d (.tuple _) => some .tup
  | .d (.list _) => some .lst
  | .r n => (cellLst M n).map fun _ => .lst
  | _ => none
def tgB : Tg → Ty → Bool
  | .bl, .bool => true | .bl, .int => true
  | .int, .int => true
  | .str, .str => true
  | .tup, .tuple => true
  | .lst, .list => true
  | _, _ => false
def isiW (w : W) (t : Ty) (M : Store) : Option Bool := (tgW w M).map fun g => tgB g t

/-! ### items, slices -/
def wlOf (a : W) (M : Store) : Option (List W) := match a with
  | .r n => match M[n]? with
    | some (.wl ws) => some ws
    | _ => none
  | _ => none
def subW (a i : W) (M : Store) : Option W := match seqOf a M, i with
  | some xs, .d (.int k) => (L2.atI xs k).map .d
  | some _, _ => none
  | none, i => match wlOf a M, i with
    | some ws, .d (.int k) => L2.atI ws k
    | some _, _ => none
    | none, i => match a, i with
      | .g xs, .d (.int k) => (L2.atI xs k).map gW
      | .d (.str z), .d (.int k) => if z.length ≤ sizeLine then (L2.atI z.cps.toList k).map fun c => .d (.str ⟨#[c]⟩) else none
      | a, .d k => (dgetW a k M).bind id
      | _, _ => none
def cutD (xs : List D) (lo hi : Option Int) : List D := (xs.drop (HT.sIx xs.length 0 lo)).take (HT.sIx xs.length xs.length hi - HT.sIx xs.length 0 lo)
def slcW (md : Md) (a : W) (lo hi : Option Int) (M : Store) : Res W := match a with
  | .d (.tuple xs) => .ok (.d (.tuple (cutD xs lo hi))) M
  | .d (.str z) => lim z.length (.ok (.d (.str (L2.cutS z lo hi))) M)
  | w => withO (lstOf w M) fun xs => mk md (cutD xs lo hi) M

/-! ### built-ins, methods -/
def frzL (g : W → Store → Option (D × Store)) : List W → Store → Option (List D × Store)
  | [], M => some ([], M)
  | w :: r, M => (g w M).bind fun p => (frzL g r p.2).bind fun q => some (p.1 :: q.1, q.2)
/-- a value as data: its lists' cells are let go -/
def frzN : Nat → W → Store → Option (D × Store)
  | 0, w, M => match w with
    | .d x => some (x, M)
    | _ => none
  | f + 1, w, M => match w with
    | .d x => some (x, M)
    | .r n => match M[n]? with
      | some (.lst xs) => some (.list xs, M.set n .dead)
      | some (.wl ws) => (frzL (frzN f) ws (M.set n .dead)).map fun p => (.list p.1, p.2)
      | _ => none
    | _ => none
def frzNs (f : Nat) (ws : List W) (M : Store) : Option (List D × Store) := frzL (frzN f) ws M
def frzW (w : W) (M : Store) : Option (D × Store) := frzN 3 w M
def frzs : List W → Store → Option (List D × Store)
  | [], M => some ([], M)
  | w :: r, M => (frzW w M).bind fun p => (frzs r p.2).bind fun q => some (p.1 :: q.1, q.2)
def intsD : List D → Option (List Int)
  | [] => some []
  | .int i :: r => (intsD r).map (i :: ·)
  | _ :: _ => none
def boolsD : List D → Option (List Bool)
  | [] => some []
  | .bool i :: r => (boolsD r).map (i :: ·)
  | _ :: _ => none
def range0 (n : Int) : List D := (List.range n.toNat).map fun (i : Nat) => .int i
def range2 (a b : Int) : List D := (List.range (b - a).toNat).map fun (i : Nat) => .int (a + i)
def lenW (w : W) (M : Store) : Option Nat := match w with
  | .d (.str x) => if x.length ≤ sizeLine then some x.length else none
  | w => match seqOf w M with
    | some xs => some xs.length
    | none => match wlOf w M with
      | some ws => some ws.length
      | none => match w with
        | .g xs => some xs.length
        | w => dlen w M
def okR (a b : Int) : Prop := -(2 ^ 62) ≤ a ∧ a < 2 ^ 62 ∧ -(2 ^ 62) ≤ b ∧ b < 2 ^ 62
instance (a b : Int) : Decidable (okR a b) := by unfold okR; infer_instance
def bLen (ws : List W) (M : Store) : Res W := match ws with
  | [w] => withO (lenW w M) fun n => .ok (.d (.int (n : Nat))) M
  | _ => .stuck
def bAbs (ws : List W) (M : Store) : Res W := match ws with
  | [.d (.int i)] => .ok (.d (.int (if i < 0 then -i else i))) M
  | _ => .stuck
def bInt (ws : List W) (M : Store) : Res W := match ws with
  | [.d (.str x)] => must (x.length ≤ 640) (withO (PySem.intText? x) fun n => .ok (.d (.int n)) M)
  | [.d (.int i)] => .ok (.d (.int i)) M
  | [.d (.bool b)] => .ok (.d (.int (if b then 1 else 0))) M
  | _ => .stuck
def bMax2 (ws : List W) (M : Store) : Res W := match ws with
  | [.d (.int i), .d (.int j)] => .ok (.d (.int (if j > i then j else i))) M
  | _ => .stuck
def bMin2 (ws : List W) (M : Store) : Res W := match ws with
  | [.d (.int i), .d (.int j)] => .ok (.d (.int (if j < i then j else i))) M
  | _ => .stuck
def bList (md : Md) (ws : List W) (M : Store) : Res W := match ws with
  | [w] => withO (seqOf w M) fun xs => mk md xs M
  | _ => .stuck
def bTuple (ws : List W) (M : Store) : Res W := match ws with
  | [.g _] => .stuck
  | [w] => withO (seqOf w M) fun xs => .ok (.d (.tuple xs)) M
  | _ => .stuck
def bListr (md : Md) (ws : List W) (M : Store) : Res W := match ws with
  | [.d (.int n)] => must (0 ≤ n ∧ n ≤ 16777216) (mk md (range0 n) M)
  | _ => .stuck
def bTupr (ws : List W) (M : Store) : Res W := match ws with
  | [.d (.int n)] => must (0 ≤ n ∧ n ≤ 16777216) (.ok (.d (.tuple (range0 n))) M)
  | _ => .stuck
def bListr2 (md : Md) (ws : List W) (M : Store) : Res W := match ws with
  | [.d (.int a), .d (.int b)] => must (okR a b ∧ (b - a).toNat ≤ 16777216) (mk md (range2 a b) M)
  | _ => .stuck
def bTupr2 (ws : List W) (M : Store) : Res W := match ws with
  | [.d (.int a), .d (.int b)] => must (okR a b ∧ (b - a).toNat ≤ 16777216) (.ok (.d (.tuple (range2 a b))) M)
  | _ => .stuck
def strI (i : Int) : Str := toString i
def bStr (ws : List W) (M : Store) : Res W := match ws with
  | [.d (.int i)] => must (i.natAbs.log2 < 1920) (.ok (.d (.str (strI i))) M)
  | [.d (.str x)] => .ok (.d (.str x)) M
  | _ => .stuck
/-- python's order of alike data -/
def leD (x y : D) : Bool := !PySem.W.dataLt y x
def alikeB (xs : List D) : Bool := xs.all fun x => xs.all fun y => PySem.W.alike x y
def sortOk (xs : List D) : Bool := alikeB xs && ((xs.all fun x => match x with
  | .tuple (_ :: _) => true
  | _ => false) || (xs.all fun x => match x with
  | .none => false
  | .tuple _ => false
  | _ => true)) && xs.all fun x => decide (x.depth ≤ 60)
def bSorted (md : Md) (ws : List W) (M : Store) : Res W := match ws with
  | [w] => withO (lstOf w M) fun xs => must (sortOk xs = true) (mk md (xs.mergeSort leD) M)
  | _ => .stuck
def bSum (ws : List W) (M : Store) : Res W := match ws with
  | [w] => withO (lstOf w M) fun xs => withO (intsD xs) fun ns => .ok (.d (.int ns.sum)) M
  | _ => .stuck
def bAll (ws : List W) (M : Store) : Res W := match ws with
  | [w] => withO (lstOf w M) fun xs => withO (boolsD xs) fun bs => .ok (.d (.bool (bs.all id))) M
  | _ => .stuck
def bAny (ws : List W) (M : Store) : Res W := match ws with
  | [w] => withO (lstOf w M) fun xs => withO (boolsD xs) fun bs => .ok (.d (.bool (bs.any id))) M
  | _ => .stuck
/-- the greatest of some ints, the least -/
def maxI : List Int → Option Int
  | [] => none
  | x :: xs => some (xs.foldl (fun a b => if a < b then b else a) x)
def minI : List Int → Option Int
  | [] => none
  | x :: xs => some (xs.foldl (fun a b => if b < a then b else a) x)
def bMax1 (ws : List W) (M : Store) : Res W := match ws with
  | [w] => withO (lstOf w M) fun xs => withO ((intsD xs).bind maxI) fun n => .ok (.d (.int n)) M
  | _ => .stuck
def bMin1 (ws : List W) (M : Store) : Res W := match ws with
  | [w] => withO (lstOf w M) fun xs => withO ((intsD xs).bind minI) fun n => .ok (.d (.int n)) M
  | _ => .stuck
def kD : L2.Key → D
  | .inl i => .int i
  | .inr x => .str x
def keysOfW (w : W) (M : Store) : Option (List D) := match w with
  | .r n => match M[n]? with
    | some (.dK kvs) => some (kvs.map fun kv => kD kv.1)
    | _ => none
  | _ => none
def bKeys (md : Md) (ws : List W) (M : Store) : Res W := match ws with
  | [w] => withO (keysOfW w M) fun xs => mk md xs M
  | _ => .stuck
def bDict (ws : List W) (M : Store) : Res W := match ws with
  | [.t xs] => withO (dictG [] xs) fun kvs => .ok (.r M.length) (M ++ [.dK kvs])
  | [w] => match lstOf w M with
    | some xs => withO (dictG [] xs) fun kvs => .ok (.r M.length) (M ++ [.dK kvs])
    | none => match w with
      | .r n => match M[n]? with
        | some (.dK kvs) => .ok (.r M.length) (M ++ [.dK kvs])
        | _ => .stuck
      | _ => .stuck
  | _ => .stuck
/-- tuple(l), for a dict -/
def bTupk (ws : List W) (M : Store) : Res W := match ws with
  | [w] => withO (lstOf w M) fun xs => .ok (.t xs) M
  | _ => .stuck
def strsD : List D → Option (List Str)
  | [] => some []
  | .str x :: r => (strsD r).map (x :: ·)
  | _ :: _ => none
/-- how many different ones -/
def dstN {α : Type} [DecidableEq α] : List α → Nat
  | [] => 0
  | x :: r => if x ∈ r then dstN r else dstN r + 1
def tkeysOf : List D → Option (List (List Key))
  | [] => some []
  | d :: r => (tkeyOf d).bind fun k => (tkeysOf r).bind fun ks => some (k :: ks)
/-- len(set(xs)), xs a tuple of ints or a list of tuples of keys -/
def bLset (ws : List W) (M : Store) : Res W := match ws with
  | [.d (.tuple xs)] => withO (intsD xs) fun ns => must (ns.length ≤ 1000) (.ok (.d (.int (dstN ns : Nat))) M)
  | [w] => withO (lstOf w M) fun xs => withO (tkeysOf xs) fun ks => must (ks.length < 64) (.ok (.d (.int (dstN ks : Nat))) M)
  | _ => .stuck
def bltW (id : Blt) (md : Md) (ws : List W) (M : Store) : Res W := match id with
  | .len => bLen ws M
  | .abs => bAbs ws M
  | .int => bInt ws M
  | .max2 => bMax2 ws M
  | .min2 => bMin2 ws M
  | .list => bList md ws M
  | .tuple => bTuple ws M
  | .listr => bListr md ws M
  | .tupr => bTupr ws M
  | .listr2 => bListr2 md ws M
  | .tupr2 => bTupr2 ws M
  | .str => bStr ws M
  | .sorted => bSorted md ws M
  | .sum => bSum ws M
  | .all => bAll ws M
  | .any => bAny ws M
  | .max1 => bMax1 ws M
  | .min1 => bMin1 ws M
  | .keys => bKeys md ws M
  | .dict => bDict ws M
  | .tupk => bTupk ws M
  | .lset => bLset ws M
  | _ => .stuck
def findIx (x : D) : List D → Nat → Option Nat
  | [], _ => none
  | y :: r, i => if PyData.eqv y x = true then some i else findIx x r (i + 1)
def mAppend (o : W) (ws : List W) (M : Store) : Res W := match o, ws with
  | .r n, [w] => withO (frzW w M) fun p => withO (cellLst p.2 n) fun xs => must (xs.length < sizeLine) (.ok (.d .none) (p.2.set n (.lst (xs ++ [p.1]))))
  | _, _ => .stuck
def mPop0 (o : W) (ws : List W) (M : Store) : Res W := match o, ws with
  | .r n, [] => withO (cellLst M n) fun xs => withO xs[xs.length - 1]? fun y => .ok (.d y) (M.set n (.lst xs.dropLast))
  | _, _ => .stuck
def mPop (o : W) (ws : List W) (M : Store) : Res W := match o, ws with
  | .r n, [.d (.int i)] => withO (cellLst M n) fun xs => withO (L2.ixN xs.length i) fun k => withO xs[k]? fun y => .ok (.d y) (M.set n (.lst (xs.eraseIdx k)))
  | _, _ => .stuck
def mIndex (o : W) (ws : List W) (M : Store) : Res W := match ws with
  | [.d x] => withO (lstOf o M) fun xs => must (okEq x = true ∧ okEq (.list xs) = true) (withO (findIx x xs 0) fun j => .ok (.d (.int (j : Nat))) M)
  | _ => .stuck
def mRemove (o : W) (ws : List W) (M : Store) : Res W := match o, ws with
  | .r n, [.d x] => withO (cellLst M n) fun xs => must (okEq x = true ∧ okEq (.list xs) = true) (withO (findIx x xs 0) fun j => .ok (.d .none) (M.set n (.lst (xs.eraseIdx j))))
  | _, _ => .stuck
def mCount (o : W) (ws : List W) (M : Store) : Res W := match ws with
  | [.d x] => withO (lstOf o M) fun xs => must (okEq x = true ∧ okEq (.list xs) = true) (.ok (.d (.int (xs.countP fun y => PyData.eqv y x : Nat))) M)
  | _ => .stuck
/-- t.count(x) -/
def mTcount (o : W) (ws : List W) (M : Store) : Res W := match o, ws with
  | .d (.tuple xs), [.d x] => must (okEq x = true ∧ okEq (.list xs) = true) (.ok (.d (.int (xs.countP fun y => PyData.eqv y x : Nat))) M)
  | _, _ => .stuck
def isTupD : W → Bool
  | .d (.tuple _) => true
  | _ => false
def mGet1 (o : W) (ws : List W) (M : Store) : Res W := match ws with
  | [.d k] => withO (dgetW o k M) fun r => .ok (r.getD (.d .none)) M
  | _ => .stuck
def mGet2 (o : W) (ws : List W) (M : Store) : Res W := match ws with
  | [.d k, w] => withO (dgetW o k M) fun r => .ok (r.getD w) M
  | _ => .stuck
def mSplit (o : W) (ws : List W) (M : Store) : Res W := match o, ws with
  | .d (.str x), [.d (.str y)] => must ((y.length == 0) = false ∧ x.length + 2 ≤ sizeLine) (.ok (.d (.list ((Txt.split x y).map .str))) M)
  | _, _ => .stuck
def mJoin (o : W) (ws : List W) (M : Store) : Res W := match o, ws with
  | .d (.str x), [w] => withO (seqOf w M) fun ds => withO (strsD ds) fun ys => must ((ys.map (·.length)).sum + ys.length * x.length ≤ 16777216) (.ok (.d (.str (Txt.join x ys))) M)
  | _, _ => .stuck
def mFind (o : W) (ws : List W) (M : Store) : Res W := match o, ws with
  | .d (.str x), [.d (.str y)] => .ok (.d (.int (Txt.find x y))) M
  | _, _ => .stuck
def mLower (o : W) (ws : List W) (M : Store) : Res W := match o, ws with
  | .d (.str x), [] => must (x.length ≤ 5592405) (.ok (.d (.str (Txt.lower x))) M)
  | _, _ => .stuck
def mInsert (o : W) (ws : List W) (M : Store) : Res W := match o, ws with
  | .r n, [.d (.int i), w] => withO (frzW w M) fun p => withO (cellLst p.2 n) fun xs => must (xs.length < sizeLine ∧ 0 ≤ i ∧ i < 9223372036854775808) (.ok (.d .none) (p.2.set n (.lst (xs.take i.toNat ++ [p.1] ++ xs.drop i.toNat))))
  | _, _ => .stuck
def isStrW : W → Bool
  | .d (.str _) => true
  | _ => false
def mthW (id : Mth) (o : W) (ws : List W) (M : Store) : Res W := match id with
  | .append => mAppend o ws M
  | .pop0 => mPop0 o ws M
  | .pop => mPop o ws M
  | .index => mIndex o ws M
  | .remove => mRemove o ws M
  | .count => mCount o ws M
  | .tcount => mTcount o ws M
  | .get1 => mGet1 o ws M
  | .get2 => mGet2 o ws M
  | .split => mSplit o ws M
  | .join => mJoin o ws M
  | .find => mFind o ws M
  | .lower => mLower o ws M
  | .insert => mInsert o ws M
  | _ => .stuck
/-- whose method it is -/
def mTy (id : Mth) (w : W) (M : Store) : Bool := match id with
  | .append => (lstOf w M).isSome
  | .pop => (lstOf w M).isSome
  | .pop0 => (lstOf w M).isSome
  | .index => (lstOf w M).isSome
  | .remove => (lstOf w M).isSome
  | .count => (lstOf w M).isSome
  | .tcount => isTupD w
  | .get1 => isDic w M
  | .get2 => isDic w M
  | .split => isStrW w
  | .join => isStrW w
  | .find => isStrW w
  | .lower => isStrW w
  | .insert => (lstOf w M).isSome
  | _ => false
def setW (o i : W) (v : D) (M : Store) : Res Unit := match o, i with
  | .r n, .d k => match M[n]? with
    | some (.lst xs) => (match k with
      | .int k => withO (L2.ixN xs.length k) fun j => .ok () (M.set n (.lst (xs.set j v)))
      | _ => .stuck)
    | some (.dK kvs) => withO (keyOf k) fun j => must (kvs.length < sizeLine) (.ok () (M.set n (.dK (putD kvs j v))))
    | some (.dT kvs) => withO (tkeyOf k) fun j => must (kvs.length < sizeLine) (.ok () (M.set n (.dT (putD kvs j v))))
    | _ => .stuck
  | _, _ => .stuck

/-! ### targets, what is walked -/
mutual
def asgT : CT → W → Env → Option Env
  | .name i, w, e => some (e.set i (some w))
  | .tup ts, .d (.tuple xs), e => asgTs ts xs e
  | .tup ts, .g xs, e => asgGs ts xs e
  | .tup _, _, _ => none
def asgTs : CTs → List D → Env → Option Env
  | .nil, [], e => some e
  | .cons t r, x :: xs, e => (asgT t (.d x) e).bind fun e' => asgTs r xs e'
  | _, _, _ => none
def asgGs : CTs → List D → Env → Option Env
  | .nil, [], e => some e
  | .cons t r, x :: xs, e => (asgT t (gW x) e).bind fun e' => asgGs r xs e'
  | _, _, _ => none
end
def wipeE (e : Env) : List Nat → Env
  | [] => e
  | v :: vs => (wipeE e vs).set v none
/-- an item that is walked: a value, or a pair of values (enumerate, zip) -/
inductive Itm where
  | w (x : W) | p (x y : W)
def asgI : CT → Itm → Env → Option Env
  | tg, .w x, e => asgT tg x e
  | .tup (.cons a (.cons b .nil)), .p x y, e => (asgT a x e).bind (asgT b y)
  | _, _, _ => none
def itm (en : Bool) (i : Nat) (x : W) : Itm := if en = true then .p (.d (.int (i : Nat))) x else .w x
/-- what a loop walks: items that stand fast, or the cell n (en: numbered) -/
inductive Its where
  | items (ws : List D) | cell (en : Bool) (n : Nat) | gs (xs : List D) | keys (n : Nat)
def enumD : List D → Nat → List D
  | [], _ => []
  | x :: r, i => .tuple [.int (i : Nat), x] :: enumD r (i + 1)
def zipD : List D → List D → List D
  | x :: xs, y :: ys => .tuple [x, y] :: zipD xs ys
  | _, _ => []
/-- the items of a list's cell, as they stand -/
def cellWs (M : Store) (n : Nat) : Option (List W) := match M[n]? with
  | some (.lst xs) => some (xs.map .d)
  | some (.wl ws) => some ws
  | _ => none
/-- the keys of a locked dict -/
def lkKeys (M : Store) (n : Nat) : Option (List D) := match M[n]? with
  | some (.lkK kvs) => some (kvs.map fun kv => kD kv.1)
  | some (.lkT kvs) => some (kvs.map fun kv => .tuple (kv.1.map kD))
  | _ => none
def itsW (w : W) (M : Store) : Option Its := match w with
  | .r n => (cellWs M n).map fun _ => .cell false n
  | .d (.str z) => some (.items (z.cps.toList.map fun c => .str ⟨#[c]⟩))
  | .d (.tuple xs) => some (.items xs)
  | .d (.list xs) => some (.items xs)
  | .s xs => some (.items xs)
  | .g xs => some (.gs xs)
  | _ => none

/-! ### loops -/
def after (r : Res Fl) (next : Env → Store → Res Fl) : Res Fl := r.bind fun f M => match f with
  | .nx e => next e M
  | .ct e => next e M
  | .bk e => .ok (.nx e) M
  | .rt w => .ok (.rt w) M
def forL (tg : CT) (body : Env → Store → Res Fl) : List D → Env → Store → Res Fl
  | [], e, M => .ok (.nx e) M
  | x :: xs, e, M => withO (asgT tg (.d x) e) fun e' => after (body e' M) (forL tg body xs)
def forG (tg : CT) (body : Env → Store → Res Fl) : List D → Env → Store → Res Fl
  | [], e, M => .ok (.nx e) M
  | x :: xs, e, M => withO (asgT tg (gW x) e) fun e' => after (body e' M) (forG tg body xs)
def forC (tg : CT) (body : Env → Store → Res Fl) (en : Bool) (n : Nat) : Nat → Nat → Env → Store → Res Fl
  | 0, _, _, _ => .stuck
  | F + 1, i, e, M => withO (cellWs M n) fun xs => match xs[i]? with
    | none => .ok (.nx e) M
    | some x => withO (asgI tg (itm en i x) e) fun e' => after (body e' M) (forC tg body en n F (i + 1))
def forK (tg : CT) (body : Env → Store → Res Fl) (n : Nat) : Nat → Nat → Env → Store → Res Fl
  | 0, _, _, _ => .stuck
  | F + 1, i, e, M => withO (lkKeys M n) fun xs => match xs[i]? with
    | none => .ok (.nx e) M
    | some x => withO (asgT tg (.d x) e) fun e' => after (body e' M) (forK tg body n F (i + 1))
def forI (F : Nat) (tg : CT) (body : Env → Store → Res Fl) (j : Its) (e : Env) (M : Store) : Res Fl := match j with
  | .items xs => forL tg body xs e M
  | .cell en n => forC tg body en n F 0 e M
  | .gs xs => forG tg body xs e M
  | .keys n => forK tg body n F 0 e M
def whileW (c : Env → Store → Res Bool) (body : Env → Store → Res Fl) : Nat → Env → Store → Res Fl
  | 0, _, _ => .stuck
  | F + 1, e, M => (c e M).bind fun b M1 => if b = true then after (body e M1) (whileW c body F) else .ok (.nx e) M1
/-- a comprehension's items: what inner gives of each -/
def compL {α : Type} (tg : CT) (cd : Env → Store → Res Bool) (inner : Env → Store → Res (List α)) (e0 : Env) : List D → Store → Res (List α)
  | [], M => .ok [] M
  | x :: xs, M => withO (asgT tg (.d x) e0) fun e1 => (cd e1 M).bind fun b M1 => if b = true then (inner e1 M1).bind fun ys M2 => (compL tg cd inner e0 xs M2).bind fun zs M3 => .ok (ys ++ zs) M3
      else compL tg cd inner e0 xs M1
def compG {α : Type} (tg : CT) (cd : Env → Store → Res Bool) (inner : Env → Store → Res (List α)) (e0 : Env) : List D → Store → Res (List α)
  | [], M => .ok [] M
  | x :: xs, M => withO (asgT tg (gW x) e0) fun e1 => (cd e1 M).bind fun b M1 => if b = true then (inner e1 M1).bind fun ys M2 => (compG tg cd inner e0 xs M2).bind fun zs M3 => .ok (ys ++ zs) M3
      else compG tg cd inner e0 xs M1
def compC {α : Type} (tg : CT) (cd : Env → Store → Res Bool) (inner : Env → Store → Res (List α)) (e0 : Env) (en : Bool) (n : Nat) : Nat → Nat → Store → Res (List α)
  | 0, _, _ => .stuck
  | F + 1, i, M => withO (cellWs M n) fun xs => match xs[i]? with
    | none => .ok [] M
    | some x => withO (asgI tg (itm en i x) e0) fun e1 => (cd e1 M).bind fun b M1 => if b = true then (inner e1 M1).bind fun ys M2 => (compC tg cd inner e0 en n F (i + 1) M2).bind fun zs M3 => .ok (ys ++ zs) M3
      else compC tg cd inner e0 en n F (i + 1) M1
def compK {α : Type} (tg : CT) (cd : Env → Store → Res Bool) (inner : Env → Store → Res (List α)) (e0 : Env) (n : Nat) : Nat → Nat → Store → Res (List α)
  | 0, _, _ => .stuck
  | F + 1, i, M => withO (lkKeys M n) fun xs => match xs[i]? with
    | none => .ok [] M
    | some x => withO (asgT tg (.d x) e0) fun e1 => (cd e1 M).bind fun b M1 => if b = true then (inner e1 M1).bind fun ys M2 => (compK tg cd inner e0 n F (i + 1) M2).bind fun zs M3 => .ok (ys ++ zs) M3
      else compK tg cd inner e0 n F (i + 1) M1
def compI {α : Type} (F : Nat) (tg : CT) (cd : Env → Store → Res Bool) (inner : Env → Store → Res (List α)) (e0 : Env) (j : Its) (M : Store) : Res (List α) := match j with
  | .items xs => compL tg cd inner e0 xs M
  | .cell en n => compC tg cd inner e0 en n F 0 M
  | .gs xs => compG tg cd inner e0 xs M
  | .keys n => compK tg cd inner e0 n F 0 M
def pairD (r : Res W) (f : Store → Res W) : Res (List D) := r.bind fun w M => (f M).bind fun u M1 => match w with
  | .d x => must ((keyOf x).isSome = true) (withO (frzW u M1) fun p => .ok [.tuple [x, p.1]] p.2)
  | _ => .stuck
def oneW (r : Res W) : Res (List W) := r.bind fun w M => match w with
  | .s _ => .stuck
  | .g _ => .stuck
  | .x _ => .stuck
  | .t _ => .stuck
  | w => .ok [w] M
/-- keys and values of a display -/
def zipK {α : Type} : List Key → List α → Option (List (Key × α))
  | [], [] => some []
  | k :: ks, x :: xs => (zipK ks xs).map ((k, x) :: ·)
  | _, _ => none
def dispG {α : Type} (kvs : List (Key × α)) : List (Key × α) := kvs.foldl (fun acc p => putD acc p.1 p.2) []
def noS : W → Bool
  | .s _ => false
  | .g _ => false
  | .x _ => false
  | .t _ => false
  | _ => true
def kTab (G : List (List (Str × D))) (i : Nat) (x : D) : Option (Option D) := match x with
  | .str z => (G[i]?).map fun kvs => valD kvs z
  | _ => none
def oneD (r : Res W) : Res (List D) := r.bind fun w M => withO (frzW w M) fun p => .ok [p.1] p.2

/-! ### a dict is locked while its keys are walked -/
def lockAt (w : W) (M : Store) : Option (Nat × Store) := match w with
  | .r n => match M[n]? with
    | some (.dK kvs) => some (n, M.set n (.lkK kvs))
    | some (.dT kvs) => some (n, M.set n (.lkT kvs))
    | _ => none
  | _ => none
def unlockAt (n : Nat) (M : Store) : Option Store := match M[n]? with
  | some (.lkK kvs) => some (M.set n (.dK kvs))
  | some (.lkT kvs) => some (M.set n (.dT kvs))
  | _ => none
def oneOf {α : Type} (r : Res α) : Option α := match r with
  | .ok a _ => some a
  | _ => none
def catS : List W → Str → Option Str
  | [], acc => some acc
  | .d (.str x) :: r, acc => catS r (acc ++ x)
  | _, _ => none
/-! ### the evaluator -/
def lstW (md : Md) (ws : List W) (M : Store) : Res W := match md with
  | .N => must (ws.all noS = true) (lim ws.length (.ok (.r M.length) (M ++ [.wl ws])))
  | md => withO (frzs ws M) fun p => lim p.1.length (mk md p.1 p.2)
/-- {k: v, ..}: a new cell; of running values (N), or of data, other new cells let go -/
def dispW (md : Md) (ks : List Key) (ws : List W) (n : Nat) (M : Store) : Res W := match md with
  | .N => must (ws.all noS = true) (withO (zipK ks ws) fun kvs => .ok (.r M.length) (M ++ [.wK (dispG kvs)]))
  | _ => withO (frzs ws M) fun p => withO (zipK ks p.1) fun kvs => .ok (.r n) (p.2.take n ++ [.dK (dispG kvs)])
/-- the tables: written dicts; exception classes with their fields -/
structure Tabs where
  gd : List (List (Str × D))
  ex : List (Str × List Str)
structure Cfg where
  call : Nat → List W → Store → Res W
  F : Nat
  G : List D
  GD : Tabs
/-- is the class x one of c's -/
def exSub (x c : Str) : Bool := x == c || (c == ("ValueError" : Str) || c == ("CapkernError" : Str))
def exKnown (T : Tabs) (x : Str) : Bool := T.ex.any fun p => p.1 == x
def xArg : D → Bool
  | .str z => decide (z.length ≤ 100000)
  | .int i => decide (i.natAbs.log2 < 1920)
  | _ => false
def isX (T : Tabs) (w : W) (c : Str) (M : Store) : Res W := match w with
  | .x e => must (exKnown T e.cls = true) (boolR (exSub e.cls c) M)
  | _ => .stuck
def fldX (T : Tabs) (w : W) (f : Str) (M : Store) : Res W := match w with
  | .x e => must (exKnown T e.cls = true) (withO (e.args.lookup f) fun x => .ok (.d x) M)
  | _ => .stuck
/-- raise c(..) -/
def raiseX {α : Type} (T : Tabs) (c : Str) (ws : List W) (M : Store) : Res α := withO (frzs ws M) fun p => withO (T.ex.lookup c) fun fs => must (fs.length = p.1.length ∧ p.1.all xArg = true) (.exn ⟨c, fs.zip p.1⟩ p.2)
def tryEnd (f : Fl) (M : Store) : Res Fl := match f with
  | .rt (.d x) => .ok (.rt (.d x)) M
  | _ => .stuck
/-- what a try's body leaves -/
def tryX (T : Tabs) (c : Str) (n i : Nat) (r : Res Fl) (suite : Env → Store → Res Fl) : Res Fl := match r with
  | .ok f M => .ok f M
  | .exn x M => must (exKnown T x.cls = true) (if exSub x.cls c = true then (nox (suite ((List.replicate n none).set i (some (.x x))) M)).bind tryEnd else .exn x M)
  | .stuck => .stuck
mutual
def evE (C : Cfg) : CE → Env → Store → Res W
  | .var i, e, M => match e[i]? with
    | some (some w) => .ok w M
    | _ => .stuck
  | .cst x, _, M => .ok (.d x) M
  | .glob i, _, M => withO C.G[i]? fun v => .ok (gW v) M
  | .bin md op a b, e, M => (evE C a e M).bind fun x M1 => (evE C b e M1).bind fun y M2 => binW md op x y M2
  | .neg a, e, M => (evE C a e M).bind fun x M1 => match x with
    | .d (.int i) => .ok (.d (.int (-i))) M1
    | _ => .stuck
  | .cmp op a b, e, M => (evE C a e M).bind fun x M1 => (evE C b e M1).bind fun y M2 => withO (cmpW op x y M2) fun t => boolR t M2
  | .isN a, e, M => (evE C a e M).bind fun x M1 => withO (isNW x M1) fun t => boolR t M1
  | .notN a, e, M => (evE C a e M).bind fun x M1 => withO (isNW x M1) fun t => boolR (!t) M1
  | .chain op op2 a b c, e, M => (evE C a e M).bind fun x M1 => (evE C b e M1).bind fun y M2 => withO (cmpW op x y M2) fun t => if t = true then (evE C c e M2).bind fun z M3 => withO (cmpW op2 y z M3) fun u => boolR u M3 else boolR false M2
  | .andV a b, e, M => (evE C a e M).bind fun x M1 => match x with
    | .d (.bool t) => if t = true then evE C b e M1 else boolR false M1
    | _ => .stuck
  | .orV a b, e, M => (evE C a e M).bind fun x M1 => match x with
    | .d (.bool t) => if t = true then boolR true M1 else evE C b e M1
    | _ => .stuck
  | .notV a, e, M => (evE C a e M).bind fun x M1 => match x with
    | .d (.bool t) => boolR (!t) M1
    | _ => .stuck
  | .ite c a b, e, M => (evB C c e M).bind fun t M1 => if t = true then evE C a e M1 else evE C b e M1
  | .tup es, e, M => (evEs C es e M).bind fun ws M1 => withO (frzs ws M1) fun p => lim p.1.length (.ok (.d (.tuple p.1)) p.2)
  | .lst md es, e, M => (evEs C es e M).bind fun ws M1 => lstW md ws M1
  | .sub a i, e, M => (evE C a e M).bind fun x M1 => (evE C i e M1).bind fun y M2 => withO (subW x y M2) fun z => .ok z M2
  | .slc md a lo hi, e, M => (evE C a e M).bind fun x M1 => (evO C lo e M1).bind fun l M2 => (evO C hi e M2).bind fun h M3 => slcW md x l h M3
  | .call f es, e, M => (evEs C es e M).bind fun ws M1 => C.call f ws M1
  | .blt id md es, e, M => (evEs C es e M).bind fun ws M1 => bltW id md ws M1
  | .isi a t, e, M => (evE C a e M).bind fun x M1 => withO (isiW x t M1) fun b => boolR b M1
  | .mth id o es, e, M => (evE C o e M).bind fun x M1 => must (mTy id x M1 = true) ((evEs C es e M1).bind fun ws M2 => mthW id x ws M2)
  | .comp md own tg it cd elt, e, M => (evI C it e M).bind fun j M1 => (nox (compI C.F tg (evC C cd) (fun e1 M2 => oneD (evE C elt e1 M2)) (wipeE e own) j M1)).bind fun xs M2 => lim xs.length (mk md xs (M2.take M1.length))
  | .comp2 md own own1 tg it cd tg1 it1 cd1 elt, e, M => (evI C it e M).bind fun j M1 => (nox (compI C.F tg (evC C cd) (fun e1 M2 => (evI C it1 e1 M2).bind fun j1 M3 =>
      compI C.F tg1 (evC C cd1) (fun e2 M4 => oneD (evE C elt e2 M4)) (wipeE e1 own1) j1 M3) (wipeE e own) j M1)).bind fun xs M2 => lim xs.length (mk md xs (M2.take M1.length))
  | .dnew t, _, M => .ok (.r M.length) (M ++ [if t = true then .dT [] else .dK []])
  | .dcomp own tg it cd k v, e, M => (evI C it e M).bind fun j M1 => (nox (compI C.F tg (evC C cd) (fun e1 M2 => pairD (evE C k e1 M2) (evE C v e1)) (wipeE e own) j M1)).bind fun xs M2 => withO (dictG [] xs) fun kvs => lim xs.length (.ok (.r M1.length) (M2.take M1.length ++ [.dK kvs]))
  | .ddisp md ks es, e, M => (nox (evEs C es e M)).bind fun ws M1 => dispW md ks ws M.length M1
  | .dsub ks es i, e, M => (nox (evEs C es e M)).bind fun ws M1 => withO (frzs ws M1) fun p => withO (zipK ks p.1) fun kvs => (evE C i e p.2).bind fun y M2 => match y with
    | .d k => withO ((keyOf k).bind fun k => valD (dispG kvs) k) fun x => .ok (.d x) M2
    | _ => .stuck
  | .dgetd ks es i z, e, M => (nox (evEs C es e M)).bind fun ws M1 => withO (frzs ws M1) fun p => withO (zipK ks p.1) fun kvs => (evE C i e p.2).bind fun y M2 => (evE C z e M2).bind fun d M3 => match y with
    | .d k => withO (keyOf k) fun k => .ok (((valD (dispG kvs) k).map .d).getD d) M3
    | _ => .stuck
  | .kget i a, e, M => (evE C a e M).bind fun x M1 => match x with
    | .d k => withO ((kTab C.GD.gd i k).bind id) fun y => .ok (gW y) M1
    | _ => .stuck
  | .kin neg a i, e, M => (evE C a e M).bind fun x M1 => match x with
    | .d k => withO (kTab C.GD.gd i k) fun o => boolR (o.isSome != neg) M1
    | _ => .stuck
  | .compN own tg it cd elt, e, M => (evI C it e M).bind fun j M1 => (nox (compI C.F tg (evC C cd) (fun e1 M2 => oneW (evE C elt e1 M2)) (wipeE e own) j M1)).bind fun ws M2 => lim ws.length (.ok (.r M2.length) (M2 ++ [.wl ws]))
  | .fmt a, e, M => (evE C a e M).bind fun x M1 => match x with
    | .d (.str y) => lim y.length (.ok (.d (.str y)) M1)
    | .d (.int i) => must (i.natAbs.log2 < 1920) (.ok (.d (.str (strI i))) M1)
    | _ => .stuck
  | .fstr es, e, M => (nox (evEs C es e M)).bind fun ws M1 => withO (catS ws Str.empty) fun x => lim x.length (.ok (.d (.str x)) M1)
  | .exIs a c, e, M => (evE C a e M).bind fun x M1 => isX C.GD x c M1
  | .exFld a f, e, M => (evE C a e M).bind fun x M1 => fldX C.GD x f M1
  | .lockE a x, e, M => withO ((oneOf (evE C a e M)).bind fun w => lockAt w M) fun p => (nox (evE C x e p.2)).bind fun w M1 => withO (unlockAt p.1 M1) fun M2 => .ok w M2
def evO (C : Cfg) : CO → Env → Store → Res (Option Int)
  | .no, _, M => .ok none M
  | .so a, e, M => (evE C a e M).bind fun x M1 => match x with
    | .d (.int i) => .ok (some i) M1
    | _ => .stuck
def evC (C : Cfg) : CC → Env → Store → Res Bool
  | .no, _, M => .ok true M
  | .so a, e, M => evB C a e M
def evEs (C : Cfg) : CEs → Env → Store → Res (List W)
  | .nil, _, M => .ok [] M
  | .cons a r, e, M => (evE C a e M).bind fun w M1 => (evEs C r e M1).bind fun ws M2 => .ok (w :: ws) M2
def evB (C : Cfg) : CB → Env → Store → Res Bool
  | .and a b, e, M => (evB C a e M).bind fun t M1 => if t = true then evB C b e M1 else .ok false M1
  | .or a b, e, M => (evB C a e M).bind fun t M1 => if t = true then .ok true M1 else evB C b e M1
  | .not a, e, M => (evB C a e M).bind fun t M1 => .ok (!t) M1
  | .tru a, e, M => (evE C a e M).bind fun w M1 => withO (truW w M1) fun b => .ok b M1
  | .cmp op a b, e, M => (evE C a e M).bind fun x M1 => (evE C b e M1).bind fun y M2 => withO (cmpW op x y M2) fun t => .ok t M2
  | .isN a, e, M => (evE C a e M).bind fun x M1 => withO (isNW x M1) fun t => .ok t M1
  | .notN a, e, M => (evE C a e M).bind fun x M1 => withO (isNW x M1) fun t => .ok (!t) M1
  | .chain op op2 a b c, e, M => (evE C a e M).bind fun x M1 => (evE C b e M1).bind fun y M2 => withO (cmpW op x y M2) fun t => if t = true then (evE C c e M2).bind fun z M3 => withO (cmpW op2 y z M3) fun u => .ok u M3 else .ok false M2
  | .kin neg a i, e, M => (evE C a e M).bind fun x M1 => match x with
    | .d k => withO (kTab C.GD.gd i k) fun o => .ok (o.isSome != neg) M1
    | _ => .stuck
def evI (C : Cfg) : CI → Env → Store → Res Its
  | .ex a, e, M => (evE C a e M).bind fun w M1 => withO (itsW w M1) fun j => .ok j M1
  | .keys a, e, M => (evE C a e M).bind fun w M1 => match w with
    | .r n => withO (lkKeys M1 n) fun _ => .ok (.keys n) M1
    | _ => .stuck
  | .rng1 a, e, M => (evE C a e M).bind fun w M1 => match w with
    | .d (.int n) => must (-(2 ^ 62) ≤ n ∧ n < 2 ^ 62) (.ok (.items (range0 n)) M1)
    | _ => .stuck
  | .rng2 a b, e, M => (evE C a e M).bind fun w M1 => (evE C b e M1).bind fun u M2 => match w, u with
    | .d (.int i), .d (.int j) => must (okR i j) (.ok (.items (range2 i j)) M2)
    | _, _ => .stuck
  | .enum a, e, M => (evE C a e M).bind fun w M1 => match w with
    | .d (.list xs) => .ok (.items (enumD xs 0)) M1
    | .d (.tuple xs) => .ok (.items (enumD xs 0)) M1
    | .r n => withO (cellWs M1 n) fun _ => .ok (.cell true n) M1
    | _ => .stuck
  | .enumT a, e, M => (evE C a e M).bind fun w M1 => match w with
    | .d (.tuple xs) => .ok (.items (enumD xs 0)) M1
    | _ => .stuck
  | .zip a b, e, M => (evE C a e M).bind fun w M1 => (evE C b e M1).bind fun u M2 => match w, u with
    | .d (.list xs), .d (.list ys) => .ok (.items (zipD xs ys)) M2
    | .d (.tuple xs), .d (.tuple ys) => .ok (.items (zipD xs ys)) M2
    | _, _ => .stuck
end
def setAll : List Nat → List W → Env → Env
  | i :: is, w :: ws, e => setAll is ws (e.set i (some w))
  | _, _, e => e
mutual
def evS (C : Cfg) : CS → Env → Store → Res Fl
  | .set tg a, e, M => (evE C a e M).bind fun w M1 => withO (asgT tg w e) fun e1 => .ok (.nx e1) M1
  | .par ix es, e, M => (evEs C es e M).bind fun ws M1 => .ok (.nx (setAll ix ws e)) M1
  | .setI o i a, e, M => (evE C a e M).bind fun w M1 => (evE C o e M1).bind fun x M2 => (evE C i e M2).bind fun y M3 => withO (frzW w M3) fun p => (setW x y p.1 p.2).bind fun _ M4 => .ok (.nx e) M4
  | .expr a, e, M => (evE C a e M).bind fun _ M1 => .ok (.nx e) M1
  | .ret a, e, M => (evE C a e M).bind fun w M1 => .ok (.rt w) M1
  | .retN, _, M => .ok (.rt (.d .none)) M
  | .ifs c a b, e, M => (evB C c e M).bind fun t M1 => if t = true then evSs C a e M1 else evSs C b e M1
  | .forS tg it b, e, M => (evI C it e M).bind fun j M1 => forI C.F tg (evSs C b) j e M1
  | .whl c b, e, M => whileW (evB C c) (evSs C b) C.F e M
  | .pass, e, M => .ok (.nx e) M
  | .brk, e, M => .ok (.bk e) M
  | .cont, e, M => .ok (.ct e) M
  | .raise c es, e, M => (evEs C es e M).bind fun ws M1 => raiseX C.GD c ws M1
  | .tryS i c b s, e, M => tryX C.GD c e.length i (evSs C b e M) (evSs C s)
  | .lockS a s, e, M => withO ((oneOf (evE C a e M)).bind fun w => lockAt w M) fun p => (nox (evS C s e p.2)).bind fun f M1 => withO (unlockAt p.1 M1) fun M2 => .ok f M2
def evSs (C : Cfg) : CSs → Env → Store → Res Fl
  | .nil, e, M => .ok (.nx e) M
  | .cons a r, e, M => (evS C a e M).bind fun f M1 => match f with
    | .nx e1 => evSs C r e1 M1
    | f => .ok f M1
end

/-! ### defs -/
structure Fn where
  np : Nat
  ns : Nat
  ret : Md
  body : CSs
def leaveR (md : Md) (n k : Nat) (M : Store) : Res W := if k < n then .ok (.r k) (M.take n) else match md, M[k]? with
  | .F, _ => withO (frzW (.r k) M) fun p => .ok (.d p.1) (p.2.take n)
  | .M, some (.lst xs) => .ok (.r n) (M.take n ++ [.lst xs])
  | .M, some (.dK xs) => .ok (.r n) (M.take n ++ [.dK xs])
  | .M, some (.dT xs) => .ok (.r n) (M.take n ++ [.dT xs])
  | _, _ => .stuck
def leave (md : Md) (n : Nat) (f : Fl) (M : Store) : Res W := match md, f with
  | .N, .rt (.r k) => .ok (.r k) M
  | _, .rt (.d x) => .ok (.d x) (M.take n)
  | _, .rt (.g xs) => .ok (.g xs) (M.take n)
  | _, .nx _ => .ok (.d .none) (M.take n)
  | md, .rt (.r k) => leaveR md n k M
  | _, _ => .stuck
def startE (ns : Nat) (ws : List W) : Env := ws.map some ++ List.replicate (ns - ws.length) none
def callF (T : List Fn) (G : List D) (GD : Tabs) (F : Nat) : Nat → Nat → List W → Store → Res W
  | 0, _, _, _ => .stuck
  | k + 1, f, ws, M => match T[f]? with
    | none => .stuck
    | some fn => if ws.length = fn.np then (evSs ⟨callF T G GD F k, F, G, GD⟩ fn.body (startE fn.ns ws) M).bind fun fl M1 => leave fn.ret M.length fl M1 else .stuck
end Ev
set_option Elab.async false
set_option linter.all false
set_option maxRecDepth 100000
/-! EvB: what stands for what -/
namespace Ev
open PySem PySem.Spec PyProof.Rows L2

/-- what a cell names stands ahead of it -/
def Lw (n : Nat) (w : W) : Prop := (∀ k, w = .r k → k < n) ∧ ∀ e, w ≠ .x e
/-- the exception that is handled: where it stands, its class, its dict -/
class XA where
  xa : Option (Addr × Value × Option Addr)
def Dn (n : Nat) : Cell → Prop
  | .wl ws => ∀ w ∈ ws, Lw n w
  | .wK kvs => ∀ p ∈ kvs, Lw n p.2
  | _ => True
/-- what is there stays there, locked objects as they are -/
def Alive (H H' : Hp) : Prop := (∀ a, H a ≠ none → H' a ≠ none) ∧ ∀ a o u, H a = some (.frz o u) → H' a = some (.frz o u)
/-- a hidden object -/
def Pd (x : Option HO) : Prop := x ≠ none ∧ ∀ vs, x ≠ some (.tup vs)
/-- where the cells stand; what else no data may be -/
structure Mu where
  cs : List (Option Addr)
  pi : List Addr
def Mu.free (μ : Mu) (a : Addr) : Prop := some a ∉ μ.cs ∧ a ∉ μ.pi
/-- a tuple of the written part -/
def KTp (K : PySem.W.Frag) (a : Addr) (vs : List V) : Prop := ∃ (o : Obj) (its : Array Value) (n : Nat), K.lookup a = some o ∧ o.cls = .type "tuple" ∧ o.data = .seq its n ∧ its.size ≤ sizeLine ∧ Vals vs its.toList
mutual
/-- written data -/
inductive KD (K : PySem.W.Frag) : D → V → Prop where
  | non : KD K .none .non
  | bl (b : Bool) : KD K (.bool b) (.bl b)
  | int (i : Int) : KD K (.int i) (.int i)
  | str (x : Str) : KD K (.str x) (.str x)
  | tup {a : Addr} {vs : List V} {xs : List D} : KTp K a vs → KDs K xs vs → KD K (.tuple xs) (.ref a)
inductive KDs (K : PySem.W.Frag) : List D → List V → Prop where
  | nil : KDs K [] []
  | cons {x : D} {v : V} {xs : List D} {vs : List V} : KD K x v → KDs K xs vs → KDs K (x :: xs) (v :: vs)
end
/-- whether all tuples of the heap are known objects -/
class XT where
  kt : Bool
def tupO [XT] (o : Obj) (vs : List V) : HO := if XT.kt = true then .frz o (.tup vs) else .tup vs
/-- a tuple of the heap -/
def TupH [XT] (H : Hp) (a : Addr) (vs : List V) : Prop := ∃ o : Obj, o.cls = .type "tuple" ∧ o.dict = none ∧ H a = some (tupO o vs)
theorem TupH.rd [XT] {H : Hp} {a : Addr} {vs : List V} (h : TupH H a vs) : Rd H a (.tup vs) := by
  obtain ⟨o, _, _, h⟩ := h
  unfold tupO at h
  split at h
  · exact .inr ⟨o, h⟩
  · exact .inl h
theorem TupH.plain [XT] {H : Hp} {a : Addr} {vs : List V} (h : TupH H a vs) (k : XT.kt = false) : H a = some (.tup vs) := by
  obtain ⟨o, _, _, h⟩ := h
  unfold tupO at h
  rw [if_neg (by rw [k]; decide)] at h
  exact h
theorem TupH.known [XT] {H : Hp} {a : Addr} {vs : List V} (h : TupH H a vs) (k : XT.kt = true) : ∃ o : Obj, o.cls = .type "tuple" ∧ o.dict = none ∧ H a = some (.frz o (.tup vs)) := by
  obtain ⟨o, c, d, h⟩ := h
  unfold tupO at h
  rw [if_pos k] at h
  exact ⟨o, c, d, h⟩
theorem TupH.of [XT] {H : Hp} {a : Addr} {vs : List V} (h : H a = some (.tup vs)) (k : XT.kt = false) : TupH H a vs :=
  ⟨{ cls := .type "tuple", data := .cell none }, rfl, rfl, by unfold tupO; rw [if_neg (by rw [k]; decide)]; exact h⟩
variable [XT]
section
variable (K : PySem.W.Frag) (H : Hp) (μ : Mu)
mutual
inductive DR (K : PySem.W.Frag) (H : Hp) (μ : Mu) : D → V → Prop where
  | non : DR K H μ .none .non
  | bl (b : Bool) : DR K H μ (.bool b) (.bl b)
  | int (i : Int) : DR K H μ (.int i) (.int i)
  | str (x : Str) : DR K H μ (.str x) (.str x)
  | tup {a : Addr} {vs : List V} {xs : List D} : μ.free a → TupH H a vs → DRs K H μ xs vs → DR K H μ (.tuple xs) (.ref a)
  | lst {a : Addr} {vs : List V} {xs : List D} : μ.free a → H a = some (.lst vs) → DRs K H μ xs vs → DR K H μ (.list xs) (.ref a)
inductive DRs (K : PySem.W.Frag) (H : Hp) (μ : Mu) : List D → List V → Prop where
  | nil : DRs K H μ [] []
  | cons {x : D} {v : V} {xs : List D} {vs : List V} : DR K H μ x v → DRs K H μ xs vs → DRs K H μ (x :: xs) (v :: vs)
end
def KL (K : PySem.W.Frag) (a : Addr) (vs : List V) : Prop := ∃ (o : Obj) (its : Array Value) (n : Nat), K.lookup a = some o ∧ o.cls = .type "list" ∧ o.dict = none ∧ o.data = .seq its n ∧ its.size ≤ sizeLine ∧ Vals vs its.toList
/-- an exception's class and dict -/
def XR (e : Exn) (cls : Value) (d : Option Addr) : Prop := cls = .ref (He.ga K e.cls) ∧ ∃ dd kv, d = some dd ∧ μ.free dd ∧ H dd = some (.xd kv) ∧ ∀ f x, e.args.lookup f = some x → ∃ v, kv.lookup f = some v ∧ DR K H μ x v
end
variable [XA]
section
variable (K : PySem.W.Frag) (H : Hp) (μ : Mu)
def WR : W → V → Prop
  | .t xs, v => ∃ a vs o, v = .ref a ∧ μ.free a ∧ H a = some (.frz o (.tup vs)) ∧ o.cls = .type "tuple" ∧ o.dict = none ∧ DRs K H μ xs vs
  | .x e, v => ∃ a cls d, XA.xa = some (a, cls, d) ∧ v = .ref a ∧ XR K H μ e cls d
  | .d x, v => DR K H μ x v
  | .s xs, v => ∃ a vs, v = .ref a ∧ ((μ.free a ∧ Rd H a (.lst vs)) ∨ KL K a vs) ∧ DRs K H μ xs vs
  | .g xs, v => ∃ a vs, v = .ref a ∧ KTp K a vs ∧ KDs K xs vs
  | .r n, v => (∃ a, μ.cs[n]? = some (some a) ∧ v = .ref a) ∨ μ.cs[n]? = some none
inductive WRs : List W → List V → Prop where
  | nil : WRs [] []
  | cons {x : W} {v : V} {xs : List W} {vs : List V} : WR K H μ x v → WRs xs vs → WRs (x :: xs) (v :: vs)
inductive KRs {κ : Type} : List (κ × D) → List (κ × V) → Prop where
  | nil : KRs [] []
  | cons {k : κ} {x : D} {v : V} {xs : List (κ × D)} {vs : List (κ × V)} : DR K H μ x v → KRs xs vs → KRs ((k, x) :: xs) ((k, v) :: vs)
inductive KWs {κ : Type} : List (κ × W) → List (κ × V) → Prop where
  | nil : KWs [] []
  | cons {k : κ} {x : W} {v : V} {xs : List (κ × W)} {vs : List (κ × V)} : WR K H μ x v → KWs xs vs → KWs ((k, x) :: xs) ((k, v) :: vs)
/-- what a cell holds, in the heap's object -/
def OR : Cell → HO → Prop
  | .lst xs, .lst vs => DRs K H μ xs vs
  | .dK xs, .dK vs => KRs K H μ xs vs
  | .dT xs, .dT vs => XT.kt = false ∧ KRs K H μ xs vs
  | .wl xs, .lst vs => WRs K H μ xs vs
  | .wK xs, .dK vs => KWs K H μ xs vs
  | .lkK xs, .frz _ (.dK vs) => KRs K H μ xs vs
  | .lkT xs, .frz _ (.dT vs) => XT.kt = false ∧ KRs K H μ xs vs
  | _, _ => False
def CellR (c : Cell) (a : Addr) : Prop := ∃ o, H a = some o ∧ OR K H μ c o
structure StR (M : Store) : Prop where
  dn : ∀ (n : Nat) (c : Cell), M[n]? = some c → Dn n c
  len : μ.cs.length = M.length
  nd : ∀ (i j : Nat) (a : Addr), μ.cs[i]? = some (some a) → μ.cs[j]? = some (some a) → i = j
  cells : ∀ (n : Nat) (c : Cell) (a : Addr), M[n]? = some c → μ.cs[n]? = some (some a) → CellR K H μ c a
  pis : ∀ a ∈ μ.pi, Pd (H a)
  dis : ∀ (n : Nat) (a : Addr), μ.cs[n]? = some (some a) → a ∉ μ.pi
  deads : ∀ (n : Nat) (c : Cell), M[n]? = some c → μ.cs[n]? = some none → c = .dead
structure EnvR (e : Env) (σ : L2.St) : Prop where
  len : e.length = σ.length
  at_ : ∀ (i : Nat) (w : W), e[i]? = some (some w) → ∃ v, σ[i]? = some (some v) ∧ WR K H μ w v
end
/-- from one heap to a later one: what is not a cell stays, new cells are new, a cell may be let go -/
structure Wk (H : Hp) (μ : Mu) (H' : Hp) (μ' : Mu) : Prop where
  len : μ.cs.length ≤ μ'.cs.length
  pi : ∀ a ∈ μ.pi, a ∈ μ'.pi
  pif : ∀ a ∈ μ'.pi, a ∈ μ.pi ∨ H a = none
  get : ∀ (n : Nat) (a : Addr), μ.cs[n]? = some (some a) → μ'.cs[n]? = some (some a) ∨ μ'.cs[n]? = some none
  gone : ∀ (n : Nat), μ.cs[n]? = some none → μ'.cs[n]? = some none
  keepF : ∀ a o, H a = some o → μ.free a → H' a = some o
  fresh : ∀ (n : Nat) (a : Addr), μ'.cs[n]? = some (some a) → μ.cs[n]? = some (some a) ∨ H a = none
  live : Alive H H'
structure Stp (H : Hp) (μ : Mu) (H' : Hp) (μ' : Mu) : Prop where
  len : μ.cs.length ≤ μ'.cs.length
  pi : ∀ a ∈ μ.pi, a ∈ μ'.pi
  pif : ∀ a ∈ μ'.pi, a ∈ μ.pi ∨ H a = none
  get : ∀ (n : Nat) (a : Addr), μ.cs[n]? = some (some a) → μ'.cs[n]? = some (some a) ∨ μ'.cs[n]? = some none
  gone : ∀ (n : Nat), μ.cs[n]? = some none → μ'.cs[n]? = some none
  keep : ∀ a o, H a = some o → some a ∉ μ.cs → H' a = some o
  fresh : ∀ (n : Nat) (a : Addr), μ'.cs[n]? = some (some a) → μ.cs[n]? = some (some a) ∨ H a = none
  live : Alive H H'

section
variable {K : PySem.W.Frag} {H H' H'' : Hp} {μ μ' μ'' : Mu} {M M' : Store}
theorem mem_get {cs : List (Option Addr)} {a : Addr} (h : some a ∈ cs) : ∃ n : Nat, cs[n]? = some (some a) := by
  obtain ⟨n, hn, e⟩ := List.getElem_of_mem h
  exact ⟨n, by rw [List.getElem?_eq_getElem hn, e]⟩
theorem Stp.refl : Stp H μ H μ := ⟨Nat.le_refl _, fun _ h => h, fun _ h => .inl h, fun _ _ h => .inl h, fun _ h => h, fun _ _ h _ => h, fun _ _ h => .inl h, ⟨fun _ h => h, fun _ _ _ h => h⟩⟩
theorem Stp.wk (s : Stp H μ H' μ') : Wk H μ H' μ' := ⟨s.len, s.pi, s.pif, s.get, s.gone, fun a o h n => s.keep a o h n.1, s.fresh, s.live⟩
theorem Wk.notin (s : Wk H μ H' μ') {a : Addr} {o : HO} (h : some a ∉ μ.cs) (e : H a = some o) : some a ∉ μ'.cs := fun z => by
  obtain ⟨n, z⟩ := mem_get z
  rcases s.fresh n a z with q | q
  · exact h (List.mem_of_getElem? q)
  · rw [e] at q; cases q
theorem Wk.free (s : Wk H μ H' μ') {a : Addr} {o : HO} (h : μ.free a) (e : H a = some o) : μ'.free a := ⟨s.notin h.1 e, fun z => by
  rcases s.pif a z with q | q
  · exact h.2 q
  · rw [e] at q; cases q⟩
theorem Wk.trans (s : Wk H μ H' μ') (t : Wk H' μ' H'' μ'') : Wk H μ H'' μ'' where
  len := Nat.le_trans s.len t.len
  pi := fun a h => t.pi a (s.pi a h)
  pif := fun a h => by
    rcases t.pif a h with q | q
    · exact s.pif a q
    · cases e : H a with
      | none => exact .inr rfl
      | some o => exact absurd q (s.live.1 a (by rw [e]; exact fun z => by cases z))
  get := fun n a h => by
    rcases s.get n a h with q | q
    · exact t.get n a q
    · exact .inr (t.gone n q)
  gone := fun n h => t.gone n (s.gone n h)
  keepF := fun a o h n => t.keepF a o (s.keepF a o h n) (s.free n h)
  fresh := fun n a h => by
    rcases t.fresh n a h with q | q
    · exact s.fresh n a q
    · cases e : H a with
      | none => exact .inr rfl
      | some o => exact absurd q (s.live.1 a (by rw [e]; exact fun z => by cases z))
  live := ⟨fun a h => t.live.1 a (s.live.1 a h), fun a o u h => t.live.2 a o u (s.live.2 a o u h)⟩
theorem Wk.refl : Wk H μ H μ := ⟨Nat.le_refl _, fun _ h => h, fun _ h => .inl h, fun _ _ h => .inl h, fun _ h => h, fun _ _ h _ => h, fun _ _ h => .inl h, ⟨fun _ h => h, fun _ _ _ h => h⟩⟩
theorem Stp.notin (s : Stp H μ H' μ') {a : Addr} {o : HO} (h : some a ∉ μ.cs) (e : H a = some o) : some a ∉ μ'.cs := fun z => by
  obtain ⟨n, z⟩ := mem_get z
  rcases s.fresh n a z with q | q
  · exact h (List.mem_of_getElem? q)
  · rw [e] at q; cases q
theorem Stp.trans (s : Stp H μ H' μ') (t : Stp H' μ' H'' μ'') : Stp H μ H'' μ'' where
  len := Nat.le_trans s.len t.len
  pi := fun a h => t.pi a (s.pi a h)
  pif := fun a h => by
    rcases t.pif a h with q | q
    · exact s.pif a q
    · cases e : H a with
      | none => exact .inr rfl
      | some o => exact absurd q (s.live.1 a (by rw [e]; exact fun z => by cases z))
  get := fun n a h => by
    rcases s.get n a h with q | q
    · exact t.get n a q
    · exact .inr (t.gone n q)
  gone := fun n h => t.gone n (s.gone n h)
  keep := fun a o h n => t.keep a o (s.keep a o h n) (s.notin n h)
  fresh := fun n a h => by
    rcases t.fresh n a h with q | q
    · exact s.fresh n a q
    · cases e : H a with
      | none => exact .inr rfl
      | some o => exact absurd q (s.live.1 a (by rw [e]; exact fun z => by cases z))
  live := ⟨fun a h => t.live.1 a (s.live.1 a h), fun a o u h => t.live.2 a o u (s.live.2 a o u h)⟩
theorem Stp.free (s : Stp H μ H' μ') {a : Addr} {o : HO} (h : μ.free a) (e : H a = some o) : μ'.free a := ⟨s.notin h.1 e, fun z => by
  rcases s.pif a z with q | q
  · exact h.2 q
  · rw [e] at q; cases q⟩
/-- from one heap to another one, whatever is data there staying -/
def Keep (H : Hp) (μ : Mu) (H' : Hp) (μ' : Mu) : Prop := ∀ a o, μ.free a → H a = some o → μ'.free a ∧ H' a = some o
mutual
theorem DR.move (s : Keep H μ H' μ') : ∀ {x : D} {v : V}, DR K H μ x v → DR K H' μ' x v
  | _, _, .non => .non
  | _, _, .bl b => .bl b
  | _, _, .int i => .int i
  | _, _, .str x => .str x
  | _, _, .tup n ⟨o, c, d, h⟩ r => .tup (s _ _ n h).1 ⟨o, c, d, (s _ _ n h).2⟩ (DRs.move s r)
  | _, _, .lst n h r => .lst (s _ _ n h).1 (s _ _ n h).2 (DRs.move s r)
theorem DRs.move (s : Keep H μ H' μ') : ∀ {xs : List D} {vs : List V}, DRs K H μ xs vs → DRs K H' μ' xs vs
  | _, _, .nil => .nil
  | _, _, .cons h r => .cons (DR.move s h) (DRs.move s r)
end
theorem KRs.move {κ : Type} (s : Keep H μ H' μ') : ∀ {xs : List (κ × D)} {vs : List (κ × V)}, KRs K H μ xs vs → KRs K H' μ' xs vs
  | _, _, .nil => .nil
  | _, _, .cons h r => .cons (DR.move s h) (KRs.move s r)
/-- .. and the cells below b where they were, or let go -/
structure Mv (H : Hp) (μ : Mu) (H' : Hp) (μ' : Mu) (b : Nat) : Prop where
  keep : Keep H μ H' μ'
  get : ∀ (n : Nat) (a : Addr), n < b → μ.cs[n]? = some (some a) → μ'.cs[n]? = some (some a) ∨ μ'.cs[n]? = some none
  gone : ∀ (n : Nat), n < b → μ.cs[n]? = some none → μ'.cs[n]? = some none
theorem XR.keep (s : Keep H μ H' μ') {e : Exn} {v : V} (h : WR K H μ (.x e) v) : WR K H' μ' (.x e) v := by
  obtain ⟨a, cls, d, h1, h2, h3, dd, kv, h4, h5, h6, h7⟩ := h
  obtain ⟨f1, f2⟩ := s _ _ h5 h6
  refine ⟨a, cls, d, h1, h2, h3, dd, kv, h4, f1, f2, fun f x hx => ?_⟩
  obtain ⟨v, q1, q2⟩ := h7 f x hx
  exact ⟨v, q1, q2.move s⟩
theorem TR.keep (s : Keep H μ H' μ') {xs : List D} {v : V} (h : WR K H μ (.t xs) v) : WR K H' μ' (.t xs) v := by
  obtain ⟨a, vs, o, rfl, f, g, c, d, r⟩ := h
  obtain ⟨f1, g1⟩ := s _ _ f g
  exact ⟨a, vs, o, rfl, f1, g1, c, d, r.move s⟩
theorem WR.move {b : Nat} (s : Mv H μ H' μ' b) {w : W} {v : V} (h : WR K H μ w v) (hb : ∀ k, w = .r k → k < b) : WR K H' μ' w v := by
  cases w with
  | d x => exact DR.move s.keep h
  | s xs =>
    obtain ⟨a, vs, rfl, h | h, r⟩ := h
    · refine ⟨a, vs, rfl, .inl ?_, r.move s.keep⟩
      rcases h.2 with q | ⟨o, q⟩
      · exact ⟨(s.keep _ _ h.1 q).1, .inl (s.keep _ _ h.1 q).2⟩
      · exact ⟨(s.keep _ _ h.1 q).1, .inr ⟨o, (s.keep _ _ h.1 q).2⟩⟩
    · exact ⟨a, vs, rfl, .inr h, r.move s.keep⟩
  | g xs => exact h
  | r n =>
    have hn := hb n rfl
    rcases h with ⟨a, e, rfl⟩ | e
    · rcases s.get n a hn e with q | q
      · exact .inl ⟨a, q, rfl⟩
      · exact .inr q
    · exact .inr (s.gone n hn e)
  | x e => exact XR.keep s.keep h
  | t xs => exact TR.keep s.keep h
theorem WRs.move {b : Nat} (s : Mv H μ H' μ' b) : ∀ {ws : List W} {vs : List V}, WRs K H μ ws vs → (∀ w ∈ ws, Lw b w) → WRs K H' μ' ws vs
  | _, _, .nil, _ => .nil
  | _, _, .cons h r, hb => .cons (h.move s (hb _ List.mem_cons_self).1) (WRs.move s r fun w hw => hb w (List.mem_cons_of_mem _ hw))
theorem KWs.move {κ : Type} {b : Nat} (s : Mv H μ H' μ' b) : ∀ {xs : List (κ × W)} {vs : List (κ × V)}, KWs K H μ xs vs → (∀ p ∈ xs, Lw b p.2) → KWs K H' μ' xs vs
  | _, _, .nil, _ => .nil
  | _, _, .cons h r, hb => .cons (h.move s (hb _ List.mem_cons_self).1) (KWs.move s r fun w hw => hb w (List.mem_cons_of_mem _ hw))
theorem OR.move {b : Nat} (s : Mv H μ H' μ' b) {c : Cell} {o : HO} (h : OR K H μ c o) (hb : Dn b c) : OR K H' μ' c o := by
  cases c <;> cases o <;> first
    | exact DRs.move s.keep h
    | exact KRs.move s.keep h
    | exact ⟨h.1, KRs.move s.keep h.2⟩
    | exact WRs.move s h hb
    | exact KWs.move s h hb
    | exact h
    | (rename_i u; cases u <;> first | exact KRs.move s.keep h | exact ⟨h.1, KRs.move s.keep h.2⟩ | exact h)
theorem Dn.mono {a b : Nat} {c : Cell} (h : Dn a c) (hab : a ≤ b) : Dn b c := by
  cases c <;> first
    | exact fun w hw => ⟨fun k e => Nat.lt_of_lt_of_le ((h w hw).1 k e) hab, (h w hw).2⟩
    | trivial
theorem Wk.keep (s : Wk H μ H' μ') : Keep H μ H' μ' := fun a o n h => ⟨s.free n h, s.keepF a o h n⟩
theorem DR.wk (s : Wk H μ H' μ') {x : D} {v : V} (h : DR K H μ x v) : DR K H' μ' x v := h.move s.keep
theorem DRs.wk (s : Wk H μ H' μ') {xs : List D} {vs : List V} (h : DRs K H μ xs vs) : DRs K H' μ' xs vs := h.move s.keep
theorem DR.stp (s : Stp H μ H' μ') {x : D} {v : V} (h : DR K H μ x v) : DR K H' μ' x v := DR.wk s.wk h
theorem DRs.stp (s : Stp H μ H' μ') {xs : List D} {vs : List V} (h : DRs K H μ xs vs) : DRs K H' μ' xs vs := DRs.wk s.wk h
theorem Rd.wk (s : Wk H μ H' μ') {a : Addr} {vs : List V} (n : μ.free a) (h : Rd H a (.lst vs)) : μ'.free a ∧ Rd H' a (.lst vs) := by
  rcases h with h | ⟨o, h⟩
  · exact ⟨s.free n h, .inl (s.keepF _ _ h n)⟩
  · exact ⟨s.free n h, .inr ⟨o, s.keepF _ _ h n⟩⟩
theorem WR.wk (s : Wk H μ H' μ') {w : W} {v : V} (h : WR K H μ w v) : WR K H' μ' w v := by
  cases w with
  | d x => exact DR.wk s h
  | s xs =>
    obtain ⟨a, vs, rfl, h | h, r⟩ := h
    · exact ⟨a, vs, rfl, .inl (Rd.wk s h.1 h.2), r.wk s⟩
    · exact ⟨a, vs, rfl, .inr h, r.wk s⟩
  | g xs => exact h
  | r n =>
    rcases h with ⟨a, e, rfl⟩ | e
    · rcases s.get n a e with q | q
      · exact .inl ⟨a, q, rfl⟩
      · exact .inr q
    · exact .inr (s.gone n e)
  | x e => exact XR.keep s.keep h
  | t xs => exact TR.keep s.keep h
theorem WR.stp (s : Stp H μ H' μ') {w : W} {v : V} (h : WR K H μ w v) : WR K H' μ' w v := WR.wk s.wk h
theorem WRs.stp (s : Stp H μ H' μ') {ws : List W} {vs : List V} (h : WRs K H μ ws vs) : WRs K H' μ' ws vs := by
  induction h with
  | nil => exact .nil
  | cons h _ ih => exact .cons (h.stp s) ih
theorem EnvR.stp (s : Stp H μ H' μ') {e : Env} {σ : L2.St} (h : EnvR K H μ e σ) : EnvR K H' μ' e σ :=
  ⟨h.len, fun i w q => let ⟨v, h1, h2⟩ := h.at_ i w q; ⟨v, h1, h2.stp s⟩⟩
theorem KRs.wk {κ : Type} (s : Wk H μ H' μ') {xs : List (κ × D)} {vs : List (κ × V)} (h : KRs K H μ xs vs) : KRs K H' μ' xs vs := h.move s.keep
theorem Wk.mv (s : Wk H μ H' μ') (b : Nat) : Mv H μ H' μ' b := ⟨s.keep, fun n a _ h => s.get n a h, fun n _ h => s.gone n h⟩
theorem WRs.wk (s : Wk H μ H' μ') {ws : List W} {vs : List V} (h : WRs K H μ ws vs) : WRs K H' μ' ws vs := by
  induction h with
  | nil => exact .nil
  | cons h _ ih => exact .cons (h.wk s) ih
theorem KWs.wk {κ : Type} (s : Wk H μ H' μ') {xs : List (κ × W)} {vs : List (κ × V)} (h : KWs K H μ xs vs) : KWs K H' μ' xs vs := by
  induction h with
  | nil => exact .nil
  | cons h _ ih => exact .cons (h.wk s) ih
theorem OR.stp (s : Stp H μ H' μ') {c : Cell} {o : HO} (h : OR K H μ c o) : OR K H' μ' c o := by
  cases c <;> cases o <;> first
    | exact DRs.wk s.wk h
    | exact KRs.wk s.wk h
    | exact ⟨h.1, KRs.wk s.wk h.2⟩
    | exact WRs.wk s.wk h
    | exact KWs.wk s.wk h
    | exact h
    | (rename_i u; cases u <;> first | exact KRs.wk s.wk h | exact ⟨h.1, KRs.wk s.wk h.2⟩ | exact h)
theorem DRs.length {xs : List D} {vs : List V} : DRs K H μ xs vs → xs.length = vs.length
  | .nil => rfl
  | .cons _ r => by simp [DRs.length r]
theorem WRs.length {xs : List W} {vs : List V} : WRs K H μ xs vs → xs.length = vs.length
  | .nil => rfl
  | .cons _ r => by simp [WRs.length r]
theorem DRs.get : ∀ {xs : List D} {vs : List V}, DRs K H μ xs vs → ∀ {i : Nat} {x : D}, xs[i]? = some x → ∃ v, vs[i]? = some v ∧ DR K H μ x v
  | _, _, .nil, i, x, e => by simp at e
  | _, _, .cons h r, 0, x, e => by
    simp at e; subst e; exact ⟨_, rfl, h⟩
  | _, _, .cons h r, i + 1, x, e => by
    obtain ⟨v, h1, h2⟩ := DRs.get r (i := i) (x := x) (by simpa using e)
    exact ⟨v, by simpa using h1, h2⟩
theorem DRs.append : ∀ {xs ys : List D} {vs us : List V}, DRs K H μ xs vs → DRs K H μ ys us → DRs K H μ (xs ++ ys) (vs ++ us)
  | _, _, _, _, .nil, s => s
  | _, _, _, _, .cons h r, s => .cons h (DRs.append r s)
theorem DRs.take : ∀ {xs : List D} {vs : List V} (n : Nat), DRs K H μ xs vs → DRs K H μ (xs.take n) (vs.take n)
  | _, _, 0, _ => .nil
  | _, _, _ + 1, .nil => .nil
  | _, _, n + 1, .cons h r => .cons h (DRs.take n r)
theorem DRs.drop : ∀ {xs : List D} {vs : List V} (n : Nat), DRs K H μ xs vs → DRs K H μ (xs.drop n) (vs.drop n)
  | _, _, 0, r => r
  | _, _, _ + 1, .nil => .nil
  | _, _, n + 1, .cons _ r => DRs.drop n r
theorem DRs.set : ∀ {xs : List D} {vs : List V} (i : Nat) {x : D} {v : V}, DR K H μ x v → DRs K H μ xs vs → DRs K H μ (xs.set i x) (vs.set i v)
  | _, _, _, _, _, _, .nil => .nil
  | _, _, 0, _, _, q, .cons _ r => .cons q r
  | _, _, i + 1, _, _, q, .cons h r => .cons h (DRs.set i q r)
theorem DRs.eraseIdx : ∀ {xs : List D} {vs : List V} (i : Nat), DRs K H μ xs vs → DRs K H μ (xs.eraseIdx i) (vs.eraseIdx i)
  | _, _, _, .nil => .nil
  | _, _, 0, .cons _ r => r
  | _, _, i + 1, .cons h r => .cons h (DRs.eraseIdx i r)
theorem DRs.dropLast : ∀ {xs : List D} {vs : List V}, DRs K H μ xs vs → DRs K H μ xs.dropLast vs.dropLast
  | _, _, .nil => .nil
  | _, _, .cons h .nil => .nil
  | _, _, .cons h (.cons h2 r) => .cons h (DRs.dropLast (.cons h2 r))
theorem DRs.flat : ∀ (n : Nat) {xs : List D} {vs : List V}, DRs K H μ xs vs → DRs K H μ (List.replicate n xs).flatten (List.replicate n vs).flatten
  | 0, _, _, _ => .nil
  | n + 1, _, _, r => by
    rw [List.replicate_succ, List.replicate_succ, List.flatten_cons, List.flatten_cons]
    exact r.append (DRs.flat n r)
theorem DRs.ints (ns : List Int) : DRs K H μ (ns.map .int) (ns.map V.int) := by
  induction ns with
  | nil => exact .nil
  | cons i r ih => exact .cons (.int i) ih
theorem DR.sqT {xs : List D} {v : V} (h : DR K H μ (.tuple xs) v) : ∃ a vs, v = .ref a ∧ SqT K H a vs ∧ DRs K H μ xs vs := by
  cases h with
  | tup n h r => exact ⟨_, _, rfl, .inl h.rd, r⟩
theorem DR.rdL {xs : List D} {v : V} (h : DR K H μ (.list xs) v) : ∃ a vs, v = .ref a ∧ Rd H a (.lst vs) ∧ DRs K H μ xs vs := by
  cases h with
  | lst n h r => exact ⟨_, _, rfl, .inl h, r⟩
theorem StR.cell (S : StR K H μ M) {n : Nat} {xs : List D} {v : V} (h : cellLst M n = some xs) (w : WR K H μ (.r n) v) : ∃ a vs, μ.cs[n]? = some (some a) ∧ v = .ref a ∧ H a = some (.lst vs) ∧ DRs K H μ xs vs := by
  unfold cellLst at h
  split at h
  · rename_i ys hc
    cases h
    rcases w with ⟨a, e, rfl⟩ | e
    · obtain ⟨o, h1, h2⟩ := S.cells n _ a hc e
      cases o <;> first | exact h2.elim | skip
      exact ⟨a, _, e, rfl, h1, h2⟩
    · cases S.deads n _ hc e
  · cases h
theorem lstOf_rd (S : StR K H μ M) {w : W} {v : V} {xs : List D} (h : lstOf w M = some xs) (r : WR K H μ w v) : ∃ a vs, v = .ref a ∧ Rd H a (.lst vs) ∧ DRs K H μ xs vs := by
  unfold lstOf at h
  split at h
  · cases h; exact DR.rdL r
  · obtain ⟨a, vs, _, e, h1, h2⟩ := S.cell h r
    exact ⟨a, vs, e, .inl h1, h2⟩
  · cases h
theorem KD.dr {x : D} {v : V} (hf : flatD x = true) (h : KD K x v) : DR K H μ x v := by
  cases h with
  | non => exact .non
  | bl b => exact .bl b
  | int i => exact .int i
  | str x => exact .str x
  | tup _ _ => cases hf
theorem KDs.dr : ∀ {xs : List D} {vs : List V}, xs.all flatD = true → KDs K xs vs → DRs K H μ xs vs
  | _, _, _, .nil => .nil
  | _, _, hf, .cons h r => by
    rw [List.all_cons, Bool.and_eq_true] at hf
    exact .cons (h.dr hf.1) (KDs.dr hf.2 r)
theorem KD.gw {x : D} {v : V} (h : KD K x v) : WR K H μ (gW x) v := by
  cases h with
  | non => exact DR.non
  | bl b => exact DR.bl b
  | int i => exact DR.int i
  | str x => exact DR.str x
  | tup q r => exact ⟨_, _, rfl, q, r⟩
theorem KDs.get : ∀ {xs : List D} {vs : List V}, KDs K xs vs → ∀ {i : Nat} {x : D}, xs[i]? = some x → ∃ v, vs[i]? = some v ∧ KD K x v
  | _, _, .nil, i, x, e => by simp at e
  | _, _, .cons h r, 0, x, e => by
    simp at e; subst e; exact ⟨_, rfl, h⟩
  | _, _, .cons h r, i + 1, x, e => by
    obtain ⟨v, h1, h2⟩ := KDs.get r (i := i) (x := x) (by simpa using e)
    exact ⟨v, by simpa using h1, h2⟩
theorem KDs.length : ∀ {xs : List D} {vs : List V}, KDs K xs vs → xs.length = vs.length
  | _, _, .nil => rfl
  | _, _, .cons _ r => by simp [KDs.length r]
theorem seqOf_sq (S : StR K H μ M) {w : W} {v : V} {xs : List D} (h : seqOf w M = some xs) (r : WR K H μ w v) : ∃ a vs, v = .ref a ∧ (SqL K H a vs ∨ SqT K H a vs) ∧ DRs K H μ xs vs := by
  unfold seqOf at h
  split at h
  · cases h
    obtain ⟨a, vs, e, q, z⟩ := DR.sqT r
    exact ⟨a, vs, e, .inr q, z⟩
  · cases h
    obtain ⟨a, vs, rfl, q | q, z⟩ := r
    · exact ⟨a, vs, rfl, .inl (.inl q.2), z⟩
    · exact ⟨a, vs, rfl, .inl (.inr q), z⟩
  · split at h
    · rename_i hf
      cases h
      obtain ⟨a, vs, rfl, q, z⟩ := r
      exact ⟨a, vs, rfl, .inr (.inr q), KDs.dr hf z⟩
    · cases h
  · obtain ⟨a, vs, e, q, z⟩ := lstOf_rd S h r
    exact ⟨a, vs, e, .inl (.inl q), z⟩
mutual
theorem DR.dp : ∀ {x : D} {v : V}, DR K H μ x v → Dp K H v x
  | _, _, .non => .non
  | _, _, .bl b => .bl b
  | _, _, .int i => .int i
  | _, _, .str x => .str x
  | _, _, .tup n h r => .tup (.inl h.rd) (DRs.dp r)
  | _, _, .lst n h r => .lst (.inl (.inl h)) (DRs.dp r)
theorem DRs.dp : ∀ {xs : List D} {vs : List V}, DRs K H μ xs vs → DpAll K H vs xs
  | _, _, .nil => .nil
  | _, _, .cons h r => .cons (DR.dp h) (DRs.dp r)
end
theorem datOf_dp (S : StR K H μ M) {w : W} {v : V} {x : D} (h : datOf w M = some x) (r : WR K H μ w v) : Dp K H v x := by
  unfold datOf at h
  split at h
  · cases h; exact DR.dp r
  · rename_i n
    cases q : cellLst M n with
    | none => rw [q] at h; cases h
    | some xs =>
      rw [q] at h; cases h
      obtain ⟨a, vs, _, e, h1, h2⟩ := S.cell q r
      rw [e]
      exact .lst (.inl (.inl h1)) h2.dp
  · cases h

/-! ### steps of the heap -/
theorem StR.there (S : StR K H μ M) {n : Nat} {a : Addr} (e : μ.cs[n]? = some (some a)) : ∃ o, H a = some o := by
  have hn : n < M.length := by rw [← S.len]; exact (List.getElem?_eq_some_iff.mp e).1
  obtain ⟨o, h1, _⟩ := S.cells n M[n] a (List.getElem?_eq_getElem hn) e
  exact ⟨o, h1⟩
theorem StR.notin (S : StR K H μ M) {p : Addr} (h : H p = none) : some p ∉ μ.cs := fun z => by
  obtain ⟨n, e⟩ := mem_get z
  obtain ⟨o, q⟩ := S.there e
  rw [h] at q; cases q
theorem StR.free (S : StR K H μ M) {p : Addr} (h : H p = none) : μ.free p := ⟨S.notin h, fun z => (S.pis p z).1 h⟩
theorem CellR.stp (s : Stp H μ H' μ') {c : Cell} {a : Addr} (h : CellR K H μ c a) (e : H' a = H a) : CellR K H' μ' c a := by
  obtain ⟨o, h1, h2⟩ := h
  exact ⟨o, e.trans h1, h2.stp s⟩
theorem live_upd {p : Addr} {o : HO} (hn : ∀ o' u, H p ≠ some (.frz o' u)) : Alive H (upd H p o) := ⟨fun a h => by
  by_cases e : a = p
  · subst e; rw [upd_same]; exact fun z => by cases z
  · rw [upd_ne e]; exact h, fun a o' u h => by
  have e : a ≠ p := fun z => by subst z; exact hn _ _ h
  rw [upd_ne e]; exact h⟩
theorem nofrz_none {p : Addr} (h : H p = none) : ∀ o' u, H p ≠ some (.frz o' u) := fun _ _ z => by rw [h] at z; cases z
theorem pd_none {p a : Addr} {o : HO} (hp : H p = none) (h : Pd (H a)) : Pd ((upd H p o) a) := by
  have e : a ≠ p := fun z => by subst z; exact h.1 hp
  rw [upd_ne e]; exact h
def NoTup (o : HO) : Prop := ∀ vs, o ≠ .tup vs
theorem pd_upd {p a : Addr} {o : HO} (ho : NoTup o) (h : Pd (H a)) : Pd ((upd H p o) a) := by
  by_cases e : a = p
  · subst e; rw [upd_same]; exact ⟨fun z => (by cases z), fun vs z => ho vs (Option.some.inj z)⟩
  · rw [upd_ne e]; exact h
/-- a new object that is no cell -/
theorem stp_new (S : StR K H μ M) {p : Addr} {o : HO} (hp : H p = none) : Stp H μ (upd H p o) μ ∧ StR K (upd H p o) μ M := by
  have s : Stp H μ (upd H p o) μ := ⟨Nat.le_refl _, fun _ h => h, fun _ h => .inl h, fun _ _ h => .inl h, fun _ h => h, fun a o' h _ => by rw [upd_ne (ne_of_none h hp)]; exact h, fun _ _ h => .inl h, live_upd (nofrz_none hp)⟩
  refine ⟨s, S.dn, S.len, S.nd, fun n c a h1 h2 => (S.cells n c a h1 h2).stp s (upd_ne fun z => ?_), fun a h => pd_none hp (S.pis a h), S.dis, S.deads⟩
  subst z
  exact S.notin hp (List.mem_of_getElem? h2)
/-- a new cell -/
theorem dn_snoc (S : StR K H μ M) {c : Cell} (hc : Dn M.length c) : ∀ (n : Nat) (x : Cell), (M ++ [c])[n]? = some x → Dn n x := fun n x h => by
  by_cases hn : n < M.length
  · rw [List.getElem?_append_left hn] at h; exact S.dn n x h
  · have h2 := (List.getElem?_eq_some_iff.mp h).1
    have hn2 : n = M.length := by simp at h2; omega
    subst hn2
    simp at h
    subst h
    exact hc
theorem stp_cell (S : StR K H μ M) {p : Addr} {c : Cell} {o : HO} (hp : H p = none) (r : OR K H μ c o) (hc : Dn M.length c) : Stp H μ (upd H p o) ⟨μ.cs ++ [some p], μ.pi⟩ ∧ StR K (upd H p o) ⟨μ.cs ++ [some p], μ.pi⟩ (M ++ [c]) ∧ WR K (upd H p o) ⟨μ.cs ++ [some p], μ.pi⟩ (.r M.length) (.ref p) := by
  have e1 : (μ.cs ++ [some p])[M.length]? = some (some p) := by rw [← S.len]; simp
  have lo : ∀ (n : Nat) (x : Option Addr), μ.cs[n]? = some x → (μ.cs ++ [some p])[n]? = some x := fun n x h => by
    rw [List.getElem?_append_left (List.getElem?_eq_some_iff.mp h).1]; exact h
  have hi : ∀ (n : Nat) (x : Option Addr), (μ.cs ++ [some p])[n]? = some x → μ.cs[n]? = some x ∨ (n = M.length ∧ x = some p) := fun n x h => by
    by_cases hn : n < μ.cs.length
    · rw [List.getElem?_append_left hn] at h; exact .inl h
    · have h2 := (List.getElem?_eq_some_iff.mp h).1
      have hn2 : n = M.length := by rw [← S.len]; simp at h2; omega
      subst hn2
      rw [e1] at h; cases h; exact .inr ⟨rfl, rfl⟩
  have s : Stp H μ (upd H p o) ⟨μ.cs ++ [some p], μ.pi⟩ := ⟨by simp, fun _ h => h, fun _ h => .inl h, fun n a h => .inl (lo n _ h), fun n h => lo n _ h, fun a o' h _ => by rw [upd_ne (ne_of_none h hp)]; exact h, fun n a h => by
    rcases hi n _ h with q | ⟨_, q⟩
    · exact .inl q
    · cases q; exact .inr hp, live_upd (nofrz_none hp)⟩
  refine ⟨s, ⟨dn_snoc S hc, by simp [S.len], fun i j a h1 h2 => ?_, fun n c a h1 h2 => ?_, fun a h => pd_none hp (S.pis a h), fun n a h => ?_, fun n c h1 h2 => ?_⟩, .inl ⟨p, e1, rfl⟩⟩
  · rcases hi i _ h1 with q1 | ⟨q1, z1⟩ <;> rcases hi j _ h2 with q2 | ⟨q2, z2⟩
    · exact S.nd i j a q1 q2
    · cases z2; exact absurd (List.mem_of_getElem? q1) (S.notin hp)
    · cases z1; exact absurd (List.mem_of_getElem? q2) (S.notin hp)
    · rw [q1, q2]
  · rcases hi n _ h2 with q | ⟨q, z⟩
    · have hn : n < M.length := by rw [← S.len]; exact (List.getElem?_eq_some_iff.mp q).1
      rw [List.getElem?_append_left hn] at h1
      refine (S.cells n c a h1 q).stp s (upd_ne fun z => ?_)
      subst z
      exact S.notin hp (List.mem_of_getElem? q)
    · subst q; cases z
      simp at h1
      subst h1
      exact ⟨o, upd_same, r.stp s⟩
  · rcases hi n _ h with q | ⟨_, q⟩
    · exact S.dis n a q
    · cases q; exact fun z => (S.pis _ z).1 hp
  · rcases hi n _ h2 with q | ⟨q, z⟩
    · have hn : n < M.length := by rw [← S.len]; exact (List.getElem?_eq_some_iff.mp q).1
      rw [List.getElem?_append_left hn] at h1
      exact S.deads n c h1 q
    · cases z
/-- a cell written -/
theorem dn_set (S : StR K H μ M) {n : Nat} {c : Cell} (hc : Dn n c) : ∀ (m : Nat) (x : Cell), (M.set n c)[m]? = some x → Dn m x := fun m x h => by
  by_cases e : m = n
  · subst e
    rw [List.getElem?_set_self'] at h
    cases q : M[m]? with
    | none => rw [q] at h; simp at h
    | some c' => rw [q] at h; simp at h; subst h; exact hc
  · rw [List.getElem?_set_ne (Ne.symm e)] at h
    exact S.dn m x h
theorem stp_set (S : StR K H μ M) {n : Nat} {a : Addr} {c : Cell} {o o1 : HO} (ho : H a = some o) (ha : μ.cs[n]? = some (some a)) (r : OR K H μ c o1) (hc : Dn n c := by trivial) (hf : ∀ o' u, o ≠ .frz o' u := by intro _ _ z; cases z) :
    Stp H μ (upd H a o1) μ ∧ StR K (upd H a o1) μ (M.set n c) := by
  have hm : some a ∈ μ.cs := List.mem_of_getElem? ha
  have s : Stp H μ (upd H a o1) μ := ⟨Nat.le_refl _, fun _ h => h, fun _ h => .inl h, fun _ _ h => .inl h, fun _ h => h, fun b o' h nb => by
    rw [upd_ne (fun z : b = a => nb (by rw [z]; exact hm))]; exact h, fun _ _ h => .inl h, live_upd fun o' u z => hf o' u (Option.some.inj (ho.symm.trans z))⟩
  refine ⟨s, dn_set S hc, by simp [S.len], S.nd, fun m c2 b h1 h2 => ?_, fun b h => by rw [upd_ne (fun z : b = a => S.dis n a ha (by rw [← z]; exact h))]; exact S.pis b h, S.dis, fun m c2 h1 h2 => ?_⟩
  · by_cases e : m = n
    · subst e
      rw [ha] at h2; cases h2
      rw [List.getElem?_set_self'] at h1
      cases q : M[m]? with
      | none => rw [q] at h1; simp at h1
      | some c' =>
        rw [q] at h1; simp at h1; subst h1
        exact ⟨o1, upd_same, r.stp s⟩
    · rw [List.getElem?_set_ne (Ne.symm e)] at h1
      refine (S.cells m c2 b h1 h2).stp s (upd_ne fun z => ?_)
      subst z
      exact e (S.nd m n b h2 ha)
  · by_cases e : m = n
    · subst e; rw [ha] at h2; cases h2
    · rw [List.getElem?_set_ne (Ne.symm e)] at h1
      exact S.deads m c2 h1 h2
/-- a list's cell is let go -/
theorem stp_kill (S : StR K H μ M) {n : Nat} {a : Addr} (ha : μ.cs[n]? = some (some a)) :
    Stp H μ H ⟨μ.cs.set n none, μ.pi⟩ ∧ StR K H ⟨μ.cs.set n none, μ.pi⟩ (M.set n .dead) ∧ (Mu.mk (μ.cs.set n none) μ.pi).free a := by
  have hl : n < μ.cs.length := (List.getElem?_eq_some_iff.mp ha).1
  have at_ : ∀ (m : Nat) (x : Option Addr), m ≠ n → ((μ.cs.set n none)[m]? = some x ↔ μ.cs[m]? = some x) := fun m x h => by rw [List.getElem?_set_ne (Ne.symm h)]
  have eq_ : (μ.cs.set n none)[n]? = some none := List.getElem?_set_self hl
  have s : Stp H μ H ⟨μ.cs.set n none, μ.pi⟩ := ⟨by simp, fun _ h => h, fun _ h => .inl h, fun m b h => by
    by_cases e : m = n
    · subst e; exact .inr eq_
    · exact .inl ((at_ m _ e).mpr h), fun m h => by
    by_cases e : m = n
    · subst e; exact eq_
    · exact (at_ m _ e).mpr h, fun _ _ h _ => h, fun m b h => by
    by_cases e : m = n
    · subst e; rw [eq_] at h; cases h
    · exact .inl ((at_ m _ e).mp h), ⟨fun _ h => h, fun _ _ _ h => h⟩⟩
  refine ⟨s, ⟨dn_set S trivial, by simp [S.len], fun i j b h1 h2 => ?_, fun m c b h1 h2 => ?_, S.pis, fun m b h => ?_, fun m c h1 h2 => ?_⟩, ?_⟩
  · have ni : i ≠ n := fun z => by subst z; rw [eq_] at h1; cases h1
    have nj : j ≠ n := fun z => by subst z; rw [eq_] at h2; cases h2
    exact S.nd i j b ((at_ i _ ni).mp h1) ((at_ j _ nj).mp h2)
  · have nm : m ≠ n := fun z => by subst z; rw [eq_] at h2; cases h2
    rw [List.getElem?_set_ne (Ne.symm nm)] at h1
    exact (S.cells m c b h1 ((at_ m _ nm).mp h2)).stp s rfl
  · have nm : m ≠ n := fun z => by subst z; rw [eq_] at h; cases h
    exact S.dis m b ((at_ m _ nm).mp h)
  · by_cases e : m = n
    · subst e
      rw [List.getElem?_set_self'] at h1
      cases q : M[m]? with
      | none => rw [q] at h1; simp at h1
      | some c' => rw [q] at h1; simp at h1; exact h1.symm
    · rw [List.getElem?_set_ne (Ne.symm e)] at h1
      exact S.deads m c h1 ((at_ m _ e).mp h2)
  · refine ⟨fun z => ?_, S.dis n a ha⟩
    obtain ⟨m, z⟩ := mem_get z
    have nm : m ≠ n := fun q => by subst q; rw [eq_] at z; cases z
    exact nm (S.nd m n a ((at_ m _ nm).mp z) ha)
/-- a list's cell is let go: what it held is data from now on -/
theorem stp_free (S : StR K H μ M) {n : Nat} {a : Addr} {vs : List V} {xs : List D} (ho : H a = some (.lst vs)) (ha : μ.cs[n]? = some (some a)) (r : DRs K H μ xs vs) :
    Stp H μ H ⟨μ.cs.set n none, μ.pi⟩ ∧ StR K H ⟨μ.cs.set n none, μ.pi⟩ (M.set n .dead) ∧ DR K H ⟨μ.cs.set n none, μ.pi⟩ (.list xs) (.ref a) := by
  obtain ⟨s, S', hf⟩ := stp_kill S ha
  exact ⟨s, S', .lst hf ho (r.stp s)⟩

/-! ### letting go of later cells -/
theorem take_get {cs : List (Option Addr)} {n m : Nat} {x : Option Addr} (h : (cs.take n)[m]? = some x) : m < n ∧ cs[m]? = some x := by
  rw [List.getElem?_take] at h
  split at h
  · exact ⟨by assumption, h⟩
  · cases h
def Mu.cut (μ : Mu) (n : Nat) (pi : List Addr) : Mu := ⟨μ.cs.take n, pi⟩
theorem Mu.free_cut {n : Nat} {pi : List Addr} (hp : ∀ a ∈ pi, a ∈ μ.pi) {a : Addr} (h : μ.free a) : (μ.cut n pi).free a :=
  ⟨fun z => h.1 (List.mem_of_mem_take z), fun z => h.2 (hp a z)⟩
theorem Mu.keep_cut {n : Nat} {pi : List Addr} (hp : ∀ a ∈ pi, a ∈ μ.pi) : Keep H μ H (μ.cut n pi) := fun _ _ n h => ⟨Mu.free_cut hp n, h⟩
theorem DR.cut {n : Nat} {pi : List Addr} (hp : ∀ a ∈ pi, a ∈ μ.pi) {x : D} {v : V} (h : DR K H μ x v) : DR K H (μ.cut n pi) x v := h.move (Mu.keep_cut hp)
theorem DRs.cut {n : Nat} {pi : List Addr} (hp : ∀ a ∈ pi, a ∈ μ.pi) {xs : List D} {vs : List V} (h : DRs K H μ xs vs) : DRs K H (μ.cut n pi) xs vs := h.move (Mu.keep_cut hp)
theorem DRs.refree {ν : Mu} (hf : ∀ a, μ.free a → ν.free a) {xs : List D} {vs : List V} (h : DRs K H μ xs vs) : DRs K H ν xs vs := h.move fun a _ n e => ⟨hf a n, e⟩
theorem Mu.mv_cut {n : Nat} {pi : List Addr} (hp : ∀ a ∈ pi, a ∈ μ.pi) : Mv H μ H (μ.cut n pi) n := ⟨Mu.keep_cut hp, fun m a hm h => .inl (by
    show (μ.cs.take n)[m]? = _
    rw [List.getElem?_take, if_pos hm]; exact h), fun m hm h => by
    show (μ.cs.take n)[m]? = _
    rw [List.getElem?_take, if_pos hm]; exact h⟩
theorem CellR.cut {n : Nat} {pi : List Addr} (hp : ∀ a ∈ pi, a ∈ μ.pi) {c : Cell} {a : Addr} (h : CellR K H μ c a) (hc : Dn n c) : CellR K H (μ.cut n pi) c a := by
  obtain ⟨o, h1, h2⟩ := h
  exact ⟨o, h1, h2.move (Mu.mv_cut hp) hc⟩
theorem StR.cut (S : StR K H μ M) (n : Nat) {pi : List Addr} (hp : ∀ a ∈ pi, a ∈ μ.pi) : StR K H (μ.cut n pi) (M.take n) := by
  have tk : ∀ (m : Nat) (c : Cell), (M.take n)[m]? = some c → m < n ∧ M[m]? = some c := fun m c h => by
    rw [List.getElem?_take] at h
    split at h
    · exact ⟨by assumption, h⟩
    · cases h
  refine ⟨fun m c h => S.dn m c (tk m c h).2, ?_, fun i j a h1 h2 => S.nd i j a (take_get h1).2 (take_get h2).2, fun m c a h1 h2 => (S.cells m c a (tk m c h1).2 (take_get h2).2).cut hp ((S.dn m c (tk m c h1).2).mono (Nat.le_of_lt (tk m c h1).1)), fun a h => S.pis a (hp a h), fun m a h z => S.dis m a (take_get h).2 (hp a z), fun m c h1 h2 => S.deads m c (tk m c h1).2 (take_get h2).2⟩
  show (μ.cs.take n).length = (M.take n).length
  rw [List.length_take, List.length_take, S.len]
/-- back to the cells that stood ahead -/
theorem Stp.cut (s : Stp H μ H' μ') : Stp H μ H' (μ'.cut μ.cs.length μ.pi) := by
  have up : ∀ (m : Nat) (x : Option Addr), m < μ.cs.length → μ'.cs[m]? = some x → (μ'.cs.take μ.cs.length)[m]? = some x := fun m x hm h => by
    rw [List.getElem?_take, if_pos hm]; exact h
  refine ⟨?_, fun _ h => h, fun _ h => .inl h, fun m a h => ?_, fun m h => ?_, s.keep, fun m a h => s.fresh m a (take_get h).2, s.live⟩
  · show μ.cs.length ≤ (μ'.cs.take μ.cs.length).length
    rw [List.length_take]
    have := s.len
    omega
  · have hm := (List.getElem?_eq_some_iff.mp h).1
    rcases s.get m a h with q | q
    · exact .inl (up m _ hm q)
    · exact .inr (up m _ hm q)
  · have hm := (List.getElem?_eq_some_iff.mp h).1
    exact up m _ hm (s.gone m h)
end
end Ev
set_option Elab.async false
set_option linter.all false
set_option maxRecDepth 100000
/-! EvBt: new tuples, as objects that are known -/
namespace Ev
open PySem PySem.Spec PyProof.Rows L2
variable [XT]
theorem obj_tupO {P : Program} {w : World} {H : Hp} {h : Heap} {a : Addr} {vs : List V} {its : List Value} {o : Obj} {n : Nat} (z : vs.length ≤ sizeLine) (r : Vals vs its) (e : h.get? a = some o) (c : o.cls = .type "tuple") (d : o.data = .seq its.toArray n) : ObjOk P w H h a (tupO o vs) := by
  unfold tupO
  split
  · exact ⟨e, z, its, r, o, e, c, n, d⟩
  · exact ⟨z, its, r, o, e, c, n, d⟩
def newT (its : List Value) : Obj := { cls := .type "tuple", data := .seq its.toArray }
/-- a wish for any new tuple -/
def NewT (Q : V → Hp → Prop) (H : Hp) (vs : List V) : Prop := ∀ p o, o.cls = .type "tuple" → o.dict = none → H p = none → Q (.ref p) (upd H p (tupO o vs))
section
variable {X : Cx} {pins : List (Addr × Obj)} {σ : L2.St} {H : Hp} {s : Shared}
/-- the state behind a new tuple -/
theorem Inv.newTup {vs : List V} {its : List Value} {h2 : Heap} {tk : Nat} {Q : VK} (I : Inv X pins σ H { s with heap := h2, toks := tk }) (z : vs.length ≤ sizeLine) (r : Vals vs its) (q : NewT Q H vs) :
    EP X pins σ Q (.ref h2.objs.size) { s with heap := h2.push (newT its), toks := tk } :=
  ⟨.ref h2.objs.size, _, I.laid (t' := tk) (o := tupO (newT its) vs) (fun b u e => Heap.get?_push_of_some _ e) (Nat.le_refl _) (obj_tupO z r (Heap.get?_push_size _ rfl) rfl rfl), rfl, q _ (newT its) rfl rfl (I.hok.fresh (Nat.le_refl _))⟩
def tTupO (t : TA) : TE := fun σ H Q => t σ H fun xs H1 => xs.length ≤ sizeLine ∧ NewT Q H1 xs
theorem pe_tupO {es : List Expr} {t : TA} {x1 : _} {pos : Pos} (h : PA X es t) : PE X (.Tuple es x1 pos) (tTupO t) := by
  refine ⟨fun pins s σ H Q I hq => wpAny_Tuple_spliced (thn (h.run pos pins s σ H _ I hq) fun us s1 ⟨xs, H1, I1, r, z, q⟩ => ⟨by rw [← r.length]; exact z, ?_⟩)⟩
  exact Inv.newTup (s := s1) (tk := s1.toks) (its := us) I1 z r q
/-- t + u -/
def rCatO (K : PySem.W.Frag) : R2 := fun x y H Q => ∃ a b xs ys, x = .ref a ∧ y = .ref b ∧ SqT K H a xs ∧ SqT K H b ys ∧ xs.length + ys.length ≤ sizeLine ∧
  (xs = [] → Q (.ref b) H) ∧ (xs ≠ [] → ys = [] → Q (.ref a) H) ∧ NewT Q H (xs ++ ys)
theorem op_catO : OpR X (binaryOp .Add) (rCatO X.K) := by
  intro pins s σ H x y v u Q I rx ry h
  obtain ⟨a, b, xs, ys, rfl, rfl, ha, hb, hz, q0, q1, q2⟩ := h
  cases rx
  cases ry
  obtain ⟨us, r1, p1, _⟩ := I.tuple ha
  obtain ⟨ws, r2, p2, _⟩ := I.tuple hb
  by_cases hx : xs = []
  · subst hx
    cases r1
    exact cat_tup0 p1 p2 ⟨.ref b, H, I, rfl, q0 rfl⟩
  · refine HT.cat_tup p1 p2 (fun z => hx (r1.nil_iff.mp z)) (fun z => ⟨.ref a, H, I, rfl, q1 hx (r2.nil_iff.mp z)⟩) (fun z => ?_) (by rw [← r1.length, ← r2.length]; exact hz)
    exact Inv.newTup (s := s) (tk := s.toks) (its := us ++ ws) I (by rw [List.length_append]; exact hz) (r1.append r2) q2
/-- t[lo:hi] -/
def rSlO (K : PySem.W.Frag) : V → Option Int → Option Int → Hp → VK → Prop := fun x lo hi H Q => ∃ a xs, x = .ref a ∧ SqT K H a xs ∧
  (HT.sIx xs.length 0 lo = 0 ∧ HT.sIx xs.length xs.length hi = xs.length → Q (.ref a) H) ∧ NewT Q H (cutV xs lo hi)
theorem sl_tupO : SlR X (rSlO X.K) := by
  intro pins s σ H x v vl vu lo hi sl Q I rx hs pl pu h
  obtain ⟨a, xs, rfl, hx, q1, q2⟩ := h
  cases rx
  obtain ⟨us, r, ht, hz⟩ := I.tuple hx
  have ln : us.toArray.size = xs.length := by rw [List.size_toArray]; exact r.length.symm
  refine ⟨"tuple", _, PyProof.Rows.slot_tuple_getitem.lookup, ht.typeIs, ?_⟩
  by_cases hw : HT.sIx xs.length 0 lo = 0 ∧ HT.sIx xs.length xs.length hi = xs.length
  · exact getItem_tuple_whole ht hs pl pu (by rw [ln]; exact hw) ⟨.ref a, H, I, rfl, q1 hw⟩
  · refine HT.getItem_tuple_cut ht hs pl pu (by rw [ln]; exact hw) ?_ (by rw [ln]; exact hz)
    rw [ln]
    exact Inv.newTup (s := s) (tk := s.toks) I (Nat.le_trans (cutV_length xs lo hi) hz) ((r.drop (HT.sIx xs.length 0 lo)).take (HT.sIx xs.length xs.length hi - HT.sIx xs.length 0 lo)) q2
/-- tuple(xs) -/
theorem call_tupO : CallR X (.type "tuple") (fun xs H Q => ∃ p ys, xs = [.ref p] ∧ ((SqL X.K H p ys ∧ NewT Q H ys) ∨ (SqT X.K H p ys ∧ Q (.ref p) H))) := by
  intro pins s σ H xs us Q I r h
  obtain ⟨p, ys, rfl, h⟩ := h
  obtain ⟨u, rfl, rx⟩ := vals1 r
  cases rx
  rcases h with ⟨hq, q⟩ | ⟨hq, q⟩
  · obtain ⟨ws, r2, pl, hz⟩ := I.list hq
    have ln := r2.length
    refine call_tuple_list pl.isList (fun h2 kp => ?_) (by simp only [List.size_toArray] <;> omega)
    exact Inv.newTup (s := s) (tk := s.toks) (its := ws) (I.kept (t' := s.toks) kp) hz r2 q
  · obtain ⟨ws, r2, pl, hz⟩ := I.tuple hq
    exact call_tuple_same pl ⟨.ref p, H, I, rfl, q⟩
/-- tuple(range(..)) -/
def tTupRgO (te : L2.St → Hp → (Int → Int → Hp → Prop) → Prop) : TE := fun σ H Q => te σ H fun a b H1 => RgOk a b ∧ NewT Q H1 (rgV a b)
theorem pe_tupRgO {e : Expr} {te : L2.St → Hp → (Int → Int → Hp → Prop) → Prop} {p pos : Pos} (hc : X.calm = true) (hg : Gl X "tuple") (hm : X.mg "tuple" = none) (he : PRg X e te) (na : starEach [e] X.env = (false, eval e X.env) :: starEach [] X.env) : PE X (.Call (.Name "tuple" p) [e] [] pos) (tTupRgO te) := by
  refine ⟨fun pins s σ H Q I h => ?_⟩
  refine Call_ (ld_blt I hg hm boot_tuple (PyProof.Rows.callWith_type1 (args_cons (thn (he pins s σ H _ I h) fun x s1 ⟨r, a, b, t, u, v, H1, ex, hr, I1, ok, q⟩ => args_nil ?_) na) na))
  subst ex
  obtain ⟨o1, o2, o3, o4, o5⟩ := ok
  refine call_tuple_range (n := (b - a).toNat) (I1.ok.hd hc) hr (small_one o1 o2 o3 o4) (rangeSize_nat a b) o5 fun h2 tk acc hk hi => ?_
  have z : (rgV a b).length ≤ sizeLine := by rw [rgV_length, sizeLine_eq]; omega
  have fin := Inv.newTup (s := s1) (tk := tk) (its := acc.toList) (Q := Q) (I1.kept hk) z (vals_rg hi) q
  unfold newT at fin
  rwa [Array.toArray_toList] at fin
/-- t * k -/
def rRepO (K : PySem.W.Frag) : R2 := fun x y H Q => ∃ l k xs, x = .ref l ∧ y = .int k ∧ SqT K H l xs ∧ xs ≠ [] ∧ 2 ≤ k ∧ k ≤ 1000 ∧ xs.length ≤ 1000 ∧ NewT Q H (List.replicate k.toNat xs).flatten
theorem op_repO : OpR X (binaryOp .Mult) (rRepO X.K) := by
  intro pins s σ H x y v u Q I rx ry h
  obtain ⟨l, k, xs, rfl, rfl, hT, ne, k2, kb, hz, q⟩ := h
  cases rx
  obtain ⟨t, rfl⟩ := ry
  obtain ⟨us, r, ⟨⟨cls, dd, data, sl⟩, ho, hc, n, hd⟩, _⟩ := I.tuple hT
  simp only at hc hd
  subst hc hd
  have ln : us.length = xs.length := r.length.symm
  have ie : us.toArray.isEmpty = false := by
    cases us with
    | nil => exact absurd (List.eq_nil_of_length_eq_zero ln.symm) ne
    | cons _ _ => rfl
  have z1 : k.toNat * xs.length ≤ 1000 * 1000 := Nat.mul_le_mul (by omega) hz
  have z2 : us.toArray.size = xs.length := by rw [List.size_toArray, ln]
  have z3 : ((us.toArray.size : Nat) : Int) * k ≤ 1000000 := by
    have e : ((xs.length : Nat) : Int) * k = ((k.toNat * xs.length : Nat) : Int) := by
      rw [Int.natCast_mul, Int.toNat_of_nonneg (by omega), Int.mul_comm]
    rw [z2, e]; omega
  have z4 : (List.replicate k.toNat us).flatten.length ≤ sizeLine := by rw [PyProof.Rows.lm_len_rep_flat, ln, sizeLine_eq]; omega
  have b0 : (decide (k < -(2 ^ 63)) || decide (k ≥ 2 ^ 63)) = false := by rw [decide_eq_false (by omega), decide_eq_false (by omega)]; rfl
  have b1 : (us.toArray.isEmpty || k == 1) = false := by rw [ie, Bool.false_or]; exact beq_eq_false_iff_ne.mpr (by omega)
  have b2 : (decide (k ≤ 0) || us.toArray.isEmpty) = false := by rw [ie, Bool.or_false]; exact decide_eq_false (by omega)
  have b4 : Builtin.Tuple.tupleTooMany (((us.toArray.size : Nat) : Int) * k) = false := by
    unfold Builtin.Tuple.tupleTooMany
    rw [sizeLine_eq]; exact decide_eq_false (by omega)
  refine wpAny_binaryOp_repeat_ref (T := "tuple") (U := "int") (by decide) ⟨_, ho, rfl⟩ (fun s' => typeIs_int s' k t) noFill_tuple_mul F.fills_int_mul F.slot_int_rmul repeat_tuple F.slot_int_index.lookup
    (call_meets F.slot_int_rmul (typeIs_int s k t) F.entry_int_rmul (F.args_int_rmul_2 _ _) (int_rmul_tuple k t l us.toArray n dd sl) ⟨ho, rfl, ⟨_, ho, rfl⟩, call_meets F.slot_tuple_mul ⟨_, ho, rfl⟩ F.entry_tuple_mul (F.args_tuple_mul_2 _ _) (tuple_mulW l us.toArray n dd sl k t b0 b1 b2 (by omega) b4 (by rw [size_rep, List.size_toArray]; exact z4)) ⟨ho, ?_⟩⟩)
  rw [size_rep]
  exact Inv.newTup (s := s) (tk := s.toks) (its := (List.replicate k.toNat us).flatten) I (by rw [PyProof.Rows.lm_len_rep_flat, sizeLine_eq]; omega) (r.rep k.toNat) q
end
end Ev
set_option Elab.async false
set_option linter.all false
set_option maxRecDepth 100000
/-! EvC: readings; operators by values -/
namespace Ev
open PySem PySem.Spec PyProof.Rows L2

/-- what is wished of an exception -/
class XE where
  E : XK
/-- nothing may be raised -/
abbrev xF : XE := ⟨fun _ _ _ => False⟩
variable [XT] [XA] [XE]
def Post {α β : Type} (K : PySem.W.Frag) (RA : Hp → Mu → α → β → Prop) (H : Hp) (μ : Mu) (r : Res α) (Q : β → Hp → Prop) : Prop := match r with
  | .ok a M' => ∀ b H' μ', Stp H μ H' μ' → StR K H' μ' M' → RA H' μ' a b → Q b H'
  | .exn x M' => ∀ cls d H' μ', Stp H μ H' μ' → StR K H' μ' M' → XR K H' μ' x cls d → XE.E cls d H'
  | .stuck => False
abbrev RV (K : PySem.W.Frag) : Hp → Mu → W → V → Prop := fun H μ w v => WR K H μ w v
abbrev RVs (K : PySem.W.Frag) : Hp → Mu → List W → List V → Prop := fun H μ w v => WRs K H μ w v
abbrev RId (α : Type) : Hp → Mu → α → α → Prop := fun _ _ a b => a = b
section
variable {K : PySem.W.Frag} {H H1 : Hp} {μ μ1 : Mu} {M : Store} {α β α' β' : Type} {RA : Hp → Mu → α → β → Prop} {RB : Hp → Mu → α' → β' → Prop}
theorem Post.weak {r : Res α} {Q : β → Hp → Prop} (s : Stp H μ H1 μ1) (p : Post K RA H μ r Q) : Post K RA H1 μ1 r Q := by
  cases r with
  | ok a M' => exact fun b H' μ' s' S q => p b H' μ' (s.trans s') S q
  | exn x M => exact fun cls d H' μ' s' S q => p cls d H' μ' (s.trans s') S q
  | stuck => exact p
theorem Post.imp {r : Res α} {Q Q' : β → Hp → Prop} (p : Post K RA H μ r Q) (h : ∀ b H', Q b H' → Q' b H') : Post K RA H μ r Q' := by
  cases r with
  | ok a M' => exact fun b H' μ' s' S q => h b H' (p b H' μ' s' S q)
  | exn x M => exact p
  | stuck => exact p
theorem Post.bind {r : Res α} {f : α → Store → Res α'} {Q : β' → Hp → Prop} (p : Post K RB H μ (r.bind f) Q) :
    Post K RA H μ r fun b H1 => ∃ a M1 μ1, Stp H μ H1 μ1 ∧ StR K H1 μ1 M1 ∧ RA H1 μ1 a b ∧ Post K RB H1 μ1 (f a M1) Q := by
  cases r with
  | ok a M' => exact fun b H' μ' s S q => ⟨a, M', μ', s, S, q, Post.weak s p⟩
  | exn x M => exact p
  | stuck => exact p
theorem Post.now {a : α} {b : β} {Q : β → Hp → Prop} (p : Post K RA H μ (.ok a M) Q) (S : StR K H μ M) (q : RA H μ a b) : Q b H := p b H μ Stp.refl S q
theorem Post.lim {n : Nat} {r : Res α} {Q : β → Hp → Prop} (p : Post K RA H μ (Ev.lim n r) Q) : n ≤ sizeLine ∧ Post K RA H μ r Q := by
  unfold Ev.lim at p
  split at p
  · exact ⟨by assumption, p⟩
  · exact p.elim
theorem Post.must {c : Prop} [Decidable c] {r : Res α} {Q : β → Hp → Prop} (p : Post K RA H μ (Ev.must c r) Q) : c ∧ Post K RA H μ r Q := by
  unfold Ev.must at p
  split at p
  · exact ⟨by assumption, p⟩
  · exact p.elim
theorem Post.withO {γ : Type} {o : Option γ} {f : γ → Res α} {Q : β → Hp → Prop} (p : Post K RA H μ (Ev.withO o f) Q) : ∃ x, o = some x ∧ Post K RA H μ (f x) Q := by
  cases o with
  | some x => exact ⟨x, rfl, p⟩
  | none => exact p.elim
theorem DRs.wrs : ∀ {xs : List D} {vs : List V}, DRs K H μ xs vs → WRs K H μ (xs.map .d) vs
  | _, _, .nil => .nil
  | _, _, .cons h r => .cons h (DRs.wrs r)
theorem Post.tup {xs : List D} {vs : List V} {Q : VK} (p : Post K (RV K) H μ (.ok (.d (.tuple xs)) M) Q) (S : StR K H μ M) (r : DRs K H μ xs vs) : NewT Q H vs := fun a o oc od ha => by
  obtain ⟨s, S'⟩ := stp_new (o := tupO o vs) S ha
  refine p _ _ _ s S' ?_
  exact .tup (S.free ha) ⟨o, oc, od, upd_same⟩ (r.stp s)
theorem Post.mk {md : Md} {xs : List D} {vs : List V} {Q : VK} (p : Post K (RV K) H μ (Ev.mk md xs M) Q) (S : StR K H μ M) (r : DRs K H μ xs vs) : ∀ a, H a = none → Q (.ref a) (upd H a (.lst vs)) := fun a ha => by
  cases md with
  | F =>
    obtain ⟨s, S'⟩ := stp_new (o := .lst vs) S ha
    refine p _ _ _ s S' ?_
    exact .lst (S.free ha) upd_same (r.stp s)
  | M =>
    obtain ⟨s, S', w⟩ := stp_cell (c := .lst xs) (o := .lst vs) S ha r trivial
    exact p _ _ _ s S' w
  | N =>
    obtain ⟨s, S', w⟩ := stp_cell (c := .wl (xs.map .d)) (o := .lst vs) S ha (DRs.wrs r) (fun w hw => by
      obtain ⟨x, _, rfl⟩ := List.mem_map.mp hw
      exact ⟨fun k e => (by cases e), fun k e => by cases e⟩)
    exact p _ _ _ s S' w
end

/-! ### two-place operators -/
def opO : BOp → Operator
  | .add => .Add | .sub => .Sub | .mul => .Mult | .fdiv => .FloorDiv | .mod => .Mod | .pow => .Pow | .shl => .LShift | .shr => .RShift | .band => .BitAnd | .bor => .BitOr | .bxor => .BitXor
def rW2 (K : PySem.W.Frag) (f : W → W → Store → Res W) : R2 := fun x y H Q => ∃ w u M μ, StR K H μ M ∧ WR K H μ w x ∧ WR K H μ u y ∧ Post K (RV K) H μ (f w u M) Q
section
variable {X : Cx}
theorem CPow_of {i j : Int} (h : 0 ≤ j ∧ j ≤ 1000000 ∧ i.natAbs < 18446744073709551616) : CPow i j := h
theorem op_binI (op : BOp) : OpR X (binaryOp (opO op)) (fun x y H Q => ∃ i j M μ, x = .int i ∧ y = .int j ∧ StR X.K H μ M ∧ Post X.K (RV X.K) H μ (binI op i j M) Q) := by
  intro pins s σ H x y v u Q I rx ry h
  obtain ⟨i, j, M, μ, rfl, rfl, S, p⟩ := h
  cases op with
  | add => exact op_add pins s σ H _ _ v u Q I rx ry ⟨i, j, rfl, rfl, p.now S (.int _)⟩
  | sub => exact op_sub pins s σ H _ _ v u Q I rx ry ⟨i, j, rfl, rfl, p.now S (.int _)⟩
  | mul =>
    obtain ⟨c, p⟩ := Post.must p
    exact op_mul pins s σ H _ _ v u Q I rx ry ⟨i, j, rfl, rfl, c, p.now S (.int _)⟩
  | fdiv =>
    obtain ⟨c, p⟩ := Post.must p
    exact op_fdivW pins s σ H _ _ v u Q I rx ry ⟨i, j, rfl, rfl, wide_div (b := 64) c.1 (by have := c.2; omega) (by decide) (by decide), p.now S (.int _)⟩
  | mod =>
    obtain ⟨c, p⟩ := Post.must p
    exact op_mod pins s σ H _ _ v u Q I rx ry ⟨i, j, rfl, rfl, c, p.now S (.int _)⟩
  | pow =>
    obtain ⟨c, p⟩ := Post.must p
    exact op_pow pins s σ H _ _ v u Q I rx ry ⟨i, j, rfl, rfl, c, p.now S (.int _)⟩
  | shl =>
    obtain ⟨c, p⟩ := Post.must p
    exact op_shl pins s σ H _ _ v u Q I rx ry ⟨i, j, rfl, rfl, c, p.now S (.int _)⟩
  | shr =>
    obtain ⟨c, p⟩ := Post.must p
    exact op_shr pins s σ H _ _ v u Q I rx ry ⟨i, j, rfl, rfl, c, p.now S (.int _)⟩
  | band => exact op_and pins s σ H _ _ v u Q I rx ry ⟨i, j, rfl, rfl, p.now S (.int _)⟩
  | bor => exact op_or pins s σ H _ _ v u Q I rx ry ⟨i, j, rfl, rfl, p.now S (.int _)⟩
  | bxor => exact op_xor pins s σ H _ _ v u Q I rx ry ⟨i, j, rfl, rfl, p.now S (.int _)⟩
/-- list + list, of lists that are read -/
theorem op_catR : OpR X (binaryOp .Add) (fun x y H Q => ∃ l b xs zs, x = .ref l ∧ y = .ref b ∧ Rd H l (.lst xs) ∧ Rd H b (.lst zs) ∧ xs.length + zs.length ≤ sizeLine ∧ ∀ p, H p = none → Q (.ref p) (upd H p (.lst (xs ++ zs)))) := by
  intro pins s σ H x y v u Q I rx ry h
  obtain ⟨l, b, xs, zs, rfl, rfl, hH, hB, hz, q⟩ := h
  cases rx
  cases ry
  obtain ⟨z, its, n, r, e⟩ := hH.ok I.hok
  obtain ⟨z2, its2, n2, r2, e2⟩ := hB.ok I.hok
  have hl := r.length
  have hl2 := r2.length
  refine PySem.P.add_list e e2 ?_ (by rw [List.size_toArray, List.size_toArray]; omega)
  have ea : its.toArray ++ its2.toArray = (its ++ its2).toArray := by simp
  rw [ea]
  exact ⟨.ref _, _, I.lnew (t' := s.toks) (r.append r2) (by rw [List.length_append]; omega), rfl, q _ I.fresh⟩
theorem op_binW (md : Md) (op : BOp) : OpR X (binaryOp (opO op)) (rW2 X.K (binW md op)) := by
  intro pins s σ H x y v u Q I rx ry h
  obtain ⟨w, z, M, μ, S, hw, hz, p⟩ := h
  unfold binW at p
  split at p
  · rename_i i j
    cases hw; cases hz
    exact op_binI op pins s σ H _ _ v u Q I rx ry ⟨i, j, M, μ, rfl, rfl, S, p⟩
  · rename_i xs ys
    obtain ⟨c, p⟩ := Post.lim p
    obtain ⟨a, vs, rfl, ha, ra⟩ := DR.sqT hw
    obtain ⟨b, us, rfl, hb, rb⟩ := DR.sqT hz
    have la := ra.length
    have lb := rb.length
    refine op_catO pins s σ H _ _ v u Q I rx ry ⟨a, b, vs, us, rfl, rfl, ha, hb, by omega, fun e => ?_, fun _ e => ?_, ?_⟩
    · subst e
      cases ra
      exact p.now S hz
    · subst e
      cases rb
      rw [List.append_nil] at p
      exact p.now S hw
    · exact p.tup S (ra.append rb)
  · rename_i xs ys
    cases hw; cases hz
    obtain ⟨c, p⟩ := Post.lim p
    exact op_add_str pins s σ H _ _ v u Q I rx ry ⟨xs, ys, rfl, rfl, c, p.now S (.str _)⟩
  · unfold addL at p
    obtain ⟨xs, e1, p⟩ := Post.withO p
    obtain ⟨ys, e2, p⟩ := Post.withO p
    obtain ⟨c, p⟩ := Post.lim p
    obtain ⟨a, vs, rfl, ha, ra⟩ := lstOf_rd S e1 hw
    obtain ⟨b, us, rfl, hb, rb⟩ := lstOf_rd S e2 hz
    have la := ra.length
    have lb := rb.length
    exact op_catR pins s σ H _ _ v u Q I rx ry ⟨a, b, vs, us, rfl, rfl, ha, hb, by omega, p.mk S (ra.append rb)⟩
  · rename_i xs n
    cases hz
    obtain ⟨⟨c1, c2, c3, c4⟩, p⟩ := Post.must p
    obtain ⟨a, vs, rfl, ha, ra⟩ := DR.sqT hw
    have la := ra.length
    refine op_repO pins s σ H _ _ v u Q I rx ry ⟨a, n, vs, rfl, rfl, ha, fun e => ?_, c2, c3, by omega, p.tup S (DRs.flat _ ra)⟩
    subst e
    cases ra
    cases c1
  · exact p.elim

/-! ### comparisons -/
def opC : COp → CmpOp
  | .eq => .Eq | .ne => .NotEq | .lt => .Lt | .le => .LtE | .gt => .Gt | .ge => .GtE | .isin => .In | .notin => .NotIn
def rC2 (K : PySem.W.Frag) (f : W → W → Store → Option Bool) : R2 := fun x y H Q => ∃ w u M μ b, StR K H μ M ∧ WR K H μ w x ∧ WR K H μ u y ∧ f w u M = some b ∧ Q (.bl b) H
theorem dp_scal {H : Hp} {K : PySem.W.Frag} {a b : D} {x y : V} (h : scalD a b = true) (ha : Dp K H x a) (hb : Dp K H y b) : scal x y = true ∧ decide (x = y) = PyData.eqv a b := by
  cases ha <;> cases hb <;> first
    | (cases h; done)
    | (refine ⟨rfl, ?_⟩; simp only [PyData.eqv]; rw [Bool.eq_iff_iff]; simp; done)
    | (refine ⟨rfl, ?_⟩; simp [PyData.eqv]; done)
theorem op_eqW (hu : X.A.units + 64 < cLine) : OpR X (compareOp .Eq) (fun x y H Q => ∃ a b t, Dp X.K H x a ∧ Dp X.K H y b ∧ eqD a b = some t ∧ Q (.bl t) H) := by
  intro pins s σ H x y v u Q I rx ry h
  obtain ⟨a, b, t, ha, hb, e, q⟩ := h
  unfold eqD at e
  split at e
  · rename_i hs
    obtain ⟨h1, h2⟩ := dp_scal hs ha hb
    cases e
    exact op_eq pins s σ H x y v u Q I rx ry ⟨h1, by rw [h2]; exact q⟩
  · split at e
    · rename_i ho
      cases e
      exact op_eqD hu pins s σ H x y v u Q I rx ry ⟨a, b, ha, hb, ho.1, ho.2, q⟩
    · cases e
theorem op_neW (hu : X.A.units + 64 < cLine) : OpR X (compareOp .NotEq) (fun x y H Q => ∃ a b t, Dp X.K H x a ∧ Dp X.K H y b ∧ eqD a b = some t ∧ Q (.bl (!t)) H) := by
  intro pins s σ H x y v u Q I rx ry h
  obtain ⟨a, b, t, ha, hb, e, q⟩ := h
  unfold eqD at e
  split at e
  · rename_i hs
    obtain ⟨h1, h2⟩ := dp_scal hs ha hb
    cases e
    exact op_ne pins s σ H x y v u Q I rx ry ⟨h1, by rw [h2]; exact q⟩
  · split at e
    · rename_i ho
      cases e
      exact op_neD hu pins s σ H x y v u Q I rx ry ⟨a, b, ha, hb, ho.1, ho.2, q⟩
    · cases e

theorem flat_dp {H : Hp} {K : PySem.W.Frag} {μ : Mu} {a : D} {v : V} (f : flatD a = true) (h : DR K H μ a v) : flatV v = true := by
  cases h <;> first | rfl | cases f
theorem eqv_flat {H : Hp} {K : PySem.W.Frag} {μ : Mu} {a b : D} {v u : V} (fa : flatD a = true) (fb : flatD b = true) (ha : DR K H μ a v) (hb : DR K H μ b u) : eqV v u = PyData.eqv a b := by
  cases ha <;> cases hb <;> first
    | (cases fa; done)
    | (cases fb; done)
    | (simp [eqV, PyData.eqv]; done)
    | rfl
theorem flat_all {H : Hp} {K : PySem.W.Frag} {μ : Mu} : ∀ {xs : List D} {vs : List V}, xs.all flatD = true → DRs K H μ xs vs → vs.all flatV = true
  | _, _, _, .nil => rfl
  | x :: xs, v :: vs, f, .cons h r => by
    rw [List.all_cons, Bool.and_eq_true] at f
    rw [List.all_cons, flat_dp f.1 h, flat_all f.2 r, Bool.and_self]
theorem inV_eq {H : Hp} {K : PySem.W.Frag} {μ : Mu} {x : D} {v : V} (fx : flatD x = true) (hx : DR K H μ x v) : ∀ {xs : List D} {vs : List V}, xs.all flatD = true → DRs K H μ xs vs → L2.inV v vs = Ev.inV x xs
  | _, _, _, .nil => rfl
  | y :: xs, u :: vs, f, .cons h r => by
    rw [List.all_cons, Bool.and_eq_true] at f
    have ih := inV_eq fx hx f.2 r
    unfold L2.inV Ev.inV at ih ⊢
    rw [List.any_cons, List.any_cons, eqv_flat f.1 fx h hx, ih]
theorem dp_seq {H : Hp} {K : PySem.W.Frag} {μ : Mu} {xs : List D} {vs : List V} {a : Addr} (q : SqL K H a vs ∨ SqT K H a vs) (r : DRs K H μ xs vs) : Dp K H (.ref a) (.list xs) ∨ Dp K H (.ref a) (.tuple xs) := by
  rcases q with q | q
  · exact .inl (.lst q r.dp)
  · exact .inr (.tup q r.dp)
theorem op_inW (hu : X.A.units + 65 < cLine) : OpR X (compareOp .In) (fun x y H Q => ∃ w xs μ p vs t, DR X.K H μ w x ∧ y = .ref p ∧ (SqL X.K H p vs ∨ SqT X.K H p vs) ∧ DRs X.K H μ xs vs ∧ inD w xs = some t ∧ Q (.bl t) H) := by
  intro pins s σ H x y v u Q I rx ry h
  obtain ⟨w, xs, μ, p, vs, t, hw, rfl, hq, r, e, q⟩ := h
  unfold inD at e
  split at e
  · rename_i c
    cases e
    rcases c with ⟨c1, c2⟩ | ⟨c1, c2⟩
    · exact op_in_seq pins s σ H x _ v u Q I rx ry ⟨p, vs, rfl, hq, flat_dp c1 hw, flat_all c2 r, by rw [if_neg Bool.false_ne_true, inV_eq c1 hw c2 r]; exact q⟩
    · have sd : PyData.canLay0 w = true := SeqAt.canLay_of_shaped c1
      have se : PyData.canLayAll0 xs = true := SeqAt.canLay_of_shaped c2
      have hr : X.A.units + 1 + min (PyData.depthAll xs) w.depth < cLine := room_in_shaped c1 hu
      obtain ⟨as, r1⟩ := Dp.reads I w x v hw.dp rx
      rcases dp_seq hq r with d | d
      · obtain ⟨bs, r2⟩ := Dp.reads I (.list xs) _ u d ry
        exact SeqAt.in_list_reads r2 r1 se sd hr ⟨.bl _, H, I, rfl, q⟩
      · obtain ⟨bs, r2⟩ := Dp.reads I (.tuple xs) _ u d ry
        exact SeqAt.in_tuple_reads r2 r1 se sd hr ⟨.bl _, H, I, rfl, q⟩
  · cases e
theorem op_notInW (hu : X.A.units + 65 < cLine) : OpR X (compareOp .NotIn) (fun x y H Q => ∃ w xs μ p vs t, DR X.K H μ w x ∧ y = .ref p ∧ (SqL X.K H p vs ∨ SqT X.K H p vs) ∧ DRs X.K H μ xs vs ∧ inD w xs = some t ∧ Q (.bl (!t)) H) := by
  intro pins s σ H x y v u Q I rx ry h
  obtain ⟨w, xs, μ, p, vs, t, hw, rfl, hq, r, e, q⟩ := h
  unfold inD at e
  split at e
  · rename_i c
    cases e
    rcases c with ⟨c1, c2⟩ | ⟨c1, c2⟩
    · exact op_notIn_seq pins s σ H x _ v u Q I rx ry ⟨p, vs, rfl, hq, flat_dp c1 hw, flat_all c2 r, by rw [if_pos rfl, inV_eq c1 hw c2 r]; exact q⟩
    · have sd : PyData.canLay0 w = true := SeqAt.canLay_of_shaped c1
      have se : PyData.canLayAll0 xs = true := SeqAt.canLay_of_shaped c2
      have hr : X.A.units + 1 + min (PyData.depthAll xs) w.depth < cLine := room_in_shaped c1 hu
      obtain ⟨as, r1⟩ := Dp.reads I w x v hw.dp rx
      rcases dp_seq hq r with d | d
      · obtain ⟨bs, r2⟩ := Dp.reads I (.list xs) _ u d ry
        exact SeqAt.notIn_list_reads r2 r1 se sd hr ⟨.bl _, H, I, rfl, q⟩
      · obtain ⟨bs, r2⟩ := Dp.reads I (.tuple xs) _ u d ry
        exact SeqAt.notIn_tuple_reads r2 r1 se sd hr ⟨.bl _, H, I, rfl, q⟩
  · cases e
theorem KRs.val {κ : Type} [DecidableEq κ] {K : PySem.W.Frag} {H : Hp} {μ : Mu} (k : κ) : ∀ {xs : List (κ × D)} {vs : List (κ × V)}, KRs K H μ xs vs → (valD xs k = none ∧ valV vs k = none) ∨ ∃ x v, valD xs k = some x ∧ valV vs k = some v ∧ DR K H μ x v
  | _, _, .nil => .inl ⟨rfl, rfl⟩
  | (j, x) :: xs, (_, v) :: vs, .cons h r => by
    unfold valD valV
    rw [List.find?_cons, List.find?_cons]
    by_cases e : j = k
    · rw [decide_eq_true e]
      exact .inr ⟨x, v, rfl, rfl, h⟩
    · rw [decide_eq_false e]
      exact KRs.val k r
theorem keyOf_kV {K : PySem.W.Frag} {H : Hp} {μ : Mu} {x : D} {v : V} {k : Key} (r : DR K H μ x v) (h : keyOf x = some k) : v = kV k := by
  unfold keyOf at h
  split at h
  · cases h; cases r; rfl
  · cases h; cases r; rfl
  · cases h
theorem keysOf_kV {K : PySem.W.Frag} {H : Hp} {μ : Mu} : ∀ {xs : List D} {vs : List V} {ks : List Key}, DRs K H μ xs vs → keysOf xs = some ks → vs = ks.map kV
  | [], _, ks, .nil, h => by cases h; rfl
  | x :: xs, v :: vs, ks, .cons r rs, h => by
    simp only [keysOf, Option.bind_eq_some_iff] at h
    obtain ⟨k, h1, ks', h2, h3⟩ := h
    cases h3
    rw [keyOf_kV r h1, keysOf_kV rs h2]
    rfl
theorem KWs.val {κ : Type} [DecidableEq κ] {K : PySem.W.Frag} {H : Hp} {μ : Mu} (k : κ) : ∀ {xs : List (κ × W)} {vs : List (κ × V)}, KWs K H μ xs vs → (valD xs k = none ∧ valV vs k = none) ∨ ∃ x v, valD xs k = some x ∧ valV vs k = some v ∧ WR K H μ x v
  | _, _, .nil => .inl ⟨rfl, rfl⟩
  | (j, x) :: xs, (_, v) :: vs, .cons h r => by
    unfold valD valV
    rw [List.find?_cons, List.find?_cons]
    by_cases e : j = k
    · rw [decide_eq_true e]
      exact .inr ⟨x, v, rfl, rfl, h⟩
    · rw [decide_eq_false e]
      exact KWs.val k r
/-- a dict's answer -/
def RO (K : PySem.W.Frag) (H : Hp) (μ : Mu) (x : Option W) (v : Option V) : Prop := (x = none ∧ v = none) ∨ ∃ y u, x = some y ∧ v = some u ∧ WR K H μ y u
theorem KRs.ro {κ : Type} [DecidableEq κ] {K : PySem.W.Frag} {H : Hp} {μ : Mu} (k : κ) {xs : List (κ × D)} {vs : List (κ × V)} (h : KRs K H μ xs vs) : RO K H μ ((valD xs k).map .d) (valV vs k) := by
  rcases KRs.val k h with ⟨a, b⟩ | ⟨x, v, a, b, r⟩
  · exact .inl ⟨by rw [a]; rfl, b⟩
  · exact .inr ⟨.d x, v, by rw [a]; rfl, b, r⟩
theorem dget_ok {K : PySem.W.Frag} {H : Hp} {μ : Mu} {M : Store} {w : W} {k : D} {v y : V} {o : Option W} (S : StR K H μ M) (hw : WR K H μ w v) (hk : DR K H μ k y) (e : dgetW w k M = some o) : ∃ a r, v = .ref a ∧ DGet H a y r ∧ RO K H μ o r := by
  unfold dgetW at e
  split at e
  · rename_i n
    split at e
    · rename_i kvs q
      obtain ⟨j, h1, h2⟩ := Option.map_eq_some_iff.mp e
      cases h2
      rcases hw with ⟨a, ha, rfl⟩ | hw
      · obtain ⟨ob, h3, h4⟩ := S.cells n _ a q ha
        cases ob <;> first | exact h4.elim | skip
        rename_i vs
        rw [keyOf_kV hk h1]
        exact ⟨a, _, rfl, DGet.k h3, KRs.ro j h4⟩
      · cases S.deads n _ q hw
    · rename_i kvs q
      obtain ⟨j, h1, h2⟩ := Option.map_eq_some_iff.mp e
      cases h2
      rcases hw with ⟨a, ha, rfl⟩ | hw
      · obtain ⟨ob, h3, h4⟩ := S.cells n _ a q ha
        cases ob <;> first | exact h4.elim | skip
        rename_i vs
        unfold tkeyOf at h1
        split at h1
        · cases hk with
          | tup nf hb rb =>
            rw [keysOf_kV rb h1] at hb
            exact ⟨a, _, rfl, DGet.t h3 (hb.plain h4.1), KRs.ro j h4.2⟩
        · cases h1
      · cases S.deads n _ q hw
    · rename_i kvs q
      obtain ⟨j, h1, h2⟩ := Option.map_eq_some_iff.mp e
      cases h2
      rcases hw with ⟨a, ha, rfl⟩ | hw
      · obtain ⟨ob, h3, h4⟩ := S.cells n _ a q ha
        cases ob <;> first | exact h4.elim | skip
        rename_i vs
        rw [keyOf_kV hk h1]
        exact ⟨a, _, rfl, DGet.k h3, KWs.val j h4⟩
      · cases S.deads n _ q hw
    · rename_i kvs q
      obtain ⟨j, h1, h2⟩ := Option.map_eq_some_iff.mp e
      cases h2
      rcases hw with ⟨a, ha, rfl⟩ | hw
      · obtain ⟨ob, h3, h4⟩ := S.cells n _ a q ha
        cases ob <;> first | exact h4.elim | skip
        rename_i oo u
        cases u <;> first | exact h4.elim | skip
        rename_i vs
        rw [keyOf_kV hk h1]
        exact ⟨a, _, rfl, .inl ⟨vs, j, .inr ⟨oo, h3⟩, rfl, rfl⟩, KRs.ro j h4⟩
      · cases S.deads n _ q hw
    · rename_i kvs q
      obtain ⟨j, h1, h2⟩ := Option.map_eq_some_iff.mp e
      cases h2
      rcases hw with ⟨a, ha, rfl⟩ | hw
      · obtain ⟨ob, h3, h4⟩ := S.cells n _ a q ha
        cases ob <;> first | exact h4.elim | skip
        rename_i oo u
        cases u <;> first | exact h4.elim | skip
        rename_i vs
        unfold tkeyOf at h1
        split at h1
        · cases hk with
          | tup nf hb rb =>
            rw [keysOf_kV rb h1] at hb
            exact ⟨a, _, rfl, .inr ⟨vs, j, _, .inr ⟨oo, h3⟩, rfl, hb.plain h4.1, rfl⟩, KRs.ro j h4.2⟩
        · cases h1
      · cases S.deads n _ q hw
    · cases e
  · cases e
theorem op_dinW (hu : X.A.units + 1 < cLine) : OpR X (compareOp .In) (fun y x H Q => ∃ a o, x = .ref a ∧ DGet H a y o ∧ Q (.bl o.isSome) H) := by
  intro pins s σ H y x u v Q I ry rx h
  obtain ⟨a, o, rfl, g, q⟩ := h
  cases rx
  exact d_in hu I g ry fun s' I' => ⟨.bl o.isSome, H, I', rfl, q⟩
theorem op_dnotInW (hu : X.A.units + 1 < cLine) : OpR X (compareOp .NotIn) (fun y x H Q => ∃ a o, x = .ref a ∧ DGet H a y o ∧ Q (.bl (!o.isSome)) H) := by
  intro pins s σ H y x u v Q I ry rx h
  obtain ⟨a, o, rfl, g, q⟩ := h
  cases rx
  exact d_notIn hu I g ry fun s' I' => ⟨.bl (!o.isSome), H, I', rfl, q⟩
theorem RO.isSome {K : PySem.W.Frag} {H : Hp} {μ : Mu} {x : Option W} {v : Option V} (r : RO K H μ x v) : v.isSome = x.isSome := by
  rcases r with ⟨rfl, rfl⟩ | ⟨_, _, rfl, rfl, _⟩ <;> rfl
theorem op_ordW {op : COp} (ho : op = COp.lt ∨ op = .le ∨ op = .gt ∨ op = .ge) : OpR X (compareOp (opC op)) (rC2 X.K fun a b _ => ordW op a b) := by
  intro pins s σ H x y v u Q I rx ry h
  obtain ⟨w, z, M, μ, b, S, hw, hz, e, q⟩ := h
  have e : ordW op w z = some b := e
  unfold ordW at e
  split at e
  · cases hw; cases hz
    rcases ho with rfl | rfl | rfl | rfl <;> (cases e)
    · exact op_lt pins s σ H _ _ v u Q I rx ry ⟨_, _, rfl, rfl, q⟩
    · exact op_le pins s σ H _ _ v u Q I rx ry ⟨_, _, rfl, rfl, q⟩
    · exact op_gt pins s σ H _ _ v u Q I rx ry ⟨_, _, rfl, rfl, q⟩
    · exact op_ge pins s σ H _ _ v u Q I rx ry ⟨_, _, rfl, rfl, q⟩
  · cases e
theorem eqW_dp {K : PySem.W.Frag} {H : Hp} {μ : Mu} {M : Store} {w z : W} {x y : V} {b : Bool} (S : StR K H μ M) (hw : WR K H μ w x) (hz : WR K H μ z y) (e : eqW w z M = some b) : ∃ a c, Dp K H x a ∧ Dp K H y c ∧ eqD a c = some b := by
  unfold eqW at e
  simp only [Option.bind_eq_some_iff] at e
  obtain ⟨a, e1, c, e2, e3⟩ := e
  exact ⟨a, c, datOf_dp S e1 hw, datOf_dp S e2 hz, e3⟩
theorem op_memW (hu : X.A.units + 65 < cLine) : OpR X (compareOp .In) (rC2 X.K memW) := by
  intro pins s σ H x y v u Q I rx ry h
  obtain ⟨w, z, M, μ, b, S, hw, hz, e, q⟩ := h
  unfold memW at e
  split at e
  · rename_i a
    unfold memD at e
    split at e
    · rename_i ys hy
      obtain ⟨p, vs, rfl, hq, r⟩ := seqOf_sq S hy hz
      exact op_inW hu pins s σ H x _ v u Q I rx ry ⟨a, ys, μ, p, vs, b, hw, rfl, hq, r, e, q⟩
    · split at e
      · cases hw; cases hz; cases e
        exact op_in_str pins s σ H _ _ v u Q I rx ry ⟨_, _, rfl, rfl, q⟩
      · obtain ⟨o, e1, e2⟩ := Option.map_eq_some_iff.mp e
        subst e2
        obtain ⟨p, r, rfl, g, ro⟩ := dget_ok S hz hw e1
        refine op_dinW (by omega) pins s σ H x _ v u Q I rx ry ⟨p, r, rfl, g, ?_⟩
        rw [ro.isSome]
        exact q
  · cases e
theorem op_notMemW (hu : X.A.units + 65 < cLine) : OpR X (compareOp .NotIn) (rC2 X.K fun a b M => (memW a b M).map (!·)) := by
  intro pins s σ H x y v u Q I rx ry h
  obtain ⟨w, z, M, μ, b, S, hw, hz, e, q⟩ := h
  rw [Option.map_eq_some_iff] at e
  obtain ⟨t, e, rfl⟩ := e
  unfold memW at e
  split at e
  · rename_i a
    unfold memD at e
    split at e
    · rename_i ys hy
      obtain ⟨p, vs, rfl, hq, r⟩ := seqOf_sq S hy hz
      exact op_notInW hu pins s σ H x _ v u Q I rx ry ⟨a, ys, μ, p, vs, t, hw, rfl, hq, r, e, q⟩
    · split at e
      · cases hw; cases hz; cases e
        exact op_notIn_str pins s σ H _ _ v u Q I rx ry ⟨_, _, rfl, rfl, q⟩
      · obtain ⟨o, e1, e2⟩ := Option.map_eq_some_iff.mp e
        subst e2
        obtain ⟨p, r, rfl, g, ro⟩ := dget_ok S hz hw e1
        refine op_dnotInW (by omega) pins s σ H x _ v u Q I rx ry ⟨p, r, rfl, g, ?_⟩
        rw [ro.isSome]
        exact q
  · cases e
theorem op_cmpW (hu : X.A.units + 65 < cLine) (op : COp) : OpR X (compareOp (opC op)) (rC2 X.K (cmpW op)) := by
  cases op with
  | eq =>
    intro pins s σ H x y v u Q I rx ry h
    obtain ⟨w, z, M, μ, b, S, hw, hz, e, q⟩ := h
    obtain ⟨a, c, h1, h2, h3⟩ := eqW_dp S hw hz (show eqW w z M = some b from e)
    exact op_eqW (by omega) pins s σ H x y v u Q I rx ry ⟨a, c, b, h1, h2, h3, q⟩
  | ne =>
    intro pins s σ H x y v u Q I rx ry h
    obtain ⟨w, z, M, μ, b, S, hw, hz, e, q⟩ := h
    obtain ⟨t, et, rfl⟩ := Option.map_eq_some_iff.mp (show (eqW w z M).map (!·) = some b from e)
    obtain ⟨a, c, h1, h2, h3⟩ := eqW_dp S hw hz et
    exact op_neW (by omega) pins s σ H x y v u Q I rx ry ⟨a, c, t, h1, h2, h3, q⟩
  | lt => exact op_ordW (.inl rfl)
  | le => exact op_ordW (.inr (.inl rfl))
  | gt => exact op_ordW (.inr (.inr (.inl rfl)))
  | ge => exact op_ordW (.inr (.inr (.inr rfl)))
  | isin => exact op_memW hu
  | notin => exact op_notMemW hu
end
end Ev
set_option Elab.async false
set_option linter.all false
set_option maxRecDepth 100000
/-! EvD: expressions -/
namespace Ev
open PySem PySem.Spec PyProof.Rows L2
variable [XT] [XA] [XE]

structure At (K : PySem.W.Frag) (H : Hp) (μ : Mu) (e : Env) (σ : L2.St) (M : Store) : Prop where
  env : EnvR K H μ e σ
  st : StR K H μ M
def tE (K : PySem.W.Frag) (ev : Env → Store → Res W) : TE := fun σ H Q => ∃ e M μ, At K H μ e σ M ∧ Post K (RV K) H μ (ev e M) Q
def tA (K : PySem.W.Frag) (ev : Env → Store → Res (List W)) : TA := fun σ H Q => ∃ e M μ, At K H μ e σ M ∧ Post K (RVs K) H μ (ev e M) Q
def tB (K : PySem.W.Frag) (ev : Env → Store → Res Bool) : TT := fun σ H Q => ∃ e M μ, At K H μ e σ M ∧ Post K (RId Bool) H μ (ev e M) Q
def tO (K : PySem.W.Frag) (ev : Env → Store → Res (Option Int)) : TO := fun σ H Q => ∃ e M μ, At K H μ e σ M ∧ Post K (RId (Option Int)) H μ (ev e M) Q
section
variable {X : Cx} {e a b c : Expr} {t u : TE}
theorem PE.imp (h : PE X e t) (k : ∀ pins s σ H Q, L2.Inv X pins σ H s → u σ H Q → t σ H Q) : PE X e u := ⟨fun pins s σ H Q I q => h.run pins s σ H Q I (k pins s σ H Q I q)⟩
theorem PT.imp {t u : TT} (h : PT X e t) (k : ∀ σ H Q, u σ H Q → t σ H Q) : PT X e u := ⟨fun pins s σ H Q I q => h.run pins s σ H Q I (k σ H Q q)⟩
theorem PW.imp {t u : TT} (h : PW X e t) (k : ∀ σ H Q, u σ H Q → t σ H Q) : PW X e u := ⟨fun wh pins s σ H Q I q => h.run wh pins s σ H Q I (k σ H Q q)⟩
theorem PA.imp {es : List Expr} {t u : TA} (h : PA X es t) (k : ∀ σ H Q, u σ H Q → t σ H Q) : PA X es u := ⟨fun pos pins s σ H Q I q => h.run pos pins s σ H Q I (k σ H Q q)⟩
theorem PO.imp {o : Option Expr} {t u : TO} (h : PO X o t) (k : ∀ σ H Q, u σ H Q → t σ H Q) : PO X o u := ⟨fun pins s σ H Q I q => h.run pins s σ H Q I (k σ H Q q)⟩
theorem PS.imp {st : Stmt} {t u : TS} (h : PS X st t) (k : ∀ D σ H, u D σ H → t D σ H) : PS X st u := ⟨fun pins s σ H D I q => h.run pins s σ H D I (k D σ H q)⟩
theorem PSs.imp {st : List Stmt} {t u : TS} (h : PSs X st t) (k : ∀ D σ H, u D σ H → t D σ H) : PSs X st u := ⟨fun pins s σ H D I q => h.run pins s σ H D I (k D σ H q)⟩
end

section
variable {K : PySem.W.Frag} {H : Hp} {μ : Mu} {e : Env} {σ : L2.St} {M : Store} {α β : Type} {RA : Hp → Mu → α → β → Prop} {Q : β → Hp → Prop}
theorem At.stp {H1 : Hp} {μ1 : Mu} {M1 : Store} (a : At K H μ e σ M) (s : Stp H μ H1 μ1) (S : StR K H1 μ1 M1) : At K H1 μ1 e σ M1 := ⟨a.env.stp s, S⟩
/-- behind a first part -/
theorem goE {ev : Env → Store → Res W} {f : W → Store → Res α} (a : At K H μ e σ M) (p : Post K RA H μ ((ev e M).bind f) Q) :
    tE K ev σ H fun x H1 => ∃ w M1 μ1, Stp H μ H1 μ1 ∧ At K H1 μ1 e σ M1 ∧ WR K H1 μ1 w x ∧ Post K RA H1 μ1 (f w M1) Q :=
  ⟨e, M, μ, a, (Post.bind (RA := RV K) p).imp fun x H1 ⟨w, M1, μ1, s, S, r, q⟩ => ⟨w, M1, μ1, s, a.stp s S, r, q⟩⟩
theorem goA {ev : Env → Store → Res (List W)} {f : List W → Store → Res α} (a : At K H μ e σ M) (p : Post K RA H μ ((ev e M).bind f) Q) :
    tA K ev σ H fun x H1 => ∃ w M1 μ1, Stp H μ H1 μ1 ∧ At K H1 μ1 e σ M1 ∧ WRs K H1 μ1 w x ∧ Post K RA H1 μ1 (f w M1) Q :=
  ⟨e, M, μ, a, (Post.bind (RA := RVs K) p).imp fun x H1 ⟨w, M1, μ1, s, S, r, q⟩ => ⟨w, M1, μ1, s, a.stp s S, r, q⟩⟩
theorem goB {ev : Env → Store → Res Bool} {f : Bool → Store → Res α} (a : At K H μ e σ M) (p : Post K RA H μ ((ev e M).bind f) Q) :
    tB K ev σ H fun x H1 => ∃ M1 μ1, Stp H μ H1 μ1 ∧ At K H1 μ1 e σ M1 ∧ Post K RA H1 μ1 (f x M1) Q :=
  ⟨e, M, μ, a, (Post.bind (RA := RId Bool) p).imp fun x H1 ⟨w, M1, μ1, s, S, r, q⟩ => by
    have r : w = x := r
    subst r; exact ⟨M1, μ1, s, a.stp s S, q⟩⟩
theorem goO {ev : Env → Store → Res (Option Int)} {f : Option Int → Store → Res α} (a : At K H μ e σ M) (p : Post K RA H μ ((ev e M).bind f) Q) :
    tO K ev σ H fun x H1 => ∃ M1 μ1, Stp H μ H1 μ1 ∧ At K H1 μ1 e σ M1 ∧ Post K RA H1 μ1 (f x M1) Q :=
  ⟨e, M, μ, a, (Post.bind (RA := RId (Option Int)) p).imp fun x H1 ⟨w, M1, μ1, s, S, r, q⟩ => by
    have r : w = x := r
    subst r; exact ⟨M1, μ1, s, a.stp s S, q⟩⟩
theorem two {ea eb : Env → Store → Res W} {f : W → W → Store → Res W} {Q : VK} (a : At K H μ e σ M) (p : Post K (RV K) H μ ((ea e M).bind fun x M1 => (eb e M1).bind fun y M2 => f x y M2) Q) :
    tOp (rW2 K f) (tE K ea) (tE K eb) σ H Q := by
  obtain ⟨e1, M1, μ1, a1, p1⟩ := goE a p
  refine ⟨e1, M1, μ1, a1, p1.imp fun x H1 ⟨w, M2, μ2, s2, a2, r2, p2⟩ => ?_⟩
  obtain ⟨e3, M3, μ3, a3, p3⟩ := goE a2 p2
  exact ⟨e3, M3, μ3, a3, p3.imp fun y H2 ⟨z, M4, μ4, s4, a4, r4, p4⟩ => ⟨w, z, M4, μ4, a4.st, r2.stp s4, r4, p4⟩⟩
theorem boolR_ok {b : Bool} {Q : VK} (S : StR K H μ M) (p : Post K (RV K) H μ (boolR b M) Q) : Q (.bl b) H := p.now S (.bl b)
theorem twoC {ea eb : Env → Store → Res W} {f : W → W → Store → Option Bool} {Q : VK} (a : At K H μ e σ M) (p : Post K (RV K) H μ ((ea e M).bind fun x M1 => (eb e M1).bind fun y M2 => withO (f x y M2) fun t => boolR t M2) Q) :
    tOp (rC2 K f) (tE K ea) (tE K eb) σ H Q := by
  obtain ⟨e1, M1, μ1, a1, p1⟩ := goE a p
  refine ⟨e1, M1, μ1, a1, p1.imp fun x H1 ⟨w, M2, μ2, s2, a2, r2, p2⟩ => ?_⟩
  obtain ⟨e3, M3, μ3, a3, p3⟩ := goE a2 p2
  refine ⟨e3, M3, μ3, a3, p3.imp fun y H2 ⟨z, M4, μ4, s4, a4, r4, p4⟩ => ?_⟩
  obtain ⟨t, h, p5⟩ := Post.withO p4
  exact ⟨w, z, M4, μ4, t, a4.st, r2.stp s4, r4, h, boolR_ok a4.st p5⟩
/-- the same as a test -/
theorem twoT {ea eb : Env → Store → Res W} {f : W → W → Store → Option Bool} {Q : Bool → Hp → Prop} (a : At K H μ e σ M) (p : Post K (RId Bool) H μ ((ea e M).bind fun x M1 => (eb e M1).bind fun y M2 => withO (f x y M2) fun t => .ok t M2) Q) :
    tTest (tOp (rC2 K f) (tE K ea) (tE K eb)) σ H Q := by
  obtain ⟨e1, M1, μ1, a1, p1⟩ := goE a p
  refine ⟨e1, M1, μ1, a1, p1.imp fun x H1 ⟨w, M2, μ2, s2, a2, r2, p2⟩ => ?_⟩
  obtain ⟨e3, M3, μ3, a3, p3⟩ := goE a2 p2
  refine ⟨e3, M3, μ3, a3, p3.imp fun y H2 ⟨z, M4, μ4, s4, a4, r4, p4⟩ => ?_⟩
  obtain ⟨t, h, p5⟩ := Post.withO p4
  exact ⟨w, z, M4, μ4, t, a4.st, r2.stp s4, r4, h, t, rfl, p5.now a4.st rfl⟩
end

/-! ### the value's truth, is None -/
theorem truW_ok {K : PySem.W.Frag} {H : Hp} {μ : Mu} {M : Store} {w : W} {v : V} {k : Bool} (S : StR K H μ M) (r : WR K H μ w v) (h : truW w M = some k) : TruV K v H k := by
  unfold truW at h
  split at h
  · cases r; cases h; rfl
  · cases r; cases h; rfl
  · cases r; cases h; rfl
  · rename_i x
    cases r
    split at h
    · rename_i hl
      cases h
      refine ⟨hl, ?_⟩
      have e : ((x.length : Int) != 0) = (x.length != 0) := by
        rw [Bool.eq_iff_iff]; simp
      exact e.symm
    · cases h
  · rename_i w' _ _ _ _
    cases q : seqOf w M with
    | none => rw [q] at h; cases h
    | some xs =>
      rw [q] at h
      cases h
      obtain ⟨a, vs, rfl, hq, dr⟩ := seqOf_sq S q r
      have e : (!xs.isEmpty) = !vs.isEmpty := by cases dr <;> rfl
      rcases hq with hq | hq
      · exact .inl ⟨vs, hq, e⟩
      · exact .inr (.inl ⟨vs, hq, e⟩)
theorem isN_ok {K : PySem.W.Frag} {H : Hp} {μ : Mu} {M : Store} {w : W} {v : V} {b : Bool} (S : StR K H μ M) (r : WR K H μ w v) (h : isNW w M = some b) : decide (v = .non) = b := by
  unfold isNW at h
  split at h
  · cases r; cases h; rfl
  · rename_i x hx
    cases h
    have r : DR K H μ x v := r
    cases r <;> first
      | (exact absurd rfl hx)
      | simp
  · rename_i n
    rcases r with ⟨a, _, rfl⟩ | r
    · split at h <;> first | (cases h; simp; done) | cases h
    · have dd : ∀ c, M[n]? = some c → c = .dead := fun c q => S.deads n c q r
      split at h <;> first
        | (rename_i q; cases dd _ q; done)
        | cases h
  · cases h
    obtain ⟨a, vs, rfl, _⟩ := r
    simp
  · cases h
  · cases h
  · cases h
theorem StR.wlc {K : PySem.W.Frag} {H : Hp} {μ : Mu} {M : Store} (S : StR K H μ M) {n : Nat} {ws : List W} {v : V} (h : M[n]? = some (.wl ws)) (w : WR K H μ (.r n) v) : ∃ a vs, μ.cs[n]? = some (some a) ∧ v = .ref a ∧ H a = some (.lst vs) ∧ WRs K H μ ws vs := by
  rcases w with ⟨a, e, rfl⟩ | e
  · obtain ⟨o, h1, h2⟩ := S.cells n _ a h e
    cases o <;> first | exact h2.elim | skip
    exact ⟨a, _, e, rfl, h1, h2⟩
  · cases S.deads n _ h e
theorem frzL_ok {K : PySem.W.Frag} {H : Hp} {g : W → Store → Option (D × Store)} (hg : ∀ {w : W} {v : V} {μ : Mu} {M : Store} {p : D × Store}, StR K H μ M → WR K H μ w v → g w M = some p → ∃ μ', Stp H μ H μ' ∧ StR K H μ' p.2 ∧ DR K H μ' p.1 v) :
    ∀ {ws : List W} {vs : List V} {μ : Mu} {M : Store} {p : List D × Store}, StR K H μ M → WRs K H μ ws vs → frzL g ws M = some p → ∃ μ', Stp H μ H μ' ∧ StR K H μ' p.2 ∧ DRs K H μ' p.1 vs
  | [], _, μ, M, p, S, .nil, h => by
    cases h
    exact ⟨μ, Stp.refl, S, .nil⟩
  | w :: ws, _, μ, M, p, S, .cons r rs, h => by
    simp only [frzL, Option.bind_eq_some_iff] at h
    obtain ⟨q1, h1, q2, h2, e⟩ := h
    cases e
    obtain ⟨μ1, s1, S1, d1⟩ := hg S r h1
    obtain ⟨μ2, s2, S2, d2⟩ := frzL_ok hg S1 (rs.stp s1) h2
    exact ⟨μ2, s1.trans s2, S2, .cons (d1.stp s2) d2⟩
theorem frzN_ok {K : PySem.W.Frag} {H : Hp} : ∀ {f : Nat} {w : W} {v : V} {μ : Mu} {M : Store} {p : D × Store}, StR K H μ M → WR K H μ w v → frzN f w M = some p → ∃ μ', Stp H μ H μ' ∧ StR K H μ' p.2 ∧ DR K H μ' p.1 v
  | 0, w, v, μ, M, p, S, r, h => by
    cases w with
    | d x => cases h; exact ⟨μ, Stp.refl, S, r⟩
    | _ => cases h
  | f + 1, w, v, μ, M, p, S, r, h => by
    cases w with
    | d x => cases h; exact ⟨μ, Stp.refl, S, r⟩
    | s n => cases h
    | g n => cases h
    | x n => cases h
    | t n => cases h
    | r n =>
      unfold frzN at h
      simp only [] at h
      split at h
      · rename_i xs q
        cases h
        obtain ⟨a, vs, ha, rfl, ho, dr⟩ := S.cell (show cellLst M n = some xs by unfold cellLst; rw [q]) r
        obtain ⟨s, S', d⟩ := stp_free S ho ha dr
        exact ⟨_, s, S', d⟩
      · rename_i ws q
        obtain ⟨p2, h2, rfl⟩ := Option.map_eq_some_iff.mp h
        obtain ⟨a, vs, ha, rfl, ho, wr⟩ := S.wlc q r
        obtain ⟨s, S', hf⟩ := stp_kill S ha
        obtain ⟨μ2, s2, S2, d2⟩ := frzL_ok (fun S r h => frzN_ok S r h) S' (wr.stp s) h2
        exact ⟨μ2, s.trans s2, S2, .lst (s2.free hf ho) ho d2⟩
      · cases h
theorem frzW_ok {K : PySem.W.Frag} {H : Hp} {μ : Mu} {M : Store} {w : W} {v : V} {p : D × Store} (S : StR K H μ M) (r : WR K H μ w v) (h : frzW w M = some p) : ∃ μ', Stp H μ H μ' ∧ StR K H μ' p.2 ∧ DR K H μ' p.1 v := frzN_ok S r h
theorem frzs_ok {K : PySem.W.Frag} {H : Hp} : ∀ {ws : List W} {vs : List V} {μ : Mu} {M : Store} {p : List D × Store}, StR K H μ M → WRs K H μ ws vs → frzs ws M = some p → ∃ μ', Stp H μ H μ' ∧ StR K H μ' p.2 ∧ DRs K H μ' p.1 vs
  | [], _, μ, M, p, S, .nil, h => by
    cases h
    exact ⟨μ, Stp.refl, S, .nil⟩
  | w :: ws, _, μ, M, p, S, .cons r rs, h => by
    simp only [frzs, Option.bind_eq_some_iff] at h
    obtain ⟨q1, h1, q2, h2, e⟩ := h
    cases e
    obtain ⟨μ1, s1, S1, d1⟩ := frzW_ok S r h1
    obtain ⟨μ2, s2, S2, d2⟩ := frzs_ok S1 (rs.stp s1) h2
    exact ⟨μ2, s1.trans s2, S2, .cons (d1.stp s2) d2⟩

/-! ### items and slices -/
def rSubW (K : PySem.W.Frag) : R2 := fun x y H Q => ∃ w u M μ z, StR K H μ M ∧ WR K H μ w x ∧ WR K H μ u y ∧ subW w u M = some z ∧ ∀ v, WR K H μ z v → Q v H
theorem atI_dr {K : PySem.W.Frag} {H : Hp} {μ : Mu} {xs : List D} {vs : List V} {k : Int} {z : D} (r : DRs K H μ xs vs) (h : atI xs k = some z) : ∃ v, atI vs k = some v ∧ DR K H μ z v := by
  unfold atI at h ⊢
  rw [← r.length]
  cases e : ixN xs.length k with
  | none => rw [e] at h; cases h
  | some j =>
    rw [e] at h
    exact DRs.get r (show xs[j]? = some z from h)
theorem atI_wr {K : PySem.W.Frag} {H : Hp} {μ : Mu} : ∀ {xs : List W} {vs : List V}, WRs K H μ xs vs → ∀ {i : Nat} {x : W}, xs[i]? = some x → ∃ v, vs[i]? = some v ∧ WR K H μ x v
  | _, _, .nil, i, x, e => by simp at e
  | _, _, .cons h r, 0, x, e => by
    simp at e; subst e; exact ⟨_, rfl, h⟩
  | _, _, .cons h r, i + 1, x, e => by
    obtain ⟨v, h1, h2⟩ := atI_wr r (i := i) (x := x) (by simpa using e)
    exact ⟨v, by simpa using h1, h2⟩
theorem atI_ww {K : PySem.W.Frag} {H : Hp} {μ : Mu} {xs : List W} {vs : List V} {k : Int} {z : W} (r : WRs K H μ xs vs) (h : atI xs k = some z) : ∃ v, atI vs k = some v ∧ WR K H μ z v := by
  unfold atI at h ⊢
  rw [← r.length]
  cases e : ixN xs.length k with
  | none => rw [e] at h; cases h
  | some j =>
    rw [e] at h
    exact atI_wr r (show xs[j]? = some z from h)
theorem atI_kd {K : PySem.W.Frag} {xs : List D} {vs : List V} {k : Int} {z : D} (r : KDs K xs vs) (h : atI xs k = some z) : ∃ v, atI vs k = some v ∧ KD K z v := by
  unfold atI at h ⊢
  rw [← r.length]
  cases e : ixN xs.length k with
  | none => rw [e] at h; cases h
  | some j =>
    rw [e] at h
    exact KDs.get r (show xs[j]? = some z from h)
theorem subTail {prog : Program} {w : World} {A : Around} {E : Value → Shared → Prop} {s : Shared} {value slice : Expr} {o i : Value} {T id : String} {Q : Value → Shared → Prop} (hT : s.TypeIs o T)
    (hl : typeLookup (.type T) "__getitem__" = pure (some (.builtin id))) (h : wpAny (model prog w) A (getItem o i) Q E s)
    (hs : subscripted slice false o i = operate [o, i] (getItem o i)) : wpAny (model prog w) A (subscriptTail value slice o i) Q E s := by
  unfold subscriptTail
  refine wpAny_bind ?_
  rw [getitemInPython_of_ne hT.not_modules]
  refine wpAny_bind (wpAny_specialOf hT hl ?_)
  have g : wpAny (model prog w) A (subscripted slice false o i) (fun r s₃ => wpAny (model prog w) A (letTemporaryGo value o r >>= fun _ => pure r) Q E s₃) E s := by
    rw [hs]
    exact wpAny_operating (wpAny_mono h (fun r _ h₃ => wpAny_bind (wpAny_letTemporaryGo (wpAny_pure h₃))) fun _ _ x => x)
  first
    | exact wpAny_pure (wpAny_bind g)
    | exact wpAny_bind (wpAny_pure (wpAny_bind g))
    | exact wpAny_bind g
theorem ix_subW {X : Cx} (hu : X.A.units + 1 < cLine) : IxR X (rSubW X.K) := by
  intro value slice pins s σ H x y v u Q I rx ry h hs
  obtain ⟨w, i, M, μ, z, S, hw, hi, e, q⟩ := h
  unfold subW at e
  split at e
  · rename_i xs k hxs
    obtain ⟨z0, e0, rfl⟩ := Option.map_eq_some_iff.mp e
    cases hi
    obtain ⟨a, vs, rfl, hq, r⟩ := seqOf_sq S hxs hw
    obtain ⟨v', h1, h2⟩ := atI_dr r e0
    rcases hq with hq | hq
    · exact ix_list value slice pins s σ H _ _ v u Q I rx ry ⟨a, vs, k, v', rfl, rfl, hq, h1, q v' h2⟩ hs
    · exact ix_tup value slice pins s σ H _ _ v u Q I rx ry ⟨a, vs, k, v', rfl, rfl, hq, h1, q v' h2⟩ hs
  · cases e
  · split at e
    · rename_i ws k hws
      unfold wlOf at hws
      split at hws
      · rename_i n
        split at hws
        · rename_i hq
          cases hws
          cases hi
          obtain ⟨a, vs, _, rfl, ho, r⟩ := S.wlc hq hw
          obtain ⟨v', h1, h2⟩ := atI_ww r e
          exact ix_list value slice pins s σ H _ _ v u Q I rx ry ⟨a, vs, k, v', rfl, rfl, .inl (.inl ho), h1, q v' h2⟩ hs
        · cases hws
      · cases hws
    · cases e
    · split at e
      · rename_i xs k _ _
        cases hi
        obtain ⟨z0, e0, rfl⟩ := Option.map_eq_some_iff.mp e
        obtain ⟨a, vs, rfl, hq, r⟩ := hw
        obtain ⟨v', h1, h2⟩ := atI_kd r e0
        exact ix_tup value slice pins s σ H _ _ v u Q I rx ry ⟨a, vs, k, v', rfl, rfl, .inr hq, h1, q v' h2.gw⟩ hs
      · rename_i z' k _ _
        cases hw; cases hi
        split at e
        · rename_i hl
          cases e1 : atI z'.cps.toList k with
          | none => rw [e1] at e; cases e
          | some c =>
            rw [e1] at e
            cases e
            exact ix_str value slice pins s σ H _ _ v u Q I rx ry ⟨z', k, c, rfl, rfl, hl, e1, q _ (DR.str _)⟩ hs
        · cases e
      · rename_i k _ _
        obtain ⟨o, e1, e2⟩ := Option.bind_eq_some_iff.mp e
        have e2 : o = some z := e2
        subst e2
        obtain ⟨a, r, rfl, g, ro⟩ := dget_ok S hw hi e1
        rcases ro with ⟨z0, _⟩ | ⟨y', u', e3, rfl, dr⟩
        · cases z0
        cases e3
        cases rx
        exact subTail (dict_typeIs I g) PySem.F.slot_dict_getitem.lookup (d_getItem hu I g ry fun w' s3 I3 rw' => ⟨u', H, I3, rw', q _ dr⟩) hs
      · cases e
theorem DRs.sliced {K : PySem.W.Frag} {H : Hp} {μ : Mu} {xs : List D} {vs : List V} (lo hi : Option Int) (r : DRs K H μ xs vs) : DRs K H μ (cutD xs lo hi) (cutV vs lo hi) := by
  unfold cutD cutV
  rw [← r.length]
  exact DRs.take _ (DRs.drop _ r)
def rSlcW (K : PySem.W.Frag) (md : Md) : V → Option Int → Option Int → Hp → VK → Prop := fun x lo hi H Q => ∃ w M μ, StR K H μ M ∧ WR K H μ w x ∧ Post K (RV K) H μ (slcW md w lo hi M) Q
/-- a slice of a list that is read -/
theorem sl_slcW {X : Cx} (md : Md) : SlR X (rSlcW X.K md) := by
  intro pins s σ H x v vl vu lo hi sl Q I rx hs pl pu h
  obtain ⟨w, M, μ, S, hw, p⟩ := h
  unfold slcW at p
  split at p
  · rename_i xs
    obtain ⟨a, vs, rfl, ha, ra⟩ := DR.sqT hw
    have dc := ra.sliced lo hi
    refine sl_tupO pins s σ H _ v vl vu lo hi sl Q I rx hs pl pu ⟨a, vs, rfl, ha, fun hwh => ?_, p.tup S dc⟩
    have hcut : cutD xs lo hi = xs := by
      unfold cutD
      have hl := ra.length
      rw [← hl] at hwh
      rw [hwh.1, hwh.2, List.drop_zero, Nat.sub_zero, List.take_length]
    rw [hcut] at p
    exact p.now S hw
  · rename_i z
    cases hw
    obtain ⟨c, p⟩ := Post.lim p
    exact sl_str pins s σ H _ v vl vu lo hi sl Q I rx hs pl pu ⟨z, rfl, c, p.now S (.str _)⟩
  · obtain ⟨xs, e, p⟩ := Post.withO p
    obtain ⟨a, vs, rfl, ha, ra⟩ := lstOf_rd S e hw
    exact sl_list pins s σ H _ v vl vu lo hi sl Q I rx hs pl pu ⟨a, vs, rfl, .inl ha, p.mk S (ra.sliced lo hi)⟩

/-! ### built-ins by values -/
def rBlt (K : PySem.W.Frag) (f : List W → Store → Res W) : List V → Hp → VK → Prop := fun vs H Q => ∃ ws M μ, StR K H μ M ∧ WRs K H μ ws vs ∧ Post K (RV K) H μ (f ws M) Q
theorem WRs.one {K : PySem.W.Frag} {H : Hp} {μ : Mu} {w : W} {vs : List V} (h : WRs K H μ [w] vs) : ∃ v, vs = [v] ∧ WR K H μ w v := by
  cases h with
  | cons a b => cases b; exact ⟨_, rfl, a⟩
theorem WRs.two {K : PySem.W.Frag} {H : Hp} {μ : Mu} {w u : W} {vs : List V} (h : WRs K H μ [w, u] vs) : ∃ v v', vs = [v, v'] ∧ WR K H μ w v ∧ WR K H μ u v' := by
  cases h with
  | cons a b => cases b with
    | cons b c => cases c; exact ⟨_, _, rfl, a, b⟩
section
variable {X : Cx}
theorem KRs.length {κ : Type} {K : PySem.W.Frag} {H : Hp} {μ : Mu} : ∀ {xs : List (κ × D)} {vs : List (κ × V)}, KRs K H μ xs vs → xs.length = vs.length
  | _, _, .nil => rfl
  | _, _, .cons _ r => by simp [KRs.length r]
theorem dlen_ok {K : PySem.W.Frag} {H : Hp} {μ : Mu} {M : Store} {w : W} {v : V} {n : Nat} (S : StR K H μ M) (hv : WR K H μ w v) (e : dlen w M = some n) : ∃ a kvs, v = .ref a ∧ H a = some (.dK kvs) ∧ n = kvs.length := by
  unfold dlen at e
  split at e
  · split at e
    · rename_i xs q
      cases e
      rcases hv with ⟨a, ha, rfl⟩ | hw
      · obtain ⟨ob, h3, h4⟩ := S.cells _ _ a q ha
        cases ob <;> first | exact h4.elim | skip
        exact ⟨a, _, rfl, h3, KRs.length h4⟩
      · cases S.deads _ _ q hw
    · cases e
  · cases e
theorem blt_len : CallR X (.builtin "len") (rBlt X.K bLen) := by
  intro pins s σ H xs us Q I r h
  obtain ⟨ws, M, μ, S, hw, p⟩ := h
  unfold bLen at p
  split at p
  · rename_i w
    obtain ⟨v, rfl, hv⟩ := hw.one
    obtain ⟨n, e, p⟩ := Post.withO p
    have q := p.now S (.int _)
    unfold lenW at e
    split at e
    · cases hv
      split at e
      · rename_i hl
        cases e
        exact call_len_str pins s σ H _ us Q I r ⟨_, rfl, hl, q⟩
      · cases e
    · split at e
      · rename_i xs e1
        cases e
        obtain ⟨a, vs, rfl, hq, dr⟩ := seqOf_sq S e1 hv
        have q : Q (.int (xs.length : Nat)) H := q
        rw [dr.length] at q
        exact call_len_seq pins s σ H _ us Q I r ⟨a, vs, rfl, hq, q⟩
      · split at e
        · rename_i ws hws
          cases e
          unfold wlOf at hws
          split at hws
          · split at hws
            · rename_i hq
              cases hws
              obtain ⟨a, vs, _, rfl, ho, wr⟩ := S.wlc hq hv
              have q : Q (.int (ws.length : Nat)) H := q
              rw [wr.length] at q
              exact call_len_seq pins s σ H _ us Q I r ⟨a, vs, rfl, .inl (.inl (.inl ho)), q⟩
            · cases hws
          · cases hws
        · split at e
          · rename_i xs _ _ _
            cases e
            obtain ⟨a, vs, rfl, hq, kd⟩ := hv
            have q : Q (.int (xs.length : Nat)) H := q
            rw [kd.length] at q
            exact call_len_seq pins s σ H _ us Q I r ⟨a, vs, rfl, .inr (.inr hq), q⟩
          · obtain ⟨a, kvs, rfl, h1⟩ := dlen_ok S hv e
            obtain ⟨ul, rfl, ru⟩ := r.one
            cases ru
            obtain ⟨h2, rfl⟩ := h1
            exact d_len I (.inl h2) fun t s' I' => ⟨.int _, H, I', ⟨t, rfl⟩, q⟩
  · exact p.elim
theorem blt_abs : CallR X (.builtin "abs") (rBlt X.K bAbs) := by
  intro pins s σ H xs us Q I r h
  obtain ⟨ws, M, μ, S, hw, p⟩ := h
  unfold bAbs at p
  split at p
  · obtain ⟨v, rfl, hv⟩ := hw.one
    cases hv
    exact call_abs pins s σ H _ us Q I r ⟨_, rfl, p.now S (.int _)⟩
  · exact p.elim
theorem blt_int : CallR X (.type "int") (rBlt X.K bInt) := by
  intro pins s σ H xs us Q I r h
  obtain ⟨ws, M, μ, S, hw, p⟩ := h
  unfold bInt at p
  split at p
  · rename_i x
    obtain ⟨c, p⟩ := Post.must p
    obtain ⟨n, e, p⟩ := Post.withO p
    obtain ⟨v, rfl, hv⟩ := hw.one
    cases hv
    exact call_int_str pins s σ H _ us Q I r ⟨x, n, rfl, e, c, p.now S (.int _)⟩
  · obtain ⟨v, rfl, hv⟩ := hw.one
    cases hv
    exact call_int1 pins s σ H _ us Q I r (.inl ⟨_, rfl, p.now S (.int _)⟩)
  · obtain ⟨v, rfl, hv⟩ := hw.one
    cases hv
    exact call_int1 pins s σ H _ us Q I r (.inr ⟨_, rfl, p.now S (.int _)⟩)
  · exact p.elim
theorem blt_max2 (hc : X.calm = true) : CallR X (.builtin "max") (rBlt X.K bMax2) := by
  intro pins s σ H xs us Q I r h
  obtain ⟨ws, M, μ, S, hw, p⟩ := h
  unfold bMax2 at p
  split at p
  · obtain ⟨v, v', rfl, hv, hv'⟩ := hw.two
    cases hv; cases hv'
    exact call_max2 hc pins s σ H _ us Q I r ⟨_, _, rfl, p.now S (.int _)⟩
  · exact p.elim
theorem blt_min2 (hc : X.calm = true) : CallR X (.builtin "min") (rBlt X.K bMin2) := by
  intro pins s σ H xs us Q I r h
  obtain ⟨ws, M, μ, S, hw, p⟩ := h
  unfold bMin2 at p
  split at p
  · obtain ⟨v, v', rfl, hv, hv'⟩ := hw.two
    cases hv; cases hv'
    exact call_min2 hc pins s σ H _ us Q I r ⟨_, _, rfl, p.now S (.int _)⟩
  · exact p.elim
theorem blt_list (md : Md) : CallR X (.type "list") (rBlt X.K (bList md)) := by
  intro pins s σ H xs us Q I r h
  obtain ⟨ws, M, μ, S, hw, p⟩ := h
  unfold bList at p
  split at p
  · obtain ⟨v, rfl, hv⟩ := hw.one
    obtain ⟨xs, e, p⟩ := Post.withO p
    obtain ⟨a, vs, rfl, hq, dr⟩ := seqOf_sq S e hv
    exact call_list_of pins s σ H _ us Q I r ⟨a, vs, rfl, hq, p.mk S dr⟩
  · exact p.elim
theorem blt_tuple : CallR X (.type "tuple") (rBlt X.K bTuple) := by
  intro pins s σ H xs us Q I r h
  obtain ⟨ws, M, μ, S, hw, p⟩ := h
  unfold bTuple at p
  split at p
  · exact p.elim
  · rename_i w hng
    obtain ⟨v, rfl, hv⟩ := hw.one
    obtain ⟨xs, e, p⟩ := Post.withO p
    unfold seqOf at e
    split at e
    · cases e
      obtain ⟨a, vs, rfl, ha, ra⟩ := DR.sqT hv
      exact call_tupO pins s σ H _ us Q I r ⟨a, vs, rfl, .inr ⟨ha, p.now S hv⟩⟩
    · cases e
      obtain ⟨a, vs, rfl, hq, ra⟩ := hv
      have q : SqL X.K H a vs := by
        rcases hq with q | q
        · exact .inl q.2
        · exact .inr q
      exact call_tupO pins s σ H _ us Q I r ⟨a, vs, rfl, .inl ⟨q, p.tup S ra⟩⟩
    · exact absurd rfl (hng _)
    · obtain ⟨a, vs, rfl, ha, ra⟩ := lstOf_rd S e hv
      exact call_tupO pins s σ H _ us Q I r ⟨a, vs, rfl, .inl ⟨.inl ha, p.tup S ra⟩⟩
  · exact p.elim
end

/-! ### methods by values -/
def rMth (K : PySem.W.Frag) (f : W → List W → Store → Res W) : V → List V → Hp → VK → Prop := fun x vs H Q => ∃ w ws M μ, StR K H μ M ∧ WR K H μ w x ∧ WRs K H μ ws vs ∧ Post K (RV K) H μ (f w ws M) Q
theorem Post.set {K : PySem.W.Frag} {H : Hp} {μ : Mu} {M : Store} {n : Nat} {a : Addr} {ys : List D} {us : List V} {us0 : List V} {w : W} {v : V} {Q : VK} (p : Post K (RV K) H μ (.ok w (M.set n (.lst ys))) Q) (S : StR K H μ M) (ha : μ.cs[n]? = some (some a)) (ho : H a = some (.lst us0)) (r : DRs K H μ ys us)
    (hv : WR K H μ w v) : Q v (upd H a (.lst us)) := by
  obtain ⟨s, S'⟩ := stp_set (c := .lst ys) (o1 := .lst us) S ho ha r
  exact p _ _ _ s S' (hv.stp s)
section
variable {X : Cx}
theorem mth_append : MtR X "list.append" (rMth X.K mAppend) := by
  intro pins s σ H x xs v us Q I rx rs h
  obtain ⟨w, ws, M, μ, S, hw, hs, p⟩ := h
  unfold mAppend at p
  split at p
  · obtain ⟨u, rfl, hu⟩ := hs.one
    obtain ⟨q, e0, p⟩ := Post.withO p
    obtain ⟨μ1, s1, S1, d1⟩ := frzW_ok S hu e0
    have p := Post.weak s1 p
    obtain ⟨ys, e, p⟩ := Post.withO p
    obtain ⟨c, p⟩ := Post.must p
    obtain ⟨a, vs, ha, rfl, ho, dr⟩ := S1.cell e (hw.stp s1)
    refine mt_append pins s σ H _ _ v us Q I rx rs ⟨a, vs, u, rfl, rfl, ho, by rw [← dr.length]; exact c, ?_⟩
    exact Post.set (w := .d .none) p S1 ha ho (dr.append (.cons d1 .nil)) .non
  · exact p.elim
theorem mth_pop0 : MtR X "list.pop" (rMth X.K mPop0) := by
  intro pins s σ H x xs v us Q I rx rs h
  obtain ⟨w, ws, M, μ, S, hw, hs, p⟩ := h
  unfold mPop0 at p
  split at p
  · cases hs
    obtain ⟨ys, e, p⟩ := Post.withO p
    obtain ⟨y, e2, p⟩ := Post.withO p
    obtain ⟨a, vs, ha, rfl, ho, dr⟩ := S.cell e hw
    obtain ⟨u, h1, h2⟩ := dr.get e2
    rw [dr.length] at h1
    refine mt_pop pins s σ H _ _ v us Q I rx rs ⟨a, vs, u, rfl, rfl, ho, h1, ?_⟩
    exact Post.set (w := .d y) p S ha ho dr.dropLast h2
  · exact p.elim
theorem mth_pop : MtR X "list.pop" (rMth X.K mPop) := by
  intro pins s σ H x xs v us Q I rx rs h
  obtain ⟨w, ws, M, μ, S, hw, hs, p⟩ := h
  unfold mPop at p
  split at p
  · obtain ⟨u, rfl, hu⟩ := hs.one
    cases hu
    obtain ⟨ys, e, p⟩ := Post.withO p
    obtain ⟨k, e2, p⟩ := Post.withO p
    obtain ⟨y, e3, p⟩ := Post.withO p
    obtain ⟨a, vs, ha, rfl, ho, dr⟩ := S.cell e hw
    obtain ⟨u, h1, h2⟩ := dr.get e3
    obtain ⟨q1, q2, q3, q4⟩ := ixN_seq e2
    have hl : ys.length ≤ sizeLine := by
      obtain ⟨z, _⟩ := I.hok a _ ho
      rw [dr.length]; exact z
    have h63 := line63
    rw [dr.length] at q1
    refine mt_popAt pins s σ H _ _ v us Q I rx rs ⟨a, vs, _, k, u, rfl, rfl, ho, by omega, by omega, q1, h1, ?_⟩
    exact Post.set (w := .d y) p S ha ho (dr.eraseIdx k) h2
  · exact p.elim
/-- o[i] = v, a list's -/
def rSetW (K : PySem.W.Frag) : V → V → V → Hp → (Hp → Prop) → Prop := fun o i v H Q => ∃ w u d M μ, StR K H μ M ∧ WR K H μ w o ∧ WR K H μ u i ∧ DR K H μ d v ∧ Post K (fun _ _ (_ : Unit) (_ : Unit) => True) H μ (setW w u d M) fun _ H' => Q H'
theorem KRs.putV {κ : Type} [DecidableEq κ] {K : PySem.W.Frag} {H : Hp} {μ : Mu} {k : κ} {x : D} {v : V} (h : DR K H μ x v) {xs : List (κ × D)} {vs : List (κ × V)} (r : KRs K H μ xs vs) : KRs K H μ (putD xs k x) (putK vs k v) := by
  have h1 : ∀ {xs : List (κ × D)} {vs : List (κ × V)}, KRs K H μ xs vs → (xs.any fun kv => decide (kv.1 = k)) = vs.any fun kv => decide (kv.1 = k) := by
    intro xs vs r
    induction r with
    | nil => rfl
    | cons _ _ ih => rw [List.any_cons, List.any_cons, ih]
  have h2 : ∀ {xs : List (κ × D)} {vs : List (κ × V)}, KRs K H μ xs vs → KRs K H μ (xs.map fun kv => if kv.1 = k then (kv.1, x) else kv) (vs.map fun kv => if kv.1 = k then (kv.1, v) else kv) := by
    intro xs vs r
    induction r with
    | nil => exact .nil
    | cons h0 _ ih =>
      rename_i j y u ys us _
      rw [List.map_cons, List.map_cons]
      by_cases e : j = k
      · rw [if_pos e, if_pos e]; exact .cons h ih
      · rw [if_neg e, if_neg e]; exact .cons h0 ih
  have h3 : ∀ {xs : List (κ × D)} {vs : List (κ × V)}, KRs K H μ xs vs → KRs K H μ (xs ++ [(k, x)]) (vs ++ [(k, v)]) := by
    intro xs vs r
    induction r with
    | nil => exact .cons h .nil
    | cons h0 _ ih => exact .cons h0 ih
  unfold putD putK
  rw [h1 r]
  split
  · exact h2 r
  · exact h3 r
theorem set_W (hu : X.A.units + 1 < cLine) : PSet X (rSetW X.K) := by
  intro pins s σ H o i v ov iv u Q I ro ri rv h
  obtain ⟨w, z, d, M, μ, S, hw, hz, hd, p⟩ := h
  unfold setW at p
  split at p
  · rename_i n k
    split at p
    · rename_i ys q
      split at p
      · cases hz
        obtain ⟨j, e2, p⟩ := Post.withO p
        obtain ⟨a, vs, ha, rfl, ho, dr⟩ := S.cell (show cellLst M n = some ys by unfold cellLst; rw [q]) hw
        rw [dr.length] at e2
        refine set_list pins s σ H _ _ _ ov iv u Q I ro ri rv ⟨a, vs, _, j, rfl, rfl, ho, e2, ?_⟩
        obtain ⟨s1, S1⟩ := stp_set (c := .lst (ys.set j d)) (o1 := .lst (vs.set j v)) S ho ha (dr.set j hd)
        exact p () _ _ s1 S1 trivial
      · exact p.elim
    · rename_i kvs q
      obtain ⟨j, e2, p1⟩ := Post.withO p
      obtain ⟨c, p2⟩ := Post.must p1
      rcases hw with ⟨a, ha, rfl⟩ | hw
      · obtain ⟨ob, h3, h4⟩ := S.cells n _ a q ha
        cases ob <;> first | exact h4.elim | skip
        rename_i vs
        have hz : DR X.K H μ k i := hz
        have ek := keyOf_kV hz e2
        subst ek
        cases ro
        obtain ⟨s1, S1⟩ := stp_set (c := .dK (putD kvs j d)) (o1 := .dK (putK vs j v)) S h3 ha (KRs.putV hd h4)
        exact d_setItem hu I (DPut.k h3 (by rw [← KRs.length h4]; exact c)) ri rv fun s' I' => ⟨_, I', p2 () _ _ s1 S1 trivial⟩
      · cases S.deads n _ q hw
    · rename_i kvs q
      obtain ⟨j, e2, p1⟩ := Post.withO p
      obtain ⟨c, p2⟩ := Post.must p1
      rcases hw with ⟨a, ha, rfl⟩ | hw
      · obtain ⟨ob, h3, h4⟩ := S.cells n _ a q ha
        cases ob <;> first | exact h4.elim | skip
        rename_i vs
        have hz : DR X.K H μ k i := hz
        unfold tkeyOf at e2
        split at e2
        · cases hz with
          | tup nf hb rb =>
            rw [keysOf_kV rb e2] at hb
            cases ro
            obtain ⟨s1, S1⟩ := stp_set (c := .dT (putD kvs j d)) (o1 := .dT (putK vs j v)) S h3 ha ⟨h4.1, KRs.putV hd h4.2⟩
            exact d_setItem hu I (DPut.t h3 (hb.plain h4.1) (by rw [← KRs.length h4.2]; exact c)) ri rv fun s' I' => ⟨_, I', p2 () _ _ s1 S1 trivial⟩
        · cases e2
      · cases S.deads n _ q hw
    · exact p.elim
  · exact p.elim
end

/-! ### isinstance -/
def tyN : Ty → String
  | .int => "int" | .str => "str" | .bool => "bool" | .tuple => "tuple" | .list => "list"
def tgN : Tg → String
  | .non => "NoneType" | .bl => "bool" | .int => "int" | .str => "str" | .tup => "tuple" | .lst => "list"
theorem kit_tg (g : Tg) (t : Ty) : kitB (tgN g) (tyN t) = some (tgB g t) := by
  cases g <;> cases t <;> decide +kernel
theorem tgW_ok {K : PySem.W.Frag} {H : Hp} {μ : Mu} {M : Store} {w : W} {v : V} {g : Tg} (S : StR K H μ M) (r : WR K H μ w v) (h : tgW w M = some g) : TyX K H v (.type (tgN g)) := by
  unfold tgW at h
  split at h
  · cases r; cases h; exact .base .non
  · cases r; cases h; exact .base (.bl _)
  · cases r; cases h; exact .base (.int _)
  · cases r; cases h; exact .base (.str _)
  · cases h
    have r : DR K H μ (.tuple _) v := r
    cases r with
    | tup n h r =>
      rcases h.rd with h | ⟨o, h⟩
      · exact .base (.tup h)
      · exact .fTuple h
  · cases h
    have r : DR K H μ (.list _) v := r
    cases r with
    | lst n h r => exact .base (.lst h)
  · rename_i n
    cases q : cellLst M n with
    | none => rw [q] at h; cases h
    | some xs =>
      rw [q] at h; cases h
      obtain ⟨a, vs, _, rfl, h1, h2⟩ := S.cell q r
      exact .base (.lst h1)
  · cases h
end Ev
set_option Elab.async false
set_option linter.all false
set_option maxRecDepth 100000
/-! EvDb: more built-ins and methods by values -/
namespace Ev
open PySem PySem.Spec PyProof.Rows L2
variable [XT] [XA] [XE]
section
variable {X : Cx}
theorem blt_str : CallR X (.type "str") (rBlt X.K bStr) := by
  intro pins s σ H xs us Q I r h
  obtain ⟨ws, M, μ, S, hw, p⟩ := h
  unfold bStr at p
  split at p
  · obtain ⟨c, p⟩ := Post.must p
    obtain ⟨v, rfl, hv⟩ := hw.one
    cases hv
    exact call_str_int pins s σ H _ us Q I r ⟨_, rfl, c, p.now S (.str _)⟩
  · obtain ⟨v, rfl, hv⟩ := hw.one
    cases hv
    exact SkE.call_str_str pins s σ H _ us Q I r ⟨_, rfl, p.now S (.str _)⟩
  · exact p.elim
theorem intsD_ok {K : PySem.W.Frag} {H : Hp} {μ : Mu} : ∀ {xs : List D} {vs : List V} {ns : List Int}, DRs K H μ xs vs → intsD xs = some ns → vs = ns.map V.int
  | [], _, _, .nil, h => by cases h; rfl
  | .int i :: r, _, ns, .cons a b, h => by
    cases a
    unfold intsD at h
    obtain ⟨l, h1, rfl⟩ := Option.map_eq_some_iff.mp h
    rw [intsD_ok b h1]; rfl
  | .none :: _, _, _, _, h => by simp [intsD] at h
  | .bool _ :: _, _, _, _, h => by simp [intsD] at h
  | .str _ :: _, _, _, _, h => by simp [intsD] at h
  | .tuple _ :: _, _, _, _, h => by simp [intsD] at h
  | .list _ :: _, _, _, _, h => by simp [intsD] at h
  | .dict _ :: _, _, _, _, h => by simp [intsD] at h
theorem boolsD_ok {K : PySem.W.Frag} {H : Hp} {μ : Mu} : ∀ {xs : List D} {vs : List V} {ns : List Bool}, DRs K H μ xs vs → boolsD xs = some ns → vs = ns.map V.bl
  | [], _, _, .nil, h => by cases h; rfl
  | .bool i :: r, _, ns, .cons a b, h => by
    cases a
    unfold boolsD at h
    obtain ⟨l, h1, rfl⟩ := Option.map_eq_some_iff.mp h
    rw [boolsD_ok b h1]; rfl
  | .none :: _, _, _, _, h => by simp [boolsD] at h
  | .int _ :: _, _, _, _, h => by simp [boolsD] at h
  | .str _ :: _, _, _, _, h => by simp [boolsD] at h
  | .tuple _ :: _, _, _, _, h => by simp [boolsD] at h
  | .list _ :: _, _, _, _, h => by simp [boolsD] at h
  | .dict _ :: _, _, _, _, h => by simp [boolsD] at h
theorem strsD_ok {K : PySem.W.Frag} {H : Hp} {μ : Mu} : ∀ {xs : List D} {vs : List V} {ns : List Str}, DRs K H μ xs vs → strsD xs = some ns → vs = ns.map V.str
  | [], _, _, .nil, h => by cases h; rfl
  | .str i :: r, _, ns, .cons a b, h => by
    cases a
    unfold strsD at h
    obtain ⟨l, h1, rfl⟩ := Option.map_eq_some_iff.mp h
    rw [strsD_ok b h1]; rfl
  | .none :: _, _, _, _, h => by simp [strsD] at h
  | .int _ :: _, _, _, _, h => by simp [strsD] at h
  | .bool _ :: _, _, _, _, h => by simp [strsD] at h
  | .tuple _ :: _, _, _, _, h => by simp [strsD] at h
  | .list _ :: _, _, _, _, h => by simp [strsD] at h
  | .dict _ :: _, _, _, _, h => by simp [strsD] at h
theorem blt_sum (hc : X.calm = true) : CallR X (.builtin "sum") (rBlt X.K bSum) := by
  intro pins s σ H xs us Q I r h
  obtain ⟨ws, M, μ, S, hw, p⟩ := h
  unfold bSum at p
  split at p
  · obtain ⟨xs, e, p⟩ := Post.withO p
    obtain ⟨ns, e2, p⟩ := Post.withO p
    obtain ⟨v, rfl, hv⟩ := hw.one
    obtain ⟨a, vs, rfl, ho, dr⟩ := lstOf_rd S e hv
    rw [intsD_ok dr e2] at ho
    exact cr_sum hc pins s σ H _ us Q I r ⟨a, ns, rfl, .inl ho, p.now S (.int _)⟩
  · exact p.elim
theorem blt_all (hc : X.calm = true) : CallR X (.builtin "all") (rBlt X.K bAll) := by
  intro pins s σ H xs us Q I r h
  obtain ⟨ws, M, μ, S, hw, p⟩ := h
  unfold bAll at p
  split at p
  · obtain ⟨xs, e, p⟩ := Post.withO p
    obtain ⟨ns, e2, p⟩ := Post.withO p
    obtain ⟨v, rfl, hv⟩ := hw.one
    obtain ⟨a, vs, rfl, ho, dr⟩ := lstOf_rd S e hv
    rw [boolsD_ok dr e2] at ho
    exact cr_all hc pins s σ H _ us Q I r ⟨a, ns, rfl, .inl ho, p.now S (.bl _)⟩
  · exact p.elim
theorem blt_any (hc : X.calm = true) : CallR X (.builtin "any") (rBlt X.K bAny) := by
  intro pins s σ H xs us Q I r h
  obtain ⟨ws, M, μ, S, hw, p⟩ := h
  unfold bAny at p
  split at p
  · obtain ⟨xs, e, p⟩ := Post.withO p
    obtain ⟨ns, e2, p⟩ := Post.withO p
    obtain ⟨v, rfl, hv⟩ := hw.one
    obtain ⟨a, vs, rfl, ho, dr⟩ := lstOf_rd S e hv
    rw [boolsD_ok dr e2] at ho
    exact cr_any hc pins s σ H _ us Q I r ⟨a, ns, rfl, .inl ho, p.now S (.bl _)⟩
  · exact p.elim
theorem fold_max : ∀ (xs : List Int) (x : Int), (∀ y, y ∈ x :: xs → y ≤ xs.foldl (fun a b => if a < b then b else a) x) ∧ xs.foldl (fun a b => if a < b then b else a) x ∈ x :: xs
  | [], x => ⟨fun y h => by simp at h; subst h; exact Int.le_refl _, by simp⟩
  | z :: zs, x => by
    rw [List.foldl_cons]
    by_cases hz : x < z
    · rw [if_pos hz]
      obtain ⟨h1, h2⟩ := fold_max zs z
      refine ⟨fun y h => ?_, List.mem_cons_of_mem _ h2⟩
      rcases List.mem_cons.mp h with rfl | h
      · have a := h1 _ List.mem_cons_self
        omega
      · exact h1 _ h
    · rw [if_neg hz]
      obtain ⟨h1, h2⟩ := fold_max zs x
      refine ⟨fun y h => ?_, ?_⟩
      · rcases List.mem_cons.mp h with rfl | h
        · exact h1 _ List.mem_cons_self
        · rcases List.mem_cons.mp h with rfl | h
          · have a := h1 _ List.mem_cons_self
            omega
          · exact h1 _ (List.mem_cons_of_mem _ h)
      · rcases List.mem_cons.mp h2 with e | h
        · rw [e]; exact List.mem_cons_self
        · exact List.mem_cons_of_mem _ (List.mem_cons_of_mem _ h)
theorem fold_min : ∀ (xs : List Int) (x : Int), (∀ y, y ∈ x :: xs → xs.foldl (fun a b => if b < a then b else a) x ≤ y) ∧ xs.foldl (fun a b => if b < a then b else a) x ∈ x :: xs
  | [], x => ⟨fun y h => by simp at h; subst h; exact Int.le_refl _, by simp⟩
  | z :: zs, x => by
    rw [List.foldl_cons]
    by_cases hz : z < x
    · rw [if_pos hz]
      obtain ⟨h1, h2⟩ := fold_min zs z
      refine ⟨fun y h => ?_, List.mem_cons_of_mem _ h2⟩
      rcases List.mem_cons.mp h with rfl | h
      · have a := h1 _ List.mem_cons_self
        omega
      · exact h1 _ h
    · rw [if_neg hz]
      obtain ⟨h1, h2⟩ := fold_min zs x
      refine ⟨fun y h => ?_, ?_⟩
      · rcases List.mem_cons.mp h with rfl | h
        · exact h1 _ List.mem_cons_self
        · rcases List.mem_cons.mp h with rfl | h
          · have a := h1 _ List.mem_cons_self
            omega
          · exact h1 _ (List.mem_cons_of_mem _ h)
      · rcases List.mem_cons.mp h2 with e | h
        · rw [e]; exact List.mem_cons_self
        · exact List.mem_cons_of_mem _ (List.mem_cons_of_mem _ h)
theorem blt_max1 (hc : X.calm = true) : CallR X (.builtin "max") (rBlt X.K bMax1) := by
  intro pins s σ H xs us Q I r h
  obtain ⟨ws, M, μ, S, hw, p⟩ := h
  unfold bMax1 at p
  split at p
  · obtain ⟨xs, e, p⟩ := Post.withO p
    obtain ⟨n, e2, p⟩ := Post.withO p
    obtain ⟨ns, e3, e4⟩ := Option.bind_eq_some_iff.mp e2
    obtain ⟨v, rfl, hv⟩ := hw.one
    obtain ⟨a, vs, rfl, ho, dr⟩ := lstOf_rd S e hv
    rw [intsD_ok dr e3] at ho
    cases ns with
    | nil => cases e4
    | cons x ns =>
      cases e4
      obtain ⟨h1, h2⟩ := fold_max ns x
      refine cr_max hc pins s σ H _ us Q I r ⟨a, x :: ns, rfl, .inl ho, Nat.succ_pos _, fun m hm hle => ?_⟩
      have e : m = ns.foldl (fun a b => if a < b then b else a) x := Int.le_antisymm (h1 m hm) (hle _ h2)
      rw [e]
      exact p.now S (.int _)
  · exact p.elim
theorem blt_min1 (hc : X.calm = true) : CallR X (.builtin "min") (rBlt X.K bMin1) := by
  intro pins s σ H xs us Q I r h
  obtain ⟨ws, M, μ, S, hw, p⟩ := h
  unfold bMin1 at p
  split at p
  · obtain ⟨xs, e, p⟩ := Post.withO p
    obtain ⟨n, e2, p⟩ := Post.withO p
    obtain ⟨ns, e3, e4⟩ := Option.bind_eq_some_iff.mp e2
    obtain ⟨v, rfl, hv⟩ := hw.one
    obtain ⟨a, vs, rfl, ho, dr⟩ := lstOf_rd S e hv
    rw [intsD_ok dr e3] at ho
    cases ns with
    | nil => cases e4
    | cons x ns =>
      cases e4
      obtain ⟨h1, h2⟩ := fold_min ns x
      refine cr_min hc pins s σ H _ us Q I r ⟨a, x :: ns, rfl, .inl ho, Nat.succ_pos _, fun m hm hle => ?_⟩
      have e : m = ns.foldl (fun a b => if b < a then b else a) x := Int.le_antisymm (hle _ h2) (h1 m hm)
      rw [e]
      exact p.now S (.int _)
  · exact p.elim
theorem keysOfW_ok {K : PySem.W.Frag} {H : Hp} {μ : Mu} {M : Store} {w : W} {v : V} {xs : List D} (S : StR K H μ M) (hv : WR K H μ w v) (h : keysOfW w M = some xs) : ∃ a kvs, v = .ref a ∧ H a = some (.dK kvs) ∧ DRs K H μ xs (kvs.map fun kv => kV kv.1) := by
  unfold keysOfW at h
  split at h
  · rename_i n
    split at h
    · rename_i ks q
      cases h
      rcases hv with ⟨a, ha, rfl⟩ | hw
      · obtain ⟨ob, h3, h4⟩ := S.cells n _ a q ha
        cases ob <;> first | exact h4.elim | skip
        rename_i vs
        refine ⟨a, vs, rfl, h3, ?_⟩
        have gen : ∀ {ks : List (Key × D)} {vs : List (Key × V)}, KRs K H μ ks vs → DRs K H μ (ks.map fun kv => kD kv.1) (vs.map fun kv => kV kv.1) := by
          intro ks vs r
          induction r with
          | nil => exact .nil
          | @cons k _ _ _ _ _ _ ih =>
            refine .cons ?_ ih
            cases k
            · exact .int _
            · exact .str _
        exact gen h4
      · cases S.deads n _ q hw
    · cases h
  · cases h
theorem blt_keys (hc : X.calm = true) (md : Md) : CallR X (.type "list") (rBlt X.K (bKeys md)) := by
  intro pins s σ H xs us Q I r h
  obtain ⟨ws, M, μ, S, hw, p⟩ := h
  unfold bKeys at p
  split at p
  · obtain ⟨xs, e, p⟩ := Post.withO p
    obtain ⟨v, rfl, hv⟩ := hw.one
    obtain ⟨a, kvs, rfl, ho, dr⟩ := keysOfW_ok S hv e
    exact call_list_dK hc pins s σ H _ us Q I r ⟨a, kvs, rfl, ho, p.mk S dr⟩
  · exact p.elim
/-- the pairs' addresses, keys and values -/
theorem pairs_dr {K : PySem.W.Frag} {H : Hp} {μ : Mu} : ∀ {xs : List D} {vs : List V} {acc kvs : List (Key × D)} {av : List (Key × V)}, DRs K H μ xs vs → dictG acc xs = some kvs → KRs K H μ acc av →
    ∃ (ps : List Addr) (kv : List (Key × V)), vs = ps.map V.ref ∧ Paired (fun p kv => SqT K H p [kV kv.1, kv.2]) ps kv ∧ KRs K H μ kvs (mergeK av kv)
  | [], _, acc, kvs, av, .nil, h, r => by
    cases h
    exact ⟨[], [], rfl, .nil, r⟩
  | x :: xs, v :: vs, acc, kvs, av, .cons d ds, h, r => by
    unfold dictG at h
    split at h
    · rename_i e; cases e
    · rename_i x' v' r' e
      cases e
      obtain ⟨j, h1, h2⟩ := Option.bind_eq_some_iff.mp h
      obtain ⟨a, us, rfl, hq, dr⟩ := DR.sqT d
      cases dr with
      | cons d1 dr =>
        cases dr with
        | cons d2 dr =>
          cases dr
          rename_i u1 u2
          have hk : u1 = kV j := by
            cases x' <;> first | (cases h1; cases d1; rfl) | cases h1
          subst hk
          obtain ⟨ps, kv, rfl, hp, hr⟩ := pairs_dr ds h2 (KRs.putV (k := j) d2 r)
          exact ⟨a :: ps, (j, u2) :: kv, rfl, .cons hq hp, hr⟩
    · cases h
/-- dict(t) of a known tuple of pairs -/
theorem call_dictT (hcalm : X.calm = true) : CallR X (.type "dict") (fun xs H Q => ∃ (a : Addr) (o : Obj) (ps : List Addr) (kvs : List (Key × V)), xs = [.ref a] ∧ H a = some (.frz o (.tup (ps.map V.ref))) ∧ o.cls = .type "tuple" ∧ o.dict = none ∧ Paired (fun p kv => SqT X.K H p [kV kv.1, kv.2]) ps kvs ∧
    ∀ p, H p = none → Q (.ref p) (upd H p (.dK (mergeK [] kvs)))) := by
  intro pins s σ H xs us Q I r q
  obtain ⟨a, o, ps, kvs, ex, hq, hc, hd, hp, q⟩ := q
  subst ex
  obtain ⟨u, eu, rx⟩ := vals1 r
  subst eu
  cases rx
  obtain ⟨ho, hz, its, rv, tp⟩ := I.hok a _ hq
  have ei := refs_at rv
  subst ei
  rw [List.length_map] at hz
  obtain ⟨o', ho', _, n, hdat⟩ := tp
  rw [ho] at ho'
  cases ho'
  obtain ⟨prs, rel, hl, hpr⟩ := pairs_of I hp
  have key : ∀ (j : Nat) (q : Key × Value), prs[j]? = some q → ∃ (b : Addr) (u : Value), ps[j]? = some b ∧ IsTup s.heap b #[u, q.2] ∧ keyIs q.1 u = true := hpr
  obtain ⟨us, hus⟩ : ∃ us : List (Value × Value), us.length = prs.length ∧ ∀ (j : Nat) (k v : Value), us[j]? = some (k, v) → ∃ q b, prs[j]? = some q ∧ ps[j]? = some b ∧ IsTup s.heap b #[k, v] ∧ keyIs q.1 k = true ∧ v = q.2 := by
    have gen : ∀ m, m ≤ prs.length → ∃ us : List (Value × Value), us.length = m ∧ ∀ (j : Nat) (k v : Value), us[j]? = some (k, v) → ∃ q b, prs[j]? = some q ∧ ps[j]? = some b ∧ IsTup s.heap b #[k, v] ∧ keyIs q.1 k = true ∧ v = q.2 := by
      intro m
      induction m with
      | zero => exact fun _ => ⟨[], rfl, fun j k v e => by simp at e⟩
      | succ m ih =>
        intro hm
        obtain ⟨us, h1, h2⟩ := ih (by omega)
        obtain ⟨b, u, e1, e2, e3⟩ := key m prs[m] (List.getElem?_eq_getElem (by omega))
        refine ⟨us ++ [(u, prs[m].2)], by simp [h1], fun j k v e => ?_⟩
        by_cases hj : j < us.length
        · rw [List.getElem?_append_left hj] at e
          exact h2 j k v e
        · rw [List.getElem?_append_right (by omega)] at e
          have : j - us.length = 0 := by
            have := (List.getElem?_eq_some_iff.mp e).1
            simp at this
            omega
          have hj2 : j = m := by omega
          subst hj2
          rw [this] at e
          cases e
          exact ⟨prs[j], b, List.getElem?_eq_getElem (by omega), e1, e2, e3, rfl⟩
    exact gen prs.length (Nat.le_refl _)
  obtain ⟨hul, hup⟩ := hus
  refine PySem.call_dict_pairs (knd := mixKind X.prog X.w) (kvs := prs) (PairArg.tuple a (ps.map Value.ref).toArray (fun j => ps.getD j 0) us) (I.ok.hd hcalm) ⟨⟨o, n, ho, hc, hd, hdat⟩, ?_⟩ ⟨by rw [hul], ?_⟩ (by rw [hul, hl]; exact hz) fun h' tk hd' k => ?_
  · refine ⟨by simp [hul, hl], fun j k v e => ?_⟩
    obtain ⟨q, b, e1, e2, e3, e4, e5⟩ := hup j k v e
    have hg : ps.getD j 0 = b := by rw [List.getD_eq_getElem?_getD, e2]; rfl
    exact ⟨by simp [e2, hg], .inl (show s.heap.IsTuple (ps.getD j 0) _ from by rw [hg]; exact e3)⟩
  · intro j k v e
    obtain ⟨q, b, e1, e2, e3, e4, e5⟩ := hup j k v e
    exact ⟨q.1, by rw [e1, e5], e4⟩
  · have hm : (s.heap.objs.size == sysModules) = false := beq_eq_false_iff_ne.mpr (Nat.ne_of_gt I.big)
    have hlen : (mergeK [] kvs).length ≤ sizeLine := by
      refine Nat.le_trans (length_mergeK kvs []) ?_
      rw [List.length_nil, Nat.zero_add, rel.length, hl]
      exact hz
    exact ⟨.ref s.heap.objs.size, upd H s.heap.objs.size (.dK (mergeK [] kvs)), I.laid (t' := tk) (fun b o e => k b o (by simp) e) (Nat.le_refl _) (show ObjOk X.prog X.w _ _ _ (.dK (mergeK [] kvs)) from ⟨hlen, hm, merged [] prs, KV.merge rel .nil, hd'⟩), rfl, q _ (I.hok.fresh (Nat.le_refl _))⟩
theorem blt_dict (hcalm : X.calm = true) : CallR X (.type "dict") (rBlt X.K bDict) := by
  intro pins s σ H xs us Q I r h
  obtain ⟨ws, M, μ, S, hw, p⟩ := h
  unfold bDict at p
  split at p
  · rename_i ts
    obtain ⟨kvs, e, p⟩ := Post.withO p
    obtain ⟨v, rfl, hv⟩ := hw.one
    obtain ⟨a, vs, o, rfl, f, g, c, d, dr⟩ := hv
    obtain ⟨ps, kv, rfl, hp, hr⟩ := pairs_dr dr e .nil
    refine call_dictT hcalm pins s σ H _ us Q I r ⟨a, o, ps, kv, rfl, g, c, d, hp, fun b hb => ?_⟩
    obtain ⟨s1, S1, w1⟩ := stp_cell (c := .dK kvs) (o := .dK (mergeK [] kv)) S hb hr trivial
    exact p _ _ _ s1 S1 w1
  · rename_i w hne
    split at p
    · rename_i ts q
      obtain ⟨kvs, e, p⟩ := Post.withO p
      obtain ⟨v, rfl, hv⟩ := hw.one
      obtain ⟨a, vs, rfl, rd, dr⟩ := lstOf_rd S q hv
      obtain ⟨ps, kv, rfl, hp, hr⟩ := pairs_dr dr e .nil
      refine call_dictP hcalm pins s σ H _ us Q I r ⟨a, ps, kv, rfl, .inl rd, hp, fun b hb => ?_⟩
      obtain ⟨s1, S1, w1⟩ := stp_cell (c := .dK kvs) (o := .dK (mergeK [] kv)) S hb hr trivial
      exact p _ _ _ s1 S1 w1
    · split at p
      · rename_i n _
        split at p
        · rename_i kvs q
          obtain ⟨v, rfl, hv⟩ := hw.one
          rcases hv with ⟨a, ha, rfl⟩ | hw
          · obtain ⟨ob, h3, h4⟩ := S.cells n _ a q ha
            cases ob <;> first | exact h4.elim | skip
            rename_i vs
            refine call_dictD pins s σ H _ us Q I r ⟨a, vs, rfl, .inl h3, fun b hb => ?_⟩
            obtain ⟨s1, S1, w1⟩ := stp_cell (c := .dK kvs) (o := .dK vs) S hb h4 trivial
            exact p _ _ _ s1 S1 w1
          · cases S.deads n _ q hw
        · exact p.elim
      · exact p.elim
  · exact p.elim
/-- tuple(l): a tuple that is known -/
theorem call_tupleK : CallR X (.type "tuple") (fun xs H Q => ∃ p ys, xs = [.ref p] ∧ SqL X.K H p ys ∧ ∀ l o, o.cls = .type "tuple" → o.dict = none → H l = none → Q (.ref l) (upd H l (.frz o (.tup ys)))) := by
  intro pins s σ H xs us Q I r h
  obtain ⟨p, ys, rfl, hq, q⟩ := h
  obtain ⟨u, rfl, rx⟩ := vals1 r
  cases rx
  obtain ⟨its, r', pl, hz⟩ := I.list hq
  have hlen := r'.length
  refine call_tuple_list pl.isList (fun h' kp => ?_) (by simp only [List.size_toArray] <;> omega)
  have I1 : Inv X pins σ H { s with heap := h' } := I.kept (t' := s.toks) kp
  have I2 : Inv X pins σ (upd H h'.objs.size (.frz { cls := .type "tuple", data := .seq its.toArray } (.tup ys))) { s with heap := h'.push { cls := .type "tuple", data := .seq its.toArray } } :=
    I1.laid (t' := s.toks) (fun b o e => Heap.get?_push_of_some _ e) (Nat.le_refl _) (show ObjOk X.prog X.w _ _ _ (.frz _ (.tup ys)) from ⟨Heap.get?_push_size _ rfl, hz, its, r', IsTup.new _ _⟩)
  exact ⟨.ref h'.objs.size, _, I2, rfl, q _ _ rfl rfl (I1.hok.fresh (Nat.le_refl _))⟩
theorem blt_tupk : CallR X (.type "tuple") (rBlt X.K bTupk) := by
  intro pins s σ H xs us Q I r h
  obtain ⟨ws, M, μ, S, hw, p⟩ := h
  unfold bTupk at p
  split at p
  · obtain ⟨xs, e, p⟩ := Post.withO p
    obtain ⟨v, rfl, hv⟩ := hw.one
    obtain ⟨a, vs, rfl, rd, dr⟩ := lstOf_rd S e hv
    refine call_tupleK pins s σ H _ us Q I r ⟨a, vs, rfl, .inl rd, fun l o hc hd hl => ?_⟩
    obtain ⟨st, S'⟩ := stp_new (o := .frz o (.tup vs)) S hl
    exact p _ _ _ st S' ⟨l, vs, o, rfl, S.free hl, upd_same, hc, hd, dr.stp st⟩
  · exact p.elim
theorem DRs.map_str {K : PySem.W.Frag} {H : Hp} {μ : Mu} : ∀ ys : List Str, DRs K H μ (ys.map .str) (ys.map V.str)
  | [] => .nil
  | _ :: ys => .cons (.str _) (DRs.map_str ys)
theorem mth_split : MtR X "str.split" (rMth X.K mSplit) := by
  intro pins s σ H x xs v us Q I rx rs h
  obtain ⟨w, ws, M, μ, S, hw, hs, p⟩ := h
  unfold mSplit at p
  split at p
  · rename_i x0 y0
    obtain ⟨c, p⟩ := Post.must p
    obtain ⟨u, rfl, hu⟩ := hs.one
    cases hw
    cases hu
    refine mt_split pins s σ H _ _ v us Q I rx rs ⟨_, _, rfl, rfl, c.1, c.2, ?_⟩
    exact Post.mk (md := .F) p S (DRs.map_str _)
  · exact p.elim
theorem mth_find : MtR X "str.find" (rMth X.K mFind) := by
  intro pins s σ H x xs v us Q I rx rs h
  obtain ⟨w, ws, M, μ, S, hw, hs, p⟩ := h
  unfold mFind at p
  split at p
  · rename_i x0 y0
    obtain ⟨u, rfl, hu⟩ := hs.one
    cases hw
    cases hu
    exact mt_find pins s σ H _ _ v us Q I rx rs ⟨_, _, rfl, rfl, p.now S (.int _)⟩
  · exact p.elim
theorem mth_lower : MtR X "str.lower" (rMth X.K mLower) := by
  intro pins s σ H x xs v us Q I rx rs h
  obtain ⟨w, ws, M, μ, S, hw, hs, p⟩ := h
  unfold mLower at p
  split at p
  · rename_i x0
    obtain ⟨c, p⟩ := Post.must p
    cases hw
    cases hs
    exact mt_lower pins s σ H _ _ v us Q I rx rs ⟨_, rfl, rfl, c, p.now S (.str _)⟩
  · exact p.elim
theorem mth_insert : MtR X "list.insert" (rMth X.K mInsert) := by
  intro pins s σ H x xs v us Q I rx rs h
  obtain ⟨w, ws, M, μ, S, hw, hs, p⟩ := h
  unfold mInsert at p
  split at p
  · obtain ⟨u1, u, rfl, hu1, hu⟩ := hs.two
    cases hu1
    obtain ⟨q, e0, p⟩ := Post.withO p
    obtain ⟨μ1, s1, S1, d1⟩ := frzW_ok S hu e0
    have p := Post.weak s1 p
    obtain ⟨ys, e, p⟩ := Post.withO p
    obtain ⟨⟨c, c2, c3⟩, p⟩ := Post.must p
    obtain ⟨a, vs, ha, rfl, ho, dr⟩ := S1.cell e (hw.stp s1)
    refine mt_insert pins s σ H _ _ v us Q I rx rs ⟨a, vs, _, u, rfl, rfl, ho, by rw [← dr.length]; exact c, c2, c3, ?_⟩
    exact Post.set (w := .d .none) p S1 ha ho (((dr.take _).append (.cons d1 .nil)).append (dr.drop _)) .non
  · exact p.elim
theorem mth_join : MtR X "str.join" (rMth X.K mJoin) := by
  intro pins s σ H x xs v us Q I rx rs h
  obtain ⟨w, ws, M, μ, S, hw, hs, p⟩ := h
  unfold mJoin at p
  split at p
  · rename_i x0 w0
    obtain ⟨ds, e, p⟩ := Post.withO p
    obtain ⟨ys, e2, p⟩ := Post.withO p
    obtain ⟨c, p⟩ := Post.must p
    obtain ⟨u, rfl, hu⟩ := hs.one
    cases hw
    obtain ⟨a, vs, rfl, hq, dr⟩ := seqOf_sq S e hu
    rw [strsD_ok dr e2] at hq
    exact mt_join pins s σ H _ _ v us Q I rx rs ⟨_, a, ys, rfl, rfl, hq, c, p.now S (.str _)⟩
  · exact p.elim
end
end Ev
set_option Elab.async false
set_option linter.all false
set_option maxRecDepth 100000
/-! EvDc: sorted -/
namespace Ev
open PySem PySem.Spec PyProof.Rows L2
variable [XT] [XA] [XE]
section
variable {X : Cx}
theorem each_dr {K : PySem.W.Frag} {H : Hp} {μ : Mu} : ∀ {vs : List V} {us : List Value} {xs : List D}, Vals vs us → DRs K H μ xs vs → PySem.W.EachIs (fun u d => ∃ v, RelV v u ∧ DR K H μ d v) us xs
  | _, _, _, .nil, .nil => .nil
  | _, _, _, .cons r rr, .cons d dd => .cons ⟨_, r, d⟩ (each_dr rr dd)
theorem each_back {K : PySem.W.Frag} {H : Hp} {μ : Mu} : ∀ {us : List Value} {xs : List D}, PySem.W.EachIs (fun u d => ∃ v, RelV v u ∧ DR K H μ d v) us xs → ∃ vs, Vals vs us ∧ DRs K H μ xs vs
  | _, _, .nil => ⟨[], .nil, .nil⟩
  | _, _, .cons ⟨v, r, d⟩ t => by
    obtain ⟨vs, h1, h2⟩ := each_back t
    exact ⟨v :: vs, .cons r h1, .cons d h2⟩
theorem alikeB_ok {xs : List D} (h : alikeB xs = true) : PySem.W.AllAlike xs := fun d hd d' hd' => by
  unfold alikeB at h
  exact List.all_eq_true.mp (List.all_eq_true.mp h d hd) d' hd'
theorem sortOk_ok {xs : List D} (h : sortOk xs = true) : PySem.W.AllAlike xs ∧ PySem.W.Sortable xs ∧ ∀ d ∈ xs, d.depth ≤ 60 := by
  unfold sortOk at h
  simp only [Bool.and_eq_true, Bool.or_eq_true] at h
  obtain ⟨⟨h1, h2⟩, h3⟩ := h
  refine ⟨alikeB_ok h1, ?_, fun d hd => by simpa using List.all_eq_true.mp h3 d hd⟩
  rcases h2 with h2 | h2
  · refine .inl fun d hd => ?_
    have q := List.all_eq_true.mp h2 d hd
    split at q
    · exact ⟨_, _, rfl⟩
    · cases q
  · refine .inr fun d hd => ?_
    have q := List.all_eq_true.mp h2 d hd
    split at q
    · cases q
    · cases q
    · rename_i h4 h5
      exact ⟨h4, fun xs e => h5 xs e⟩
theorem blt_sorted (hu : X.A.units + 65 < cLine) (md : Md) : CallR X (.builtin "sorted") (rBlt X.K (bSorted md)) := by
  intro pins s σ H vs us Q I r h
  obtain ⟨ws, M, μ, S, hw, p⟩ := h
  unfold bSorted at p
  split at p
  · obtain ⟨xs, e, p⟩ := Post.withO p
    obtain ⟨c, p⟩ := Post.must p
    obtain ⟨v, rfl, hv⟩ := hw.one
    obtain ⟨a, vs, rfl, ho, dr⟩ := lstOf_rd S e hv
    obtain ⟨its, rv, hl, hz⟩ := I.list (.inl ho)
    rw [Vals.ref1 r]
    obtain ⟨c1, c2, c3⟩ := sortOk_ok c
    have er : PySem.W.EachIs (fun u d => ∃ as, Reads s.heap u d as) its xs := (each_dr rv dr).mono fun u d ⟨v, r1, d1⟩ => Dp.reads I d v u d1.dp r1
    have hlen : xs.length = its.length := dr.length.trans rv.length
    refine PySem.W.sorted_data (R := fun u d => ∃ v, RelV v u ∧ DR X.K H μ d v) (enc := id) hl.isList (each_dr rv dr) er (by rw [List.map_id]; exact c1) (by rw [List.map_id]; exact c2) (by rw [hlen, ← rv.length]; exact hz) (fun d hd => by
      have := c3 d hd
      show X.A.units + 2 + d.depth < cLine
      omega) fun out h1 h2 => ?_
    obtain ⟨vs', q1, q2⟩ := each_back h2
    have q2 : DRs X.K H μ (xs.mergeSort leD) vs' := q2
    obtain ⟨ep, he'⟩ := PyProof.Rows.sortedAll_at s.heap its out.toArray
    have hl2 : vs'.length ≤ sizeLine := by rw [q1.length, h1, hlen, ← rv.length]; exact hz
    exact ⟨.ref _, upd H (s.heap.objs.size + 1) (.lst vs'), I.laid (t' := s.toks) (fun _ _ => PyProof.Rows.sortedAll_old) (Nat.le_succ _) ⟨hl2, out, ep, q1, he'⟩, rfl, p.mk S q2 _ (I.hok.fresh (Nat.le_succ _))⟩
  · exact p.elim
end
end Ev
set_option Elab.async false
set_option linter.all false
set_option maxRecDepth 100000
/-! EvE: targets, what is walked, loops, comprehensions -/
namespace Ev
open PySem PySem.Spec PyProof.Rows L2
variable [XT] [XA] [XE]

/-! ### targets -/
mutual
def ctS : CT → List Nat
  | .name i => [i]
  | .tup ts => ctSs ts
def ctSs : CTs → List Nat
  | .nil => []
  | .cons t r => ctS t ++ ctSs r
end
def ctL : CTs → Nat
  | .nil => 0
  | .cons _ r => ctL r + 1
mutual
def gT (K : PySem.W.Frag) : CT → TG
  | .name i => gName i
  | .tup ts => gTup K (ctL ts) (gTs K ts)
def gTs (K : PySem.W.Frag) : CTs → TGs
  | .nil => gNil
  | .cons t r => gCons (gT K t) (gTs K r)
end
theorem wipe_set {i : Nat} {x : Option V} : ∀ {vs : List Nat} {σ : L2.St}, i ∈ vs → wipe (σ.set i x) vs = wipe σ vs
  | [], _, h => by simp at h
  | v :: vs, σ, h => by
    unfold wipe
    by_cases e : i = v
    · subst e
      by_cases hm : i ∈ vs
      · rw [wipe_set hm]
      · have : ∀ vs : List Nat, i ∉ vs → wipe (σ.set i x) vs = (wipe σ vs).set i x := by
          intro vs
          induction vs with
          | nil => intro _; rfl
          | cons u us ih =>
            intro hn
            simp only [List.mem_cons, not_or] at hn
            unfold wipe
            rw [ih hn.2, List.set_comm _ _ hn.1]
        rw [this vs hm, List.set_set]
    · have hm : i ∈ vs := by
        rcases List.mem_cons.mp h with z | z
        · exact absurd z e
        · exact z
      rw [wipe_set hm]
theorem EnvR.set {K : PySem.W.Frag} {H : Hp} {μ : Mu} {e : Env} {σ : L2.St} {i : Nat} {w : W} {v : V} (h : EnvR K H μ e σ) (r : WR K H μ w v) : EnvR K H μ (e.set i (some w)) (σ.set i (some v)) := by
  refine ⟨by simp [h.len], fun j u q => ?_⟩
  by_cases hj : i = j
  · subst hj
    by_cases hl : i < e.length
    · rw [List.getElem?_set_self hl] at q
      cases q
      exact ⟨v, List.getElem?_set_self (by rw [← h.len]; exact hl), r⟩
    · rw [List.getElem?_eq_none (by simpa using hl)] at q; cases q
  · rw [List.getElem?_set_ne hj] at q ⊢
    exact h.at_ j u q
section
variable {K : PySem.W.Frag} {H : Hp} {μ : Mu}
mutual
theorem gT_ok : ∀ {tg : CT} {w : W} {v : V} {e e' : Env} {σ : L2.St} {Q : L2.St → Hp → Prop}, asgT tg w e = some e' → WR K H μ w v → EnvR K H μ e σ →
    (∀ σ', EnvR K H μ e' σ' → (∀ vs : List Nat, (∀ i ∈ ctS tg, i ∈ vs) → wipe σ' vs = wipe σ vs) → Q σ' H) → gT K tg v σ H Q
  | .name i, w, v, e, e', σ, Q, h, r, E, q => by
    simp only [asgT, Option.some.injEq] at h
    subst h
    exact q _ (E.set r) fun vs hv => wipe_set (hv i (by simp [ctS]))
  | .tup ts, .d x, v, e, e', σ, Q, h, r, E, q => by
    cases x with
    | tuple xs =>
      simp only [asgT] at h
      obtain ⟨a, vs, rfl, ha, dr⟩ := DR.sqT r
      refine ⟨a, vs, rfl, ha, ?_, gTs_ok h dr E fun σ' E' hw => q σ' E' fun vs hv => hw vs (by simpa [ctS] using hv)⟩
      rw [← dr.length]
      exact asgTs_len h
    | _ => simp [asgT] at h
  | .tup ts, .g xs, v, e, e', σ, Q, h, r, E, q => by
    simp only [asgT] at h
    obtain ⟨a, vs, rfl, ha, dr⟩ := r
    refine ⟨a, vs, rfl, .inr ha, ?_, gGs_ok h dr E fun σ' E' hw => q σ' E' fun vs hv => hw vs (by simpa [ctS] using hv)⟩
    rw [← dr.length]
    exact asgGs_len h
  | .tup ts, .r n, v, e, e', σ, Q, h, r, E, q => by simp [asgT] at h
  | .tup ts, .s n, v, e, e', σ, Q, h, r, E, q => by simp [asgT] at h
theorem gTs_ok : ∀ {ts : CTs} {xs : List D} {vs : List V} {e e' : Env} {σ : L2.St} {Q : L2.St → Hp → Prop}, asgTs ts xs e = some e' → DRs K H μ xs vs → EnvR K H μ e σ →
    (∀ σ', EnvR K H μ e' σ' → (∀ vs : List Nat, (∀ i ∈ ctSs ts, i ∈ vs) → wipe σ' vs = wipe σ vs) → Q σ' H) → gTs K ts vs σ H Q
  | .nil, [], _, e, e', σ, Q, h, .nil, E, q => by
    simp only [asgTs, Option.some.injEq] at h
    subst h
    exact ⟨rfl, q σ E fun _ _ => rfl⟩
  | .cons t r, x :: xs, _, e, e', σ, Q, h, .cons hx hr, E, q => by
    simp only [asgTs, Option.bind_eq_some_iff] at h
    obtain ⟨e1, h1, h2⟩ := h
    refine ⟨_, _, rfl, gT_ok h1 hx E fun σ1 E1 w1 => gTs_ok h2 hr E1 fun σ2 E2 w2 => q σ2 E2 fun vs hv => ?_⟩
    rw [w2 vs (fun i hi => hv i (by simp [ctSs, hi])), w1 vs (fun i hi => hv i (by simp [ctSs, hi]))]
  | .nil, _ :: _, _, e, e', σ, Q, h, _, E, q => by simp [asgTs] at h
  | .cons _ _, [], _, e, e', σ, Q, h, _, E, q => by simp [asgTs] at h
theorem gGs_ok : ∀ {ts : CTs} {xs : List D} {vs : List V} {e e' : Env} {σ : L2.St} {Q : L2.St → Hp → Prop}, asgGs ts xs e = some e' → KDs K xs vs → EnvR K H μ e σ →
    (∀ σ', EnvR K H μ e' σ' → (∀ vs : List Nat, (∀ i ∈ ctSs ts, i ∈ vs) → wipe σ' vs = wipe σ vs) → Q σ' H) → gTs K ts vs σ H Q
  | .nil, [], _, e, e', σ, Q, h, .nil, E, q => by
    simp only [asgGs, Option.some.injEq] at h
    subst h
    exact ⟨rfl, q σ E fun _ _ => rfl⟩
  | .cons t r, x :: xs, _, e, e', σ, Q, h, .cons hx hr, E, q => by
    simp only [asgGs, Option.bind_eq_some_iff] at h
    obtain ⟨e1, h1, h2⟩ := h
    refine ⟨_, _, rfl, gT_ok h1 hx.gw E fun σ1 E1 w1 => gGs_ok h2 hr E1 fun σ2 E2 w2 => q σ2 E2 fun vs hv => ?_⟩
    rw [w2 vs (fun i hi => hv i (by simp [ctSs, hi])), w1 vs (fun i hi => hv i (by simp [ctSs, hi]))]
  | .nil, _ :: _, _, e, e', σ, Q, h, _, E, q => by simp [asgGs] at h
  | .cons _ _, [], _, e, e', σ, Q, h, _, E, q => by simp [asgGs] at h
theorem asgGs_len : ∀ {ts : CTs} {xs : List D} {e e' : Env}, asgGs ts xs e = some e' → xs.length = ctL ts
  | .nil, [], _, _, _ => rfl
  | .cons t r, x :: xs, e, e', h => by
    simp only [asgGs, Option.bind_eq_some_iff] at h
    obtain ⟨e1, h1, h2⟩ := h
    show xs.length + 1 = ctL r + 1
    rw [asgGs_len h2]
  | .nil, _ :: _, _, _, h => by simp [asgGs] at h
  | .cons _ _, [], _, _, h => by simp [asgGs] at h
theorem asgTs_len : ∀ {ts : CTs} {xs : List D} {e e' : Env}, asgTs ts xs e = some e' → xs.length = ctL ts
  | .nil, [], _, _, _ => rfl
  | .cons t r, x :: xs, e, e', h => by
    simp only [asgTs, Option.bind_eq_some_iff] at h
    obtain ⟨e1, h1, h2⟩ := h
    show xs.length + 1 = ctL r + 1
    rw [asgTs_len h2]
  | .nil, _ :: _, _, _, h => by simp [asgTs] at h
  | .cons _ _, [], _, _, h => by simp [asgTs] at h
end
end

theorem asgI_w (tg : CT) (x : W) (e : Env) : asgI tg (.w x) e = asgT tg x e := by cases tg <;> rfl
def IR (K : PySem.W.Frag) (H : Hp) (μ : Mu) : Itm → V → Prop
  | .w x, v => WR K H μ x v
  | .p x y, v => ∃ a u w, v = .ref a ∧ SqT K H a [u, w] ∧ WR K H μ x u ∧ WR K H μ y w
theorem gI_ok {K : PySem.W.Frag} {H : Hp} {μ : Mu} : ∀ {tg : CT} {x : Itm} {v : V} {e e' : Env} {σ : L2.St} {Q : L2.St → Hp → Prop}, asgI tg x e = some e' → IR K H μ x v → EnvR K H μ e σ →
    (∀ σ', EnvR K H μ e' σ' → (∀ vs : List Nat, (∀ i ∈ ctS tg, i ∈ vs) → wipe σ' vs = wipe σ vs) → Q σ' H) → gT K tg v σ H Q := by
  intro tg x v e e' σ Q h r E q
  cases x with
  | w x => exact gT_ok (by rw [← asgI_w]; exact h) r E q
  | p x y =>
    unfold asgI at h
    split at h
    · rename_i hh; cases hh
    · rename_i a b hh
      cases hh
      obtain ⟨c, u, z, rfl, hc, r1, r2⟩ := r
      obtain ⟨e1, h1, h2⟩ := Option.bind_eq_some_iff.mp h
      refine ⟨c, [u, z], rfl, hc, rfl, ?_⟩
      refine ⟨_, _, rfl, gT_ok h1 r1 E fun σ1 E1 w1 => ⟨_, _, rfl, gT_ok h2 r2 E1 fun σ2 E2 w2 => ⟨rfl, q σ2 E2 fun vs hv => ?_⟩⟩⟩
      rw [w2 vs (fun i hi => hv i (by simp [ctS, ctSs, hi])), w1 vs (fun i hi => hv i (by simp [ctS, ctSs, hi]))]
    · cases h
/-! ### what is walked -/
def Turn1 (K : PySem.W.Frag) (J : It) (xs : List D) (i : Nat) (H1 : Hp) (μ1 : Mu) (M1 : Store) : Prop :=
  (∀ x, xs[i]? = some x → J.go i H1 ∧ ∀ v H2, J.yld i H1 v H2 → Stp H1 μ1 H2 μ1 ∧ StR K H2 μ1 M1 ∧ DR K H2 μ1 x v) ∧ (xs[i]? = none → J.stop i H1)
def TurnW (K : PySem.W.Frag) (J : It) (xs : List W) (i : Nat) (H1 : Hp) (μ1 : Mu) (M1 : Store) : Prop :=
  (∀ x, xs[i]? = some x → J.go i H1 ∧ ∀ v H2, J.yld i H1 v H2 → Stp H1 μ1 H2 μ1 ∧ StR K H2 μ1 M1 ∧ WR K H2 μ1 x v) ∧ (xs[i]? = none → J.stop i H1)
def TurnI (K : PySem.W.Frag) (J : It) (en : Bool) (xs : List W) (i : Nat) (H1 : Hp) (μ1 : Mu) (M1 : Store) : Prop :=
  (∀ x, xs[i]? = some x → J.go i H1 ∧ ∀ v H2, J.yld i H1 v H2 → Stp H1 μ1 H2 μ1 ∧ StR K H2 μ1 M1 ∧ IR K H2 μ1 (itm en i x) v) ∧ (xs[i]? = none → J.stop i H1)
theorem Turn1.w {K : PySem.W.Frag} {J : It} {xs : List D} {i : Nat} {H1 : Hp} {μ1 : Mu} {M1 : Store} (h : Turn1 K J xs i H1 μ1 M1) : TurnW K J (xs.map .d) i H1 μ1 M1 := by
  refine ⟨fun x hx => ?_, fun hx => ?_⟩
  · rw [List.getElem?_map] at hx
    obtain ⟨y, hy, rfl⟩ := Option.map_eq_some_iff.mp hx
    exact h.1 y hy
  · rw [List.getElem?_map] at hx
    exact h.2 (Option.map_eq_none_iff.mp hx)
def RI (K : PySem.W.Frag) (H : Hp) (μ : Mu) (j : Ev.Its) (J : It) : Prop := match j with
  | .items xs => ∀ H1 μ1 M1, Wk H μ H1 μ1 → StR K H1 μ1 M1 → ∀ i, Turn1 K J xs i H1 μ1 M1
  | .cell en n => ∀ H1 μ1 M1 xs, Wk H μ H1 μ1 → StR K H1 μ1 M1 → cellWs M1 n = some xs → ∀ i, TurnI K J en xs i H1 μ1 M1
  | .gs xs => ∀ H1 μ1 M1, Wk H μ H1 μ1 → StR K H1 μ1 M1 → ∀ i, TurnW K J (xs.map gW) i H1 μ1 M1
  | .keys n => ∀ H1 μ1 M1 xs, Wk H μ H1 μ1 → StR K H1 μ1 M1 → lkKeys M1 n = some xs → ∀ i, Turn1 K J xs i H1 μ1 M1
def tI (K : PySem.W.Frag) (ev : Env → Store → Res Ev.Its) : TI := fun σ H R => ∃ e M μ, At K H μ e σ M ∧ Post K (RI K) H μ (ev e M) R
section
variable {K : PySem.W.Frag} {H : Hp} {μ : Mu} {M : Store}
theorem turn_sqL {a : Addr} {vs : List V} {xs : List D} {i : Nat} (S : StR K H μ M) (q : SqL K H a vs) (r : DRs K H μ xs vs) : Turn1 K (Itl K a) xs i H μ M := by
  refine ⟨fun x hx => ?_, fun hx => ?_⟩
  · obtain ⟨v, h1, h2⟩ := r.get hx
    refine ⟨⟨vs, v, q, h1⟩, fun u H2 y => ?_⟩
    obtain ⟨rfl, y⟩ := y
    have e := y vs q
    rw [h1] at e; cases e
    exact ⟨Stp.refl, S, h2⟩
  · have hl := List.getElem?_eq_none_iff.mp hx
    exact ⟨vs, q, by rw [← r.length]; exact hl⟩
theorem turn_wl {a : Addr} {vs : List V} {xs : List W} {i : Nat} (S : StR K H μ M) (q : SqL K H a vs) (r : WRs K H μ xs vs) : TurnW K (Itl K a) xs i H μ M := by
  refine ⟨fun x hx => ?_, fun hx => ?_⟩
  · obtain ⟨v, h1, h2⟩ := atI_wr r hx
    refine ⟨⟨vs, v, q, h1⟩, fun u H2 y => ?_⟩
    obtain ⟨rfl, y⟩ := y
    have e := y vs q
    rw [h1] at e; cases e
    exact ⟨Stp.refl, S, h2⟩
  · have hl := List.getElem?_eq_none_iff.mp hx
    exact ⟨vs, q, by rw [← r.length]; exact hl⟩
theorem turn_gs {a : Addr} {vs : List V} {xs : List D} {i : Nat} (S : StR K H μ M) (q : KTp K a vs) (r : KDs K xs vs) : TurnW K (Itt K a) (xs.map gW) i H μ M := by
  refine ⟨fun x hx => ?_, fun hx => ?_⟩
  · rw [List.getElem?_map] at hx
    obtain ⟨y, hy, rfl⟩ := Option.map_eq_some_iff.mp hx
    obtain ⟨v, h1, h2⟩ := r.get hy
    refine ⟨⟨vs, v, .inr q, h1⟩, fun u H2 y => ?_⟩
    obtain ⟨rfl, y⟩ := y
    have e := y vs (.inr q)
    rw [h1] at e; cases e
    exact ⟨Stp.refl, S, h2.gw⟩
  · rw [List.getElem?_map] at hx
    have hl := List.getElem?_eq_none_iff.mp (Option.map_eq_none_iff.mp hx)
    exact ⟨vs, .inr q, by rw [← r.length]; exact hl⟩
/-- a list's cell, of data or not -/
theorem StR.cws (S : StR K H μ M) {n : Nat} {xs : List W} {v : V} (h : cellWs M n = some xs) (w : WR K H μ (.r n) v) : ∃ a vs, v = .ref a ∧ H a = some (.lst vs) ∧ WRs K H μ xs vs := by
  unfold cellWs at h
  split at h
  · rename_i ys hq
    cases h
    obtain ⟨a, vs, _, e, ho, r⟩ := S.cell (show cellLst M n = some ys by unfold cellLst; rw [hq]) w
    exact ⟨a, vs, e, ho, DRs.wrs r⟩
  · rename_i ys hq
    cases h
    obtain ⟨a, vs, _, e, ho, r⟩ := S.wlc hq w
    exact ⟨a, vs, e, ho, r⟩
  · cases h
theorem turn_sqT {a : Addr} {vs : List V} {xs : List D} {i : Nat} (S : StR K H μ M) (q : SqT K H a vs) (r : DRs K H μ xs vs) : Turn1 K (Itt K a) xs i H μ M := by
  refine ⟨fun x hx => ?_, fun hx => ?_⟩
  · obtain ⟨v, h1, h2⟩ := r.get hx
    refine ⟨⟨vs, v, q, h1⟩, fun u H2 y => ?_⟩
    obtain ⟨rfl, y⟩ := y
    have e := y vs q
    rw [h1] at e; cases e
    exact ⟨Stp.refl, S, h2⟩
  · have hl := List.getElem?_eq_none_iff.mp hx
    exact ⟨vs, q, by rw [← r.length]; exact hl⟩
theorem turn_rng {lo : Int} {n i : Nat} (S : StR K H μ M) : Turn1 K (Itr lo n) ((List.range n).map fun (i : Nat) => .int (lo + i)) i H μ M := by
  refine ⟨fun x hx => ?_, fun hx => ?_⟩
  · have hi := (List.getElem?_eq_some_iff.mp hx).1
    simp at hi
    rw [List.getElem?_map, List.getElem?_range hi] at hx
    cases hx
    exact ⟨hi, fun v H2 y => by
      obtain ⟨rfl, rfl⟩ := y
      exact ⟨Stp.refl, S, .int _⟩⟩
  · have hl := List.getElem?_eq_none_iff.mp hx
    show n ≤ i
    simpa using hl
theorem turn_str {z : Str} {i : Nat} (S : StR K H μ M) : Turn1 K (L2.Its z) (z.cps.toList.map fun c => .str ⟨#[c]⟩) i H μ M := by
  refine ⟨fun x hx => ?_, fun hx => ?_⟩
  · have hi := (List.getElem?_eq_some_iff.mp hx).1
    have hi2 : i < z.cps.size := by simpa using hi
    refine ⟨hi2, fun v H2 y => ?_⟩
    obtain ⟨rfl, c, hc, rfl⟩ := y
    rw [List.getElem?_map, Array.getElem?_toList, hc] at hx
    cases hx
    exact ⟨Stp.refl, S, .str _⟩
  · have hl := List.getElem?_eq_none_iff.mp hx
    show z.cps.size ≤ i
    simpa using hl
end
section
variable {K : PySem.W.Frag} {H : Hp} {μ : Mu} {M : Store}
theorem DRs.keys : ∀ k : List Key, DRs K H μ (k.map kD) (k.map kV)
  | [] => .nil
  | .inl i :: k => .cons (.int i) (DRs.keys k)
  | .inr x :: k => .cons (.str x) (DRs.keys k)
theorem KRs.at_ {κ : Type} : ∀ {xs : List (κ × D)} {vs : List (κ × V)}, KRs K H μ xs vs → xs.map (·.1) = vs.map (·.1)
  | _, _, .nil => rfl
  | _, _, .cons _ r => by
    rw [List.map_cons, List.map_cons, KRs.at_ r]
/-- a tuple of the heap is data -/
theorem StR.tupFree (S : StR K H μ M) {q : Addr} {vs : List V} (h : H q = some (.tup vs)) : μ.free q := by
  refine ⟨fun z => ?_, fun z => (S.pis q z).2 vs h⟩
  obtain ⟨n, e⟩ := mem_get z
  have hn : n < M.length := by rw [← S.len]; exact (List.getElem?_eq_some_iff.mp e).1
  obtain ⟨o, h1, h2⟩ := S.cells n M[n] q (List.getElem?_eq_getElem hn) e
  rw [h] at h1
  cases h1
  generalize M[n] = c at h2
  cases c <;> exact h2.elim
theorem keys_at {κ : Type} {xs : List (κ × D)} {vs : List (κ × V)} (r : KRs K H μ xs vs) {f : κ → D} {i : Nat} {x : D} (h : (xs.map fun kv => f kv.1)[i]? = some x) : ∃ k v, vs[i]? = some (k, v) ∧ x = f k := by
  rw [List.getElem?_map] at h
  obtain ⟨p, h1, rfl⟩ := Option.map_eq_some_iff.mp h
  have e := congrArg (fun l => l[i]?) r.at_
  rw [List.getElem?_map, List.getElem?_map, h1] at e
  cases hv : vs[i]? with
  | none => rw [hv] at e; cases e
  | some q =>
    rw [hv] at e
    have e : p.1 = q.1 := Option.some.inj e
    exact ⟨q.1, q.2, rfl, by rw [e]⟩
theorem turn_keysD {d : Addr} {o : Obj} {vs : List (Key × V)} {kvs : List (Key × D)} {i : Nat} (S : StR K H μ M) (h : H d = some (.frz o (.dK vs))) (r : KRs K H μ kvs vs) : Turn1 K (Itk d o vs) (kvs.map fun kv => kD kv.1) i H μ M := by
  refine ⟨fun x hx => ?_, fun hx => ?_⟩
  · obtain ⟨k, v, h1, rfl⟩ := keys_at r hx
    refine ⟨⟨h, (List.getElem?_eq_some_iff.mp h1).1⟩, fun u H2 y => ?_⟩
    obtain ⟨rfl, k2, v2, h2, rfl⟩ := y
    rw [h1] at h2; cases h2
    refine ⟨Stp.refl, S, ?_⟩
    cases k
    · exact .int _
    · exact .str _
  · have hl := List.getElem?_eq_none_iff.mp hx
    rw [List.length_map, r.length] at hl
    exact ⟨h, hl⟩
theorem turn_keysTD {d : Addr} {o : Obj} {vs : List (List Key × V)} {kvs : List (List Key × D)} {i : Nat} (S : StR K H μ M) (h : H d = some (.frz o (.dT vs))) (k0 : XT.kt = false) (r : KRs K H μ kvs vs) : Turn1 K (Itkt d o vs) (kvs.map fun kv => .tuple (kv.1.map kD)) i H μ M := by
  refine ⟨fun x hx => ?_, fun hx => ?_⟩
  · obtain ⟨k, v, h1, rfl⟩ := keys_at (f := fun k => .tuple (k.map kD)) r hx
    refine ⟨⟨h, (List.getElem?_eq_some_iff.mp h1).1⟩, fun u H2 y => ?_⟩
    obtain ⟨rfl, k2, v2, q, h2, rfl, h3⟩ := y
    rw [h1] at h2; cases h2
    exact ⟨Stp.refl, S, .tup (S.tupFree h3) (.of h3 k0) (DRs.keys k)⟩
  · have hl := List.getElem?_eq_none_iff.mp hx
    rw [List.length_map, r.length] at hl
    exact ⟨h, hl⟩
/-- the locked dict that a cell is -/
theorem lk_cell {n : Nat} {v : V} {xs : List D} (S : StR K H μ M) (hv : WR K H μ (.r n) v) (h : lkKeys M n = some xs) : ∃ d, v = .ref d ∧ ((∃ o kvs vs, M[n]? = some (.lkK kvs) ∧ H d = some (.frz o (.dK vs)) ∧ KRs K H μ kvs vs ∧ xs = kvs.map fun kv => kD kv.1) ∨
    ∃ o kvs vs, M[n]? = some (.lkT kvs) ∧ H d = some (.frz o (.dT vs)) ∧ (XT.kt = false ∧ KRs K H μ kvs vs) ∧ xs = kvs.map fun kv => .tuple (kv.1.map kD)) := by
  unfold lkKeys at h
  split at h
  · rename_i kvs q
    cases h
    rcases hv with ⟨a, ha, rfl⟩ | hw
    · obtain ⟨ob, h3, h4⟩ := S.cells n _ a q ha
      cases ob <;> first | exact h4.elim | skip
      rename_i oo u
      cases u <;> first | exact h4.elim | skip
      exact ⟨a, rfl, .inl ⟨oo, kvs, _, q, h3, h4, rfl⟩⟩
    · cases S.deads n _ q hw
  · rename_i kvs q
    cases h
    rcases hv with ⟨a, ha, rfl⟩ | hw
    · obtain ⟨ob, h3, h4⟩ := S.cells n _ a q ha
      cases ob <;> first | exact h4.elim | skip
      rename_i oo u
      cases u <;> first | exact h4.elim | skip
      exact ⟨a, rfl, .inr ⟨oo, kvs, _, q, h3, h4, rfl⟩⟩
    · cases S.deads n _ q hw
  · cases h
end
theorem PI.or {X : Cx} {tg it : Expr} {t u : TI} (h : PI X tg it t) (k : PI X tg it u) : PI X tg it (fun σ H R => t σ H R ∨ u σ H R) := ⟨fun pins s σ H R I q => by
  rcases q with q | q
  · exact h.run pins s σ H R I q
  · exact k.run pins s σ H R I q⟩
theorem PI.imp {X : Cx} {tg it : Expr} {t u : TI} (h : PI X tg it t) (k : ∀ σ H R, u σ H R → t σ H R) : PI X tg it u := ⟨fun pins s σ H R I q => h.run pins s σ H R I (k σ H R q)⟩
/-- an expression that is walked: a list, a tuple, a text -/
theorem pi_ex {X : Cx} {tg it : Expr} {ev : Env → Store → Res W} (h : PE X it (tE X.K ev)) : PI X tg it (tI X.K fun e M => (ev e M).bind fun w M1 => withO (itsW w M1) fun j => .ok j M1) := by
  refine PI.imp (PI.or (pi_list h) (PI.or (pi_tup h) (pi_str h))) fun σ H R q => ?_
  obtain ⟨e, M, μ, a, p⟩ := q
  replace p : Post X.K (RI X.K) H μ ((ev e M).bind fun w M1 => withO (itsW w M1) fun j => .ok j M1) R := p
  cases hw : ev e M with
  | stuck => rw [hw] at p; exact p.elim
  | exn x M1 => rw [hw] at p; exact .inl ⟨e, M, μ, a, by rw [hw]; exact p⟩
  | ok w M1 =>
    rw [hw] at p
    replace p : Post X.K (RI X.K) H μ (withO (itsW w M1) fun j => .ok j M1) R := p
    obtain ⟨j, hj, p⟩ := Post.withO p
    have go : ∀ (Q : VK), (∀ v H' μ', Stp H μ H' μ' → StR X.K H' μ' M1 → WR X.K H' μ' w v → Q v H') → tE X.K ev σ H Q := fun Q k => ⟨e, M, μ, a, by rw [hw]; exact k⟩
    unfold itsW at hj
    split at hj
    · rename_i n
      cases q : cellWs M1 n with
      | none => rw [q] at hj; cases hj
      | some xs =>
        rw [q] at hj; cases hj
        refine .inl (go _ fun v H' μ' s S r => ?_)
        obtain ⟨a', vs, rfl, ho, dr⟩ := S.cws q r
        refine ⟨a', rfl, ⟨vs, .inl (.inl ho)⟩, p _ _ _ s S fun H1 μ1 M2 ys s1 S1 hc i => ?_⟩
        obtain ⟨b, us, e2, ho2, dr2⟩ := S1.cws hc (r.wk s1)
        cases e2
        exact turn_wl S1 (.inl (.inl ho2)) dr2
    · rename_i z
      cases hj
      refine .inr (.inr (go _ fun v H' μ' s S r => ?_))
      cases r
      exact ⟨z, rfl, p _ _ _ s S fun H1 μ1 M2 s1 S1 i => turn_str S1⟩
    · rename_i xs
      cases hj
      refine .inr (.inl (go _ fun v H' μ' s S r => ?_))
      obtain ⟨a', vs, rfl, ha, dr⟩ := DR.sqT r
      refine ⟨a', rfl, ⟨vs, ha⟩, p _ _ _ s S fun H1 μ1 M2 s1 S1 i => ?_⟩
      obtain ⟨b, us, e2, hb, dr2⟩ := DR.sqT (WR.wk s1 r)
      cases e2
      exact turn_sqT S1 hb dr2
    · rename_i xs
      cases hj
      refine .inl (go _ fun v H' μ' s S r => ?_)
      obtain ⟨a', vs, rfl, ha, dr⟩ := DR.rdL r
      refine ⟨a', rfl, ⟨vs, .inl ha⟩, p _ _ _ s S fun H1 μ1 M2 s1 S1 i => ?_⟩
      obtain ⟨b, us, e2, hb, dr2⟩ := DR.rdL (WR.wk s1 r)
      cases e2
      exact turn_sqL S1 (.inl hb) dr2
    · rename_i xs
      cases hj
      refine .inl (go _ fun v H' μ' s S r => ?_)
      have r0 := r
      obtain ⟨a', vs, rfl, ha, dr⟩ := r0
      have hq : SqL X.K H' a' vs := by
        rcases ha with ha | ha
        · exact .inl ha.2
        · exact .inr ha
      refine ⟨a', rfl, ⟨vs, hq⟩, p _ _ _ s S fun H1 μ1 M2 s1 S1 i => ?_⟩
      obtain ⟨b, us, e2, hb, dr2⟩ := WR.wk s1 r
      cases e2
      have hq2 : SqL X.K H1 a' us := by
        rcases hb with hb | hb
        · exact .inl hb.2
        · exact .inr hb
      exact turn_sqL S1 hq2 dr2
    · rename_i xs
      cases hj
      refine .inr (.inl (go _ fun v H' μ' s S r => ?_))
      obtain ⟨a', vs, rfl, ha, dr⟩ := r
      exact ⟨a', rfl, ⟨vs, .inr ha⟩, p _ _ _ s S fun H1 μ1 M2 s1 S1 i => turn_gs S1 ha dr⟩
    · cases hj
/-- a locked dict that is walked -/
theorem pi_keysW {X : Cx} {tg it : Expr} {ev : Env → Store → Res W} (h : PE X it (tE X.K ev)) : PI X tg it (tI X.K fun e M => (ev e M).bind fun w M1 => match w with
    | .r n => withO (lkKeys M1 n) fun _ => .ok (.keys n) M1
    | _ => .stuck) := by
  refine PI.imp (pi_keys h) fun σ H R ⟨e, M, μ, a, p⟩ => ?_
  obtain ⟨e1, M1, μ1, a1, p1⟩ := goE a (show Post X.K (RI X.K) H μ ((ev e M).bind fun w M1 => match w with
    | .r n => withO (lkKeys M1 n) fun _ => .ok (.keys n) M1
    | _ => .stuck) R from p)
  refine ⟨e1, M1, μ1, a1, p1.imp fun v H1 ⟨w, M2, μ2, s2, a2, r2, p2⟩ => ?_⟩
  split at p2
  · rename_i n
    obtain ⟨xs, hx, p3⟩ := Post.withO p2
    obtain ⟨d, rfl, h3⟩ := lk_cell a2.st r2 hx
    rcases h3 with ⟨o, kvs, vs, q1, q2, q3, q4⟩ | ⟨o, kvs, vs, q1, q2, q3, q4⟩
    · refine ⟨d, o, rfl, .inl ⟨vs, q2, Post.now (RA := RI X.K) p3 a2.st fun H3 μ3 M3 ys s3 S3 hy i => ?_⟩⟩
      have e3 := s3.live.2 _ _ _ q2
      obtain ⟨d', e4, h4⟩ := lk_cell S3 (r2.wk s3) hy
      cases e4
      rcases h4 with ⟨o', kvs', vs', z1, z2, z3, z4⟩ | ⟨o', kvs', vs', z1, z2, z3, z4⟩
      · rw [e3] at z2; cases z2
        rw [z4]
        exact turn_keysD S3 e3 z3
      · rw [e3] at z2; cases z2
    · refine ⟨d, o, rfl, .inr ⟨vs, q2, Post.now (RA := RI X.K) p3 a2.st fun H3 μ3 M3 ys s3 S3 hy i => ?_⟩⟩
      have e3 := s3.live.2 _ _ _ q2
      obtain ⟨d', e4, h4⟩ := lk_cell S3 (r2.wk s3) hy
      cases e4
      rcases h4 with ⟨o', kvs', vs', z1, z2, z3, z4⟩ | ⟨o', kvs', vs', z1, z2, z3, z4⟩
      · rw [e3] at z2; cases z2
      · rw [e3] at z2; cases z2
        rw [z4]
        exact turn_keysTD S3 e3 z3.1 z3.2
  · exact p2.elim
end Ev
set_option Elab.async false
set_option linter.all false
set_option maxRecDepth 100000
/-! EvF: loops, comprehensions -/
namespace Ev
open PySem PySem.Spec PyProof.Rows L2
variable [XT] [XA] [XE]

inductive Out where
  | nx (σ : L2.St) | rt (v : V) | bk (σ : L2.St) | ct (σ : L2.St)
def RF (K : PySem.W.Frag) (H : Hp) (μ : Mu) : Fl → Out → Prop
  | .nx e, .nx σ => EnvR K H μ e σ
  | .rt w, .rt v => WR K H μ w v
  | .bk e, .bk σ => EnvR K H μ e σ
  | .ct e, .ct σ => EnvR K H μ e σ
  | _, _ => False
def outD (D : Ends) : Out → Hp → Prop
  | .nx σ, H => D.nx σ H
  | .rt v, H => D.rt v H
  | .bk σ, H => D.bk σ H
  | .ct σ, H => D.ct σ H
def tS (K : PySem.W.Frag) (ev : Env → Store → Res Fl) : TS := fun D σ H => ∃ e M μ, At K H μ e σ M ∧ Post K (RF K) H μ (ev e M) (outD D)
section
variable {K : PySem.W.Frag} {H H0 : Hp} {μ μ0 : Mu} {M : Store}
/-- the rest of a loop, behind a turn of the body -/
theorem after_ok {body : Env → Store → Res Fl} {next : Env → Store → Res Fl} {e : Env} {σ : L2.St} {D : Ends} {N : L2.St → Hp → Prop} (a : At K H μ e σ M) (p : Post K (RF K) H μ (after (body e M) next) (outD D))
    (k : ∀ e' σ' H' μ' M', Stp H μ H' μ' → At K H' μ' e' σ' M' → Post K (RF K) H' μ' (next e' M') (outD D) → N σ' H') : tS K body { D with nx := N, ct := N, bk := D.nx } σ H := by
  refine ⟨e, M, μ, a, ?_⟩
  unfold after at p
  refine (Post.bind (RA := RF K) p).imp fun o H1 ⟨f, M1, μ1, s, S, r, q⟩ => ?_
  cases f with
  | nx e1 =>
    cases o <;> first | exact r.elim | skip
    exact k e1 _ H1 μ1 M1 s ⟨r, S⟩ q
  | ct e1 =>
    cases o <;> first | exact r.elim | skip
    exact k e1 _ H1 μ1 M1 s ⟨r, S⟩ q
  | bk e1 =>
    cases o <;> first | exact r.elim | skip
    exact Post.now (b := Out.nx _) q S r
  | rt w =>
    cases o <;> first | exact r.elim | skip
    have q : Post K (RF K) H1 μ1 (.ok (.rt w) M1) (outD D) := q
    exact (show D.rt _ H1 from Post.now (b := Out.rt _) q S r)
/-- one turn of a loop's run, as it is told -/
structure LoopRun (K : PySem.W.Frag) (J : It) (tg : CT) (body : Env → Store → Res Fl) (run : Nat → Nat → Env → Store → Res Fl) (g : Nat → Nat → Prop) (H0 : Hp) (μ0 : Mu) (D : Ends) : Prop where
  step : ∀ i m e M H μ, g i m → Wk H0 μ0 H μ → StR K H μ M → Post K (RF K) H μ (run i m e M) (outD D) →
    (J.stop i H ∧ Post K (RF K) H μ (.ok (.nx e) M) (outD D)) ∨
    (J.go i H ∧ 0 < m ∧ g (i + 1) (m - 1) ∧ ∃ x : Itm, (∀ v H2, J.yld i H v H2 → Stp H μ H2 μ ∧ StR K H2 μ M ∧ IR K H2 μ x v) ∧ Post K (RF K) H μ (withO (asgI tg x e) fun e' => after (body e' M) (run (i + 1) (m - 1))) (outD D))
theorem LoopRun.for_ {J : It} {tg : CT} {body : Env → Store → Res Fl} {run : Nat → Nat → Env → Store → Res Fl} {g : Nat → Nat → Prop} {D : Ends} (L : LoopRun K J tg body run g H μ D) {m : Nat} {e : Env} {σ : L2.St} (hg : g 0 m) (a : At K H μ e σ M) (p : Post K (RF K) H μ (run 0 m e M) (outD D)) :
    ∃ W : Nat → Nat → L2.St → Hp → Prop, (∃ m, W 0 m σ H) ∧ ∀ i m σ H, W i m σ H →
      (J.stop i H ∧ D.nx σ H) ∨ (J.go i H ∧ ∃ N : L2.St → Hp → Prop, (∀ σ' H', N σ' H' → ∃ m', m' < m ∧ W (i + 1) m' σ' H') ∧ ∀ x H', J.yld i H x H' → gT K tg x σ H' fun σ2 H2 => tS K body { D with nx := N, ct := N, bk := D.nx } σ2 H2) := by
  refine ⟨fun i m σ' H' => ∃ e' M' μ', g i m ∧ Wk H μ H' μ' ∧ At K H' μ' e' σ' M' ∧ Post K (RF K) H' μ' (run i m e' M') (outD D), ⟨m, e, M, μ, hg, Wk.refl, a, p⟩, ?_⟩
  rintro i m σ1 H1 ⟨e1, M1, μ1, g1, s1, a1, p1⟩
  rcases L.step i m e1 M1 H1 μ1 g1 s1 a1.st p1 with ⟨st, q⟩ | ⟨go, hm, g2, x, hy, q⟩
  · exact .inl ⟨st, Post.now (b := Out.nx _) q a1.st a1.env⟩
  · refine .inr ⟨go, fun σ' H' => ∃ e' M' μ', Wk H μ H' μ' ∧ At K H' μ' e' σ' M' ∧ Post K (RF K) H' μ' (run (i + 1) (m - 1) e' M') (outD D), fun σ' H' ⟨e', M', μ', z1, z2, z3⟩ => ⟨m - 1, by omega, e', M', μ', g2, z1, z2, z3⟩, fun v H2 y => ?_⟩
    obtain ⟨s2, S2, r2⟩ := hy v H2 y
    obtain ⟨e2, h2, q2⟩ := Post.withO (Post.weak s2 q)
    refine gI_ok (x := x) h2 r2 (a1.env.stp s2) fun σ3 E3 _ => ?_
    exact after_ok (D := D) ⟨E3, S2⟩ q2 fun e' σ' H' μ' M' s3 a3 p3 => ⟨e', M', μ', (s1.trans s2.wk).trans s3.wk, a3, p3⟩
theorem loop_items {J : It} {tg : CT} {body : Env → Store → Res Fl} {xs : List D} {D : Ends} (R : RI K H μ (.items xs) J) : LoopRun K J tg body (fun i _ => forL tg body (xs.drop i)) (fun i m => m = xs.length - i) H μ D := by
  refine ⟨fun i m e M H1 μ1 hm s S p => ?_⟩
  obtain ⟨t1, t2⟩ := R H1 μ1 M s S i
  cases hx : xs[i]? with
  | none =>
    refine .inl ⟨t2 hx, ?_⟩
    have hl := List.getElem?_eq_none_iff.mp hx
    rw [List.drop_eq_nil_of_le hl] at p
    exact p
  | some x =>
    have hi := (List.getElem?_eq_some_iff.mp hx).1
    obtain ⟨go, hy⟩ := t1 x hx
    refine .inr ⟨go, by omega, by omega, .w (.d x), hy, ?_⟩
    have e : xs.drop i = x :: xs.drop (i + 1) := by
      rw [List.drop_eq_getElem_cons hi]
      rw [List.getElem?_eq_getElem hi] at hx
      cases hx; rfl
    rw [e] at p
    rw [asgI_w]
    exact p
theorem loop_gs {J : It} {tg : CT} {body : Env → Store → Res Fl} {xs : List D} {D : Ends} (R : RI K H μ (.gs xs) J) : LoopRun K J tg body (fun i _ => forG tg body (xs.drop i)) (fun i m => m = xs.length - i) H μ D := by
  refine ⟨fun i m e M H1 μ1 hm s S p => ?_⟩
  obtain ⟨t1, t2⟩ := R H1 μ1 M s S i
  rw [List.getElem?_map] at t1 t2
  cases hx : xs[i]? with
  | none =>
    refine .inl ⟨t2 (by rw [hx]; rfl), ?_⟩
    have hl := List.getElem?_eq_none_iff.mp hx
    rw [List.drop_eq_nil_of_le hl] at p
    exact p
  | some x =>
    have hi := (List.getElem?_eq_some_iff.mp hx).1
    obtain ⟨go, hy⟩ := t1 (gW x) (by rw [hx]; rfl)
    refine .inr ⟨go, by omega, by omega, .w (gW x), hy, ?_⟩
    have e : xs.drop i = x :: xs.drop (i + 1) := by
      rw [List.drop_eq_getElem_cons hi]
      rw [List.getElem?_eq_getElem hi] at hx
      cases hx; rfl
    rw [e] at p
    rw [asgI_w]
    exact p
theorem loop_cell {J : It} {tg : CT} {body : Env → Store → Res Fl} {en : Bool} {n : Nat} {D : Ends} (R : RI K H μ (.cell en n) J) : LoopRun K J tg body (fun i m => forC tg body en n m i) (fun _ _ => True) H μ D := by
  refine ⟨fun i m e M H1 μ1 _ s S p => ?_⟩
  cases m with
  | zero => exact p.elim
  | succ m =>
    have p : Post K (RF K) H1 μ1 (withO (cellWs M n) fun xs => match xs[i]? with
      | none => .ok (.nx e) M
      | some x => withO (asgI tg (itm en i x) e) fun e' => after (body e' M) (forC tg body en n m (i + 1))) (outD D) := p
    obtain ⟨xs, hc, p⟩ := Post.withO p
    obtain ⟨t1, t2⟩ := R H1 μ1 M xs s S hc i
    split at p
    · rename_i hx
      exact .inl ⟨t2 hx, p⟩
    · rename_i x hx
      obtain ⟨go, hy⟩ := t1 x hx
      exact .inr ⟨go, Nat.succ_pos _, trivial, itm en i x, hy, p⟩
theorem loop_keys {J : It} {tg : CT} {body : Env → Store → Res Fl} {n : Nat} {D : Ends} (R : RI K H μ (.keys n) J) : LoopRun K J tg body (fun i m => forK tg body n m i) (fun _ _ => True) H μ D := by
  refine ⟨fun i m e M H1 μ1 _ s S p => ?_⟩
  cases m with
  | zero => exact p.elim
  | succ m =>
    have p : Post K (RF K) H1 μ1 (withO (lkKeys M n) fun xs => match xs[i]? with
      | none => .ok (.nx e) M
      | some x => withO (asgT tg (.d x) e) fun e' => after (body e' M) (forK tg body n m (i + 1))) (outD D) := p
    obtain ⟨xs, hc, p⟩ := Post.withO p
    obtain ⟨t1, t2⟩ := R H1 μ1 M xs s S hc i
    split at p
    · rename_i hx
      exact .inl ⟨t2 hx, p⟩
    · rename_i x hx
      obtain ⟨go, hy⟩ := t1 x hx
      refine .inr ⟨go, Nat.succ_pos _, trivial, .w (.d x), hy, ?_⟩
      rw [asgI_w]
      exact p
/-- a for -/
theorem for_ok {F : Nat} {tg : CT} {ei : Env → Store → Res Ev.Its} {body : Env → Store → Res Fl} {e : Env} {σ : L2.St} {D : Ends} (a : At K H μ e σ M) (p : Post K (RF K) H μ ((ei e M).bind fun j M1 => forI F tg body j e M1) (outD D)) :
    tFor (tI K ei) (gT K tg) (tS K body) D σ H := by
  refine ⟨e, M, μ, a, (Post.bind (RA := RI K) p).imp fun J H1 ⟨j, M1, μ1, s, S, r, q⟩ => ?_⟩
  cases j with
  | items xs =>
    exact (loop_items r).for_ (m := xs.length) (by simp) ⟨a.env.stp s, S⟩ (show Post K (RF K) H1 μ1 (forL tg body (xs.drop 0) e M1) (outD D) from q)
  | cell en n => exact (loop_cell r).for_ (m := F) trivial ⟨a.env.stp s, S⟩ q
  | keys n => exact (loop_keys r).for_ (m := F) trivial ⟨a.env.stp s, S⟩ q
  | gs xs =>
    exact (loop_gs r).for_ (m := xs.length) (by simp) ⟨a.env.stp s, S⟩ (show Post K (RF K) H1 μ1 (forG tg body (xs.drop 0) e M1) (outD D) from q)
/-- a while -/
theorem while_ok {F : Nat} {c : Env → Store → Res Bool} {body : Env → Store → Res Fl} {e : Env} {σ : L2.St} {D : Ends} (a : At K H μ e σ M) (p : Post K (RF K) H μ (whileW c body F e M) (outD D)) : tWhile (tB K c) (tS K body) D σ H := by
  refine ⟨fun m σ' H' => ∃ e' M' μ', At K H' μ' e' σ' M' ∧ Post K (RF K) H' μ' (whileW c body m e' M') (outD D), ⟨F, e, M, μ, a, p⟩, ?_⟩
  rintro m σ1 H1 ⟨e1, M1, μ1, a1, p1⟩
  cases m with
  | zero => exact p1.elim
  | succ m =>
    have p1 : Post K (RF K) H1 μ1 ((c e1 M1).bind fun b M2 => if b = true then after (body e1 M2) (whileW c body m) else .ok (.nx e1) M2) (outD D) := p1
    obtain ⟨e', M', μ', a', p'⟩ := goB a1 p1
    refine ⟨e', M', μ', a', p'.imp fun b H2 ⟨M2, μ2, s2, a2, p2⟩ => ?_⟩
    cases b with
    | true =>
      rw [if_pos rfl] at p2 ⊢
      exact ⟨_, fun σ' H' z => ⟨m, Nat.lt_succ_self m, z⟩, after_ok (D := D) a2 p2 fun e' σ' H' μ' M' s3 a3 p3 => ⟨e', M', μ', a3, p3⟩⟩
    | false =>
      rw [if_neg Bool.false_ne_true] at p2 ⊢
      exact Post.now (b := Out.nx _) p2 a2.st a2.env

/-! ### comprehensions -/
theorem EnvR.wipe {e : Env} {σ : L2.St} (h : EnvR K H μ e σ) : ∀ vs : List Nat, EnvR K H μ (wipeE e vs) (L2.wipe σ vs)
  | [] => h
  | v :: vs => by
    have ih := EnvR.wipe h vs
    unfold wipeE L2.wipe
    refine ⟨by simp [ih.len], fun j u q => ?_⟩
    by_cases hj : v = j
    · subst hj
      by_cases hl : v < (wipeE e vs).length
      · rw [List.getElem?_set_self hl] at q; cases q
      · rw [List.getElem?_eq_none (by simpa using hl)] at q; cases q
    · rw [List.getElem?_set_ne hj] at q ⊢
      exact ih.at_ j u q

abbrev RL (K : PySem.W.Frag) : Hp → Mu → List D → List V → Prop := fun H μ xs vs => DRs K H μ xs vs
/-- the heap with the new list at D, which no data is -/
def Mu.hide (μ : Mu) (D : Addr) : Mu := ⟨μ.cs, D :: μ.pi⟩
theorem keep_hide {D : Addr} {o : HO} (hD : H D = none) : Keep H μ (upd H D o) (μ.hide D) := fun a u n h => by
  have ne : a ≠ D := ne_of_none h hD
  exact ⟨⟨n.1, fun z => (List.mem_cons.mp z).elim ne n.2⟩, by rw [upd_ne ne]; exact h⟩
theorem keep_rewrite {D : Addr} {o : HO} (hD : D ∈ μ.pi) : Keep H μ (upd H D o) μ := fun a u n h => by
  have ne : a ≠ D := fun z => n.2 (z ▸ hD)
  exact ⟨n, by rw [upd_ne ne]; exact h⟩
theorem DR.hide {D : Addr} {o : HO} (hD : H D = none) {x : Ev.D} {v : V} (h : DR K H μ x v) : DR K (upd H D o) (μ.hide D) x v := h.move (keep_hide hD)
theorem DRs.hide {D : Addr} {o : HO} (hD : H D = none) {xs : List Ev.D} {vs : List V} (h : DRs K H μ xs vs) : DRs K (upd H D o) (μ.hide D) xs vs := h.move (keep_hide hD)
theorem DR.rewrite {D : Addr} {o : HO} (hD : D ∈ μ.pi) {x : Ev.D} {v : V} (h : DR K H μ x v) : DR K (upd H D o) μ x v := h.move (keep_rewrite hD)
theorem DRs.rewrite {D : Addr} {o : HO} (hD : D ∈ μ.pi) {xs : List Ev.D} {vs : List V} (h : DRs K H μ xs vs) : DRs K (upd H D o) μ xs vs := h.move (keep_rewrite hD)
theorem mv_hide {D : Addr} {o : HO} {b : Nat} (hD : H D = none) : Mv H μ (upd H D o) (μ.hide D) b := ⟨keep_hide hD, fun _ _ _ h => .inl h, fun _ _ h => h⟩
theorem mv_rewrite {D : Addr} {o : HO} {b : Nat} (hD : D ∈ μ.pi) : Mv H μ (upd H D o) μ b := ⟨keep_rewrite hD, fun _ _ _ h => .inl h, fun _ _ h => h⟩
theorem WR.hide {D : Addr} {o : HO} (hD : H D = none) {w : W} {v : V} (h : WR K H μ w v) : WR K (upd H D o) (μ.hide D) w v := by
  cases w with
  | x e => exact XR.keep (keep_hide hD) h
  | t e => exact TR.keep (keep_hide hD) h
  | d x => exact DR.hide hD h
  | g xs => exact h
  | r n => exact h
  | s xs =>
    obtain ⟨a, vs, rfl, h | h, r⟩ := h
    · have ne : a ≠ D := by
        rintro rfl
        rcases h.2 with h | ⟨_, h⟩ <;> (rw [hD] at h; cases h)
      exact ⟨a, vs, rfl, .inl ⟨⟨h.1.1, fun z => (List.mem_cons.mp z).elim ne h.1.2⟩, by unfold Rd; rw [upd_ne ne]; exact h.2⟩, r.hide hD⟩
    · exact ⟨a, vs, rfl, .inr h, r.hide hD⟩
theorem WR.rewrite {D : Addr} {o : HO} (hD : D ∈ μ.pi) {w : W} {v : V} (h : WR K H μ w v) : WR K (upd H D o) μ w v := by
  cases w with
  | x e => exact XR.keep (keep_rewrite hD) h
  | t e => exact TR.keep (keep_rewrite hD) h
  | d x => exact DR.rewrite hD h
  | g xs => exact h
  | r n => exact h
  | s xs =>
    obtain ⟨a, vs, rfl, h | h, r⟩ := h
    · have ne : a ≠ D := fun z => h.1.2 (z ▸ hD)
      exact ⟨a, vs, rfl, .inl ⟨h.1, by unfold Rd; rw [upd_ne ne]; exact h.2⟩, r.rewrite hD⟩
    · exact ⟨a, vs, rfl, .inr h, r.rewrite hD⟩
theorem EnvR.hide {D : Addr} {o : HO} (hD : H D = none) {e : Env} {σ : L2.St} (h : EnvR K H μ e σ) : EnvR K (upd H D o) (μ.hide D) e σ :=
  ⟨h.len, fun i w q => let ⟨v, h1, h2⟩ := h.at_ i w q; ⟨v, h1, h2.hide hD⟩⟩
theorem EnvR.rewrite {D : Addr} {o : HO} (hD : D ∈ μ.pi) {e : Env} {σ : L2.St} (h : EnvR K H μ e σ) : EnvR K (upd H D o) μ e σ :=
  ⟨h.len, fun i w q => let ⟨v, h1, h2⟩ := h.at_ i w q; ⟨v, h1, h2.rewrite hD⟩⟩
theorem StR.hide {D : Addr} {o : HO} (hD : H D = none) (S : StR K H μ M) (ho : NoTup o := by intro _ z; cases z) : StR K (upd H D o) (μ.hide D) M := by
  have nD : ∀ (n : Nat) (a : Addr), μ.cs[n]? = some (some a) → a ≠ D := fun n a h z => by
    subst z; exact S.notin hD (List.mem_of_getElem? h)
  refine ⟨S.dn, S.len, S.nd, fun n c a h1 h2 => ?_, fun a h => ?_, fun n a h z => ?_, S.deads⟩
  · obtain ⟨ob, h3, h4⟩ := S.cells n c a h1 h2
    exact ⟨ob, by rw [upd_ne (nD n a h2)]; exact h3, h4.move (mv_hide hD) (S.dn n c h1)⟩
  · rcases List.mem_cons.mp h with h | h
    · subst h; rw [upd_same]; exact ⟨fun z => (by cases z), fun vs z => ho vs (Option.some.inj z)⟩
    · exact pd_none hD (S.pis a h)
  · rcases List.mem_cons.mp z with z | z
    · exact nD n a h z
    · exact S.dis n a h z
theorem StR.rewrite {D : Addr} {o : HO} (hD : D ∈ μ.pi) (S : StR K H μ M) (ho : NoTup o := by intro _ z; cases z) : StR K (upd H D o) μ M := by
  refine ⟨S.dn, S.len, S.nd, fun n c a h1 h2 => ?_, fun a h => pd_upd ho (S.pis a h), S.dis, S.deads⟩
  have ne : a ≠ D := fun z => S.dis n a h2 (z ▸ hD)
  obtain ⟨ob, h3, h4⟩ := S.cells n c a h1 h2
  exact ⟨ob, by rw [upd_ne ne]; exact h3, h4.move (mv_rewrite hD) (S.dn n c h1)⟩
theorem stp_hide {D : Addr} {o : HO} (hD : H D = none) : Stp H μ (upd H D o) (μ.hide D) :=
  ⟨Nat.le_refl _, fun a h => List.mem_cons_of_mem _ h, fun a h => by
    rcases List.mem_cons.mp h with e | h
    · subst e; exact .inr hD
    · exact .inl h, fun _ _ h => .inl h, fun _ h => h, fun a o h _ => by rw [upd_ne (ne_of_none h hD)]; exact h, fun _ _ h => .inl h, live_upd (nofrz_none hD)⟩
/-- the list at D is written: D was not there at the entry -/
theorem Stp.rewrite {D : Addr} {o : HO} {H1 : Hp} {μ1 : Mu} (m : Stp H μ H1 μ1) (hD : H D = none) : Stp H μ (upd H1 D o) μ1 :=
  ⟨m.len, m.pi, m.pif, m.get, m.gone, fun a o' h n => by rw [upd_ne (ne_of_none h hD)]; exact m.keep a o' h n, m.fresh, ⟨fun a h => by
    by_cases e : a = D
    · subst e; rw [upd_same]; exact fun z => by cases z
    · rw [upd_ne e]; exact m.live.1 a h, fun a o' u h => by rw [upd_ne (ne_of_none h hD)]; exact m.live.2 a o' u h⟩⟩
theorem free_promote {D : Addr} {cs : List (Option Addr)} {pi : List Addr} {a : Addr} (n : (Mu.mk cs (D :: pi)).free a) : (Mu.mk (cs ++ [some D]) pi).free a := by
  obtain ⟨n1, n2⟩ := n
  have n1 : some a ∉ cs := n1
  have n2 : a ∉ D :: pi := n2
  refine ⟨fun z => ?_, fun z => n2 (List.mem_cons_of_mem _ z)⟩
  have z : some a ∈ cs ++ [some D] := z
  rcases List.mem_append.mp z with z | z
  · exact n1 z
  · have e : a = D := by simpa using z
    exact n2 (by rw [e]; exact List.mem_cons_self)
theorem keep_promote {D : Addr} {cs : List (Option Addr)} {pi : List Addr} : Keep H ⟨cs, D :: pi⟩ H ⟨cs ++ [some D], pi⟩ := fun _ _ n h => ⟨free_promote n, h⟩
theorem mv_promote {D : Addr} {cs : List (Option Addr)} {pi : List Addr} {b : Nat} : Mv H ⟨cs, D :: pi⟩ H ⟨cs ++ [some D], pi⟩ b := by
  have lo : ∀ (n : Nat) (x : Option Addr), cs[n]? = some x → (cs ++ [some D])[n]? = some x := fun n x h => by
    rw [List.getElem?_append_left (List.getElem?_eq_some_iff.mp h).1]; exact h
  exact ⟨keep_promote, fun n a _ h => .inl (lo n _ h), fun n _ h => lo n _ h⟩
theorem StR.promote {D : Addr} {cs : List (Option Addr)} {pi : List Addr} {c0 : Cell} {o : HO} (S : StR K H ⟨cs, D :: pi⟩ M) (e : H D = some o) (nD : some D ∉ cs) (nP : D ∉ pi) (r : OR K H ⟨cs, D :: pi⟩ c0 o) (hc : Dn M.length c0) :
    StR K H ⟨cs ++ [some D], pi⟩ (M ++ [c0]) := by
  have hl : cs.length = M.length := S.len
  have hi : ∀ (n : Nat) (x : Option Addr), (cs ++ [some D])[n]? = some x → cs[n]? = some x ∨ (n = M.length ∧ x = some D) := fun n x h => by
    by_cases hn : n < cs.length
    · rw [List.getElem?_append_left hn] at h; exact .inl h
    · have h2 := (List.getElem?_eq_some_iff.mp h).1
      have hn2 : n = cs.length := by simp at h2; omega
      subst hn2
      simp at h
      exact .inr ⟨hl, h.symm⟩
  refine ⟨dn_snoc S hc, by simp [hl], fun i j a h1 h2 => ?_, fun n c a h1 h2 => ?_, fun a h => S.pis a (List.mem_cons_of_mem _ h), fun n a h z => ?_, fun n c h1 h2 => ?_⟩
  · rcases hi i _ h1 with q1 | ⟨q1, z1⟩ <;> rcases hi j _ h2 with q2 | ⟨q2, z2⟩
    · exact S.nd i j a q1 q2
    · cases z2; exact absurd (List.mem_of_getElem? q1) nD
    · cases z1; exact absurd (List.mem_of_getElem? q2) nD
    · rw [q1, q2]
  · rcases hi n _ h2 with q | ⟨q, z⟩
    · have hn : n < M.length := by rw [← hl]; exact (List.getElem?_eq_some_iff.mp q).1
      rw [List.getElem?_append_left hn] at h1
      obtain ⟨ob, h3, h4⟩ := S.cells n c a h1 q
      exact ⟨ob, h3, h4.move mv_promote (S.dn n c h1)⟩
    · subst q; cases z
      simp at h1
      subst h1
      exact ⟨o, e, r.move mv_promote hc⟩
  · rcases hi n _ h with q | ⟨_, q⟩
    · exact S.dis n a q (List.mem_cons_of_mem _ z)
    · cases q; exact nP z
  · rcases hi n _ h2 with q | ⟨q, z⟩
    · have hn : n < M.length := by rw [← hl]; exact (List.getElem?_eq_some_iff.mp q).1
      rw [List.getElem?_append_left hn] at h1
      exact S.deads n c h1 q
    · cases z
/-- the comprehension's end: its object as a new cell; later cells are let go -/
theorem comp_finC {D : Addr} {H1 : Hp} {μ1 : Mu} {M1 : Store} {c : Cell} {o : HO} {Q : VK} (m : Stp H μ H1 μ1) (hin : D ∈ μ1.pi) (nD : some D ∉ μ1.cs) (S : StR K H μ M) (S1 : StR K H1 μ1 M1) (hD : H D = none) (e : H1 D = some o) (r : OR K H1 μ1 c o) (hc : Dn M.length c)
    (p : Post K (RV K) H μ (.ok (.r (M1.take M.length).length) (M1.take M.length ++ [c])) Q) : Q (.ref D) H1 := by
  have hp2 : ∀ a ∈ D :: μ.pi, a ∈ μ1.pi := fun a h => by
    rcases List.mem_cons.mp h with e | h
    · rw [e]; exact hin
    · exact m.pi a h
  have hl : M.length = μ.cs.length := S.len.symm
  have st : Stp H μ H1 (μ1.cut μ.cs.length μ.pi) := m.cut
  have nP : D ∉ μ.pi := fun z => (S.pis D z).1 hD
  have nD2 : some D ∉ μ1.cs.take μ.cs.length := fun z => nD (List.mem_of_mem_take z)
  have S2 : StR K H1 ⟨μ1.cs.take μ.cs.length, D :: μ.pi⟩ (M1.take M.length) := by
    rw [hl]; exact S1.cut _ hp2
  have r2 : OR K H1 ⟨μ1.cs.take μ.cs.length, D :: μ.pi⟩ c o := r.move (Mu.mv_cut (n := μ.cs.length) hp2) (by rw [← hl]; exact hc)
  have hml : M.length ≤ M1.length := by rw [hl, ← S1.len]; exact m.len
  have S3 := S2.promote e nD2 nP r2 (by rw [List.length_take, Nat.min_eq_left hml]; exact hc)
  have tl : (M1.take M.length).length = (μ1.cs.take μ.cs.length).length := (S2.len).symm
  have lo : ∀ (n : Nat) (x : Option Addr), (μ1.cs.take μ.cs.length)[n]? = some x → (μ1.cs.take μ.cs.length ++ [some D])[n]? = some x := fun n x h => by
    rw [List.getElem?_append_left (List.getElem?_eq_some_iff.mp h).1]; exact h
  have s3 : Stp H μ H1 ⟨μ1.cs.take μ.cs.length ++ [some D], μ.pi⟩ := by
    refine ⟨Nat.le_trans st.len (by show (μ1.cs.take μ.cs.length).length ≤ _; simp), fun _ h => h, fun _ h => .inl h, fun n a h => ?_, fun n h => lo n _ (st.gone n h), st.keep, fun n a h => ?_, st.live⟩
    · rcases st.get n a h with q | q
      · exact .inl (lo n _ q)
      · exact .inr (lo n _ q)
    · by_cases hn : n < (μ1.cs.take μ.cs.length).length
      · have h : (μ1.cs.take μ.cs.length ++ [some D])[n]? = some (some a) := h
        rw [List.getElem?_append_left hn] at h
        exact st.fresh n a h
      · have h : (μ1.cs.take μ.cs.length ++ [some D])[n]? = some (some a) := h
        have h2 := (List.getElem?_eq_some_iff.mp h).1
        have hn2 : n = (μ1.cs.take μ.cs.length).length := by simp at h2 hn ⊢; omega
        subst hn2
        simp at h
        subst h
        exact .inr hD
  refine p _ _ _ s3 S3 (.inl ⟨D, ?_, rfl⟩)
  show (μ1.cs.take μ.cs.length ++ [some D])[(M1.take M.length).length]? = some (some D)
  rw [tl]; simp
/-- .. its list as data, or as a new cell -/
theorem comp_finish {D : Addr} {H1 : Hp} {μ1 : Mu} {M1 : Store} {md : Md} {xs : List Ev.D} {vs : List V} {Q : VK} (m : Stp H μ H1 μ1) (hin : D ∈ μ1.pi) (nD : some D ∉ μ1.cs) (S : StR K H μ M) (S1 : StR K H1 μ1 M1) (hD : H D = none) (e : H1 D = some (.lst vs)) (r : DRs K H1 μ1 xs vs)
    (p : Post K (RV K) H μ (Ev.mk md xs (M1.take M.length)) Q) : Q (.ref D) H1 := by
  cases md with
  | F =>
    have hl : M.length = μ.cs.length := S.len.symm
    have nP : D ∉ μ.pi := fun z => (S.pis D z).1 hD
    have nD2 : some D ∉ μ1.cs.take μ.cs.length := fun z => nD (List.mem_of_mem_take z)
    have S2 : StR K H1 (μ1.cut μ.cs.length μ.pi) (M1.take M.length) := by rw [hl]; exact S1.cut _ m.pi
    exact p _ _ _ m.cut S2 (.lst ⟨nD2, nP⟩ e (r.cut m.pi))
  | M => exact comp_finC (c := .lst xs) (o := .lst vs) m hin nD S S1 hD e r trivial p
  | N => exact comp_finC (c := .wl (xs.map .d)) (o := .lst vs) m hin nD S S1 hD e (DRs.wrs r) (fun w hw => by
      obtain ⟨x, _, rfl⟩ := List.mem_map.mp hw
      exact ⟨fun k e => (by cases e), fun k e => by cases e⟩) p
end
end Ev
set_option Elab.async false
set_option linter.all false
set_option maxRecDepth 100000
/-! EvG: comprehensions -/
namespace Ev
open PySem PySem.Spec PyProof.Rows L2
variable [XT] [XA] [XE]

theorem nox_ok {α : Type} {r : Res α} {a : α} {M : Store} (h : nox r = .ok a M) : r = .ok a M := by
  cases r <;> first | exact h | cases h
theorem Post.split {K : PySem.W.Frag} {H : Hp} {μ : Mu} {α β α' : Type} {RB : Hp → Mu → α' → β → Prop} {r : Res α} {f : α → Store → Res α'} {Q : β → Hp → Prop} (p : Post K RB H μ ((nox r).bind f) Q) : ∃ a M, r = .ok a M ∧ Post K RB H μ (f a M) Q := by
  cases r with
  | ok a M => exact ⟨a, M, rfl, p⟩
  | exn x M => exact p.elim
  | stuck => exact p.elim
theorem Res.split {α β : Type} {r : Res α} {f : α → Store → Res β} {b : β} {M2 : Store} (h : r.bind f = .ok b M2) : ∃ a M, r = .ok a M ∧ f a M = .ok b M2 := by
  cases r with
  | ok a M => exact ⟨a, M, rfl, h⟩
  | exn x M => cases h
  | stuck => cases h
theorem withO_split {α β : Type} {o : Option α} {f : α → Res β} {b : β} {M2 : Store} (h : withO o f = .ok b M2) : ∃ a, o = some a ∧ f a = .ok b M2 := by
  cases o with
  | some a => exact ⟨a, rfl, h⟩
  | none => cases h
section
variable {K : PySem.W.Frag} {H : Hp} {μ : Mu} {M : Store}
structure CompRun {α : Type} (K : PySem.W.Frag) (J : It) (tg : CT) (cd : Env → Store → Res Bool) (inner : Env → Store → Res (List α)) (e0 : Env) (run : Nat → Nat → Store → Res (List α)) (g : Nat → Nat → Prop) (H0 : Hp) (μ0 : Mu) : Prop where
  step : ∀ i m M H μ zs M2, g i m → Wk H0 μ0 H μ → StR K H μ M → run i m M = .ok zs M2 →
    (J.stop i H ∧ zs = [] ∧ M2 = M) ∨
    (J.go i H ∧ 0 < m ∧ g (i + 1) (m - 1) ∧ ∃ x : Itm, (∀ v H2, J.yld i H v H2 → Stp H μ H2 μ ∧ StR K H2 μ M ∧ IR K H2 μ x v) ∧ ∃ e1 b M1, asgI tg x e0 = some e1 ∧ cd e1 M = .ok b M1 ∧
      ((b = true ∧ ∃ ys M3 zs', inner e1 M1 = .ok ys M3 ∧ run (i + 1) (m - 1) M3 = .ok zs' M2 ∧ zs = ys ++ zs') ∨ (b = false ∧ run (i + 1) (m - 1) M1 = .ok zs M2)))
theorem comp_turn {α : Type} {tg : CT} {cd : Env → Store → Res Bool} {inner : Env → Store → Res (List α)} {e0 : Env} {x : Itm} {M M2 : Store} {zs : List α} {rest : Store → Res (List α)}
    (h : (withO (asgI tg x e0) fun e1 => (cd e1 M).bind fun b M1 => if b = true then (inner e1 M1).bind fun ys M2 => (rest M2).bind fun zs M3 => .ok (ys ++ zs) M3 else rest M1) = .ok zs M2) :
    ∃ e1 b M1, asgI tg x e0 = some e1 ∧ cd e1 M = .ok b M1 ∧
      ((b = true ∧ ∃ ys M3 zs', inner e1 M1 = .ok ys M3 ∧ rest M3 = .ok zs' M2 ∧ zs = ys ++ zs') ∨ (b = false ∧ rest M1 = .ok zs M2)) := by
  obtain ⟨e1, h1, h⟩ := withO_split h
  obtain ⟨b, M1, h2, h⟩ := Res.split h
  refine ⟨e1, b, M1, h1, h2, ?_⟩
  cases b with
  | true =>
    rw [if_pos rfl] at h
    obtain ⟨ys, M3, h3, h⟩ := Res.split h
    obtain ⟨zs', M4, h4, h⟩ := Res.split h
    cases h
    exact .inl ⟨rfl, ys, M3, zs', h3, h4, rfl⟩
  | false =>
    rw [if_neg Bool.false_ne_true] at h
    exact .inr ⟨rfl, h⟩
theorem compRun_items {α : Type} {J : It} {tg : CT} {cd : Env → Store → Res Bool} {inner : Env → Store → Res (List α)} {e0 : Env} {xs : List D} (R : RI K H μ (.items xs) J) :
    CompRun K J tg cd inner e0 (fun i _ => compL tg cd inner e0 (xs.drop i)) (fun i m => m = xs.length - i) H μ := by
  refine ⟨fun i m M1 H1 μ1 zs M2 hm s S h => ?_⟩
  obtain ⟨t1, t2⟩ := R H1 μ1 M1 s S i
  cases hx : xs[i]? with
  | none =>
    have hl := List.getElem?_eq_none_iff.mp hx
    have h : compL tg cd inner e0 (xs.drop i) M1 = .ok zs M2 := h
    rw [List.drop_eq_nil_of_le hl] at h
    cases h
    exact .inl ⟨t2 hx, rfl, rfl⟩
  | some x =>
    have hi := (List.getElem?_eq_some_iff.mp hx).1
    obtain ⟨go, hy⟩ := t1 x hx
    have e : xs.drop i = x :: xs.drop (i + 1) := by
      rw [List.drop_eq_getElem_cons hi]
      rw [List.getElem?_eq_getElem hi] at hx
      cases hx; rfl
    have h : compL tg cd inner e0 (xs.drop i) M1 = .ok zs M2 := h
    rw [e] at h
    exact .inr ⟨go, by omega, by omega, .w (.d x), hy, comp_turn (by rw [asgI_w]; exact h)⟩
theorem compRun_gs {α : Type} {J : It} {tg : CT} {cd : Env → Store → Res Bool} {inner : Env → Store → Res (List α)} {e0 : Env} {xs : List D} (R : RI K H μ (.gs xs) J) :
    CompRun K J tg cd inner e0 (fun i _ => compG tg cd inner e0 (xs.drop i)) (fun i m => m = xs.length - i) H μ := by
  refine ⟨fun i m M1 H1 μ1 zs M2 hm s S h => ?_⟩
  obtain ⟨t1, t2⟩ := R H1 μ1 M1 s S i
  rw [List.getElem?_map] at t1 t2
  cases hx : xs[i]? with
  | none =>
    have hl := List.getElem?_eq_none_iff.mp hx
    have h : compG tg cd inner e0 (xs.drop i) M1 = .ok zs M2 := h
    rw [List.drop_eq_nil_of_le hl] at h
    cases h
    exact .inl ⟨t2 (by rw [hx]; rfl), rfl, rfl⟩
  | some x =>
    have hi := (List.getElem?_eq_some_iff.mp hx).1
    obtain ⟨go, hy⟩ := t1 (gW x) (by rw [hx]; rfl)
    have e : xs.drop i = x :: xs.drop (i + 1) := by
      rw [List.drop_eq_getElem_cons hi]
      rw [List.getElem?_eq_getElem hi] at hx
      cases hx; rfl
    have h : compG tg cd inner e0 (xs.drop i) M1 = .ok zs M2 := h
    rw [e] at h
    exact .inr ⟨go, by omega, by omega, .w (gW x), hy, comp_turn (by rw [asgI_w]; exact h)⟩
theorem compRun_cell {α : Type} {J : It} {tg : CT} {cd : Env → Store → Res Bool} {inner : Env → Store → Res (List α)} {e0 : Env} {en : Bool} {n : Nat} (R : RI K H μ (.cell en n) J) :
    CompRun K J tg cd inner e0 (fun i m => compC tg cd inner e0 en n m i) (fun _ _ => True) H μ := by
  refine ⟨fun i m M1 H1 μ1 zs M2 _ s S h => ?_⟩
  cases m with
  | zero => cases h
  | succ m =>
    have h : (withO (cellWs M1 n) fun xs => match xs[i]? with
      | none => .ok [] M1
      | some x => withO (asgI tg (itm en i x) e0) fun e1 => (cd e1 M1).bind fun b M1 => if b = true then (inner e1 M1).bind fun ys M2 => (compC tg cd inner e0 en n m (i + 1) M2).bind fun zs M3 => .ok (ys ++ zs) M3
        else compC tg cd inner e0 en n m (i + 1) M1) = .ok zs M2 := h
    obtain ⟨xs, hc, h⟩ := withO_split h
    obtain ⟨t1, t2⟩ := R H1 μ1 M1 xs s S hc i
    split at h
    · rename_i hx
      cases h
      exact .inl ⟨t2 hx, rfl, rfl⟩
    · rename_i x hx
      obtain ⟨go, hy⟩ := t1 x hx
      exact .inr ⟨go, Nat.succ_pos _, trivial, itm en i x, hy, comp_turn h⟩
theorem compRun_keys {α : Type} {J : It} {tg : CT} {cd : Env → Store → Res Bool} {inner : Env → Store → Res (List α)} {e0 : Env} {n : Nat} (R : RI K H μ (.keys n) J) :
    CompRun K J tg cd inner e0 (fun i m => compK tg cd inner e0 n m i) (fun _ _ => True) H μ := by
  refine ⟨fun i m M1 H1 μ1 zs M2 _ s S h => ?_⟩
  cases m with
  | zero => cases h
  | succ m =>
    have h : (withO (lkKeys M1 n) fun xs => match xs[i]? with
      | none => .ok [] M1
      | some x => withO (asgT tg (.d x) e0) fun e1 => (cd e1 M1).bind fun b M1 => if b = true then (inner e1 M1).bind fun ys M2 => (compK tg cd inner e0 n m (i + 1) M2).bind fun zs M3 => .ok (ys ++ zs) M3
        else compK tg cd inner e0 n m (i + 1) M1) = .ok zs M2 := h
    obtain ⟨xs, hc, h⟩ := withO_split h
    obtain ⟨t1, t2⟩ := R H1 μ1 M1 xs s S hc i
    split at h
    · rename_i hx
      cases h
      exact .inl ⟨t2 hx, rfl, rfl⟩
    · rename_i x hx
      obtain ⟨go, hy⟩ := t1 x hx
      exact .inr ⟨go, Nat.succ_pos _, trivial, .w (.d x), hy, comp_turn (by rw [asgI_w]; exact h)⟩
theorem compRun_of {α : Type} {F : Nat} {J : It} {tg : CT} {cd : Env → Store → Res Bool} {inner : Env → Store → Res (List α)} {e0 : Env} {j : Ev.Its} {zs : List α} {M2 : Store} (R : RI K H μ j J) (h : compI F tg cd inner e0 j M = .ok zs M2) :
    ∃ run g m, CompRun K J tg cd inner e0 run g H μ ∧ g 0 m ∧ run 0 m M = .ok zs M2 := by
  cases j with
  | items xs => exact ⟨_, _, xs.length, compRun_items R, by simp, (show compL tg cd inner e0 (xs.drop 0) M = .ok zs M2 from h)⟩
  | cell en n => exact ⟨_, _, F, compRun_cell R, trivial, h⟩
  | keys n => exact ⟨_, _, F, compRun_keys R, trivial, h⟩
  | gs xs => exact ⟨_, _, xs.length, compRun_gs R, by simp, (show compG tg cd inner e0 (xs.drop 0) M = .ok zs M2 from h)⟩
theorem OR.notup {c : Cell} {o : HO} (h : OR K H μ c o) : NoTup o := fun vs e => by
  subst e
  cases c <;> exact h.elim
/-- a moment within a comprehension: what is made so far at D -/
def noX : W → Bool
  | .x _ => false
  | _ => true
def cnX : Cell → Bool
  | .wl ws => ws.all noX
  | _ => true
theorem Dn.nx {b : Nat} {c : Cell} (h : Dn b c) : cnX c = true := by
  cases c with
  | wl ws =>
    show ws.all noX = true
    rw [List.all_eq_true]
    intro w hw
    cases w <;> first | rfl | exact absurd rfl ((h _ hw).2 _)
  | _ => rfl
structure InG (K : PySem.W.Frag) (H0 : Hp) (μ0 : Mu) (e : Env) (σ : L2.St) (D : Addr) (H : Hp) (μ : Mu) (M : Store) (c : Cell) : Prop where
  stp : Stp H0 μ0 H μ
  inp : D ∈ μ.pi
  nc : some D ∉ μ.cs
  st : StR K H μ M
  env : EnvR K H μ e σ
  nx : cnX c = true
  obj : ∃ o, H D = some o ∧ OR K H μ c o
abbrev InC (K : PySem.W.Frag) (H0 : Hp) (μ0 : Mu) (e : Env) (σ : L2.St) (D : Addr) (H : Hp) (μ : Mu) (M : Store) (acc : List Ev.D) : Prop := InG K H0 μ0 e σ D H μ M (.lst acc)
theorem InG.at_ {H0 : Hp} {μ0 : Mu} {e : Env} {σ : L2.St} {D : Addr} {acc : List Ev.D} (c : InG K H0 μ0 e σ D H μ M (.lst acc)) : ∃ vs, H D = some (.lst vs) ∧ DRs K H μ acc vs := by
  obtain ⟨o, h1, h2⟩ := c.obj
  cases o <;> first | exact h2.elim | skip
  exact ⟨_, h1, h2⟩
theorem InG.start {e : Env} {σ : L2.St} {D : Addr} {c : Cell} {o : HO} (a : At K H μ e σ M) (hD : H D = none) (r : ∀ H μ, OR K H μ c o) (nx : cnX c = true := by rfl) : InG K H μ e σ D (upd H D o) (μ.hide D) M c :=
  ⟨stp_hide hD, List.mem_cons_self, a.st.notin hD, a.st.hide hD (r H μ).notup, a.env.hide hD, nx, o, upd_same, r _ _⟩
theorem InC.start {e : Env} {σ : L2.St} {D : Addr} (a : At K H μ e σ M) (hD : H D = none) : InC K H μ e σ D (upd H D (.lst [])) (μ.hide D) M [] :=
  InG.start a hD fun _ _ => DRs.nil
theorem InG.step {H1 H2 : Hp} {μ1 μ2 : Mu} {M1 M2 : Store} {e : Env} {σ : L2.St} {D : Addr} {cl : Cell} (c : InG K H μ e σ D H1 μ1 M1 cl) (s : Stp H1 μ1 H2 μ2) (S : StR K H2 μ2 M2) : InG K H μ e σ D H2 μ2 M2 cl := by
  obtain ⟨vs, h1, h2⟩ := c.obj
  exact ⟨c.stp.trans s, s.pi D c.inp, s.notin c.nc h1, S, c.env.stp s, c.nx, vs, s.keep D _ h1 c.nc, h2.stp s⟩
theorem InG.put {H1 : Hp} {μ1 : Mu} {M1 : Store} {e : Env} {σ : L2.St} {D : Addr} {cl cl' : Cell} {o : HO} (c : InG K H μ e σ D H1 μ1 M1 cl) (hD : H D = none) (r : OR K H1 μ1 cl' o) {b : Nat} (hc : Dn b cl' := by trivial) : InG K H μ e σ D (upd H1 D o) μ1 M1 cl' :=
  ⟨c.stp.rewrite hD, c.inp, c.nc, c.st.rewrite c.inp r.notup, c.env.rewrite c.inp, hc.nx, o, upd_same, r.move (b := b) (mv_rewrite c.inp) hc⟩
theorem InG.snoc {H1 : Hp} {μ1 : Mu} {M1 : Store} {e : Env} {σ : L2.St} {D : Addr} {acc : List Ev.D} {x : Ev.D} {v : V} {vs : List V} (c : InC K H μ e σ D H1 μ1 M1 acc) (hD : H D = none) (h : H1 D = some (.lst vs)) (r : DR K H1 μ1 x v) : InC K H μ e σ D (upd H1 D (.lst (vs ++ [v]))) μ1 M1 (acc ++ [x]) := by
  obtain ⟨us, h1, h2⟩ := c.at_
  rw [h] at h1; cases h1
  exact InG.put (cl' := .lst (acc ++ [x])) (o := .lst (vs ++ [v])) (b := 0) c hD (h2.append (.cons r .nil)) trivial
theorem InG.done {H1 : Hp} {μ1 : Mu} {M1 : Store} {e : Env} {σ : L2.St} {D : Addr} {acc : List Ev.D} {md : Md} {Q : VK} (c : InC K H μ e σ D H1 μ1 M1 acc) (S : StR K H μ M) (hD : H D = none) (p : Post K (RV K) H μ (Ev.mk md acc (M1.take M.length)) Q) : Q (.ref D) H1 := by
  obtain ⟨vs, h1, h2⟩ := c.at_
  exact comp_finish c.stp c.inp c.nc S c.st hD h1 h2 p
theorem wk_rewrite {D : Addr} {o : HO} (h : D ∈ μ.pi) (hf : ∀ o' u, H D ≠ some (.frz o' u)) : Wk H μ (upd H D o) μ :=
  ⟨Nat.le_refl _, fun _ h => h, fun _ h => .inl h, fun _ _ h => .inl h, fun _ h => h, fun a o' e n => by rw [upd_ne (fun z : a = D => n.2 (by rw [z]; exact h))]; exact e, fun _ _ h => .inl h, live_upd hf⟩
theorem wipe_wipes {σ : L2.St} {vs : List Nat} : ∀ us : List Nat, (∀ i ∈ us, i ∈ vs) → wipe (wipe σ us) vs = wipe σ vs
  | [], _ => rfl
  | u :: us, h => by
    show wipe ((wipe σ us).set u none) vs = wipe σ vs
    rw [wipe_set (h u List.mem_cons_self), wipe_wipes us fun i hi => h i (List.mem_cons_of_mem _ hi)]
theorem wipe_wipe {σ : L2.St} (vs : List Nat) : wipe (wipe σ vs) vs = wipe σ vs := wipe_wipes vs fun _ h => h
/-- an element is made and put behind the list -/
theorem elt_ok {ev : Env → Store → Res W} {e e1 : Env} {σ σ2 : L2.St} {D : Addr} {H1 : Hp} {μ1 : Mu} {M1 M3 : Store} {acc ys : List Ev.D} {N : Hp → Prop} (c : InC K H μ e σ D H1 μ1 M1 acc) (hD : H D = none) (E : EnvR K H1 μ1 e1 σ2) (hl : acc.length < sizeLine) (h : oneD (ev e1 M1) = .ok ys M3)
    (k : ∀ x H4 μ4, ys = [x] → InC K H μ e σ D H4 μ4 M3 (acc ++ [x]) → N H4) :
    @tE _ _ xF K ev σ2 H1 fun y H4 => ∃ a, H4 D = some (.lst a) ∧ a.length < sizeLine ∧ N (upd H4 D (.lst (a ++ [y]))) := by
  obtain ⟨w, M4, h1, h2⟩ := Res.split h
  obtain ⟨p, h3, h4⟩ := withO_split h2
  cases h4
  refine ⟨e1, M1, μ1, ⟨E, c.st⟩, ?_⟩
  rw [h1]
  intro y H4 μ4 s S r
  have c4 := c.step s S
  obtain ⟨vs, g1, g2⟩ := c4.at_
  obtain ⟨μ5, s5, S5, d5⟩ := frzW_ok S r h3
  have c5 := c4.step s5 S5
  exact ⟨vs, g1, by rw [← g2.length]; exact hl, k p.1 _ μ5 rfl (c5.snoc hD g1 d5)⟩
theorem comp_ok {F : Nat} {md : Md} {own : List Nat} {tg : CT} {ei : Env → Store → Res Ev.Its} {cd : Env → Store → Res Bool} {ev : Env → Store → Res W} {e : Env} {σ : L2.St} {Q : VK} (hown : ∀ i ∈ ctS tg, i ∈ own) (a : At K H μ e σ M)
    (p : Post K (RV K) H μ ((ei e M).bind fun j M1 => (nox (compI F tg cd (fun e1 M2 => oneD (ev e1 M2)) (wipeE e own) j M1)).bind fun xs M2 => lim xs.length (mk md xs (M2.take M1.length))) Q) :
    tLc (tI K ei) (gT K tg) (@tB _ _ xF K cd) (@tE _ _ xF K ev) own σ H Q := by
  refine ⟨e, M, μ, a, (Post.bind (RA := RI K) p).imp fun J H1 ⟨j, M1, μ1, s1, S1, rj, p1⟩ D hD => ?_⟩
  have a1 : At K H1 μ1 e σ M1 := a.stp s1 S1
  obtain ⟨xs, Mf, hrun, p2⟩ := Post.split p1
  obtain ⟨hlen, p3⟩ := Post.lim p2
  obtain ⟨run, g, m0, CR, hg, hr⟩ := compRun_of rj hrun
  refine ⟨fun i m H' => ∃ μ' M' acc zs, g i m ∧ InC K H1 μ1 e σ D H' μ' M' acc ∧ run i m M' = .ok zs Mf ∧ acc ++ zs = xs, ⟨m0, _, M1, [], xs, hg, InC.start a1 hD, hr, rfl⟩, ?_⟩
  rintro i m H2 ⟨μ2, M2, acc, zs, g2, c2, hr2, hx⟩
  rcases CR.step i m M2 H2 μ2 zs Mf g2 c2.stp.wk c2.st hr2 with ⟨st, e1, e2⟩ | ⟨go, hm, g3, x, hy, e1, b, M3, h1, h2, h3⟩
  · subst e1 e2
    rw [List.append_nil] at hx
    subst hx
    exact .inl ⟨st, c2.done S1 hD p3⟩
  · refine .inr ⟨go, fun H' => ∃ μ' M' acc zs, g (i + 1) (m - 1) ∧ InC K H1 μ1 e σ D H' μ' M' acc ∧ run (i + 1) (m - 1) M' = .ok zs Mf ∧ acc ++ zs = xs, fun H' z => ⟨m - 1, by omega, z⟩, fun v H3 y => ?_⟩
    obtain ⟨s3, S3, r3⟩ := hy v H3 y
    have c3 := c2.step s3 S3
    refine gI_ok (x := x) h1 r3 (c3.env.wipe own) fun σ3 E3 hw => ⟨?_, ?_⟩
    · rw [hw own hown, wipe_wipe]
    · refine ⟨e1, M2, μ2, ⟨E3, S3⟩, ?_⟩
      rw [h2]
      intro b' H4 μ4 s4 S4 hb
      have hb : b = b' := hb
      subst hb
      have c4 := c3.step s4 S4
      have E4 := E3.stp s4
      rcases h3 with ⟨rfl, ys, M5, zs', h5, h6, h7⟩ | ⟨rfl, h5⟩
      · rw [if_pos rfl]
        refine elt_ok (N := fun H' => ∃ μ' M' acc zs, g (i + 1) (m - 1) ∧ InC K H1 μ1 e σ D H' μ' M' acc ∧ run (i + 1) (m - 1) M' = .ok zs Mf ∧ acc ++ zs = xs) c4 hD E4 ?_ h5 fun x' H5 μ5 ex c5 => ⟨μ5, M5, acc ++ [x'], zs', g3, c5, h6, ?_⟩
        · obtain ⟨w, M6, q1, q2⟩ := Res.split h5
          obtain ⟨pp, q3, q4⟩ := withO_split q2
          cases q4
          rw [← hx, h7] at hlen
          simp at hlen
          omega
        · rw [← hx, h7, ex, List.append_assoc]
      · rw [if_neg Bool.false_ne_true]
        exact ⟨μ4, M3, acc, zs, g3, c4, h5, hx⟩
theorem WR.lw0 {H1 : Hp} {μ1 : Mu} {M1 : Store} (S : StR K H1 μ1 M1) {w : W} {v : V} (r : WR K H1 μ1 w v) : ∀ k, w = .r k → k < M1.length := fun k e => by
  subst e
  rw [← S.len]
  rcases r with ⟨a, h, _⟩ | h
  · exact (List.getElem?_eq_some_iff.mp h).1
  · exact (List.getElem?_eq_some_iff.mp h).1
theorem WR.lw {H1 : Hp} {μ1 : Mu} {M1 : Store} (S : StR K H1 μ1 M1) {w : W} {v : V} (r : WR K H1 μ1 w v) (nx : noX w = true) : Lw M1.length w := ⟨WR.lw0 S r, fun e z => by subst z; cases nx⟩
theorem WRs.lw {H1 : Hp} {μ1 : Mu} {M1 : Store} (S : StR K H1 μ1 M1) : ∀ {ws : List W} {vs : List V}, WRs K H1 μ1 ws vs → ws.all noX = true → ∀ w ∈ ws, Lw M1.length w
  | _, _, .nil, _, _, h => by cases h
  | _, _, .cons h r, nx, w, hw => by
    rw [List.all_cons, Bool.and_eq_true] at nx
    rcases List.mem_cons.mp hw with e | hw
    · subst e; exact h.lw S nx.1
    · exact WRs.lw S r nx.2 w hw
theorem noS_noX {ws : List W} (h : ws.all noS = true) : ws.all noX = true := by
  rw [List.all_eq_true] at h ⊢
  intro w hw
  have := h w hw
  cases w <;> first | rfl | cases this
theorem WRs.append {H1 : Hp} {μ1 : Mu} : ∀ {ws us : List W} {vs zs : List V}, WRs K H1 μ1 ws vs → WRs K H1 μ1 us zs → WRs K H1 μ1 (ws ++ us) (vs ++ zs)
  | _, _, _, _, .nil, h => h
  | _, _, _, _, .cons h r, k => .cons h (WRs.append r k)
/-- a list of running values is made: every cell stays -/
theorem comp_finN {D : Addr} {H1 : Hp} {μ1 : Mu} {M1 : Store} {c : Cell} {o : HO} {Q : VK} (m : Stp H μ H1 μ1) (hin : D ∈ μ1.pi) (nD : some D ∉ μ1.cs) (S : StR K H μ M) (S1 : StR K H1 μ1 M1) (hD : H D = none) (e : H1 D = some o) (r : OR K H1 μ1 c o) (hc : Dn M1.length c)
    (p : Post K (RV K) H μ (.ok (.r M1.length) (M1 ++ [c])) Q) : Q (.ref D) H1 := by
  have hp2 : ∀ a ∈ D :: μ.pi, a ∈ μ1.pi := fun a h => by
    rcases List.mem_cons.mp h with e | h
    · rw [e]; exact hin
    · exact m.pi a h
  have tk : μ1.cs.take M1.length = μ1.cs := by rw [← S1.len]; exact List.take_length
  have nP : D ∉ μ.pi := fun z => (S.pis D z).1 hD
  have S2 : StR K H1 ⟨μ1.cs, D :: μ.pi⟩ M1 := by
    have q := S1.cut M1.length hp2
    unfold Mu.cut at q
    rw [tk, List.take_length] at q
    exact q
  have r2 : OR K H1 ⟨μ1.cs, D :: μ.pi⟩ c o := by
    have q := r.move (Mu.mv_cut (n := M1.length) hp2) hc
    unfold Mu.cut at q
    rw [tk] at q
    exact q
  have S3 := S2.promote e nD nP r2 hc
  have hl : M1.length = μ1.cs.length := S1.len.symm
  have lo : ∀ (n : Nat) (x : Option Addr), μ1.cs[n]? = some x → (μ1.cs ++ [some D])[n]? = some x := fun n x h => by
    rw [List.getElem?_append_left (List.getElem?_eq_some_iff.mp h).1]; exact h
  have s3 : Stp H μ H1 ⟨μ1.cs ++ [some D], μ.pi⟩ := by
    refine ⟨Nat.le_trans m.len (by show μ1.cs.length ≤ _; simp), fun _ h => h, fun _ h => .inl h, fun n a h => ?_, fun n h => lo n _ (m.gone n h), m.keep, fun n a h => ?_, m.live⟩
    · rcases m.get n a h with q | q
      · exact .inl (lo n _ q)
      · exact .inr (lo n _ q)
    · by_cases hn : n < μ1.cs.length
      · have h : (μ1.cs ++ [some D])[n]? = some (some a) := h
        rw [List.getElem?_append_left hn] at h
        exact m.fresh n a h
      · have h : (μ1.cs ++ [some D])[n]? = some (some a) := h
        have h2 := (List.getElem?_eq_some_iff.mp h).1
        have hn2 : n = μ1.cs.length := by simp at h2 hn ⊢; omega
        subst hn2
        simp at h
        subst h
        exact .inr hD
  refine p _ _ _ s3 S3 (.inl ⟨D, ?_, rfl⟩)
  show (μ1.cs ++ [some D])[M1.length]? = some (some D)
  rw [hl]; simp
theorem compN_ok {F : Nat} {own : List Nat} {tg : CT} {ei : Env → Store → Res Ev.Its} {cd : Env → Store → Res Bool} {ev : Env → Store → Res W} {e : Env} {σ : L2.St} {Q : VK} (hown : ∀ i ∈ ctS tg, i ∈ own) (a : At K H μ e σ M)
    (p : Post K (RV K) H μ ((ei e M).bind fun j M1 => (nox (compI F tg cd (fun e1 M2 => oneW (ev e1 M2)) (wipeE e own) j M1)).bind fun ws M2 => lim ws.length (.ok (.r M2.length) (M2 ++ [.wl ws]))) Q) :
    tLc (tI K ei) (gT K tg) (@tB _ _ xF K cd) (@tE _ _ xF K ev) own σ H Q := by
  refine ⟨e, M, μ, a, (Post.bind (RA := RI K) p).imp fun J H1 ⟨j, M1, μ1, s1, S1, rj, p1⟩ D hD => ?_⟩
  have a1 : At K H1 μ1 e σ M1 := a.stp s1 S1
  obtain ⟨xs, Mf, hrun, p2⟩ := Post.split p1
  obtain ⟨hlen, p3⟩ := Post.lim p2
  obtain ⟨run, g, m0, CR, hg, hr⟩ := compRun_of rj hrun
  refine ⟨fun i m H' => ∃ μ' M' acc zs, g i m ∧ InG K H1 μ1 e σ D H' μ' M' (.wl acc) ∧ run i m M' = .ok zs Mf ∧ acc ++ zs = xs, ⟨m0, _, M1, [], xs, hg, InG.start (o := .lst []) a1 hD fun _ _ => WRs.nil, hr, rfl⟩, ?_⟩
  rintro i m H2 ⟨μ2, M2, acc, zs, g2, c2, hr2, hx⟩
  rcases CR.step i m M2 H2 μ2 zs Mf g2 c2.stp.wk c2.st hr2 with ⟨st, e1, e2⟩ | ⟨go, hm, g3, x, hy, e1, b, M3, h1, h2, h3⟩
  · subst e1 e2
    rw [List.append_nil] at hx
    subst hx
    obtain ⟨o, ho, hor⟩ := c2.obj
    cases o <;> first | exact hor.elim | skip
    exact .inl ⟨st, comp_finN c2.stp c2.inp c2.nc S1 c2.st hD ho hor (WRs.lw c2.st hor c2.nx) p3⟩
  · refine .inr ⟨go, fun H' => ∃ μ' M' acc zs, g (i + 1) (m - 1) ∧ InG K H1 μ1 e σ D H' μ' M' (.wl acc) ∧ run (i + 1) (m - 1) M' = .ok zs Mf ∧ acc ++ zs = xs, fun H' z => ⟨m - 1, by omega, z⟩, fun v H3 y => ?_⟩
    obtain ⟨s3, S3, r3⟩ := hy v H3 y
    have c3 := c2.step s3 S3
    refine gI_ok (x := x) h1 r3 (c3.env.wipe own) fun σ3 E3 hw => ⟨?_, ?_⟩
    · rw [hw own hown, wipe_wipe]
    · refine ⟨e1, M2, μ2, ⟨E3, S3⟩, ?_⟩
      rw [h2]
      intro b' H4 μ4 s4 S4 hb
      have hb : b = b' := hb
      subst hb
      have c4 := c3.step s4 S4
      have E4 := E3.stp s4
      rcases h3 with ⟨rfl, ys, M5, zs', h5, h6, h7⟩ | ⟨rfl, h5⟩
      · rw [if_pos rfl]
        obtain ⟨w, M6, q1, q2⟩ := Res.split h5
        have q3 : ys = [w] ∧ M6 = M5 ∧ noX w = true := by
          cases w <;> first
            | (cases q2; done)
            | (cases q2; exact ⟨rfl, rfl, rfl⟩)
        obtain ⟨rfl, rfl, nxw⟩ := q3
        refine ⟨e1, M3, μ4, ⟨E4, S4⟩, ?_⟩
        rw [q1]
        intro y5 H5 μ5 s5 S5 r5
        have c5 := c4.step s5 S5
        obtain ⟨o, ho, hor⟩ := c5.obj
        cases o <;> first | exact hor.elim | skip
        rename_i vs
        have hor : WRs K H5 μ5 acc vs := hor
        have hnew : WRs K H5 μ5 (acc ++ [w]) (vs ++ [y5]) := hor.append (.cons r5 .nil)
        refine ⟨vs, ho, ?_, μ5, M6, acc ++ [w], zs', g3, c5.put (cl' := .wl (acc ++ [w])) (o := .lst (vs ++ [y5])) (b := M6.length) hD hnew (WRs.lw S5 hnew (by rw [List.all_append, show acc.all noX = true from c5.nx, Bool.true_and]; show (noX w && true) = true; rw [nxw]; rfl)), h6, by rw [← hx, h7, List.append_assoc]⟩
        have l1 := congrArg List.length hx
        have l2 := hor.length
        rw [h7] at l1
        simp at l1
        omega
      · rw [if_neg Bool.false_ne_true]
        exact ⟨μ4, M3, acc, zs, g3, c4, h5, hx⟩
theorem comp2_ok {F : Nat} {md : Md} {own own1 : List Nat} {tg tg1 : CT} {ei ei1 : Env → Store → Res Ev.Its} {cd cd1 : Env → Store → Res Bool} {ev : Env → Store → Res W} {e : Env} {σ : L2.St} {Q : VK} (hown : ∀ i ∈ ctS tg, i ∈ own) (hown1 : ∀ i ∈ ctS tg1, i ∈ own1) (a : At K H μ e σ M)
    (p : Post K (RV K) H μ ((ei e M).bind fun j M1 => (nox (compI F tg cd (fun e1 M2 => (ei1 e1 M2).bind fun j1 M3 => compI F tg1 cd1 (fun e2 M4 => oneD (ev e2 M4)) (wipeE e1 own1) j1 M3) (wipeE e own) j M1)).bind fun xs M2 => lim xs.length (mk md xs (M2.take M1.length))) Q) :
    tLc2 (tI K ei) (gT K tg) (@tB _ _ xF K cd) (@tI _ _ xF K ei1) (gT K tg1) (@tB _ _ xF K cd1) (@tE _ _ xF K ev) own own1 σ H Q := by
  refine ⟨e, M, μ, a, (Post.bind (RA := RI K) p).imp fun J H1 ⟨j, M1, μ1, s1, S1, rj, p1⟩ D hD => ?_⟩
  have a1 : At K H1 μ1 e σ M1 := a.stp s1 S1
  obtain ⟨xs, Mf, hrun, p2⟩ := Post.split p1
  obtain ⟨hlen, p3⟩ := Post.lim p2
  obtain ⟨run, g, m0, CR, hg, hr⟩ := compRun_of rj hrun
  refine ⟨fun i m H' => ∃ μ' M' acc zs, g i m ∧ InC K H1 μ1 e σ D H' μ' M' acc ∧ run i m M' = .ok zs Mf ∧ acc ++ zs = xs, ⟨m0, _, M1, [], xs, hg, InC.start a1 hD, hr, rfl⟩, ?_⟩
  rintro i m H2 ⟨μ2, M2, acc, zs, g2, c2, hr2, hx⟩
  rcases CR.step i m M2 H2 μ2 zs Mf g2 c2.stp.wk c2.st hr2 with ⟨st, e1, e2⟩ | ⟨go, hm, g3, x, hy, e1, b, M3, h1, h2, h3⟩
  · subst e1 e2
    rw [List.append_nil] at hx
    subst hx
    exact .inl ⟨st, c2.done S1 hD p3⟩
  · refine .inr ⟨go, fun H' => ∃ μ' M' acc zs, g (i + 1) (m - 1) ∧ InC K H1 μ1 e σ D H' μ' M' acc ∧ run (i + 1) (m - 1) M' = .ok zs Mf ∧ acc ++ zs = xs, fun H' z => ⟨m - 1, by omega, z⟩, fun v H3 y => ?_⟩
    obtain ⟨s3, S3, r3⟩ := hy v H3 y
    have c3 := c2.step s3 S3
    refine gI_ok (x := x) h1 r3 (c3.env.wipe own) fun σ3 E3 hw => ⟨?_, ?_⟩
    · rw [hw own hown, wipe_wipe]
    · refine ⟨e1, M2, μ2, ⟨E3, S3⟩, ?_⟩
      rw [h2]
      intro b' H4 μ4 s4 S4 hb
      have hb : b = b' := hb
      subst hb
      have c4 := c3.step s4 S4
      have E4 := E3.stp s4
      rcases h3 with ⟨rfl, ys, M5, zs', h5, h6, h7⟩ | ⟨rfl, h5⟩
      · rw [if_pos rfl]
        obtain ⟨j1, M6, h8, h9⟩ := Res.split h5
        refine ⟨e1, M3, μ4, ⟨E4, S4⟩, ?_⟩
        rw [h8]
        intro J1 H5 μ5 s5 S5 rj1
        have c5 := c4.step s5 S5
        have E5 := E4.stp s5
        obtain ⟨run1, g1, m1, CR1, hg1, hr1⟩ := compRun_of rj1 h9
        refine ⟨fun i' m' H' => ∃ μ' M' acc' zs1, g1 i' m' ∧ Wk H5 μ5 H' μ' ∧ InC K H1 μ1 e σ D H' μ' M' acc' ∧ EnvR K H' μ' e1 σ3 ∧ run1 i' m' M' = .ok zs1 M5 ∧ acc' ++ zs1 = acc ++ ys, ⟨m1, μ5, M6, acc, ys, hg1, Wk.refl, c5, E5, hr1, rfl⟩, ?_⟩
        rintro i' m' H6 ⟨μ6, M7, acc', zs1, g6, s6, c6, E6, hr6, hx6⟩
        rcases CR1.step i' m' M7 H6 μ6 zs1 M5 g6 s6 c6.st hr6 with ⟨st, e3, e4⟩ | ⟨go1, hm1, g7, x1, hy1, e5, b1, M8, k1, k2, k3⟩
        · subst e3 e4
          rw [List.append_nil] at hx6
          subst hx6
          exact .inl ⟨st, μ6, M5, acc ++ ys, zs', g3, c6, h6, by rw [← hx, h7, List.append_assoc]⟩
        · refine .inr ⟨go1, fun H' => ∃ μ' M' acc' zs1, g1 (i' + 1) (m' - 1) ∧ Wk H5 μ5 H' μ' ∧ InC K H1 μ1 e σ D H' μ' M' acc' ∧ EnvR K H' μ' e1 σ3 ∧ run1 (i' + 1) (m' - 1) M' = .ok zs1 M5 ∧ acc' ++ zs1 = acc ++ ys, fun H' z => ⟨m' - 1, by omega, z⟩, fun v1 H7 y1 => ?_⟩
          obtain ⟨s7, S7, r7⟩ := hy1 v1 H7 y1
          have c7 := c6.step s7 S7
          have E7 := E6.stp s7
          refine gI_ok (x := x1) k1 r7 (E7.wipe own1) fun σ7 E8 hw1 => ⟨?_, ?_⟩
          · rw [hw1 own1 hown1, wipe_wipe]
          · refine ⟨e5, M7, μ6, ⟨E8, S7⟩, ?_⟩
            rw [k2]
            intro b2 H8 μ8 s8 S8 hb2
            have hb2 : b1 = b2 := hb2
            subst hb2
            have c8 := c7.step s8 S8
            have E9 := E8.stp s8
            rcases k3 with ⟨rfl, ys1, M9, zs2, k5, k6, k7⟩ | ⟨rfl, k5⟩
            · rw [if_pos rfl]
              have hone : ∃ x', ys1 = [x'] := by
                obtain ⟨w, M6, q1, q2⟩ := Res.split k5
                obtain ⟨pp, q3, q4⟩ := withO_split q2
                cases q4
                exact ⟨_, rfl⟩
              obtain ⟨xo, hxo⟩ := hone
              obtain ⟨w, M10, q1, q2⟩ := Res.split k5
              obtain ⟨pp, q3, q4⟩ := withO_split q2
              cases q4
              refine ⟨e5, M8, μ8, ⟨E9, S8⟩, ?_⟩
              rw [q1]
              intro y H9 μ9 s9 S9 r9
              have c9 := c8.step s9 S9
              have E10 := (E7.stp s8).stp s9
              obtain ⟨vs, f1, f2⟩ := c9.at_
              obtain ⟨μ10, s10, S10, d10⟩ := frzW_ok S9 r9 q3
              have c10 := c9.step s10 S10
              refine ⟨vs, f1, ?_, μ10, _, acc' ++ [pp.1], zs2, g7, ?_, c10.snoc hD f1 d10, ?_, k6, ?_⟩
              · rw [← f2.length]
                have hx7 := hx6
                rw [k7] at hx7
                have l1 := congrArg List.length hx7
                have l2 := congrArg List.length hx
                rw [h7] at l2
                simp at l1 l2
                omega
              · exact ((((s6.trans s7.wk).trans s8.wk).trans s9.wk).trans s10.wk).trans (wk_rewrite c10.inp fun o' u z => by rw [f1] at z; cases z)
              · exact (E10.stp s10).rewrite c10.inp
              · rw [← hx6, k7, List.append_assoc]
            · rw [if_neg Bool.false_ne_true]
              exact ⟨μ8, M8, acc', zs1, g7, ((s6.trans s7.wk).trans s8.wk), c8, (E7.stp s8), k5, hx6⟩
      · rw [if_neg Bool.false_ne_true]
        exact ⟨μ4, M3, acc, zs, g3, c4, h5, hx⟩
theorem dictG_snoc {x : Ev.D} : ∀ {zs : List Ev.D} {acc kvs : List (Key × Ev.D)}, dictG acc (zs ++ [x]) = some kvs → ∃ mid, dictG acc zs = some mid ∧ dictG mid [x] = some kvs
  | [], acc, kvs, h => ⟨acc, rfl, h⟩
  | z :: zs, acc, kvs, h => by
    rw [List.cons_append] at h
    unfold dictG at h
    split at h
    · rename_i e; cases e
    · rename_i x' v' r' e
      cases e
      obtain ⟨j, h1, h2⟩ := Option.bind_eq_some_iff.mp h
      obtain ⟨mid, h3, h4⟩ := dictG_snoc h2
      exact ⟨mid, by unfold dictG; rw [h1]; exact h3, h4⟩
    · cases h
theorem dictG_append : ∀ {zs ys : List Ev.D} {acc kvs : List (Key × Ev.D)}, dictG acc (zs ++ ys) = some kvs → ∃ mid, dictG acc zs = some mid ∧ dictG mid ys = some kvs
  | [], ys, acc, kvs, h => ⟨acc, rfl, h⟩
  | z :: zs, ys, acc, kvs, h => by
    rw [List.cons_append] at h
    unfold dictG at h
    split at h
    · rename_i e; cases e
    · rename_i x' v' r' e
      cases e
      obtain ⟨j, h1, h2⟩ := Option.bind_eq_some_iff.mp h
      obtain ⟨mid, h3, h4⟩ := dictG_append h2
      exact ⟨mid, by unfold dictG; rw [h1]; exact h3, h4⟩
    · cases h
theorem putD_len {κ : Type} [DecidableEq κ] (kvs : List (κ × Ev.D)) (k : κ) (v : Ev.D) : (putD kvs k v).length ≤ kvs.length + 1 := by
  unfold putD
  split <;> simp
theorem dictG_len : ∀ {zs : List Ev.D} {acc kvs : List (Key × Ev.D)}, dictG acc zs = some kvs → kvs.length ≤ acc.length + zs.length
  | [], acc, kvs, h => by cases h; exact Nat.le_refl _
  | z :: zs, acc, kvs, h => by
    unfold dictG at h
    split at h
    · rename_i e; cases e
    · rename_i x' v' r' e
      cases e
      obtain ⟨j, h1, h2⟩ := Option.bind_eq_some_iff.mp h
      have hp : ∀ a : List (Key × Ev.D), (putD a j v').length ≤ a.length + 1 := fun a => putD_len a j v'
      have := Nat.le_trans (dictG_len h2) (Nat.add_le_add_right (hp _) _)
      simp only [List.length_cons]
      omega
    · cases h
theorem dcomp_ok {F : Nat} {own : List Nat} {tg : CT} {ei : Env → Store → Res Ev.Its} {cd : Env → Store → Res Bool} {ek ev : Env → Store → Res W} {e : Env} {σ : L2.St} {Q : VK} (hown : ∀ i ∈ ctS tg, i ∈ own) (a : At K H μ e σ M)
    (p : Post K (RV K) H μ ((ei e M).bind fun j M1 => (nox (compI F tg cd (fun e1 M2 => pairD (ek e1 M2) (ev e1)) (wipeE e own) j M1)).bind fun xs M2 => withO (dictG [] xs) fun kvs => lim xs.length (.ok (.r M1.length) (M2.take M1.length ++ [.dK kvs]))) Q) :
    tDc (tI K ei) (gT K tg) (@tB _ _ xF K cd) (@tE _ _ xF K ek) (@tE _ _ xF K ev) own σ H Q := by
  refine ⟨e, M, μ, a, (Post.bind (RA := RI K) p).imp fun J H1 ⟨j, M1, μ1, s1, S1, rj, p1⟩ D hD => ?_⟩
  have a1 : At K H1 μ1 e σ M1 := a.stp s1 S1
  obtain ⟨xs, Mf, hrun, p2⟩ := Post.split p1
  obtain ⟨kvs, hk, p2⟩ := Post.withO p2
  obtain ⟨hlen, p3⟩ := Post.lim p2
  obtain ⟨run, g, m0, CR, hg, hr⟩ := compRun_of rj hrun
  refine ⟨fun i m H' => ∃ μ' M' acc zs mid, g i m ∧ InG K H1 μ1 e σ D H' μ' M' (.dK mid) ∧ run i m M' = .ok zs Mf ∧ acc ++ zs = xs ∧ dictG [] acc = some mid ∧ dictG mid zs = some kvs, ⟨m0, _, M1, [], xs, [], hg, InG.start a1 hD fun _ _ => KRs.nil, hr, rfl, rfl, hk⟩, ?_⟩
  rintro i m H2 ⟨μ2, M2, acc, zs, mid, g2, c2, hr2, hx, hm1, hm2⟩
  rcases CR.step i m M2 H2 μ2 zs Mf g2 c2.stp.wk c2.st hr2 with ⟨st, e1, e2⟩ | ⟨go, hm, g3, x, hy, e1, b, M3, h1, h2, h3⟩
  · subst e1 e2
    cases hm2
    obtain ⟨o, ho, hor⟩ := c2.obj
    refine .inl ⟨st, comp_finC c2.stp c2.inp c2.nc S1 c2.st hD ho hor trivial ?_⟩
    have el : (Mf.take M1.length).length = M1.length := by
      have h1 : Mf.length = μ2.cs.length := c2.st.len.symm
      have h2 : M1.length = μ1.cs.length := S1.len.symm
      have h3 := c2.stp.len
      rw [List.length_take]
      omega
    rw [el]
    exact p3
  · refine .inr ⟨go, fun H' => ∃ μ' M' acc zs mid, g (i + 1) (m - 1) ∧ InG K H1 μ1 e σ D H' μ' M' (.dK mid) ∧ run (i + 1) (m - 1) M' = .ok zs Mf ∧ acc ++ zs = xs ∧ dictG [] acc = some mid ∧ dictG mid zs = some kvs, fun H' z => ⟨m - 1, by omega, z⟩, fun v H3 y => ?_⟩
    obtain ⟨s3, S3, r3⟩ := hy v H3 y
    have c3 := c2.step s3 S3
    refine gI_ok (x := x) h1 r3 (c3.env.wipe own) fun σ3 E3 hw => ⟨?_, ?_⟩
    · rw [hw own hown, wipe_wipe]
    · refine ⟨e1, M2, μ2, ⟨E3, S3⟩, ?_⟩
      rw [h2]
      intro b' H4 μ4 s4 S4 hb
      have hb : b = b' := hb
      subst hb
      have c4 := c3.step s4 S4
      have E4 := E3.stp s4
      rcases h3 with ⟨rfl, ys, M5, zs', h5, h6, h7⟩ | ⟨rfl, h5⟩
      · rw [if_pos rfl]
        obtain ⟨w, M6, q1, q2⟩ := Res.split h5
        obtain ⟨u, M7, q3, q4⟩ := Res.split q2
        refine ⟨e1, M3, μ4, ⟨E4, S4⟩, ?_⟩
        rw [q1]
        intro y5 H5 μ5 s5 S5 r5
        refine ⟨e1, M6, μ5, ⟨E4.stp s5, S5⟩, ?_⟩
        rw [q3]
        intro z5 H6 μ6 s6 S6 r6
        cases w with
        | r n => cases q4
        | s n => cases q4
        | g n => cases q4
        | x n => cases q4
        | t n => cases q4
        | d dx =>
          simp only [must] at q4
          split at q4
          · rename_i hks
            obtain ⟨pp, q5, q6⟩ := withO_split q4
            cases q6
            obtain ⟨k0, hk0⟩ := Option.isSome_iff_exists.mp hks
            have c6 := (c4.step s5 S5).step s6 S6
            obtain ⟨μ7, s7, S7, d7⟩ := frzW_ok S6 r6 q5
            have c7 := c6.step s7 S7
            obtain ⟨o, ho, hor⟩ := c7.obj
            cases o <;> first | exact hor.elim | skip
            rename_i vs
            have r5 : DR K H5 μ5 dx y5 := r5
            have hsplit : dictG mid (.tuple [dx, pp.1] :: zs') = some kvs := by rw [h7] at hm2; exact hm2
            have hput : dictG (putD mid k0 pp.1) zs' = some kvs := by
              unfold dictG at hsplit
              rw [hk0] at hsplit
              exact hsplit
            have hacc : dictG [] (acc ++ [.tuple [dx, pp.1]]) = some (putD mid k0 pp.1) := by
              have gen : ∀ {a0 : List (Key × Ev.D)} {l : List Ev.D} {m1 : List (Key × Ev.D)}, dictG a0 l = some m1 → dictG a0 (l ++ [.tuple [dx, pp.1]]) = some (putD m1 k0 pp.1) := by
                intro a0 l
                induction l generalizing a0 with
                | nil =>
                  intro m1 h
                  cases h
                  show (keyOf dx).bind (fun k => dictG (putD a0 k pp.1) []) = _
                  rw [hk0]; rfl
                | cons z l ih =>
                  intro m1 h
                  rw [List.cons_append]
                  unfold dictG at h ⊢
                  split at h
                  · rename_i e; cases e
                  · rename_i x' v' r' e
                    cases e
                    obtain ⟨j, h1, h2⟩ := Option.bind_eq_some_iff.mp h
                    simp only [h1, Option.bind_some]
                    exact ih h2
                  · cases h
              exact gen hm1
            refine ⟨vs, k0, keyOf_kV r5 hk0, ho, ?_, ?_⟩
            · have l1 := dictG_len hm1
              have l2 := KRs.length (show KRs K H6 μ7 mid vs from hor)
              have l3 := congrArg List.length hx
              rw [h7] at l3
              simp at l1 l3
              omega
            · refine ⟨μ7, _, acc ++ [.tuple [dx, pp.1]], zs', putD mid k0 pp.1, g3, ?_, h6, ?_, hacc, hput⟩
              · exact c7.put (cl' := .dK (putD mid k0 pp.1)) (o := .dK (putK vs k0 z5)) (b := 0) hD (KRs.putV d7 hor) trivial
              · rw [← hx, h7, List.append_assoc]
          · cases q4
      · rw [if_neg Bool.false_ne_true]
        exact ⟨μ4, M3, acc, zs, mid, g3, c4, h5, hx, hm1, hm2⟩
end
end Ev
set_option Elab.async false
set_option linter.all false
set_option maxRecDepth 100000
/-! EvH: a compact program against the written one -/
namespace Ev
open PySem PySem.Spec PyProof.Rows L2
variable [XT] [XA] [XE]

structure Nm where
  fn : List Str
  gl : List Str
  gd : List Str
  ex : List Str := []
  rs : List Str := []
  fl : List Str := []
  hot : Bool := false
  hf : List Nat := []
  kt : Bool := false
def hotB : Blt → Bool
  | .len => true | .abs => true | .int => true | .str => true | .tuple => true | .list => true
  | _ => false
def visB (sc : Scope) (x : Str) : Bool := match sc.names.lookup x with
  | some .local => true | some .cell => true | some .free => true
  | _ => false
def glB (sc : Scope) (x : Str) : Bool := match sc.names.lookup x with
  | some .globalImplicit => true
  | _ => false
def locB (sc : Scope) (fnb : Str → Bool) (x : Str) : Bool := match sc.names.lookup x with
  | some .local => true
  | some .cell => fnb x
  | _ => false
def okN (x : Str) : Bool := !(x == ("__debug__" : Str)) && !(x == ("__classdict__" : Str))
def cstB : D → Const → Bool
  | .none, .none => true
  | .bool a, .bool b => a == b
  | .int i, .int j => decide (i = j)
  | .str x, .str y => decide (x = y)
  | _, _ => false
def opB (op : BOp) (o : Operator) : Bool := decide (opO op = o)
def copB (op : COp) (o : CmpOp) : Bool := decide (opC op = o)
def notSet : Expr → Bool
  | .Set .. => false
  | _ => true
def notStar : Expr → Bool
  | .Starred .. => false
  | _ => true
def notSl : Expr → Bool
  | .Slice .. => false
  | _ => true
def notComp : Expr → Bool
  | .ListComp .. => false
  | .SetComp .. => false
  | .DictComp .. => false
  | _ => true
def truB : Expr → Bool
  | .Call .. => true
  | .Name .. => true
  | .Subscript .. => true
  | _ => false
def notSuper : Expr → Bool
  | .Call _ [] [] _ => false
  | _ => true
def blk1 (f : Str → Bool) : Bool := true
def ownOf (N : List Str) (own : List Nat) : List (Str × Nat) := own.map fun i => (N.getD i Str.empty, i)
def mthN : Mth → Str
  | .append => "append" | .pop => "pop" | .pop0 => "pop" | .remove => "remove" | .index => "index" | .count => "count" | .get2 => "get" | .get1 => "get" | .split => "split" | .join => "join" | .replace => "replace" | .tcount => "count" | .lower => "lower" | .find => "find" | .insert => "insert"
def keyB : L2.Key → Const → Bool
  | .inl i, .int j => decide (i = j)
  | .inr x, .str y => decide (x = y)
  | _, _ => false
def keyE (k : L2.Key) (e : Expr) : Bool := match e with
  | .Constant c _ _ => keyB k c
  | _ => false
def cesL : CEs → Nat
  | .nil => 0
  | .cons _ r => cesL r + 1
def lenK (ks : List L2.Key) (es : CEs) : Bool := decide (1 ≤ ks.length ∧ ks.length ≤ 15 ∧ ks.length = cesL es)
def chkK : List L2.Key → List (Option Expr) → Bool
  | [], [] => true
  | k :: ks, some e :: es => keyE k e && chkK ks es
  | _, _ => false
def tyS : Ty → Str
  | .int => "int" | .str => "str" | .bool => "bool" | .tuple => "tuple" | .list => "list"
/-- a def for what is handled -/
def isHot (Z : Nm) (x : Str) : Bool := Z.hf.any fun f => match Z.fn[f]? with
  | some y => y == x
  | none => false
mutual
def chkT (N : List Str) (sc : Scope) (fnb : Str → Bool) : CT → Expr → Bool
  | .name i, e => match e with
    | .Name x _ => decide (N[i]? = some x) && locB sc fnb x
    | _ => false
  | .tup ts, e => match e with
    | .Tuple es _ _ => chkTs N sc fnb ts es
    | _ => false
def chkTs (N : List Str) (sc : Scope) (fnb : Str → Bool) : CTs → List Expr → Bool
  | .nil, [] => true
  | .cons t r, e :: es => chkT N sc fnb t e && chkTs N sc fnb r es
  | _, _ => false
end
mutual
def chkE (Z : Nm) (N : List Str) (sc : Scope) (fnb : Str → Bool) : CE → Expr → Bool
  | .var i, e => match e with
    | .Name x _ => decide (N[i]? = some x) && (visB sc x && okN x)
    | _ => false
  | .cst d, e => match e with
    | .Constant c _ _ => cstB d c
    | _ => false
  | .glob i, e => match e with
    | .Name x _ => decide (Z.gl[i]? = some x) && (glB sc x && okN x)
    | _ => false
  | .bin _ op a b, e => match e with
    | .BinOp x o y _ => opB op o && (chkE Z N sc fnb a x && chkE Z N sc fnb b y)
    | _ => false
  | .neg a, e => match e with
    | .UnaryOp .USub x _ => chkE Z N sc fnb a x
    | _ => false
  | .cmp op a b, e => match e with
    | .Compare x [o] [y] _ => copB op o && (notSet y && (chkE Z N sc fnb a x && chkE Z N sc fnb b y))
    | _ => false
  | .isN a, e => match e with
    | .Compare x [.Is] [.Constant .none _ _] _ => chkE Z N sc fnb a x
    | _ => false
  | .notN a, e => match e with
    | .Compare x [.IsNot] [.Constant .none _ _] _ => chkE Z N sc fnb a x
    | _ => false
  | .chain op op2 a b c, e => match e with
    | .Compare x [o, o2] [y, z] _ => copB op o && (copB op2 o2 && (notSet z && (chkE Z N sc fnb a x && (chkE Z N sc fnb b y && chkE Z N sc fnb c z))))
    | _ => false
  | .andV a b, e => match e with
    | .BoolOp .And (x :: y :: r) pos => chkE Z N sc fnb a x && (match r with
      | [] => chkE Z N sc fnb b y
      | _ => chkE Z N sc fnb b (.BoolOp .And (y :: r) pos))
    | _ => false
  | .orV a b, e => match e with
    | .BoolOp .Or (x :: y :: r) pos => chkE Z N sc fnb a x && (match r with
      | [] => chkE Z N sc fnb b y
      | _ => chkE Z N sc fnb b (.BoolOp .Or (y :: r) pos))
    | _ => false
  | .notV a, e => match e with
    | .UnaryOp .Not x _ => chkE Z N sc fnb a x
    | _ => false
  | .ite c a b, e => match e with
    | .IfExp t x y _ => chkB Z N sc fnb c t && (chkE Z N sc fnb a x && chkE Z N sc fnb b y)
    | _ => false
  | .tup es, e => match e with
    | .Tuple xs _ _ => chkEs Z N sc fnb es xs
    | _ => false
  | .lst _ es, e => match e with
    | .List xs _ => chkEs Z N sc fnb es xs
    | _ => false
  | .sub a i, e => match e with
    | .Subscript x y _ => notSl y && (chkE Z N sc fnb a x && chkE Z N sc fnb i y)
    | _ => false
  | .slc _ a lo hi, e => match e with
    | .Subscript x (.Slice l h none _) _ => chkE Z N sc fnb a x && (chkO Z N sc fnb lo l && chkO Z N sc fnb hi h)
    | _ => false
  | .call f es, e => match e with
    | .Call (.Name x _) xs [] _ => decide (Z.fn[f]? = some x) && (glB sc x && (okN x && (chkEs Z N sc fnb es xs && (bif Z.hot then (Z.hf.contains f && !xs.isEmpty) else !isHot Z x))))
    | _ => false
  | .blt id _ es, e => match e with
    | .Call (.Name x _) xs [] _ => (!Z.hot || hotB id) && (glB sc x && (match id with
      | .len => decide (x = "len") && (!xs.isEmpty && chkEs Z N sc fnb es xs)
      | .abs => decide (x = "abs") && (!xs.isEmpty && chkEs Z N sc fnb es xs)
      | .int => decide (x = "int") && (!xs.isEmpty && chkEs Z N sc fnb es xs)
      | .max2 => decide (x = "max") && (!xs.isEmpty && chkEs Z N sc fnb es xs)
      | .min2 => decide (x = "min") && (!xs.isEmpty && chkEs Z N sc fnb es xs)
      | .list => decide (x = "list") && (!xs.isEmpty && chkEs Z N sc fnb es xs)
      | .tuple => decide (x = "tuple") && (!xs.isEmpty && chkEs Z N sc fnb es xs)
      | .listr => decide (x = "list") && (match xs with
        | [.Call (.Name y _) ys [] _] => decide (y = "range") && (glB sc y && (decide (ys.length = 1) && chkEs Z N sc fnb es ys))
        | _ => false)
      | .tupr => decide (x = "tuple") && (match xs with
        | [.Call (.Name y _) ys [] _] => decide (y = "range") && (glB sc y && (decide (ys.length = 1) && chkEs Z N sc fnb es ys))
        | _ => false)
      | .lset => decide (x = "len") && (match xs with
        | [.Call (.Name y _) ys [] _] => decide (y = "set") && (glB sc y && (decide (ys.length = 1) && chkEs Z N sc fnb es ys))
        | _ => false)
      | .listr2 => decide (x = "list") && (match xs with
        | [.Call (.Name y _) ys [] _] => decide (y = "range") && (glB sc y && (decide (ys.length = 2) && chkEs Z N sc fnb es ys))
        | _ => false)
      | .tupr2 => decide (x = "tuple") && (match xs with
        | [.Call (.Name y _) ys [] _] => decide (y = "range") && (glB sc y && (decide (ys.length = 2) && chkEs Z N sc fnb es ys))
        | _ => false)
      | .str => decide (x = "str") && (!xs.isEmpty && chkEs Z N sc fnb es xs)
      | .sorted => decide (x = "sorted") && (!xs.isEmpty && chkEs Z N sc fnb es xs)
      | .sum => decide (x = "sum") && (!xs.isEmpty && chkEs Z N sc fnb es xs)
      | .all => decide (x = "all") && (!xs.isEmpty && chkEs Z N sc fnb es xs)
      | .any => decide (x = "any") && (!xs.isEmpty && chkEs Z N sc fnb es xs)
      | .max1 => decide (x = "max") && (!xs.isEmpty && chkEs Z N sc fnb es xs)
      | .min1 => decide (x = "min") && (!xs.isEmpty && chkEs Z N sc fnb es xs)
      | .keys => decide (x = "list") && (!xs.isEmpty && chkEs Z N sc fnb es xs)
      | .tupk => decide (x = "tuple") && (!xs.isEmpty && chkEs Z N sc fnb es xs)
      | .dict => decide (x = "dict") && (!xs.isEmpty && chkEs Z N sc fnb es xs)
      | _ => false))
    | _ => false
  | .exIs a c, e => match e with
    | .Call (.Name x _) [y, .Name z _] [] _ => decide (x = "isinstance") && (glB sc x && (decide (z = c) && (glB sc z && (notStar y && (Z.hot && ((decide (c = ("ValueError" : Str)) || Z.ex.contains c) && (okN z && chkE Z N sc fnb a y)))))))
    | _ => false
  | .exFld a f, e => match e with
    | .Attribute x m _ => decide (m = f) && (Z.hot && (Z.fl.contains f && (notSuper x && chkE Z N sc fnb a x)))
    | _ => false
  | .isi a t, e => match e with
    | .Call (.Name x _) [y, .Name z _] [] _ => decide (x = "isinstance") && (glB sc x && (decide (z = tyS t) && (glB sc z && (notStar y && chkE Z N sc fnb a y))))
    | _ => false
  | .mth id o es, e => match e with
    | .Call (.Attribute x m ap) ys [] cp => decide (m = mthN id) && ((ap.endLine == cp.line) && (notSuper x && (decide (ys.length < 20) && (chkE Z N sc fnb o x && (chkEs Z N sc fnb es ys && (match id with
      | .append => !ys.isEmpty
      | .pop => !ys.isEmpty
      | .pop0 => ys.isEmpty
      | .index => !ys.isEmpty
      | .remove => !ys.isEmpty
      | .count => !ys.isEmpty
      | .tcount => !ys.isEmpty && Z.kt
      | .get1 => !ys.isEmpty
      | .get2 => !ys.isEmpty
      | .split => !ys.isEmpty
      | .join => !ys.isEmpty
      | .find => !ys.isEmpty
      | .lower => ys.isEmpty
      | .insert => !ys.isEmpty
      | _ => false))))))
    | _ => false
  | .dnew t, e => match e with
    | .Dict [] [] _ => !(t && Z.kt)
    | _ => false
  | .dcomp own tg it cd k v, e => match e with
    | .DictComp x y [⟨t, i, ifs, as⟩] scope _ => decide (as = 0) && (chkI Z N sc fnb it t i && (blkC N sc scope (ownOf N own) && ((ctS tg).all (fun k => own.contains k) && (chkT N (relS scope sc) (fun x => scope.names.lookup x == some .cell) tg t &&
        (chkC Z N (relS scope sc) (fun x => scope.names.lookup x == some .cell) cd ifs && (chkE Z N (relS scope sc) (fun x => scope.names.lookup x == some .cell) k x && chkE Z N (relS scope sc) (fun x => scope.names.lookup x == some .cell) v y))))))
    | _ => false
  | .comp _ own tg it cd elt, e => match e with
    | .ListComp x [⟨t, i, ifs, as⟩] scope _ => decide (as = 0) && (chkI Z N sc fnb it t i && (blkC N sc scope (ownOf N own) && ((ctS tg).all (fun k => own.contains k) && (chkT N (relS scope sc) (fun x => scope.names.lookup x == some .cell) tg t &&
        (chkC Z N (relS scope sc) (fun x => scope.names.lookup x == some .cell) cd ifs && chkE Z N (relS scope sc) (fun x => scope.names.lookup x == some .cell) elt x)))))
    | _ => false
  | .comp2 _ own own1 tg it cd tg1 it1 cd1 elt, e => match e with
    | .ListComp x [⟨t, i, ifs, as⟩, ⟨t1, i1, ifs1, as1⟩] scope _ => decide (as = 0) && (decide (as1 = 0) && (chkI Z N sc fnb it t i && (blkC N sc scope (ownOf N own) && ((ctS tg).all (fun k => own.contains k) && ((ctS tg1).all (fun k => own1.contains k) && (own1.all (fun k => own.contains k) &&
        (chkT N (relS scope sc) (fun x => scope.names.lookup x == some .cell) tg t && (chkC Z N (relS scope sc) (fun x => scope.names.lookup x == some .cell) cd ifs &&
        (chkI Z N (relS scope sc) (fun x => scope.names.lookup x == some .cell) it1 t1 i1 && (chkT N (relS scope sc) (fun x => scope.names.lookup x == some .cell) tg1 t1 && (chkC Z N (relS scope sc) (fun x => scope.names.lookup x == some .cell) cd1 ifs1 && chkE Z N (relS scope sc) (fun x => scope.names.lookup x == some .cell) elt x)))))))))))
    | _ => false
  | .compN own tg it cd elt, e => match e with
    | .ListComp x [⟨t, i, ifs, as⟩] scope _ => decide (as = 0) && (chkI Z N sc fnb it t i && (blkC N sc scope (ownOf N own) && ((ctS tg).all (fun k => own.contains k) && (chkT N (relS scope sc) (fun x => scope.names.lookup x == some .cell) tg t &&
        (chkC Z N (relS scope sc) (fun x => scope.names.lookup x == some .cell) cd ifs && chkE Z N (relS scope sc) (fun x => scope.names.lookup x == some .cell) elt x)))))
    | _ => false
  | .ddisp _ ks es, e => match e with
    | .Dict keys vals _ => lenK ks es && (chkK ks keys && chkEs Z N sc fnb es vals)
    | _ => false
  | .dsub ks es i, e => match e with
    | .Subscript (.Dict keys vals _) y _ => notSl y && (lenK ks es && (chkK ks keys && (chkEs Z N sc fnb es vals && chkE Z N sc fnb i y)))
    | _ => false
  | .dgetd ks es i d, e => match e with
    | .Call (.Attribute (.Dict keys vals _) m ap) [y, z] [] cp => decide (m = ("get" : Str)) && ((ap.endLine == cp.line) && (notStar y && (notStar z && (lenK ks es && (chkK ks keys && (chkEs Z N sc fnb es vals && (chkE Z N sc fnb i y && chkE Z N sc fnb d z)))))))
    | _ => false
  | .kget i a, e => match e with
    | .Subscript (.Name x _) y _ => decide (Z.gd[i]? = some x) && (glB sc x && (okN x && (notSl y && chkE Z N sc fnb a y)))
    | _ => false
  | .kin neg a i, e => match e with
    | .Compare y [o] [.Name x _] _ => decide (o = if neg = true then .NotIn else .In) && (decide (Z.gd[i]? = some x) && (glB sc x && (okN x && chkE Z N sc fnb a y)))
    | _ => false
  | .fmt a, e => match e with
    | .FormattedValue x c none _ => decide (c = -1) && chkE Z N sc fnb a x
    | _ => false
  | .fstr es, e => match e with
    | .JoinedStr (x :: y :: r) _ => chkEs Z N sc fnb es (x :: y :: r)
    | _ => false
  | .lockE _ x, e => chkE Z N sc fnb x e
def chkO (Z : Nm) (N : List Str) (sc : Scope) (fnb : Str → Bool) : CO → Option Expr → Bool
  | .no, none => true
  | .so a, some e => chkE Z N sc fnb a e
  | _, _ => false
def chkC (Z : Nm) (N : List Str) (sc : Scope) (fnb : Str → Bool) : CC → List Expr → Bool
  | .no, [] => true
  | .so a, [e] => chkB Z N sc fnb a e
  | _, _ => false
def chkEs (Z : Nm) (N : List Str) (sc : Scope) (fnb : Str → Bool) : CEs → List Expr → Bool
  | .nil, [] => true
  | .cons a r, e :: es => notStar e && (chkE Z N sc fnb a e && chkEs Z N sc fnb r es)
  | _, _ => false
def chkB (Z : Nm) (N : List Str) (sc : Scope) (fnb : Str → Bool) : CB → Expr → Bool
  | .and a b, e => match e with
    | .BoolOp .And (x :: y :: r) pos => chkB Z N sc fnb a x && (match r with
      | [] => chkB Z N sc fnb b y
      | _ => chkB Z N sc fnb b (.BoolOp .And (y :: r) pos))
    | _ => false
  | .or a b, e => match e with
    | .BoolOp .Or (x :: y :: r) pos => chkB Z N sc fnb a x && (match r with
      | [] => chkB Z N sc fnb b y
      | _ => chkB Z N sc fnb b (.BoolOp .Or (y :: r) pos))
    | _ => false
  | .not a, e => match e with
    | .UnaryOp .Not x _ => chkB Z N sc fnb a x
    | _ => false
  | .tru a, e => truB e && chkE Z N sc fnb a e
  | .cmp op a b, e => match e with
    | .Compare x [o] [y] _ => copB op o && (notSet y && (chkE Z N sc fnb a x && chkE Z N sc fnb b y))
    | _ => false
  | .isN a, e => match e with
    | .Compare x [.Is] [.Constant .none _ _] _ => chkE Z N sc fnb a x
    | _ => false
  | .notN a, e => match e with
    | .Compare x [.IsNot] [.Constant .none _ _] _ => chkE Z N sc fnb a x
    | _ => false
  | .chain op op2 a b c, e => match e with
    | .Compare x [o, o2] [y, z] _ => copB op o && (copB op2 o2 && (notSet z && (chkE Z N sc fnb a x && (chkE Z N sc fnb b y && chkE Z N sc fnb c z))))
    | _ => false
  | .kin neg a i, e => match e with
    | .Compare y [o] [.Name x _] _ => decide (o = if neg = true then .NotIn else .In) && (decide (Z.gd[i]? = some x) && (glB sc x && (okN x && chkE Z N sc fnb a y)))
    | _ => false
def chkI (Z : Nm) (N : List Str) (sc : Scope) (fnb : Str → Bool) : CI → Expr → Expr → Bool
  | .ex a, _, e => !Z.hot && (notSet e && chkE Z N sc fnb a e)
  | .keys a, _, e => !Z.hot && (notSet e && chkE Z N sc fnb a e)
  | .rng1 a, _, e => match e with
    | .Call (.Name x _) [y] [] _ => !Z.hot && (decide (x = "range") && (glB sc x && (notStar y && chkE Z N sc fnb a y)))
    | _ => false
  | .rng2 a b, _, e => match e with
    | .Call (.Name x _) [y, z] [] _ => !Z.hot && (decide (x = "range") && (glB sc x && (notStar y && (notStar z && (chkE Z N sc fnb a y && chkE Z N sc fnb b z)))))
    | _ => false
  | .enum a, t, e => match t, e with
    | .Tuple _ _ _, .Call (.Name x _) [y] [] _ => !Z.hot && (decide (x = "enumerate") && (glB sc x && (notStar y && (chkE Z N sc fnb a y && !Z.kt))))
    | _, _ => false
  | .enumT a, t, e => match t, e with
    | .Tuple _ _ _, .Call (.Name x _) [y] [] _ => !Z.hot && (decide (x = "enumerate") && (glB sc x && (notStar y && chkE Z N sc fnb a y)))
    | _, _ => false
  | .zip a b, t, e => match t, e with
    | .Tuple _ _ _, .Call (.Name x _) [y, z] [] _ => !Z.hot && (decide (x = "zip") && (glB sc x && (notStar y && (notStar z && (chkE Z N sc fnb a y && (chkE Z N sc fnb b z && !Z.kt))))))
    | _, _ => false
end
theorem chkI_calm {Z : Nm} {N : List Str} {sc : Scope} {fnb : Str → Bool} {it : CI} {t i : Expr} (h : chkI Z N sc fnb it t i = true) : Z.hot = false := by
  cases it <;> unfold chkI at h <;> (try split at h) <;> first
    | (rw [Bool.and_eq_true, Bool.not_eq_true'] at h; exact h.1)
    | cases h
theorem hotF {b c : Bool} (h : (!b || c) = true) (hc : c = false) : b = false := by
  subst hc
  cases b <;> first | rfl | cases h
end Ev
set_option Elab.async false
set_option linter.all false
set_option maxRecDepth 100000
/-! Xa: an own exception whose __init__ calls super's and keeps its arguments: its making -/
namespace Ev
open PySem PySem.Spec PyProof.Rows L2 NdefX

/-- a value that a text shows -/
def XArg (v : V) : Prop := (∃ y : Str, v = .str y ∧ y.length ≤ 100000) ∨ ∃ i : Int, v = .int i ∧ i.natAbs.log2 < 1920

section
variable {X : Cx} {pins : List (Addr × Obj)} {σ : L2.St} {H : Hp} {s : Shared} {a C u : Addr} {E : Value → Shared → Prop} {A : Around}
/-- the bound __init__ called -/
theorem mw_call {rest : List Value} {Q : Value → Shared → Prop} (T : OexC X.K C) (I : L2.Inv X pins σ H s) (e : H a = some (exo a C none)) (hu : s.heap.get? u = some (PySem.W.kxs_mw "ValueError.__init__" a)) (hl : rest.length ≤ sizeLine)
    (h : ∀ s', L2.Inv X pins σ H s' → Q .none s') : wpAny (model X.prog X.w) A (call (.ref u) rest) Q E s := by
  obtain ⟨nm, q, N, bs, bm, sn, sub, ab, col, dd, k0, k1, k2, k3, k5, hC, hbm⟩ := T.cls
  obtain ⟨t1, ho⟩ := exo_at I.hok e
  obtain ⟨hp, g, d, t, os⟩ := s
  have hCC := I.kIn _ _ hC
  have fin : ∀ h' t2, (∀ b o, b ≠ a → hp.get? b = some o → h'.get? b = some o) → h'.get? a = some (PySem.HandSPX.excO C t2) → Q .none ⟨h', g, d, t, os⟩ := fun h' t2 k hx => by
    have J := I.write (t' := t) (x := a) (e := a) (o := exo a C none) (by rw [e]; exact True.intro) (.inl rfl) k ⟨_, hx⟩ (exo_ok hx)
    have eu : upd H a (exo a C none) = H := by
      funext b
      by_cases hb : b = a
      · rw [hb, upd_same, e]
      · rw [upd_ne hb]
    rw [eu] at J
    exact h _ J
  refine wpAny_call (codeAny_of_tree ?_)
  show wpAny _ A.in1 (callAny (.ref u) ⟨rest, []⟩) _ _ _
  simp only [callAny]
  refine wpAny_bind (wpAny_load hu ?_)
  simp only [PySem.W.kxs_mw, show (Value.type "method-wrapper" == Value.type "method" || Value.type "method-wrapper" == Value.type "builtin_function_or_method" || Value.type "method-wrapper" == Value.type "method-wrapper") = true by decide, if_true]
  refine PySem.W.KFB.if_so (by decide) ?_
  refine wpAny_bind (PySem.ESX.check_bound F.excBase_ValueError hCC ho rfl ?_)
  refine wpAny_bind (wpAny_pure (wpAny_pure ?_))
  refine ⟨Code.quiet_builtin _ (by decide +kernel), codeAny_builtin F.excBase_ValueError.initEntry ?_⟩
  rw [Around.under_plainId F.excBase_ValueError.init.plain _]
  wp_walk
  refine fin _ hp.objs.size (fun b o hb hbo => ?_) ?_
  · rw [Heap.get?_update_other _ _ (Ne.symm hb)]
    exact Heap.get?_push_of_some _ hbo
  · rw [Heap.get?_update_self _ (Heap.get?_push_of_some _ ho) rfl]
    rfl
end

/-- what the written part says of an exception class that has such an __init__, function at fI -/
structure SupC (K : PySem.W.Frag) (P : Program) (mg : Str → Option Value) (C fI : Addr) (F : NF) (fd : FuncData) (ps : List Str) : Prop where
  oex : OexC K C
  ini : PySem.W.findIn K (.ref C) "__init__" = some (some (.ref fI))
  typ : PySem.W.typeIn K (.ref fI) = some (.type "function")
  fn : ∃ oc od dV kV doc pm an ct osl, fd = PySem.W.fnX F.name F.qual F.params F.body F.scope F.cl dV kV doc pm an (.ref F.c) ct ∧ K.lookup fI = some ⟨oc, od, .func fd, osl⟩
  code : PySem.W.codeIn K (.ref F.c) F.qual = true
  file : ∃ ccl cdd vs ccs f tf, K.lookup F.c = some ⟨ccl, cdd, .fields vs, ccs⟩ ∧ vs[2]? = some (.str f tf) ∧ ((P.main.file : Str) == f) = true
  cell : ∃ cc cl cld csl, F.cl = [(("__class__" : Str), cc)] ∧ K.lookup cc = some ⟨cl, cld, .cell (some (.ref C)), csl⟩
  mro : PySem.W.mroIn K C (.ref C) = some true
  sup : PySem.W.ks_superIn K C C "__init__" = some (some (.builtin "ValueError.__init__"))
  sub : PySem.W.subIn K (.ref C) (.type "ValueError") = some true
  opq : PySem.W.nsIn K PySem.cStatics "thirdparty.any" = some none
  top : (P.main.scope.names.lookup ("super" : Str)).isSome = false
  mgS : mg "super" = none
  fld : ∀ f ∈ ps, PySem.W.findIn K (.ref C) f = some none
  scp : NScope (("self" : Str) :: (ps ++ [("__class__" : Str)])) (("self" : Str) :: ps) [("__class__" : Str)] F.scope
  nmS : F.scope.names.lookup ("super" : Str) = some .globalImplicit
  par : (F.params.posonlyargs ++ F.params.args).head?.map (·.arg) = some "self"

section
variable {CX : CXT} {P : Program} {w : World} {K : PySem.W.Frag} {mg : Str → Option Value} {base : Heap} {N : List Str} {F : NF} {f : Addr} {A : Around} {outer : List PySem.Env} {s0 : Shared} {H0 : Hp} {E0 : XK} {fd : FuncData} {ps : List Str}
variable {pins : List (Addr × Obj)} {σ : L2.St} {H : Hp} {s : Shared} {C a : Addr}
/-- super().__init__(e), as a statement -/
theorem sup_stmt {arg : Expr} {te : TE} {p0 p1 p2 pos pos' : Pos} {Q : Flow → Shared → Prop} {pl : Sem Bool} (T : SupC K P mg C f F fd ps) (I : L2.Inv (ncx CX P w K mg base N F f A outer s0 H0 E0) pins σ H s) (hN : N[0]? = some ("self" : Str)) (hσ : σ[0]? = some (some (.ref a)))
    (e : H a = some (exo a C none)) (ha : PE (ncx CX P w K mg base N F f A outer s0 H0 E0) arg te) (te1 : te σ H fun x H1 => H1 = H ∧ [x].length = 1) (hq : ∀ s', L2.Inv (ncx CX P w K mg base N F f A outer s0 H0 E0) pins σ H s' → Q .next s')
    (hi : interactive (envF F f s0.heap.objs.size) = false := by rfl) (hst : starEach [arg] (envF F f s0.heap.objs.size) = [(false, eval arg (envF F f s0.heap.objs.size))] := by rfl)
    (hsw : swapsWith (.Call (.Attribute (.Call (.Name "super" p0) [] [] p1) "__init__" p2) [arg] [] pos) none pos'.line (envF F f s0.heap.objs.size) = pure false := by rfl)
    (hev : eval (.Call (.Attribute (.Call (.Name "super" p0) [] [] p1) "__init__" p2) [arg] [] pos) (envF F f s0.heap.objs.size) = (do
      let ov ← attributeBase (.Call (.Name "super" p0) [] [] p1) "__init__" (envF F f s0.heap.objs.size) (eval (.Call (.Name "super" p0) [] [] p1) (envF F f s0.heap.objs.size))
      standAt p2.atName
      let (fv, first) ← holding [ov] (getMethod ov "__init__" pl)
      callWith pos fv first (backTo pos (starEach [arg] (envF F f s0.heap.objs.size))) []) := by rfl) :
    _root_.PySem.wpAt (model P w) (A.deeper (envF F f s0.heap.objs.size)) (.func F.body (envF F f s0.heap.objs.size)) (exec (.Expr (.Call (.Attribute (.Call (.Name "super" p0) [] [] p1) "__init__" p2) [arg] [] pos) pos') (envF F f s0.heap.objs.size)) Q
      (ncx CX P w K mg base N F f A outer s0 H0 E0).xe s := by
  obtain ⟨oc, od, dV, kV, doc, pm, an, ct, osl, rfl, hlk⟩ := T.fn
  obtain ⟨ccl, cdd, vs, ccs, fl, tf, hcode, hvs, hfile⟩ := T.file
  obtain ⟨cc, cl, cld, csl, hcl, hcell⟩ := T.cell
  obtain ⟨nm, q, Nn, bs, bm, sn, sub, ab, col, dd, k0, k1, k2, k3, k5, hC, hbm⟩ := T.oex.cls
  have X : K.In s.heap := I.kIn
  obtain ⟨ar, har, hself⟩ : ∃ ar, (F.params.posonlyargs ++ F.params.args).head? = some ar ∧ ar.arg = "self" := by
    have := T.par
    cases q : (F.params.posonlyargs ++ F.params.args).head? with
    | none => rw [q] at this; cases this
    | some ar => rw [q] at this; exact ⟨ar, rfl, Option.some.inj this⟩
  have hlcl : F.scope.names.lookup ("self" : Str) = some .local := T.scp.par _ List.mem_cons_self
  have hfre : F.scope.names.lookup ("__class__" : Str) = some .free := T.scp.frk _ List.mem_cons_self
  refine PySem.ks_wpAt_Expr_any (PySem.ks_wpAt_MethodCall (pl := pl) ?_ hev) hi hsw
  refine PySem.ks_wpAt_super_base (env := envF F f s0.heap.objs.size) T.nmS hfre (by decide) rfl (X _ _ hlk) rfl har rfl (X _ _ hcode) rfl hvs hfile T.top ?_
  obtain ⟨mb, hb1, hb2⟩ := I.mod.blt
  refine PySem.W.ks_loadName_global (env := envF F f s0.heap.objs.size) T.scp.kind T.nmS (Calls.loadGlobal_builtin (env := envF F f s0.heap.objs.size) (I.mod.glob.keeps I.bk) T.mgS (hb1.keeps I.bk) ((hb2 "super" (by decide)).trans (by decide +kernel)) ⟨rfl, ?_⟩)
  refine wpAny_loadName_free (env := envF F f s0.heap.objs.size) T.scp.kind hfre (show F.cl.lookup ("__class__" : Str) = some cc by rw [hcl]; rfl) ⟨_, X _ _ hcell, rfl⟩ ?_
  obtain ⟨m, hns, hlook⟩ := I.loc
  obtain ⟨us, rus, hus⟩ := hlook 0 "self" (.ref a) hN hσ (.inl hlcl)
  have hus : m "self" = some us := by
    rcases hus with ⟨_, h⟩ | ⟨h | h, _⟩
    · exact h
    · exact absurd (hlcl.symm.trans h) (by simp)
    · exact absurd (hlcl.symm.trans h) (by simp)
  obtain rfl : us = Value.ref a := rus
  rw [hself]
  refine wpAny_loadName_local (env := envF F f s0.heap.objs.size) T.scp.kind hlcl hns hus ?_
  obtain ⟨t1, ho⟩ := exo_at I.hok e
  have hCC := X _ _ hC
  refine PySem.ks_wpAny_isType_cls hCC rfl ⟨rfl, ?_⟩
  obtain ⟨hp, g, d, t, os⟩ := s
  have aC : a ≠ C := fun z => by
    subst z
    have z := ho.symm.trans hCC
    cases z
  refine PySem.ks_wpAny_call_super hCC rfl ho rfl (fun c z => by cases z) (PySem.W.looks_mroIn X T.mro) (fun h1 hso k1 => ?_)
  have I1 : L2.Inv (ncx CX P w K mg base N F f A outer s0 H0 E0) pins σ H ⟨h1, g, d, t, os⟩ := I.kept (t' := t) fun b o e => k1 b o e
  have hCl : PySem.W.clsIn K C = some { name := nm, bases := bs, mro := .ref C :: bm, ns := Nn, qualname := q, hasDict := true, slotNames := sn, subclasses := sub, abstract := ab, collection := col, hasDel := false } := by unfold PySem.W.clsIn; rw [hC] <;> rfl
  have hsup := T.sup
  unfold PySem.W.ks_superIn at hsup
  rw [hCl] at hsup
  have L0 : PySem.W.Looks (model P w) h1 (typeOf (.ref a)) (.ref C) := fun A Q E s k q => wpAny_typeOf_ref (k _ _ (k1 _ _ ho)) q
  refine PySem.W.kxs_getMethod PySem.W.kxs_ValueError hso (PySem.W.looks_opaque I1.kIn T.opq) (l₀ := .ref C :: bm) (fun A Q E s k q => wpAny_bind ((PySem.W.looks_clsIn I1.kIn hCl) A _ E s k (wpAny_pure q))) rfl I1.kIn hsup (L0.andThen (PySem.W.looks_subIn I1.kIn T.sub)) aC (by decide) ?_
  have hpu : ∀ b o, h1.get? b = some o → (h1.push (PySem.W.kxs_mw "ValueError.__init__" a)).get? b = some o := fun b o e => Heap.get?_push_of_some _ e
  have hu : (h1.push (PySem.W.kxs_mw "ValueError.__init__" a)).get? h1.objs.size = some (PySem.W.kxs_mw "ValueError.__init__" a) := Heap.get?_push_size _ rfl
  have I2 : L2.Inv (ncx CX P w K mg base N F f A outer s0 H0 E0) pins σ H ⟨h1.push (PySem.W.kxs_mw "ValueError.__init__" a), g, d, t + 1, os⟩ := I1.kept (t' := t + 1) hpu
  have hfr : ∀ {b : Addr} {o : Obj}, h1.get? b = some o → h1.objs.size ≠ b := fun e z => absurd (Heap.lt_size e) (by rw [← z]; exact Nat.lt_irrefl _)
  have I3 : L2.Inv (ncx CX P w K mg base N F f A outer s0 H0 E0) ((h1.objs.size, PySem.W.kxs_mw "ValueError.__init__" a) :: pins) σ H ⟨h1.push (PySem.W.kxs_mw "ValueError.__init__" a), g, d, t + 1, os⟩ := I2.pins_of fun p hp => by
    rcases List.mem_cons.mp hp with rfl | hp
    · exact ⟨hu, I1.hok.fresh (Nat.le_refl _), Nat.ne_of_gt I1.lt, I1.nofs (Nat.le_refl _), fun v z => by cases z⟩
    · exact I2.pin p (List.mem_append_right _ hp)
  refine PySem.W.kxs_callWith (i := "ValueError.__init__") (x := a) (by rw [hst]; rfl) ?_
  rw [hst]
  refine Calls.evalArgs_plain ?_
  have r := (pa_cons (X := ncx CX P w K mg base N F f A outer s0 H0 E0) ha pa_nil hst).run pos _ _ σ H (fun xs H1 => H1 = H ∧ xs.length = 1) I3 (show te σ H fun x H1 => H1 = H ∧ [x].length = 1 from te1)
  rw [show starEach [arg] (ncx CX P w K mg base N F f A outer s0 H0 E0).env = [(false, eval arg (envF F f s0.heap.objs.size))] from hst] at r
  refine wpAny_mono r (fun vs s1 hv => ?_) fun _ _ z => z
  obtain ⟨xs, H1, J, rv, rfl, hl⟩ := hv
  have hu1 := (J.pin (h1.objs.size, PySem.W.kxs_mw "ValueError.__init__" a) (List.mem_append_right _ List.mem_cons_self)).1
  have J1 : L2.Inv (ncx CX P w K mg base N F f A outer s0 H0 E0) pins σ H1 s1 := J.pins_of fun p hp => J.pin p (List.mem_append_right _ (List.mem_cons_of_mem _ hp))
  refine ⟨hu1, mw_call T.oex J1 e hu1 (by show vs.length ≤ sizeLine; rw [← rv.length, hl, sizeLine_eq]; decide) fun s' I' => hq s' I'⟩
end
theorem hev_ok (env : PySem.Env) (p2 p4 : Pos) (e : Expr) (arg : Expr) (hl : (p2.endLine == p4.line) = true) (hst : starEach [arg] env = [(false, eval arg env)]) : eval (.Call (.Attribute e "__init__" p2) [arg] [] p4) env = (do
      let ov ← attributeBase e "__init__" env (eval e env)
      standAt p2.atName
      let (fv, first) ← holding [ov] (getMethod ov "__init__" (do return (← importBound e env).getD true))
      callWith p4 fv first (backTo p4 (starEach [arg] env)) []) := by
  show (do
    let ov ← attributeBase e "__init__" env (eval e env)
    standAt p2.atName
    methodCall e "__init__" p2 p4 env ov ([arg].length + ([] : List Keyword).length) (backTo p4 (starEach [arg] env)) (backToKw p4 (keywordEach [] env))) = _
  have hf : methodCallForm ([arg].length + ([] : List Keyword).length) (backTo p4 (starEach [arg] env)) (backToKw p4 (keywordEach [] env)) = true := by rw [hst]; rfl
  unfold methodCall methodCallPos
  rw [hf, hl]
  rfl
/-! ### the text that __init__ hands up -/
def chkPart (ps : List Str) : Expr → Bool
  | .Constant (.str _) _ _ => true
  | .FormattedValue (.Name x _) c none _ => decide (x ∈ ps) && decide (c = -1)
  | _ => false
def chkStore (p : Str) : Stmt → Bool
  | .Assign [.Attribute (.Name o _) f _] (.Name v _) _ => decide (o = ("self" : Str)) && (decide (f = p) && decide (v = p))
  | _ => false
def chkStores : List Str → List Stmt → Bool
  | [], [] => true
  | p :: ps, s :: ss => chkStore p s && chkStores ps ss
  | _, _ => false
def chkInit (ps : List Str) : List Stmt → Bool
  | .Expr (.Call (.Attribute (.Call (.Name u _) [] [] _) m p2) [.JoinedStr (e1 :: e2 :: es) _] [] p4) _ :: ss => (p2.endLine == p4.line) && (decide (u = ("super" : Str)) && (decide (m = ("__init__" : Str)) && ((e1 :: e2 :: es).all (chkPart ps) && (decide ((e1 :: e2 :: es).length ≤ 20) && chkStores ps ss))))
  | _ => false
def partOk (e : Expr) : Bool := match e with
  | .Constant (.str z) _ _ => decide (z.length ≤ 1000)
  | _ => true
section
variable {X : Cx} {σ : L2.St} {H : Hp}
theorem loc_pe {i : Nat} {x : Str} {pos : Pos} (hN : X.N[i]? = some x) (hv : X.env.scope.names.lookup x = some .local) (h1 : (x == ("__debug__" : Str)) = false) (h2 : (x == ("__classdict__" : Str)) = false) : PE X (.Name x pos) (tVar i) := pe_var hN (.inl hv) h1 h2
/-- the parts of the text -/
theorem parts_ok {ps : List Str} (hN : ∀ x ∈ ps, ∃ (i : Nat) (v : V), X.N[i]? = some x ∧ σ[i]? = some (some v) ∧ XArg v) (hv : ∀ x ∈ ps, X.env.scope.names.lookup x = some .local) (hd : ∀ x ∈ ps, (x == ("__debug__" : Str)) = false ∧ (x == ("__classdict__" : Str)) = false) :
    ∀ {es : List Expr}, es.all (chkPart ps) = true → es.all partOk = true → ∃ ts, PJ X es ts ∧ ∀ (Q : Str → Hp → Prop), (∀ out, Q out H) → ∀ (n : Nat) (acc : Str), n + es.length ≤ 20 → acc.length ≤ n * 100000 → tJs ts acc σ H Q
  | [], _, _ => ⟨[], .nil, fun Q k _ acc _ _ => k acc⟩
  | e :: es, h, h2 => by
    rw [List.all_cons, Bool.and_eq_true] at h h2
    obtain ⟨ts, J, k⟩ := parts_ok hN hv hd h.2 h2.2
    have go : ∀ (Q : Str → Hp → Prop), (∀ out, Q out H) → ∀ (n : Nat) (acc y : Str), n + (e :: es).length ≤ 20 → acc.length ≤ n * 100000 → y.length ≤ 100000 → (acc ++ y).length ≤ sizeLine ∧ tJs ts (acc ++ y) σ H Q := fun Q kq n acc y h1 h2 h3 => by
      have e0 : (acc ++ y).length = acc.length + y.length := Str.length_append ..
      rw [List.length_cons] at h1
      refine ⟨by rw [sizeLine_eq]; omega, k Q kq (n + 1) _ (by omega) (by rw [e0]; omega)⟩
    have h1 := h.1
    unfold chkPart at h1
    split at h1
    · rename_i z j p
      have hz : z.length ≤ 1000 := of_decide_eq_true h2.1
      exact ⟨_, .cons pe_str J, fun Q kq n acc q1 q2 => ⟨z, rfl, go Q kq n acc z q1 q2 (by omega)⟩⟩
    · rename_i x p c p2
      rw [Bool.and_eq_true, decide_eq_true_eq, decide_eq_true_eq] at h1
      obtain ⟨hx, rfl⟩ := h1
      obtain ⟨i, v, n1, n2, n3⟩ := hN x hx
      refine ⟨_, .cons (pe_fmt (loc_pe n1 (hv x hx) (hd x hx).1 (hd x hx).2)) J, fun Q kq n acc q1 q2 => ⟨v, n2, ?_⟩⟩
      rcases n3 with ⟨y, rfl, hy⟩ | ⟨i, rfl, hi⟩
      · exact .inl ⟨y, rfl, by rw [sizeLine_eq]; omega, y, rfl, go Q kq n acc y q1 q2 hy⟩
      · exact .inr ⟨i, rfl, hi, _, rfl, go Q kq n acc _ q1 q2 (Nat.le_trans (int_text_len_1921 hi) (by decide))⟩
    · cases h1
/-- self.f = f, one after another, behind the first -/
theorem stores_ok {a C : Addr} (T : OexC X.K C) (hN0 : X.N[0]? = some ("self" : Str)) (hl0 : X.env.scope.names.lookup ("self" : Str) = some .local) (hσ0 : σ[0]? = some (some (.ref a))) :
    ∀ {ps : List Str} {ss : List Stmt} {ys : List V}, chkStores ps ss = true → ys.length = ps.length → (∀ (i : Nat) (x : Str), ps[i]? = some x → ∃ j : Nat, X.N[j]? = some x ∧ σ[j]? = some ys[i]?) → (∀ x ∈ ps, X.env.scope.names.lookup x = some .local) → (∀ x ∈ ps, (x == ("__debug__" : Str)) = false ∧ (x == ("__classdict__" : Str)) = false) → (∀ f ∈ ps, PySem.W.findIn X.K (.ref C) f = some none) → ps.Nodup → ps.length ≤ 20 →
      ∃ t, PSs X ss t ∧ ∀ (D : Ends) (H : Hp) (dx : Addr) (kv : List (Str × V)), a ≠ dx → H a = some (exo a C (some dx)) → H dx = some (exd dx kv) → kv.length + ps.length ≤ 800 →
        (∀ H2 kv2, H2 a = some (exo a C (some dx)) → H2 dx = some (exd dx kv2) → (∀ b, b ≠ dx → H2 b = H b) → (∀ f, kv2.lookup f = if f ∈ ps then (ys[ps.idxOf f]?) else kv.lookup f) → D.nx σ H2) → t D σ H
  | [], [], ys, _, _, _, _, _, _, _, _ => ⟨_, pss_nil, fun D H dx kv _ h1 h2 _ k => k H kv h1 h2 (fun _ _ => rfl) fun f => by simp⟩
  | [], _ :: _, _, h, _, _, _, _, _, _, _ => by cases h
  | _ :: _, [], _, h, _, _, _, _, _, _, _ => by cases h
  | p :: ps, s :: ss, [], _, hl, _, _, _, _, _, _ => by cases hl
  | p :: ps, s :: ss, y :: ys, h, hl, hN, hv, hd, hf, nd, h20 => by
    rw [show chkStores (p :: ps) (s :: ss) = (chkStore p s && chkStores ps ss) from rfl, Bool.and_eq_true] at h
    obtain ⟨ndp, nd'⟩ := List.nodup_cons.mp nd
    obtain ⟨t, ht, k⟩ := stores_ok T hN0 hl0 hσ0 (ps := ps) (ss := ss) (ys := ys) h.2 (by simpa using hl) (fun i x hx => hN (i + 1) x hx) (fun x hx => hv x (List.mem_cons_of_mem _ hx)) (fun x hx => hd x (List.mem_cons_of_mem _ hx)) (fun x hx => hf x (List.mem_cons_of_mem _ hx)) nd' (by rw [List.length_cons] at h20; omega)
    have h1 := h.1
    unfold chkStore at h1
    split at h1
    · rename_i o p1 f p2 v p3 p4
      rw [Bool.and_eq_true, Bool.and_eq_true, decide_eq_true_eq, decide_eq_true_eq, decide_eq_true_eq] at h1
      obtain ⟨rfl, h1, rfl⟩ := h1
      subst h1
      obtain ⟨j, j1, j2⟩ := hN 0 _ rfl
      have pd := hd f List.mem_cons_self
      refine ⟨_, pss_cons (ps_ost (loc_pe hN0 hl0 (by decide) (by decide)) (loc_pe j1 (hv _ List.mem_cons_self) pd.1 pd.2)) ht, fun D H dx kv na e1 e2 hlen fin => ?_⟩
      rw [List.length_cons] at hlen
      refine ⟨y, j2, .ref a, hσ0, a, C, rfl, T, hf f List.mem_cons_self, .inr ⟨dx, kv, e1, e2, by omega, ?_⟩⟩
      refine k D _ dx ((f, y) :: kv) na (by rw [upd_ne na]; exact e1) upd_same (by rw [List.length_cons]; omega) fun H2 kv2 q1 q2 q3 q4 => fin H2 kv2 q1 q2 (fun b hb => by rw [q3 b hb, upd_ne hb]) fun g => ?_
      rw [q4 g, lookup_put]
      by_cases hg : g = f
      · subst hg
        simp [ndp]
      · have hfg : ¬ f = g := fun z => hg z.symm
        by_cases hm : g ∈ ps
        · rw [if_pos hm, if_pos (List.mem_cons_of_mem _ hm), List.idxOf_cons]
          have : (f == g) = false := by simpa using hfg
          rw [this]
          rfl
        · rw [if_neg hm, if_neg hg, if_neg (by simp [hg, hm])]
    · cases h1
end
/-- the promise of such an __init__ -/
def spI (K : PySem.W.Frag) (C : Addr) (ps : List Str) : Sp := fun vs H Q _ => ∃ (a : Addr) (ys : List V), vs = .ref a :: ys ∧ ys.length = ps.length ∧ (∀ y ∈ ys, XArg y) ∧ H a = some (exo a C none) ∧
  ∀ (dx : Addr) (H2 : Hp) (kv : List (Str × V)), H dx = none → a ≠ dx → H2 a = some (exo a C (some dx)) → H2 dx = some (exd dx kv) → (∀ b, b ≠ a → b ≠ dx → H2 b = H b) → (∀ (i : Nat) (f : Str), ps[i]? = some f → kv.lookup f = ys[i]?) → Q .non H2
theorem init_fn {CX : CXT} {P : Program} {w : World} {K : PySem.W.Frag} {mg : Str → Option Value} {base : Heap} {F : NF} {fI C : Addr} {fd : FuncData} {ps : List Str} {k : Nat} (T : SupC K P mg C fI F fd ps) (hb : chkInit ps F.body = true) (hp : (match F.body with
    | .Expr (.Call _ [.JoinedStr es _] _ _) _ :: _ => es.all partOk
    | _ => false) = true) (h20 : ps.length ≤ 20) (h1 : ps ≠ []) (hd : ∀ x ∈ ps, (x == ("__debug__" : Str)) = false ∧ (x == ("__classdict__" : Str)) = false) :
    FnOk P w K mg base CX (k + 1) fI fd (("self" : Str) :: ps) (spI K C ps) := by
  refine ⟨fun vs H Q E h => by
    obtain ⟨a, ys, rfl, h, _⟩ := h
    simp [h], fun A outer s H args us vs Q E hr e0 hbind r hsp => ?_⟩
  obtain ⟨a, ys, rfl, hl, hxA, ha, hq⟩ := hsp
  obtain ⟨oc, od, dV, kV, doc, pm, an, ct, osl, rfl, hlk⟩ := T.fn
  obtain ⟨cc, cl, cld, csl, hcl, hcell⟩ := T.cell
  have hbs := fun b o e => (e0.bs b o e).1
  have X : K.In s.heap := e0.mod.kin.keeps hbs
  have lim : s.heap.NoLimit := e0.mod.nolimit.keeps hbs
  have hus : us.length = (("self" : Str) :: ps).length := by rw [← r.length]; simp [hl]
  refine PySem.ks_codeAny_call_defAt (fd := PySem.W.fnX F.name F.qual F.params F.body F.scope F.cl dV kV doc pm an (.ref F.c) ct) (body := F.body) (binds := (("self" : Str) :: ps).zip us) hr.depth (X _ _ hlk) rfl lim (PySem.W.codeRec_of X T.code) rfl hbind T.scp.nocell
    (fun ⟨n, _⟩ hy => T.scp.par n (List.of_mem_zip hy).1) (fun h₁ hns kp => ?_) T.scp.co T.scp.gen T.scp.kind
  obtain ⟨u, m, e1, e2, es, p0, p1, p2, p3, p4, p5, ss, hbody, hb1, hb2, hb3, hb4, hb5, hb6, hb7⟩ : ∃ (u m : Str) (e1 e2 : Expr) (es : List Expr) (p0 p1 p2 p3 p4 p5 : Pos) (ss : List Stmt), F.body = .Expr (.Call (.Attribute (.Call (.Name u p0) [] [] p1) m p2) [.JoinedStr (e1 :: e2 :: es) p3] [] p4) p5 :: ss ∧
      u = ("super" : Str) ∧ m = ("__init__" : Str) ∧ (e1 :: e2 :: es).all (chkPart ps) = true ∧ (e1 :: e2 :: es).length ≤ 20 ∧ chkStores ps ss = true ∧ (e1 :: e2 :: es).all partOk = true ∧ (p2.endLine == p4.line) = true := by
    unfold chkInit at hb
    split at hb
    · rename_i heq
      rw [heq] at hp
      simp only [Bool.and_eq_true, decide_eq_true_eq] at hb
      exact ⟨_, _, _, _, _, _, _, _, _, _, _, _, heq, hb.2.1, hb.2.2.1, hb.2.2.2.1, hb.2.2.2.2.1, hb.2.2.2.2.2, hp, hb.1⟩
    · cases hb
  subst hb1 hb2
  obtain ⟨N, hN⟩ : ∃ N, N = (("self" : Str) :: (ps ++ [("__class__" : Str)])) := ⟨_, rfl⟩
  have hcc := e0.mod.kin _ _ hcell
  have CA : CellsAt F.cl [("__class__" : Str)] [none] s.heap H := by
    refine ⟨rfl, fun y c h => ?_, fun x y c h1 h2 => ?_, fun i y h => ?_⟩
    · rw [hcl] at h
      have hy : c = cc := by
        by_cases hy : y = "__class__"
        · subst hy; simpa [List.lookup] using h.symm
        · have : (y == ("__class__" : Str)) = false := by simpa using hy
          simp [List.lookup, this] at h
      subst hy
      exact ⟨(e0.bs _ _ hcc).2, _, ⟨_, X _ _ hcell, rfl⟩⟩
    · rw [hcl] at h1 h2
      have key : ∀ {z : Str}, [(("__class__" : Str), cc)].lookup z = some c → z = "__class__" := fun {z} h => by
        by_cases hy : z = "__class__"
        · exact hy
        · have : (z == ("__class__" : Str)) = false := by simpa using hy
          simp [List.lookup, this] at h
      rw [key h1, key h2]
    · cases i with
      | zero =>
        cases h
        exact ⟨cc, by rw [hcl]; simp [List.lookup], fun v z => by cases z⟩
      | succ i => simp at h
  have I : L2.Inv (ncx CX P w K mg base N F fI A outer s H E) [] (startF N (.ref a :: ys) [none]) H { s with heap := h₁, toks := s.toks + ((("self" : Str) :: ps).zip us).length } := by
    subst hN
    exact inv_startN T.scp hr.hd e0 (by simp [hl]) r CA hns kp
  have hN0 : N[0]? = some ("self" : Str) := by rw [hN]; rfl
  have hNi : ∀ (i : Nat) (x : Str), ps[i]? = some x → N[i + 1]? = some x ∧ (startF N (.ref a :: ys) [none])[i + 1]? = some ys[i]? := fun i x hx => by
    have hi := (List.getElem?_eq_some_iff.mp hx).1
    refine ⟨by rw [hN, List.getElem?_cons_succ, List.getElem?_append_left hi]; exact hx, ?_⟩
    unfold startF
    rw [List.map_cons, List.cons_append, List.getElem?_cons_succ, List.getElem?_append_left (by rw [List.length_map]; omega), List.getElem?_map, List.getElem?_eq_getElem (by omega)]
    rfl
  have hloc : ∀ x ∈ ps, F.scope.names.lookup x = some .local := fun x hx => T.scp.par x (List.mem_cons_of_mem _ hx)
  have hlcl : F.scope.names.lookup ("self" : Str) = some .local := T.scp.par _ List.mem_cons_self
  have nd : ps.Nodup := by
    have := T.scp.nd
    exact ((List.nodup_cons.mp this).2.sublist (List.sublist_append_left _ _))
  obtain ⟨ts, hJ, hts⟩ := parts_ok (X := ncx CX P w K mg base N F fI A outer s H E) (σ := startF N (.ref a :: ys) [none]) (H := H) (ps := ps) (fun x hx => by
    obtain ⟨i, hi⟩ := List.mem_iff_getElem?.mp hx
    obtain ⟨q1, q2⟩ := hNi i x hi
    have hlt := (List.getElem?_eq_some_iff.mp hi).1
    have hy : ys[i]? = some (ys[i]'(by omega)) := List.getElem?_eq_getElem (by omega)
    rw [hy] at q2
    exact ⟨i + 1, _, q1, q2, hxA _ (List.getElem_mem _)⟩) hloc hd hb3 hb6
  obtain ⟨t, hPS, hst⟩ : ∃ t, PSs (ncx CX P w K mg base N F fI A outer s H E) ss t ∧ ∀ s', L2.Inv (ncx CX P w K mg base N F fI A outer s H E) [] (startF N (.ref a :: ys) [none]) H s' → t { nx := fun _ H' => Q .non H', rt := Q } (startF N (.ref a :: ys) [none]) H := by
    cases ps with
    | nil => exact absurd rfl h1
    | cons p ps =>
    cases ss with
    | nil => cases hb5
    | cons st ss =>
    cases ys with
    | nil => cases hl
    | cons y ys =>
    rw [show chkStores (p :: ps) (st :: ss) = (chkStore p st && chkStores ps ss) from rfl, Bool.and_eq_true] at hb5
    obtain ⟨ndp, nd'⟩ := List.nodup_cons.mp nd
    obtain ⟨t, ht, kk⟩ := stores_ok (X := ncx CX P w K mg base N F fI A outer s H E) (σ := startF N (.ref a :: y :: ys) [none]) T.oex hN0 hlcl rfl (ps := ps) (ss := ss) (ys := ys) hb5.2 (by simpa using hl) (fun i x hx => ⟨i + 2, hNi (i + 1) x hx⟩) (fun x hx => hloc x (List.mem_cons_of_mem _ hx)) (fun x hx => hd x (List.mem_cons_of_mem _ hx)) (fun x hx => T.fld x (List.mem_cons_of_mem _ hx)) nd' (by rw [List.length_cons] at h20; omega)
    have q1 := hb5.1
    unfold chkStore at q1
    split at q1
    · rename_i o pp1 ff pp2 v pp3 pp4
      rw [Bool.and_eq_true, Bool.and_eq_true, decide_eq_true_eq, decide_eq_true_eq, decide_eq_true_eq] at q1
      obtain ⟨rfl, q1, rfl⟩ := q1
      subst q1
      obtain ⟨j1, j2⟩ := hNi 0 _ rfl
      have pd := hd _ List.mem_cons_self
      refine ⟨_, pss_cons (ps_ost (loc_pe hN0 hlcl (by decide) (by decide)) (loc_pe j1 (hloc _ List.mem_cons_self) pd.1 pd.2)) ht, fun s' I' => ?_⟩
      refine ⟨y, j2, .ref a, rfl, a, C, rfl, T.oex, T.fld _ List.mem_cons_self, .inl ⟨ha, fun dx hdx hda => ?_⟩⟩
      have na : a ≠ dx := fun z => hda z.symm
      refine kk _ _ dx [(_, y)] na upd_same (by rw [upd_ne hda, upd_same]) (by rw [List.length_cons] at h20; simp; omega) fun H2 kv2 r1 r2 r3 r4 => hq dx H2 kv2 hdx na r1 r2 (fun b b1 b2 => by rw [r3 b b2, upd_ne b1, upd_ne b2]) fun i f hi => ?_
      rw [r4 f]
      cases i with
      | zero =>
        cases hi
        rw [if_neg ndp]
        simp [List.lookup]
      | succ i =>
        rw [List.getElem?_cons_succ] at hi
        have hm := List.mem_of_getElem? hi
        have hlt := (List.getElem?_eq_some_iff.mp hi).1
        have hix : ps.idxOf f = i := by
          have e1 := (List.getElem?_eq_some_iff.mp hi).2
          rw [← e1]
          exact nd'.idxOf_getElem i hlt
        rw [if_pos hm, hix, List.getElem?_cons_succ]
    · cases q1
  show _root_.PySem.wpAt (model P w) (A.deeper (envF F fI s.heap.objs.size)) (.func F.body (envF F fI s.heap.objs.size)) (execs F.body (envF F fI s.heap.objs.size)) _ _ _
  rw [show execs F.body (envF F fI s.heap.objs.size) = execs (.Expr (.Call (.Attribute (.Call (.Name "super" p0) [] [] p1) "__init__" p2) [.JoinedStr (e1 :: e2 :: es) p3] [] p4) p5 :: ss) (envF F fI s.heap.objs.size) by rw [hbody]]
  have hte : tJs ts Str.empty (startF N (.ref a :: ys) [none]) H fun out H1 => H1 = H ∧ [V.str out].length = 1 := by
    exact hts _ (fun out => ⟨rfl, rfl⟩) 0 Str.empty (by omega) (Nat.zero_le _)
  have qs : interactive (envF F fI s.heap.objs.size) = false := by
    unfold interactive
    rw [show (envF F fI s.heap.objs.size).scope.kind = .function from T.scp.kind]
    rfl
  refine PySem.ks_wpAt_execs_cons (sup_stmt T I hN0 rfl ha (pe_joined hJ) hte (fun s' I' => ?_) qs (by rfl) (by rfl) (hev_ok _ _ _ _ _ hb7 (by rfl)))
  refine wpAt_of_wpAny (wpAny_mono (hPS.run [] s' _ H _ I' (hst s' I')) (fun fl s2 hs => ?_) fun e s' hs => hs)
  have fin : ∀ {σ' : L2.St} {H' : Hp} {v : V} {u : Value}, L2.Inv (ncx CX P w K mg base N F fI A outer s H E) [] σ' H' s2 → L2.RelV v u → Q v H' → L2.CE outer P w H s Q u s2 :=
    fun {σ' H' v u} J rv q => ⟨v, H', J.os, J.bare, J.base, J.hok, rv, q⟩
  cases fl with
  | ret u =>
    obtain ⟨v, σ', H', J, rv, q⟩ := hs
    exact fin J rv q
  | next =>
    obtain ⟨σ', H', J, q⟩ := hs
    exact fin (v := V.non) (u := Value.none) J rfl q
  | brk =>
    obtain ⟨_, _, _, q⟩ := hs
    exact False.elim q
  | cont =>
    obtain ⟨_, _, _, q⟩ := hs
    exact False.elim q
/-- C(e, ..) made: what is left to be shown -/
theorem mk_inner {K : PySem.W.Frag} {C : Addr} {ps : List Str} {vs : List V} {H1 : Hp} {Q : XK} (hl : vs.length = ps.length) (h20 : ps.length ≤ 20) (hx : ∀ y ∈ vs, XArg y)
    (h : ∀ (d : Addr) (kv : List (Str × V)), H1 d = none → (∀ (i : Nat) (f : Str), ps[i]? = some f → kv.lookup f = vs[i]?) → Q (.ref C) (some d) (upd H1 d (.xd kv))) :
    vs.length ≤ 1000 ∧ ∀ a, H1 a = none → spI K C ps (.ref a :: (vs ++ [])) (upd H1 a (exo a C none)) (fun v H2 => v = .non ∧ ∃ (d : Addr) (fs : List (Str × V)), H2 a = some (exo a C (some d)) ∧ H2 d = some (exd d fs) ∧ H1 d = none ∧ Q (.ref C) (some d) (upd (L2.del H2 a) d (.xd fs))) (fun _ _ _ => False) := by
  refine ⟨by omega, fun a ha => ⟨a, vs, by rw [List.append_nil], hl, hx, upd_same, fun dx H2 kv hdx na e1 e2 e3 e4 => ⟨rfl, dx, kv, e1, e2, ?_, ?_⟩⟩⟩
  · rw [upd_ne (fun z => na z.symm)] at hdx
    exact hdx
  · have hd : H1 dx = none := by
      rw [upd_ne (fun z => na z.symm)] at hdx
      exact hdx
    have q := h dx kv hd e4
    have e : upd (L2.del H2 a) dx (.xd kv) = upd H1 dx (.xd kv) := by
      funext b
      by_cases hb : b = dx
      · rw [hb, upd_same, upd_same]
      · rw [upd_ne hb, upd_ne hb]
        by_cases hba : b = a
        · rw [hba, del_same, ha]
        · rw [del_ne hba, e3 b hba hb, upd_ne hba]
    rw [e]
    exact q
theorem pmk_sup {X : Cx} {CXX : CXT} {x : Str} {C fI : Addr} {FN : NF} {fd : FuncData} {ps : List Str} {e : Expr} {es : List Expr} {ta : TA} {p pos : Pos} (T : SupC X.K X.prog X.mg C fI FN fd ps)
    (F1 : FnOk X.prog X.w X.K X.mg X.base CXX 1 fI fd (("self" : Str) :: ps) (spI X.K C ps)) (hbd : Binds X.K fd (("self" : Str) :: ps) []) (hx : Passes CXX X (fun _ _ _ => False)) (hr : Room 2 X.A) (hg : Gl X x)
    (hm : X.mg x = some (.ref C)) (ha : PA X (e :: es) ta) (hdb : (x == ("__debug__" : Str)) = false) (he : starEach (e :: es) X.env = (false, eval e X.env) :: starEach es X.env)
    (hpl : (backTo pos (starEach es X.env)).any (·.1) = false) : L2N.PMk X (.Call (.Name x p) (e :: es) [] pos) (tMkO C (spI X.K C ps) [] ta) := by
  intro pins s σ H Q I h
  obtain ⟨nm, q, N, bs, bm, sn, sub, ab, col, dd, k0, k1, k2, k3, k5, hC, hbm⟩ := T.oex.cls
  refine wpAny_Call_Name_kw (ld_glob I hg hm (PySem.W.callWith_K (h₀ := X.base) I.ok.mod.kin T.oex.kC (wpAny_mono (ha.run pos pins s σ H _ I h) (fun us s1 hv => ?_) fun _ _ z => z) he hpl) hdb)
  obtain ⟨vs, H1, I1, r1, hz, q1⟩ := hv
  refine ⟨I1.kIn, ?_⟩
  show wpAny _ _ (call (.ref C) us) _ _ _
  obtain ⟨hp, g, dr, tk, os⟩ := s1
  obtain ⟨a, ea⟩ : ∃ a, a = hp.objs.size + 1 := ⟨_, rfl⟩
  have hsz : hp.objs.size ≤ a := by omega
  have hn : H1 a = none := I1.hok.fresh hsz
  obtain ⟨h2, e2⟩ : ∃ h2, h2 = (hp.push (PySem.W.kdv_tup us)).push (PySem.HandSPX.excO C hp.objs.size) := ⟨_, rfl⟩
  have kk : ∀ b o, hp.get? b = some o → h2.get? b = some o := fun b o e => by
    rw [e2]
    exact Heap.get?_push_of_some _ (Heap.get?_push_of_some _ e)
  have hget : h2.get? a = some (PySem.HandSPX.excO C hp.objs.size) := by
    rw [e2, ea]
    heap_get
  have I2 : L2.Inv X pins σ (upd H1 a (exo a C none)) ⟨h2, g, dr, tk, os⟩ := I1.laid (t' := tk) (a := a) (o := exo a C none) (h' := h2) kk hsz (exo_ok hget)
  have r2 : Vals (V.ref a :: (vs ++ [])) (Value.ref a :: (us ++ [])) := .cons rfl (r1.append .nil)
  have hq := q1 a hn
  have hl : (Value.ref a :: us ++ []).length = (("self" : Str) :: ps).length := by
    have := r2.length
    rw [F1.len _ _ _ _ hq] at this
    exact this.symm
  have hus : us.length ≤ sizeLine := by
    rw [← Paired.length r1, sizeLine_eq]
    omega
  have run := F1.run (X.A.under (.builtin "type.__call__" ⟨.ref C :: us, []⟩)) X.stack _ _ ⟨Value.ref a :: us, []⟩ (Value.ref a :: (us ++ [])) _ _ (fun _ _ _ => False) (hr.make C us []) (I2.env0.make C us []) (by have := hbd _ (Value.ref a :: us) I2.kIn hl; exact this) r2 hq
  subst e2 ea
  refine wpAny_call (PySem.HandSPX.call_own F.excBase_ValueError (fun Y => PySem.HandSPX.refsVE_contains Y bm hbm) (I1.kIn _ _ hC) (PySem.W.looks_findIn I1.kIn T.ini) (fun self => PySem.W.bind_fn I1.kIn self T.typ) hus (codeAny_mono run fun r s' hq' => ?_))
  cases r with
  | error er => exact hx pins σ _ _ er s' I2 hq'
  | ok fl =>
    cases fl with
    | next => exact False.elim hq'
    | brk => exact False.elim hq'
    | cont => exact False.elim hq'
    | ret u =>
      obtain ⟨v, H2, os2, bare2, un2, hok2, rv, ev, d, fs, ea, ed, hd1, q2⟩ := hq'
      subst ev
      obtain ⟨h3, g3, d3, t3, os3⟩ := s'
      refine ⟨rv, ?_⟩
      obtain ⟨t0, G, J, kG, ge, hoe, na⟩ := mk_end0 (d2 := d3) (t2 := t3) I1 hsz kk un2 hok2 os2 bare2 ea ed hd1
      exact ⟨_, _, _, ⟨G, g3, d3, t3, os3⟩, _, .ref C, some d, rfl, J, kG, ge, hoe, ⟨rfl, rfl, fun ws z => by
        have z := Data.fields.inj z
        subst z
        rfl⟩, rfl, rfl, na, rfl, bare2, raises_own T.oex.exC T.oex.tyC, q2⟩
end Ev
set_option Elab.async false
set_option linter.all false
set_option maxRecDepth 100000
/-! Xc: calls while an exception is handled, what is asked of it -/
namespace Ev
open PySem PySem.Spec PyProof.Rows L2
variable [XT] [XA]

/-- the exception that is handled stands at p -/
def PinX (p : Addr × Obj) : Prop := ∃ cls d, XA.xa = some (p.1, cls, d) ∧ Zc cls d p.2
structure FnZ (P : Program) (w : World) (K : PySem.W.Frag) (mg : Str → Option Value) (base : Heap) (CXX : CXT) (k : Nat) (f : Addr) (fd : FuncData) (ps : List Str) (sp : Sp) : Prop where
  len : ∀ vs H Q E, sp vs H Q E → vs.length = ps.length
  run : ∀ (A : Around) (outer : List PySem.Env) (s : Shared) (H : Hp) (args : Args) (us : List Value) (vs : List V) (Q : VK) (E : XK) (p : Addr × Obj), L2H.RoomH k A → L2H.Hot1 A p → PinX p → L2H.PinOk outer H s p →
    Env0 P w K mg base A outer s H → BindsTo s fd args (ps.zip us) → Vals vs us → sp vs H Q E → codeAny (model P w) A (.call (.ref f) args) (CR CXX outer P w H s Q E) s
/-- a def by its body -/
theorem fn_ofZ {CXX : CXT} {P : Program} {w : World} {K : PySem.W.Frag} {mg : Str → Option Value} {base : Heap} {N ps : List Str} {k : Nat} {sp : Sp} {x qual : Str} {params : Arguments} {body : List Stmt} {scope : Scope} {f : Addr} {fd : FuncData}
    (D : FunD K x qual params body scope [] [] f fd) (S : FnScope N ps scope) (len : ∀ vs H Q E, sp vs H Q E → vs.length = ps.length)
    (hbody : ∀ (cdv : Value) (A : Around) (outer : List PySem.Env) (s : Shared) (H : Hp) (vs : List V) (Q : VK) (E : XK) (p : Addr × Obj), L2H.Hot1 A p → PinX p → L2H.RoomH k (A.deeper (envOfC qual scope s.heap.objs.size f cdv)) → sp vs H Q E →
      ∃ t, PSs (L2H.cxH CXX P w K mg base N qual scope f cdv A outer s H E p) body t ∧ t { nx := fun _ H' => Q .non H', rt := Q } (L2.start N vs) H) : FnZ P w K mg base CXX (k + 1) f fd ps sp := by
  obtain ⟨oc, od, dV, kV, doc, pm, an, cdv, ct, osl, rfl, lk, hcd, _, _⟩ := D.ex
  refine ⟨len, fun A outer s H args us vs Q E p hr hot px hpin e0 hb r hsp => ?_⟩
  have kp := fun b o e => (e0.bs b o e).1
  have KX : K.In s.heap := e0.mod.kin.keeps kp
  have hkind : ∀ y ∈ ps.zip us, scope.names.lookup y.1 = some .local ∨ (scope.names.lookup y.1 = some .cell ∧ ((cellsFrom (s.heap.objs.size + 1) scope.names []).lookup y.1).isSome = true) := by
    rintro ⟨n, v⟩ hy
    have hn := (List.of_mem_zip hy).1
    exact (S.par n hn).imp id fun q => ⟨q, PySem.W.cellsFrom_some _ _ _ (.inl q)⟩
  refine codeAny_call_function hr.depth (KX _ _ lk) rfl S.co S.gen rfl (PySem.W.codeRec_of KX hcd) (hb _ _ _ _ (wpAny_newFunctionEnv_cells S.kind hkind fun env he s1 ic => ?_))
  subst he
  obtain ⟨t, ht, hq⟩ := hbody cdv A outer s H vs Q E p hot px (hr.deeper _) hsp
  have I := L2H.inv_startH (CX := CXX) (E := E) S hpin e0 (len _ _ _ _ hsp) r ic
  refine ⟨(e0.mod.nolimit.keeps kp).keeps ic.toInCall.keep, codeAny_func (wpAny_mono (ht.run [] s1 (L2.start N vs) H _ I hq) (fun fl s' hs => ?_) fun e s' hs => hs)⟩
  cases fl with
  | brk => exact hs.elim fun _ h => h.elim fun _ h => h.2.elim
  | cont => exact hs.elim fun _ h => h.elim fun _ h => h.2.elim
  | ret u =>
    obtain ⟨v, σ', H', J, rv, q⟩ := hs
    exact ⟨v, H', J.os, J.bare, J.base, J.hok, rv, q⟩
  | next =>
    obtain ⟨σ', H', J, q⟩ := hs
    exact ⟨V.non, H', J.os, J.bare, J.base, J.hok, rfl, q⟩
section
variable {X : Cx} {CXX : CXT} {k : Nat} {f : Addr} {fd : FuncData} {ps : List Str} {sp : Sp} {E : XK} {x : Str} {q pos : Pos} {e : Expr} {es : List Expr} {t : TA}
/-- f(e, ..) -/
theorem pe_callZ (F : FnZ X.prog X.w X.K X.mg X.base CXX k f fd ps sp) (hr : L2H.RoomH k X.A) (hc : ∃ p, L2H.Hot1 X.A p ∧ p ∈ X.pn ∧ PinX p) (hg : Gl X x) (hm : X.mg x = some (.ref f)) (hk : PySem.W.keepIn X.K (.ref f) = true) (hb : Binds X.K fd ps []) (hx : Passes CXX X E)
    (ha : PA X (e :: es) t) (hdb : (x == ("__debug__" : Str)) = false) (he : starEach (e :: es) X.env = (false, eval e X.env) :: starEach es X.env) (hpl : (backTo pos (starEach es X.env)).any (·.1) = false) :
    PE X (.Call (.Name x q) (e :: es) [] pos) (fun σ H Q => t σ H fun vs H1 => sp vs H1 Q E) := by
  refine ⟨fun pins s σ H Q I h => ?_⟩
  refine wpAny_Call_Name_kw (ld_glob I hg hm (PySem.W.callWith_K (h₀ := X.base) I.ok.mod.kin hk (wpAny_mono (ha.run pos pins s σ H _ I h) (fun us s1 hv => ?_) fun _ _ z => z) he hpl) hdb)
  obtain ⟨vs, H1, I1, r, h1⟩ := hv
  obtain ⟨p, hot, hp, px⟩ := hc
  have P1 := I1.pin p (List.mem_append_left _ hp)
  have hpin : L2H.PinOk X.stack H1 s1 p := ⟨P1.1, P1.2.1, fun hm => (List.mem_cons.mp (I1.stkSub p.1 hm)).elim P1.2.2.1 P1.2.2.2.1, P1.2.2.2.2⟩
  have b := hb s1 us I1.kIn (by rw [List.append_nil, ← r.length]; exact F.len _ _ _ _ h1)
  rw [List.append_nil] at b
  refine ⟨I1.kIn, wpAny_call (codeAny_mono (F.run X.A X.stack s1 H1 ⟨us, []⟩ us vs Q E p hr hot px hpin I1.env0 b r h1) fun r s' hq => ?_)⟩
  cases r with
  | error e => exact hx pins σ H1 s1 e s' I1 hq
  | ok fl => cases fl with
    | ret u => exact I1.after hq
    | _ => exact hq.elim
end
/-- what an exception class says of its instances -/
structure ExK (K : PySem.W.Frag) (D : Addr) : Prop where
  cl : (PySem.W.clsIn K D).isSome = true
  ga : PySem.W.findIn K (.ref D) "__getattribute__" = some (some (.builtin "BaseException.__getattribute__"))
  gg : PySem.W.findIn K (.ref D) "__getattr__" = some none
  sb : PySem.W.subIn K (.ref D) (.type "BaseException") = some true
  dc : PySem.W.hasDictIn K D = true
  ca : PySem.W.findIn K (.ref D) "__class__" = some (some (.builtin "object.__class__"))
  cn : PySem.W.specialIn K (.builtin "object.__class__") "__get__" = some (some (.builtin "getset_descriptor.__get__"))
  ct : PySem.W.takesIn K (.builtin "object.__class__") = some true
  co : PySem.W.mroIn K D (.type "object") = some true
section
variable {X : Cx} {p : Addr × Obj} {D dd : Addr} {pins : List (Addr × Obj)} {σ : L2.St} {H : Hp} {s : Shared} {kv : List (Str × V)}
theorem inst_pin (hp : p ∈ X.pn) (hz : Zc (.ref D) (some dd) p.2) (hf : ∃ vs, p.2.data = .fields vs) (I : L2.Inv X pins σ H s) (hd : H dd = some (.xd kv)) : ∃ (mA : Str → Option Value) (od : Obj), PySem.W.InstAt s.heap p.1 p.2 D (some od) ∧ (∀ name, PySem.W.lookIn name od = some (mA name)) ∧ ∀ f, RelO (kv.lookup f) (mA f) := by
  obtain ⟨ha, _⟩ := I.pin p (List.mem_append_left _ hp)
  obtain ⟨vs, hv⟩ := hf
  obtain ⟨mA, hns, hr⟩ := (show ObjOk X.prog X.w H s.heap dd (.xd kv) from I.hok dd _ hd)
  obtain ⟨od, ho, hl⟩ := lookIn_ns hns
  exact ⟨mA, od, ⟨ha, hz.1, by unfold PySem.W.notCls; rw [hv] <;> rfl, by rw [hz.2]; exact ho⟩, hl, hr⟩
def rIsX (K : PySem.W.Frag) (p : Addr × Obj) : List V → Hp → VK → Prop := fun xs H Q => ∃ (D dd : Addr) (kv : List (Str × V)) (c : V) (cv : Value) (b : Bool), xs = [.ref p.1, c] ∧ ExK K D ∧ Zc (.ref D) (some dd) p.2 ∧ H dd = some (.xd kv) ∧ (∀ u, RelV c u → u = cv) ∧ PySem.W.kitOne K (.ref D) cv = some b ∧ Q (.bl b) H
/-- isinstance(e, C) -/
theorem call_isX (hp : p ∈ X.pn) (hf : ∃ vs, p.2.data = .fields vs) : CallR X (.builtin "isinstance") (rIsX X.K p) := by
  intro pins s σ H xs us Q I r h
  obtain ⟨D, dd, kv, c, cv, b, rfl, T, hz, hd, hcv, e, q⟩ := h
  cases r with
  | cons rx rr => cases rr with
    | cons rt rr =>
      cases rr
      cases rx
      have ec := hcv _ rt
      subst ec
      obtain ⟨mA, od, J, _, _⟩ := inst_pin hp hz hf I hd
      exact PySem.W.kia_one (PySem.W.kitx_exc T.cl T.ga T.gg T.sb T.ca T.cn T.ct T.co) I.kIn J e (fun z => nomatch z) fun tk => ⟨.bl b, H, I.kept (t' := tk) fun _ _ z => z, rfl, q⟩
/-- e.f -/
def tFx (K : PySem.W.Frag) (p : Addr × Obj) (f : Str) (te : TE) : TE := fun σ H Q => te σ H fun x H1 => x = .ref p.1 ∧ ∃ (D dd : Addr) (kv : List (Str × V)) (v : V), ExK K D ∧ Zc (.ref D) (some dd) p.2 ∧ H1 dd = some (.xd kv) ∧ PySem.W.findIn K (.ref D) f = some none ∧ kv.lookup f = some v ∧ Q v H1
theorem pe_fx {e : Expr} {te : TE} {pos : Pos} {n : Str} (hp : p ∈ X.pn) (hf : ∃ vs, p.2.data = .fields vs) (he : PE X e te) (hb : attributeBase e n X.env (eval e X.env) = eval e X.env) : PE X (.Attribute e n pos) (tFx X.K p n te) := by
  refine ⟨fun pins s σ H Q I h => attr_of hb (wpAny_mono (he.run pins s σ H _ I h) (fun u s1 hh => ?_) fun _ _ z => z)⟩
  obtain ⟨x, H1, I1, rx, rfl, D, dd, kv, v, T, hz, hd, hno, hl, q⟩ := hh
  obtain rfl : u = Value.ref p.1 := rx
  obtain ⟨mA, od, J, hlk, hr⟩ := inst_pin hp hz hf I1 hd
  obtain ⟨u, hu, ru⟩ := RelO.some_of (v := v) (o := mA n) (by rw [← hl]; exact hr n)
  exact HandSPX.exc_get I1.kIn J T.ga T.gg T.sb (PySem.W.findObj_own T.dc hno rfl (by rw [hlk, hu])) (handed_of ru) ⟨v, H1, I1.tok _, ru, q⟩
end
end Ev
set_option Elab.async false
set_option linter.all false
set_option maxRecDepth 100000
/-! EvI: the evaluator tells what the program's expressions do -/
namespace Ev
open PySem PySem.Spec PyProof.Rows L2
variable [XT] [XA] [XE]

omit [XE] in
/-- what a call of the def f promises -/
def spC (K : PySem.W.Frag) (C : Cfg) (f n : Nat) : Sp := fun vs H Q E => vs.length = n ∧ ∃ ws M μ, StR K H μ M ∧ WRs K H μ ws vs ∧ @Post _ _ ⟨E⟩ _ _ K (RV K) H μ (C.call f ws M) Q
omit [XE] in
structure FnGx (Z : Nm) (C : Cfg) (X : Cx) (f : Nat) (x : Str) : Prop where
  ex : ∃ k a fd ps, X.mg x = some (.ref a) ∧ PySem.W.keepIn X.K (.ref a) = true ∧ Binds X.K fd ps [] ∧ (Z.hot = false → isHot Z x = false → Room k X.A ∧ FnOk X.prog X.w X.K X.mg X.base (L2N.CX X.prog X.w) k a fd ps (spC X.K C f ps.length)) ∧
    (f ∈ Z.hf → L2H.RoomH k X.A ∧ ∀ xa : XA, @FnZ xa X.prog X.w X.K X.mg X.base (L2N.CX X.prog X.w) k a fd ps (@spC _ xa X.K C f ps.length)) ∧ ∀ ws M, ws.length ≠ ps.length → C.call f ws M = .stuck
def bltN : List Str := ["len", "abs", "int", "max", "min", "list", "tuple", "isinstance", "range", "enumerate", "zip", "str", "bool", "sum", "all", "any", "set", "sorted", "dict", "ValueError", "super"]
/-- a written dict with text keys -/
structure TabG (C : Cfg) (X : Cx) (i : Nat) (x : Str) : Prop where
  ex : ∃ a es n kvs, X.mg x = some (.ref a) ∧ KDict X.K X.w a es n ∧ C.GD.gd[i]? = some kvs ∧ ∀ z : Str, ∃ r, PySem.W.nsIn X.K a z = some r ∧
    ((valD kvs z = none ∧ r = none) ∨ ∃ d u v, valD kvs z = some d ∧ r = some u ∧ RelV v u ∧ KD X.K d v)
/-- the exception classes -/
structure ExG (Z : Nm) (T : Tabs) (K : PySem.W.Frag) (mg : Str → Option Value) : Prop where
  mg : ∀ x ∈ Z.ex, mg x = some (.ref (He.ga K x))
  exk : ∀ x, exKnown T x = true → ExK K (He.ga K x)
  exm : ∀ x, exKnown T x = true → ∀ c ∈ Z.ex, PySem.W.exmOne K (.ref (He.ga K x)) (.ref (He.ga K c)) = some (exSub x c)
  kit : ∀ x, exKnown T x = true → ∀ c ∈ Z.ex, PySem.W.kitOne K (.ref (He.ga K x)) (.ref (He.ga K c)) = some (exSub x c)
  kiv : ∀ x, exKnown T x = true → PySem.W.kitOne K (.ref (He.ga K x)) (.type "ValueError") = some true
  fld : ∀ x, exKnown T x = true → ∀ f ∈ Z.fl, PySem.W.findIn K (.ref (He.ga K x)) f = some none
/-- an exception class that is raised -/
structure MkG (K : PySem.W.Frag) (P : Program) (w : World) (mg : Str → Option Value) (base : Heap) (x : Str) (fs : List Str) : Prop where
  ex : ∃ fI FN fd, SupC K P mg (He.ga K x) fI FN fd fs ∧ FnOk P w K mg base (L2N.CX P w) 1 fI fd (("self" : Str) :: fs) (spI K (He.ga K x) fs) ∧ Binds K fd (("self" : Str) :: fs) []
  l20 : fs.length ≤ 20
structure Good (Z : Nm) (C : Cfg) (X : Cx) : Prop where
  calm : Z.hot = false → X.calm = true
  room2 : Z.hot = false → Room 2 X.A
  hotc : Z.hot = true → ∃ p, L2H.Hot1 X.A p ∧ p ∈ X.pn ∧ PinX p
  tk : L2N.Takes X (fun c d _ H => XE.E c d H)
  nodup : X.N.Nodup
  line : X.A.units + 65 < cLine
  fns : ∀ f x, Z.fn[f]? = some x → FnGx Z C X f x
  gls : ∀ (i : Nat) (x : Str), Z.gl[i]? = some x → ∃ v u d, X.mg x = some u ∧ RelV v u ∧ C.G[i]? = some d ∧ KD X.K d v
  gds : ∀ (i : Nat) (x : Str), Z.gd[i]? = some x → TabG C X i x
  blt : ∀ x ∈ bltN, X.mg x = none
  exg : ExG Z C.GD X.K X.mg
  rsx : ∀ x ∈ Z.rs, x ∈ Z.ex
  mks : ∀ x ∈ Z.rs, ∃ fs, C.GD.ex.lookup x = some fs ∧ MkG X.K X.prog X.w X.mg X.base x fs
  ktg : Z.kt = XT.kt
variable {Z : Nm} {C : Cfg}
theorem takesF {X : Cx} : @L2N.Takes X (fun c d _ H => xF.E c d H) := fun u s' ⟨_, _, _, _, _, _, _, _, _, _, _, _, _, _, _, _, w⟩ => w.elim
theorem Good.blk {X : Cx} (g : Good Z C X) (s : Shared) (H : Hp) (scope : Scope) (cenv : PySem.Env) (fp : List Addr) (hh : Z.hot = false) : @Good _ _ xF Z C (X.blk s H scope cenv fp) :=
  @Good.mk _ _ xF Z C (X.blk s H scope cenv fp) g.calm g.room2 (fun h => by rw [hh] at h; cases h) takesF g.nodup g.line (fun f x h => ⟨(g.fns f x h).ex⟩) g.gls (fun i x h => ⟨(g.gds i x h).ex⟩) g.blt g.exg g.rsx g.mks g.ktg
section
variable {X : Cx}
theorem visB_ok {sc : Scope} {x : Str} (h : visB sc x = true) : Vis sc x := by
  unfold visB at h
  split at h
  · exact .inl ‹_›
  · exact .inr (.inl ‹_›)
  · exact .inr (.inr ‹_›)
  · cases h
theorem glB_ok {x : Str} (h : glB X.env.scope x = true) : Gl X x := by
  unfold glB at h
  split at h
  · rename_i q; exact q
  · cases h
theorem locB_ok {sc : Scope} {fnb : Str → Bool} {x : Str} (h : locB sc fnb x = true) : Loc sc x ∧ (fnb x = true ∨ sc.names.lookup x = some .local) := by
  unfold locB at h
  split at h
  · rename_i q; exact ⟨.inl q, .inr q⟩
  · rename_i q; exact ⟨.inr q, .inl h⟩
  · cases h
theorem okN_ok {x : Str} (h : okN x = true) : (x == ("__debug__" : Str)) = false ∧ (x == ("__classdict__" : Str)) = false := by
  unfold okN at h
  simp only [Bool.and_eq_true, Bool.not_eq_true'] at h
  exact h
theorem notSet_marks {e : Expr} (h : notSet e = true) (op : CmpOp) : behindInMarks op e = false := by
  cases e <;> first | rfl | cases h
theorem notSet_fold {e : Expr} (h : notSet e = true) (env : PySem.Env) (x : Value) : foldedSetIterable e env x = pure x := by
  cases e <;> first | rfl | cases h
theorem notStar_each {e : Expr} (h : notStar e = true) (es : List Expr) (env : PySem.Env) : starEach (e :: es) env = (false, eval e env) :: starEach es env := by
  cases e <;> first | rfl | cases h
theorem notSl_ix {e : Expr} (h : notSl e = true) : PlainIx e := by
  intro o i
  cases e <;> first | rfl | cases h
theorem truB_ok {e : Expr} {env : PySem.Env} (h : truB e = true) : ∀ whole, isTrue e env whole = (do let v ← whole; standAt e.pos; holding [v] (truthy v)) := by
  intro whole
  cases e <;> first | rfl | cases h
theorem notSuper_base {o : Expr} {m : Str} {env : PySem.Env} {whole : Sem Value} (h : notSuper o = true) : attributeBase o m env whole = whole := by
  cases o <;> first
    | rfl
    | (rename_i f as ks p; cases as <;> cases ks <;> first | (cases h; done) | (cases f <;> rfl))
end
end Ev
set_option Elab.async false
set_option linter.all false
set_option maxRecDepth 100000
/-! EvJ: the evaluator tells what the program's expressions do -/
namespace Ev
open PySem PySem.Spec PyProof.Rows L2
variable [XT] [XA] [XE]
variable {Z : Nm} {C : Cfg}

theorem stars {env : PySem.Env} : ∀ {es : List Expr}, (∀ e ∈ es, notStar e = true) → starEach es env = es.map fun e => (false, eval e env)
  | [], _ => rfl
  | e :: es, h => by
    rw [notStar_each (h e List.mem_cons_self), stars fun x hx => h x (List.mem_cons_of_mem _ hx)]
    rfl
theorem backTo_plain {env : PySem.Env} {es : List Expr} {pos : Pos} (h : ∀ e ∈ es, notStar e = true) : (backTo pos (starEach es env)).any (·.1) = false := by
  rw [stars h]
  unfold backTo
  induction es with
  | nil => rfl
  | cons e es ih => 
    rw [List.map_cons, List.map_cons, List.any_cons, ih fun x hx => h x (List.mem_cons_of_mem _ hx)]
    rfl
theorem few_ok {env : PySem.Env} {es : List Expr} {pos : Pos} (h : ∀ e ∈ es, notStar e = true) (hl : es.length < 20) : ((backTo pos (starEach es env)).all (fun x => !x.1) && (backToKw pos (keywordEach [] env)).all (fun x => x.1.isSome)
      && decide (es.length + ([] : List Keyword).length + (if ([] : List Keyword).isEmpty then 0 else 1) < 30)) = true := by
  have h1 : (backTo pos (starEach es env)).all (fun x => !x.1) = true := by
    have := backTo_plain (env := env) (pos := pos) h
    rw [List.all_eq_true]
    rw [List.any_eq_false] at this
    intro x hx
    simpa using this x hx
  rw [h1]
  have h2 : (backToKw pos (keywordEach [] env)).all (fun x => x.1.isSome) = true := rfl
  rw [h2]
  simp
  omega
theorem chkEs_star {N : List Str} {sc : Scope} {fnb : Str → Bool} : ∀ {cs : CEs} {es : List Expr}, chkEs Z N sc fnb cs es = true → ∀ e ∈ es, notStar e = true
  | .nil, [], _, e, he => by cases he
  | .cons a r, x :: es, h, e, he => by
    simp only [chkEs, Bool.and_eq_true] at h
    rcases List.mem_cons.mp he with rfl | he
    · exact h.1
    · exact chkEs_star h.2.2 e he
  | .nil, _ :: _, h, _, _ => by simp [chkEs] at h
  | .cons _ _, [], h, _, _ => by simp [chkEs] at h

/-! ### enumerate, zip -/
theorem enumD_get : ∀ (xs : List D) (k i : Nat), (enumD xs k)[i]? = (xs[i]?).map fun x => .tuple [.int ((k + i : Nat) : Int), x]
  | [], k, i => by simp [enumD]
  | x :: xs, k, 0 => by simp [enumD]
  | x :: xs, k, i + 1 => by
    simp only [enumD, List.getElem?_cons_succ]
    rw [enumD_get xs (k + 1) i]
    have : k + 1 + i = k + (i + 1) := by omega
    rw [this]
theorem zipD_get : ∀ (xs ys : List D) (i : Nat), (zipD xs ys)[i]? = (xs[i]?).bind fun x => (ys[i]?).map fun y => .tuple [x, y]
  | [], ys, i => by simp [zipD]
  | x :: xs, [], i => by
    simp only [zipD]
    cases (x :: xs)[i]? <;> simp
  | x :: xs, y :: ys, 0 => by simp [zipD]
  | x :: xs, y :: ys, i + 1 => by
    simp only [zipD, List.getElem?_cons_succ]
    exact zipD_get xs ys i
section
variable {K : PySem.W.Frag} {H : Hp} {μ : Mu} {M : Store}
theorem pair_new {T : Addr} {x y : D} {v u : V} (k0 : XT.kt = false) (S : StR K H μ M) (hT : H T = none) (hx : DR K H μ x v) (hy : DR K H μ y u) : Stp H μ (upd H T (.tup [v, u])) μ ∧ StR K (upd H T (.tup [v, u])) μ M ∧ DR K (upd H T (.tup [v, u])) μ (.tuple [x, y]) (.ref T) := by
  obtain ⟨s, S'⟩ := stp_new (o := .tup [v, u]) S hT
  exact ⟨s, S', .tup (S.free hT) (.of upd_same k0) (DRs.stp s (.cons hx (.cons hy .nil)))⟩
theorem turn_enumL {a : Addr} {vs : List V} {xs : List D} {i : Nat} (k0 : XT.kt = false) (S : StR K H μ M) (q : SqL K H a vs) (r : DRs K H μ xs vs) : Turn1 K (Ite K a) (enumD xs 0) i H μ M := by
  refine ⟨fun x hx => ?_, fun hx => ?_⟩
  · rw [enumD_get] at hx
    obtain ⟨y, hy, rfl⟩ := Option.map_eq_some_iff.mp hx
    obtain ⟨v, h1, h2⟩ := r.get hy
    refine ⟨⟨vs, v, q, h1⟩, fun u H2 yl => ?_⟩
    obtain ⟨T, z, rfl, hT, rfl, hz⟩ := yl
    have e := hz vs q
    rw [h1] at e; cases e
    rw [Nat.zero_add]
    exact pair_new k0 S hT (.int _) h2
  · rw [enumD_get] at hx
    have hl := List.getElem?_eq_none_iff.mp (Option.map_eq_none_iff.mp hx)
    exact ⟨vs, q, by rw [← r.length]; exact hl⟩
theorem turn_enumW {a : Addr} {vs : List V} {xs : List W} {i : Nat} (S : StR K H μ M) (q : SqL K H a vs) (r : WRs K H μ xs vs) : TurnI K (Ite K a) true xs i H μ M := by
  refine ⟨fun x hx => ?_, fun hx => ?_⟩
  · obtain ⟨v, h1, h2⟩ := atI_wr r hx
    refine ⟨⟨vs, v, q, h1⟩, fun u H2 yl => ?_⟩
    obtain ⟨T, z, rfl, hT, rfl, hz⟩ := yl
    have e := hz vs q
    rw [h1] at e; cases e
    obtain ⟨s, S'⟩ := stp_new (o := .tup [.int (i : Nat), v]) S hT
    exact ⟨s, S', T, _, _, rfl, .inl (.inl upd_same), DR.int _, h2.stp s⟩
  · have hl := List.getElem?_eq_none_iff.mp hx
    exact ⟨vs, q, by rw [← r.length]; exact hl⟩
theorem turn_zipL {a b : Addr} {vs us : List V} {xs ys : List D} {i : Nat} (k0 : XT.kt = false) (S : StR K H μ M) (q : SqL K H a vs) (r : DRs K H μ xs vs) (q' : SqL K H b us) (r' : DRs K H μ ys us) : Turn1 K (Itz K a b) (zipD xs ys) i H μ M := by
  refine ⟨fun x hx => ?_, fun hx => ?_⟩
  · rw [zipD_get] at hx
    obtain ⟨y, hy, hx⟩ := Option.bind_eq_some_iff.mp hx
    obtain ⟨z, hz, rfl⟩ := Option.map_eq_some_iff.mp hx
    obtain ⟨v, h1, h2⟩ := r.get hy
    obtain ⟨u, h3, h4⟩ := r'.get hz
    refine ⟨⟨vs, us, v, u, q, q', h1, h3⟩, fun w H2 yl => ?_⟩
    obtain ⟨T, y1, z1, rfl, hT, rfl, e1, e2⟩ := yl
    have e1 := e1 vs q
    have e2 := e2 us q'
    rw [h1] at e1; cases e1
    rw [h3] at e2; cases e2
    exact pair_new k0 S hT h2 h4
  · rw [zipD_get] at hx
    refine ⟨vs, us, q, q', ?_⟩
    rw [← r.length, ← r'.length]
    cases hy : xs[i]? with
    | none => exact .inl (List.getElem?_eq_none_iff.mp hy)
    | some y =>
      rw [hy] at hx
      exact .inr (List.getElem?_eq_none_iff.mp (Option.map_eq_none_iff.mp hx))
theorem turn_zipTT {a b : Addr} {vs us : List V} {xs ys : List D} {i : Nat} (k0 : XT.kt = false) (S : StR K H μ M) (q : SqT K H a vs) (r : DRs K H μ xs vs) (q' : SqT K H b us) (r' : DRs K H μ ys us) : Turn1 K (RZ.ItzT K a b) (zipD xs ys) i H μ M := by
  refine ⟨fun x hx => ?_, fun hx => ?_⟩
  · rw [zipD_get] at hx
    obtain ⟨y, hy, hx⟩ := Option.bind_eq_some_iff.mp hx
    obtain ⟨z, hz, rfl⟩ := Option.map_eq_some_iff.mp hx
    obtain ⟨v, h1, h2⟩ := r.get hy
    obtain ⟨u, h3, h4⟩ := r'.get hz
    refine ⟨⟨vs, us, v, u, q, q', h1, h3⟩, fun w H2 yl => ?_⟩
    obtain ⟨T, y1, z1, rfl, hT, rfl, e1, e2⟩ := yl
    have e1 := e1 vs q
    have e2 := e2 us q'
    rw [h1] at e1; cases e1
    rw [h3] at e2; cases e2
    exact pair_new k0 S hT h2 h4
  · rw [zipD_get] at hx
    refine ⟨vs, us, q, q', ?_⟩
    rw [← r.length, ← r'.length]
    cases hy : xs[i]? with
    | none => exact .inl (List.getElem?_eq_none_iff.mp hy)
    | some y =>
      rw [hy] at hx
      exact .inr (List.getElem?_eq_none_iff.mp (Option.map_eq_none_iff.mp hx))
end

/-! ### targets -/
section
variable {X : Cx}
theorem star_of_T {N : List Str} {sc : Scope} {fnb : Str → Bool} {t : CT} {e : Expr} (h : chkT N sc fnb t e = true) : notStar e = true := by
  cases t <;> (cases e <;> first | rfl | cases h)
theorem assign_each {e : Expr} {es : List Expr} {env : PySem.Env} (h : notStar e = true) : assignEach (e :: es) env = (false, assign e env) :: assignEach es env := by
  cases e <;> first | rfl | cases h
theorem chkTs_each {N : List Str} {sc : Scope} {fnb : Str → Bool} {env : PySem.Env} : ∀ {ts : CTs} {es : List Expr}, chkTs N sc fnb ts es = true → (assignEach es env).length = ctL ts ∧ (assignEach es env).findIdx? (·.1) = none
  | .nil, [], _ => ⟨rfl, rfl⟩
  | .cons t r, x :: es, h => by
    simp only [chkTs, Bool.and_eq_true] at h
    obtain ⟨h1, h2⟩ := chkTs_each (env := env) h.2
    rw [assign_each (star_of_T h.1)]
    refine ⟨by simp [ctL, h1], ?_⟩
    rw [List.findIdx?_cons, h2]
    rfl
  | .nil, _ :: _, h => by simp [chkTs] at h
  | .cons _ _, [], h => by simp [chkTs] at h
mutual
theorem okT (hc : X.calm = true) (hN : X.N.Nodup) : ∀ {t : CT} {e : Expr}, chkT X.N X.env.scope X.fn t e = true → PG X e (gT X.K t)
  | .name i, e, h => by
    unfold chkT at h
    split at h
    · simp only [Bool.and_eq_true, decide_eq_true_eq] at h
      obtain ⟨h1, h2⟩ := locB_ok h.2
      exact pg_name hN h.1 h1 h2
    · cases h
  | .tup ts, e, h => by
    unfold chkT at h
    split at h
    · obtain ⟨h1, h2⟩ := chkTs_each (env := X.env) h
      exact pg_tup hc (okTs hc hN h) h1 h2
    · cases h
theorem okTs (hc : X.calm = true) (hN : X.N.Nodup) : ∀ {ts : CTs} {es : List Expr}, chkTs X.N X.env.scope X.fn ts es = true → PGs X es (gTs X.K ts)
  | .nil, [], _ => pgs_nil
  | .cons t r, x :: es, h => by
    simp only [chkTs, Bool.and_eq_true] at h
    exact pgs_cons (okT hc hN h.1) (okTs hc hN h.2) (by rw [assign_each (star_of_T h.1)]; rfl)
  | .nil, _ :: _, h => by simp [chkTs] at h
  | .cons _ _, [], h => by simp [chkTs] at h
end
end
end Ev
set_option Elab.async false
set_option linter.all false
set_option maxRecDepth 100000
/-! EvK: the evaluator tells what the program's expressions do -/
namespace Ev
open PySem PySem.Spec PyProof.Rows L2
variable [XT] [XA] [XE]
variable {Z : Nm} {C : Cfg}

def noE : XK := fun _ _ _ => False
theorem boot_abs : bootBuiltins "abs" = some (.builtin "abs") := by decide +kernel
theorem boot_max : bootBuiltins "max" = some (.builtin "max") := by decide +kernel
theorem boot_min : bootBuiltins "min" = some (.builtin "min") := by decide +kernel
theorem boot_isi : bootBuiltins "isinstance" = some (.builtin "isinstance") := by decide +kernel
theorem boot_ty (t : Ty) : bootBuiltins (tyS t) = some (.type (tyN t)) := by cases t <;> decide +kernel
theorem ty_blt (t : Ty) : tyS t ∈ bltN := by cases t <;> decide +kernel
section
variable {X : Cx}
theorem cst_ok {d : D} {c : Const} {j : _} {pos : Pos} {C : Cfg} (h : cstB d c = true) : PE X (.Constant c j pos) (tE X.K (evE C (.cst d))) := by
  unfold cstB at h
  split at h
  · refine PE.imp pe_non fun pins s σ H Q I ⟨e, M, μ, a, p⟩ => ?_
    exact Post.now (RA := RV X.K) (b := V.non) p a.st DR.non
  · rename_i a b
    have h : a = b := by simpa using h
    subst h
    refine PE.imp pe_bl fun pins s σ H Q I ⟨e, M, μ, a', p⟩ => ?_
    exact Post.now (RA := RV X.K) (b := V.bl a) p a'.st (DR.bl a)
  · rename_i a b
    have h : a = b := of_decide_eq_true h
    subst h
    refine PE.imp pe_int fun pins s σ H Q I ⟨e, M, μ, a', p⟩ => ?_
    exact Post.now (RA := RV X.K) (b := V.int a) p a'.st (DR.int a)
  · rename_i a b
    have h : a = b := of_decide_eq_true h
    subst h
    refine PE.imp pe_str fun pins s σ H Q I ⟨e, M, μ, a', p⟩ => ?_
    exact Post.now (RA := RV X.K) (b := V.str a) p a'.st (DR.str a)
  · cases h
theorem ty_ok (g : Good Z C X) {t : Ty} {p : Pos} {x : Str} (hx : x = tyS t) (h : glB X.env.scope x = true) : PE X (.Name x p) (tC (.ty (tyN t))) := by
  subst hx
  refine pe_bltn (glB_ok h) (g.blt _ (ty_blt t)) (boot_ty t) rfl ?_ ?_
  · cases t <;> decide
  · cases t <;> decide
theorem rvI_rgV {K : PySem.W.Frag} {H : Hp} {μ : Mu} (n : Int) : DRs K H μ (range0 n) (rgV 0 n) := by
  unfold range0 rgV
  rw [Int.sub_zero]
  generalize List.range n.toNat = l
  induction l with
  | nil => exact .nil
  | cons i r ih =>
    rw [List.map_cons, List.map_cons, Int.zero_add]
    exact .cons (.int _) ih
theorem rvI_rgV2 {K : PySem.W.Frag} {H : Hp} {μ : Mu} (a b : Int) : DRs K H μ (range2 a b) (rgV a b) := by
  unfold range2 rgV
  generalize List.range (b - a).toNat = l
  induction l with
  | nil => exact .nil
  | cons i r ih =>
    rw [List.map_cons, List.map_cons]
    exact .cons (.int _) ih
/-- lists as tyV tells them -/
theorem tyV_cell {K : PySem.W.Frag} {H : Hp} {μ : Mu} {M : Store} {n : Nat} {xs : List D} {v : V} (S : StR K H μ M) (h : cellLst M n = some xs) (r : WR K H μ (.r n) v) : tyV K "list" v H := by
  obtain ⟨a, vs, _, rfl, ho, _⟩ := S.cell h r
  exact .inl ⟨rfl, vs, .inl (.inl ho)⟩
end
end Ev
set_option Elab.async false
set_option linter.all false
set_option maxRecDepth 100000
/-! EvL: one construct at a time -/
namespace Ev
open PySem PySem.Spec PyProof.Rows L2
variable [XT] [XA] [XE]
variable {Z : Nm} {C : Cfg}
section
variable {X : Cx} {e x y z : Expr} {es : List Expr} {pos : Pos} {a b c : CE} {cs : CEs}

theorem k_var {i : Nat} {n : Str} (h1 : X.N[i]? = some n) (h2 : visB X.env.scope n = true) (h3 : okN n = true) : PE X (.Name n pos) (tE X.K (evE C (.var i))) := by
  refine PE.imp (pe_var h1 (visB_ok h2) (okN_ok h3).1 (okN_ok h3).2) fun pins s σ H Q I ⟨e, M, μ, at_, p⟩ => ?_
  have p : Post X.K (RV X.K) H μ (match e[i]? with | some (some w) => .ok w M | _ => .stuck) Q := p
  split at p
  · rename_i w hw
    obtain ⟨v, h1, h2⟩ := at_.env.at_ i w hw
    exact ⟨v, h1, Post.now (RA := RV X.K) p at_.st h2⟩
  · exact p.elim
theorem k_glob (g : Good Z C X) {i : Nat} {n : Str} (h1 : Z.gl[i]? = some n) (h2 : glB X.env.scope n = true) (h3 : okN n = true) : PE X (.Name n pos) (tE X.K (evE C (.glob i))) := by
  obtain ⟨v, u, d, hm, r, hd, hr⟩ := g.gls i n h1
  refine PE.imp (pe_glob (glB_ok h2) hm r (okN_ok h3).1) fun pins s σ H Q I ⟨e, M, μ, at_, p⟩ => ?_
  have p : Post X.K (RV X.K) H μ (withO C.G[i]? fun v => .ok (gW v) M) Q := p
  rw [hd] at p
  exact Post.now (RA := RV X.K) p at_.st hr.gw
theorem k_bin {md : Md} {op : BOp} {o : Operator} (ho : opB op o = true) (ha : PE X x (tE X.K (evE C a))) (hb : PE X y (tE X.K (evE C b))) : PE X (.BinOp x o y pos) (tE X.K (evE C (.bin md op a b))) := by
  have ho : opO op = o := of_decide_eq_true ho
  subst ho
  exact PE.imp (pe_op (op_binW md op) ha hb) fun pins s σ H Q I ⟨e, M, μ, at_, p⟩ => two at_ p
theorem k_neg (ha : PE X x (tE X.K (evE C a))) : PE X (.UnaryOp .USub x pos) (tE X.K (evE C (.neg a))) := by
  refine PE.imp (pe_un un_neg ha) fun pins s σ H Q I ⟨e, M, μ, at_, p⟩ => ?_
  have p : Post X.K (RV X.K) H μ ((evE C a e M).bind fun x M1 => match x with
    | .d (.int i) => .ok (.d (.int (-i))) M1
    | _ => .stuck) Q := p
  obtain ⟨e1, M1, μ1, a1, p1⟩ := goE at_ p
  refine ⟨e1, M1, μ1, a1, p1.imp fun v H1 ⟨w, M2, μ2, s2, a2, r2, p2⟩ => ?_⟩
  split at p2
  · cases r2
    exact ⟨_, rfl, Post.now (RA := RV X.K) (b := V.int _) p2 a2.st (DR.int _)⟩
  · exact p2.elim
theorem k_cmp (g : Good Z C X) {op : COp} {o : CmpOp} (ho : copB op o = true) (hs : notSet y = true) (ha : PE X x (tE X.K (evE C a))) (hb : PE X y (tE X.K (evE C b))) : PE X (.Compare x [o] [y] pos) (tE X.K (evE C (.cmp op a b))) := by
  have ho : opC op = o := of_decide_eq_true ho
  subst ho
  exact PE.imp (pe_cmpR (op_cmpW g.line op) ha hb (notSet_marks hs _)) fun pins s σ H Q I ⟨e, M, μ, at_, p⟩ => twoC at_ p
theorem k_cmpT (g : Good Z C X) {op : COp} {o : CmpOp} (ho : copB op o = true) (hs : notSet y = true) (ha : PE X x (tE X.K (evE C a))) (hb : PE X y (tE X.K (evE C b))) : PT X (.Compare x [o] [y] pos) (tB X.K (evB C (.cmp op a b))) := by
  have ho : opC op = o := of_decide_eq_true ho
  subst ho
  exact PT.imp (pt_cmpR (op_cmpW g.line op) ha hb (notSet_marks hs _)) fun σ H Q ⟨e, M, μ, at_, p⟩ => twoT at_ p
theorem k_isN {j : _} {p2 : Pos} (ha : PE X x (tE X.K (evE C a))) : PE X (.Compare x [.Is] [.Constant .none j p2] pos) (tE X.K (evE C (.isN a))) := by
  refine PE.imp (pe_cmpR op_isN ha pe_non rfl) fun pins s σ H Q I ⟨e, M, μ, at_, p⟩ => ?_
  obtain ⟨e1, M1, μ1, a1, p1⟩ := goE at_ (show Post X.K (RV X.K) H μ ((evE C a e M).bind fun x M1 => withO (isNW x M1) fun t => boolR t M1) Q from p)
  refine ⟨e1, M1, μ1, a1, p1.imp fun v H1 ⟨w, M2, μ2, s2, a2, r2, p2⟩ => ?_⟩
  obtain ⟨t, h, p3⟩ := Post.withO p2
  refine ⟨rfl, ?_⟩
  rw [isN_ok a2.st r2 h]
  exact boolR_ok a2.st p3
theorem k_notN {j : _} {p2 : Pos} (ha : PE X x (tE X.K (evE C a))) : PE X (.Compare x [.IsNot] [.Constant .none j p2] pos) (tE X.K (evE C (.notN a))) := by
  refine PE.imp (pe_cmpR op_notN ha pe_non rfl) fun pins s σ H Q I ⟨e, M, μ, at_, p⟩ => ?_
  obtain ⟨e1, M1, μ1, a1, p1⟩ := goE at_ (show Post X.K (RV X.K) H μ ((evE C a e M).bind fun x M1 => withO (isNW x M1) fun t => boolR (!t) M1) Q from p)
  refine ⟨e1, M1, μ1, a1, p1.imp fun v H1 ⟨w, M2, μ2, s2, a2, r2, p2⟩ => ?_⟩
  obtain ⟨t, h, p3⟩ := Post.withO p2
  refine ⟨rfl, ?_⟩
  rw [isN_ok a2.st r2 h]
  exact boolR_ok a2.st p3
theorem k_isNT {j : _} {p2 : Pos} (ha : PE X x (tE X.K (evE C a))) : PT X (.Compare x [.Is] [.Constant .none j p2] pos) (tB X.K (evB C (.isN a))) := by
  refine PT.imp (pt_cmpR op_isN ha pe_non rfl) fun σ H Q ⟨e, M, μ, at_, p⟩ => ?_
  obtain ⟨e1, M1, μ1, a1, p1⟩ := goE at_ (show Post X.K (RId Bool) H μ ((evE C a e M).bind fun x M1 => withO (isNW x M1) fun t => .ok t M1) Q from p)
  refine ⟨e1, M1, μ1, a1, p1.imp fun v H1 ⟨w, M2, μ2, s2, a2, r2, p2⟩ => ?_⟩
  obtain ⟨t, h, p3⟩ := Post.withO p2
  refine ⟨rfl, _, rfl, ?_⟩
  rw [isN_ok a2.st r2 h]
  exact p3.now a2.st rfl
theorem k_notNT {j : _} {p2 : Pos} (ha : PE X x (tE X.K (evE C a))) : PT X (.Compare x [.IsNot] [.Constant .none j p2] pos) (tB X.K (evB C (.notN a))) := by
  refine PT.imp (pt_cmpR op_notN ha pe_non rfl) fun σ H Q ⟨e, M, μ, at_, p⟩ => ?_
  obtain ⟨e1, M1, μ1, a1, p1⟩ := goE at_ (show Post X.K (RId Bool) H μ ((evE C a e M).bind fun x M1 => withO (isNW x M1) fun t => .ok (!t) M1) Q from p)
  refine ⟨e1, M1, μ1, a1, p1.imp fun v H1 ⟨w, M2, μ2, s2, a2, r2, p2⟩ => ?_⟩
  obtain ⟨t, h, p3⟩ := Post.withO p2
  refine ⟨rfl, _, rfl, ?_⟩
  rw [isN_ok a2.st r2 h]
  exact p3.now a2.st rfl
theorem marks2 {o o2 : CmpOp} (hs : notSet z = true) : lastMarks [o, o2] [y, z] = false := notSet_marks hs _
theorem k_chain (g : Good Z C X) {op op2 : COp} {o o2 : CmpOp} (ho : copB op o = true) (ho2 : copB op2 o2 = true) (hs : notSet z = true) (ha : PE X x (tE X.K (evE C a))) (hb : PE X y (tE X.K (evE C b))) (hc : PE X z (tE X.K (evE C c))) :
    PE X (.Compare x [o, o2] [y, z] pos) (tE X.K (evE C (.chain op op2 a b c))) := by
  have ho : opC op = o := of_decide_eq_true ho
  have ho2 : opC op2 = o2 := of_decide_eq_true ho2
  subst ho ho2
  refine PE.imp (pe_chain (op_cmpW g.line op) (op_cmpW g.line op2) ha hb hc (marks2 hs)) fun pins s σ H Q I ⟨e, M, μ, at_, p⟩ => ?_
  obtain ⟨e1, M1, μ1, a1, p1⟩ := goE at_ (show Post X.K (RV X.K) H μ ((evE C a e M).bind fun x M1 => (evE C b e M1).bind fun y M2 => withO (cmpW op x y M2) fun t => if t = true then (evE C c e M2).bind fun z M3 => withO (cmpW op2 y z M3) fun u => boolR u M3 else boolR false M2) Q from p)
  refine ⟨e1, M1, μ1, a1, p1.imp fun v H1 ⟨w, M2, μ2, s2, a2, r2, p2⟩ => ?_⟩
  obtain ⟨e3, M3, μ3, a3, p3⟩ := goE a2 p2
  refine ⟨e3, M3, μ3, a3, p3.imp fun u H2 ⟨w', M4, μ4, s4, a4, r4, p4⟩ => ?_⟩
  obtain ⟨t, h, p5⟩ := Post.withO p4
  refine ⟨w, w', M4, μ4, t, a4.st, r2.stp s4, r4, h, t, rfl, ?_⟩
  cases t with
  | true =>
    rw [if_pos rfl] at p5 ⊢
    obtain ⟨e6, M6, μ6, a6, p6⟩ := goE a4 p5
    refine ⟨e6, M6, μ6, a6, p6.imp fun u' H3 ⟨w3, M7, μ7, s7, a7, r7, p7⟩ => ?_⟩
    obtain ⟨t2, h2, p8⟩ := Post.withO p7
    exact ⟨w', w3, M7, μ7, t2, a7.st, r4.stp s7, r7, h2, boolR_ok a7.st p8⟩
  | false =>
    rw [if_neg Bool.false_ne_true] at p5 ⊢
    exact boolR_ok a4.st p5
theorem k_chainT (g : Good Z C X) {op op2 : COp} {o o2 : CmpOp} (ho : copB op o = true) (ho2 : copB op2 o2 = true) (hs : notSet z = true) (ha : PE X x (tE X.K (evE C a))) (hb : PE X y (tE X.K (evE C b))) (hc : PE X z (tE X.K (evE C c))) :
    PT X (.Compare x [o, o2] [y, z] pos) (tB X.K (evB C (.chain op op2 a b c))) := by
  have ho : opC op = o := of_decide_eq_true ho
  have ho2 : opC op2 = o2 := of_decide_eq_true ho2
  subst ho ho2
  refine PT.imp (pt_chain (op_cmpW g.line op) (op_cmpW g.line op2) ha hb hc (marks2 hs)) fun σ H Q ⟨e, M, μ, at_, p⟩ => ?_
  obtain ⟨e1, M1, μ1, a1, p1⟩ := goE at_ (show Post X.K (RId Bool) H μ ((evE C a e M).bind fun x M1 => (evE C b e M1).bind fun y M2 => withO (cmpW op x y M2) fun t => if t = true then (evE C c e M2).bind fun z M3 => withO (cmpW op2 y z M3) fun u => .ok u M3 else .ok false M2) Q from p)
  refine ⟨e1, M1, μ1, a1, p1.imp fun v H1 ⟨w, M2, μ2, s2, a2, r2, p2⟩ => ?_⟩
  obtain ⟨e3, M3, μ3, a3, p3⟩ := goE a2 p2
  refine ⟨e3, M3, μ3, a3, p3.imp fun u H2 ⟨w', M4, μ4, s4, a4, r4, p4⟩ => ?_⟩
  obtain ⟨t, h, p5⟩ := Post.withO p4
  refine ⟨w, w', M4, μ4, t, a4.st, r2.stp s4, r4, h, t, rfl, ?_⟩
  cases t with
  | true =>
    rw [if_pos rfl] at p5 ⊢
    obtain ⟨e6, M6, μ6, a6, p6⟩ := goE a4 p5
    refine ⟨e6, M6, μ6, a6, p6.imp fun u' H3 ⟨w3, M7, μ7, s7, a7, r7, p7⟩ => ?_⟩
    obtain ⟨t2, h2, p8⟩ := Post.withO p7
    exact ⟨w', w3, M7, μ7, t2, a7.st, r4.stp s7, r7, h2, _, rfl, p8.now a7.st rfl⟩
  | false =>
    rw [if_neg Bool.false_ne_true] at p5 ⊢
    exact ⟨_, rfl, p5.now a4.st rfl⟩
theorem k_and {rest : List Expr} (ha : PE X x (tE X.K (evE C a))) (hb : PE X (.BoolOp .And (y :: rest) pos) (tE X.K (evE C b))) : PE X (.BoolOp .And (x :: y :: rest) pos) (tE X.K (evE C (.andV a b))) := by
  refine PE.imp (pe_and ha hb) fun pins s σ H Q I ⟨e, M, μ, at_, p⟩ => ?_
  obtain ⟨e1, M1, μ1, a1, p1⟩ := goE at_ (show Post X.K (RV X.K) H μ ((evE C a e M).bind fun x M1 => match x with
    | .d (.bool t) => if t = true then evE C b e M1 else boolR false M1
    | _ => .stuck) Q from p)
  refine ⟨e1, M1, μ1, a1, p1.imp fun v H1 ⟨w, M2, μ2, s2, a2, r2, p2⟩ => ?_⟩
  split at p2
  · rename_i t
    cases r2
    refine ⟨t, rfl, ?_⟩
    cases t with
    | true =>
      rw [if_pos rfl] at p2 ⊢
      exact ⟨e, M2, μ2, a2, p2⟩
    | false =>
      rw [if_neg Bool.false_ne_true] at p2 ⊢
      exact boolR_ok a2.st p2
  · exact p2.elim
theorem k_or {rest : List Expr} (ha : PE X x (tE X.K (evE C a))) (hb : PE X (.BoolOp .Or (y :: rest) pos) (tE X.K (evE C b))) : PE X (.BoolOp .Or (x :: y :: rest) pos) (tE X.K (evE C (.orV a b))) := by
  refine PE.imp (pe_or ha hb) fun pins s σ H Q I ⟨e, M, μ, at_, p⟩ => ?_
  obtain ⟨e1, M1, μ1, a1, p1⟩ := goE at_ (show Post X.K (RV X.K) H μ ((evE C a e M).bind fun x M1 => match x with
    | .d (.bool t) => if t = true then boolR true M1 else evE C b e M1
    | _ => .stuck) Q from p)
  refine ⟨e1, M1, μ1, a1, p1.imp fun v H1 ⟨w, M2, μ2, s2, a2, r2, p2⟩ => ?_⟩
  split at p2
  · rename_i t
    cases r2
    refine ⟨t, rfl, ?_⟩
    cases t with
    | true =>
      rw [if_pos rfl] at p2 ⊢
      exact boolR_ok a2.st p2
    | false =>
      rw [if_neg Bool.false_ne_true] at p2 ⊢
      exact ⟨e, M2, μ2, a2, p2⟩
  · exact p2.elim
theorem k_not (ha : PE X x (tE X.K (evE C a))) : PE X (.UnaryOp .Not x pos) (tE X.K (evE C (.notV a))) := by
  refine PE.imp (pe_not ha) fun pins s σ H Q I ⟨e, M, μ, at_, p⟩ => ?_
  obtain ⟨e1, M1, μ1, a1, p1⟩ := goE at_ (show Post X.K (RV X.K) H μ ((evE C a e M).bind fun x M1 => match x with
    | .d (.bool t) => boolR (!t) M1
    | _ => .stuck) Q from p)
  refine ⟨e1, M1, μ1, a1, p1.imp fun v H1 ⟨w, M2, μ2, s2, a2, r2, p2⟩ => ?_⟩
  split at p2
  · rename_i t
    cases r2
    exact ⟨t, rfl, boolR_ok a2.st p2⟩
  · exact p2.elim
theorem k_ite {t : CB} (ht : PT X z (tB X.K (evB C t))) (ha : PE X x (tE X.K (evE C a))) (hb : PE X y (tE X.K (evE C b))) : PE X (.IfExp z x y pos) (tE X.K (evE C (.ite t a b))) := by
  refine PE.imp (pe_ifExp ht ha hb) fun pins s σ H Q I ⟨e, M, μ, at_, p⟩ => ?_
  obtain ⟨e1, M1, μ1, a1, p1⟩ := goB at_ (show Post X.K (RV X.K) H μ ((evB C t e M).bind fun t M1 => if t = true then evE C a e M1 else evE C b e M1) Q from p)
  refine ⟨e1, M1, μ1, a1, p1.imp fun k H1 ⟨M2, μ2, s2, a2, p2⟩ => ?_⟩
  cases k with
  | true =>
    rw [if_pos rfl] at p2 ⊢
    exact ⟨e, M2, μ2, a2, p2⟩
  | false =>
    rw [if_neg Bool.false_ne_true] at p2 ⊢
    exact ⟨e, M2, μ2, a2, p2⟩
theorem k_tup {k : _} (h : PA X es (tA X.K (evEs C cs))) : PE X (.Tuple es k pos) (tE X.K (evE C (.tup cs))) := by
  refine PE.imp (pe_tupO h) fun pins s σ H Q I ⟨e, M, μ, at_, p⟩ => ?_
  obtain ⟨e1, M1, μ1, a1, p1⟩ := goA at_ (show Post X.K (RV X.K) H μ ((evEs C cs e M).bind fun ws M1 => withO (frzs ws M1) fun p => lim p.1.length (.ok (.d (.tuple p.1)) p.2)) Q from p)
  refine ⟨e1, M1, μ1, a1, p1.imp fun vs H1 ⟨ws, M2, μ2, s2, a2, r2, p2⟩ => ?_⟩
  obtain ⟨q, h, p3⟩ := Post.withO p2
  obtain ⟨μ3, s3, S3, d3⟩ := frzs_ok a2.st r2 h
  obtain ⟨hl, p4⟩ := Post.lim (Post.weak s3 p3)
  exact ⟨by rw [← d3.length]; exact hl, Post.tup p4 S3 d3⟩
theorem k_lst {md : Md} (h : PA X es (tA X.K (evEs C cs))) : PE X (.List es pos) (tE X.K (evE C (.lst md cs))) := by
  refine PE.imp (pe_lst h) fun pins s σ H Q I ⟨e, M, μ, at_, p⟩ => ?_
  obtain ⟨e1, M1, μ1, a1, p1⟩ := goA at_ (show Post X.K (RV X.K) H μ ((evEs C cs e M).bind fun ws M1 => lstW md ws M1) Q from p)
  refine ⟨e1, M1, μ1, a1, p1.imp fun vs H1 ⟨ws, M2, μ2, s2, a2, r2, p2⟩ => ?_⟩
  by_cases hN : md = .N
  · subst hN
    obtain ⟨hns, p2⟩ := Post.must (show Post X.K (RV X.K) H1 μ2 (must (ws.all noS = true) (lim ws.length (.ok (.r M2.length) (M2 ++ [.wl ws])))) Q from p2)
    obtain ⟨hl, p4⟩ := Post.lim p2
    refine ⟨by rw [← r2.length]; exact hl, fun a ha => ?_⟩
    obtain ⟨s, S', w⟩ := stp_cell (c := .wl ws) (o := .lst vs) a2.st ha r2 (WRs.lw a2.st r2 (noS_noX hns))
    exact p4 _ _ _ s S' w
  have p2 : Post X.K (RV X.K) H1 μ2 (withO (frzs ws M2) fun p => lim p.1.length (mk md p.1 p.2)) Q := by
    cases md with
    | N => exact absurd rfl hN
    | F => exact p2
    | M => exact p2
  obtain ⟨q, h, p3⟩ := Post.withO p2
  obtain ⟨μ3, s3, S3, d3⟩ := frzs_ok a2.st r2 h
  obtain ⟨hl, p4⟩ := Post.lim (Post.weak s3 p3)
  exact ⟨by rw [← d3.length]; exact hl, Post.mk p4 S3 d3⟩
theorem k_sub (g : Good Z C X) (hs : notSl y = true) (ha : PE X x (tE X.K (evE C a))) (hb : PE X y (tE X.K (evE C b))) : PE X (.Subscript x y pos) (tE X.K (evE C (.sub a b))) := by
  refine PE.imp (pe_ix (ix_subW (by have := g.line; omega)) ha hb (notSl_ix hs)) fun pins s σ H Q I ⟨e, M, μ, at_, p⟩ => ?_
  obtain ⟨e1, M1, μ1, a1, p1⟩ := goE at_ (show Post X.K (RV X.K) H μ ((evE C a e M).bind fun x M1 => (evE C b e M1).bind fun y M2 => withO (subW x y M2) fun z => .ok z M2) Q from p)
  refine ⟨e1, M1, μ1, a1, p1.imp fun v H1 ⟨w, M2, μ2, s2, a2, r2, p2⟩ => ?_⟩
  obtain ⟨e3, M3, μ3, a3, p3⟩ := goE a2 p2
  refine ⟨e3, M3, μ3, a3, p3.imp fun u H2 ⟨w', M4, μ4, s4, a4, r4, p4⟩ => ?_⟩
  obtain ⟨z, h, p5⟩ := Post.withO p4
  exact ⟨w, w', M4, μ4, z, a4.st, r2.stp s4, r4, h, fun v hv => Post.now (RA := RV X.K) p5 a4.st hv⟩
theorem k_slc {md : Md} {lo hi : CO} {l h : Option Expr} {p2 : Pos} (ha : PE X x (tE X.K (evE C a))) (hl : PO X l (tO X.K (evO C lo))) (hh : PO X h (tO X.K (evO C hi))) : PE X (.Subscript x (.Slice l h none p2) pos) (tE X.K (evE C (.slc md a lo hi))) := by
  refine PE.imp (pe_slice (sl_slcW md) ha hl hh) fun pins s σ H Q I ⟨e, M, μ, at_, p⟩ => ?_
  obtain ⟨e1, M1, μ1, a1, p1⟩ := goE at_ (show Post X.K (RV X.K) H μ ((evE C a e M).bind fun x M1 => (evO C lo e M1).bind fun l M2 => (evO C hi e M2).bind fun h M3 => slcW md x l h M3) Q from p)
  refine ⟨e1, M1, μ1, a1, p1.imp fun v H1 ⟨w, M2, μ2, s2, a2, r2, p2⟩ => ?_⟩
  obtain ⟨e3, M3, μ3, a3, p3⟩ := goO a2 p2
  refine ⟨e3, M3, μ3, a3, p3.imp fun l' H2 ⟨M4, μ4, s4, a4, p4⟩ => ?_⟩
  obtain ⟨e5, M5, μ5, a5, p5⟩ := goO a4 p4
  exact ⟨e5, M5, μ5, a5, p5.imp fun h' H3 ⟨M6, μ6, s6, a6, p6⟩ => ⟨w, M6, μ6, a6.st, (r2.stp s4).stp s6, p6⟩⟩
theorem k_poN : PO X none (tO X.K (evO C .no)) := by
  refine PO.imp po_none fun σ H Q ⟨e, M, μ, at_, p⟩ => ?_
  exact Post.now (RA := RId (Option Int)) (M := M) p at_.st rfl
theorem k_poS (ha : PE X x (tE X.K (evE C a))) : PO X (some x) (tO X.K (evO C (.so a))) := by
  refine PO.imp (po_some ha) fun σ H Q ⟨e, M, μ, at_, p⟩ => ?_
  obtain ⟨e1, M1, μ1, a1, p1⟩ := goE at_ (show Post X.K (RId (Option Int)) H μ ((evE C a e M).bind fun x M1 => match x with
    | .d (.int i) => .ok (some i) M1
    | _ => .stuck) Q from p)
  refine ⟨e1, M1, μ1, a1, p1.imp fun v H1 ⟨w, M2, μ2, s2, a2, r2, p2⟩ => ?_⟩
  split at p2
  · cases r2
    exact ⟨_, rfl, p2.now a2.st rfl⟩
  · exact p2.elim
theorem k_paN : PA X [] (tA X.K (evEs C .nil)) := by
  refine PA.imp pa_nil fun σ H Q ⟨e, M, μ, at_, p⟩ => ?_
  exact Post.now (RA := RVs X.K) (M := M) p at_.st .nil
theorem k_paC (hs : notStar x = true) (ha : PE X x (tE X.K (evE C a))) (hr : PA X es (tA X.K (evEs C cs))) : PA X (x :: es) (tA X.K (evEs C (.cons a cs))) := by
  refine PA.imp (pa_cons ha hr (notStar_each hs _ _)) fun σ H Q ⟨e, M, μ, at_, p⟩ => ?_
  obtain ⟨e1, M1, μ1, a1, p1⟩ := goE at_ (show Post X.K (RVs X.K) H μ ((evE C a e M).bind fun w M1 => (evEs C cs e M1).bind fun ws M2 => .ok (w :: ws) M2) Q from p)
  refine ⟨e1, M1, μ1, a1, p1.imp fun v H1 ⟨w, M2, μ2, s2, a2, r2, p2⟩ => ?_⟩
  obtain ⟨e3, M3, μ3, a3, p3⟩ := goA a2 p2
  refine ⟨e3, M3, μ3, a3, p3.imp fun vs H2 ⟨ws, M4, μ4, s4, a4, r4, p4⟩ => ?_⟩
  exact Post.now (RA := RVs X.K) (M := M4) p4 a4.st (.cons (r2.stp s4) r4)
theorem k_call (g : Good Z C X) {f : Nat} {n : Str} {p : Pos} (h1 : Z.fn[f]? = some n) (h2 : glB X.env.scope n = true) (h3 : okN n = true) (h4 : es.isEmpty = true → cs = .nil) (hs : ∀ e ∈ es, notStar e = true) (ha : PA X es (tA X.K (evEs C cs)))
    (h5 : (bif Z.hot then (Z.hf.contains f && !es.isEmpty) else !isHot Z n) = true) : PE X (.Call (.Name n p) es [] pos) (tE X.K (evE C (.call f cs))) := by
  obtain ⟨k, f', fd, ps, hm, hk, hb, calm, hot, stk⟩ := (g.fns f n h1).ex
  have pass : Passes (L2N.CX X.prog X.w) X XE.E := L2N.passes_call g.tk fun _ _ _ _ h => h
  have fin : ∀ {σ : L2.St} {H : Hp} {Q : VK}, tE X.K (evE C (.call f cs)) σ H Q → tA X.K (evEs C cs) σ H fun vs H1 => spC X.K C f ps.length vs H1 Q XE.E := fun {σ H Q} ⟨e, M, μ, at_, p⟩ => by
    obtain ⟨e1, M1, μ1, a1, p1⟩ := goA at_ (show Post X.K (RV X.K) H μ ((evEs C cs e M).bind fun ws M1 => C.call f ws M1) Q from p)
    refine ⟨e1, M1, μ1, a1, p1.imp fun vs H1 ⟨ws, M2, μ2, s2, a2, r2, p2⟩ => ?_⟩
    by_cases hl : ws.length = ps.length
    · exact ⟨by rw [← r2.length]; exact hl, ws, M2, μ2, a2.st, r2, p2⟩
    · rw [stk ws M2 hl] at p2
      exact p2.elim
  cases hh : Z.hot with
  | false =>
    rw [hh, cond_false, Bool.not_eq_true'] at h5
    obtain ⟨hr, F⟩ := calm hh h5
    cases es with
    | nil =>
      have h4 := h4 rfl
      subst h4
      refine PE.imp (pe_call0 (E := XE.E) F hr (glB_ok h2) hm hk hb .nil pass (okN_ok h3).1) fun pins s σ H Q I ⟨e, M, μ, at_, p⟩ => ?_
      have p : Post X.K (RV X.K) H μ (C.call f [] M) Q := p
      by_cases hl : ([] : List W).length = ps.length
      · exact ⟨hl, [], M, μ, at_.st, .nil, p⟩
      · rw [stk [] M hl] at p
        exact p.elim
    | cons e es =>
      have hs2 : ∀ x ∈ es, notStar x = true := fun x hx => hs x (List.mem_cons_of_mem _ hx)
      refine PE.imp (pe_call (E := XE.E) F hr (glB_ok h2) hm hk hb .nil pass ha (okN_ok h3).1 (notStar_each (hs e List.mem_cons_self) _ _) (backTo_plain hs2)) fun pins s σ H Q I q => ?_
      obtain ⟨e1, M1, μ1, a1, p1⟩ := fin q
      exact ⟨e1, M1, μ1, a1, p1.imp fun vs H1 z => by rw [List.append_nil]; exact z⟩
  | true =>
    rw [hh] at h5
    rw [cond_true, Bool.and_eq_true, List.contains_iff_mem, Bool.not_eq_true'] at h5
    obtain ⟨hr, F⟩ := hot h5.1
    have F := F inferInstance
    cases es with
    | nil => exact absurd h5.2 (by simp)
    | cons e es =>
      have hs2 : ∀ x ∈ es, notStar x = true := fun x hx => hs x (List.mem_cons_of_mem _ hx)
      exact PE.imp (pe_callZ (E := XE.E) F hr (g.hotc hh) (glB_ok h2) hm hk hb pass ha (okN_ok h3).1 (notStar_each (hs e List.mem_cons_self) _ _) (backTo_plain hs2)) fun pins s σ H Q I q => fin q

end
end Ev
set_option Elab.async false
set_option linter.all false
set_option maxRecDepth 100000
/-! EvM: built-ins, methods, comprehensions, tests, loops' heads -/
namespace Ev
open PySem PySem.Spec PyProof.Rows L2
variable [XT] [XA] [XE]

/-! ### enumerate of a tuple -/
def IteT (K : PySem.W.Frag) (a : Addr) : It :=
  ⟨fun i H => ∃ (xs : List V) (x : V), SqT K H a xs ∧ xs[i]? = some x, fun i H v H' => ∃ T x o, o.cls = .type "tuple" ∧ o.dict = none ∧ v = .ref T ∧ H T = none ∧ H' = upd H T (tupO o [.int (i : Nat), x]) ∧ ∀ xs, SqT K H a xs → xs[i]? = some x, fun i H => ∃ xs : List V, SqT K H a xs ∧ xs.length ≤ i⟩
theorem IsTup.isTuple {h : Heap} {a : Addr} {its : Array Value} (p : IsTup h a its) : h.IsTuple a its := by
  obtain ⟨o, e, c, n, d⟩ := p
  exact ⟨o, e, c, n, d⟩
theorem pyNext_enum_endT {prog : Program} {w : World} {A : Around} {E : Value → Shared → Prop} {s : Shared} {e it a : Addr} {items : Array Value} {i : Nat} {old : Value} {Q : Option Value → Shared → Prop} (hh : A.handled = none)
    (he : IsEnum s.heap e it (i : Int) old) (hit : s.heap.IsTupleIter it a i) (ht : s.heap.IsTuple a items) (hx : items[i]? = none)
    (hQ : ∀ h', Heap.ExtBut it s.heap h' → Q none { s with heap := h' }) : wpAny (model prog w) A (pyNext (.ref e)) Q E s := by
  have hT : s.TypeIs (.ref e) "enumerate" := ⟨_, he, rfl⟩
  unfold pyNext
  refine wpAny_bind (wpAny_attempt (wpAny_callSpecial?_slot (name := Str.ofString "__next__") hT F.slot_enumerate_next
    (wpAny_call_entry F.slot_enumerate_next hT F.entry_enumerate_next ?_ (F.args_enumerate_next_1 _))))
  show wpAny _ _ (field (.ref e) 2 >>= _) _ _ _
  refine wpAny_bind (wpAny_field he rfl (x := .ref it) rfl ?_)
  refine wpAny_bind (wpAny_nextOf_tuple_end hh hit ht hx fun h' x he' hx' => ?_)
  obtain ⟨o, ho, hc⟩ := hx'
  refine wpAny_bind (wpAny_isInstance (T := "StopIteration") (b := true) ⟨o, ho, hc⟩ isSubtype_stop ?_)
  exact wpAny_pure (hQ _ he')
theorem turn_enumT {P : Program} {w : World} {K : PySem.W.Frag} {elts : List Expr} {kk : Nat} {tpos : Pos} (a e it : Addr) :
    Turn P w K (.Tuple elts kk tpos) (IteT K a) [e, it] e (fun i h => (∃ old, IsEnum h e it ((i : Nat) : Int) old) ∧ h.IsTupleIter it a i ∧ e ≠ it ∧ e ≠ a ∧ a ≠ it) where
  mem := by simp
  obj := fun i h st b hb => by
    obtain ⟨⟨old, he⟩, ⟨o, ho, hc, hd⟩, _⟩ := st
    have e' : b = e ∨ b = it := by simpa using hb
    rcases e' with z | z
    · rw [z]; exact ⟨_, he, fun v q => nomatch q⟩
    · rw [z]; exact ⟨o, ho, fun v q => by rw [hd] at q; cases q⟩
  keep := fun i h h' st k => let ⟨⟨old, he⟩, hi, hne⟩ := st; ⟨⟨old, k e (by simp) _ he⟩, hi.at fun o q => k it (by simp) o q, hne⟩
  item := by
    intro X hP hw hK hc i pins s σ H E I hf st hg
    subst hP hw hK
    obtain ⟨⟨old, he⟩, hit, hne, hea, hai⟩ := st
    obtain ⟨xs, x, hq, hx⟩ := hg
    obtain ⟨its, rv, p, hz⟩ := I.tuple hq
    obtain ⟨u, hu, ru⟩ := rv.get hx
    have hel : e < s.heap.objs.size := Heap.lt_size he
    have hil : it < s.heap.objs.size := by obtain ⟨_, q, _⟩ := hit; exact Heap.lt_size q
    have hlt : i < its.toArray.size := by
      have := (List.getElem?_eq_some_iff.mp hu).1
      simpa using this
    refine wpAny_pyNext_enum_itemD (Draws.tuple (A := X.A.in1) (I.ok.hd hc) it a hai its.toArray) he ⟨hit, IsTup.isTuple p⟩ hlt hne (by simp [hne, hea]) fun u' h' tk hu' ho hit' hT hsz hk => ?_
    have hu2 : u' = u := by
      have q : its.toArray[i]? = some u' := hu'
      rw [List.getElem?_toArray, hu] at q
      cases q; rfl
    subst hu2
    refine ⟨_, rfl, wpAny_letOwnedTupleGo_enum (s := { s with heap := h', toks := tk + 1 }) ho fun h'' he' sb => ?_⟩
    have hT2 : h''.get? s.heap.objs.size = some { cls := .type "tuple", data := .seq #[.int i tk, u'] } := (sb.2 _ (Nat.ne_of_gt hel)).trans hT
    have new : ObjOk X.prog X.w (upd H s.heap.objs.size (tupO (newT [.int i tk, u']) [.int (i : Nat), x])) h'' s.heap.objs.size (tupO (newT [.int i tk, u']) [.int (i : Nat), x]) :=
      obj_tupO (its := [.int i tk, u']) (by show 2 ≤ sizeLine; decide) (.cons ⟨_, rfl⟩ (.cons ru .nil)) hT2 rfl rfl
    have I1 : Inv X pins σ (upd H s.heap.objs.size (tupO (newT [.int i tk, u']) [.int (i : Nat), x])) { s with heap := h'', toks := tk + 1 } :=
      I.turnedNew (ch := [e, it]) (fun b ob hb q => (sb.2 b (fun z => hb (by simp [z]))).trans (hk b ob (fun z => hb (by simp [z])) (fun z => hb (by simp [z])) q)) hf (Nat.le_refl _) new
    refine ⟨.ref s.heap.objs.size, _, I1, rfl, ⟨_, x, newT [.int i tk, u'], rfl, rfl, rfl, I.hok.fresh (Nat.le_refl _), rfl, fun ys hy => by rw [I.tuple_inj hy hq]; exact hx⟩, ⟨⟨u', ?_⟩, hit'.1.at fun o q => (sb.2 it (Ne.symm hne)).trans q, hne, hea, hai⟩, fun b hb => ?_⟩
    · have e1 : ((i + 1 : Nat) : Int) = (i : Int) + 1 := by omega
      rw [e1]; exact he'
    · have hb' : b < s.heap.objs.size := by
        have e' : b = e ∨ b = it := by simpa using hb
        rcases e' with z | z
        · rw [z]; exact hel
        · rw [z]; exact hil
      rw [upd_ne (Nat.ne_of_lt hb')]
      exact (hf b hb).1
  done := by
    intro X hP hw hK hc i pins s σ H E I hf st hg
    subst hP hw hK
    obtain ⟨⟨old, he⟩, hit, hne, hea, hai⟩ := st
    obtain ⟨xs, hq, hx⟩ := hg
    obtain ⟨its, rv, p, hz⟩ := I.tuple hq
    obtain ⟨f0, f1, f2, f3, f4, f5⟩ := hf it (by simp)
    have hl := rv.length
    have hi : its.toArray[i]? = none := by
      rw [List.getElem?_toArray]
      exact List.getElem?_eq_none (by omega)
    exact pyNext_enum_endT (I.ok.hd hc) he hit (IsTup.isTuple p) hi fun h' eb => ⟨rfl, I.turned (t' := s.toks) (fun b o hb q => eb b o hb q) f0 f1 f3 f4 f5⟩
  self := fun A i s Q E st h => let ⟨⟨_, he⟩, _⟩ := st; wpAny_pyIter_enum he h
set_option maxHeartbeats 1000000 in
theorem meets_enumerate_newT {v : Value} {o : Obj} {H : Heap → Prop} (B : Begins v o H) :
    Meets (Builtin.«enumerate.__new__» ⟨[.type "enumerate", v], []⟩) (fun _ R s => H s.heap ∧
      R (.ok (.ret (.ref (s.heap.push o).objs.size))) { s with heap := (s.heap.push o).push { cls := .type "enumerate", data := .fields #[.none, .bool false, .ref s.heap.objs.size, rawInt 0, .none, .none] } }) :=
  .of_wp fun prog w A R s h => by
    obtain ⟨hp, g, d, tk, os⟩ := s; obtain ⟨h1, h⟩ := h
    have hsub := sub_enumerate
    have q1 : ∀ {A' : Around} {E : Value → Shared → Prop} {Q : Value → Shared → Prop}, Q (.ref hp.objs.size) ⟨hp.push o, g, d, tk, os⟩ → wpAny (model prog w) A' (pyIter v) Q E ⟨hp, g, d, tk, os⟩ :=
      fun q => B.iter prog w _ _ ⟨hp, g, d, tk, os⟩ _ h1 q
    wp_walk using q1
    refine wpAny_stack_any fun st => wpAny_pure ?_
    split
    · rename_i c _ _ _ _ _
      cases (c == Value.type "enumerate")
      · wp_walk using q1
        exact ⟨_, rfl, h⟩
      · wp_walk using q1
        exact ⟨_, rfl, h⟩
    · wp_walk using q1
      exact ⟨_, rfl, h⟩
theorem call_enumerate_tuple {prog : Program} {w : World} {A : Around} {E : Value → Shared → Prop} {s : Shared} {l : Addr} {items : Array Value} {Q : Value → Shared → Prop} (hL : s.heap.IsTuple l items)
    (h : ∀ h', IsEnum h' (s.heap.objs.size + 1) s.heap.objs.size 0 .none → h'.IsTupleIter s.heap.objs.size l 0 → h'.objs.size = s.heap.objs.size + 2 →
      (∀ b o, s.heap.get? b = some o → h'.get? b = some o) → Q (.ref (s.heap.objs.size + 1)) { s with heap := h' }) :
    wpAny (model prog w) A (call (.type "enumerate") [.ref l]) Q E s := by
  refine callType_new F.called_enumerate (by decide) (F.typeCall_enumerate_1 _) (F.newCall_enumerate_1 _) (fun obj => F.args_object_init_2 obj _) F.entry_enumerate_new
    (meets_enumerate_newT (begins_tuple l items)) ⟨hL, ?_⟩
  have hz : (s.heap.push { cls := .type "tuple_iterator", data := .fields #[.ref l, .int 0 0] }).objs.size = s.heap.objs.size + 1 := Heap.size_push ..
  show _ ∧ _
  rw [hz]
  have he : IsEnum ((s.heap.push { cls := .type "tuple_iterator", data := .fields #[.ref l, .int 0 0] }).push
      { cls := .type "enumerate", data := .fields #[.none, .bool false, .ref s.heap.objs.size, rawInt 0, .none, .none] }) (s.heap.objs.size + 1) s.heap.objs.size 0 .none := by
    have := Heap.get?_push_size (s.heap.push { cls := .type "tuple_iterator", data := .fields #[.ref l, .int 0 0] })
      (o := { cls := .type "enumerate", data := .fields #[.none, .bool false, .ref s.heap.objs.size, rawInt 0, .none, .none] }) rfl
    rw [hz] at this; exact this
  refine ⟨⟨_, he, rfl⟩, h _ he ⟨_, Heap.get?_push_of_some _ (Heap.get?_push_size _ rfl), rfl, rfl⟩ (by rw [Heap.size_push, hz]) fun b o x => Heap.get?_push_of_some _ (Heap.get?_push_of_some _ x)⟩
def iEnumB (K : PySem.W.Frag) (ta : TA) : TI := fun σ H R => ta σ H fun vs H1 => ∃ a xs, vs = [.ref a] ∧ ((SqL K H1 a xs ∧ R (Ite K a) H1) ∨ (SqT K H1 a xs ∧ R (IteT K a) H1))
theorem pi_enumB {X : Cx} {e : Expr} {ta : TA} {p pos tpos : Pos} {elts : List Expr} {kk : Nat} (hg : Gl X "enumerate") (hm : X.mg "enumerate" = none) (ha : PA X [e] ta) (hs : starEach [e] X.env = [(false, eval e X.env)] := by rfl) :
    PI X (.Tuple elts kk tpos) (.Call (.Name "enumerate" p) [e] [] pos) (iEnumB X.K ta) := by
  refine ⟨fun pins s σ H R I h => ?_⟩
  refine Call_ (ld_blt I hg hm boot_enumerate (PyProof.Rows.callWith_type1 (thn (ha.run pos pins s σ H _ I h) fun us s1 ⟨vs, H1, I1, r1, q1⟩ => ?_) hs rfl))
  obtain ⟨a, xs, ex, q1⟩ := q1
  subst ex
  cases r1 with
  | cons r rr =>
    cases rr
    cases r
    have fresh2 : ∀ b, b ∈ [s1.heap.objs.size + 1, s1.heap.objs.size] → FpOk X pins H1 b := fun b hb => by
      have e' : b = s1.heap.objs.size + 1 ∨ b = s1.heap.objs.size := by simpa using hb
      have hle : s1.heap.objs.size ≤ b := by
        rcases e' with z | z
        · rw [z]; exact Nat.le_add_right _ _
        · rw [z]; exact Nat.le_refl _
      exact I1.fpOk hle (I1.hok.fresh hle)
    rcases q1 with ⟨hq, q⟩ | ⟨hq, q⟩
    · obtain ⟨its, rv, p', hz⟩ := I1.list hq
      refine call_enumerate_list p'.isList fun h' he hit hsz hk => wpAny_pyIter_enum he ?_
      have I2 : Inv X pins σ H1 { s1 with heap := h' } := I1.kept (t' := s1.toks) hk
      exact ⟨s1.heap.objs.size + 1, [s1.heap.objs.size + 1, s1.heap.objs.size], _, _, H1, rfl, I2, turn_enum a (s1.heap.objs.size + 1) s1.heap.objs.size, ⟨⟨.none, he⟩, hit, Nat.succ_ne_self _⟩, fresh2, q⟩
    · obtain ⟨its, rv, p', hz⟩ := I1.tuple hq
      have hal : a < s1.heap.objs.size := by
        obtain ⟨o, e, _⟩ := p'
        exact Heap.lt_size e
      refine call_enumerate_tuple (IsTup.isTuple p') fun h' he hit hsz hk => wpAny_pyIter_enum he ?_
      have I2 : Inv X pins σ H1 { s1 with heap := h' } := I1.kept (t' := s1.toks) hk
      exact ⟨s1.heap.objs.size + 1, [s1.heap.objs.size + 1, s1.heap.objs.size], _, _, H1, rfl, I2, turn_enumT a (s1.heap.objs.size + 1) s1.heap.objs.size, ⟨⟨.none, he⟩, hit, Nat.succ_ne_self _, Nat.ne_of_gt (Nat.lt_succ_of_lt hal), Nat.ne_of_lt hal⟩, fresh2, q⟩
theorem turn_enumTT {K : PySem.W.Frag} {H : Hp} {μ : Mu} {M : Store} {a : Addr} {vs : List V} {xs : List D} {i : Nat} (S : StR K H μ M) (q : SqT K H a vs) (r : DRs K H μ xs vs) : Turn1 K (IteT K a) (enumD xs 0) i H μ M := by
  refine ⟨fun x hx => ?_, fun hx => ?_⟩
  · rw [enumD_get] at hx
    obtain ⟨y, hy, rfl⟩ := Option.map_eq_some_iff.mp hx
    obtain ⟨v, h1, h2⟩ := r.get hy
    refine ⟨⟨vs, v, q, h1⟩, fun u H2 yl => ?_⟩
    obtain ⟨T, z, o, oc, od, rfl, hT, rfl, hz⟩ := yl
    have e := hz vs q
    rw [h1] at e; cases e
    rw [Nat.zero_add]
    obtain ⟨s, S'⟩ := stp_new (o := tupO o [.int (i : Nat), v]) S hT
    exact ⟨s, S', .tup (S.free hT) ⟨o, oc, od, upd_same⟩ (DRs.stp s (.cons (.int _) (.cons h2 .nil)))⟩
  · rw [enumD_get] at hx
    have hl := List.getElem?_eq_none_iff.mp (Option.map_eq_none_iff.mp hx)
    exact ⟨vs, q, by rw [← r.length]; omega⟩
end Ev
set_option Elab.async false
set_option linter.all false
set_option maxRecDepth 100000
/-! EvMa: list.remove, count of deep values -/
namespace PySem.SeqAt
open AutoSeq1 (wpAny_loadPart')
open MeetsSeq MeetsSeq2 MeetsSeq3 SeqRoads2
theorem remove_loopAt (l : Addr) (items : Array Value) (n : Nat) (x : Value) (e : Value → Bool) (j : Nat) (hj : j < items.size) (hit : e items[j] = true) (k : Nat) (hs1 : items.size ≤ sizeLine) :
    ∀ i : Nat, j - i = k → i ≤ j → (∀ m (hm : m < items.size), i ≤ m → m < j → e items[m] = false) → Meets (Builtin.«list.remove.loop» ⟨[.ref l, x, rawInt i], []⟩)
      (fun A R s => s.heap.get? l = some { cls := .type "list", dict := none, data := .seq items n, slots := #[] } ∧ (∀ y, y ∈ items → EqAt A.in1 s y x (e y)) ∧ R (.ok (.ret .none)) { s with heap := s.heap.update l (Obj.mapSeq fun xs => xs.eraseIdxIfInBounds j) }) := by
  induction k with
  | zero =>
    intro i hk hij hno prog w A R s h
    obtain ⟨hp, g, d, tk, os⟩ := s; obtain ⟨hl, he, h⟩ := h
    have hij' : i = j := by omega
    subst hij'
    wp_walk using wpAny_loadPart' hl
    have hi : items[((i : Nat) : Int).toNat]? = some items[i] := by simp [hj]
    rw [hi]
    refine wpAny_bind (he _ (Array.getElem_mem hj) prog w _ _ ?_)
    rw [hit]
    have hz' : (items.eraseIdxIfInBounds i).size ≤ sizeLine + 1 := Nat.le_trans (size_erased items _) (Nat.le_succ_of_le hs1)
    wp_walk using (wpAny_updateSeq hl rfl (hz := hs1) (_hz' := hz')), wpAny_loadPart' hl
    simpa using h
  | succ k ih =>
    intro i hk hij hno prog w A R s h
    obtain ⟨hp, g, d, tk, os⟩ := s; obtain ⟨hl, he, h⟩ := h
    have hlt : i < items.size := by omega
    wp_walk using wpAny_loadPart' hl
    have hi : items[((i : Nat) : Int).toNat]? = some items[i] := by simp [hlt]
    have hc : ((i : Int) + 1) = ((i + 1 : Nat) : Int) := by push_cast; rfl
    rw [hi]
    refine wpAny_bind (he _ (Array.getElem_mem hlt) prog w _ _ ?_)
    rw [hno i hlt (Nat.le_refl _) (by omega)]
    wp_walk
    rw [hc]
    exact ⟨plainId_quiet plain_remove_loop _, codeAny_builtin entry_remove_loop (by
      rw [Around.under_plainId plain_remove_loop _]
      exact ih (i + 1) (by omega) (by omega) (fun m hm h1 h2 => hno m hm (by omega) h2) prog w A R _ ⟨hl, he, h⟩)⟩
theorem list_removeAt (l : Addr) (items : Array Value) (n : Nat) (x : Value) (e : Value → Bool) (j : Nat) (hj : j < items.size)
    (hit : e items[j] = true) (hno : ∀ m (hm : m < items.size), m < j → e items[m] = false) (hs1 : items.size ≤ sizeLine) :
    Meets (Builtin.«list.remove» ⟨[.ref l, x], []⟩)
      (fun A R s => s.heap.get? l = some { cls := .type "list", dict := none, data := .seq items n, slots := #[] } ∧ (∀ y, y ∈ items → EqAt A.in1 s y x (e y)) ∧ R (.ok (.ret .none)) { s with heap := s.heap.update l (Obj.mapSeq fun xs => xs.eraseIdxIfInBounds j) }) := by
  intro prog w A R s h
  obtain ⟨hp, g, d, tk, os⟩ := s; obtain ⟨hl, he, h⟩ := h
  wp_walk using wpAny_loadPart' hl
  exact ⟨plainId_quiet plain_remove_loop _, codeAny_builtin entry_remove_loop (by
    rw [Around.under_plainId plain_remove_loop _]
    exact remove_loopAt l items n x e j hj hit _ hs1 0 rfl (Nat.zero_le _) (fun m hm _ h2 => hno m hm h2) prog w A R _ ⟨hl, he, h⟩)⟩
end PySem.SeqAt
namespace Ev
open PySem PySem.Spec PyProof.Rows L2
variable [XT] [XA] [XE]
section
variable {X : Cx}
/-- l.remove(x): the first equal one goes -/
def rRemD (K : PySem.W.Frag) : V → List V → Hp → VK → Prop := fun x xs H Q => ∃ (a : Addr) (y : V) (d : PyData) (ds : List PyData) (vs : List V) (j : Nat) (z : PyData), x = V.ref a ∧ xs = [y] ∧ H a = some (.lst vs) ∧ DpAll K H vs ds ∧ Dp K H y d ∧
  SeqAt.shaped (.list ds) = true ∧ SeqAt.shaped d = true ∧ ds[j]? = some z ∧ PyData.eqv z d = true ∧ (∀ (m : Nat) (z' : PyData), m < j → ds[m]? = some z' → PyData.eqv z' d = false) ∧ Q .non (upd H a (.lst (vs.eraseIdx j)))
theorem mt_removeD (hu : X.A.units + 65 < cLine) : MtM X "list.remove" (rRemD X.K) := by
  intro pins s σ H x xs v us Q I rx rxs h
  obtain ⟨a, y, d, ds, vs, j, z, rfl, rfl, hH, ha, hy, sl, sd, hz, hzj, hno, q⟩ := h
  cases rx
  obtain ⟨uy, rfl, ry⟩ := rxs.one
  obtain ⟨bs, r1⟩ := Dp.reads I d y uy hy ry
  have hxs : PyData.canLayAll0 ds = true := SeqAt.canLay_of_shaped sl
  have hroom : X.A.units + 1 + min (PyData.depthAll ds) d.depth < cLine := room_in_shaped sd hu
  obtain ⟨hlz, its, n, rv, hlen, ho⟩ := I.lstM hH
  obtain ⟨as, h4⟩ := Dp.readsAll I ds _ its ha rv
  have hn : its.length = ds.length := SeqAt.ReadsAll.length ds its as h4
  have hmap : its.map (SeqAt.readOf s.heap) = ds := SeqAt.readsAll_map ds its as hxs h4
  have hvl := rv.length
  have hsl := sizeLine_eq
  obtain ⟨hjd, _⟩ := List.getElem?_eq_some_iff.mp hz
  have hjl : j < its.length := by omega
  have hj : j < its.toArray.size := by simpa using hjl
  have at_ : ∀ (m : Nat) (hm : m < its.toArray.size) (z' : PyData), ds[m]? = some z' → SeqAt.readOf s.heap its.toArray[m] = z' := by
    intro m hm z' hz'
    have hml : m < its.length := by simpa using hm
    rw [← hmap, List.getElem?_map, List.getElem?_eq_getElem hml] at hz'
    have e1 : SeqAt.readOf s.heap its[m] = z' := Option.some.inj (show some (SeqAt.readOf s.heap its[m]) = some z' from hz')
    simpa using e1
  refine call_meets PySem.F.slot_list_remove ⟨_, ho, rfl⟩ PySem.F.entry_list_remove (PySem.F.args_list_remove_2 _ _)
    (SeqAt.list_removeAt a its.toArray n uy (fun u => PyData.eqv (SeqAt.readOf s.heap u) d) j hj ?_ ?_ (by rw [List.size_toArray]; omega)) ⟨ho, SeqAt.items_eqAt (vs := its.toArray) (show ReadsAll s.heap its.toArray.toList ds as from h4) r1 hxs (SeqAt.canLay_of_shaped sd) hroom, ?_⟩
  · show PyData.eqv (SeqAt.readOf s.heap its.toArray[j]) d = true
    rw [at_ j hj z hz]
    exact hzj
  · intro m hm hmj
    have hmd : m < ds.length := by omega
    have hz' : ds[m]? = some ds[m] := List.getElem?_eq_getElem hmd
    show PyData.eqv (SeqAt.readOf s.heap its.toArray[m]) d = false
    rw [at_ m hm _ hz']
    exact hno m _ hmj hz'
  · refine ⟨.non, _, I.lset (its' := its.eraseIdx j) (t' := s.toks) hH ho ?_ (rv.eraseIdx j) ?_, rfl, q⟩
    · show its.toArray.eraseIdxIfInBounds j = (its.eraseIdx j).toArray
      rw [List.eraseIdxIfInBounds_toArray]
    · have z2 : (vs.eraseIdx j).length ≤ vs.length := List.length_eraseIdx_le ..
      omega
/-- t.count(x), l.count(x) -/
def rCntD (K : PySem.W.Frag) : V → List V → Hp → VK → Prop := fun x xs H Q => ∃ (a : Addr) (y : V) (d : PyData) (ds : List PyData), x = V.ref a ∧ xs = [y] ∧ Dp K H (V.ref a) (.list ds) ∧ Dp K H y d ∧
  SeqAt.shaped (.list ds) = true ∧ SeqAt.shaped d = true ∧ Q (.int ((ds.countP fun z => PyData.eqv z d : Nat) : Int)) H
def rCntT (K : PySem.W.Frag) : V → List V → Hp → VK → Prop := fun x xs H Q => ∃ (a : Addr) (y : V) (d : PyData) (ds : List PyData), x = V.ref a ∧ xs = [y] ∧ Dp K H (V.ref a) (.tuple ds) ∧ Dp K H y d ∧
  SeqAt.shaped (.list ds) = true ∧ SeqAt.shaped d = true ∧ Q (.int ((ds.countP fun z => PyData.eqv z d : Nat) : Int)) H
theorem countP_map' {α β : Type} (f : α → β) (p : β → Bool) : ∀ l : List α, (l.map f).countP p = l.countP fun a => p (f a)
  | [] => rfl
  | a :: r => by rw [List.map_cons, List.countP_cons, List.countP_cons, countP_map' f p r]
theorem mt_tcountD (hu : X.A.units + 65 < cLine) : MtR X "tuple.count" (rCntT X.K) := by
  intro pins s σ H x xs v us Q I rx rxs h
  obtain ⟨a, y, d, ds, rfl, rfl, hl, hy, sl, sd, q⟩ := h
  cases rx
  obtain ⟨uy, rfl, ry⟩ := rxs.one
  obtain ⟨bs, r1⟩ := Dp.reads I d y uy hy ry
  have hxs : PyData.canLayAll0 ds = true := SeqAt.canLay_of_shaped sl
  have hroom : X.A.units + 1 + min (PyData.depthAll ds) d.depth < cLine := room_in_shaped sd hu
  cases hl with
  | tup hs ha =>
    obtain ⟨its, rv, pt, hlen⟩ := I.tuple hs
    obtain ⟨⟨cls, dd, data, sls⟩, ho, hc, n, hdt⟩ := (show s.heap.IsTuple a its.toArray from pt)
    simp only at hc hdt
    subst hc hdt
    obtain ⟨as, h4⟩ := Dp.readsAll I ds _ its ha rv
    have hmap : its.map (SeqAt.readOf s.heap) = ds := SeqAt.readsAll_map ds its as hxs h4
    refine call_meets PySem.F.slot_tuple_count ⟨_, ho, rfl⟩ PySem.F.entry_tuple_count (PySem.F.args_tuple_count_2 _ _)
      (SeqAt.tuple_countAt a its.toArray n dd sls uy (fun u => PyData.eqv (SeqAt.readOf s.heap u) d)) ⟨ho, SeqAt.items_eqAt (vs := its.toArray) (show ReadsAll s.heap its.toArray.toList ds as from h4) r1 hxs (SeqAt.canLay_of_shaped sd) hroom, ?_⟩
    refine ⟨.int ((ds.countP fun z => PyData.eqv z d : Nat) : Int), H, I.tok _, ⟨s.toks, ?_⟩, q⟩
    rw [← hmap, countP_map']
theorem mt_countD (hu : X.A.units + 65 < cLine) : MtR X "list.count" (rCntD X.K) := by
  intro pins s σ H x xs v us Q I rx rxs h
  obtain ⟨a, y, d, ds, rfl, rfl, hl, hy, sl, sd, q⟩ := h
  cases rx
  obtain ⟨uy, rfl, ry⟩ := rxs.one
  obtain ⟨bs, r1⟩ := Dp.reads I d y uy hy ry
  have hxs : PyData.canLayAll0 ds = true := SeqAt.canLay_of_shaped sl
  have hroom : X.A.units + 1 + min (PyData.depthAll ds) d.depth < cLine := room_in_shaped sd hu
  cases hl with
  | lst hs ha =>
    obtain ⟨its, rv, ⟨⟨cls, dd, data, sls⟩, n, ho, hc, hdn, hdt⟩, hlen⟩ := I.list hs
    simp only at hc hdt
    subst hc hdt
    obtain ⟨as, h4⟩ := Dp.readsAll I ds _ its ha rv
    have hmap : its.map (SeqAt.readOf s.heap) = ds := SeqAt.readsAll_map ds its as hxs h4
    refine call_meets PySem.F.slot_list_count ⟨_, ho, rfl⟩ PySem.F.entry_list_count (PySem.F.args_list_count_2 _ _)
      (SeqAt.list_countAt a its.toArray n dd sls uy (fun u => PyData.eqv (SeqAt.readOf s.heap u) d)) ⟨ho, SeqAt.items_eqAt (vs := its.toArray) (show ReadsAll s.heap its.toArray.toList ds as from h4) r1 hxs (SeqAt.canLay_of_shaped sd) hroom, ?_⟩
    refine ⟨.int ((ds.countP fun z => PyData.eqv z d : Nat) : Int), H, I.tok _, ⟨s.toks, ?_⟩, q⟩
    rw [← hmap, countP_map']
end
end Ev
set_option Elab.async false
set_option linter.all false
set_option maxRecDepth 100000
/-! EvT: how many different tuples of keys (ints, texts) a list has: len(set(xs)) -/
namespace Ev
open PySem PySem.Spec PyProof.Rows L2
/-- a tuple of keys in the heap -/
abbrev TkAt (P : Program) (w : World) (h : Heap) (k : List L2.Key) (b : Addr) : Prop := IsTupleKey (mixKind P w) h k b
abbrev tkH (P : Program) (w : World) (k : List L2.Key) : Int := tupleKeyHash (mixKind P w) k
/-- a place on the way of a search -/
abbrev wayP (m : Nat) (n : Int) (c : Nat) : SetTable.Probe := nth m (runAt m (SetTable.bits n % (m + 1)) (SetTable.bits n)) c
theorem wayP_more (m : Nat) (n : Int) (c q : Nat) : nth m (wayP m n c) q = wayP m n (c + q) := (nth_add m c _ q).symm
theorem nth_dummy (m : Nat) : ∀ (c : Nat) (p : SetTable.Probe), p.dummy = none → (nth m p c).dummy = none
  | 0, _, e => e
  | c + 1, p, e => nth_dummy m c (adv m p) (by unfold adv; split <;> exact e)
theorem same_table (t : SetTable) : t.sameMemory t.moves t.mask = some true := if_pos (beq_self_eq_true _)
theorem perm_picked {α : Type} (l : List α) (o : List Nat) (h : o.Perm (List.range l.length)) : (o.filterMap fun i => l[i]?).Perm l := by
  have e : (List.range l.length).filterMap (fun i => l[i]?) = l := by
    have g : ∀ n, n ≤ l.length → (List.range n).filterMap (fun i => l[i]?) = l.take n := fun n => by
      induction n with
      | zero => exact fun _ => rfl
      | succ n ih =>
        intro hn
        have hx : l[n]? = some l[n] := List.getElem?_eq_getElem hn
        rw [List.range_succ, List.filterMap_append, ih (Nat.le_of_succ_le hn), List.take_succ, hx]
        rw [List.filterMap_cons_some hx]; rfl
    rw [g _ (Nat.le_refl _), List.take_length]
  have z := h.filterMap fun i => l[i]?
  rwa [e] at z
theorem put_in {α : Type} (l : List α) (n : Nat) (x : α) : (l.take n ++ x :: l.drop n).Perm (x :: l) := by
  have q : (l.take n ++ x :: l.drop n).Perm (x :: (l.take n ++ l.drop n)) := List.perm_middle
  rwa [List.take_append_drop] at q
section
variable {P : Program} {w : World} {A : Around} {E : Value → Shared → Prop} {s : Shared}
/-- the items of such a tuple -/
theorem keyItems {k : List L2.Key} {vs : List Value} (h : ItemsAre (mixKind P w) k vs) : ∀ v ∈ vs, (∃ i t, v = Value.int i t) ∨ ∃ x t, v = Value.str x t := by
  induction h with
  | nil => exact fun _ z => nomatch z
  | cons q _ ih =>
    rintro v (_ | ⟨_, hv⟩)
    · rcases keyIs_shape q with ⟨i, t, _, e⟩ | ⟨x, t, _, e⟩
      · exact .inl ⟨i, t, e⟩
      · exact .inr ⟨x, t, e⟩
    · exact ih v hv
theorem noStatement {v : Value} (h : (∃ i t, v = Value.int i t) ∨ ∃ x t, v = Value.str x t) (n : Nat) : ofAClassStatement n v = pure false := by
  rcases h with ⟨i, t, rfl⟩ | ⟨x, t, rfl⟩ <;> cases n <;> rfl
theorem byVal_key {v : Value} (h : (∃ i t, v = Value.int i t) ∨ ∃ x t, v = Value.str x t) (n : Nat) : ∃ b, hashByValue n v = pure b := by
  rcases h with ⟨i, t, rfl⟩ | ⟨x, t, rfl⟩
  · exact ⟨true, by cases n <;> rfl⟩
  · exact ⟨false, by cases n <;> rfl⟩
theorem noStatement_tk {k : List L2.Key} {b : Addr} {Q : Bool → Shared → Prop} (hb : TkAt P w s.heap k b) (q : Q false s) : wpAny (model P w) A (ofAClassStatement 8 (.ref b)) Q E s := by
  have ty := hb.typeIs
  obtain ⟨ob, its, m, e1, _, e2, e3⟩ := hb
  unfold ofAClassStatement
  refine wpAny_bind (wpAny_typeOf ty ?_)
  have e : (("tuple" : String) == "tuple") = true := by decide
  dsimp only
  simp only [e, if_true, Bool.not_true, Bool.false_eq_true, if_false]
  try (refine wpAny_bind (wpAny_pure ?_); simp only [Bool.not_true, Bool.false_eq_true, if_false])
  show wpAny _ _ (seqItems? (.ref b) >>= _) _ _ s
  refine wpAny_bind (wpAny_seqItems e1 e2 ?_)
  dsimp only
  refine wpAny_bind ?_
  show wpAny _ _ (forIn its _ _) _ _ s
  rw [← Array.forIn_toList]
  refine wpAny_forIn_list _ (fun l r s2 => r.1 = none ∧ s2 = s ∧ ∀ v ∈ l, (∃ i t, v = Value.int i t) ∨ ∃ x t, v = Value.str x t) _ ?_ ?_ _ _ ⟨rfl, rfl, keyItems e3⟩
  · rintro v l r s2 ⟨_, rfl, all⟩
    rw [noStatement (all v List.mem_cons_self)]
    refine wpAny_bind (wpAny_pure ?_)
    simp only [Bool.false_eq_true, if_false]
    exact wpAny_pure ⟨rfl, rfl, fun u hu => all u (List.mem_cons_of_mem _ hu)⟩
  · rintro ⟨r1, _⟩ s2 ⟨e, rfl, _⟩
    dsimp only at e
    subst e
    exact wpAny_pure q
theorem byVal_tk {k : List L2.Key} {b : Addr} {Q : Bool → Shared → Prop} (hb : TkAt P w s.heap k b) (q : ∀ z, Q z s) : wpAny (model P w) A (hashByValue 8 (.ref b)) Q E s := by
  have ty := hb.typeIs
  obtain ⟨ob, its, m, e1, _, e2, e3⟩ := hb
  unfold hashByValue
  refine wpAny_bind (wpAny_specialOf ty F.slot_tuple_hash.lookup ?_)
  show wpAny _ _ (seqItems? (.ref b) >>= _) _ _ s
  refine wpAny_bind (wpAny_seqItems e1 e2 ?_)
  refine wpAny_bind ?_
  show wpAny _ _ (forIn its _ _) _ _ s
  rw [← Array.forIn_toList]
  refine wpAny_forIn_list _ (fun l r s2 => r.1 = none ∧ s2 = s ∧ ∀ v ∈ l, (∃ i t, v = Value.int i t) ∨ ∃ x t, v = Value.str x t) _ ?_ ?_ _ _ ⟨rfl, rfl, keyItems e3⟩
  · rintro v l r s2 ⟨_, rfl, all⟩
    obtain ⟨z, ez⟩ := byVal_key (all v List.mem_cons_self) 7
    rw [ez]
    refine wpAny_bind (wpAny_pure ?_)
    cases z
    · simp only [Bool.not_false, if_true]
      exact wpAny_pure (wpAny_pure (q false))
    · simp only [Bool.not_true, Bool.false_eq_true, if_false]
      exact wpAny_pure ⟨rfl, rfl, fun u hu => all u (List.mem_cons_of_mem _ hu)⟩
  · rintro ⟨r1, _⟩ s2 ⟨e, rfl, _⟩
    dsimp only at e
    subst e
    exact wpAny_pure (q true)
/-- nobody sees a search among tuples of keys -/
theorem unseen_tk {k : List L2.Key} {b : Addr} {Q : Bool → Shared → Prop} (hb : TkAt P w s.heap k b) {ys : List Value} (hy : ∀ y ∈ ys, ∃ k2 c, y = Value.ref c ∧ TkAt P w s.heap k2 c) (q : Q false s) :
    wpAny (model P w) A (searchCouldBeSeen (.ref b) ys) Q E s := by
  unfold searchCouldBeSeen
  refine wpAny_bind ?_
  refine wpAny_forIn_list _ (fun l r s2 => r.1 = none ∧ s2 = s ∧ ∀ y ∈ l, ∃ k2 c, y = Value.ref c ∧ TkAt P w s.heap k2 c) _ ?_ ?_ _ _ ⟨rfl, rfl, hy⟩
  · rintro v l r s2 ⟨_, rfl, all⟩
    obtain ⟨k2, c, rfl, hc⟩ := all v List.mem_cons_self
    have tl : ∀ y ∈ l, ∃ k2 c, y = Value.ref c ∧ TkAt P w s2.heap k2 c := fun u hu => all u (List.mem_cons_of_mem _ hu)
    dsimp only
    by_cases hv : (b == c || (carriedByValue (.ref b) && carriedByValue (.ref c))) = true
    · exact wp_if_pos hv (wpAny_pure ⟨rfl, rfl, tl⟩)
    · refine wp_if_neg hv (wpAny_bind (wpAny_eqIsQuiet_tuple hb ?_))
      simp only [Bool.not_true, Bool.false_eq_true, if_false]
      refine wpAny_bind (wpAny_eqIsQuiet_tuple hc ?_)
      simp only [Bool.not_true, Bool.false_eq_true, if_false]
      refine wpAny_bind (noStatement_tk hb ?_)
      simp only [Bool.false_eq_true, if_false]
      refine wpAny_bind (noStatement_tk hc ?_)
      simp only [Bool.false_eq_true, if_false]
      exact wpAny_pure ⟨rfl, rfl, tl⟩
  · rintro ⟨r1, _⟩ s2 ⟨e, rfl, _⟩
    dsimp only at e
    subst e
    exact wpAny_pure q
/-! ### the set -/
def entM (P : Program) (w : World) (p : Addr × List L2.Key) : Int × Value := (tkH P w p.2, Value.ref p.1)
structure KSet (P : Program) (w : World) (h : Heap) (a : Addr) (L : List (Addr × List L2.Key)) (es : Array (Int × Value)) (ep : Nat) (t : SetTable) : Prop where
  obj : ∃ o, h.get? a = some o ∧ o.ExactSet ∧ o.data = .set es ep t
  ent : es.toList = L.map (entM P w)
  tb : TabOk t (L.map fun p => tkH P w p.2)
  uniq : (L.map Prod.snd).Nodup
  keys : ∀ p ∈ L, TkAt P w h p.2 p.1
  free : L.length * 5 < t.mask * 3
  small : L.length < 64
variable {a : Addr} {L : List (Addr × List L2.Key)} {es : Array (Int × Value)} {ep : Nat} {t : SetTable}
theorem ent_size (h : es.toList = L.map (entM P w)) : es.size = L.length := by
  rw [← Array.length_toList, h, List.length_map]
theorem ent_at (h : es.toList = L.map (entM P w)) {i : Nat} {p : Addr × List L2.Key} (e : L[i]? = some p) : es[i]? = some (tkH P w p.2, Value.ref p.1) := by
  rw [← Array.getElem?_toList, h, List.getElem?_map, e]; rfl
theorem tab_fits {n : Nat} (h1 : t.place.size = n) (h2 : t.dummies = #[]) (h3 : n ≤ t.mask) : t.fits n = true := by
  unfold SetTable.fits SetTable.fill
  rw [h2, h1, Bool.and_eq_true, beq_iff_eq, decide_eq_true_eq]
  exact ⟨rfl, h3⟩
theorem KSet.fits (R : KSet P w s.heap a L es ep t) : t.fits es.size = true := by
  have q := R.tb.sz
  rw [List.length_map] at q
  have := R.free
  rw [ent_size R.ent]
  exact tab_fits q R.tb.dm (by omega)
theorem KSet.whole (R : KSet P w s.heap a L es ep t) : ¬ t.gaveWay = true := by
  unfold SetTable.gaveWay
  rw [mask_odd R.tb.mok]; decide
/-- the search, from the c-th place of the way on -/
theorem find_from (R : KSet P w s.heap a L es ep t) {x : Addr} {k : List L2.Key} (hx : TkAt P w s.heap k x) (hu : A.units < cLine) {K : Nat} (n0 : K < 10 * SetTable.turns t.mask)
    (n1 : way t.mask (tkH P w k) K ∉ t.place.toList) (n2 : ∀ c, c < K → way t.mask (tkH P w k) c ∈ t.place.toList) {Q : SetFound → Shared → Prop}
    (yes : k ∈ L.map Prod.snd → Q (.there none) s) (no : k ∉ L.map Prod.snd → Q (.free (way t.mask (tkH P w k) K) false) s) (f : Nat) :
    ∀ (c : Nat) (st : Option SetTable.Probe), st.getD (t.probeStart (tkH P w k)) = wayP t.mask (tkH P w k) c → c ≤ K → K - c < f →
      (∀ (i : Nat) p, L[i]? = some p → p.2 = k → ∃ d, c ≤ d ∧ d < K ∧ t.place.toList[i]? = some (way t.mask (tkH P w k) d)) →
      wpAny (model P w) A (setSearchFrom a (.ref x) (tkH P w k) true f st) Q E s := by
  induction f with
  | zero => exact fun c st _ _ z _ => absurd z (Nat.not_lt_zero _)
  | succ f ih =>
    intro c st hst hc hf ahead
    obtain ⟨o, g1, g2, g3⟩ := R.obj
    rw [setSearchFrom_succ]
    refine wpAny_bind (wpAny_setState_of g1 g3 R.fits ?_)
    dsimp only
    refine wp_if_neg R.whole ?_
    try refine (wpAny_bind (wpAny_pure ?_) : _)
    have jj : ∀ q, (nth t.mask (wayP t.mask (tkH P w k) c) q).j = way t.mask (tkH P w k) (c + q) := fun q => congrArg SetTable.Probe.j (wayP_more _ _ _ _)
    have hashes : ∀ (i : Nat) p, L[i]? = some p → (fun i => (es[i]?.map (·.1)).getD 0) i = tkH P w p.2 := fun i p e => by
      dsimp only
      rw [ent_at R.ent e]; rfl
    have cs := go_spec t R.tb.ris R.tb.dm (fun i => (es[i]?.map (·.1)).getD 0) (tkH P w k) (10 * SetTable.turns t.mask) (K - c) (wayP t.mask (tkH P w k) c) (nth_dummy _ _ _ rfl) (by omega)
      (fun q hq => by rw [jj]; exact n2 (c + q) (by omega)) (by rw [jj, Nat.add_sub_cancel' hc]; exact n1)
    rcases cs with ⟨q, i, hq, hi, hh, first, pr⟩ | ⟨none_, pr⟩
    · rw [wayP_more, wayP_more] at pr
      rw [jj] at hi
      have pr2 : t.probe (fun i => (es[i]?.map (·.1)).getD 0) (tkH P w k) (st.getD (t.probeStart (tkH P w k))) = some (.candidate (way t.mask (tkH P w k) (c + q)) i (wayP t.mask (tkH P w k) (c + (q + 1)))) := by
        rw [hst]; exact pr
      rw [pr2]
      dsimp only
      have il : i < L.length := by
        have z1 := (List.getElem?_eq_some_iff.mp hi).1
        have z2 := R.tb.sz
        rw [List.length_map] at z2
        rw [Array.length_toList, z2] at z1
        exact z1
      obtain ⟨p, hp⟩ : ∃ p, L[i]? = some p := ⟨_, List.getElem?_eq_getElem il⟩
      have pm : p ∈ L := List.mem_of_getElem? hp
      have go : wpAny (model P w) A (searchRest a (.ref x) (tkH P w k) true f es t (way t.mask (tkH P w k) (c + q)) i (wayP t.mask (tkH P w k) (c + (q + 1)))) Q E s := by
        unfold searchRest
        rw [ent_at R.ent hp]
        dsimp only
        refine wpAny_bind (wpAny_holding (wpAny_eqBool_tuple hu (R.keys p pm) hx ?_))
        refine wpAny_bind (wpAny_setState_of g1 g3 R.fits ?_)
        dsimp only
        by_cases hk : p.2 = k
        · exact wp_if_pos (by simp [hk]) (wpAny_pure (yes (List.mem_map.mpr ⟨p, pm, hk⟩)))
        · refine wp_if_neg (by simp [hk]) ?_
          try refine (wpAny_bind (wpAny_pure ?_) : _)
          rw [same_table]
          dsimp only
          have sl : t.slot (way t.mask (tkH P w k) (c + q)) = .live i := slot_live R.tb.ris hi
          simp only [if_true, sl, ent_at R.ent hp]
          refine wpAny_bind (wpAny_isSame_ref_self (wpAny_bind (wpAny_pure ?_)))
          simp only [if_true]
          refine wp_if_neg (by simp [hk]) (ih (c + (q + 1)) _ rfl (by omega) (by omega) fun i2 p2 e2 ek => ?_)
          obtain ⟨d, d1, d2, d3⟩ := ahead i2 p2 e2 ek
          refine ⟨d, ?_, d2, d3⟩
          rcases Nat.lt_trichotomy d (c + q) with z | z | z
          · refine absurd ((hashes i2 p2 e2).trans (congrArg (tkH P w) ek)) (first (d - c) i2 (by omega) ?_)
            rw [jj, Nat.add_sub_cancel' d1]; exact d3
          · rw [z] at d3
            have s2 := slot_live R.tb.ris d3
            rw [sl] at s2
            injection s2 with s2
            rw [← s2, hp] at e2
            exact absurd ((congrArg Prod.snd (Option.some.inj e2)).trans ek) hk
          · omega
      by_cases hl : t.led = true
      · refine wp_if_neg (by simp [hl]) ?_
        try refine (wpAny_bind (wpAny_pure ?_) : _)
        exact go
      · refine wp_if_pos (by simp [hl]) (wpAny_bind (unseen_tk hx (fun y hy => ?_) ?_))
        · obtain ⟨e, he, rfl⟩ := List.mem_map.mp hy
          have m1 : e ∈ es ∧ e.1 = tkH P w k := by simpa using he
          have m2 : e ∈ es.toList := by simpa using m1.1
          rw [R.ent] at m2
          obtain ⟨p2, m3, rfl⟩ := List.mem_map.mp m2
          exact ⟨p2.2, p2.1, rfl, R.keys p2 m3⟩
        · refine wp_if_neg (by decide) ?_
          try refine (wpAny_bind (wpAny_pure ?_) : _)
          exact go
    · rw [jj, Nat.add_sub_cancel' hc] at pr
      have pr2 : t.probe (fun i => (es[i]?.map (·.1)).getD 0) (tkH P w k) (st.getD (t.probeStart (tkH P w k))) = some (.empty (way t.mask (tkH P w k) K) none) := by
        rw [hst]; exact pr
      rw [pr2]
      dsimp only
      refine wpAny_pure (no fun hm => ?_)
      obtain ⟨p2, m2, ek⟩ := List.mem_map.mp hm
      obtain ⟨i2, hi2, e2⟩ := List.getElem_of_mem m2
      have e3 : L[i2]? = some p2 := by rw [List.getElem?_eq_getElem hi2, e2]
      obtain ⟨d, d1, d2, d3⟩ := ahead i2 p2 e3 ek
      refine absurd ((hashes i2 p2 e3).trans (congrArg (tkH P w) ek)) (none_ (d - c) i2 (by omega) ?_)
      rw [jj, Nat.add_sub_cancel' d1]; exact d3
theorem find_key (R : KSet P w s.heap a L es ep t) {x : Addr} {k : List L2.Key} (hx : TkAt P w s.heap k x) (hu : A.units < cLine) {Q : SetFound → Shared → Prop} (yes : k ∈ L.map Prod.snd → Q (.there none) s)
    (no : ∀ K, k ∉ L.map Prod.snd → way t.mask (tkH P w k) K ∉ t.place.toList → (∀ c, c < K → way t.mask (tkH P w k) c ∈ t.place.toList) → Q (.free (way t.mask (tkH P w k) K) false) s) :
    wpAny (model P w) A (setSearch a (.ref x) (tkH P w k) true) Q E s := by
  have fr := R.free
  obtain ⟨K, n0, n1, n2⟩ := R.tb.first (by rw [List.length_map]; omega) (tkH P w k)
  have nb : K < 100000 := by
    unfold SetTable.turns at n0
    rcases R.tb.mok with e | e | e <;> omega
  refine find_from R hx hu n0 n1 n2 yes (fun z => no K z n1 n2) 100000 0 none rfl (Nat.zero_le _) (by omega) fun i p hp hk => ?_
  have hi : (L.map fun p => tkH P w p.2)[i]? = some (tkH P w k) := by rw [List.getElem?_map, hp, ← hk]; rfl
  have il : i < t.place.toList.length := by
    have z := R.tb.sz
    rw [List.length_map] at z
    rw [Array.length_toList, z]
    exact (List.getElem?_eq_some_iff.mp hp).1
  have hj := List.getElem?_eq_getElem il
  obtain ⟨d, d1, d2⟩ := R.tb.before n1 hi hj
  exact ⟨d, Nat.zero_le _, d1, by rw [hj, d2]⟩
/-- what is no set stays where only the set is written -/
theorem tk_stays {h h2 : Heap} {k : List L2.Key} {b : Addr} {o : Obj} (hb : TkAt P w h k b) (ho : h.get? a = some o) (hd : o.data = .set es ep t) (hs : Heap.SameBut a h h2) : TkAt P w h2 k b := by
  obtain ⟨o2, its, m, e1, e2, e3, e4⟩ := hb
  refine ⟨o2, its, m, (hs.2 b ?_).trans e1, e2, e3, e4⟩
  rintro rfl
  rw [ho] at e1
  cases e1
  rw [hd] at e3
  cases e3
/-- all laid anew -/
theorem relay_key {o : Obj} (g1 : s.heap.get? a = some o) (g2 : o.ExactSet) (g3 : o.data = .set es ep t) (hent : es.toList = L.map (entM P w)) (hpl : t.place.size = es.size) (hdm : t.dummies = #[]) (hle : es.size ≤ t.mask)
    (hun : (L.map Prod.snd).Nodup) (hky : ∀ p ∈ L, TkAt P w s.heap p.2 p.1) (hsm : L.length < 64) {wanted M : Nat} (m1 : SetTable.sizeAbove wanted - 1 = M) (m2 : MaskOk M) (m3 : SetTable.sizeAbove wanted ≤ 128) (m4 : L.length * 5 < M * 3)
    {Q : Unit → Shared → Prop} (q : ∀ h2 L2 es2 ep2 t2, Heap.SameBut a s.heap h2 → KSet P w h2 a L2 es2 ep2 t2 → L2.Perm L → Q () { s with heap := h2 }) : wpAny (model P w) A (setRelay a wanted) Q E s := by
  have sz := ent_size hent
  have fit : t.fits es.size = true := tab_fits hpl hdm hle
  obtain ⟨t2, od, r1, r2, r3, r4, _, _, r5⟩ := relaid_ok t (hs := es.map (·.1)) (wanted := wanted) m1 m2 (by rw [Array.size_map, sz]; omega)
  rw [Array.size_map, sz] at r2
  have pk := perm_picked L od.toList r2
  have inb : ∀ i ∈ od.toList, i < L.length := fun i hi => List.mem_range.mp (r2.mem_iff.mp hi)
  have en2 : (od.filterMap (es[·]?)).toList = (od.toList.filterMap fun i => L[i]?).map (entM P w) := by
    rw [Array.toList_filterMap, List.map_filterMap]
    congr 1
    funext i
    rw [← Array.getElem?_toList, hent, List.getElem?_map]
  have hs2 : (od.toList.map fun i => (es.map (·.1)).getD i 0) = (od.toList.filterMap fun i => L[i]?).map fun p => tkH P w p.2 := by
    clear r2 pk r3 en2 r1
    generalize od.toList = l at inb
    induction l with
    | nil => rfl
    | cons i l ih =>
      have il := inb i List.mem_cons_self
      have hx : L[i]? = some L[i] := List.getElem?_eq_getElem il
      have hy : (es.map (·.1))[i]? = some (tkH P w (L[i]).2) := by rw [Array.getElem?_map, ent_at hent hx]; rfl
      rw [List.filterMap_cons_some hx, List.map_cons, List.map_cons, ih fun j hj => inb j (List.mem_cons_of_mem _ hj), Array.getD_eq_getD_getElem?, hy]; rfl
  rw [hs2] at r3
  generalize (od.toList.filterMap fun i => L[i]?) = L2 at pk en2 r3
  have sz2 := ent_size en2
  rw [pk.length_eq] at sz2
  rw [setRelay_eq]
  refine wpAny_bind (wpAny_setState_of g1 g3 fit ?_)
  dsimp only
  refine wp_if_neg (by rw [sizeLine_eq]; omega) ?_
  try refine (wpAny_bind (wpAny_pure ?_) : _)
  rw [r1]
  dsimp only
  refine wpAny_bind (wp_if_neg (by rw [sz2, sz]; simp) ?_)
  try refine (wpAny_bind (wpAny_pure ?_) : _)
  refine wpAny_pure ?_
  dsimp only
  refine wpAny_storeSet_of g1 g3 ?_ (by rw [sz2, sizeLine_eq]; omega)
  have sb : Heap.SameBut a s.heap (s.heap.update a (Obj.putSet (od.filterMap (es[·]?)) t2)) := Heap.SameBut.update ..
  refine q _ L2 _ (ep + 1) t2 sb ⟨⟨_, store_at g1 g3, ⟨g2.1, g2.2.1, g2.2.2⟩, rfl⟩, en2, r3, (pk.map Prod.snd).nodup_iff.mpr hun, fun p hp => tk_stays (hky p (pk.mem_iff.mp hp)) g1 g3 sb, ?_, by rw [pk.length_eq]; exact hsm⟩ pk
  rw [pk.length_eq, r4]; exact m4
/-- one more -/
theorem add_key (R : KSet P w s.heap a L es ep t) {x : Addr} {k : List L2.Key} (hx : TkAt P w s.heap k x) (hu : A.units < cLine) (room : L.length + 1 < 64) {Q : Bool → Shared → Prop}
    (q : ∀ b h2 L2 es2 ep2 t2, Heap.SameBut a s.heap h2 → KSet P w h2 a L2 es2 ep2 t2 → (k ∈ L.map Prod.snd → L2 = L) → (k ∉ L.map Prod.snd → L2.Perm ((x, k) :: L)) → Q b { s with heap := h2 }) :
    wpAny (model P w) A (setAddHashed a (.ref x) (tkH P w k)) Q E s := by
  obtain ⟨o, g1, g2, g3⟩ := R.obj
  have sz := ent_size R.ent
  have fr := R.free
  unfold setAddHashed
  refine wpAny_holding ?_
  rw [show (100000 : Nat) = 99999 + 1 from rfl, setAddHashedIn_succ]
  refine wpAny_bind (wpAny_setState_of g1 g3 R.fits ?_)
  dsimp only
  refine wp_if_neg (by simp [byScan, Value.scannable]) ?_
  try refine (wpAny_bind (wpAny_pure ?_) : _)
  refine wpAny_bind (find_key R hx hu (fun hm => ?_) fun K hm n1 n2 => ?_)
  · exact wpAny_pure (q false s.heap L es ep t (Heap.SameBut.refl a s.heap) R (fun _ => rfl) fun z => absurd hm z)
  · dsimp only
    refine wpAny_bind (wpAny_setState_of g1 g3 R.fits ?_)
    dsimp only
    obtain ⟨p1, _, p3, p4, _, _, _, _, p9⟩ := R.tb.put n1 n2
    generalize ept : t.put (way t.mask (tkH P w k) K) = pt at p1 p3 p4 p9 ⊢
    obtain ⟨t1, pl⟩ := pt
    dsimp only at p1 p3 p4 p9 ⊢
    subst p1
    have core : ∀ (bv : Bool), wpAny (model P w) A (do
        let t2 := if bv then t1 else { t1 with plain := false }
        storeSet a (SetTable.insertAt es (SetTable.below t.place (way t.mask (tkH P w k) K)) (tkH P w k, Value.ref x)) t2
        if !false && t2.tooFull then setRelay a (SetTable.grown (es.size + 1))
        return true) Q E s := fun bv => by
      have t2ok : ∃ t2, t2 = (if bv then t1 else { t1 with plain := false }) ∧ t2.mask = t1.mask ∧ t2.place = t1.place ∧ t2.dummies = t1.dummies := by
        refine ⟨_, rfl, ?_, ?_, ?_⟩ <;> (cases bv <;> rfl)
      obtain ⟨t2, e2, em, epl, edm⟩ := t2ok
      dsimp only
      rw [← e2]
      have hin : (SetTable.insertAt es (SetTable.below t.place (way t.mask (tkH P w k) K)) (tkH P w k, Value.ref x)).toList = (L.take (SetTable.below t.place (way t.mask (tkH P w k) K)) ++ (x, k) :: L.drop (SetTable.below t.place (way t.mask (tkH P w k) K))).map (entM P w) := by
        rw [SetTable.toList_insertAt, R.ent, List.map_append, List.map_cons, List.map_take, List.map_drop]; rfl
      have p3 : TabOk t2 ((L.take (SetTable.below t.place (way t.mask (tkH P w k) K)) ++ (x, k) :: L.drop (SetTable.below t.place (way t.mask (tkH P w k) K))).map fun p => tkH P w p.2) := by
        rw [List.map_append, List.map_cons, List.map_take, List.map_drop]
        obtain ⟨u1, u2, u3, u4, u5, u6⟩ := p3
        exact ⟨by rw [epl]; exact u1, by rw [edm]; exact u2, by rw [epl]; exact u3, by rw [em]; exact u4, by rw [epl, em]; exact u5, by rw [epl, em]; exact u6⟩
      have p9 : t2.fill = L.length + 1 := by
        rw [List.length_map] at p9
        rw [← p9]
        unfold SetTable.fill
        rw [epl, edm]
      have p4 : t2.mask = t.mask := em.trans p4
      clear e2 em epl edm ept
      generalize SetTable.below t.place (way t.mask (tkH P w k) K) = i at p3 hin ⊢
      have pm := put_in L i (x, k)
      generalize L.take i ++ (x, k) :: L.drop i = L1 at pm p3 hin
      have ln : L1.length = L.length + 1 := pm.length_eq
      have un : (L1.map Prod.snd).Nodup := (pm.map Prod.snd).nodup_iff.mpr (List.nodup_cons.mpr ⟨hm, R.uniq⟩)
      have hz : (SetTable.insertAt es i (tkH P w k, Value.ref x)).size = L.length + 1 := (ent_size hin).trans ln
      generalize SetTable.insertAt es i (tkH P w k, Value.ref x) = e1 at hin hz ⊢
      refine wpAny_bind (wpAny_storeSet_of g1 g3 ?_ (by rw [hz, sizeLine_eq]; omega))
      have sb : Heap.SameBut a s.heap (s.heap.update a (Obj.putSet e1 t2)) := Heap.SameBut.update ..
      have go1 := store_at (es' := e1) (t' := t2) g1 g3
      generalize s.heap.update a (Obj.putSet e1 t2) = h1 at sb go1 ⊢
      have ky : ∀ p ∈ L1, TkAt P w h1 p.2 p.1 := fun p hp => by
        rcases List.mem_cons.mp (pm.mem_iff.mp hp) with e | hp
        · rw [e]; exact tk_stays hx g1 g3 sb
        · exact tk_stays (R.keys p hp) g1 g3 sb
      have sz1 : t2.place.size = e1.size := by
        have z := p3.sz
        rw [List.length_map, ln] at z
        rw [z, hz]
      by_cases hf : t2.tooFull = true
      · have full : (L.length + 1) * 5 ≥ t.mask * 3 := by
          have z := hf
          unfold SetTable.tooFull at z
          rw [decide_eq_true_eq, p9, p4] at z
          exact z
        have two : (t.mask = 7 ∧ L.length = 4) ∨ (t.mask = 31 ∧ L.length = 18) := by
          rcases R.tb.mok with e | e | e
          · rw [e] at full fr; exact .inl ⟨e, by omega⟩
          · rw [e] at full fr; exact .inr ⟨e, by omega⟩
          · rw [e] at full; omega
        have go : ∀ M, SetTable.sizeAbove (SetTable.grown (L.length + 1)) - 1 = M → MaskOk M → SetTable.sizeAbove (SetTable.grown (L.length + 1)) ≤ 128 → (L.length + 1) * 5 < M * 3 →
            wpAny (model P w) A (setRelay a (SetTable.grown (L.length + 1))) (fun _ s2 => wpAny (model P w) A (pure true) Q E s2) E { s with heap := h1 } := fun M c1 c2 c3 c4 =>
          relay_key (s := { s with heap := h1 }) go1 ⟨g2.1, g2.2.1, g2.2.2⟩ rfl hin sz1 p3.dm (by rw [hz, p4]; rcases two with ⟨e, e2⟩ | ⟨e, e2⟩ <;> omega) un ky (by rw [ln]; exact room) c1 c2 c3 (by rw [ln]; exact c4)
            fun h2 L2 es2 ep2 t3 sb2 R2 pm2 => wpAny_pure (q true h2 L2 es2 ep2 t3 (sb.trans sb2) R2 (fun z => absurd z hm) fun _ => pm2.trans pm)
        rw [sz]
        first
          | (refine wpAny_bind (wp_if_pos (by simp [hf]) ?_))
          | (refine wp_if_pos (by simp [hf]) (wpAny_bind ?_))
        rcases two with ⟨_, e2⟩ | ⟨_, e2⟩
        · exact go 31 (by rw [e2, size_20]) (.inr (.inl rfl)) (by rw [e2, size_20]; decide) (by omega)
        · exact go 127 (by rw [e2, size_76]) (.inr (.inr rfl)) (by rw [e2, size_76]; decide) (by omega)
      · have lo : L1.length * 5 < t2.mask * 3 := by
          have z := hf
          unfold SetTable.tooFull at z
          rw [decide_eq_true_eq, p9] at z
          rw [ln]
          omega
        have fin := q true h1 L1 e1 (ep + 1) t2 sb ⟨⟨_, go1, ⟨g2.1, g2.2.1, g2.2.2⟩, rfl⟩, hin, p3, un, ky, lo, by rw [ln]; exact room⟩ (fun z => absurd z hm) fun _ => pm
        first
          | exact wp_if_neg (by simp [hf]) (wpAny_pure fin)
          | exact wpAny_bind (wp_if_neg (by simp [hf]) (wpAny_pure (wpAny_pure fin)))
    cases ht : t1.plain
    · refine wp_if_neg (by simp) ?_
      try refine (wpAny_bind (wpAny_pure ?_) : _)
      exact core true
    · first
        | (refine wpAny_bind (wp_if_pos rfl (byVal_tk hx fun z => ?_)); exact core z)
        | (refine wp_if_pos rfl (wpAny_bind (byVal_tk hx fun z => ?_)); exact core z)
end
/-! ### set(xs) -/
/-- what is in the set of the first i -/
structure From (ks : List (Addr × List L2.Key)) (i : Nat) (L : List (Addr × List L2.Key)) : Prop where
  sub : ∀ p ∈ L, p ∈ ks
  mem : ∀ k, k ∈ L.map Prod.snd ↔ k ∈ (ks.take i).map Prod.snd
  len : L.length ≤ i
theorem From.old {ks L : List (Addr × List L2.Key)} {i : Nat} {x : Addr × List L2.Key} (g : From ks i L) (h : ks[i]? = some x) (m : x.2 ∈ L.map Prod.snd) : From ks (i + 1) L := by
  refine ⟨g.sub, fun k => ?_, Nat.le_succ_of_le g.len⟩
  rw [List.take_succ, h, g.mem k, List.map_append, List.mem_append]
  refine ⟨.inl, fun z => z.elim id fun z => ?_⟩
  obtain rfl : k = x.2 := by simpa using z
  exact (g.mem _).mp m
theorem From.new {ks L LL : List (Addr × List L2.Key)} {i : Nat} {x : Addr × List L2.Key} (g : From ks i L) (h : ks[i]? = some x) (pm : LL.Perm (x :: L)) : From ks (i + 1) LL := by
  refine ⟨fun p hp => ?_, fun k => ?_, by rw [pm.length_eq]; exact Nat.succ_le_succ g.len⟩
  · rcases List.mem_cons.mp (pm.mem_iff.mp hp) with rfl | z
    · exact List.mem_of_getElem? h
    · exact g.sub p z
  · rw [(pm.map Prod.snd).mem_iff, List.map_cons, List.mem_cons, List.take_succ, h, g.mem k, List.map_append, List.mem_append]
    have e : k ∈ List.map Prod.snd (some x).toList ↔ k = x.2 := by simp
    rw [e]
    exact ⟨fun z => z.symm, fun z => z.symm⟩
section
variable {P : Program} {w : World} {A : Around} {E : Value → Shared → Prop} {s : Shared}
theorem tk_kept {h h2 : Heap} {k : List L2.Key} {b : Addr} (x : TkAt P w h k b) (hk : ∀ o, h.get? b = some o → h2.get? b = some o) : TkAt P w h2 k b := by
  obtain ⟨o, its, m, e, r⟩ := x
  exact ⟨o, its, m, hk o e, r⟩
theorem kset_new {h : Heap} {a : Addr} {tb : SetTable} (ho : h.get? a = some { cls := .type "set", dict := none, data := .set #[] 0 tb }) (h1 : tb.mask = 7) (h2 : tb.place = #[]) (h3 : tb.dummies = #[]) : KSet P w h a [] #[] 0 tb where
  obj := ⟨_, ho, ⟨rfl, rfl, rfl⟩, rfl⟩
  ent := rfl
  tb := ⟨by rw [h2]; exact List.Pairwise.nil, h3, by rw [h2]; rfl, .inl h1, fun x hx => (by rw [h2] at hx; cases hx), fun i h j hi => (by simp at hi)⟩
  uniq := List.nodup_nil
  keys := fun p hp => (by cases hp)
  free := by rw [h1]; decide
  small := by decide
theorem KSet.stays {h h2 : Heap} {a : Addr} {L : List (Addr × List L2.Key)} {es : Array (Int × Value)} {ep : Nat} {t : SetTable} (R : KSet P w h a L es ep t) (ha : ∀ o, h.get? a = some o → h2.get? a = some o) (hk : ∀ p ∈ L, TkAt P w h2 p.2 p.1) : KSet P w h2 a L es ep t := by
  obtain ⟨o, ho, r⟩ := R.obj
  exact ⟨⟨o, ha o ho, r⟩, R.ent, R.tb, R.uniq, hk, R.free, R.small⟩
/-- the loop of set.update -/
theorem upd_keys {I : Addr} {fp wr : List Addr} {G : Array GenState → Array GenState → Prop} {n : Nat} {Pv : Nat → Value → Prop} {St : Nat → Shared → Prop} {R : Result → Shared → Prop} (W : WalksS P w A.in1 I fp wr G n Pv St) (S : Addr) (nS : S ∉ fp)
    (ks : List (Addr × List L2.Key)) (hn : n = ks.length) (few : ks.length < 64) (val : ∀ i v, Pv i v → ∃ p, ks[i]? = some p ∧ v = .ref p.1) (h0 : Heap) (hk : ∀ p ∈ ks, TkAt P w h0 p.2 p.1) (oS : h0.get? S = none) (ow : ∀ b ∈ wr, h0.get? b = none) (hu : A.in1.units < cLine) (d : Nat) :
    ∀ (i : Nat) (s : Shared), n - i = d → i ≤ n → St i s → (∀ b o, h0.get? b = some o → s.heap.get? b = some o) → (∃ L es ep t, KSet P w s.heap S L es ep t ∧ From ks i L) →
      (∀ s2 L es ep t, Moved (S :: wr) G s s2 → KSet P w s2.heap S L es ep t → From ks n L → (∀ b o, h0.get? b = some o → s2.heap.get? b = some o) → R (.ok (.ret .none)) s2) →
      codeAny (model P w) A (.builtin "set.update.loop" ⟨[.ref S, .ref I], []⟩) R s := by
  have nw : S ∉ wr := fun z => nS (W.sub _ z)
  have up : ∀ b ∈ wr, b ∈ S :: wr := fun b hb => List.mem_cons_of_mem _ hb
  have kp : ∀ {s s2 : Shared}, Moved wr G s s2 → (∀ b o, h0.get? b = some o → s.heap.get? b = some o) → ∀ b o, h0.get? b = some o → s2.heap.get? b = some o := fun hm k0 b o e => hm.heap b o (fun hb => by rw [ow b hb] at e; cases e) (k0 b o e)
  induction d with
  | zero =>
    intro i s hd hi hst k0 ⟨L, es, ep, t, hS, g⟩ fin
    obtain rfl : i = n := by omega
    refine codeAny_builtin F.entry_set_update_loop ?_
    rw [Around.under_plainId F.plain_set_update_loop _]
    show wpAny _ A.in1 (pyNext (.ref I) >>= _) _ _ s
    refine wpAny_bind (W.done s _ _ hst fun s2 hm => ?_)
    show wpAny _ A.in1 (ret Value.none) _ _ s2
    exact wpAny_pure (fin s2 L es ep t (hm.mono up) (hS.stays (fun o e => hm.heap S o nw e) fun p hp => tk_kept (hk p (g.sub p hp)) fun o e => kp hm k0 _ o e) g (kp hm k0))
  | succ d ih =>
    intro i s hd hi hst k0 ⟨L, es, ep, t, hS, g⟩ fin
    have lt : i < n := by omega
    refine codeAny_builtin F.entry_set_update_loop ?_
    rw [Around.under_plainId F.plain_set_update_loop _]
    show wpAny _ A.in1 (pyNext (.ref I) >>= _) _ _ s
    refine wpAny_bind (W.item i s _ _ lt hst fun v s2 hP hst2 hm => ?_)
    obtain ⟨p, hp, rfl⟩ := val i v hP
    have k1 := kp hm k0
    have hS2 : KSet P w s2.heap S L es ep t := hS.stays (fun o e => hm.heap S o nw e) fun q hq => tk_kept (hk q (g.sub q hq)) fun o e => k1 _ o e
    have hx : TkAt P w s2.heap p.2 p.1 := tk_kept (hk p (List.mem_of_getElem? hp)) fun o e => k1 _ o e
    show wpAny _ A.in1 (holding [Value.ref p.1] (setAdd S (.ref p.1)) >>= _) _ _ s2
    refine wpAny_bind (wpAny_holding ?_)
    unfold setAdd
    refine wpAny_holding (wpAny_bind (wpAny_pyHash_tuple hu hx ?_))
    refine add_key (s := { s2 with toks := s2.toks + (p.2.length + 1) }) hS2 hx hu (by have := g.len; omega) fun b h3 L3 es3 ep3 t3 sb hS3 c1 c2 => ?_
    have g3 : From ks (i + 1) L3 := by
      rcases Classical.em (p.2 ∈ L.map Prod.snd) with c | c
      · rw [c1 c]; exact g.old hp c
      · exact g.new hp (c2 c)
    have k3 : ∀ b o, h0.get? b = some o → h3.get? b = some o := fun b o e => (sb.2 b (fun z => by rw [z, oS] at e; cases e)).trans (k1 b o e)
    refine wpAny_pure ⟨plainId_quiet F.plain_set_update_loop _, ih (i + 1) _ (by omega) lt (W.frame _ s2 _ _ hst2 (Nat.le_add_right _ _) fun b hb o e => ?_) k3 ⟨L3, es3, ep3, t3, hS3, g3⟩ fun s4 L4 es4 ep4 t4 hm4 hS4 g4 k4 => ?_⟩
    · rw [sb.2 b (fun z : b = S => nS (z ▸ hb))]; exact e
    · refine fin s4 L4 es4 ep4 t4 (Moved.trans W.gtrans ((hm.mono up).then_heap (Nat.le_add_right _ _) fun b o hb e => ?_) hm4) hS4 g4 k4
      rw [sb.2 b (fun z : b = S => hb (z ▸ List.mem_cons_self))]; exact e
set_option maxHeartbeats 3200000 in
theorem call_set_keys {l : Addr} {items : Array Value} (ks : List (Addr × List L2.Key)) {Q : Value → Shared → Prop} (hh : A.handled = none) (hl : s.heap.IsList l items) (hit : items.toList = ks.map fun p => Value.ref p.1) (hk : ∀ p ∈ ks, TkAt P w s.heap p.2 p.1)
    (few : ks.length < 64) (hu : A.units + 3 < cLine) (h : ∀ (h2 : Heap) (tk : Nat) L es ep t, KSet P w h2 s.heap.objs.size L es ep t → From ks ks.length L → (∀ b o, s.heap.get? b = some o → h2.get? b = some o) → Q (.ref s.heap.objs.size) { s with heap := h2, toks := tk }) :
    wpAny (model P w) A (call (.type "set") [.ref l]) Q E s := by
  have hsz : items.size = ks.length := by rw [← Array.length_toList, hit, List.length_map]
  obtain ⟨cc, tl, c1⟩ := F.called_set.mro
  have c2 := F.called_set.made
  have c3 := F.called_set.sub
  refine wpAny_call (codeAny_of_tree ?_)
  show wpAny _ _ (callAny (.type "set") _) _ _ _
  refine wpAny_pure ⟨Code.quiet_builtin _ (by decide +kernel), codeAny_builtin F.entry_type_call ?_⟩
  rw [Around.under_plain (weight_type_call_type "set" [.ref l] []) rfl]
  have c4 := F.called_set.notType
  have c5 := F.called_set.canCreate
  have c6 := F.typeCall_set_1 (.ref l)
  repeat (any_goals (first | assumption | wp_step))
  generalize eF : ({ cls := .type "set", dict := none, data := .set #[] 0 (.fresh 0 0 (!w.params.followText "set-order")) } : Obj) = oF
  have nF := code_set_led1 (P := P) (w := w) (A := A.in1) (s := s) (.ref l) (E := E) (Q₁ := fun u s1 => u = .ref s.heap.objs.size ∧ s1 = { s with heap := s.heap.push oF }) ⟨rfl, by rw [← eF]⟩
  refine codeAny_mono nF fun r s1 hr => ?_
  cases r with
  | error e => exact hr
  | ok fl =>
    cases fl with
    | ret u =>
      obtain ⟨rfl, rfl⟩ := hr
      have hS : (s.heap.push oF).get? s.heap.objs.size = some oF := Heap.get?_push_size _ (by rw [← eF]; rfl)
      have hT : Shared.TypeIs { s with heap := s.heap.push oF } (.ref s.heap.objs.size) "set" := ⟨_, hS, by rw [← eF]⟩
      have c7 := F.called_set.init.lookup
      have c8 := F.called_set.init.bind (.ref s.heap.objs.size)
      repeat (any_goals (first | assumption | wp_step))
      refine codeAny_mono (codeAny_call_builtin (R := wants (fun r s2 => r = .none ∧ ∃ h2 tk L es ep t, s2 = { s with heap := h2, toks := tk } ∧ KSet P w h2 s.heap.objs.size L es ep t ∧ From ks ks.length L ∧
          (∀ b o, s.heap.get? b = some o → h2.get? b = some o)) E) F.called_set.init.plain F.entry_set_init (check_set_init_1 hT ?_)) fun r2 s2 hr2 => ?_
      · obtain ⟨ol, e1, e2, nl, e3⟩ := hl
        obtain ⟨ocls, odict, odata, oslots⟩ := ol
        simp only at e2 e3
        subst e2; subst e3
        have hol : (s.heap.push oF).get? l = some { cls := .type "list", dict := odict, data := .seq items nl, slots := oslots } := Heap.get?_push_of_some _ e1
        have d1 := F.sub_list_set
        have d2 := F.sub_list_frozenset
        have d3 : (Value.type "list" == Value.type "dict") = false := by decide
        have hl2 : (s.heap.push oF).IsList l items := ⟨_, hol, rfl, nl, rfl⟩
        have lS : l < s.heap.objs.size := Heap.lt_size e1
        have h3 : A.in1.in1.in1.handled = none := by simp [hh]
        have z1 : (s.heap.push oF).objs.size = s.heap.objs.size + 1 := Heap.size_push ..
        have gone : ∀ b, s.heap.objs.size ≤ b → s.heap.get? b = none := fun b hb => by
          cases q : s.heap.get? b with
          | none => rfl
          | some o => exact absurd (Heap.lt_size q) (Nat.not_lt.mpr hb)
        subst eF
        unfold Builtin.«set.__init__» noKeywords Builtin.Frozenset.updateFrom
        generalize hPI : pyIter = PI
        wp_walk
        subst hPI
        refine wpAny_pyIter_list hl2 ?_
        refine (wpAny_bind (wpAny_runValue ?_) : _)
        refine upd_keys ((Walks.list h3 _ l (by rw [z1]; exact Nat.ne_of_lt (Nat.lt_succ_of_lt lS)) items).toS) s.heap.objs.size (by rw [z1]; simp only [List.mem_cons, List.not_mem_nil, or_false, not_or]; exact ⟨Nat.ne_of_lt (Nat.lt_succ_self _), Nat.ne_of_gt lS⟩)
          ks hsz few (fun i v hv => ?_) s.heap hk (gone _ (Nat.le_refl _)) (fun b hb => gone b (by rw [List.mem_singleton.mp hb, z1]; exact Nat.le_succ _)) hu (items.size - 0) 0 _ (by omega) (Nat.zero_le _)
          ⟨⟨_, Heap.get?_push_size _ rfl, rfl, rfl⟩, (hl2.push _)⟩ (fun b o e => Heap.get?_push_of_some _ (Heap.get?_push_of_some _ e)) ⟨[], #[], 0, .fresh 0 0 (!w.params.followText "set-order"), kset_new (by exact Heap.get?_push_of_some _ hS) rfl rfl rfl, ⟨fun p hp => (by cases hp), fun k => by simp, Nat.le_refl _⟩⟩ ?fin
        case fin =>
          intro s4 L es ep t hm hS4 g4 k4
          obtain ⟨h4, g2, d2, tk4, os4⟩ := s4
          obtain rfl : g2 = s.gens := hm.gens
          obtain rfl : d2 = s.drawn := hm.drawn
          obtain rfl : os4 = s.os := hm.os
          rw [hsz] at g4
          show wpAny _ _ _ _ _ _
          refine wpAny_pure ?_
          show wpAny _ _ (ret Value.none) _ _ _
          exact wpAny_pure ⟨rfl, h4, tk4, L, es, ep, t, rfl, hS4, g4, k4⟩
        · have q : items.toList[i]? = some v := by rw [Array.getElem?_toList]; exact hv
          rw [hit, List.getElem?_map] at q
          obtain ⟨p, q1, q2⟩ := Option.map_eq_some_iff.mp q
          exact ⟨p, q1, q2.symm⟩
      · cases r2 with
        | error e => exact hr2
        | ok fl2 =>
          cases fl2 with
          | ret r =>
            obtain ⟨rfl, h2, tk, L, es, ep, t, rfl, hS2, g2, k2⟩ := hr2
            repeat (any_goals (first | assumption | wp_step))
            exact h _ _ _ _ _ _ hS2 g2 k2
          | _ => exact hr2.elim
    | _ => exact hr.elim
end
theorem dst_len {α : Type} [DecidableEq α] : ∀ (xs ys : List α), ys.Nodup → (∀ k, k ∈ ys ↔ k ∈ xs) → ys.length = dstN xs := by
  have key : ∀ xs : List α, ∃ zs : List α, zs.Nodup ∧ (∀ k, k ∈ zs ↔ k ∈ xs) ∧ zs.length = dstN xs := fun xs => by
    induction xs with
    | nil => exact ⟨[], List.nodup_nil, fun _ => Iff.rfl, rfl⟩
    | cons x r ih =>
      obtain ⟨zs, z1, z2, z3⟩ := ih
      unfold dstN
      by_cases c : x ∈ r
      · rw [if_pos c]
        exact ⟨zs, z1, fun k => by rw [z2, List.mem_cons]; exact ⟨.inr, fun q => q.elim (fun e => e ▸ c) id⟩, z3⟩
      · rw [if_neg c]
        exact ⟨x :: zs, List.nodup_cons.mpr ⟨fun q => c ((z2 x).mp q), z1⟩, fun k => by rw [List.mem_cons, List.mem_cons, z2], by rw [List.length_cons, z3]⟩
  intro xs ys h1 h2
  obtain ⟨zs, z1, z2, z3⟩ := key xs
  rw [← z3]
  exact ((List.perm_ext_iff_of_nodup h1 z1).mpr fun k => (h2 k).trans (z2 k).symm).length_eq
theorem itemsAre_kV {P : Program} {w : World} : ∀ {k : List L2.Key} {us : List Value}, Vals (k.map kV) us → ItemsAre (mixKind P w) k us
  | [], _, .nil => .nil
  | _ :: _, _, .cons r t => .cons (kV_is r) (itemsAre_kV t)
/-- len(set(xs)) -/
def tDst (K : PySem.W.Frag) (ta : TE) : TE := fun σ H Q => ta σ H fun x H1 => (∃ t ns, x = .ref t ∧ SqT K H1 t (ns.map V.int) ∧ ns.length ≤ 1000 ∧ Q (.int (dstN ns : Nat)) H1) ∨
  ∃ l, ∃ ks : List (Addr × List L2.Key), x = .ref l ∧ SqL K H1 l (ks.map fun p => V.ref p.1) ∧ (∀ p ∈ ks, SqT K H1 p.1 (p.2.map kV)) ∧ ks.length < 64 ∧ Q (.int (dstN (ks.map Prod.snd) : Nat)) H1
theorem refs_vals : ∀ {ks : List (Addr × List L2.Key)} {us : List Value}, Vals (ks.map fun p => V.ref p.1) us → us = ks.map fun p => Value.ref p.1
  | [], _, .nil => rfl
  | _ :: _, _, .cons r t => by
    rw [List.map_cons, ← refs_vals t]
    exact congrArg (· :: _) r
theorem pe_dstN {X : Cx} {a : Expr} {ta : TE} {p p2 q pos : Pos} (hc : X.calm = true) (hg : Gl X "len") (hm : X.mg "len" = none) (hg2 : Gl X "set") (hm2 : X.mg "set" = none) (hu : X.A.units + 64 < cLine) (ha : PE X a ta)
    (na : starEach [a] X.env = (false, eval a X.env) :: starEach [] X.env) : PE X (.Call (.Name "len" p) [.Call (.Name "set" p2) [a] [] q] [] pos) (tDst X.K ta) := by
  refine ⟨fun pins s σ H Q I h => ?_⟩
  refine Call_ (ld_blt I hg hm boot_len (PyProof.Rows.callWith_builtin1 (PyProof.Rows.args_cons ?_ rfl) rfl rfl))
  refine Call_ (ld_blt I hg2 hm2 boot_set ?_)
  refine PyProof.Rows.callWith_type1 (PyProof.Rows.args_cons (thn (ha.run pins s σ H _ I h) fun v s1 ⟨x, H1, I1, r1, q1⟩ => PyProof.Rows.args_nil ?_) na) na rfl
  rcases q1 with ⟨t, ns, rfl, ht, hn, q1⟩ | ⟨l, ks, rfl, hl, hk, hn, q1⟩
  · cases r1
    obtain ⟨its, rv, pt, hz⟩ := I1.tuple ht
    refine call_set_tupI ns (I1.ok.hd hc) (show s1.heap.IsTuple t its.toArray from pt) (RZ.intsAre_vals (by simpa using rv)) (by unfold scanBound; omega) fun h2 tk c R1 _ k => PyProof.Rows.args_nil ?_
    obtain ⟨o, es, ep, tb, ho, hex, hd, _, nd, m, sb, hf, _⟩ := R1
    have I2 : Inv X pins σ H1 { s1 with heap := h2, toks := tk } := I1.kept k
    have e : es.size = dstN ns := by
      rw [← dst_len ns (es.toList.map L2.keyOf) nd fun k => by rw [← m k, decide_eq_true_eq], List.length_map, Array.length_toList]
    unfold scanBound at sb
    exact call_len_set ho hex hd hf (by omega) ⟨.int _, H1, I2.tok _, ⟨_, by rw [e]⟩, q1⟩
  · cases r1
    obtain ⟨its, rv, pl, hz⟩ := I1.list hl
    refine call_set_keys ks (I1.ok.hd hc) pl.isList (by simpa using refs_vals rv) (fun p hp => ?_) hn (by omega) fun h2 tk L es ep tb hS g k => PyProof.Rows.args_nil ?_
    · obtain ⟨us, r2, pt, _⟩ := I1.tuple (hk p hp)
      obtain ⟨o, e1, e2, n, e3⟩ := (show s1.heap.IsTuple p.1 us.toArray from pt)
      exact ⟨o, _, n, e1, e2, e3, itemsAre_kV (by simpa using r2)⟩
    · have I2 : Inv X pins σ H1 { s1 with heap := h2, toks := tk } := I1.kept k
      obtain ⟨o, ho, hex, hd⟩ := hS.obj
      have e : es.size = dstN (ks.map Prod.snd) := by
        rw [ent_size hS.ent, ← dst_len (ks.map Prod.snd) (L.map Prod.snd) hS.uniq fun k => by rw [g.mem k, List.take_length], List.length_map]
      have sm := hS.small
      exact call_len_set ho hex hd (KSet.fits (s := { s1 with heap := h2, toks := tk }) hS) (by rw [ent_size hS.ent]; omega) ⟨.int _, H1, I2.tok _, ⟨_, by rw [e]⟩, q1⟩
end Ev
set_option Elab.async false
set_option linter.all false
set_option maxRecDepth 100000
/-! EvN: built-ins, methods, comprehensions, tests, loops' heads -/
namespace Ev
open PySem PySem.Spec PyProof.Rows L2
variable [XT] [XA] [XE]
variable {Z : Nm} {C : Cfg}
section
variable {X : Cx} {e x y z : Expr} {es : List Expr} {pos p : Pos} {a b c : CE} {cs : CEs}

theorem k_bltB {id : Blt} {md : Md} {n : String} {nm : Str} {f : List W → Store → Res W} (g : Good Z C X) (hf : ∀ ws M, bltW id md ws M = f ws M) (hc : CallR X (.builtin n) (rBlt X.K f)) (hv : bootBuiltins nm = some (.builtin n)) (hm : nm ∈ bltN)
    (hn : nm ≠ "__name__") (hd : (nm == ("__debug__" : Str)) = false) (h2 : glB X.env.scope nm = true) (h4 : es.isEmpty = false) (hs : ∀ e ∈ es, notStar e = true) (ha : PA X es (tA X.K (evEs C cs))) :
    PE X (.Call (.Name nm p) es [] pos) (tE X.K (evE C (.blt id md cs))) := by
  cases es with
  | nil => cases h4
  | cons e es =>
    have hs2 : ∀ x ∈ es, notStar x = true := fun x hx => hs x (List.mem_cons_of_mem _ hx)
    refine PE.imp (pe_callB hc (glB_ok h2) (g.blt _ hm) hv ha hn hd (notStar_each (hs e List.mem_cons_self) _ _) (backTo_plain hs2)) fun pins s σ H Q I ⟨e, M, μ, at_, p⟩ => ?_
    obtain ⟨e1, M1, μ1, a1, p1⟩ := goA at_ (show Post X.K (RV X.K) H μ ((evEs C cs e M).bind fun ws M1 => bltW id md ws M1) Q from p)
    refine ⟨e1, M1, μ1, a1, p1.imp fun vs H1 ⟨ws, M2, μ2, s2, a2, r2, p2⟩ => ?_⟩
    rw [hf] at p2
    exact ⟨ws, M2, μ2, a2.st, r2, p2⟩
theorem k_bltT {id : Blt} {md : Md} {n : String} {nm : Str} {f : List W → Store → Res W} (g : Good Z C X) (hf : ∀ ws M, bltW id md ws M = f ws M) (hc : CallR X (.type n) (rBlt X.K f)) (hv : bootBuiltins nm = some (.type n)) (hm : nm ∈ bltN)
    (hn : nm ≠ "__name__") (hd : (nm == ("__debug__" : Str)) = false) (h2 : glB X.env.scope nm = true) (h4 : es.isEmpty = false) (hs : ∀ e ∈ es, notStar e = true) (ha : PA X es (tA X.K (evEs C cs))) :
    PE X (.Call (.Name nm p) es [] pos) (tE X.K (evE C (.blt id md cs))) := by
  cases es with
  | nil => cases h4
  | cons e es =>
    have hs2 : ∀ x ∈ es, notStar x = true := fun x hx => hs x (List.mem_cons_of_mem _ hx)
    refine PE.imp (pe_callTy hc (glB_ok h2) (g.blt _ hm) hv ha hn hd (notStar_each (hs e List.mem_cons_self) _ _) (backTo_plain hs2)) fun pins s σ H Q I ⟨e, M, μ, at_, p⟩ => ?_
    obtain ⟨e1, M1, μ1, a1, p1⟩ := goA at_ (show Post X.K (RV X.K) H μ ((evEs C cs e M).bind fun ws M1 => bltW id md ws M1) Q from p)
    refine ⟨e1, M1, μ1, a1, p1.imp fun vs H1 ⟨ws, M2, μ2, s2, a2, r2, p2⟩ => ?_⟩
    rw [hf] at p2
    exact ⟨ws, M2, μ2, a2.st, r2, p2⟩
theorem evEs_one {e : Env} {M : Store} : evEs C (.cons a .nil) e M = (evE C a e M).bind fun w M1 => .ok [w] M1 := rfl
theorem k_listr {md : Md} {p2 pos2 : Pos} (g : Good Z C X) (hc : X.calm = true) (h1 : glB X.env.scope "list" = true) (h2 : glB X.env.scope "range" = true) (hs : notStar x = true) (ha : PE X x (tE X.K (evE C a))) :
    PE X (.Call (.Name "list" p) [.Call (.Name "range" p2) [x] [] pos2] [] pos) (tE X.K (evE C (.blt .listr md (.cons a .nil)))) := by
  refine PE.imp (pe_listRg hc (glB_ok h1) (g.blt _ (by decide +kernel)) (prg_1 (glB_ok h2) (g.blt _ (by decide +kernel)) ha (notStar_each hs _ _)) rfl) fun pins s σ H Q I ⟨e, M, μ, at_, p⟩ => ?_
  have p : Post X.K (RV X.K) H μ (((evE C a e M).bind fun w M1 => .ok [w] M1).bind fun ws M1 => bListr md ws M1) Q := p
  rw [Res.bind_assoc] at p
  obtain ⟨e1, M1, μ1, a1, p1⟩ := goE at_ p
  refine ⟨e1, M1, μ1, a1, p1.imp fun v H1 ⟨w, M2, μ2, s2, a2, r2, p2⟩ => ?_⟩
  have p2 : Post X.K (RV X.K) H1 μ2 (bListr md [w] M2) Q := p2
  unfold bListr at p2
  split at p2
  · rename_i n hn
    cases hn
    cases r2
    obtain ⟨⟨c1, c2⟩, p3⟩ := Post.must p2
    exact ⟨n, rfl, RgOk.of_le (Int.le_refl _) c2 (by omega) c1, Post.mk p3 a2.st (rvI_rgV n)⟩
  · exact p2.elim
theorem k_tupr {md : Md} {p2 pos2 : Pos} (g : Good Z C X) (hc : X.calm = true) (h1 : glB X.env.scope "tuple" = true) (h2 : glB X.env.scope "range" = true) (hs : notStar x = true) (ha : PE X x (tE X.K (evE C a))) :
    PE X (.Call (.Name "tuple" p) [.Call (.Name "range" p2) [x] [] pos2] [] pos) (tE X.K (evE C (.blt .tupr md (.cons a .nil)))) := by
  refine PE.imp (pe_tupRgO hc (glB_ok h1) (g.blt _ (by decide +kernel)) (prg_1 (glB_ok h2) (g.blt _ (by decide +kernel)) ha (notStar_each hs _ _)) rfl) fun pins s σ H Q I ⟨e, M, μ, at_, p⟩ => ?_
  have p : Post X.K (RV X.K) H μ (((evE C a e M).bind fun w M1 => .ok [w] M1).bind fun ws M1 => bTupr ws M1) Q := p
  rw [Res.bind_assoc] at p
  obtain ⟨e1, M1, μ1, a1, p1⟩ := goE at_ p
  refine ⟨e1, M1, μ1, a1, p1.imp fun v H1 ⟨w, M2, μ2, s2, a2, r2, p2⟩ => ?_⟩
  have p2 : Post X.K (RV X.K) H1 μ2 (bTupr [w] M2) Q := p2
  unfold bTupr at p2
  split at p2
  · rename_i n hn
    cases hn
    cases r2
    obtain ⟨⟨c1, c2⟩, p3⟩ := Post.must p2
    exact ⟨n, rfl, RgOk.of_le (Int.le_refl _) c2 (by omega) c1, Post.tup p3 a2.st (rvI_rgV n)⟩
  · exact p2.elim
theorem evEs_two {b : CE} {e : Env} {M : Store} : evEs C (.cons a (.cons b .nil)) e M = (evE C a e M).bind fun w M1 => (evE C b e M1).bind fun u M2 => .ok [w, u] M2 := by
  show (evE C a e M).bind (fun w M1 => ((evE C b e M1).bind fun u M2 => .ok [u] M2).bind fun ws M2 => .ok (w :: ws) M2) = _
  congr 1
  funext w M1
  rw [Res.bind_assoc]
  rfl
theorem k_listr2 {md : Md} {y : Expr} {b : CE} {p2 pos2 : Pos} (g : Good Z C X) (hc : X.calm = true) (h1 : glB X.env.scope "list" = true) (h2 : glB X.env.scope "range" = true) (hs : notStar x = true) (hs2 : notStar y = true) (ha : PE X x (tE X.K (evE C a))) (hb : PE X y (tE X.K (evE C b))) :
    PE X (.Call (.Name "list" p) [.Call (.Name "range" p2) [x, y] [] pos2] [] pos) (tE X.K (evE C (.blt .listr2 md (.cons a (.cons b .nil))))) := by
  refine PE.imp (pe_listRg hc (glB_ok h1) (g.blt _ (by decide +kernel)) (prg_2 (glB_ok h2) (g.blt _ (by decide +kernel)) ha hb (notStar_each hs _ _) (notStar_each hs2 _ _) (backTo_plain fun z hz => by rw [List.mem_singleton.mp hz]; exact hs2)) rfl) fun pins s σ H Q I ⟨e, M, μ, at_, p⟩ => ?_
  have p : Post X.K (RV X.K) H μ ((evEs C (.cons a (.cons b .nil)) e M).bind fun ws M1 => bListr2 md ws M1) Q := p
  rw [evEs_two, Res.bind_assoc] at p
  obtain ⟨e1, M1, μ1, a1, p1⟩ := goE at_ p
  refine ⟨e1, M1, μ1, a1, p1.imp fun v H1 ⟨w, M2, μ2, s2, a2, r2, p2⟩ => ?_⟩
  rw [Res.bind_assoc] at p2
  obtain ⟨e3, M3, μ3, a3, p3⟩ := goE a2 p2
  refine ⟨e3, M3, μ3, a3, p3.imp fun v2 H2 ⟨w2, M4, μ4, s4, a4, r4, p4⟩ => ?_⟩
  have p4 : Post X.K (RV X.K) H2 μ4 (bListr2 md [w, w2] M4) Q := p4
  have r2 := r2.stp s4
  unfold bListr2 at p4
  split at p4
  · rename_i n m hn
    cases hn
    cases r2
    cases r4
    obtain ⟨⟨⟨c1, c2, c3, c4⟩, c5⟩, p5⟩ := Post.must p4
    exact ⟨n, m, rfl, rfl, ⟨c1, c2, c3, c4, c5⟩, Post.mk p5 a4.st (rvI_rgV2 n m)⟩
  · exact p4.elim
theorem k_tupr2 {md : Md} {y : Expr} {b : CE} {p2 pos2 : Pos} (g : Good Z C X) (hc : X.calm = true) (h1 : glB X.env.scope "tuple" = true) (h2 : glB X.env.scope "range" = true) (hs : notStar x = true) (hs2 : notStar y = true) (ha : PE X x (tE X.K (evE C a))) (hb : PE X y (tE X.K (evE C b))) :
    PE X (.Call (.Name "tuple" p) [.Call (.Name "range" p2) [x, y] [] pos2] [] pos) (tE X.K (evE C (.blt .tupr2 md (.cons a (.cons b .nil))))) := by
  refine PE.imp (pe_tupRgO hc (glB_ok h1) (g.blt _ (by decide +kernel)) (prg_2 (glB_ok h2) (g.blt _ (by decide +kernel)) ha hb (notStar_each hs _ _) (notStar_each hs2 _ _) (backTo_plain fun z hz => by rw [List.mem_singleton.mp hz]; exact hs2)) rfl) fun pins s σ H Q I ⟨e, M, μ, at_, p⟩ => ?_
  have p : Post X.K (RV X.K) H μ ((evEs C (.cons a (.cons b .nil)) e M).bind fun ws M1 => bTupr2 ws M1) Q := p
  rw [evEs_two, Res.bind_assoc] at p
  obtain ⟨e1, M1, μ1, a1, p1⟩ := goE at_ p
  refine ⟨e1, M1, μ1, a1, p1.imp fun v H1 ⟨w, M2, μ2, s2, a2, r2, p2⟩ => ?_⟩
  rw [Res.bind_assoc] at p2
  obtain ⟨e3, M3, μ3, a3, p3⟩ := goE a2 p2
  refine ⟨e3, M3, μ3, a3, p3.imp fun v2 H2 ⟨w2, M4, μ4, s4, a4, r4, p4⟩ => ?_⟩
  have p4 : Post X.K (RV X.K) H2 μ4 (bTupr2 [w, w2] M4) Q := p4
  have r2 := r2.stp s4
  unfold bTupr2 at p4
  split at p4
  · rename_i n m hn
    cases hn
    cases r2
    cases r4
    obtain ⟨⟨⟨c1, c2, c3, c4⟩, c5⟩, p5⟩ := Post.must p4
    exact ⟨n, m, rfl, rfl, ⟨c1, c2, c3, c4, c5⟩, Post.tup p5 a4.st (rvI_rgV2 n m)⟩
  · exact p4.elim
theorem tkeysOf_ok {K : PySem.W.Frag} {H : Hp} {μ : Mu} : ∀ {xs : List D} {vs : List V} {ks : List (List Key)}, DRs K H μ xs vs → tkeysOf xs = some ks → ∃ ks2 : List (Addr × List L2.Key), vs = (ks2.map fun p => V.ref p.1) ∧ ks2.map Prod.snd = ks ∧ ∀ p ∈ ks2, SqT K H p.1 (p.2.map kV)
  | _, _, _, .nil, h => by
    cases h
    exact ⟨[], rfl, rfl, fun p hp => nomatch hp⟩
  | d :: r, _, _, .cons hd hr, h => by
    simp only [tkeysOf, Option.bind_eq_some_iff] at h
    obtain ⟨k, h1, ks, h2, h3⟩ := h
    cases h3
    obtain ⟨ks2, q1, q2, q3⟩ := tkeysOf_ok hr h2
    cases hd with
    | tup f ho dr =>
      unfold tkeyOf at h1
      rw [keysOf_kV dr h1] at ho
      refine ⟨(_, k) :: ks2, by rw [q1]; rfl, by rw [← q2]; rfl, fun p hp => ?_⟩
      rcases List.mem_cons.mp hp with rfl | hp
      · exact .inl ho.rd
      · exact q3 p hp
    | _ => cases h1
theorem k_lset {md : Md} {p2 pos2 : Pos} (g : Good Z C X) (hc : X.calm = true) (h1 : glB X.env.scope "len" = true) (h2 : glB X.env.scope "set" = true) (hs : notStar x = true) (ha : PE X x (tE X.K (evE C a))) :
    PE X (.Call (.Name "len" p) [.Call (.Name "set" p2) [x] [] pos2] [] pos) (tE X.K (evE C (.blt .lset md (.cons a .nil)))) := by
  refine PE.imp (pe_dstN hc (glB_ok h1) (g.blt _ (by decide +kernel)) (glB_ok h2) (g.blt _ (by decide +kernel)) (by have := g.line; omega) ha (notStar_each hs _ _)) fun pins s σ H Q I ⟨e, M, μ, at_, p⟩ => ?_
  have p : Post X.K (RV X.K) H μ (((evE C a e M).bind fun w M1 => .ok [w] M1).bind fun ws M1 => bLset ws M1) Q := p
  rw [Res.bind_assoc] at p
  obtain ⟨e1, M1, μ1, a1, p1⟩ := goE at_ p
  refine ⟨e1, M1, μ1, a1, p1.imp fun v H1 ⟨w, M2, μ2, s2, a2, r2, p2⟩ => ?_⟩
  have p2 : Post X.K (RV X.K) H1 μ2 (bLset [w] M2) Q := p2
  unfold bLset at p2
  split at p2
  · rename_i xs hn
    cases hn
    obtain ⟨ns, e3, p3⟩ := Post.withO p2
    obtain ⟨c, p4⟩ := Post.must p3
    cases r2 with
    | tup f ho dr =>
      rw [intsD_ok dr e3] at ho
      exact .inl ⟨_, ns, rfl, .inl ho.rd, c, p4.now a2.st (.int _)⟩
  · rename_i u hn2 hn
    cases hn
    obtain ⟨xs, e3, p3⟩ := Post.withO p2
    obtain ⟨ks, e4, p4⟩ := Post.withO p3
    obtain ⟨c, p5⟩ := Post.must p4
    obtain ⟨a, vs, rfl, ho, dr⟩ := lstOf_rd a2.st e3 r2
    obtain ⟨ks2, q1, q2, q3⟩ := tkeysOf_ok dr e4
    rw [q1] at ho
    subst q2
    rw [List.length_map] at c
    exact .inr ⟨a, ks2, rfl, .inl ho, q3, c, p5.now a2.st (.int _)⟩
  · exact p2.elim
theorem k_isi {t : Ty} {n2 : Str} {p2 : Pos} (g : Good Z C X) (h1 : glB X.env.scope "isinstance" = true) (hn : n2 = tyS t) (h2 : glB X.env.scope n2 = true) (hs : notStar x = true) (ha : PE X x (tE X.K (evE C a))) :
    PE X (.Call (.Name "isinstance" p) [x, .Name n2 p2] [] pos) (tE X.K (evE C (.isi a t))) := by
  have hb : PE X (.Name n2 p2) (tC (.ty (tyN t))) := ty_ok g hn h2
  have hA : PA X [x, .Name n2 p2] (tCons (tE X.K (evE C a)) (tCons (tC (.ty (tyN t))) tNil)) := pa_cons ha (pa_cons hb pa_nil rfl) (notStar_each hs _ _)
  refine PE.imp (pe_callB call_isi (glB_ok h1) (g.blt _ (by decide +kernel)) boot_isi hA (by decide) (by decide) (notStar_each hs _ _) rfl) fun pins s σ H Q I ⟨e, M, μ, at_, p⟩ => ?_
  obtain ⟨e1, M1, μ1, a1, p1⟩ := goE at_ (show Post X.K (RV X.K) H μ ((evE C a e M).bind fun x M1 => withO (isiW x t M1) fun b => boolR b M1) Q from p)
  refine ⟨e1, M1, μ1, a1, p1.imp fun v H1 ⟨w, M2, μ2, s2, a2, r2, p2⟩ => ?_⟩
  obtain ⟨b, h, p3⟩ := Post.withO p2
  obtain ⟨tg, ht, rfl⟩ := Option.map_eq_some_iff.mp (show (tgW w M2).map (fun g => tgB g t) = some b from h)
  exact ⟨v, .ty (tyN t), .type (tgN tg), .type (tyN t), tgB tg t, rfl, .ty _, tgW_ok a2.st r2 ht, kit_ty (kit_tg tg t), boolR_ok a2.st p3⟩
theorem tyV_lst {K : PySem.W.Frag} {H : Hp} {μ : Mu} {M : Store} {w : W} {v : V} (S : StR K H μ M) (r : WR K H μ w v) (h : (lstOf w M).isSome = true) : tyV K "list" v H := by
  obtain ⟨xs, hx⟩ := Option.isSome_iff_exists.mp h
  obtain ⟨a, vs, rfl, ho, _⟩ := lstOf_rd S hx r
  exact .inl ⟨rfl, vs, .inl ho⟩
theorem tup_is {X : Cx} {pins : List (Addr × Obj)} {σ : L2.St} {H : Hp} {s : Shared} {μ : Mu} {w : W} {x : V} {v : Value} (k1 : XT.kt = true) (I : L2.Inv X pins σ H s) (rx : RelV x v) (r : WR X.K H μ w x) (h : isTupD w = true) :
    s.TypeIs v "tuple" ∧ ∀ a, v = .ref a → ∃ ob, s.heap.get? a = some ob ∧ ob.dict = none := by
  unfold isTupD at h
  split at h
  · have r : DR X.K H μ (.tuple _) x := r
    cases r with
    | tup f ho dr =>
      cases rx
      obtain ⟨o, c, d, e⟩ := ho.known k1
      have q := (I.hok _ _ e).1
      exact ⟨⟨o, q, c⟩, fun a z => by cases z; exact ⟨o, q, d⟩⟩
  · cases h
theorem k_mthT {id : Mth} {ide : String} {nm : Str} {f : W → List W → Store → Res W} {ap : Pos} (hk : Z.kt = true) (g : Good Z C X) (hf : ∀ w ws M, mthW id w ws M = f w ws M) (ht : ∀ w M, mTy id w M = isTupD w) (slot : Slot "tuple" nm ide) (hty : typeOf (.builtin ide) = pure (.type "method_descriptor"))
    (hc : MtR X ide (rMth X.K f)) (hb : notSuper x = true) (hl : (ap.endLine == pos.line) = true) (h4 : es.isEmpty = false) (h20 : es.length < 20) (hs : ∀ e ∈ es, notStar e = true) (ho : PE X x (tE X.K (evE C a))) (ha : PA X es (tA X.K (evEs C cs))) :
    PE X (.Call (.Attribute x nm ap) es [] pos) (tE X.K (evE C (.mth id a cs))) := by
  cases es with
  | nil => cases h4
  | cons e es =>
    have hs2 : ∀ x ∈ es, notStar x = true := fun x hx => hs x (List.mem_cons_of_mem _ hx)
    refine ⟨fun pins s σ H Q I ⟨e0, M, μ, at_, p⟩ => ?_⟩
    obtain ⟨e1, M1, μ1, a1, p1⟩ := goE at_ (show Post X.K (RV X.K) H μ ((evE C a e0 M).bind fun x M1 => must (mTy id x M1 = true) ((evEs C cs e0 M1).bind fun ws M2 => mthW id x ws M2)) Q from p)
    refine wpAny_Call_method_late (notSuper_base hb) (few_ok hs h20) hl rfl (thn (ho.run pins s σ H _ I ⟨e1, M1, μ1, a1, p1⟩) fun v s1 ⟨x1, H1, I1, rx, w, M2, μ2, s2, a2, r2, p2⟩ => ?_)
    obtain ⟨c, p3⟩ := Post.must p2
    rw [ht] at c
    obtain ⟨q1, q2⟩ := tup_is (by rw [← g.ktg]; exact hk) I1 rx r2 c
    refine ⟨"tuple", ide, PySem.F.plainAttrs_tuple, slot, hty, q1, q2, ?_⟩
    obtain ⟨e4, M4, μ4, a4, p4⟩ := goA a2 p3
    have run := ha.run pos pins s1 σ H1 _ I1 ⟨e4, M4, μ4, a4, p4⟩
    have se := notStar_each (hs e List.mem_cons_self) es X.env
    rw [se] at run ⊢
    refine Calls.callWith_builtin (by show (false || (backTo pos (starEach es X.env)).any (·.1)) = false; rw [backTo_plain hs2]; rfl) (Calls.evalArgs_plain ?_)
    exact thn run fun us s3 ⟨vs, H2, I2, rv, ws, M5, μ5, s5, a5, r5, p5⟩ => hc pins s3 σ H2 x1 vs v us Q I2 rx rv ⟨w, ws, M5, μ5, a5.st, r2.stp s5, r5, by rw [← hf]; exact p5⟩
theorem k_mthL {id : Mth} {ide : String} {nm : Str} {f : W → List W → Store → Res W} {ap : Pos} (hf : ∀ w ws M, mthW id w ws M = f w ws M) (ht : ∀ w M, mTy id w M = (lstOf w M).isSome) (slot : Slot "list" nm ide) (hty : typeOf (.builtin ide) = pure (.type "method_descriptor"))
    (hc : MtR X ide (rMth X.K f)) (hb : notSuper x = true) (hl : (ap.endLine == pos.line) = true) (h4 : es.isEmpty = false) (h20 : es.length < 20) (hs : ∀ e ∈ es, notStar e = true) (ho : PE X x (tE X.K (evE C a))) (ha : PA X es (tA X.K (evEs C cs))) :
    PE X (.Call (.Attribute x nm ap) es [] pos) (tE X.K (evE C (.mth id a cs))) := by
  cases es with
  | nil => cases h4
  | cons e es =>
    have hs2 : ∀ x ∈ es, notStar x = true := fun x hx => hs x (List.mem_cons_of_mem _ hx)
    refine PE.imp (pe_bm PySem.F.plainAttrs_list slot hty hc ho ha (notSuper_base hb) (few_ok hs h20) hl (notStar_each (hs e List.mem_cons_self) _ _) (backTo_plain hs2)) fun pins s σ H Q I ⟨e, M, μ, at_, p⟩ => ?_
    obtain ⟨e1, M1, μ1, a1, p1⟩ := goE at_ (show Post X.K (RV X.K) H μ ((evE C a e M).bind fun x M1 => must (mTy id x M1 = true) ((evEs C cs e M1).bind fun ws M2 => mthW id x ws M2)) Q from p)
    refine ⟨e1, M1, μ1, a1, p1.imp fun v H1 ⟨w, M2, μ2, s2, a2, r2, p2⟩ => ?_⟩
    obtain ⟨c, p3⟩ := Post.must p2
    rw [ht] at c
    refine ⟨tyV_lst a2.st r2 c, ?_⟩
    obtain ⟨e4, M4, μ4, a4, p4⟩ := goA a2 p3
    refine ⟨e4, M4, μ4, a4, p4.imp fun vs H2 ⟨ws, M5, μ5, s5, a5, r5, p5⟩ => ?_⟩
    rw [hf] at p5
    exact ⟨w, ws, M5, μ5, a5.st, r2.stp s5, r5, p5⟩
theorem k_mthL0 {id : Mth} {ide : String} {nm : Str} {f : W → List W → Store → Res W} {ap : Pos} (hf : ∀ w ws M, mthW id w ws M = f w ws M) (ht : ∀ w M, mTy id w M = (lstOf w M).isSome) (slot : Slot "list" nm ide) (hty : typeOf (.builtin ide) = pure (.type "method_descriptor"))
    (hc : MtR X ide (rMth X.K f)) (hb : notSuper x = true) (hl : (ap.endLine == pos.line) = true) (h4 : es.isEmpty = true) (ho : PE X x (tE X.K (evE C a))) (ha : PA X es (tA X.K (evEs C cs))) (hcs : cs = .nil) :
    PE X (.Call (.Attribute x nm ap) es [] pos) (tE X.K (evE C (.mth id a cs))) := by
  subst hcs
  cases es with
  | cons => cases h4
  | nil =>
    refine PE.imp (pe_bm0 PySem.F.plainAttrs_list slot hty hc ho (notSuper_base hb) hl) fun pins s σ H Q I ⟨e, M, μ, at_, p⟩ => ?_
    obtain ⟨e1, M1, μ1, a1, p1⟩ := goE at_ (show Post X.K (RV X.K) H μ ((evE C a e M).bind fun x M1 => must (mTy id x M1 = true) (mthW id x [] M1)) Q from p)
    refine ⟨e1, M1, μ1, a1, p1.imp fun v H1 ⟨w, M2, μ2, s2, a2, r2, p2⟩ => ?_⟩
    obtain ⟨c, p3⟩ := Post.must p2
    rw [ht] at c
    rw [hf] at p3
    exact ⟨tyV_lst a2.st r2 c, w, [], M2, μ2, a2.st, r2, .nil, p3⟩

theorem tyV_dic {K : PySem.W.Frag} {H : Hp} {μ : Mu} {M : Store} {w : W} {v : V} (S : StR K H μ M) (r : WR K H μ w v) (h : isDic w M = true) : tyV K "dict" v H := by
  unfold isDic at h
  split at h
  · rename_i n
    split at h
    · rename_i kvs q
      rcases r with ⟨a, ha, rfl⟩ | hw
      · obtain ⟨ob, h3, h4⟩ := S.cells n _ a q ha
        cases ob <;> first | exact h4.elim | skip
        exact .inr (.inr (.inl ⟨rfl, .inl ⟨_, h3⟩⟩))
      · cases S.deads n _ q hw
    · rename_i kvs q
      rcases r with ⟨a, ha, rfl⟩ | hw
      · obtain ⟨ob, h3, h4⟩ := S.cells n _ a q ha
        cases ob <;> first | exact h4.elim | skip
        exact .inr (.inr (.inl ⟨rfl, .inr ⟨_, h3⟩⟩))
      · cases S.deads n _ q hw
    · rename_i kvs q
      rcases r with ⟨a, ha, rfl⟩ | hw
      · obtain ⟨ob, h3, h4⟩ := S.cells n _ a q ha
        cases ob <;> first | exact h4.elim | skip
        exact .inr (.inr (.inl ⟨rfl, .inl ⟨_, h3⟩⟩))
      · cases S.deads n _ q hw
    · cases h
  · cases h
theorem k_mthD {id : Mth} {ide : String} {nm : Str} {f : W → List W → Store → Res W} {ap : Pos} (hf : ∀ w ws M, mthW id w ws M = f w ws M) (ht : ∀ w M, mTy id w M = isDic w M) (slot : Slot "dict" nm ide) (hty : typeOf (.builtin ide) = pure (.type "method_descriptor"))
    (hc : MtR X ide (rMth X.K f)) (hb : notSuper x = true) (hl : (ap.endLine == pos.line) = true) (h4 : es.isEmpty = false) (h20 : es.length < 20) (hs : ∀ e ∈ es, notStar e = true) (ho : PE X x (tE X.K (evE C a))) (ha : PA X es (tA X.K (evEs C cs))) :
    PE X (.Call (.Attribute x nm ap) es [] pos) (tE X.K (evE C (.mth id a cs))) := by
  cases es with
  | nil => cases h4
  | cons e es =>
    have hs2 : ∀ x ∈ es, notStar x = true := fun x hx => hs x (List.mem_cons_of_mem _ hx)
    refine PE.imp (pe_bm PySem.F.plainAttrs_dict slot hty hc ho ha (notSuper_base hb) (few_ok hs h20) hl (notStar_each (hs e List.mem_cons_self) _ _) (backTo_plain hs2)) fun pins s σ H Q I ⟨e, M, μ, at_, p⟩ => ?_
    obtain ⟨e1, M1, μ1, a1, p1⟩ := goE at_ (show Post X.K (RV X.K) H μ ((evE C a e M).bind fun x M1 => must (mTy id x M1 = true) ((evEs C cs e M1).bind fun ws M2 => mthW id x ws M2)) Q from p)
    refine ⟨e1, M1, μ1, a1, p1.imp fun v H1 ⟨w, M2, μ2, s2, a2, r2, p2⟩ => ?_⟩
    obtain ⟨c, p3⟩ := Post.must p2
    rw [ht] at c
    refine ⟨tyV_dic a2.st r2 c, ?_⟩
    obtain ⟨e4, M4, μ4, a4, p4⟩ := goA a2 p3
    refine ⟨e4, M4, μ4, a4, p4.imp fun vs H2 ⟨ws, M5, μ5, s5, a5, r5, p5⟩ => ?_⟩
    rw [hf] at p5
    exact ⟨w, ws, M5, μ5, a5.st, r2.stp s5, r5, p5⟩
theorem findIx_ok {x : D} : ∀ {xs : List D} {i j : Nat}, findIx x xs i = some j → ∃ k z, j = i + k ∧ xs[k]? = some z ∧ PyData.eqv z x = true ∧ ∀ (m : Nat) (z' : D), m < k → xs[m]? = some z' → PyData.eqv z' x = false
  | [], _, _, h => by cases h
  | y :: r, i, j, h => by
    unfold findIx at h
    split at h
    · rename_i e
      cases h
      exact ⟨0, y, rfl, rfl, e, fun m z' hm _ => absurd hm (by omega)⟩
    · rename_i e
      obtain ⟨k, z, h1, h2, h3, h4⟩ := findIx_ok h
      refine ⟨k + 1, z, by omega, h2, h3, fun m z' hm hz => ?_⟩
      cases m with
      | zero =>
        cases hz
        simpa using e
      | succ m => exact h4 m z' (by omega) hz
theorem mth_index (hu : X.A.units + 65 < cLine) : MtR X "list.index" (rMth X.K mIndex) := by
  intro pins s σ H x xs v us Q I rx rs h
  obtain ⟨w, ws, M, μ, S, hw, hs, p⟩ := h
  unfold mIndex at p
  split at p
  · rename_i d
    obtain ⟨u, rfl, hu2⟩ := hs.one
    obtain ⟨ys, e, p1⟩ := Post.withO p
    obtain ⟨⟨c1, c2⟩, p2⟩ := Post.must p1
    obtain ⟨j, e2, p3⟩ := Post.withO p2
    obtain ⟨a, vs, rfl, hq, dr⟩ := lstOf_rd S e hw
    obtain ⟨k, z, h1, h2, h3, h4⟩ := findIx_ok e2
    rw [Nat.zero_add] at h1
    subst h1
    exact mt_indexD hu pins s σ H _ _ v us Q I rx rs ⟨a, u, d, ys, j, z, rfl, rfl, .lst (.inl hq) dr.dp, DR.dp hu2, c2, c1, h2, h3, h4, Post.now (RA := RV X.K) (b := V.int _) p3 S (DR.int _)⟩
  · exact p.elim
theorem mth_remove (hu : X.A.units + 65 < cLine) : MtR X "list.remove" (rMth X.K mRemove) := by
  intro pins s σ H x xs v us Q I rx rs h
  obtain ⟨w, ws, M, μ, S, hw, hs, p⟩ := h
  unfold mRemove at p
  split at p
  · rename_i n d
    obtain ⟨u, rfl, hu2⟩ := hs.one
    obtain ⟨ys, e, p1⟩ := Post.withO p
    obtain ⟨⟨c1, c2⟩, p2⟩ := Post.must p1
    obtain ⟨j, e2, p3⟩ := Post.withO p2
    obtain ⟨a, vs, ha, rfl, hq, dr⟩ := S.cell e hw
    obtain ⟨k, z, h1, h2, h3, h4⟩ := findIx_ok e2
    rw [Nat.zero_add] at h1
    subst h1
    obtain ⟨s1, S1⟩ := stp_set (c := .lst (ys.eraseIdx _)) (o1 := .lst (vs.eraseIdx _)) S hq ha (dr.eraseIdx _)
    exact mt_removeD hu pins s σ H _ _ v us Q I rx rs ⟨a, u, d, ys, vs, _, z, rfl, rfl, hq, dr.dp, DR.dp hu2, c2, c1, h2, h3, h4, p3 _ _ _ s1 S1 DR.non⟩
  · exact p.elim
theorem mth_count (hu : X.A.units + 65 < cLine) : MtR X "list.count" (rMth X.K mCount) := by
  intro pins s σ H x xs v us Q I rx rs h
  obtain ⟨w, ws, M, μ, S, hw, hs, p⟩ := h
  unfold mCount at p
  split at p
  · rename_i d
    obtain ⟨u, rfl, hu2⟩ := hs.one
    obtain ⟨ys, e, p1⟩ := Post.withO p
    obtain ⟨⟨c1, c2⟩, p2⟩ := Post.must p1
    obtain ⟨a, vs, rfl, hq, dr⟩ := lstOf_rd S e hw
    exact mt_countD hu pins s σ H _ _ v us Q I rx rs ⟨a, u, d, ys, rfl, rfl, .lst (.inl hq) dr.dp, DR.dp hu2, c2, c1, Post.now (RA := RV X.K) (b := V.int _) p2 S (DR.int _)⟩
  · exact p.elim
theorem mth_tcount (hu : X.A.units + 65 < cLine) : MtR X "tuple.count" (rMth X.K mTcount) := by
  intro pins s σ H x xs v us Q I rx rs h
  obtain ⟨w, ws, M, μ, S, hw, hs, p⟩ := h
  unfold mTcount at p
  split at p
  · rename_i ys d
    obtain ⟨u, rfl, hu2⟩ := hs.one
    obtain ⟨⟨c1, c2⟩, p2⟩ := Post.must p
    have dr : DR X.K H μ (.tuple ys) x := hw
    cases dr with
    | tup f ho dr =>
      exact mt_tcountD hu pins s σ H _ _ v us Q I rx rs ⟨_, u, d, ys, rfl, rfl, .tup (.inl ho.rd) dr.dp, DR.dp hu2, c2, c1, Post.now (RA := RV X.K) (b := V.int _) p2 S (DR.int _)⟩
  · exact p.elim
theorem mth_get1 (hu : X.A.units + 1 < cLine) : MtR X "dict.get" (rMth X.K mGet1) := by
  intro pins s σ H x xs v us Q I rx rs h
  obtain ⟨w, ws, M, μ, S, hw, hs, p⟩ := h
  unfold mGet1 at p
  split at p
  · obtain ⟨u, rfl, hu2⟩ := hs.one
    obtain ⟨o, e, p1⟩ := Post.withO p
    obtain ⟨a, r, rfl, g, ro⟩ := dget_ok S hw hu2 e
    obtain ⟨u1, rfl, ru⟩ := rs.one
    cases rx
    refine d_get1 hu I g ru fun w' s' I' rw' => ⟨_, H, I', rw', ?_⟩
    rcases ro with ⟨rfl, rfl⟩ | ⟨y, u', rfl, rfl, dr⟩
    · exact Post.now (RA := RV X.K) (b := V.non) p1 S DR.non
    · exact Post.now (RA := RV X.K) p1 S dr
  · exact p.elim
theorem mth_get2 (hu : X.A.units + 1 < cLine) : MtR X "dict.get" (rMth X.K mGet2) := by
  intro pins s σ H x xs v us Q I rx rs h
  obtain ⟨w, ws, M, μ, S, hw, hs, p⟩ := h
  unfold mGet2 at p
  split at p
  · obtain ⟨u, u', rfl, hu2, hu3⟩ := hs.two
    obtain ⟨o, e, p1⟩ := Post.withO p
    obtain ⟨a, r, rfl, g, ro⟩ := dget_ok S hw hu2 e
    obtain ⟨u1, u2, rfl, ru, ru2⟩ := rs.two
    cases rx
    refine d_get2 hu I g ru ru2 fun w' s' I' rw' => ⟨_, H, I', rw', ?_⟩
    rcases ro with ⟨rfl, rfl⟩ | ⟨y, u', rfl, rfl, dr⟩
    · exact Post.now (RA := RV X.K) p1 S hu3
    · exact Post.now (RA := RV X.K) p1 S dr
  · exact p.elim
theorem k_dnew {t : Bool} (k0 : t = true → XT.kt = false) : PE X (.Dict [] [] pos) (tE X.K (evE C (.dnew t))) := by
  cases t with
  | false =>
    refine PE.imp pe_dnewK fun pins s σ H Q I ⟨e, M, μ, at_, p⟩ q hq => ?_
    have p : Post X.K (RV X.K) H μ (.ok (.r M.length) (M ++ [.dK []])) Q := p
    obtain ⟨s1, S1, w1⟩ := stp_cell (c := .dK []) (o := .dK []) at_.st hq KRs.nil trivial
    exact p _ _ _ s1 S1 w1
  | true =>
    refine PE.imp pe_dnewT fun pins s σ H Q I ⟨e, M, μ, at_, p⟩ q hq => ?_
    have p : Post X.K (RV X.K) H μ (.ok (.r M.length) (M ++ [.dT []])) Q := p
    obtain ⟨s1, S1, w1⟩ := stp_cell (c := .dT []) (o := .dT []) at_.st hq ⟨k0 rfl, KRs.nil⟩ trivial
    exact p _ _ _ s1 S1 w1
theorem k_dcomp {own : List Nat} {t : CT} {it : CI} {cd : CC} {t0 i0 : Expr} {ifs : List Expr} {scope : Scope} (g : Good Z C X) (hc : X.calm = true) (hi : PI X t0 i0 (tI X.K (evI C it))) (hs : notSet i0 = true) (hb : blkC X.N X.env.scope scope (ownOf X.N own) = true) (hown : (ctS t).all (fun k => own.contains k) = true)
    (hg : ∀ (s : Shared) (H : Hp) (Cc : Addr) (cl : List (Str × Addr)) (fp : List Addr), PG (X.blk s H scope (compEnvC scope cl Cc X.env) fp) t0 (gT X.K t))
    (ht : ∀ (s : Shared) (H : Hp) (Cc : Addr) (cl : List (Str × Addr)) (fp : List Addr), PTs (X.blk s H scope (compEnvC scope cl Cc X.env) fp) ifs (@tB _ _ xF X.K (evC C cd)))
    (hk : ∀ (s : Shared) (H : Hp) (Cc : Addr) (cl : List (Str × Addr)) (fp : List Addr), PE (X.blk s H scope (compEnvC scope cl Cc X.env) fp) x (@tE _ _ xF X.K (evE C a)))
    (he : ∀ (s : Shared) (H : Hp) (Cc : Addr) (cl : List (Str × Addr)) (fp : List Addr), PE (X.blk s H scope (compEnvC scope cl Cc X.env) fp) y (@tE _ _ xF X.K (evE C b))) :
    PE X (.DictComp x y [⟨t0, i0, ifs, 0⟩] scope pos) (tE X.K (evE C (.dcomp own t it cd a b))) := by
  have eo : (ownOf X.N own).map (·.2) = own := by
    unfold ownOf
    rw [List.map_map]
    exact List.map_id own
  refine PE.imp (pe_dc hc g.nodup hi (blkOk_by hb) hg ht hk he fun _ => notSet_fold hs _ _) fun pins s σ H Q I ⟨e, M, μ, at_, p⟩ => ?_
  rw [eo]
  exact dcomp_ok (F := C.F) (fun i hi => by simpa using List.all_eq_true.mp hown i hi) at_ p

/-! ### tests -/
theorem k_tru (h : truB x = true) (ha : PE X x (tE X.K (evE C a))) : PT X x (tB X.K (evB C (.tru a))) := by
  refine PT.imp (pt_truth ha (truB_ok h)) fun σ H Q ⟨e, M, μ, at_, p⟩ => ?_
  obtain ⟨e1, M1, μ1, a1, p1⟩ := goE at_ (show Post X.K (RId Bool) H μ ((evE C a e M).bind fun w M1 => withO (truW w M1) fun b => .ok b M1) Q from p)
  refine ⟨e1, M1, μ1, a1, p1.imp fun v H1 ⟨w, M2, μ2, s2, a2, r2, p2⟩ => ?_⟩
  obtain ⟨t, h, p3⟩ := Post.withO p2
  exact ⟨t, truW_ok a2.st r2 h, p3.now a2.st rfl⟩
theorem k_notT {t : CB} (ha : PT X x (tB X.K (evB C t))) : PT X (.UnaryOp .Not x pos) (tB X.K (evB C (.not t))) := by
  refine PT.imp (pt_not ha) fun σ H Q ⟨e, M, μ, at_, p⟩ => ?_
  obtain ⟨e1, M1, μ1, a1, p1⟩ := goB at_ (show Post X.K (RId Bool) H μ ((evB C t e M).bind fun t M1 => .ok (!t) M1) Q from p)
  exact ⟨e1, M1, μ1, a1, p1.imp fun k H1 ⟨M2, μ2, s2, a2, p2⟩ => p2.now a2.st rfl⟩
theorem im_and {t u : CB} {σ : L2.St} {H : Hp} {Q : Bool → Hp → Prop} {K : PySem.W.Frag} (h : tB K (evB C (.and t u)) σ H Q) : tAnd (tB K (evB C t)) (tB K (evB C u)) σ H Q := by
  obtain ⟨e, M, μ, at_, p⟩ := h
  obtain ⟨e1, M1, μ1, a1, p1⟩ := goB at_ (show Post K (RId Bool) H μ ((evB C t e M).bind fun t M1 => if t = true then evB C u e M1 else .ok false M1) Q from p)
  refine ⟨e1, M1, μ1, a1, p1.imp fun k H1 ⟨M2, μ2, s2, a2, p2⟩ => ?_⟩
  cases k with
  | true =>
    rw [if_pos rfl] at p2 ⊢
    exact ⟨e, M2, μ2, a2, p2⟩
  | false =>
    rw [if_neg Bool.false_ne_true] at p2 ⊢
    exact p2.now a2.st rfl
theorem im_or {t u : CB} {σ : L2.St} {H : Hp} {Q : Bool → Hp → Prop} {K : PySem.W.Frag} (h : tB K (evB C (.or t u)) σ H Q) : tOr (tB K (evB C t)) (tB K (evB C u)) σ H Q := by
  obtain ⟨e, M, μ, at_, p⟩ := h
  obtain ⟨e1, M1, μ1, a1, p1⟩ := goB at_ (show Post K (RId Bool) H μ ((evB C t e M).bind fun t M1 => if t = true then .ok true M1 else evB C u e M1) Q from p)
  refine ⟨e1, M1, μ1, a1, p1.imp fun k H1 ⟨M2, μ2, s2, a2, p2⟩ => ?_⟩
  cases k with
  | true =>
    rw [if_pos rfl] at p2 ⊢
    exact p2.now a2.st rfl
  | false =>
    rw [if_neg Bool.false_ne_true] at p2 ⊢
    exact ⟨e, M2, μ2, a2, p2⟩

/-! ### what is walked -/
variable {tg : Expr}
theorem k_rng1 (g : Good Z C X) (h2 : glB X.env.scope "range" = true) (hs : notStar x = true) (ha : PE X x (tE X.K (evE C a))) : PI X tg (.Call (.Name "range" p) [x] [] pos) (tI X.K (evI C (.rng1 a))) := by
  refine PI.imp (pi_range1 (glB_ok h2) (g.blt _ (by decide +kernel)) (pa_cons ha pa_nil (notStar_each hs _ _)) (by rw [notStar_each hs]; rfl)) fun σ H R ⟨e, M, μ, at_, p⟩ => ?_
  obtain ⟨e1, M1, μ1, a1, p1⟩ := goE at_ (show Post X.K (RI X.K) H μ ((evE C a e M).bind fun w M1 => match w with
    | .d (.int n) => must (-(2 ^ 62) ≤ n ∧ n < 2 ^ 62) (.ok (.items (range0 n)) M1)
    | _ => .stuck) R from p)
  refine ⟨e1, M1, μ1, a1, p1.imp fun v H1 ⟨w, M2, μ2, s2, a2, r2, p2⟩ => ?_⟩
  split at p2
  · rename_i n
    cases r2
    obtain ⟨c, p3⟩ := Post.must p2
    refine ⟨n, rfl, c.1, c.2, Post.now (RA := RI X.K) p3 a2.st fun H2 μ3 M3 _ S3 i => ?_⟩
    have e : range0 n = (List.range n.toNat).map fun (i : Nat) => .int (0 + (i : Int)) := by
      unfold range0
      refine List.map_congr_left fun i _ => ?_
      rw [Int.zero_add]
    rw [e]
    exact turn_rng S3
  · exact p2.elim
theorem k_rng2 (g : Good Z C X) (h2 : glB X.env.scope "range" = true) (hs : notStar x = true) (hs2 : notStar y = true) (ha : PE X x (tE X.K (evE C a))) (hb : PE X y (tE X.K (evE C b))) : PI X tg (.Call (.Name "range" p) [x, y] [] pos) (tI X.K (evI C (.rng2 a b))) := by
  have e2 : starEach [y] X.env = [(false, eval y X.env)] := by rw [notStar_each hs2]; rfl
  refine PI.imp (pi_range2 (glB_ok h2) (g.blt _ (by decide +kernel)) (pa_cons ha (pa_cons hb pa_nil (notStar_each hs2 _ _)) (notStar_each hs _ _)) (by rw [notStar_each hs, e2]) e2) fun σ H R ⟨e, M, μ, at_, p⟩ => ?_
  obtain ⟨e1, M1, μ1, a1, p1⟩ := goE at_ (show Post X.K (RI X.K) H μ ((evE C a e M).bind fun w M1 => (evE C b e M1).bind fun u M2 => match w, u with
    | .d (.int i), .d (.int j) => must (okR i j) (.ok (.items (range2 i j)) M2)
    | _, _ => .stuck) R from p)
  refine ⟨e1, M1, μ1, a1, p1.imp fun v H1 ⟨w, M2, μ2, s2, a2, r2, p2⟩ => ?_⟩
  obtain ⟨e3, M3, μ3, a3, p3⟩ := goE a2 p2
  refine ⟨e3, M3, μ3, a3, p3.imp fun u H2 ⟨w', M4, μ4, s4, a4, r4, p4⟩ => ?_⟩
  split at p4
  · cases r2
    cases r4
    obtain ⟨c, p5⟩ := Post.must p4
    exact ⟨_, _, rfl, c, Post.now (RA := RI X.K) p5 a4.st fun H2 μ3 M3 _ S3 i => turn_rng S3⟩
  · exact p4.elim
theorem k_enum {elts : List Expr} {kk : _} {tpos : Pos} (k0 : XT.kt = false) (g : Good Z C X) (h2 : glB X.env.scope "enumerate" = true) (hs : notStar x = true) (ha : PE X x (tE X.K (evE C a))) : PI X (.Tuple elts kk tpos) (.Call (.Name "enumerate" p) [x] [] pos) (tI X.K (evI C (.enum a))) := by
  refine PI.imp (pi_enumB (glB_ok h2) (g.blt _ (by decide +kernel)) (pa_cons ha pa_nil (notStar_each hs _ _)) (by rw [notStar_each hs]; rfl)) fun σ H R ⟨e, M, μ, at_, p⟩ => ?_
  obtain ⟨e1, M1, μ1, a1, p1⟩ := goE at_ (show Post X.K (RI X.K) H μ ((evE C a e M).bind fun w M1 => match w with
    | .d (.list xs) => .ok (.items (enumD xs 0)) M1
    | .d (.tuple xs) => .ok (.items (enumD xs 0)) M1
    | .r n => withO (cellWs M1 n) fun _ => .ok (.cell true n) M1
    | _ => .stuck) R from p)
  refine ⟨e1, M1, μ1, a1, p1.imp fun v H1 ⟨w, M2, μ2, s2, a2, r2, p2⟩ => ?_⟩
  split at p2
  · rename_i xs
    obtain ⟨a', vs, rfl, ha', dr⟩ := DR.rdL r2
    refine ⟨a', vs, rfl, .inl ⟨.inl ha', Post.now (RA := RI X.K) p2 a2.st fun H2 μ3 M3 s3 S3 i => ?_⟩⟩
    obtain ⟨b, us, e2, hb, dr2⟩ := DR.rdL (WR.wk s3 r2)
    cases e2
    exact turn_enumL k0 S3 (.inl hb) dr2
  · rename_i xs
    obtain ⟨a', vs, rfl, ha', dr⟩ := DR.sqT r2
    refine ⟨a', vs, rfl, .inr ⟨ha', Post.now (RA := RI X.K) p2 a2.st fun H2 μ3 M3 s3 S3 i => ?_⟩⟩
    obtain ⟨b, us, e2, hb, dr2⟩ := DR.sqT (WR.wk s3 r2)
    cases e2
    exact turn_enumTT S3 hb dr2
  · rename_i n
    obtain ⟨xs, hc, p3⟩ := Post.withO p2
    obtain ⟨a', vs, rfl, ho, dr⟩ := a2.st.cws hc r2
    refine ⟨a', vs, rfl, .inl ⟨.inl (.inl ho), Post.now (RA := RI X.K) p3 a2.st fun H2 μ3 M3 ys s3 S3 hc3 i => ?_⟩⟩
    obtain ⟨b, us, e2, hb, dr2⟩ := S3.cws hc3 (WR.wk s3 r2)
    cases e2
    exact turn_enumW S3 (.inl (.inl hb)) dr2
  · exact p2.elim
theorem k_enumT {elts : List Expr} {kk : _} {tpos : Pos} (g : Good Z C X) (h2 : glB X.env.scope "enumerate" = true) (hs : notStar x = true) (ha : PE X x (tE X.K (evE C a))) : PI X (.Tuple elts kk tpos) (.Call (.Name "enumerate" p) [x] [] pos) (tI X.K (evI C (.enumT a))) := by
  refine PI.imp (pi_enumB (glB_ok h2) (g.blt _ (by decide +kernel)) (pa_cons ha pa_nil (notStar_each hs _ _)) (by rw [notStar_each hs]; rfl)) fun σ H R ⟨e, M, μ, at_, p⟩ => ?_
  obtain ⟨e1, M1, μ1, a1, p1⟩ := goE at_ (show Post X.K (RI X.K) H μ ((evE C a e M).bind fun w M1 => match w with
    | .d (.tuple xs) => .ok (.items (enumD xs 0)) M1
    | _ => .stuck) R from p)
  refine ⟨e1, M1, μ1, a1, p1.imp fun v H1 ⟨w, M2, μ2, s2, a2, r2, p2⟩ => ?_⟩
  split at p2
  · rename_i xs
    obtain ⟨a', vs, rfl, ha', dr⟩ := DR.sqT r2
    refine ⟨a', vs, rfl, .inr ⟨ha', Post.now (RA := RI X.K) p2 a2.st fun H2 μ3 M3 s3 S3 i => ?_⟩⟩
    obtain ⟨b, us, e2, hb, dr2⟩ := DR.sqT (WR.wk s3 r2)
    cases e2
    exact turn_enumTT S3 hb dr2
  · exact p2.elim
theorem k_zip {elts : List Expr} {kk : _} {tpos : Pos} (k0 : XT.kt = false) (g : Good Z C X) (h2 : glB X.env.scope "zip" = true) (hs : notStar x = true) (hs2 : notStar y = true) (ha : PE X x (tE X.K (evE C a))) (hb : PE X y (tE X.K (evE C b))) :
    PI X (.Tuple elts kk tpos) (.Call (.Name "zip" p) [x, y] [] pos) (tI X.K (evI C (.zip a b))) := by
  refine PI.imp (RZ.pi_zipA (glB_ok h2) (g.blt _ (by decide +kernel)) (pa_cons ha (pa_cons hb pa_nil (notStar_each hs2 _ _)) (notStar_each hs _ _)) (notStar_each hs _ _) (backTo_plain fun z hz => by
    have : z = y := by simpa using hz
    rw [this]; exact hs2)) fun σ H R ⟨e, M, μ, at_, p⟩ => ?_
  obtain ⟨e1, M1, μ1, a1, p1⟩ := goE at_ (show Post X.K (RI X.K) H μ ((evE C a e M).bind fun w M1 => (evE C b e M1).bind fun u M2 => match w, u with
    | .d (.list xs), .d (.list ys) => .ok (.items (zipD xs ys)) M2
    | .d (.tuple xs), .d (.tuple ys) => .ok (.items (zipD xs ys)) M2
    | _, _ => .stuck) R from p)
  refine ⟨e1, M1, μ1, a1, p1.imp fun v H1 ⟨w, M2, μ2, s2, a2, r2, p2⟩ => ?_⟩
  obtain ⟨e3, M3, μ3, a3, p3⟩ := goE a2 p2
  refine ⟨e3, M3, μ3, a3, p3.imp fun u H2 ⟨w', M4, μ4, s4, a4, r4, p4⟩ => ?_⟩
  split at p4
  · have r2 := r2.stp s4
    obtain ⟨a', vs, rfl, ha', dr⟩ := DR.rdL r2
    obtain ⟨b', us, rfl, hb', dr'⟩ := DR.rdL r4
    refine ⟨a', b', vs, us, rfl, .inl ⟨.inl ha', .inl hb', Post.now (RA := RI X.K) p4 a4.st fun H3 μ5 M5 s5 S5 i => ?_⟩⟩
    obtain ⟨c1, vs1, e1, hc1, dr1⟩ := DR.rdL (WR.wk s5 r2)
    obtain ⟨c2, vs2, e2, hc2, dr2⟩ := DR.rdL (WR.wk s5 r4)
    cases e1
    cases e2
    exact turn_zipL k0 S5 (.inl hc1) dr1 (.inl hc2) dr2
  · have r2 := r2.stp s4
    obtain ⟨a', vs, rfl, ha', dr⟩ := DR.sqT r2
    obtain ⟨b', us, rfl, hb', dr'⟩ := DR.sqT r4
    refine ⟨a', b', vs, us, rfl, .inr ⟨ha', hb', Post.now (RA := RI X.K) p4 a4.st fun H3 μ5 M5 s5 S5 i => ?_⟩⟩
    obtain ⟨c1, vs1, e1, hc1, dr1⟩ := DR.sqT (WR.wk s5 r2)
    obtain ⟨c2, vs2, e2, hc2, dr2⟩ := DR.sqT (WR.wk s5 r4)
    cases e1
    cases e2
    exact turn_zipTT k0 S5 hc1 dr1 hc2 dr2
  · exact p4.elim
theorem k_comp {md : Md} {own : List Nat} {t : CT} {it : CI} {cd : CC} {t0 i0 : Expr} {ifs : List Expr} {scope : Scope} (g : Good Z C X) (hc : X.calm = true) (hi : PI X t0 i0 (tI X.K (evI C it))) (hs : notSet i0 = true) (hb : blkC X.N X.env.scope scope (ownOf X.N own) = true) (hown : (ctS t).all (fun k => own.contains k) = true)
    (hg : ∀ (s : Shared) (H : Hp) (Cc : Addr) (cl : List (Str × Addr)) (fp : List Addr), PG (X.blk s H scope (compEnvC scope cl Cc X.env) fp) t0 (gT X.K t))
    (ht : ∀ (s : Shared) (H : Hp) (Cc : Addr) (cl : List (Str × Addr)) (fp : List Addr), PTs (X.blk s H scope (compEnvC scope cl Cc X.env) fp) ifs (@tB _ _ xF X.K (evC C cd)))
    (he : ∀ (s : Shared) (H : Hp) (Cc : Addr) (cl : List (Str × Addr)) (fp : List Addr), PE (X.blk s H scope (compEnvC scope cl Cc X.env) fp) x (@tE _ _ xF X.K (evE C a))) :
    PE X (.ListComp x [⟨t0, i0, ifs, 0⟩] scope pos) (tE X.K (evE C (.comp md own t it cd a))) := by
  have eo : (ownOf X.N own).map (·.2) = own := by
    unfold ownOf
    rw [List.map_map]
    exact List.map_id own
  refine PE.imp (pe_lc hc g.nodup hi (blkOk_by hb) hg ht he fun _ => notSet_fold hs _ _) fun pins s σ H Q I ⟨e, M, μ, at_, p⟩ => ?_
  rw [eo]
  refine comp_ok (F := C.F) (fun i hi => ?_) at_ p
  have := List.all_eq_true.mp hown i hi
  simpa using this
theorem k_compN {own : List Nat} {t : CT} {it : CI} {cd : CC} {t0 i0 : Expr} {ifs : List Expr} {scope : Scope} (g : Good Z C X) (hc : X.calm = true) (hi : PI X t0 i0 (tI X.K (evI C it))) (hs : notSet i0 = true) (hb : blkC X.N X.env.scope scope (ownOf X.N own) = true) (hown : (ctS t).all (fun k => own.contains k) = true)
    (hg : ∀ (s : Shared) (H : Hp) (Cc : Addr) (cl : List (Str × Addr)) (fp : List Addr), PG (X.blk s H scope (compEnvC scope cl Cc X.env) fp) t0 (gT X.K t))
    (ht : ∀ (s : Shared) (H : Hp) (Cc : Addr) (cl : List (Str × Addr)) (fp : List Addr), PTs (X.blk s H scope (compEnvC scope cl Cc X.env) fp) ifs (@tB _ _ xF X.K (evC C cd)))
    (he : ∀ (s : Shared) (H : Hp) (Cc : Addr) (cl : List (Str × Addr)) (fp : List Addr), PE (X.blk s H scope (compEnvC scope cl Cc X.env) fp) x (@tE _ _ xF X.K (evE C a))) :
    PE X (.ListComp x [⟨t0, i0, ifs, 0⟩] scope pos) (tE X.K (evE C (.compN own t it cd a))) := by
  have eo : (ownOf X.N own).map (·.2) = own := by
    unfold ownOf
    rw [List.map_map]
    exact List.map_id own
  refine PE.imp (pe_lc hc g.nodup hi (blkOk_by hb) hg ht he fun _ => notSet_fold hs _ _) fun pins s σ H Q I ⟨e, M, μ, at_, p⟩ => ?_
  rw [eo]
  refine compN_ok (F := C.F) (fun i hi => ?_) at_ p
  have := List.all_eq_true.mp hown i hi
  simpa using this
theorem k_comp2 {md : Md} {own own1 : List Nat} {t t1 : CT} {it it1 : CI} {cd cd1 : CC} {t0 i0 t01 i01 : Expr} {ifs ifs1 : List Expr} {scope : Scope} (g : Good Z C X) (hc : X.calm = true) (hi : PI X t0 i0 (tI X.K (evI C it))) (hs : notSet i0 = true) (hs1 : notSet i01 = true) (hb : blkC X.N X.env.scope scope (ownOf X.N own) = true)
    (hown : (ctS t).all (fun k => own.contains k) = true) (hown1 : (ctS t1).all (fun k => own1.contains k) = true) (hoo : own1.all (fun k => own.contains k) = true)
    (hg : ∀ (s : Shared) (H : Hp) (Cc : Addr) (cl : List (Str × Addr)) (fp : List Addr), PG (X.blk s H scope (compEnvC scope cl Cc X.env) fp) t0 (gT X.K t))
    (ht : ∀ (s : Shared) (H : Hp) (Cc : Addr) (cl : List (Str × Addr)) (fp : List Addr), PTs (X.blk s H scope (compEnvC scope cl Cc X.env) fp) ifs (@tB _ _ xF X.K (evC C cd)))
    (hi1 : ∀ (s : Shared) (H : Hp) (Cc : Addr) (cl : List (Str × Addr)) (fp : List Addr), PI (X.blk s H scope (compEnvC scope cl Cc X.env) fp) t01 i01 (@tI _ _ xF X.K (evI C it1)))
    (hg1 : ∀ (s : Shared) (H : Hp) (Cc : Addr) (cl : List (Str × Addr)) (fp : List Addr), PG (X.blk s H scope (compEnvC scope cl Cc X.env) fp) t01 (gT X.K t1))
    (ht1 : ∀ (s : Shared) (H : Hp) (Cc : Addr) (cl : List (Str × Addr)) (fp : List Addr), PTs (X.blk s H scope (compEnvC scope cl Cc X.env) fp) ifs1 (@tB _ _ xF X.K (evC C cd1)))
    (he : ∀ (s : Shared) (H : Hp) (Cc : Addr) (cl : List (Str × Addr)) (fp : List Addr), PE (X.blk s H scope (compEnvC scope cl Cc X.env) fp) x (@tE _ _ xF X.K (evE C a))) :
    PE X (.ListComp x [⟨t0, i0, ifs, 0⟩, ⟨t01, i01, ifs1, 0⟩] scope pos) (tE X.K (evE C (.comp2 md own own1 t it cd t1 it1 cd1 a))) := by
  have eo : (ownOf X.N own).map (·.2) = own := by
    unfold ownOf
    rw [List.map_map]
    exact List.map_id own
  have hv : ∀ i ∈ own1, i ∈ (ownOf X.N own).map (·.2) := fun i hi => by
    rw [eo]
    have := List.all_eq_true.mp hoo i hi
    simpa using this
  refine PE.imp (pe_lc2 hc g.nodup hi (blkOk_by hb) hv hg ht hi1 hg1 ht1 he (fun _ => notSet_fold hs _ _) fun _ _ => notSet_fold hs1 _ _) fun pins s σ H Q I ⟨e, M, μ, at_, p⟩ => ?_
  rw [eo]
  refine comp2_ok (F := C.F) (fun i hi => ?_) (fun i hi => ?_) at_ p
  · have := List.all_eq_true.mp hown i hi
    simpa using this
  · have := List.all_eq_true.mp hown1 i hi
    simpa using this
theorem k_ptsN : PTs X [] (tB X.K (evC C .no)) := ⟨fun pins s σ H Q I h => pts_nil.run pins s σ H Q I (by
  obtain ⟨e, M, μ, at_, p⟩ := h
  have p : Post X.K (RId Bool) H μ (.ok true M) Q := p
  exact p.now at_.st rfl)⟩
theorem enumD_len : ∀ (xs : List D) (k : Nat), (enumD xs k).length = xs.length
  | [], _ => rfl
  | _ :: xs, k => by simp [enumD, enumD_len xs]
end
end Ev
set_option Elab.async false
set_option linter.all false
set_option maxRecDepth 100000
/-! EvNa: displays of dicts, written dicts -/
namespace Ev
open PySem PySem.Spec PyProof.Rows L2
variable [XT] [XA] [XE]
variable {Z : Nm} {C : Cfg}
/-! ### keys and values of a display -/
theorem KWs.putV {κ : Type} [DecidableEq κ] {K : PySem.W.Frag} {H : Hp} {μ : Mu} {k : κ} {x : W} {v : V} (h : WR K H μ x v) {xs : List (κ × W)} {vs : List (κ × V)} (r : KWs K H μ xs vs) : KWs K H μ (putD xs k x) (putK vs k v) := by
  have h1 : (xs.any fun kv => decide (kv.1 = k)) = vs.any fun kv => decide (kv.1 = k) := by
    induction r with
    | nil => rfl
    | cons _ _ ih => rw [List.any_cons, List.any_cons, ih]
  have h2 : KWs K H μ (xs.map fun kv => if kv.1 = k then (kv.1, x) else kv) (vs.map fun kv => if kv.1 = k then (kv.1, v) else kv) := by
    clear h1
    induction r with
    | nil => exact .nil
    | cons h0 _ ih =>
      rename_i j y u ys us _
      rw [List.map_cons, List.map_cons]
      by_cases e : j = k
      · rw [if_pos e, if_pos e]; exact .cons h ih
      · rw [if_neg e, if_neg e]; exact .cons h0 ih
  have h3 : KWs K H μ (xs ++ [(k, x)]) (vs ++ [(k, v)]) := by
    clear h1 h2
    induction r with
    | nil => exact .cons h .nil
    | cons h0 _ ih => exact .cons h0 ih
  unfold putD putK
  rw [h1]
  split
  · exact h2
  · exact h3
theorem zipK_D {K : PySem.W.Frag} {H : Hp} {μ : Mu} : ∀ {ks : List Key} {xs : List D} {vs : List V} {kvs : List (Key × D)}, zipK ks xs = some kvs → DRs K H μ xs vs → KRs K H μ kvs (ks.zip vs)
  | [], [], _, _, h, .nil => by cases h; exact .nil
  | k :: ks, x :: xs, v :: vs, kvs, h, .cons a r => by
    unfold zipK at h
    obtain ⟨l, h1, rfl⟩ := Option.map_eq_some_iff.mp h
    exact .cons a (zipK_D h1 r)
  | [], _ :: _, _, _, h, _ => by cases h
  | _ :: _, [], _, _, h, _ => by cases h
theorem zipK_W {K : PySem.W.Frag} {H : Hp} {μ : Mu} : ∀ {ks : List Key} {xs : List W} {vs : List V} {kvs : List (Key × W)}, zipK ks xs = some kvs → WRs K H μ xs vs → KWs K H μ kvs (ks.zip vs)
  | [], [], _, _, h, .nil => by cases h; exact .nil
  | k :: ks, x :: xs, v :: vs, kvs, h, .cons a r => by
    unfold zipK at h
    obtain ⟨l, h1, rfl⟩ := Option.map_eq_some_iff.mp h
    exact .cons a (zipK_W h1 r)
  | [], _ :: _, _, _, h, _ => by cases h
  | _ :: _, [], _, _, h, _ => by cases h
theorem disp_D {K : PySem.W.Frag} {H : Hp} {μ : Mu} {kvs : List (Key × D)} {ps : List (Key × V)} (h : KRs K H μ kvs ps) : KRs K H μ (dispG kvs) (mergeK [] ps) := by
  have gen : ∀ {kvs : List (Key × D)} {ps : List (Key × V)}, KRs K H μ kvs ps → ∀ {a0 : List (Key × D)} {b0 : List (Key × V)}, KRs K H μ a0 b0 → KRs K H μ (kvs.foldl (fun acc p => putD acc p.1 p.2) a0) (mergeK b0 ps) := by
    intro kvs ps h
    induction h with
    | nil => exact fun r => r
    | cons h0 _ ih => exact fun r => ih (KRs.putV h0 r)
  exact gen h .nil
theorem disp_W {K : PySem.W.Frag} {H : Hp} {μ : Mu} {kvs : List (Key × W)} {ps : List (Key × V)} (h : KWs K H μ kvs ps) : KWs K H μ (dispG kvs) (mergeK [] ps) := by
  have gen : ∀ {kvs : List (Key × W)} {ps : List (Key × V)}, KWs K H μ kvs ps → ∀ {a0 : List (Key × W)} {b0 : List (Key × V)}, KWs K H μ a0 b0 → KWs K H μ (kvs.foldl (fun acc p => putD acc p.1 p.2) a0) (mergeK b0 ps) := by
    intro kvs ps h
    induction h with
    | nil => exact fun r => r
    | cons h0 _ ih => exact fun r => ih (KWs.putV h0 r)
  exact gen h .nil
theorem KWs.lw {K : PySem.W.Frag} {H1 : Hp} {μ1 : Mu} {M1 : Store} (S : StR K H1 μ1 M1) {κ : Type} : ∀ {ws : List (κ × W)} {vs : List (κ × V)}, KWs K H1 μ1 ws vs → (∀ p ∈ ws, noX p.2 = true) → ∀ p ∈ ws, Lw M1.length p.2
  | _, _, .nil, _, _, h => by cases h
  | _, _, .cons h r, nx, w, hw => by
    rcases List.mem_cons.mp hw with e | hw
    · subst e; exact h.lw S (nx _ List.mem_cons_self)
    · exact KWs.lw S r (fun p hp => nx p (List.mem_cons_of_mem _ hp)) w hw
theorem putD_all {κ α : Type} [DecidableEq κ] {Pp : α → Prop} {kvs : List (κ × α)} {k : κ} {v : α} (h : ∀ p ∈ kvs, Pp p.2) (hv : Pp v) : ∀ p ∈ putD kvs k v, Pp p.2 := fun p hp => by
  unfold putD at hp
  split at hp
  · obtain ⟨q, hq, e⟩ := List.mem_map.mp hp
    split at e
    · subst e; exact hv
    · subst e; exact h _ hq
  · rcases List.mem_append.mp hp with hp | hp
    · exact h p hp
    · have e : p = (k, v) := by simpa using hp
      rw [e]; exact hv
theorem dispG_all {α : Type} {Pp : α → Prop} {kvs : List (Key × α)} (h : ∀ p ∈ kvs, Pp p.2) : ∀ p ∈ dispG kvs, Pp p.2 := by
  have aux : ∀ (l acc : List (Key × α)), (∀ p ∈ acc, Pp p.2) → (∀ p ∈ l, Pp p.2) → ∀ p ∈ l.foldl (fun acc p => putD acc p.1 p.2) acc, Pp p.2 := by
    intro l
    induction l with
    | nil => exact fun acc ha _ => ha
    | cons q l ih => exact fun acc ha hl => ih _ (putD_all ha (hl q List.mem_cons_self)) fun p hp => hl p (List.mem_cons_of_mem _ hp)
  exact aux kvs [] (fun p hp => by cases hp) h
theorem zipK_all {α : Type} {Pp : α → Prop} : ∀ {ks : List Key} {xs : List α} {kvs : List (Key × α)}, zipK ks xs = some kvs → (∀ x ∈ xs, Pp x) → ∀ p ∈ kvs, Pp p.2
  | [], [], kvs, h, _ => by cases h; exact fun p hp => by cases hp
  | [], _ :: _, _, h, _ => by cases h
  | _ :: _, [], _, h, _ => by cases h
  | k :: ks, x :: xs, kvs, h, hx => by
    obtain ⟨r, h1, rfl⟩ := Option.map_eq_some_iff.mp (show (zipK ks xs).map ((k, x) :: ·) = some kvs from h)
    intro p hp
    rcases List.mem_cons.mp hp with rfl | hp
    · exact hx _ List.mem_cons_self
    · exact zipK_all h1 (fun y hy => hx y (List.mem_cons_of_mem _ hy)) p hp
def trsOf (K : PySem.W.Frag) (C : Cfg) : List Key → CEs → List (TE × TE)
  | k :: ks, .cons a r => (tC (kV k), tE K (evE C a)) :: trsOf K C ks r
  | _, _ => []
theorem pairs_ok {K : PySem.W.Frag} : ∀ {ks : List Key} {es : CEs} {H : Hp} {μ : Mu} {e : Env} {σ : L2.St} {M : Store} {Q : List (V × V) → Hp → Prop}, ks.length = cesL es → At K H μ e σ M →
    Post K (RVs K) H μ (evEs C es e M) (fun vs H' => Q (List.zipWith (fun k v => (kV k, v)) ks vs) H') → tPairs (trsOf K C ks es) σ H Q
  | [], .nil, H, μ, e, σ, M, Q, _, a, p => Post.now (RA := RVs K) (M := M) p a.st .nil
  | k :: ks, .cons c r, H, μ, e, σ, M, Q, hl, a, p => by
    obtain ⟨e1, M1, μ1, a1, p1⟩ := goE a (show Post K (RVs K) H μ ((evE C c e M).bind fun w M1 => (evEs C r e M1).bind fun ws M2 => .ok (w :: ws) M2) _ from p)
    refine ⟨e1, M1, μ1, a1, p1.imp fun v H1 ⟨w, M2, μ2, s2, a2, r2, p2⟩ => ?_⟩
    refine pairs_ok (by simpa [cesL] using hl) a2 ((Post.bind (RA := RVs K) p2).imp fun vs H2 ⟨ws, M3, μ3, s3, S3, r3, p3⟩ => ?_)
    exact Post.now (RA := RVs K) p3 S3 (.cons (r2.stp s3) r3)
  | [], .cons _ _, _, _, _, _, _, _, h, _, _ => by simp [cesL] at h
  | _ :: _, .nil, _, _, _, _, _, _, h, _, _ => by simp [cesL] at h
theorem zip_map : ∀ (ks : List Key) (vs : List V), List.zipWith (fun k v => (kV k, v)) ks vs = (ks.zip vs).map fun kv => (kV kv.1, kv.2)
  | [], _ => rfl
  | _ :: _, [] => rfl
  | k :: ks, v :: vs => by
    show (kV k, v) :: List.zipWith (fun k v => (kV k, v)) ks vs = (kV k, v) :: (ks.zip vs).map fun kv => (kV kv.1, kv.2)
    rw [zip_map ks vs]
section
variable {K : PySem.W.Frag} {H : Hp} {μ : Mu} {M : Store}
theorem disp_go {ks : List Key} {es : CEs} {α β : Type} {RB : Hp → Mu → α → β → Prop} {f : List (Key × D) → Store → Res α} {e : Env} {σ : L2.St} {Q : β → Hp → Prop} {R : VK} (hl : ks.length = cesL es) (h15 : ks.length ≤ 15) (a : At K H μ e σ M)
    (p : Post K RB H μ ((nox (evEs C es e M)).bind fun ws M1 => withO (frzs ws M1) fun p => withO (zipK ks p.1) fun kvs => f kvs p.2) Q)
    (k : ∀ a vs kvs M2 μ2 H2, H2 a = some (.dK vs) → KRs K H2 μ2 (dispG kvs) vs → a ∈ μ2.pi → At K H2 μ2 e σ M2 → Post K RB H2 μ2 (f kvs M2) Q → R (.ref a) H2) : tDisp (trsOf K C ks es) σ H R := by
  obtain ⟨ws, M1, hrun, p1⟩ := Post.split p
  obtain ⟨pp, h1, p2⟩ := Post.withO p1
  obtain ⟨kvs, h2, p3⟩ := Post.withO p2
  intro q hq
  have a1 : At K (upd H q (.dK [])) (μ.hide q) e σ M := ⟨a.env.hide hq, a.st.hide hq⟩
  refine pairs_ok hl a1 ?_
  rw [hrun]
  intro vs H1 μ1 s1 S1 r1
  have nc : some q ∉ (μ.hide q).cs := a.st.notin hq
  have hq1 : H1 q = some (.dK []) := s1.keep q _ upd_same nc
  obtain ⟨μ3, s3, S3, d3⟩ := frzs_ok S1 r1 h1
  have s13 := s1.trans s3
  have hin : q ∈ μ3.pi := s13.pi q List.mem_cons_self
  refine ⟨hq1, ks.zip vs, zip_map ks vs, by rw [List.length_zip]; omega, ?_⟩
  have hk : KRs K H1 μ3 (dispG kvs) (mergeK [] (ks.zip vs)) := disp_D (zipK_D h2 d3)
  exact k q _ kvs pp.2 μ3 _ upd_same (hk.move (keep_rewrite hin)) hin ⟨(a1.env.stp s13).rewrite hin, S3.rewrite hin⟩ (Post.weak (((stp_hide hq).trans s13).rewrite hq) p3)
/-- a dict that stands hidden is there later too -/
theorem hid_later {a : Addr} {vs : List (Key × V)} {kvs : List (Key × D)} {H1 : Hp} {μ1 : Mu} (S : StR K H μ M) (hin : a ∈ μ.pi) (h : H a = some (.dK vs)) (r : KRs K H μ kvs vs) (s : Stp H μ H1 μ1) : H1 a = some (.dK vs) ∧ KRs K H1 μ1 kvs vs ∧ a ∈ μ1.pi := by
  refine ⟨s.keep a _ h fun z => ?_, r.wk s.wk, s.pi a hin⟩
  obtain ⟨n, z⟩ := mem_get z
  exact S.dis n a z hin
end
section
variable {X : Cx}
theorem ix_dK (hu : X.A.units + 1 < cLine) : IxR X fun x y H Q => ∃ a vs k v, x = .ref a ∧ H a = some (.dK vs) ∧ y = kV k ∧ valV vs k = some v ∧ Q v H := by
  intro value slice pins s σ H x y v u Q I rx ry h hs
  obtain ⟨a, vs, k, w, rfl, h1, rfl, h2, q⟩ := h
  have g : DGet H a (kV k) (some w) := by
    have g := DGet.k (k := k) h1
    rw [h2] at g
    exact g
  cases rx
  exact subTail (dict_typeIs I g) PySem.F.slot_dict_getitem.lookup (d_getItem hu I g ry fun w' s3 I3 rw' => ⟨w, H, I3, rw', q⟩) hs
theorem mth_getK (hu : X.A.units + 1 < cLine) : MtR X "dict.get" fun x vs H Q => ∃ a kvs k d, x = .ref a ∧ H a = some (.dK kvs) ∧ vs = [kV k, d] ∧ Q ((valV kvs k).getD d) H := by
  intro pins s σ H x xs v us Q I rx rs h
  obtain ⟨a, kvs, k, d, rfl, h1, rfl, q⟩ := h
  obtain ⟨u1, u2, rfl, ru, ru2⟩ := rs.two
  cases rx
  refine d_get2 hu I (DGet.k (k := k) h1) ru ru2 fun w' s' I' rw' => ⟨_, H, I', rw', q⟩
variable {e x y z : Expr} {es : List Expr} {pos p : Pos} {a b c : CE} {cs : CEs} {ks : List Key} {keys : List (Option Expr)} {vals : List Expr}
theorem chkK_len : ∀ {ks : List Key} {keys : List (Option Expr)}, chkK ks keys = true → keys.length = ks.length ∧ keys.all (·.isSome) = true
  | [], [], _ => ⟨rfl, rfl⟩
  | k :: ks, some e :: es, h => by
    simp only [chkK, Bool.and_eq_true] at h
    obtain ⟨h1, h2⟩ := chkK_len h.2
    exact ⟨by simp [h1], by rw [List.all_cons, h2]; rfl⟩
  | [], _ :: _, h => by simp [chkK] at h
  | _ :: _, [], h => by simp [chkK] at h
  | _ :: _, none :: _, h => by simp [chkK] at h
theorem key_ok {k : Key} {e : Expr} (h : keyE k e = true) : PE X e (tC (kV k)) := by
  unfold keyE at h
  split at h
  · unfold keyB at h
    split at h
    · have h := of_decide_eq_true h
      subst h
      exact pe_int
    · have h := of_decide_eq_true h
      subst h
      exact pe_str
    · cases h
  · cases h
theorem lenK_ok (h : lenK ks cs = true) : 1 ≤ ks.length ∧ ks.length ≤ 15 ∧ ks.length = cesL cs := of_decide_eq_true h
theorem k_dispT (h : PPs X pos keys vals (trsOf X.K C ks cs)) (hk : chkK ks keys = true) (hl : lenK ks cs = true) (hv : ks.length = vals.length) : PE X (.Dict keys vals pos) (tDisp (trsOf X.K C ks cs)) := by
  obtain ⟨h1, h2⟩ := chkK_len hk
  obtain ⟨l1, l2, _⟩ := lenK_ok hl
  exact pe_disp h h2 (by rw [h1, hv]) (fun z => by rw [z] at h1; simp at h1; omega) (by omega)
theorem k_ddisp {md : Md} (h : PPs X pos keys vals (trsOf X.K C ks cs)) (hk : chkK ks keys = true) (hl : lenK ks cs = true) (hv : ks.length = vals.length) : PE X (.Dict keys vals pos) (tE X.K (evE C (.ddisp md ks cs))) := by
  refine PE.imp (k_dispT h hk hl hv) fun pins s σ H Q I ⟨e, M, μ, at_, p⟩ q hq => ?_
  obtain ⟨ws, M1, hrun, p1⟩ := Post.split (show Post X.K (RV X.K) H μ ((nox (evEs C cs e M)).bind fun ws M1 => dispW md ks ws M.length M1) Q from p)
  have a1 : At X.K (upd H q (.dK [])) (μ.hide q) e σ M := ⟨at_.env.hide hq, at_.st.hide hq⟩
  refine pairs_ok (lenK_ok hl).2.2 a1 ?_
  rw [hrun]
  intro vs H1 μ1 s1 S1 r1
  have nc : some q ∉ (μ.hide q).cs := at_.st.notin hq
  have hq1 : H1 q = some (.dK []) := s1.keep q _ upd_same nc
  have h15 := (lenK_ok hl).2.1
  refine ⟨hq1, ks.zip vs, zip_map ks vs, by rw [List.length_zip]; omega, ?_⟩
  by_cases hN : md = .N
  · subst hN
    obtain ⟨hns, p2⟩ := Post.must (show Post X.K (RV X.K) H μ (must (ws.all noS = true) (withO (zipK ks ws) fun kvs => .ok (.r M1.length) (M1 ++ [.wK (dispG kvs)]))) Q from p1)
    obtain ⟨kvs, h2, p3⟩ := Post.withO p2
    have hin : q ∈ μ1.pi := s1.pi q List.mem_cons_self
    have hk := disp_W (zipK_W h2 r1)
    have dn : Dn M1.length (.wK (dispG kvs)) := KWs.lw S1 hk (dispG_all (Pp := fun w => noX w = true) (zipK_all (Pp := fun w => noX w = true) h2 (List.all_eq_true.mp (noS_noX hns))))
    have or : OR X.K H1 μ1 (.wK (dispG kvs)) (.dK (mergeK [] (ks.zip vs))) := hk
    exact comp_finN (((stp_hide hq).trans s1).rewrite hq) hin (s1.notin nc upd_same) at_.st (S1.rewrite hin) hq upd_same (or.move (mv_rewrite hin) dn) dn p3
  · have p1 : Post X.K (RV X.K) H μ (withO (frzs ws M1) fun p => withO (zipK ks p.1) fun kvs => .ok (.r M.length) (p.2.take M.length ++ [.dK (dispG kvs)])) Q := by
      cases md with
      | N => exact absurd rfl hN
      | F => exact p1
      | M => exact p1
    obtain ⟨pp, h1, p2⟩ := Post.withO p1
    obtain ⟨kvs, h2, p3⟩ := Post.withO p2
    obtain ⟨μ3, s3, S3, d3⟩ := frzs_ok S1 r1 h1
    have s13 := s1.trans s3
    have hin : q ∈ μ3.pi := s13.pi q List.mem_cons_self
    have or : OR X.K H1 μ3 (.dK (dispG kvs)) (.dK (mergeK [] (ks.zip vs))) := disp_D (zipK_D h2 d3)
    refine comp_finC (c := .dK (dispG kvs)) (((stp_hide hq).trans s13).rewrite hq) hin (s13.notin nc upd_same) at_.st (S3.rewrite hin) hq upd_same (or.move (b := 0) (mv_rewrite hin) trivial) trivial ?_
    have el : (pp.2.take M.length).length = M.length := by
      have h1 : pp.2.length = μ3.cs.length := S3.len.symm
      have h2 : M.length = μ.cs.length := at_.st.len.symm
      have h3 := ((stp_hide (o := .dK []) hq).trans s13).len
      rw [List.length_take]
      omega
    rw [el]
    exact p3
theorem k_dsub (g : Good Z C X) {p2 : Pos} (h : PPs X p2 keys vals (trsOf X.K C ks cs)) (hk : chkK ks keys = true) (hl : lenK ks cs = true) (hv : ks.length = vals.length) (hs : notSl y = true) (hb : PE X y (tE X.K (evE C b))) :
    PE X (.Subscript (.Dict keys vals p2) y pos) (tE X.K (evE C (.dsub ks cs b))) := by
  refine PE.imp (pe_ix (ix_dK (by have := g.line; omega)) (k_dispT h hk hl hv) hb (notSl_ix hs)) fun pins s σ H Q I ⟨e, M, μ, at_, p⟩ => ?_
  refine disp_go (RB := RV X.K) (f := fun kvs M1 => (evE C b e M1).bind fun y M2 => match y with
    | .d k => withO ((keyOf k).bind fun k => valD (dispG kvs) k) fun x => .ok (.d x) M2
    | _ => .stuck) (lenK_ok hl).2.2 (lenK_ok hl).2.1 at_ p fun q vs kvs M2 μ2 H2 hq kr hin a2 p2 => ?_
  obtain ⟨e1, M1, μ1, a1, p3⟩ := goE a2 p2
  refine ⟨e1, M1, μ1, a1, p3.imp fun u H3 ⟨w, M3, μ3, s3, a3, r3, p4⟩ => ?_⟩
  obtain ⟨hq3, kr3, hin3⟩ := hid_later a2.st hin hq kr s3
  split at p4
  · rename_i k
    obtain ⟨x0, h1, p5⟩ := Post.withO p4
    obtain ⟨j, h2, h3⟩ := Option.bind_eq_some_iff.mp h1
    rcases KRs.val j kr3 with ⟨z, _⟩ | ⟨x1, v1, z1, z2, dr⟩
    · rw [h3] at z; cases z
    · rw [h3] at z1; cases z1
      exact ⟨q, vs, j, v1, rfl, hq3, keyOf_kV r3 h2, z2, Post.now (RA := RV X.K) p5 a3.st dr⟩
  · exact p4.elim
theorem k_dgetd (g : Good Z C X) {p2 ap : Pos} {nm : Str} (hnm : nm = "get") (h : PPs X p2 keys vals (trsOf X.K C ks cs)) (hk : chkK ks keys = true) (hl : lenK ks cs = true) (hv : ks.length = vals.length) (hap : (ap.endLine == pos.line) = true) (hs : notStar y = true) (hs2 : notStar z = true) (hb : PE X y (tE X.K (evE C b))) (hc : PE X z (tE X.K (evE C c))) :
    PE X (.Call (.Attribute (.Dict keys vals p2) nm ap) [y, z] [] pos) (tE X.K (evE C (.dgetd ks cs b c))) := by
  subst hnm
  have hA : PA X [y, z] (tCons (tE X.K (evE C b)) (tCons (tE X.K (evE C c)) tNil)) := pa_cons hb (pa_cons hc pa_nil (notStar_each hs2 _ _)) (notStar_each hs _ _)
  have hall : ∀ e ∈ [y, z], notStar e = true := fun e he => by
    rcases List.mem_cons.mp he with rfl | he
    · exact hs
    · rcases List.mem_cons.mp he with rfl | he
      · exact hs2
      · cases he
  refine PE.imp (pe_bm PySem.F.plainAttrs_dict PySem.F.slot_dict_get rfl (mth_getK (by have := g.line; omega)) (k_dispT h hk hl hv) hA rfl (few_ok hall (Nat.lt_of_sub_pos (by simp))) hap (notStar_each hs _ _) (backTo_plain fun e he => hall e (List.mem_cons_of_mem _ he))) fun pins s σ H Q I ⟨e, M, μ, at_, p⟩ => ?_
  refine disp_go (RB := RV X.K) (f := fun kvs M1 => (evE C b e M1).bind fun y M2 => (evE C c e M2).bind fun d M3 => match y with
    | .d k => withO (keyOf k) fun k => .ok (((valD (dispG kvs) k).map .d).getD d) M3
    | _ => .stuck) (lenK_ok hl).2.2 (lenK_ok hl).2.1 at_ p fun q vs kvs M2 μ2 H2 hq kr hin a2 p2 => ?_
  refine ⟨.inr (.inr (.inl ⟨rfl, .inl ⟨_, hq⟩⟩)), ?_⟩
  obtain ⟨e1, M1, μ1, a1, p3⟩ := goE a2 p2
  refine ⟨e1, M1, μ1, a1, p3.imp fun u H3 ⟨w, M3, μ3, s3, a3, r3, p4⟩ => ?_⟩
  obtain ⟨hq3, kr3, hin3⟩ := hid_later a2.st hin hq kr s3
  obtain ⟨e4, M4, μ4, a4, p5⟩ := goE a3 p4
  refine ⟨e4, M4, μ4, a4, p5.imp fun u2 H5 ⟨w2, M5, μ5, s5, a5, r5, p6⟩ => ?_⟩
  obtain ⟨hq5, kr5, hin5⟩ := hid_later a3.st hin3 hq3 kr3 s5
  split at p6
  · rename_i k
    obtain ⟨j, h1, p7⟩ := Post.withO p6
    refine ⟨q, vs, j, u2, rfl, hq5, by rw [keyOf_kV r3 h1], ?_⟩
    rcases KRs.val j kr5 with ⟨z1, z2⟩ | ⟨x1, v1, z1, z2, dr⟩
    · rw [z2]
      rw [z1] at p7
      exact Post.now (RA := RV X.K) p7 a5.st r5
    · rw [z2]
      rw [z1] at p7
      exact Post.now (RA := RV X.K) (b := v1) p7 a5.st dr
  · exact p6.elim
/-! ### written dicts -/
theorem ix_kd {d : Addr} {es : Array DictEntry} {n : Nat} (D : KDict X.K X.w d es n) : IxR X fun x y H Q => ∃ (z : Str) (u0 : Value) (v0 : V), x = .ref d ∧ y = .str z ∧ PySem.W.nsIn X.K d z = some (some u0) ∧ RelV v0 u0 ∧ Q v0 H := by
  intro value slice pins s σ H x y v u Q I rx ry h hs
  obtain ⟨z, u0, v0, rfl, rfl, h1, h2, q⟩ := h
  cases rx
  exact subTail (kd_type D I) PySem.F.slot_dict_getitem.lookup (op_item_kd D pins s σ H (.ref d) (.str z) (.ref d) u Q I rfl ry ⟨z, u0, v0, rfl, rfl, h1, h2, q⟩) hs
theorem k_kget (g : Good Z C X) {i : Nat} {n : Str} {p2 : Pos} (h1 : Z.gd[i]? = some n) (h2 : glB X.env.scope n = true) (h3 : okN n = true) (hs : notSl y = true) (hb : PE X y (tE X.K (evE C a))) : PE X (.Subscript (.Name n p2) y pos) (tE X.K (evE C (.kget i a))) := by
  obtain ⟨d, es, m, kvs, hm, hd, hg, hz⟩ := (g.gds i n h1).ex
  refine PE.imp (pe_ix (ix_kd hd) (pe_glob (v := .ref d) (glB_ok h2) hm rfl (okN_ok h3).1) hb (notSl_ix hs)) fun pins s σ H Q I ⟨e, M, μ, at_, p⟩ => ?_
  obtain ⟨e1, M1, μ1, a1, p1⟩ := goE at_ (show Post X.K (RV X.K) H μ ((evE C a e M).bind fun x M1 => match x with
    | .d k => withO ((kTab C.GD.gd i k).bind id) fun y => .ok (gW y) M1
    | _ => .stuck) Q from p)
  refine ⟨e1, M1, μ1, a1, p1.imp fun v H1 ⟨w, M2, μ2, s2, a2, r2, p2⟩ => ?_⟩
  split at p2
  · rename_i k
    obtain ⟨y0, h4, p3⟩ := Post.withO p2
    obtain ⟨o, h5, h6⟩ := Option.bind_eq_some_iff.mp h4
    have h6 : o = some y0 := h6
    subst h6
    unfold kTab at h5
    rw [hg] at h5
    split at h5
    · rename_i z
      cases r2
      have h5 : valD kvs z = some y0 := Option.some.inj h5
      obtain ⟨r, q1, q2⟩ := hz z
      rcases q2 with ⟨q2, _⟩ | ⟨d0, u, v, q2, rfl, rv, kd⟩
      · rw [h5] at q2; cases q2
      · rw [h5] at q2; cases q2
        exact ⟨z, u, v, rfl, rfl, q1, rv, Post.now (RA := RV X.K) p3 a2.st kd.gw⟩
    · cases h5
  · exact p2.elim
theorem op_kin {d : Addr} {es : Array DictEntry} {m : Nat} (hd : KDict X.K X.w d es m) {neg : Bool} {o : CmpOp} (ho : o = if neg = true then .NotIn else .In) : OpR X (compareOp o) (fun x y H Q => ∃ (z : Str) (r : Option Value), x = .str z ∧ y = .ref d ∧ PySem.W.nsIn X.K d z = some r ∧ Q (.bl (r.isSome != neg)) H) := by
  subst ho
  cases neg with
  | true =>
    intro pins s σ H x y v u Q I rx ry h
    obtain ⟨z, r, e1, e2, e3, q⟩ := h
    refine op_notIn_kd hd pins s σ H x y v u Q I rx ry ⟨z, r, e1, e2, e3, ?_⟩
    cases r <;> exact q
  | false =>
    intro pins s σ H x y v u Q I rx ry h
    obtain ⟨z, r, e1, e2, e3, q⟩ := h
    refine op_in_kd hd pins s σ H x y v u Q I rx ry ⟨z, r, e1, e2, e3, ?_⟩
    cases r <;> exact q
theorem k_kin (g : Good Z C X) {neg : Bool} {i : Nat} {n : Str} {o : CmpOp} {p2 : Pos} (ho : o = if neg = true then .NotIn else .In) (h1 : Z.gd[i]? = some n) (h2 : glB X.env.scope n = true) (h3 : okN n = true) (hb : PE X y (tE X.K (evE C a))) : PE X (.Compare y [o] [.Name n p2] pos) (tE X.K (evE C (.kin neg a i))) := by
  obtain ⟨d, es, m, kvs, hm, hd, hg, hz⟩ := (g.gds i n h1).ex
  refine PE.imp (pe_cmpR (op_kin hd ho) hb (pe_glob (v := .ref d) (glB_ok h2) hm rfl (okN_ok h3).1) rfl) fun pins s σ H Q I ⟨e, M, μ, at_, p⟩ => ?_
  obtain ⟨e1, M1, μ1, a1, p1⟩ := goE at_ (show Post X.K (RV X.K) H μ ((evE C a e M).bind fun x M1 => match x with
    | .d k => withO (kTab C.GD.gd i k) fun o => boolR (o.isSome != neg) M1
    | _ => .stuck) Q from p)
  refine ⟨e1, M1, μ1, a1, p1.imp fun v H1 ⟨w, M2, μ2, s2, a2, r2, p2⟩ => ?_⟩
  split at p2
  · rename_i k
    obtain ⟨o2, h5, p3⟩ := Post.withO p2
    unfold kTab at h5
    rw [hg] at h5
    split at h5
    · rename_i z
      cases r2
      have h5 : valD kvs z = o2 := Option.some.inj h5
      obtain ⟨r, q1, q2⟩ := hz z
      refine ⟨z, r, rfl, rfl, q1, ?_⟩
      have e : r.isSome = o2.isSome := by
        rcases q2 with ⟨q2, rfl⟩ | ⟨d0, u, v, q2, rfl, _⟩
        · rw [← h5, q2]; rfl
        · rw [← h5, q2]; rfl
      rw [e]
      exact boolR_ok a2.st p3
    · cases h5
  · exact p2.elim
theorem k_kinT (g : Good Z C X) {neg : Bool} {i : Nat} {n : Str} {o : CmpOp} {p2 : Pos} (ho : o = if neg = true then .NotIn else .In) (h1 : Z.gd[i]? = some n) (h2 : glB X.env.scope n = true) (h3 : okN n = true) (hb : PE X y (tE X.K (evE C a))) : PT X (.Compare y [o] [.Name n p2] pos) (tB X.K (evB C (.kin neg a i))) := by
  obtain ⟨d, es, m, kvs, hm, hd, hg, hz⟩ := (g.gds i n h1).ex
  refine PT.imp (pt_cmpR (op_kin hd ho) hb (pe_glob (v := .ref d) (glB_ok h2) hm rfl (okN_ok h3).1) rfl) fun σ H Q ⟨e, M, μ, at_, p⟩ => ?_
  obtain ⟨e1, M1, μ1, a1, p1⟩ := goE at_ (show Post X.K (RId Bool) H μ ((evE C a e M).bind fun x M1 => match x with
    | .d k => withO (kTab C.GD.gd i k) fun o => .ok (o.isSome != neg) M1
    | _ => .stuck) Q from p)
  refine ⟨e1, M1, μ1, a1, p1.imp fun v H1 ⟨w, M2, μ2, s2, a2, r2, p2⟩ => ?_⟩
  split at p2
  · rename_i k
    obtain ⟨o2, h5, p3⟩ := Post.withO p2
    unfold kTab at h5
    rw [hg] at h5
    split at h5
    · rename_i z
      cases r2
      have h5 : valD kvs z = o2 := Option.some.inj h5
      obtain ⟨r, q1, q2⟩ := hz z
      refine ⟨z, r, rfl, rfl, q1, _, rfl, ?_⟩
      have e : r.isSome = o2.isSome := by
        rcases q2 with ⟨q2, rfl⟩ | ⟨d0, u, v, q2, rfl, _⟩
        · rw [← h5, q2]; rfl
        · rw [← h5, q2]; rfl
      rw [e]
      exact p3.now a2.st rfl
    · cases h5
  · exact p2.elim
end
end Ev
set_option Elab.async false
set_option linter.all false
set_option maxRecDepth 100000
/-! EvNb: f-strings, locked dicts, methods of texts -/
namespace Ev
open PySem PySem.Spec PyProof.Rows L2
variable [XT] [XA] [XE]
variable {Z : Nm} {C : Cfg}
section
variable {K : PySem.W.Frag} {H H' : Hp} {μ μ' : Mu} {M M1 : Store}
/-- a cell's object is written, locked or not -/
theorem st_put (S : StR K H μ M) {n : Nat} {a : Addr} {c : Cell} {o1 : HO} (ha : μ.cs[n]? = some (some a)) (r : OR K H μ c o1) (hc : Dn n c) :
    StR K (upd H a o1) μ (M.set n c) ∧ ∀ b, Mv H μ (upd H a o1) μ b := by
  have mv : ∀ b, Mv H μ (upd H a o1) μ b := fun b => ⟨fun x o nf h => by
    have ne : x ≠ a := fun z => nf.1 (by rw [z]; exact List.mem_of_getElem? ha)
    exact ⟨nf, by rw [upd_ne ne]; exact h⟩, fun _ _ _ h => .inl h, fun _ _ h => h⟩
  refine ⟨⟨dn_set S hc, by simp [S.len], S.nd, fun m c2 b h1 h2 => ?_, fun b h => by rw [upd_ne (fun z : b = a => S.dis n a ha (by rw [← z]; exact h))]; exact S.pis b h, S.dis, fun m c2 h1 h2 => ?_⟩, mv⟩
  · by_cases e : m = n
    · subst e
      rw [ha] at h2; cases h2
      rw [List.getElem?_set_self'] at h1
      cases q : M[m]? with
      | none => rw [q] at h1; simp at h1
      | some c' =>
        rw [q] at h1; simp at h1; subst h1
        exact ⟨o1, upd_same, r.move (mv _) hc⟩
    · rw [List.getElem?_set_ne (Ne.symm e)] at h1
      obtain ⟨o, h3, h4⟩ := S.cells m c2 b h1 h2
      have ne : b ≠ a := fun z => by
        subst z
        exact e (S.nd m n b h2 ha)
      exact ⟨o, by rw [upd_ne ne]; exact h3, h4.move (mv _) (S.dn m c2 h1)⟩
  · by_cases e : m = n
    · subst e; rw [ha] at h2; cases h2
    · rw [List.getElem?_set_ne (Ne.symm e)] at h1
      exact S.deads m c2 h1 h2
theorem stp_unlock {n : Nat} {d : Addr} {od : Obj} {u : HO} {c : Cell} (hd : H d = some u) (hm : ∀ o' u', u ≠ .frz o' u') (ha : μ.cs[n]? = some (some d)) (s' : Stp (upd H d (.frz od u)) μ H' μ') (S' : StR K H' μ' M1) (ha' : μ'.cs[n]? = some (some d)) (r : OR K H' μ' c u) (hc : Dn n c) :
    Stp H μ (upd H' d u) μ' ∧ StR K (upd H' d u) μ' (M1.set n c) ∧ ∀ b, Mv H' μ' (upd H' d u) μ' b := by
  obtain ⟨S2, mv⟩ := st_put S' ha' r hc
  have none_ : ∀ a, (upd H d (.frz od u)) a = none → H a = none := fun a h => by
    by_cases e : a = d
    · subst e; rw [upd_same] at h; cases h
    · rw [upd_ne e] at h; exact h
  refine ⟨⟨s'.len, s'.pi, fun a h => (s'.pif a h).imp (fun z => z) (none_ a), s'.get, s'.gone, fun a o h nb => ?_, fun m a h => (s'.fresh m a h).imp (fun z => z) (none_ a), ⟨fun a h => ?_, fun a o u' h => ?_⟩⟩, S2, mv⟩
  · have ne : a ≠ d := fun z => nb (by rw [z]; exact List.mem_of_getElem? ha)
    rw [upd_ne ne]
    exact s'.keep a o (by rw [upd_ne ne]; exact h) nb
  · by_cases e : a = d
    · subst e; rw [upd_same]; exact fun z => by cases z
    · rw [upd_ne e]
      exact s'.live.1 a (by rw [upd_ne e]; exact h)
  · have e : a ≠ d := fun z => by
      subst z
      rw [hd] at h
      exact hm _ _ (Option.some.inj h)
    rw [upd_ne e]
    exact s'.live.2 a o u' (by rw [upd_ne e]; exact h)
/-- a dict is locked; what is to be shown behind it -/
theorem lock_go {w : W} {n : Nat} {M0 : Store} (S : StR K H μ M) (h : lockAt w M = some (n, M0)) : ∃ d u, H d = some u ∧ Mut (some u) ∧ ∀ od, Stp H μ (upd H d (.frz od u)) μ ∧ StR K (upd H d (.frz od u)) μ M0 ∧
    ∀ H' μ' M1 M2, Stp (upd H d (.frz od u)) μ H' μ' → StR K H' μ' M1 → unlockAt n M1 = some M2 → H' d = some (.frz od u) ∧ Stp H μ (upd H' d u) μ' ∧ StR K (upd H' d u) μ' M2 ∧ ∀ b, Mv H' μ' (upd H' d u) μ' b := by
  have there : ∀ c, M[n]? = some c → c ≠ .dead → ∃ d, μ.cs[n]? = some (some d) := fun c hc hn => by
    have hl : n < μ.cs.length := by rw [S.len]; exact (List.getElem?_eq_some_iff.mp hc).1
    cases q : μ.cs[n]? with
    | none => rw [List.getElem?_eq_none_iff] at q; omega
    | some x =>
      cases x with
      | some d => exact ⟨d, rfl⟩
      | none => exact absurd (S.deads n c hc q) hn
  have un : ∀ {od : Obj} {u : HO} {d : Addr}, H d = some u → (∀ o' u', u ≠ .frz o' u') → μ.cs[n]? = some (some d) → ∀ H' μ' M1 M2, Stp (upd H d (.frz od u)) μ H' μ' → StR K H' μ' M1 → unlockAt n M1 = some M2 → H' d = some (.frz od u) ∧ Stp H μ (upd H' d u) μ' ∧ StR K (upd H' d u) μ' M2 ∧ ∀ b, Mv H' μ' (upd H' d u) μ' b := by
    intro od u d hd hm ha H' μ' M1 M2 s' S' hu
    have hfr : H' d = some (.frz od u) := s'.live.2 d od u upd_same
    have alive : ∀ c, M1[n]? = some c → c ≠ .dead → μ'.cs[n]? = some (some d) := fun c hc hn => by
      rcases s'.get n d ha with q | q
      · exact q
      · exact absurd (S'.deads n c hc q) hn
    unfold unlockAt at hu
    split at hu
    · rename_i kvs q
      cases hu
      have ha' := alive _ q (fun z => by cases z)
      obtain ⟨o, h3, h4⟩ := S'.cells n _ d q ha'
      rw [hfr] at h3
      cases h3
      cases u <;> first | exact h4.elim | skip
      obtain ⟨r1, r2, r3⟩ := stp_unlock (c := .dK kvs) hd hm ha s' S' ha' h4 trivial
      exact ⟨hfr, r1, r2, r3⟩
    · rename_i kvs q
      cases hu
      have ha' := alive _ q (fun z => by cases z)
      obtain ⟨o, h3, h4⟩ := S'.cells n _ d q ha'
      rw [hfr] at h3
      cases h3
      cases u <;> first | exact h4.elim | skip
      obtain ⟨r1, r2, r3⟩ := stp_unlock (c := .dT kvs) hd hm ha s' S' ha' h4 trivial
      exact ⟨hfr, r1, r2, r3⟩
    · cases hu
  unfold lockAt at h
  split at h
  · rename_i k
    split at h
    · rename_i kvs q
      cases h
      obtain ⟨d, ha⟩ := there _ q (fun z => by cases z)
      obtain ⟨o, h3, h4⟩ := S.cells n _ d q ha
      cases o <;> first | exact h4.elim | skip
      rename_i vs
      refine ⟨d, .dK vs, h3, trivial, fun od => ?_⟩
      obtain ⟨s1, S1⟩ := stp_set (c := .lkK kvs) (o1 := .frz od (.dK vs)) S h3 ha h4
      exact ⟨s1, S1, un h3 (fun _ _ z => by cases z) ha⟩
    · rename_i kvs q
      cases h
      obtain ⟨d, ha⟩ := there _ q (fun z => by cases z)
      obtain ⟨o, h3, h4⟩ := S.cells n _ d q ha
      cases o <;> first | exact h4.elim | skip
      rename_i vs
      refine ⟨d, .dT vs, h3, trivial, fun od => ?_⟩
      obtain ⟨s1, S1⟩ := stp_set (c := .lkT kvs) (o1 := .frz od (.dT vs)) S h3 ha h4
      exact ⟨s1, S1, un h3 (fun _ _ z => by cases z) ha⟩
    · cases h
  · cases h
end
section
variable {X : Cx} {e x y z : Expr} {es : List Expr} {pos p : Pos} {a b c : CE} {cs : CEs}
theorem k_lockE (h : PE X e (tE X.K (evE C b))) : PE X e (tE X.K (evE C (.lockE a b))) := by
  refine PE.imp (pe_lock h) fun pins s σ H Q I ⟨e, M, μ, at_, p⟩ => ?_
  obtain ⟨⟨n, M0⟩, h1, p1⟩ := Post.withO (show Post X.K (RV X.K) H μ (withO ((oneOf (evE C a e M)).bind fun w => lockAt w M) fun p => (nox (evE C b e p.2)).bind fun w M1 => withO (unlockAt p.1 M1) fun M2 => .ok w M2) Q from p)
  obtain ⟨w0, h2, h3⟩ := Option.bind_eq_some_iff.mp h1
  obtain ⟨d, u, hd, hm, go⟩ := lock_go at_.st h3
  refine ⟨d, u, hd, hm, fun od => ?_⟩
  obtain ⟨s1, S1, un⟩ := go od
  obtain ⟨w, M1, hrun, p2⟩ := Post.split p1
  obtain ⟨M2, h4, p3⟩ := Post.withO p2
  refine ⟨e, M0, μ, ⟨at_.env.stp s1, S1⟩, ?_⟩
  have hrun : evE C b e M0 = .ok w M1 := hrun
  rw [hrun]
  intro v H' μ' s' S' r'
  obtain ⟨q1, q2, q3, q4⟩ := un H' μ' M1 M2 s' S' h4
  exact ⟨q1, p3 _ _ _ q2 q3 (r'.move (q4 M1.length) (WR.lw0 S' r'))⟩
theorem k_fmt (h : PE X x (tE X.K (evE C a))) : PE X (.FormattedValue x (-1) none pos) (tE X.K (evE C (.fmt a))) := by
  refine PE.imp (pe_fmt h) fun pins s σ H Q I ⟨e, M, μ, at_, p⟩ => ?_
  obtain ⟨e1, M1, μ1, a1, p1⟩ := goE at_ (show Post X.K (RV X.K) H μ ((evE C a e M).bind fun x M1 => match x with
    | .d (.str y) => lim y.length (.ok (.d (.str y)) M1)
    | .d (.int i) => must (i.natAbs.log2 < 1920) (.ok (.d (.str (strI i))) M1)
    | _ => .stuck) Q from p)
  refine ⟨e1, M1, μ1, a1, p1.imp fun v H1 ⟨w, M2, μ2, s2, a2, r2, p2⟩ => ?_⟩
  split at p2
  · cases r2
    obtain ⟨c, p3⟩ := Post.lim p2
    exact .inl ⟨_, rfl, c, Post.now (RA := RV X.K) (b := V.str _) p3 a2.st (DR.str _)⟩
  · cases r2
    obtain ⟨c, p3⟩ := Post.must p2
    exact .inr ⟨_, rfl, c, Post.now (RA := RV X.K) (b := V.str _) p3 a2.st (DR.str _)⟩
  · exact p2.elim
/-- the parts of an f-string -/
def tesOf (K : PySem.W.Frag) (C : Cfg) : CEs → List TE
  | .nil => []
  | .cons a r => tE K (evE C a) :: tesOf K C r
theorem catS_len : ∀ {ws : List W} {acc x : Str}, catS ws acc = some x → acc.length ≤ x.length
  | [], _, _, h => by cases h; exact Nat.le_refl _
  | .d (.str y) :: r, acc, x, h => by
    have h1 := catS_len (ws := r) (acc := acc ++ y) h
    have h2 : (acc ++ y).length = acc.length + y.length := Str.length_append ..
    omega
  | .d .none :: _, _, _, h => by cases h
  | .d (.bool _) :: _, _, _, h => by cases h
  | .d (.int _) :: _, _, _, h => by cases h
  | .d (.tuple _) :: _, _, _, h => by cases h
  | .d (.list _) :: _, _, _, h => by cases h
  | .d (.dict _) :: _, _, _, h => by cases h
  | .r _ :: _, _, _, h => by cases h
  | .s _ :: _, _, _, h => by cases h
  | .g _ :: _, _, _, h => by cases h
theorem catS_cons {w : W} {ws : List W} {acc x : Str} (h : catS (w :: ws) acc = some x) : ∃ y, w = .d (.str y) ∧ catS ws (acc ++ y) = some x := by
  cases w with
  | d v => cases v <;> first | exact ⟨_, rfl, h⟩ | cases h
  | _ => cases h
theorem tjs_ok {K : PySem.W.Frag} : ∀ {es : CEs} {H : Hp} {μ : Mu} {e : Env} {σ : L2.St} {M : Store} {acc : Str} {Q : VK}, At K H μ e σ M → Post K (RV K) H μ ((nox (evEs C es e M)).bind fun ws M1 => withO (catS ws acc) fun x => lim x.length (.ok (.d (.str x)) M1)) Q →
    tJs (tesOf K C es) acc σ H fun out H1 => Q (.str out) H1
  | .nil, H, μ, e, σ, M, acc, Q, a, p => by
    obtain ⟨x, h, p1⟩ := Post.withO (show Post K (RV K) H μ (withO (catS [] acc) fun x => lim x.length (.ok (.d (.str x)) M)) Q from p)
    cases h
    obtain ⟨_, p2⟩ := Post.lim p1
    exact Post.now (RA := RV K) (b := V.str _) p2 a.st (DR.str _)
  | .cons c r, H, μ, e, σ, M, acc, Q, a, p => by
    obtain ⟨ws, M1, hrun, p3⟩ := Post.split p
    obtain ⟨w, M2, h1, h2⟩ := Res.split (show (evE C c e M).bind (fun w M1 => (evEs C r e M1).bind fun ws M2 => .ok (w :: ws) M2) = .ok ws M1 from hrun)
    obtain ⟨ws', M3, h3, h4⟩ := Res.split h2
    cases h4
    obtain ⟨x, hx, p4⟩ := Post.withO p3
    obtain ⟨hl, p5⟩ := Post.lim p4
    obtain ⟨y, rfl, hx2⟩ := catS_cons hx
    refine ⟨e, M, μ, a, ?_⟩
    rw [h1]
    intro v H1 μ2 s2 S2 r2
    have r2 : DR K H1 μ2 (.str y) v := r2
    cases r2
    refine ⟨y, rfl, Nat.le_trans (catS_len hx2) hl, tjs_ok (a.stp s2 S2) ?_⟩
    rw [h3]
    show Post K (RV K) H1 μ2 (withO (catS ws' (acc ++ y)) fun x => lim x.length (.ok (.d (.str x)) M1)) Q
    rw [hx2]
    show Post K (RV K) H1 μ2 (lim x.length (.ok (.d (.str x)) M1)) Q
    unfold lim
    rw [if_pos hl]
    exact Post.weak s2 p5
theorem k_fstr {v1 v2 : Expr} {rest : List Expr} (h : PJ X (v1 :: v2 :: rest) (tesOf X.K C cs)) : PE X (.JoinedStr (v1 :: v2 :: rest) pos) (tE X.K (evE C (.fstr cs))) :=
  PE.imp (pe_joined h) fun pins s σ H Q I ⟨e, M, μ, at_, p⟩ => tjs_ok at_ p
theorem tyV_str {K : PySem.W.Frag} {H : Hp} {μ : Mu} {w : W} {v : V} (r : WR K H μ w v) (h : isStrW w = true) : tyV K "str" v H := by
  unfold isStrW at h
  split at h
  · cases r
    exact (rfl : "str" = "str")
  · cases h
theorem k_mthS {id : Mth} {ide : String} {nm : Str} {f : W → List W → Store → Res W} {ap : Pos} (hf : ∀ w ws M, mthW id w ws M = f w ws M) (ht : ∀ w M, mTy id w M = isStrW w) (slot : Slot "str" nm ide) (hty : typeOf (.builtin ide) = pure (.type "method_descriptor"))
    (hc : MtR X ide (rMth X.K f)) (hb : notSuper x = true) (hl : (ap.endLine == pos.line) = true) (h4 : es.isEmpty = false) (h20 : es.length < 20) (hs : ∀ e ∈ es, notStar e = true) (ho : PE X x (tE X.K (evE C a))) (ha : PA X es (tA X.K (evEs C cs))) :
    PE X (.Call (.Attribute x nm ap) es [] pos) (tE X.K (evE C (.mth id a cs))) := by
  cases es with
  | nil => cases h4
  | cons e es =>
    have hs2 : ∀ x ∈ es, notStar x = true := fun x hx => hs x (List.mem_cons_of_mem _ hx)
    refine PE.imp (pe_bm PySem.F.plainAttrs_str slot hty hc ho ha (notSuper_base hb) (few_ok hs h20) hl (notStar_each (hs e List.mem_cons_self) _ _) (backTo_plain hs2)) fun pins s σ H Q I ⟨e, M, μ, at_, p⟩ => ?_
    obtain ⟨e1, M1, μ1, a1, p1⟩ := goE at_ (show Post X.K (RV X.K) H μ ((evE C a e M).bind fun x M1 => must (mTy id x M1 = true) ((evEs C cs e M1).bind fun ws M2 => mthW id x ws M2)) Q from p)
    refine ⟨e1, M1, μ1, a1, p1.imp fun v H1 ⟨w, M2, μ2, s2, a2, r2, p2⟩ => ?_⟩
    obtain ⟨c, p3⟩ := Post.must p2
    rw [ht] at c
    refine ⟨tyV_str r2 c, ?_⟩
    obtain ⟨e4, M4, μ4, a4, p4⟩ := goA a2 p3
    refine ⟨e4, M4, μ4, a4, p4.imp fun vs H2 ⟨ws, M5, μ5, s5, a5, r5, p5⟩ => ?_⟩
    rw [hf] at p5
    exact ⟨w, ws, M5, μ5, a5.st, r2.stp s5, r5, p5⟩
theorem k_mthS0 {id : Mth} {ide : String} {nm : Str} {f : W → List W → Store → Res W} {ap : Pos} (hf : ∀ w ws M, mthW id w ws M = f w ws M) (ht : ∀ w M, mTy id w M = isStrW w) (slot : Slot "str" nm ide) (hty : typeOf (.builtin ide) = pure (.type "method_descriptor"))
    (hc : MtR X ide (rMth X.K f)) (hb : notSuper x = true) (hl : (ap.endLine == pos.line) = true) (h4 : es.isEmpty = true) (ho : PE X x (tE X.K (evE C a))) (ha : PA X es (tA X.K (evEs C cs))) (hcs : cs = .nil) :
    PE X (.Call (.Attribute x nm ap) es [] pos) (tE X.K (evE C (.mth id a cs))) := by
  subst hcs
  cases es with
  | cons => cases h4
  | nil =>
    refine PE.imp (pe_bm0 PySem.F.plainAttrs_str slot hty hc ho (notSuper_base hb) hl) fun pins s σ H Q I ⟨e, M, μ, at_, p⟩ => ?_
    obtain ⟨e1, M1, μ1, a1, p1⟩ := goE at_ (show Post X.K (RV X.K) H μ ((evE C a e M).bind fun x M1 => must (mTy id x M1 = true) (mthW id x [] M1)) Q from p)
    refine ⟨e1, M1, μ1, a1, p1.imp fun v H1 ⟨w, M2, μ2, s2, a2, r2, p2⟩ => ?_⟩
    obtain ⟨c, p3⟩ := Post.must p2
    rw [ht] at c
    rw [hf] at p3
    exact ⟨tyV_str r2 c, w, [], M2, μ2, a2.st, r2, .nil, p3⟩
end
end Ev
set_option Elab.async false
set_option linter.all false
set_option maxRecDepth 100000
/-! EvNc: what is asked of an exception that is handled -/
namespace Ev
open PySem PySem.Spec PyProof.Rows L2
variable [XT] [XA] [XE]
variable {Z : Nm} {C : Cfg} {X : Cx} {x : Expr} {a : CE} {p pos : Pos}
theorem pinX_of {p : Addr × Obj} {K : PySem.W.Frag} {H : Hp} {μ : Mu} {e : Exn} {v : V} (px : PinX p) (r : WR K H μ (.x e) v) : v = .ref p.1 ∧ ∃ dd kv, Zc (.ref (He.ga K e.cls)) (some dd) p.2 ∧ H dd = some (.xd kv) ∧ ∀ f x, e.args.lookup f = some x → ∃ v, kv.lookup f = some v ∧ DR K H μ x v := by
  obtain ⟨cls, d, h1, h2⟩ := px
  obtain ⟨a, cls', d', q1, rfl, rfl, dd, kv, rfl, _, q2, q3⟩ := r
  rw [h1] at q1
  cases q1
  exact ⟨rfl, dd, kv, h2, q2, q3⟩
theorem k_exIs {c n2 : Str} {p2 : Pos} (g : Good Z C X) (h1 : glB X.env.scope "isinstance" = true) (hn : n2 = c) (h2 : glB X.env.scope n2 = true) (h3 : okN n2 = true) (hs : notStar x = true) (hh : Z.hot = true) (hc : (decide (c = ("ValueError" : Str)) || Z.ex.contains c) = true)
    (hv : X.mg ("ValueError" : Str) = none) (ha : PE X x (tE X.K (evE C a))) : PE X (.Call (.Name "isinstance" p) [x, .Name n2 p2] [] pos) (tE X.K (evE C (.exIs a c))) := by
  subst hn
  obtain ⟨pp, hot, hp, px⟩ := g.hotc hh
  have hf : ∃ vs, pp.2.data = .fields vs := ⟨_, hot.2.choose_spec.1⟩
  obtain ⟨vc, cv, hb, hcv, hkit⟩ : ∃ (vc : V) (cv : Value), PE X (.Name n2 p2) (tC vc) ∧ (∀ u, RelV vc u → u = cv) ∧ ∀ y, exKnown C.GD y = true → PySem.W.kitOne X.K (.ref (He.ga X.K y)) cv = some (exSub y n2) := by
    by_cases hve : n2 = ("ValueError" : Str)
    · subst hve
      exact ⟨.ty "ValueError", .type "ValueError", pe_bltn (glB_ok h2) hv PyProof.Rows.Boot.«ValueError» rfl (by decide) (by decide), fun u r => r, fun y hy => by
        rw [g.exg.kiv y hy]
        simp [exSub]⟩
    · have hm : n2 ∈ Z.ex := by
        rw [Bool.or_eq_true, decide_eq_true_eq, List.contains_iff_mem] at hc
        exact hc.resolve_left hve
      exact ⟨.ref (He.ga X.K n2), .ref (He.ga X.K n2), pe_glob (glB_ok h2) (g.exg.mg _ hm) rfl (okN_ok h3).1, fun u r => r, fun y hy => g.exg.kit y hy n2 hm⟩
  have hA : PA X [x, .Name n2 p2] (tCons (tE X.K (evE C a)) (tCons (tC vc) tNil)) := pa_cons ha (pa_cons hb pa_nil rfl) (notStar_each hs _ _)
  refine PE.imp (pe_callB (call_isX hp hf) (glB_ok h1) (g.blt _ (by decide +kernel)) boot_isi hA (by decide) (by decide) (notStar_each hs _ _) rfl) fun pins s σ H Q I ⟨e, M, μ, at_, q⟩ => ?_
  obtain ⟨e1, M1, μ1, a1, p1⟩ := goE at_ (show Post X.K (RV X.K) H μ ((evE C a e M).bind fun x M1 => isX C.GD x n2 M1) Q from q)
  refine ⟨e1, M1, μ1, a1, p1.imp fun v H1 ⟨w, M2, μ2, s2, a2, r2, p2⟩ => ?_⟩
  cases w with
  | x ex =>
    obtain ⟨kn, p3⟩ := Post.must (show Post X.K (RV X.K) H1 μ2 (must (exKnown C.GD ex.cls = true) (boolR (exSub ex.cls n2) M2)) Q from p2)
    obtain ⟨rfl, dd, kv, z1, z2, z3⟩ := pinX_of px r2
    exact ⟨_, dd, kv, vc, cv, _, rfl, g.exg.exk _ kn, z1, z2, hcv, hkit _ kn, boolR_ok a2.st p3⟩
  | _ => exact p2.elim
theorem k_exFld {f : Str} (g : Good Z C X) (hh : Z.hot = true) (hf : Z.fl.contains f = true) (hb : notSuper x = true) (ha : PE X x (tE X.K (evE C a))) : PE X (.Attribute x f pos) (tE X.K (evE C (.exFld a f))) := by
  obtain ⟨pp, hot, hp, px⟩ := g.hotc hh
  have hfs : ∃ vs, pp.2.data = .fields vs := ⟨_, hot.2.choose_spec.1⟩
  refine PE.imp (pe_fx hp hfs ha (notSuper_base hb)) fun pins s σ H Q I ⟨e, M, μ, at_, q⟩ => ?_
  obtain ⟨e1, M1, μ1, a1, p1⟩ := goE at_ (show Post X.K (RV X.K) H μ ((evE C a e M).bind fun x M1 => fldX C.GD x f M1) Q from q)
  refine ⟨e1, M1, μ1, a1, p1.imp fun v H1 ⟨w, M2, μ2, s2, a2, r2, p2⟩ => ?_⟩
  cases w with
  | x ex =>
    obtain ⟨kn, p2⟩ := Post.must (show Post X.K (RV X.K) H1 μ2 (must (exKnown C.GD ex.cls = true) (withO (ex.args.lookup f) fun x => .ok (.d x) M2)) Q from p2)
    obtain ⟨y, hy, p3⟩ := Post.withO p2
    obtain ⟨rfl, dd, kv, z1, z2, z3⟩ := pinX_of px r2
    obtain ⟨v, q1, q2⟩ := z3 f y hy
    exact ⟨rfl, _, dd, kv, v, g.exg.exk _ kn, z1, z2, g.exg.fld _ kn f (List.contains_iff_mem.mp hf), q1, p3.now a2.st q2⟩
  | _ => exact p2.elim
end Ev
set_option Elab.async false
set_option linter.all false
set_option maxRecDepth 100000
/-! EvO: every checked expression -/
namespace Ev
open PySem PySem.Spec PyProof.Rows L2
variable [XT] [XA]
variable {Z : Nm} {C : Cfg}
theorem chkI_set {N : List Str} {sc : Scope} {fnb : Str → Bool} {it : CI} {t i : Expr} (h : chkI Z N sc fnb it t i = true) : notSet i = true := by
  cases it with
  | ex a =>
    simp only [chkI, Bool.and_eq_true] at h
    exact h.2.1
  | keys a =>
    simp only [chkI, Bool.and_eq_true] at h
    exact h.2.1
  | rng1 a => cases i <;> first | rfl | (exfalso; simp [chkI] at h)
  | rng2 a b => cases i <;> first | rfl | (exfalso; simp [chkI] at h)
  | enum a => cases i <;> first | rfl | (exfalso; cases t <;> simp [chkI] at h)
  | enumT a => cases i <;> first | rfl | (exfalso; cases t <;> simp [chkI] at h)
  | zip a b => cases i <;> first | rfl | (exfalso; cases t <;> simp [chkI] at h)
theorem chkEs_nil {N : List Str} {sc : Scope} {fnb : Str → Bool} {cs : CEs} {es : List Expr} (h : chkEs Z N sc fnb cs es = true) (h2 : es.isEmpty = true) : cs = .nil := by
  cases es with
  | cons => cases h2
  | nil =>
    cases cs with
    | nil => rfl
    | cons => simp [chkEs] at h
theorem chkEs_len {N : List Str} {sc : Scope} {fnb : Str → Bool} : ∀ {cs : CEs} {es : List Expr}, chkEs Z N sc fnb cs es = true → cesL cs = es.length
  | .nil, [], _ => rfl
  | .cons a r, x :: es, h => by
    simp only [chkEs, Bool.and_eq_true] at h
    show cesL r + 1 = es.length + 1
    rw [chkEs_len h.2.2]
  | .nil, _ :: _, h => by simp [chkEs] at h
  | .cons _ _, [], h => by simp [chkEs] at h
mutual
theorem okE : ∀ (c : CE) [_i : XE] {X : Cx} {e : Expr}, Good Z C X → chkE Z X.N X.env.scope X.fn c e = true → PE X e (tE X.K (evE C c))
  | .var i, _i, X, e, g, h => by
    unfold chkE at h
    split at h
    · simp only [Bool.and_eq_true, decide_eq_true_eq] at h
      exact k_var h.1 h.2.1 h.2.2
    · cases h
  | .cst d, _i, X, e, g, h => by
    unfold chkE at h
    split at h
    · exact cst_ok h
    · cases h
  | .glob i, _i, X, e, g, h => by
    unfold chkE at h
    split at h
    · simp only [Bool.and_eq_true, decide_eq_true_eq] at h
      exact k_glob g h.1 h.2.1 h.2.2
    · cases h
  | .bin md op a b, _i, X, e, g, h => by
    unfold chkE at h
    split at h
    · simp only [Bool.and_eq_true] at h
      exact k_bin h.1 (okE a g h.2.1) (okE b g h.2.2)
    · cases h
  | .neg a, _i, X, e, g, h => by
    unfold chkE at h
    split at h
    · exact k_neg (okE a g h)
    · cases h
  | .cmp op a b, _i, X, e, g, h => by
    unfold chkE at h
    split at h
    · simp only [Bool.and_eq_true] at h
      exact k_cmp g h.1 h.2.1 (okE a g h.2.2.1) (okE b g h.2.2.2)
    · cases h
  | .isN a, _i, X, e, g, h => by
    unfold chkE at h
    split at h
    · exact k_isN (okE a g h)
    · cases h
  | .notN a, _i, X, e, g, h => by
    unfold chkE at h
    split at h
    · exact k_notN (okE a g h)
    · cases h
  | .chain op op2 a b c, _i, X, e, g, h => by
    unfold chkE at h
    split at h
    · simp only [Bool.and_eq_true] at h
      exact k_chain g h.1 h.2.1 h.2.2.1 (okE a g h.2.2.2.1) (okE b g h.2.2.2.2.1) (okE c g h.2.2.2.2.2)
    · cases h
  | .andV a b, _i, X, e, g, h => by
    unfold chkE at h
    split at h
    · rename_i x y r pos
      simp only [Bool.and_eq_true] at h
      obtain ⟨h1, h2⟩ := h
      refine k_and (okE a g h1) ?_
      split at h2
      · exact pe_one (okE b g h2)
      · exact okE b g h2
    · cases h
  | .orV a b, _i, X, e, g, h => by
    unfold chkE at h
    split at h
    · rename_i x y r pos
      simp only [Bool.and_eq_true] at h
      obtain ⟨h1, h2⟩ := h
      refine k_or (okE a g h1) ?_
      split at h2
      · exact pe_one (okE b g h2)
      · exact okE b g h2
    · cases h
  | .notV a, _i, X, e, g, h => by
    unfold chkE at h
    split at h
    · exact k_not (okE a g h)
    · cases h
  | .ite c a b, _i, X, e, g, h => by
    unfold chkE at h
    split at h
    · simp only [Bool.and_eq_true] at h
      exact k_ite (okB c g h.1).1 (okE a g h.2.1) (okE b g h.2.2)
    · cases h
  | .tup es, _i, X, e, g, h => by
    unfold chkE at h
    split at h
    · exact k_tup (okEs es g h)
    · cases h
  | .lst md es, _i, X, e, g, h => by
    unfold chkE at h
    split at h
    · exact k_lst (okEs es g h)
    · cases h
  | .sub a i, _i, X, e, g, h => by
    unfold chkE at h
    split at h
    · simp only [Bool.and_eq_true] at h
      exact k_sub g h.1 (okE a g h.2.1) (okE i g h.2.2)
    · cases h
  | .slc md a lo hi, _i, X, e, g, h => by
    unfold chkE at h
    split at h
    · simp only [Bool.and_eq_true] at h
      exact k_slc (okE a g h.1) (okO lo g h.2.1) (okO hi g h.2.2)
    · cases h
  | .call f es, _i, X, e, g, h => by
    unfold chkE at h
    split at h
    · simp only [Bool.and_eq_true, decide_eq_true_eq] at h
      exact k_call g h.1 h.2.1 h.2.2.1 (chkEs_nil h.2.2.2.1) (chkEs_star h.2.2.2.1) (okEs es g h.2.2.2.1) h.2.2.2.2
    · cases h
  | .blt id md es, _i, X, e, g, h => by
    unfold chkE at h
    split at h
    · rw [Bool.and_eq_true] at h
      obtain ⟨hh, h⟩ := h
      simp only [Bool.and_eq_true] at h
      obtain ⟨h1, h2⟩ := h
      split at h2
      · simp only [Bool.and_eq_true, decide_eq_true_eq, Bool.not_eq_true'] at h2
        obtain ⟨rfl, h3, h4⟩ := h2
        exact k_bltB g (fun _ _ => rfl) blt_len boot_len (by decide +kernel) (by decide) (by decide) h1 h3 (chkEs_star h4) (okEs es g h4)
      · simp only [Bool.and_eq_true, decide_eq_true_eq, Bool.not_eq_true'] at h2
        obtain ⟨rfl, h3, h4⟩ := h2
        exact k_bltB g (fun _ _ => rfl) blt_abs boot_abs (by decide +kernel) (by decide) (by decide) h1 h3 (chkEs_star h4) (okEs es g h4)
      · simp only [Bool.and_eq_true, decide_eq_true_eq, Bool.not_eq_true'] at h2
        obtain ⟨rfl, h3, h4⟩ := h2
        exact k_bltT g (fun _ _ => rfl) blt_int boot_int (by decide +kernel) (by decide) (by decide) h1 h3 (chkEs_star h4) (okEs es g h4)
      · simp only [Bool.and_eq_true, decide_eq_true_eq, Bool.not_eq_true'] at h2
        obtain ⟨rfl, h3, h4⟩ := h2
        exact k_bltB g (fun _ _ => rfl) (blt_max2 (g.calm (hotF hh rfl))) boot_max (by decide +kernel) (by decide) (by decide) h1 h3 (chkEs_star h4) (okEs es g h4)
      · simp only [Bool.and_eq_true, decide_eq_true_eq, Bool.not_eq_true'] at h2
        obtain ⟨rfl, h3, h4⟩ := h2
        exact k_bltB g (fun _ _ => rfl) (blt_min2 (g.calm (hotF hh rfl))) boot_min (by decide +kernel) (by decide) (by decide) h1 h3 (chkEs_star h4) (okEs es g h4)
      · simp only [Bool.and_eq_true, decide_eq_true_eq, Bool.not_eq_true'] at h2
        obtain ⟨rfl, h3, h4⟩ := h2
        exact k_bltT g (fun _ _ => rfl) (blt_list md) boot_list (by decide +kernel) (by decide) (by decide) h1 h3 (chkEs_star h4) (okEs es g h4)
      · simp only [Bool.and_eq_true, decide_eq_true_eq, Bool.not_eq_true'] at h2
        obtain ⟨rfl, h3, h4⟩ := h2
        exact k_bltT g (fun _ _ => rfl) blt_tuple boot_tuple (by decide +kernel) (by decide) (by decide) h1 h3 (chkEs_star h4) (okEs es g h4)
      · simp only [Bool.and_eq_true, decide_eq_true_eq] at h2
        obtain ⟨rfl, h3⟩ := h2
        split at h3
        · rename_i ys pos2
          simp only [Bool.and_eq_true, decide_eq_true_eq] at h3
          obtain ⟨rfl, h4, h5, h6⟩ := h3
          match es, ys, h5, h6 with
          | .cons a .nil, [y], _, h6 =>
            simp only [chkEs, Bool.and_eq_true] at h6
            exact k_listr g (g.calm (hotF hh rfl)) h1 h4 h6.1 (okE a g h6.2.1)
          | .nil, [y], _, h6 => simp [chkEs] at h6
          | .cons a (.cons b r), [y], _, h6 => simp [chkEs] at h6
        · cases h3
      · simp only [Bool.and_eq_true, decide_eq_true_eq] at h2
        obtain ⟨rfl, h3⟩ := h2
        split at h3
        · rename_i ys pos2
          simp only [Bool.and_eq_true, decide_eq_true_eq] at h3
          obtain ⟨rfl, h4, h5, h6⟩ := h3
          match es, ys, h5, h6 with
          | .cons a .nil, [y], _, h6 =>
            simp only [chkEs, Bool.and_eq_true] at h6
            exact k_tupr g (g.calm (hotF hh rfl)) h1 h4 h6.1 (okE a g h6.2.1)
          | .nil, [y], _, h6 => simp [chkEs] at h6
          | .cons a (.cons b r), [y], _, h6 => simp [chkEs] at h6
        · cases h3
      · simp only [Bool.and_eq_true, decide_eq_true_eq] at h2
        obtain ⟨rfl, h3⟩ := h2
        split at h3
        · rename_i ys pos2
          simp only [Bool.and_eq_true, decide_eq_true_eq] at h3
          obtain ⟨rfl, h4, h5, h6⟩ := h3
          match es, ys, h5, h6 with
          | .cons a .nil, [y], _, h6 =>
            simp only [chkEs, Bool.and_eq_true] at h6
            exact k_lset g (g.calm (hotF hh rfl)) h1 h4 h6.1 (okE a g h6.2.1)
          | .nil, [y], _, h6 => simp [chkEs] at h6
          | .cons a (.cons b r), [y], _, h6 => simp [chkEs] at h6
        · cases h3
      · simp only [Bool.and_eq_true, decide_eq_true_eq] at h2
        obtain ⟨rfl, h3⟩ := h2
        split at h3
        · rename_i ys pos2
          simp only [Bool.and_eq_true, decide_eq_true_eq] at h3
          obtain ⟨rfl, h4, h5, h6⟩ := h3
          match es, ys, h5, h6 with
          | .cons a (.cons b .nil), [y, z], _, h6 =>
            simp only [chkEs, Bool.and_eq_true] at h6
            exact k_listr2 g (g.calm (hotF hh rfl)) h1 h4 h6.1 h6.2.2.1 (okE a g h6.2.1) (okE b g h6.2.2.2.1)
          | .nil, [y, z], _, h6 => simp [chkEs] at h6
          | .cons a .nil, [y, z], _, h6 => simp [chkEs] at h6
          | .cons a (.cons b (.cons c r)), [y, z], _, h6 => simp [chkEs] at h6
        · cases h3
      · simp only [Bool.and_eq_true, decide_eq_true_eq] at h2
        obtain ⟨rfl, h3⟩ := h2
        split at h3
        · rename_i ys pos2
          simp only [Bool.and_eq_true, decide_eq_true_eq] at h3
          obtain ⟨rfl, h4, h5, h6⟩ := h3
          match es, ys, h5, h6 with
          | .cons a (.cons b .nil), [y, z], _, h6 =>
            simp only [chkEs, Bool.and_eq_true] at h6
            exact k_tupr2 g (g.calm (hotF hh rfl)) h1 h4 h6.1 h6.2.2.1 (okE a g h6.2.1) (okE b g h6.2.2.2.1)
          | .nil, [y, z], _, h6 => simp [chkEs] at h6
          | .cons a .nil, [y, z], _, h6 => simp [chkEs] at h6
          | .cons a (.cons b (.cons c r)), [y, z], _, h6 => simp [chkEs] at h6
        · cases h3
      · simp only [Bool.and_eq_true, decide_eq_true_eq, Bool.not_eq_true'] at h2
        obtain ⟨rfl, h3, h4⟩ := h2
        exact k_bltT g (fun _ _ => rfl) blt_str PySem.Pv.boot_str (by decide +kernel) (by decide) (by decide) h1 h3 (chkEs_star h4) (okEs es g h4)
      · simp only [Bool.and_eq_true, decide_eq_true_eq, Bool.not_eq_true'] at h2
        obtain ⟨rfl, h3, h4⟩ := h2
        exact k_bltB g (fun _ _ => rfl) (blt_sorted g.line md) PyProof.Rows.boot_sorted (by decide +kernel) (by decide) (by decide) h1 h3 (chkEs_star h4) (okEs es g h4)
      · simp only [Bool.and_eq_true, decide_eq_true_eq, Bool.not_eq_true'] at h2
        obtain ⟨rfl, h3, h4⟩ := h2
        exact k_bltB g (fun _ _ => rfl) (blt_sum (g.calm (hotF hh rfl))) PyProof.Rows.boot_sum (by decide +kernel) (by decide) (by decide) h1 h3 (chkEs_star h4) (okEs es g h4)
      · simp only [Bool.and_eq_true, decide_eq_true_eq, Bool.not_eq_true'] at h2
        obtain ⟨rfl, h3, h4⟩ := h2
        exact k_bltB g (fun _ _ => rfl) (blt_all (g.calm (hotF hh rfl))) PyProof.Rows.boot_all (by decide +kernel) (by decide) (by decide) h1 h3 (chkEs_star h4) (okEs es g h4)
      · simp only [Bool.and_eq_true, decide_eq_true_eq, Bool.not_eq_true'] at h2
        obtain ⟨rfl, h3, h4⟩ := h2
        exact k_bltB g (fun _ _ => rfl) (blt_any (g.calm (hotF hh rfl))) PyProof.Rows.boot_any (by decide +kernel) (by decide) (by decide) h1 h3 (chkEs_star h4) (okEs es g h4)
      · simp only [Bool.and_eq_true, decide_eq_true_eq, Bool.not_eq_true'] at h2
        obtain ⟨rfl, h3, h4⟩ := h2
        exact k_bltB g (fun _ _ => rfl) (blt_max1 (g.calm (hotF hh rfl))) boot_max (by decide +kernel) (by decide) (by decide) h1 h3 (chkEs_star h4) (okEs es g h4)
      · simp only [Bool.and_eq_true, decide_eq_true_eq, Bool.not_eq_true'] at h2
        obtain ⟨rfl, h3, h4⟩ := h2
        exact k_bltB g (fun _ _ => rfl) (blt_min1 (g.calm (hotF hh rfl))) boot_min (by decide +kernel) (by decide) (by decide) h1 h3 (chkEs_star h4) (okEs es g h4)
      · simp only [Bool.and_eq_true, decide_eq_true_eq, Bool.not_eq_true'] at h2
        obtain ⟨rfl, h3, h4⟩ := h2
        exact k_bltT g (fun _ _ => rfl) (blt_keys (g.calm (hotF hh rfl)) md) boot_list (by decide +kernel) (by decide) (by decide) h1 h3 (chkEs_star h4) (okEs es g h4)
      · simp only [Bool.and_eq_true, decide_eq_true_eq, Bool.not_eq_true'] at h2
        obtain ⟨rfl, h3, h4⟩ := h2
        exact k_bltT g (fun _ _ => rfl) blt_tupk boot_tuple (by decide +kernel) (by decide) (by decide) h1 h3 (chkEs_star h4) (okEs es g h4)
      · simp only [Bool.and_eq_true, decide_eq_true_eq, Bool.not_eq_true'] at h2
        obtain ⟨rfl, h3, h4⟩ := h2
        exact k_bltT g (fun _ _ => rfl) (blt_dict (g.calm (hotF hh rfl))) PySem.Pv.boot_dict (by decide +kernel) (by decide) (by decide) h1 h3 (chkEs_star h4) (okEs es g h4)
      · cases h2
    · cases h
  | .exIs a c, _i, X, e, g, h => by
    unfold chkE at h
    split at h
    · rw [Bool.and_eq_true, Bool.and_eq_true, Bool.and_eq_true, Bool.and_eq_true, Bool.and_eq_true, Bool.and_eq_true, Bool.and_eq_true, Bool.and_eq_true, decide_eq_true_eq, decide_eq_true_eq] at h
      obtain ⟨rfl, h1, h2, h3, h4, h5, h6, h7, h8⟩ := h
      exact k_exIs g h1 h2 h3 h7 h4 h5 h6 (g.blt _ (by decide +kernel)) (okE a g h8)
    · cases h
  | .exFld a f, _i, X, e, g, h => by
    unfold chkE at h
    split at h
    · simp only [Bool.and_eq_true, decide_eq_true_eq] at h
      obtain ⟨rfl, h1, h2, h3, h4⟩ := h
      exact k_exFld g h1 h2 h3 (okE a g h4)
    · cases h
  | .isi a t, _i, X, e, g, h => by
    unfold chkE at h
    split at h
    · simp only [Bool.and_eq_true, decide_eq_true_eq] at h
      obtain ⟨rfl, h1, h2, h3, h4, h5⟩ := h
      exact k_isi g h1 h2 h3 h4 (okE a g h5)
    · cases h
  | .mth id o es, _i, X, e, g, h => by
    unfold chkE at h
    split at h
    · simp only [Bool.and_eq_true, decide_eq_true_eq] at h
      obtain ⟨h1, h2, h3, h4, h5, h6, h7⟩ := h
      split at h7
      · subst h1
        simp only [Bool.not_eq_true'] at h7
        exact k_mthL (fun _ _ _ => rfl) (fun _ _ => rfl) PySem.F.slot_list_append PySem.F.type_list_append mth_append h3 h2 h7 h4 (chkEs_star h6) (okE o g h5) (okEs es g h6)
      · subst h1
        simp only [Bool.not_eq_true'] at h7
        exact k_mthL (fun _ _ _ => rfl) (fun _ _ => rfl) PySem.F.slot_list_pop PySem.F.type_list_pop mth_pop h3 h2 h7 h4 (chkEs_star h6) (okE o g h5) (okEs es g h6)
      · subst h1
        exact k_mthL0 (fun _ _ _ => rfl) (fun _ _ => rfl) PySem.F.slot_list_pop PySem.F.type_list_pop mth_pop0 h3 h2 h7 (okE o g h5) (okEs es g h6) (chkEs_nil h6 h7)
      · subst h1
        simp only [Bool.not_eq_true'] at h7
        exact k_mthL (fun _ _ _ => rfl) (fun _ _ => rfl) PySem.F.slot_list_index PySem.F.type_list_index (mth_index g.line) h3 h2 h7 h4 (chkEs_star h6) (okE o g h5) (okEs es g h6)
      · subst h1
        simp only [Bool.not_eq_true'] at h7
        exact k_mthL (fun _ _ _ => rfl) (fun _ _ => rfl) PySem.F.slot_list_remove PySem.F.type_list_remove (mth_remove g.line) h3 h2 h7 h4 (chkEs_star h6) (okE o g h5) (okEs es g h6)
      · subst h1
        simp only [Bool.not_eq_true'] at h7
        exact k_mthL (fun _ _ _ => rfl) (fun _ _ => rfl) PySem.F.slot_list_count PySem.F.type_list_count (mth_count g.line) h3 h2 h7 h4 (chkEs_star h6) (okE o g h5) (okEs es g h6)
      · subst h1
        simp only [Bool.and_eq_true, Bool.not_eq_true'] at h7
        obtain ⟨h7, h8⟩ := h7
        exact k_mthT h8 g (fun _ _ _ => rfl) (fun _ _ => rfl) PySem.F.slot_tuple_count PySem.F.type_tuple_count (mth_tcount g.line) h3 h2 h7 h4 (chkEs_star h6) (okE o g h5) (okEs es g h6)
      · subst h1
        simp only [Bool.not_eq_true'] at h7
        exact k_mthD (fun _ _ _ => rfl) (fun _ _ => rfl) PySem.F.slot_dict_get PySem.F.type_dict_get (mth_get1 (by have := g.line; omega)) h3 h2 h7 h4 (chkEs_star h6) (okE o g h5) (okEs es g h6)
      · subst h1
        simp only [Bool.not_eq_true'] at h7
        exact k_mthD (fun _ _ _ => rfl) (fun _ _ => rfl) PySem.F.slot_dict_get PySem.F.type_dict_get (mth_get2 (by have := g.line; omega)) h3 h2 h7 h4 (chkEs_star h6) (okE o g h5) (okEs es g h6)
      · subst h1
        simp only [Bool.not_eq_true'] at h7
        exact k_mthS (fun _ _ _ => rfl) (fun _ _ => rfl) PySem.F.slot_str_split PySem.F.type_str_split mth_split h3 h2 h7 h4 (chkEs_star h6) (okE o g h5) (okEs es g h6)
      · subst h1
        simp only [Bool.not_eq_true'] at h7
        exact k_mthS (fun _ _ _ => rfl) (fun _ _ => rfl) PySem.F.slot_str_join PySem.F.type_str_join mth_join h3 h2 h7 h4 (chkEs_star h6) (okE o g h5) (okEs es g h6)
      · subst h1
        simp only [Bool.not_eq_true'] at h7
        exact k_mthS (fun _ _ _ => rfl) (fun _ _ => rfl) PySem.F.slot_str_find PySem.F.type_str_find mth_find h3 h2 h7 h4 (chkEs_star h6) (okE o g h5) (okEs es g h6)
      · subst h1
        exact k_mthS0 (fun _ _ _ => rfl) (fun _ _ => rfl) PySem.F.slot_str_lower PySem.F.type_str_lower mth_lower h3 h2 h7 (okE o g h5) (okEs es g h6) (chkEs_nil h6 h7)
      · subst h1
        simp only [Bool.not_eq_true'] at h7
        exact k_mthL (fun _ _ _ => rfl) (fun _ _ => rfl) PySem.F.slot_list_insert PySem.F.type_list_insert mth_insert h3 h2 h7 h4 (chkEs_star h6) (okE o g h5) (okEs es g h6)
      · cases h7
    · cases h
  | .dnew t, _i, X, e, g, h => by
    unfold chkE at h
    split at h
    · refine k_dnew fun e => ?_
      rw [← g.ktg]
      subst e
      simpa using h
    · cases h
  | .dcomp own tg it cd k v, _i, X, e, g, h => by
    unfold chkE at h
    split at h
    · simp only [Bool.and_eq_true, decide_eq_true_eq] at h
      obtain ⟨rfl, h1, h2, h3, h4, h5, h6, h7⟩ := h
      exact k_dcomp g (g.calm (chkI_calm h1)) (okI it g h1) (chkI_set h1) h2 h3 (fun s H Cc cl fp => okT (X := X.blk s H _ (compEnvC _ cl Cc X.env) fp) (g.calm (chkI_calm h1)) g.nodup h4) (fun s H Cc cl fp => okC cd (_i := xF) (g.blk s H _ _ fp (chkI_calm h1)) h5) (fun s H Cc cl fp => okE k (_i := xF) (g.blk s H _ _ fp (chkI_calm h1)) h6) (fun s H Cc cl fp => okE v (_i := xF) (g.blk s H _ _ fp (chkI_calm h1)) h7)
    · cases h
  | .comp md own tg it cd elt, _i, X, e, g, h => by
    unfold chkE at h
    split at h
    · simp only [Bool.and_eq_true, decide_eq_true_eq] at h
      obtain ⟨rfl, h1, h2, h3, h4, h5, h6⟩ := h
      exact k_comp g (g.calm (chkI_calm h1)) (okI it g h1) (chkI_set h1) h2 h3 (fun s H Cc cl fp => okT (X := X.blk s H _ (compEnvC _ cl Cc X.env) fp) (g.calm (chkI_calm h1)) g.nodup h4) (fun s H Cc cl fp => okC cd (_i := xF) (g.blk s H _ _ fp (chkI_calm h1)) h5) (fun s H Cc cl fp => okE elt (_i := xF) (g.blk s H _ _ fp (chkI_calm h1)) h6)
    · cases h
  | .comp2 md own own1 tg it cd tg1 it1 cd1 elt, _i, X, e, g, h => by
    unfold chkE at h
    split at h
    · simp only [Bool.and_eq_true, decide_eq_true_eq] at h
      obtain ⟨rfl, rfl, h1, h2, h3, h31, h32, h4, h5, h6, h7, h8, h9⟩ := h
      exact k_comp2 g (g.calm (chkI_calm h1)) (okI it g h1) (chkI_set h1) (chkI_set h6) h2 h3 h31 h32 (fun s H Cc cl fp => okT (X := X.blk s H _ (compEnvC _ cl Cc X.env) fp) (g.calm (chkI_calm h1)) g.nodup h4) (fun s H Cc cl fp => okC cd (_i := xF) (g.blk s H _ _ fp (chkI_calm h1)) h5)
        (fun s H Cc cl fp => okI it1 (_i := xF) (g.blk s H _ _ fp (chkI_calm h1)) h6) (fun s H Cc cl fp => okT (X := X.blk s H _ (compEnvC _ cl Cc X.env) fp) (g.calm (chkI_calm h1)) g.nodup h7) (fun s H Cc cl fp => okC cd1 (_i := xF) (g.blk s H _ _ fp (chkI_calm h1)) h8) (fun s H Cc cl fp => okE elt (_i := xF) (g.blk s H _ _ fp (chkI_calm h1)) h9)
    · cases h
  | .compN own tg it cd elt, _i, X, e, g, h => by
    unfold chkE at h
    split at h
    · simp only [Bool.and_eq_true, decide_eq_true_eq] at h
      obtain ⟨rfl, h1, h2, h3, h4, h5, h6⟩ := h
      exact k_compN g (g.calm (chkI_calm h1)) (okI it g h1) (chkI_set h1) h2 h3 (fun s H Cc cl fp => okT (X := X.blk s H _ (compEnvC _ cl Cc X.env) fp) (g.calm (chkI_calm h1)) g.nodup h4) (fun s H Cc cl fp => okC cd (_i := xF) (g.blk s H _ _ fp (chkI_calm h1)) h5) (fun s H Cc cl fp => okE elt (_i := xF) (g.blk s H _ _ fp (chkI_calm h1)) h6)
    · cases h
  | .ddisp md ks es, _i, X, e, g, h => by
    unfold chkE at h
    split at h
    · simp only [Bool.and_eq_true] at h
      obtain ⟨h1, h2, h3⟩ := h
      exact k_ddisp (okPs es g h2 h3 (lenK_ok h1).2.2) h2 h1 ((lenK_ok h1).2.2.trans (chkEs_len h3))
    · cases h
  | .dsub ks es i, _i, X, e, g, h => by
    unfold chkE at h
    split at h
    · simp only [Bool.and_eq_true] at h
      obtain ⟨h0, h1, h2, h3, h4⟩ := h
      exact k_dsub g (okPs es g h2 h3 (lenK_ok h1).2.2) h2 h1 ((lenK_ok h1).2.2.trans (chkEs_len h3)) h0 (okE i g h4)
    · cases h
  | .dgetd ks es i d, _i, X, e, g, h => by
    unfold chkE at h
    split at h
    · simp only [Bool.and_eq_true, decide_eq_true_eq] at h
      obtain ⟨h0, h01, h02, h03, h1, h2, h3, h4, h5⟩ := h
      exact k_dgetd g h0 (okPs es g h2 h3 (lenK_ok h1).2.2) h2 h1 ((lenK_ok h1).2.2.trans (chkEs_len h3)) h01 h02 h03 (okE i g h4) (okE d g h5)
    · cases h
  | .kget i a, _i, X, e, g, h => by
    unfold chkE at h
    split at h
    · simp only [Bool.and_eq_true, decide_eq_true_eq] at h
      exact k_kget g h.1 h.2.1 h.2.2.1 h.2.2.2.1 (okE a g h.2.2.2.2)
    · cases h
  | .kin neg a i, _i, X, e, g, h => by
    unfold chkE at h
    split at h
    · simp only [Bool.and_eq_true, decide_eq_true_eq] at h
      exact k_kin g h.1 h.2.1 h.2.2.1 h.2.2.2.1 (okE a g h.2.2.2.2)
    · cases h
  | .fmt a, _i, X, e, g, h => by
    unfold chkE at h
    split at h
    · simp only [Bool.and_eq_true, decide_eq_true_eq] at h
      obtain ⟨rfl, h2⟩ := h
      exact k_fmt (okE a g h2)
    · cases h
  | .fstr es, _i, X, e, g, h => by
    unfold chkE at h
    split at h
    · exact k_fstr (okJs es g h)
    · cases h
  | .lockE a x, _i, X, e, g, h => by
    unfold chkE at h
    exact k_lockE (okE x g h)
theorem okJs : ∀ (c : CEs) [_i : XE] {X : Cx} {e : List Expr}, Good Z C X → chkEs Z X.N X.env.scope X.fn c e = true → PJ X e (tesOf X.K C c)
  | .nil, _i, X, e, g, h => by
    match e, h with
    | [], h => exact .nil
    | _ :: _, h => simp [chkEs] at h
  | .cons a r, _i, X, e, g, h => by
    match e, h with
    | [], h => simp [chkEs] at h
    | x :: es, h =>
      simp only [chkEs, Bool.and_eq_true] at h
      exact .cons (okE a g h.2.1) (okJs r g h.2.2)
theorem okPs : ∀ (c : CEs) [_i : XE] {X : Cx} {pos : Pos} {ks : List Key} {keys : List (Option Expr)} {vals : List Expr}, Good Z C X → chkK ks keys = true → chkEs Z X.N X.env.scope X.fn c vals = true → ks.length = cesL c → PPs X pos keys vals (trsOf X.K C ks c)
  | .nil, _i, X, pos, ks, keys, vals, g, h, h2, hl => by
    match ks, keys, vals, h, h2, hl with
    | [], [], [], _, _, _ => exact pps_nil
    | [], _ :: _, _, h, _, _ => simp [chkK] at h
    | [], [], _ :: _, _, h2, _ => simp [chkEs] at h2
    | _ :: _, _, _, _, _, hl => simp [cesL] at hl
  | .cons a r, _i, X, pos, ks, keys, vals, g, h, h2, hl => by
    match ks, keys, vals, h, h2, hl with
    | k :: ks, some e :: keys, v :: vals, h, h2, hl =>
      simp only [chkEs, Bool.and_eq_true] at h2
      simp only [chkK, Bool.and_eq_true] at h
      exact pps_cons (key_ok h.1) (okE a g h2.2.1) (okPs r g h.2 h2.2.2 (by simpa [cesL] using hl))
    | [], _, _, _, _, hl => simp [cesL] at hl
    | _ :: _, [], _, h, _, _ => simp [chkK] at h
    | _ :: _, none :: _, _, h, _, _ => simp [chkK] at h
    | _ :: _, _ :: _, [], _, h2, _ => simp [chkEs] at h2
theorem okO : ∀ (c : CO) [_i : XE] {X : Cx} {e : Option Expr}, Good Z C X → chkO Z X.N X.env.scope X.fn c e = true → PO X e (tO X.K (evO C c))
  | .no, _i, X, e, g, h => by
    cases e with
    | none => exact k_poN
    | some e => simp [chkO] at h
  | .so a, _i, X, e, g, h => by
    cases e with
    | none => simp [chkO] at h
    | some e =>
      simp only [chkO] at h
      exact k_poS (okE a g h)
theorem okC : ∀ (c : CC) [_i : XE] {X : Cx} {e : List Expr}, Good Z C X → chkC Z X.N X.env.scope X.fn c e = true → PTs X e (tB X.K (evC C c))
  | .no, _i, X, e, g, h => by
    match e, h with
    | [], h => exact k_ptsN
    | _ :: _, h => simp [chkC] at h
  | .so a, _i, X, e, g, h => by
    match e, h with
    | [], h => simp [chkC] at h
    | [x], h =>
      simp only [chkC] at h
      exact pts_one (okB a g h).1
    | _ :: _ :: _, h => simp [chkC] at h
theorem okEs : ∀ (c : CEs) [_i : XE] {X : Cx} {e : List Expr}, Good Z C X → chkEs Z X.N X.env.scope X.fn c e = true → PA X e (tA X.K (evEs C c))
  | .nil, _i, X, e, g, h => by
    match e, h with
    | [], h => exact k_paN
    | _ :: _, h => simp [chkEs] at h
  | .cons a r, _i, X, e, g, h => by
    match e, h with
    | [], h => simp [chkEs] at h
    | x :: es, h =>
      simp only [chkEs, Bool.and_eq_true] at h
      exact k_paC h.1 (okE a g h.2.1) (okEs r g h.2.2)
theorem okB : ∀ (c : CB) [_i : XE] {X : Cx} {e : Expr}, Good Z C X → chkB Z X.N X.env.scope X.fn c e = true → PT X e (tB X.K (evB C c)) ∧ ∀ op vs pos, e = .BoolOp op vs pos → PW X e (tB X.K (evB C c))
  | .and a b, _i, X, e, g, h => by
    unfold chkB at h
    split at h
    · rename_i x y r pos
      simp only [Bool.and_eq_true] at h
      obtain ⟨h1, h2⟩ := h
      have hb : PW X (.BoolOp .And (y :: r) pos) (tB X.K (evB C b)) := by
        split at h2
        · exact pw_and1 (okB b g h2).1
        · exact (okB b g h2).2 _ _ _ rfl
      have w : PW X (.BoolOp .And (x :: y :: r) pos) (tB X.K (evB C (.and a b))) := PW.imp (pw_and (okB a g h1).1 hb) fun σ H Q q => im_and q
      exact ⟨w.pt, fun _ _ _ _ => w⟩
    · cases h
  | .or a b, _i, X, e, g, h => by
    unfold chkB at h
    split at h
    · rename_i x y r pos
      simp only [Bool.and_eq_true] at h
      obtain ⟨h1, h2⟩ := h
      have hb : PW X (.BoolOp .Or (y :: r) pos) (tB X.K (evB C b)) := by
        split at h2
        · exact pw_or1 (okB b g h2).1
        · exact (okB b g h2).2 _ _ _ rfl
      have w : PW X (.BoolOp .Or (x :: y :: r) pos) (tB X.K (evB C (.or a b))) := PW.imp (pw_or (okB a g h1).1 hb) fun σ H Q q => im_or q
      exact ⟨w.pt, fun _ _ _ _ => w⟩
    · cases h
  | .not a, _i, X, e, g, h => by
    unfold chkB at h
    split at h
    · exact ⟨k_notT (okB a g h).1, fun _ _ _ e => by cases e⟩
    · cases h
  | .tru a, _i, X, e, g, h => by
    unfold chkB at h
    simp only [Bool.and_eq_true] at h
    refine ⟨k_tru h.1 (okE a g h.2), fun op vs pos e2 => ?_⟩
    subst e2
    cases h.1
  | .cmp op a b, _i, X, e, g, h => by
    unfold chkB at h
    split at h
    · simp only [Bool.and_eq_true] at h
      exact ⟨k_cmpT g h.1 h.2.1 (okE a g h.2.2.1) (okE b g h.2.2.2), fun _ _ _ e => by cases e⟩
    · cases h
  | .isN a, _i, X, e, g, h => by
    unfold chkB at h
    split at h
    · exact ⟨k_isNT (okE a g h), fun _ _ _ e => by cases e⟩
    · cases h
  | .notN a, _i, X, e, g, h => by
    unfold chkB at h
    split at h
    · exact ⟨k_notNT (okE a g h), fun _ _ _ e => by cases e⟩
    · cases h
  | .chain op op2 a b c, _i, X, e, g, h => by
    unfold chkB at h
    split at h
    · simp only [Bool.and_eq_true] at h
      exact ⟨k_chainT g h.1 h.2.1 h.2.2.1 (okE a g h.2.2.2.1) (okE b g h.2.2.2.2.1) (okE c g h.2.2.2.2.2), fun _ _ _ e => by cases e⟩
    · cases h
  | .kin neg a i, _i, X, e, g, h => by
    unfold chkB at h
    split at h
    · simp only [Bool.and_eq_true, decide_eq_true_eq] at h
      exact ⟨k_kinT g h.1 h.2.1 h.2.2.1 h.2.2.2.1 (okE a g h.2.2.2.2), fun _ _ _ e => by cases e⟩
    · cases h
theorem okI : ∀ (c : CI) [_i : XE] {X : Cx} {t e : Expr}, Good Z C X → chkI Z X.N X.env.scope X.fn c t e = true → PI X t e (tI X.K (evI C c))
  | .ex a, _i, X, t, e, g, h => by
    unfold chkI at h
    simp only [Bool.and_eq_true] at h
    exact pi_ex (okE a g h.2.2)
  | .keys a, _i, X, t, e, g, h => by
    unfold chkI at h
    simp only [Bool.and_eq_true] at h
    exact pi_keysW (okE a g h.2.2)
  | .rng1 a, _i, X, t, e, g, h => by
    unfold chkI at h
    split at h
    · simp only [Bool.and_eq_true, decide_eq_true_eq] at h
      obtain ⟨_, rfl, h1, h2, h3⟩ := h
      exact k_rng1 g h1 h2 (okE a g h3)
    · cases h
  | .rng2 a b, _i, X, t, e, g, h => by
    unfold chkI at h
    split at h
    · simp only [Bool.and_eq_true, decide_eq_true_eq] at h
      obtain ⟨_, rfl, h1, h2, h3, h4, h5⟩ := h
      exact k_rng2 g h1 h2 h3 (okE a g h4) (okE b g h5)
    · cases h
  | .enum a, _i, X, t, e, g, h => by
    unfold chkI at h
    split at h
    · simp only [Bool.and_eq_true, decide_eq_true_eq] at h
      obtain ⟨_, rfl, h1, h2, h3, h4⟩ := h
      exact k_enum (by rw [← g.ktg]; simpa using h4) g h1 h2 (okE a g h3)
    · cases h
  | .enumT a, _i, X, t, e, g, h => by
    unfold chkI at h
    split at h
    · simp only [Bool.and_eq_true, decide_eq_true_eq] at h
      obtain ⟨_, rfl, h1, h2, h3⟩ := h
      exact k_enumT g h1 h2 (okE a g h3)
    · cases h
  | .zip a b, _i, X, t, e, g, h => by
    unfold chkI at h
    split at h
    · simp only [Bool.and_eq_true, decide_eq_true_eq] at h
      obtain ⟨_, rfl, h1, h2, h3, h4, h5, h6⟩ := h
      exact k_zip (by rw [← g.ktg]; simpa using h6) g h1 h2 h3 (okE a g h4) (okE b g h5)
    · cases h
end
end Ev
set_option Elab.async false
set_option linter.all false
set_option maxRecDepth 100000
/-! EvP: statements -/
namespace Ev
open PySem PySem.Spec PyProof.Rows L2
variable [XT] [XA] [XE]
variable {Z : Nm} {C : Cfg}

/-! ### stores that are exchanged -/
def swR1 (kind : Str → Option NameKind) (ts vs : List Expr) : Option (Option (List Str)) :=
  if (!(ts.length == 2 || ts.length == 3) || vs.length != ts.length) = true then some none
  else if (vs.any fun | .Starred .. => true | _ => false) = true then some none
  else
    let line := (ts.head?.map (·.pos.line)).getD 0
    let names := ts.filterMap fun
      | .Name id pos => if kind id == some .local && pos.line == line then some id else none
      | _ => none
    if (names.length != ts.length || names.eraseDups.length != names.length) = true then some none
    else if vs.all (foldedForSure 8) = true then some none
    else if vs.all (constantsAlone 8) = true then none
    else some (some names)
def swR (kind : Str → Option NameKind) (targets : List Expr) (value : Expr) : Option (Option (List Str)) := match targets, value with
  | [.Tuple ts _ _], .Tuple vs _ _ => swR1 kind ts vs
  | [.Tuple _ _ _], _ => some none
  | [.Name _ _], _ => some none
  | [.Subscript _ _ _], _ => some none
  | _, _ => none
def swB (ts vs : List Expr) (env : PySem.Env) : Sem (Option (List Str)) := do
  if !(ts.length == 2 || ts.length == 3) || vs.length != ts.length || env.blockKind != .function then return none
  if vs.any fun | .Starred .. => true | _ => false then return none
  let line := (ts.head?.map (·.pos.line)).getD 0
  let names := ts.filterMap fun
    | .Name id pos => if env.kindOf id == some .local && pos.line == line then some id else none
    | _ => none
  if names.length != ts.length || names.eraseDups.length != names.length then return none
  if vs.all (foldedForSure 8) then return none
  if vs.all (constantsAlone 8) then unsupported "assign.tuple-of-constant-expressions:order-of-the-stores"
  return some names
theorem swR1_ok {ts vs : List Expr} {env : PySem.Env} {r : Option (List Str)} (hb : env.blockKind = .function) (h : swR1 env.kindOf ts vs = some r) : swB ts vs env = pure r := by
  unfold swR1 at h
  unfold swB
  have hbb : (env.blockKind != ScopeKind.function) = false := by rw [hb]; rfl
  simp only [hbb, Bool.or_false]
  split at h
  · rename_i c
    cases h
    exact if_pos c
  · rename_i c
    refine Eq.trans (if_neg c) ?_
    split at h
    · rename_i c2
      cases h
      exact if_pos c2
    · rename_i c2
      refine Eq.trans (if_neg c2) ?_
      simp only [] at h
      split at h
      · rename_i c3
        cases h
        exact if_pos c3
      · rename_i c3
        refine Eq.trans (if_neg c3) ?_
        split at h
        · rename_i c4
          cases h
          exact if_pos c4
        · rename_i c4
          refine Eq.trans (if_neg c4) ?_
          split at h
          · cases h
          · rename_i c5
            cases h
            exact if_neg c5
theorem swR_ok {targets : List Expr} {value : Expr} {env : PySem.Env} {r : Option (List Str)} (hb : env.blockKind = .function) (h : swR env.kindOf targets value = some r) : swappedStores targets value env = pure r := by
  unfold swR at h
  split at h
  · exact swR1_ok hb h
  · rename_i q
    cases h
    cases value <;> first | rfl | (exfalso; exact q _ _ _ rfl)
  · cases h; rfl
  · cases h; rfl
  · cases h
def swC (kind : Str → Option NameKind) (value : Expr) (target : Expr) : Bool := match value, target with
  | .ListComp _ _ s vpos, .Name t pos => kind t == some .local && pos.line == vpos.line && !(s.names.any fun (n, k) => n == t && (k == .local || k == .cell))
  | .SetComp _ _ s vpos, .Name t pos => kind t == some .local && pos.line == vpos.line && !(s.names.any fun (n, k) => n == t && (k == .local || k == .cell))
  | .DictComp _ _ _ s vpos, .Name t pos => kind t == some .local && pos.line == vpos.line && !(s.names.any fun (n, k) => n == t && (k == .local || k == .cell))
  | _, _ => false
theorem swC_ok {value target : Expr} {line : Nat} {env : PySem.Env} (hb : env.blockKind = .function) : swapsWith value (some target) line env = pure (swC env.kindOf value target) := by
  have hbb : (env.blockKind == ScopeKind.function) = true := by rw [hb]; rfl
  unfold swapsWith swC
  cases value <;> first
    | rfl
    | (cases target <;> first | rfl | (simp only [hbb, Bool.true_and]; rfl))
theorem swapN_ok {value : Expr} {line : Nat} {env : PySem.Env} (h : notComp value = true) : swapsWith value none line env = pure false := by
  cases value <;> first | rfl | cases h

/-! ### several names at once -/
def setV : List Nat → List V → L2.St → L2.St
  | i :: is, v :: vs, σ => setV is vs (σ.set i (some v))
  | _, _, σ => σ
theorem setV_set {i : Nat} {x : Option V} : ∀ {is : List Nat} {vs : List V} {σ : L2.St}, i ∉ is → setV is vs (σ.set i x) = (setV is vs σ).set i x
  | [], _, _, _ => rfl
  | _ :: _, [], _, _ => rfl
  | j :: is, v :: vs, σ, h => by
    have h1 : i ≠ j := fun e => h (by simp [e])
    have h2 : i ∉ is := fun e => h (List.mem_cons_of_mem _ e)
    show setV is vs ((σ.set i x).set j (some v)) = (setV is vs (σ.set j (some v))).set i x
    rw [List.set_comm _ _ h1, setV_set h2]
theorem setV_snoc {i : Nat} {v : V} : ∀ {is : List Nat} {vs : List V} {σ : L2.St}, vs.length = is.length → setV (is ++ [i]) (vs ++ [v]) σ = (setV is vs σ).set i (some v)
  | [], [], _, _ => rfl
  | [], _ :: _, _, h => by cases h
  | _ :: _, [], _, h => by cases h
  | j :: is, w :: vs, σ, h => setV_snoc (is := is) (vs := vs) (by simpa using h)
theorem setV_rev : ∀ {is : List Nat} {vs : List V} {σ : L2.St}, is.Nodup → vs.length = is.length → setV is.reverse vs.reverse σ = setV is vs σ
  | [], [], _, _, _ => rfl
  | [], _ :: _, _, _, h => by cases h
  | _ :: _, [], _, _, h => by cases h
  | j :: is, w :: vs, σ, hn, h => by
    have hn2 := List.nodup_cons.mp hn
    rw [List.reverse_cons, List.reverse_cons, setV_snoc (by simpa using h), setV_rev hn2.2 (by simpa using h)]
    exact (setV_set hn2.1).symm
theorem setAll_ok {K : PySem.W.Frag} {H : Hp} {μ : Mu} : ∀ {is : List Nat} {ws : List W} {vs : List V} {e : Env} {σ : L2.St}, WRs K H μ ws vs → EnvR K H μ e σ → EnvR K H μ (setAll is ws e) (setV is vs σ)
  | [], _, _, _, _, _, E => E
  | i :: is, [], _, _, _, .nil, E => E
  | i :: is, _ :: _, _, e, σ, .cons h r, E => setAll_ok (is := is) r (E.set h)
def parC (N : List Str) (sc : Scope) : List Nat → List Expr → Bool
  | [], [] => true
  | i :: is, e :: es => (match e with
    | .Name x _ => decide (N[i]? = some x) && decide (sc.names.lookup x = some .local)
    | _ => false) && parC N sc is es
  | _, _ => false
def namesOf : List Expr → List Str
  | .Name x _ :: r => x :: namesOf r
  | _ :: r => namesOf r
  | [] => []
section
variable {X : Cx}
theorem parC_len {N : List Str} {sc : Scope} : ∀ {is : List Nat} {ts : List Expr}, parC N sc is ts = true → ts.length = is.length ∧ (namesOf ts).length = is.length
  | [], [], _ => ⟨rfl, rfl⟩
  | i :: is, e :: es, h => by
    simp only [parC, Bool.and_eq_true] at h
    obtain ⟨h1, h2⟩ := h
    obtain ⟨a, b⟩ := parC_len h2
    split at h1
    · exact ⟨by simp [a], by simp [namesOf, b]⟩
    · cases h1
  | [], _ :: _, h => by cases h
  | _ :: _, [], h => by cases h
/-- stores by names, from the left, into the slots -/
theorem bind_names {pins : List (Addr × Obj)} {H : Hp} {Q : Unit → Shared → Prop} (hN : X.N.Nodup) : ∀ {is : List Nat} {xs : List Str} {vs : List V} {us : List Value} {σ : L2.St} {s : Shared}, L2.Inv X pins σ H s → Vals vs us → vs.length = is.length → xs.length = is.length →
    (∀ p ∈ is.zip xs, X.N[p.1]? = some p.2 ∧ X.env.scope.names.lookup p.2 = some .local) → (∀ s', L2.Inv X pins (setV is vs σ) H s' → Q () s') → wpAny (model X.prog X.w) X.A (assignInOrder (xs.map fun n => bindName X.env n) us) Q X.xe s
  | [], [], [], _, σ, s, I, .nil, _, _, _, q => assignInOrder_nil (q s I)
  | i :: is, x :: xs, v :: vs, _, σ, s, I, .cons r rr, h1, h2, hp, q => by
    obtain ⟨h3, h4⟩ := hp (i, x) (by simp)
    refine assignInOrder_cons (wpAny_bindName (store_ok I hN h3 (.inl h4) r (fun s2 I2 => ?_) (.inr h4)))
    exact bind_names hN I2 rr (by simpa using h1) (by simpa using h2) (fun p hpm => hp p (by simp [hpm])) q
  | [], [], _ :: _, _, _, _, _, _, h, _, _, _ => by cases h
  | [], _ :: _, _, _, _, _, _, _, _, h, _, _ => by cases h
  | _ :: _, [], _, _, _, _, _, _, _, h, _, _ => by cases h
  | _ :: _, _ :: _, [], _, _, _, _, _, h, _, _, _ => by cases h
def tParN (ix : List Nat) (ta : TA) : TS := fun D σ H => ta σ H fun vs H1 => vs.length = ix.length ∧ D.nx (setV ix vs σ) H1
theorem zip_names {N : List Str} {sc : Scope} : ∀ {is : List Nat} {ts : List Expr}, parC N sc is ts = true → ∀ p ∈ is.zip (namesOf ts), N[p.1]? = some p.2 ∧ sc.names.lookup p.2 = some .local
  | [], [], _, p, hp => by simp at hp
  | i :: is, e :: es, h, p, hp => by
    simp only [parC, Bool.and_eq_true] at h
    obtain ⟨h1, h2⟩ := h
    split at h1
    · simp only [Bool.and_eq_true, decide_eq_true_eq] at h1
      have hp : p ∈ (i :: is).zip (_ :: namesOf es) := hp
      rw [List.zip_cons_cons] at hp
      rcases List.mem_cons.mp hp with rfl | hp
      · exact h1
      · exact zip_names h2 p hp
    · cases h1
  | [], _ :: _, h, _, _ => by cases h
  | _ :: _, [], h, _, _ => by cases h
theorem assign_names {N : List Str} {sc : Scope} {env : PySem.Env} : ∀ {is : List Nat} {ts : List Expr}, parC N sc is ts = true → (assignEach ts env).length = ts.length ∧ (assignEach ts env).findIdx? (·.1) = none
  | [], [], _ => ⟨rfl, rfl⟩
  | i :: is, e :: es, h => by
    simp only [parC, Bool.and_eq_true] at h
    obtain ⟨h1, h2⟩ := h
    obtain ⟨a, b⟩ := assign_names (env := env) h2
    split at h1
    · rw [assign_each rfl]
      refine ⟨by simp [a], ?_⟩
      rw [List.findIdx?_cons, b]
      rfl
    · cases h1
  | [], _ :: _, h => by cases h
  | _ :: _, [], h => by cases h
theorem pgs_names {pins : List (Addr × Obj)} {H : Hp} {Q : Unit → Shared → Prop} (hN : X.N.Nodup) : ∀ {is : List Nat} {ts : List Expr} {vs : List V} {us : List Value} {σ : L2.St} {s : Shared}, parC X.N X.env.scope is ts = true → L2.Inv X pins σ H s → Vals vs us → vs.length = is.length →
    (∀ s', L2.Inv X pins (setV is vs σ) H s' → Q () s') → wpAny (model X.prog X.w) X.A (assignInOrder ((assignEach ts X.env).map (·.2)) us) Q X.xe s
  | [], [], [], _, σ, s, _, I, .nil, _, q => assignInOrder_nil (q s I)
  | i :: is, e :: es, v :: vs, _, σ, s, h, I, .cons r rr, hl, q => by
    simp only [parC, Bool.and_eq_true] at h
    obtain ⟨h1, h2⟩ := h
    split at h1
    · rename_i x px
      simp only [Bool.and_eq_true, decide_eq_true_eq] at h1
      rw [assign_each rfl]
      refine assignInOrder_cons (wpAny_assign_Name (store_ok I hN h1.1 (.inl h1.2) r (fun s2 I2 => ?_) (.inr h1.2)))
      exact pgs_names hN h2 I2 rr (by simpa using hl) q
    · cases h1
  | [], [], _ :: _, _, _, _, _, _, _, h, _ => by cases h
  | [], _ :: _, _, _, _, _, h, _, _, _, _ => by cases h
  | _ :: _, [], _, _, _, _, h, _, _, _, _ => by cases h
  | _ :: _, _ :: _, [], _, _, _, _, _, _, h, _ => by cases h
theorem Vals.rev {vs : List V} {us : List Value} (h : Vals vs us) : Vals vs.reverse us.reverse := by
  induction h with
  | nil => exact .nil
  | cons r _ ih =>
    rw [List.reverse_cons, List.reverse_cons]
    exact Vals.snoc ih r
where
  Vals.snoc : ∀ {vs : List V} {us : List Value} {v : V} {u : Value}, Vals vs us → RelV v u → Vals (vs ++ [v]) (us ++ [u])
  | _, _, _, _, .nil, r => .cons r .nil
  | _, _, _, _, .cons a b, r => .cons a (Vals.snoc b r)
theorem zip_rev_mem {α β : Type} {p : α × β} : ∀ {xs : List α} {ys : List β}, xs.length = ys.length → p ∈ xs.reverse.zip ys.reverse → p ∈ xs.zip ys
  | [], [], _, h => h
  | [], _ :: _, h, _ => by cases h
  | _ :: _, [], h, _ => by cases h
  | x :: xs, y :: ys, h, hm => by
    rw [List.reverse_cons, List.reverse_cons, List.zip_append (by simpa using h)] at hm
    rcases List.mem_append.mp hm with hm | hm
    · exact List.mem_cons_of_mem _ (zip_rev_mem (by simpa using h) hm)
    · have : p = (x, y) := by simpa using hm
      rw [this]
      exact List.mem_cons_self
theorem ps_parN {ix : List Nat} {ts es : List Expr} {ta : TA} {kt k2 : _} {pt pt2 pos : Pos} {sw : Option (List Str)} (hc : X.calm = true) (hN : X.N.Nodup) (hp : parC X.N X.env.scope ix ts = true) (hd : ix.Nodup) (hz : ix.length ≤ sizeLine) (ha : PA X es ta)
    (hw : swappedStores [.Tuple ts kt pt] (.Tuple es k2 pt2) X.env = pure sw) (hsw : sw = none ∨ sw = some (namesOf ts)) (hs : swapsWithSole [.Tuple ts kt pt] (.Tuple es k2 pt2) pos.line X.env = pure false) :
    PS X (.Assign [.Tuple ts kt pt] (.Tuple es k2 pt2) pos) (tParN ix ta) := by
  refine ⟨fun pins s σ H D I h => ?_⟩
  rw [exec_Assign_arm]
  refine wpAny_bind (wpAny_standAt ?_)
  rw [hs]
  refine wpAny_bind (wpAny_pure ?_)
  rw [if_neg (by decide)]
  refine wpAny_bind (Tuple_ (thn (ha.run _ pins s σ H _ I h) fun us s1 ⟨vs, H1, I1, r1, q1⟩ => ?_))
  obtain ⟨hl, q1⟩ := q1
  have hul : us.length = ix.length := by rw [← r1.length]; exact hl
  refine wpAny_newObj_type ?_ (by show us.toArray.size ≤ sizeLine; rw [List.size_toArray, hul]; exact hz)
  have I2 : Inv X pins σ H1 { s1 with heap := s1.heap.push { cls := .type "tuple", data := .seq us.toArray } } := I1.kept (t' := s1.toks) fun b o e => Heap.get?_push_of_some _ e
  rw [hw]
  refine wpAny_bind (wpAny_pure ?_)
  rcases hsw with rfl | rfl
  · show wpAny (model X.prog X.w) X.A (assign (.Tuple ts kt pt) X.env (.ref s1.heap.objs.size) >>= fun _ => pure Flow.next) _ _ _
    obtain ⟨a1, a2⟩ := assign_names (env := X.env) hp
    obtain ⟨b1, b2⟩ := parC_len hp
    refine wpAny_bind (assign_Tuple_tuple (I.ok.hd hc) (IsTup.new s1.heap us.toArray) (by rw [List.size_toArray, hul, ← b1, a1]) a2 fun h' hx' => ?_)
    have I3 := I2.kept (h' := h') (t' := s1.toks) fun b o e => hx' b o (Nat.ne_of_lt (Heap.lt_size e)) e
    exact pgs_names hN hp I3 (by simpa using r1) hl fun s' I4 => wpAny_pure ⟨_, H1, I4, q1⟩
  · obtain ⟨b1, b2⟩ := parC_len hp
    show wpAny (model X.prog X.w) X.A (do rule "assign.swapped-stores"; let items ← unpackItems (.ref s1.heap.objs.size) (namesOf ts).length none; assignInOrder ((namesOf ts).reverse.map fun n => bindName X.env n) items.reverse; pure Flow.next) _ _ _
    have hsz : us.toArray.size = (namesOf ts).length := by rw [List.size_toArray, hul, b2]
    rw [← hsz]
    refine wpAny_bind (wpAny_rule (wpAny_bind (unpackItems_tuple (items := us.toArray) (I.ok.hd hc) (IsTup.new s1.heap _) fun h' hx' => ?_)))
    have I3 := I2.kept (h' := h') (t' := s1.toks) fun b o e => hx' b o (Nat.ne_of_lt (Heap.lt_size e)) e
    refine wpAny_bind (bind_names (is := ix.reverse) (vs := vs.reverse) hN I3 (by simpa using Vals.rev r1) (by simp [hl]) (by simp [b2]) (fun p hpm => ?_) fun s' I4 => wpAny_pure ?_)
    · refine zip_names hp p ?_
      exact zip_rev_mem b2.symm hpm
    · rw [setV_rev hd hl] at I4
      exact ⟨_, H1, I4, q1⟩
end
end Ev
set_option Elab.async false
set_option linter.all false
set_option maxRecDepth 100000
/-! EvQ: every checked statement -/
namespace Ev
open PySem PySem.Spec PyProof.Rows L2
variable [XT] [XA]
variable {Z : Nm} {C : Cfg}
def noLk : CE → Bool
  | .lockE _ _ => false
  | _ => true
def nmT : CT → Bool
  | .name _ => true
  | _ => false
mutual
def chkS (Z : Nm) (N : List Str) (sc : Scope) (fnb : Str → Bool) : CS → Stmt → Bool
  | .set tg a, s => match s with
    | .Assign [t] v pos => chkT N sc fnb tg t && (chkE Z N sc fnb a v && (decide (swR (fun x => sc.names.lookup x) [t] v = some none) && ((noLk a || notComp v) && (!Z.hot || nmT tg))))
    | _ => false
  | .par ix es, s => match s with
    | .Assign [.Tuple ts _ _] (.Tuple vs _ _) pos => !Z.hot && (parC N sc ix ts && (decide ix.Nodup && (decide (ix.length ≤ 100) && (decide (vs.length = ix.length) && (chkEs Z N sc fnb es vs && (match swR1 (fun x => sc.names.lookup x) ts vs with
      | some none => true
      | some (some l) => decide (l = namesOf ts)
      | none => false))))))
    | _ => false
  | .setI o i a, s => match s with
    | .Assign [.Subscript x y _] v pos => notSl y && (chkE Z N sc fnb a v && (chkE Z N sc fnb o x && chkE Z N sc fnb i y))
    | _ => false
  | .expr a, s => match s with
    | .Expr e _ => notComp e && chkE Z N sc fnb a e
    | _ => false
  | .ret a, s => match s with
    | .Return (some e) _ => chkE Z N sc fnb a e
    | _ => false
  | .retN, s => match s with
    | .Return none _ => true
    | _ => false
  | .ifs c a b, s => match s with
    | .If e x y _ => chkB Z N sc fnb c e && (chkSs Z N sc fnb a x && chkSs Z N sc fnb b y)
    | _ => false
  | .forS tg it b, s => match s with
    | .For t i body [] _ => chkT N sc fnb tg t && (chkI Z N sc fnb it t i && chkSs Z N sc fnb b body)
    | _ => false
  | .whl c b, s => match s with
    | .While e body [] _ => chkB Z N sc fnb c e && chkSs Z N sc fnb b body
    | _ => false
  | .pass, s => match s with
    | .Pass _ => true
    | _ => false
  | .brk, s => match s with
    | .Break _ => true
    | _ => false
  | .cont, s => match s with
    | .Continue _ => true
    | _ => false
  | .lockS _ c, s => chkS Z N sc fnb c s
  | .raise c es, s => match s with
    | .Raise (some (.Call (.Name n _) xs [] _)) none _ => decide (n = c) && (Z.rs.contains c && (glB sc n && (okN n && (!Z.hot && (!xs.isEmpty && chkEs Z N sc fnb es xs)))))
    | _ => false
  | .tryS i c b u, s => match s with
    | .Try body [.ExceptHandler (some (.Name n _)) (some y) (u0 :: us) _] [] [] _ => decide (n = c) && (Z.ex.contains c && (glB sc n && (okN n && (!Z.hot && (decide (N[i]? = some y) && (decide (sc.names.lookup y = some .local) && (chkSs Z N sc fnb b body && chkSs { Z with hot := true } N sc fnb u (u0 :: us))))))))
    | _ => false
def chkSs (Z : Nm) (N : List Str) (sc : Scope) (fnb : Str → Bool) : CSs → List Stmt → Bool
  | .nil, [] => true
  | .cons a r, s :: ss => chkS Z N sc fnb a s && chkSs Z N sc fnb r ss
  | _, _ => false
end
structure GoodS [XE] (Z : Nm) (C : Cfg) (X : Cx) : Prop extends Good Z C X where
  kind : X.env.scope.kind = .function
  own : PassesOwn (model X.prog X.w) X.A X.env X.xe
  stk : X.stack = X.env :: X.outer
  frm : X.env.frame = some X.env.locals
section
variable [XE] {X : Cx}
theorem GoodS.block (g : GoodS Z C X) : X.env.blockKind = .function := by
  unfold Env.blockKind
  rw [g.kind]
  rfl
theorem im_set {tg : CT} {a : CE} {D : Ends} {σ : L2.St} {H : Hp} {K : PySem.W.Frag} (h : tS K (evS C (.set tg a)) D σ H) : tE K (evE C a) σ H fun x H1 => gT K tg x σ H1 D.nx := by
  obtain ⟨e, M, μ, at_, p⟩ := h
  obtain ⟨e1, M1, μ1, a1, p1⟩ := goE at_ (show Post K (RF K) H μ ((evE C a e M).bind fun w M1 => withO (asgT tg w e) fun e1 => .ok (.nx e1) M1) (outD D) from p)
  refine ⟨e1, M1, μ1, a1, p1.imp fun v H1 ⟨w, M2, μ2, s2, a2, r2, p2⟩ => ?_⟩
  obtain ⟨e2, h2, p3⟩ := Post.withO p2
  exact gT_ok h2 r2 a2.env fun σ' E' _ => Post.now (b := Out.nx σ') p3 a2.st E'
theorem subAsg {o i : Expr} {pos : Pos} (h : notSl i = true) : ∀ v, assign (.Subscript o i pos) X.env v = (do
      let ov ← holding [v] (eval o X.env)
      let iv ← holding [v, ov] (eval i X.env)
      standAt pos
      holding [v, ov, iv] (setItem ov iv v)
      release [v, ov, iv] []) := by
  intro v
  cases i <;> first | rfl | cases h
theorem each_T {N : List Str} {sc : Scope} {fnb : Str → Bool} {t : CT} {e : Expr} (h : chkT N sc fnb t e = true) : (assignEach [e] X.env).map (·.2) = [assign e X.env] := by
  rw [assign_each (star_of_T h)]
  rfl
theorem k_setC {i : Nat} {md : Md} {own : List Nat} {t : CT} {it : CI} {cd : CC} {a : CE} {v tgt : Expr} {pos : Pos} (g : GoodS Z C X) (h1 : chkT X.N X.env.scope X.fn (.name i) tgt = true) (h2 : chkE Z X.N X.env.scope X.fn (.comp md own t it cd a) v = true) (hsw : swC X.env.kindOf v tgt = true) :
    PS X (.Assign [tgt] v pos) (tS X.K (evS C (.set (.name i) (.comp md own t it cd a)))) := by
  unfold chkT at h1
  split at h1
  · rename_i y py
    simp only [Bool.and_eq_true, decide_eq_true_eq] at h1
    unfold chkE at h2
    split at h2
    · rename_i x t0 i0 ifs as scope cpos
      have hb := swC_ok (value := .ListComp x [⟨t0, i0, ifs, as⟩] scope cpos) (target := .Name y py) (line := pos.line) g.block
      rw [hsw] at hb
      simp only [Bool.and_eq_true, decide_eq_true_eq] at h2
      obtain ⟨rfl, h3, h4, h5, h6, h7, h8⟩ := h2
      have gg := g.toGood
      have hyl : X.env.scope.names.lookup y = some .local := by
        unfold swC at hsw
        simp only [Bool.and_eq_true] at hsw
        have := hsw.1.1
        exact (show X.env.kindOf y = some .local from by simpa using this)
      have eo : (ownOf X.N own).map (·.2) = own := by
        unfold ownOf
        rw [List.map_map]
        exact List.map_id own
      refine PS.imp (ps_setLc (te := @tE _ _ xF X.K (evE C a)) (tt := @tB _ _ xF X.K (evC C cd)) (wi := tI X.K (evI C it)) (g := gT X.K t) (g.calm (chkI_calm h3)) g.nodup h1.1 hyl hb (okI it gg h3) (blkOk_by h4) (fun s H Cc cl fp => okT (X := X.blk s H _ (compEnvC _ cl Cc X.env) fp) (g.calm (chkI_calm h3)) g.nodup h6) (fun s H Cc cl fp => okC cd (_i := xF) (gg.blk s H _ _ fp (chkI_calm h3)) h7) (fun s H Cc cl fp => okE a (_i := xF) (gg.blk s H _ _ fp (chkI_calm h3)) h8)
        fun _ => notSet_fold (chkI_set h3) _ _) fun D σ H q => ?_
      rw [eo]
      obtain ⟨e, M, μ, at_, p⟩ := im_set q
      exact comp_ok (F := C.F) (fun i hi => by simpa using List.all_eq_true.mp h5 i hi) at_ p
    · cases h2
  · cases h1
theorem k_setN {i : Nat} {own : List Nat} {t : CT} {it : CI} {cd : CC} {a : CE} {v tgt : Expr} {pos : Pos} (g : GoodS Z C X) (h1 : chkT X.N X.env.scope X.fn (.name i) tgt = true) (h2 : chkE Z X.N X.env.scope X.fn (.compN own t it cd a) v = true) (hsw : swC X.env.kindOf v tgt = true) :
    PS X (.Assign [tgt] v pos) (tS X.K (evS C (.set (.name i) (.compN own t it cd a)))) := by
  unfold chkT at h1
  split at h1
  · rename_i y py
    simp only [Bool.and_eq_true, decide_eq_true_eq] at h1
    unfold chkE at h2
    split at h2
    · rename_i x t0 i0 ifs as scope cpos
      have hb := swC_ok (value := .ListComp x [⟨t0, i0, ifs, as⟩] scope cpos) (target := .Name y py) (line := pos.line) g.block
      rw [hsw] at hb
      simp only [Bool.and_eq_true, decide_eq_true_eq] at h2
      obtain ⟨rfl, h3, h4, h5, h6, h7, h8⟩ := h2
      have gg := g.toGood
      have hyl : X.env.scope.names.lookup y = some .local := by
        unfold swC at hsw
        simp only [Bool.and_eq_true] at hsw
        have := hsw.1.1
        exact (show X.env.kindOf y = some .local from by simpa using this)
      have eo : (ownOf X.N own).map (·.2) = own := by
        unfold ownOf
        rw [List.map_map]
        exact List.map_id own
      refine PS.imp (ps_setLc (te := @tE _ _ xF X.K (evE C a)) (tt := @tB _ _ xF X.K (evC C cd)) (wi := tI X.K (evI C it)) (g := gT X.K t) (g.calm (chkI_calm h3)) g.nodup h1.1 hyl hb (okI it gg h3) (blkOk_by h4) (fun s H Cc cl fp => okT (X := X.blk s H _ (compEnvC _ cl Cc X.env) fp) (g.calm (chkI_calm h3)) g.nodup h6) (fun s H Cc cl fp => okC cd (_i := xF) (gg.blk s H _ _ fp (chkI_calm h3)) h7) (fun s H Cc cl fp => okE a (_i := xF) (gg.blk s H _ _ fp (chkI_calm h3)) h8)
        fun _ => notSet_fold (chkI_set h3) _ _) fun D σ H q => ?_
      rw [eo]
      obtain ⟨e, M, μ, at_, p⟩ := im_set q
      exact compN_ok (F := C.F) (fun i hi => by simpa using List.all_eq_true.mp h5 i hi) at_ p
    · cases h2
  · cases h1
theorem k_setC2 {i : Nat} {md : Md} {own own1 : List Nat} {t t1 : CT} {it it1 : CI} {cd cd1 : CC} {a : CE} {v tgt : Expr} {pos : Pos} (g : GoodS Z C X) (h1 : chkT X.N X.env.scope X.fn (.name i) tgt = true) (h2 : chkE Z X.N X.env.scope X.fn (.comp2 md own own1 t it cd t1 it1 cd1 a) v = true) (hsw : swC X.env.kindOf v tgt = true) :
    PS X (.Assign [tgt] v pos) (tS X.K (evS C (.set (.name i) (.comp2 md own own1 t it cd t1 it1 cd1 a)))) := by
  unfold chkT at h1
  split at h1
  · rename_i y py
    simp only [Bool.and_eq_true, decide_eq_true_eq] at h1
    unfold chkE at h2
    split at h2
    · rename_i x t0 i0 ifs as t01 i01 ifs1 as1 scope cpos
      have hb := swC_ok (value := .ListComp x [⟨t0, i0, ifs, as⟩, ⟨t01, i01, ifs1, as1⟩] scope cpos) (target := .Name y py) (line := pos.line) g.block
      rw [hsw] at hb
      simp only [Bool.and_eq_true, decide_eq_true_eq] at h2
      obtain ⟨rfl, rfl, h3, h4, h5, h51, h52, h6, h7, h8, h9, h10, h11⟩ := h2
      have gg := g.toGood
      have hyl : X.env.scope.names.lookup y = some .local := by
        unfold swC at hsw
        simp only [Bool.and_eq_true] at hsw
        have := hsw.1.1
        exact (show X.env.kindOf y = some .local from by simpa using this)
      have eo : (ownOf X.N own).map (·.2) = own := by
        unfold ownOf
        rw [List.map_map]
        exact List.map_id own
      have hv : ∀ i ∈ own1, i ∈ (ownOf X.N own).map (·.2) := fun i hi => by
        rw [eo]
        simpa using List.all_eq_true.mp h52 i hi
      refine PS.imp (ps_setLc2 (te := @tE _ _ xF X.K (evE C a)) (tt := @tB _ _ xF X.K (evC C cd)) (tt1 := @tB _ _ xF X.K (evC C cd1)) (wi := tI X.K (evI C it)) (wi1 := @tI _ _ xF X.K (evI C it1)) (g := gT X.K t) (g1 := gT X.K t1) (g.calm (chkI_calm h3)) g.nodup h1.1 hyl hb (okI it gg h3) (blkOk_by h4) hv (fun s H Cc cl fp => okT (X := X.blk s H _ (compEnvC _ cl Cc X.env) fp) (g.calm (chkI_calm h3)) g.nodup h6) (fun s H Cc cl fp => okC cd (_i := xF) (gg.blk s H _ _ fp (chkI_calm h3)) h7)
        (fun s H Cc cl fp => okI it1 (_i := xF) (gg.blk s H _ _ fp (chkI_calm h3)) h8) (fun s H Cc cl fp => okT (X := X.blk s H _ (compEnvC _ cl Cc X.env) fp) (g.calm (chkI_calm h3)) g.nodup h9) (fun s H Cc cl fp => okC cd1 (_i := xF) (gg.blk s H _ _ fp (chkI_calm h3)) h10) (fun s H Cc cl fp => okE a (_i := xF) (gg.blk s H _ _ fp (chkI_calm h3)) h11)
        (fun _ => notSet_fold (chkI_set h3) _ _) fun _ _ => notSet_fold (chkI_set h8) _ _) fun D σ H q => ?_
      rw [eo]
      obtain ⟨e, M, μ, at_, p⟩ := im_set q
      exact comp2_ok (F := C.F) (fun i hi => by simpa using List.all_eq_true.mp h5 i hi) (fun i hi => by simpa using List.all_eq_true.mp h51 i hi) at_ p
    · cases h2
  · cases h1
theorem ps_setDc {i : Nat} {y : Str} {py : Pos} {kx vx tg iter : Expr} {ifs : List Expr} {scope : Scope} {own : List (Str × Nat)} {pos spos : Pos} {wi : TI} {g : TG} {tt : TT} {tk tv : TE} (hc : X.calm = true) (hN : X.N.Nodup) (hy : X.N[i]? = some y) (hyl : X.env.scope.names.lookup y = some .local)
    (hsw : swapsWith (.DictComp kx vx [⟨tg, iter, ifs, 0⟩] scope pos) (some (.Name y py)) spos.line X.env = pure true) (hi : PI X tg iter wi) (ok : BlkOk X.N X.env.scope scope own)
    (hg : ∀ (s : Shared) (H : Hp) (C : Addr) (cl : List (Str × Addr)) (fp : List Addr), PG (X.blk s H scope (compEnvC scope cl C X.env) fp) tg g) (ht : ∀ (s : Shared) (H : Hp) (C : Addr) (cl : List (Str × Addr)) (fp : List Addr), PTs (X.blk s H scope (compEnvC scope cl C X.env) fp) ifs tt)
    (hk : ∀ (s : Shared) (H : Hp) (C : Addr) (cl : List (Str × Addr)) (fp : List Addr), PE (X.blk s H scope (compEnvC scope cl C X.env) fp) kx tk)
    (he : ∀ (s : Shared) (H : Hp) (C : Addr) (cl : List (Str × Addr)) (fp : List Addr), PE (X.blk s H scope (compEnvC scope cl C X.env) fp) vx tv) (hs : ∀ x, foldedSetIterable iter X.env x = pure x) :
    PS X (.Assign [.Name y py] (.DictComp kx vx [⟨tg, iter, ifs, 0⟩] scope pos) spos) (tAsg (tDc wi g tt tk tv (own.map (·.2))) (gName i)) := by
  refine ⟨fun pins s σ H D I h => ?_⟩
  rw [exec_Assign_Name_used _ _ _ _ hsw]
  refine wpAny_bind (wpAny_standAt (wpAny_bind ?_))
  show wpAny _ X.A (do let _ ← comprehension (.DictComp kx vx [⟨tg, iter, ifs, 0⟩] scope pos) scope X.env (firstIterPos [⟨tg, iter, ifs, 0⟩] pos) newDict false (eval iter X.env) (some (assign (.Name y py) X.env))) _ _ s
  have h : tDc wi g tt tk tv (own.map (·.2)) σ H (fun x H1 => gName i x σ H1 D.nx) := h
  refine wpAny_bind (thn (dc_core (Qf := fun _ s' => SP X pins D .next s') hc hN I hi ok hg ht hk he hs h fun L C s' m H' I' q hn f => ?_) fun _ s' hq => wpAny_pure (wpAny_pure hq))
  show wpAny _ _ (assign (.Name y py) X.env (.ref L)) _ _ _
  refine wpAny_assign_Name (store_ok2 (v := V.ref L) I' hN hy (.inl hyl) rfl (fun s2 I2 ⟨a, sb, ha⟩ => ?_) (.inr hyl))
  obtain ⟨f0, f1, f2, f3, f4, f5⟩ := f
  have haC : C ≠ a := by
    rcases ha with z | z
    · rw [z]; exact f1
    · exact fun e => f4 y a z e.symm
  exact ⟨m, hn.sameBut sb haC, fun h3 sb3 => ⟨_, H', I2.turned (t' := s2.toks) (fun b o hb e => (sb3.2 b hb).trans e) f0 f1 f3 f4 f5, q⟩⟩
theorem k_setD {i : Nat} {own : List Nat} {t : CT} {it : CI} {cd : CC} {a b : CE} {v tgt : Expr} {pos : Pos} (g : GoodS Z C X) (h1 : chkT X.N X.env.scope X.fn (.name i) tgt = true) (h2 : chkE Z X.N X.env.scope X.fn (.dcomp own t it cd a b) v = true) (hsw : swC X.env.kindOf v tgt = true) :
    PS X (.Assign [tgt] v pos) (tS X.K (evS C (.set (.name i) (.dcomp own t it cd a b)))) := by
  unfold chkT at h1
  split at h1
  · rename_i y py
    simp only [Bool.and_eq_true, decide_eq_true_eq] at h1
    unfold chkE at h2
    split at h2
    · rename_i x1 x2 t0 i0 ifs as scope cpos
      have hb := swC_ok (value := .DictComp x1 x2 [⟨t0, i0, ifs, as⟩] scope cpos) (target := .Name y py) (line := pos.line) g.block
      rw [hsw] at hb
      simp only [Bool.and_eq_true, decide_eq_true_eq] at h2
      obtain ⟨rfl, h3, h4, h5, h6, h7, h8, h9⟩ := h2
      have gg := g.toGood
      have hyl : X.env.scope.names.lookup y = some .local := by
        unfold swC at hsw
        simp only [Bool.and_eq_true] at hsw
        have := hsw.1.1
        exact (show X.env.kindOf y = some .local from by simpa using this)
      have eo : (ownOf X.N own).map (·.2) = own := by
        unfold ownOf
        rw [List.map_map]
        exact List.map_id own
      refine PS.imp (ps_setDc (tk := @tE _ _ xF X.K (evE C a)) (tv := @tE _ _ xF X.K (evE C b)) (tt := @tB _ _ xF X.K (evC C cd)) (wi := tI X.K (evI C it)) (g := gT X.K t) (g.calm (chkI_calm h3)) g.nodup h1.1 hyl hb (okI it gg h3) (blkOk_by h4) (fun s H Cc cl fp => okT (X := X.blk s H _ (compEnvC _ cl Cc X.env) fp) (g.calm (chkI_calm h3)) g.nodup h6)
        (fun s H Cc cl fp => okC cd (_i := xF) (gg.blk s H _ _ fp (chkI_calm h3)) h7) (fun s H Cc cl fp => okE a (_i := xF) (gg.blk s H _ _ fp (chkI_calm h3)) h8) (fun s H Cc cl fp => okE b (_i := xF) (gg.blk s H _ _ fp (chkI_calm h3)) h9) fun _ => notSet_fold (chkI_set h3) _ _) fun D σ H q => ?_
      rw [eo]
      obtain ⟨e, M, μ, at_, p⟩ := im_set q
      exact dcomp_ok (F := C.F) (fun i hi => by simpa using List.all_eq_true.mp h5 i hi) at_ p
    · cases h2
  · cases h1
theorem okTn {i : Nat} {e : Expr} (hN : X.N.Nodup) (h : chkT X.N X.env.scope X.fn (.name i) e = true) : PG X e (gT X.K (.name i)) := by
  unfold chkT at h
  split at h
  · simp only [Bool.and_eq_true, decide_eq_true_eq] at h
    obtain ⟨h1, h2⟩ := locB_ok h.2
    exact pg_name hN h.1 h1 h2
  · cases h
theorem swC_name {kind : Str → Option NameKind} {v tgt : Expr} (h : swC kind v tgt = true) : ∃ x p, tgt = .Name x p := by
  unfold swC at h
  split at h <;> first | exact ⟨_, _, rfl⟩ | cases h
theorem swC_comp {kind : Str → Option NameKind} {v tgt : Expr} (h : swC kind v tgt = true) : notComp v = false := by
  unfold swC at h
  split at h <;> first | rfl | cases h
theorem k_set {tg : CT} {a : CE} {v tgt : Expr} {pos : Pos} (g : GoodS Z C X) (h1 : chkT X.N X.env.scope X.fn tg tgt = true) (h2 : chkE Z X.N X.env.scope X.fn a v = true) (h3 : swR X.env.kindOf [tgt] v = some none) (h4 : (noLk a || notComp v) = true) (h5 : (!Z.hot || nmT tg) = true) :
    PS X (.Assign [tgt] v pos) (tS X.K (evS C (.set tg a))) := by
  cases hsw : swC X.env.kindOf v tgt with
  | false =>
    have hb := swC_ok (value := v) (target := tgt) (line := pos.line) g.block
    rw [hsw] at hb
    refine PS.imp (ps_asg (okE a g.toGood h2) (g := gT X.K tg) ?_ hb (swR_ok g.block h3) (each_T h1)) fun D σ H q => im_set q
    cases hh : Z.hot with
    | false => exact okT (g.calm hh) g.nodup h1
    | true =>
      rw [hh] at h5
      cases tg with
      | tup ts => cases h5
      | name i => exact okTn g.nodup h1
  | true =>
    obtain ⟨x, p, rfl⟩ := swC_name hsw
    cases tg with
    | tup ts => cases h1
    | name i =>
      have hc := swC_comp hsw
      cases a with
      | comp md own t it cd a => exact k_setC g h1 h2 hsw
      | comp2 md own own1 t it cd t1 it1 cd1 a => exact k_setC2 g h1 h2 hsw
      | compN own t it cd a => exact k_setN g h1 h2 hsw
      | lockE a0 a => rw [hc] at h4; cases h4
      | dcomp own t it cd a b => exact k_setD g h1 h2 hsw
      | _ => cases v <;> first | (cases hc; done) | (exfalso; simp [chkE] at h2; done)
theorem k_par {ix : List Nat} {cs : CEs} {ts vs : List Expr} {kt k2 : _} {pt pt2 pos : Pos} (g : GoodS Z C X) (hc : X.calm = true) (h1 : parC X.N X.env.scope ix ts = true) (h2 : ix.Nodup) (h3 : ix.length ≤ 100) (h4 : vs.length = ix.length) (h5 : chkEs Z X.N X.env.scope X.fn cs vs = true)
    (h6 : ∃ sw, swR1 X.env.kindOf ts vs = some sw ∧ (sw = none ∨ sw = some (namesOf ts))) : PS X (.Assign [.Tuple ts kt pt] (.Tuple vs k2 pt2) pos) (tS X.K (evS C (.par ix cs))) := by
  obtain ⟨sw, h6, h7⟩ := h6
  have hb := swC_ok (value := .Tuple vs k2 pt2) (target := .Tuple ts kt pt) (line := pos.line) g.block
  refine PS.imp (ps_parN hc g.nodup h1 h2 (Nat.le_trans h3 (by decide)) (okEs cs g.toGood h5) (swR_ok (targets := [.Tuple ts kt pt]) (value := .Tuple vs k2 pt2) g.block h6) h7 hb) fun D σ H ⟨e, M, μ, at_, p⟩ => ?_
  have q : Post X.K (RF X.K) H μ ((evEs C cs e M).bind fun ws M1 => .ok (.nx (setAll ix ws e)) M1) (outD D) := p
  cases hw : evEs C cs e M with
  | stuck => rw [hw] at q; exact q.elim
  | exn x Mx =>
    rw [hw] at q
    exact ⟨e, M, μ, at_, by rw [hw]; exact q⟩
  | ok ws0 M0 =>
    have hlen : ws0.length = vs.length := evEs_len h5 hw
    refine ⟨e, M, μ, at_, ?_⟩
    rw [hw]
    rw [hw] at q
    intro us H' μ' s S r
    refine ⟨by rw [← r.length, hlen, h4], ?_⟩
    exact q (Out.nx _) H' μ' s S (setAll_ok r (at_.env.stp s))
where
  evEs_len : ∀ {cs : CEs} {vs : List Expr} {e : Env} {M M0 : Store} {ws : List W}, chkEs Z X.N X.env.scope X.fn cs vs = true → evEs C cs e M = .ok ws M0 → ws.length = vs.length
  | .nil, [], e, M, M0, ws, _, h => by
    have h : (Res.ok [] M : Res (List W)) = .ok ws M0 := h
    cases h; rfl
  | .cons a r, v :: vs, e, M, M0, ws, hc, h => by
    simp only [chkEs, Bool.and_eq_true] at hc
    have h : ((evE C a e M).bind fun w M1 => (evEs C r e M1).bind fun ws M2 => .ok (w :: ws) M2) = .ok ws M0 := h
    obtain ⟨w, M1, _, h⟩ := Res.split h
    obtain ⟨ws', M2, h2, h⟩ := Res.split h
    cases h
    rw [List.length_cons, List.length_cons, evEs_len hc.2.2 h2]
  | .nil, _ :: _, _, _, _, _, hc, _ => by simp [chkEs] at hc
  | .cons _ _, [], _, _, _, _, hc, _ => by simp [chkEs] at hc
theorem k_setI {o i a : CE} {x y v : Expr} {p pos : Pos} (g : GoodS Z C X) (hs : notSl y = true) (ha : PE X v (tE X.K (evE C a))) (ho : PE X x (tE X.K (evE C o))) (hi : PE X y (tE X.K (evE C i))) : PS X (.Assign [.Subscript x y p] v pos) (tS X.K (evS C (.setI o i a))) := by
  have hsw : swC X.env.kindOf v (.Subscript x y p) = false := by
    unfold swC
    cases v <;> rfl
  have hb := swC_ok (value := v) (target := .Subscript x y p) (line := pos.line) g.block
  rw [hsw] at hb
  refine PS.imp (ps_asg ha (pg_sub ho hi (set_W (by have := g.line; omega)) (subAsg hs)) hb rfl rfl) fun D σ H ⟨e, M, μ, at_, p⟩ => ?_
  obtain ⟨e1, M1, μ1, a1, p1⟩ := goE at_ (show Post X.K (RF X.K) H μ ((evE C a e M).bind fun w M1 => (evE C o e M1).bind fun x M2 => (evE C i e M2).bind fun y M3 => withO (frzW w M3) fun p => (setW x y p.1 p.2).bind fun _ M4 => .ok (.nx e) M4) (outD D) from p)
  refine ⟨e1, M1, μ1, a1, p1.imp fun v1 H1 ⟨w1, M2, μ2, s2, a2, r2, p2⟩ => ?_⟩
  obtain ⟨e3, M3, μ3, a3, p3⟩ := goE a2 p2
  refine ⟨e3, M3, μ3, a3, p3.imp fun v2 H2 ⟨w2, M4, μ4, s4, a4, r4, p4⟩ => ?_⟩
  obtain ⟨e5, M5, μ5, a5, p5⟩ := goE a4 p4
  refine ⟨e5, M5, μ5, a5, p5.imp fun v3 H3 ⟨w3, M6, μ6, s6, a6, r6, p6⟩ => ?_⟩
  obtain ⟨q, hq, p7⟩ := Post.withO p6
  obtain ⟨μ7, s7, S7, d7⟩ := frzW_ok a6.st ((r2.stp s4).stp s6) hq
  have p8 := Post.bind (RA := fun _ _ (_ : Unit) (_ : Unit) => True) (Post.weak s7 p7)
  refine ⟨w2, w3, q.1, q.2, μ7, S7, (r4.stp s6).stp s7, r6.stp s7, d7, p8.imp fun _ H4 ⟨_, M9, μ9, s9, S9, _, p9⟩ => ?_⟩
  exact Post.now (b := Out.nx σ) p9 S9 ((a6.env.stp s7).stp s9)
theorem k_expr {a : CE} {x : Expr} {pos : Pos} (hn : notComp x = true) (ha : PE X x (tE X.K (evE C a))) : PS X (.Expr x pos) (tS X.K (evS C (.expr a))) := by
  refine PS.imp (ps_expr ha (swapN_ok hn)) fun D σ H ⟨e, M, μ, at_, p⟩ => ?_
  obtain ⟨e1, M1, μ1, a1, p1⟩ := goE at_ (show Post X.K (RF X.K) H μ ((evE C a e M).bind fun _ M1 => .ok (.nx e) M1) (outD D) from p)
  exact ⟨e1, M1, μ1, a1, p1.imp fun v1 H1 ⟨w1, M2, μ2, s2, a2, r2, p2⟩ => Post.now (b := Out.nx σ) p2 a2.st a2.env⟩
theorem k_ret {a : CE} {x : Expr} {pos : Pos} (ha : PE X x (tE X.K (evE C a))) : PS X (.Return (some x) pos) (tS X.K (evS C (.ret a))) := by
  refine PS.imp (ps_ret ha) fun D σ H ⟨e, M, μ, at_, p⟩ => ?_
  obtain ⟨e1, M1, μ1, a1, p1⟩ := goE at_ (show Post X.K (RF X.K) H μ ((evE C a e M).bind fun w M1 => .ok (.rt w) M1) (outD D) from p)
  exact ⟨e1, M1, μ1, a1, p1.imp fun v1 H1 ⟨w1, M2, μ2, s2, a2, r2, p2⟩ => Post.now (b := Out.rt v1) p2 a2.st r2⟩
theorem k_if {c : CB} {a b : CSs} {x : Expr} {as bs : List Stmt} {pos : Pos} (hc : PT X x (tB X.K (evB C c))) (ha : PSs X as (tS X.K (evSs C a))) (hb : PSs X bs (tS X.K (evSs C b))) : PS X (.If x as bs pos) (tS X.K (evS C (.ifs c a b))) := by
  refine PS.imp (ps_if hc ha hb) fun D σ H ⟨e, M, μ, at_, p⟩ => ?_
  obtain ⟨e1, M1, μ1, a1, p1⟩ := goB at_ (show Post X.K (RF X.K) H μ ((evB C c e M).bind fun t M1 => if t = true then evSs C a e M1 else evSs C b e M1) (outD D) from p)
  refine ⟨e1, M1, μ1, a1, p1.imp fun k H1 ⟨M2, μ2, s2, a2, p2⟩ => ?_⟩
  cases k with
  | true =>
    rw [if_pos rfl] at p2 ⊢
    exact ⟨e, M2, μ2, a2, p2⟩
  | false =>
    rw [if_neg Bool.false_ne_true] at p2 ⊢
    exact ⟨e, M2, μ2, a2, p2⟩
theorem k_cons {a : CS} {r : CSs} {st : Stmt} {ss : List Stmt} (ha : PS X st (tS X.K (evS C a))) (hr : PSs X ss (tS X.K (evSs C r))) : PSs X (st :: ss) (tS X.K (evSs C (.cons a r))) := by
  refine PSs.imp (pss_cons ha hr) fun D σ H ⟨e, M, μ, at_, p⟩ => ?_
  have p : Post X.K (RF X.K) H μ ((evS C a e M).bind fun f M1 => match f with
    | .nx e1 => evSs C r e1 M1
    | f => .ok f M1) (outD D) := p
  refine ⟨e, M, μ, at_, (Post.bind (RA := RF X.K) p).imp fun o H1 ⟨f, M1, μ1, s, S, rf, q⟩ => ?_⟩
  cases f with
  | nx e1 =>
    cases o <;> first | exact rf.elim | skip
    exact ⟨e1, M1, μ1, ⟨rf, S⟩, q⟩
  | rt w =>
    cases o <;> first | exact rf.elim | skip
    exact (show D.rt _ H1 from Post.now (b := Out.rt _) q S rf)
  | bk e1 =>
    cases o <;> first | exact rf.elim | skip
    exact (show D.bk _ H1 from Post.now (b := Out.bk _) q S rf)
  | ct e1 =>
    cases o <;> first | exact rf.elim | skip
    exact (show D.ct _ H1 from Post.now (b := Out.ct _) q S rf)
end
section
variable [XE]
theorem EnvR.lw {K : PySem.W.Frag} {H1 H2 : Hp} {μ1 : Mu} {M1 : Store} {e : Env} {σ : L2.St} (S : StR K H1 μ1 M1) (mv : ∀ b, Mv H1 μ1 H2 μ1 b) (E : EnvR K H1 μ1 e σ) : EnvR K H2 μ1 e σ :=
  ⟨E.len, fun i w q => let ⟨v, h1, h2⟩ := E.at_ i w q; ⟨v, h1, h2.move (mv M1.length) (WR.lw0 S h2)⟩⟩
theorem k_lockS {X : Cx} {s : Stmt} {c : CS} {a : CE} (h : PS X s (tS X.K (evS C c))) : PS X s (tS X.K (evS C (.lockS a c))) := by
  refine PS.imp (ps_lock h) fun D σ H ⟨e, M, μ, at_, p⟩ => ?_
  obtain ⟨⟨n, M0⟩, h1, p1⟩ := Post.withO (show Post X.K (RF X.K) H μ (withO ((oneOf (evE C a e M)).bind fun w => lockAt w M) fun p => (nox (evS C c e p.2)).bind fun f M1 => withO (unlockAt p.1 M1) fun M2 => .ok f M2) (outD D) from p)
  obtain ⟨w0, h2, h3⟩ := Option.bind_eq_some_iff.mp h1
  obtain ⟨d, u, hd, hm, go⟩ := lock_go at_.st h3
  refine ⟨d, u, hd, hm, fun od => ?_⟩
  obtain ⟨s1, S1, un⟩ := go od
  obtain ⟨f, M1, hrun, p2⟩ := Post.split p1
  obtain ⟨M2, h4, p3⟩ := Post.withO p2
  refine ⟨e, M0, μ, ⟨at_.env.stp s1, S1⟩, ?_⟩
  have hrun : evS C c e M0 = .ok f M1 := hrun
  rw [hrun]
  intro o H' μ' s' S' r'
  obtain ⟨q1, q2, q3, q4⟩ := un H' μ' M1 M2 s' S' h4
  have fin : ∀ o, RF X.K (upd H' d u) μ' f o → outD D o (upd H' d u) := fun o r => p3 o _ _ q2 q3 r
  cases f with
  | nx e1 =>
    cases o <;> first | exact r'.elim | skip
    exact ⟨q1, fin (.nx _) (EnvR.lw S' q4 r')⟩
  | ct e1 =>
    cases o <;> first | exact r'.elim | skip
    exact ⟨q1, fin (.ct _) (EnvR.lw S' q4 r')⟩
  | bk e1 =>
    cases o <;> first | exact r'.elim | skip
    exact ⟨q1, fin (.bk _) (EnvR.lw S' q4 r')⟩
  | rt w =>
    cases o <;> first | exact r'.elim | skip
    exact ⟨q1, fin (.rt _) ((show WR X.K H' μ' w _ from r').move (q4 M1.length) (WR.lw0 S' r'))⟩
theorem zip_lookupD : ∀ {fs : List Str} {xs : List D} {f : Str} {x : D}, (fs.zip xs).lookup f = some x → ∃ i : Nat, fs[i]? = some f ∧ xs[i]? = some x
  | [], xs, f, x, h => by simp [List.lookup] at h
  | _ :: _, [], f, x, h => by simp [List.lookup] at h
  | g :: fs, y :: xs, f, x, h => by
    rw [List.zip_cons_cons, List.lookup_cons] at h
    by_cases hg : f = g
    · subst hg
      rw [beq_self_eq_true] at h
      cases h
      exact ⟨0, rfl, rfl⟩
    · have : (f == g) = false := by simpa using hg
      rw [this] at h
      obtain ⟨i, h1, h2⟩ := zip_lookupD h
      exact ⟨i + 1, h1, h2⟩
theorem xArg_ok {K : PySem.W.Frag} {H : Hp} {μ : Mu} : ∀ {xs : List D} {vs : List V}, DRs K H μ xs vs → xs.all xArg = true → ∀ v ∈ vs, XArg v
  | _, _, .nil, _, v, hv => by cases hv
  | x :: xs, _, .cons h r, hx, v, hv => by
    rw [List.all_cons, Bool.and_eq_true] at hx
    rcases List.mem_cons.mp hv with rfl | hv
    · have hx := hx.1
      cases h with
      | str z => exact .inl ⟨z, rfl, of_decide_eq_true hx⟩
      | int i => exact .inr ⟨i, rfl, of_decide_eq_true hx⟩
      | _ => cases hx
    · exact xArg_ok r hx.2 v hv
theorem k_raise {X : Cx} {c n : Str} {es : List Expr} {cs : CEs} {p pos pos2 : Pos} (g : GoodS Z C X) (hh : Z.hot = false) (h1 : n = c) (hc : Z.rs.contains c = true) (hgl : glB X.env.scope n = true) (hok : okN n = true) (hne : es.isEmpty = false) (hs : ∀ e ∈ es, notStar e = true) (ha : PA X es (tA X.K (evEs C cs))) :
    PS X (.Raise (some (.Call (.Name n p) es [] pos)) none pos2) (tS X.K (evS C (.raise c cs))) := by
  subst h1
  have hr := List.contains_iff_mem.mp hc
  obtain ⟨fs, hlk, ⟨fI, FN, fd, T, F1, hb⟩, l20⟩ := g.mks n hr
  cases es with
  | nil => cases hne
  | cons e es =>
  have hs2 : ∀ x ∈ es, notStar x = true := fun x hx => hs x (List.mem_cons_of_mem _ hx)
  have pass : Passes (L2N.CX X.prog X.w) X (fun _ _ _ => False) := L2N.passes_call g.tk fun _ _ _ _ h => h.elim
  refine PS.imp (L2N.ps_raise (g.calm hh) g.tk (pmk_sup T F1 hb pass (g.room2 hh) (glB_ok hgl) (g.exg.mg _ (g.rsx _ hr)) ha (okN_ok hok).1 (notStar_each (hs e List.mem_cons_self) _ _) (backTo_plain hs2))) fun D σ H ⟨e0, M, μ, at_, p⟩ => ?_
  obtain ⟨e1, M1, μ1, a1, p1⟩ := goA at_ (show Post X.K (RF X.K) H μ ((evEs C cs e0 M).bind fun ws M1 => raiseX C.GD n ws M1) (outD D) from p)
  refine ⟨e1, M1, μ1, a1, p1.imp fun vs H1 ⟨ws, M2, μ2, s2, a2, r2, p2⟩ => ?_⟩
  obtain ⟨pp, h3, p3⟩ := Post.withO (show Post X.K (RF X.K) H1 μ2 (withO (frzs ws M2) fun p => withO (C.GD.ex.lookup n) fun fs => must (fs.length = p.1.length ∧ p.1.all xArg = true) (.exn ⟨n, fs.zip p.1⟩ p.2)) (outD D) from p2)
  obtain ⟨fs', h4, p4⟩ := Post.withO p3
  rw [hlk] at h4
  cases h4
  obtain ⟨⟨hl, hx⟩, p5⟩ := Post.must p4
  obtain ⟨μ3, s3, S3, d3⟩ := frzs_ok a2.st r2 h3
  refine mk_inner (by rw [← d3.length, ← hl]) l20 (xArg_ok d3 hx) fun d kv hd hkv => ?_
  obtain ⟨s4, S4⟩ := stp_new (o := .xd kv) S3 hd
  refine p5 _ _ _ μ3 (s3.trans s4) S4 ⟨rfl, d, kv, rfl, S3.free hd, upd_same, fun f x hf => ?_⟩
  obtain ⟨i, q1, q2⟩ := zip_lookupD hf
  obtain ⟨v, q3, q4⟩ := d3.get q2
  exact ⟨v, by rw [hkv i f q1]; exact q3, q4.stp s4⟩
end
theorem WR.swap {i1 i2 : XA} {K : PySem.W.Frag} {H : Hp} {μ : Mu} {w : W} {v : V} (nx : ∀ e, w ≠ .x e) (h : @WR _ i1 K H μ w v) : @WR _ i2 K H μ w v := by
  cases w with
  | x e => exact absurd rfl (nx e)
  | d x => exact h
  | s x => exact h
  | g x => exact h
  | r x => exact h
  | t x => exact h
theorem WRs.swap {i1 i2 : XA} {K : PySem.W.Frag} {H : Hp} {μ : Mu} {ws : List W} {vs : List V} (hx : ∀ w ∈ ws, ∀ e, w ≠ .x e) (h : @WRs _ i1 K H μ ws vs) : @WRs _ i2 K H μ ws vs := by
  induction h with
  | nil => exact @WRs.nil _ i2 K H μ
  | cons a r ih => exact @WRs.cons _ i2 K H μ _ _ _ _ (WR.swap (hx _ List.mem_cons_self) a) (ih fun w hw => hx w (List.mem_cons_of_mem _ hw))
theorem KWs.swap {i1 i2 : XA} {K : PySem.W.Frag} {H : Hp} {μ : Mu} {κ : Type} {ws : List (κ × W)} {vs : List (κ × V)} (hx : ∀ w ∈ ws, ∀ e, w.2 ≠ .x e) (h : @KWs _ i1 K H μ κ ws vs) : @KWs _ i2 K H μ κ ws vs := by
  induction h with
  | nil => exact @KWs.nil _ i2 K H μ κ
  | cons a r ih => exact @KWs.cons _ i2 K H μ κ _ _ _ _ _ (WR.swap (hx _ List.mem_cons_self) a) (ih fun w hw => hx w (List.mem_cons_of_mem _ hw))
theorem OR.swap {i1 i2 : XA} {K : PySem.W.Frag} {H : Hp} {μ : Mu} {b : Nat} {c : Cell} {o : HO} (hd : Dn b c) (h : @OR _ i1 K H μ c o) : @OR _ i2 K H μ c o := by
  cases c <;> cases o <;> first
    | exact h.elim
    | exact WRs.swap (fun w hw => (hd w hw).2) h
    | exact KWs.swap (fun w hw => (hd w hw).2) h
    | exact h
    | (rename_i u; cases u <;> first | exact h | exact h.elim)
theorem StR.swap {i1 i2 : XA} {K : PySem.W.Frag} {H : Hp} {μ : Mu} {M : Store} (S : @StR _ i1 K H μ M) : @StR _ i2 K H μ M := by
  obtain ⟨dn, len, nd, cells, pis, dis, deads⟩ := S
  exact @StR.mk _ i2 K H μ M dn len nd (fun n c a h1 h2 => by
    obtain ⟨o, q1, q2⟩ := cells n c a h1 h2
    exact ⟨o, q1, OR.swap (dn n c h1) q2⟩) pis dis deads
theorem try_end {K : PySem.W.Frag} {i1 : XA} {e1 : XE} {H : Hp} {μ : Mu} {r : Res Fl} {D : Ends} (p : @Post _ i1 e1 _ _ K (@RF _ i1 K) H μ ((nox r).bind tryEnd) (outD D)) : ∃ d M, r = .ok (.rt (.d d)) M ∧ @Post _ i1 e1 _ _ K (@RF _ i1 K) H μ (.ok (.rt (.d d)) M) (outD D) := by
  cases r with
  | stuck => exact p.elim
  | exn x M => exact p.elim
  | ok f M =>
    cases f with
    | rt w => cases w with
      | d x => exact ⟨x, M, rfl, p⟩
      | _ => exact p.elim
    | _ => exact p.elim
theorem k_try {xa : XA} {xe : XE} {Z : Nm} {X : Cx} {i : Nat} {c n y : Str} {body us : List Stmt} {u0 : Stmt} {b s : CSs} {np hp pos : Pos} (g : GoodS Z C X) (hh : Z.hot = false) (h1 : n = c) (hc : Z.ex.contains c = true) (hgl : glB X.env.scope n = true) (hok : okN n = true) (hN : X.N[i]? = some y) (hy : X.env.scope.names.lookup y = some .local)
    (hbody : ∀ (e : XE) (pn : List (Addr × Obj)) (x : Value → Shared → Prop), @GoodS _ xa e Z C (X.tr pn x) → PSs (X.tr pn x) body (@tS _ xa e X.K (evSs C b)))
    (hsuite : ∀ (a : XA) (ad : Addr) (pn : List (Addr × Obj)), @GoodS _ a xF { Z with hot := true } C (X.suite ad pn) → PSs (X.suite ad pn) (u0 :: us) (@tS _ a xF X.K (evSs C s))) :
    PS X (.Try body [.ExceptHandler (some (.Name n np)) (some y) (u0 :: us) hp] [] [] pos) (tS X.K (evS C (.tryS i c b s))) := by
  subst h1
  have hm := List.contains_iff_mem.mp hc
  obtain ⟨EW, hEW⟩ : ∃ EW : WX → XE, EW = fun W => ⟨fun cls d H => ∀ σ : L2.St, σ.length = X.N.length → W cls d σ H⟩ := ⟨_, rfl⟩
  have key := L2N.ps_try_as (X := X) (body := body) (suite := us) (b₀ := u0) (np := np) (pos' := hp) (pos := pos) (x := n) (n := y) (i := i) (c := .ref (He.ga X.K n)) (tb := fun W => @tS _ xa (EW W) X.K (evSs C b)) (ts := fun a cls d => @tS _ ⟨some (a, cls, d)⟩ xF X.K (evSs C s)) g.stk g.frm g.nodup hN hy
    ⟨glB_ok hgl, (okN_ok hok).1, .inl (g.exg.mg _ hm)⟩ g.tk (fun W pn x tk own => hbody (EW W) pn x ?_) (fun a oe cls d pn zn hf => hsuite ⟨some (a, cls, d)⟩ a ((a, oe) :: pn) ?_)
  · refine ⟨fun pins s0 σ H D I h => key.run pins s0 σ H D I ?_⟩
    obtain ⟨e, M, μ, at_, p⟩ := h
    refine ⟨e, M, μ, at_, ?_⟩
    have hσ := I.len
    have p : Post X.K (RF X.K) H μ (tryX C.GD n e.length i (evSs C b e M) (evSs C s)) (outD D) := p
    cases hr : evSs C b e M with
    | stuck => rw [hr] at p; exact p.elim
    | ok f M1 => rw [hr] at p; exact p
    | exn x M1 =>
      rw [hr] at p
      obtain ⟨kn, p⟩ := Post.must (show Post X.K (RF X.K) H μ (must (exKnown C.GD x.cls = true) (if exSub x.cls n = true then (nox (evSs C s ((List.replicate e.length none).set i (some (.x x))) M1)).bind tryEnd else .exn x M1)) (outD D) from p)
      intro cls d H' μ' st S' xr
      subst hEW
      intro σ' hl
      refine ⟨exSub x.cls n, by rw [xr.1]; exact g.exg.exm _ kn n hm, fun hs a ha => ?_, fun hs => ?_⟩
      · rw [if_pos hs] at p
        obtain ⟨dd, M2, hrun, p2⟩ := try_end p
        refine ⟨(List.replicate e.length none).set i (some (.x x)), M1, μ', @At.mk _ ⟨some (a, cls, d)⟩ _ _ _ _ _ _ (@EnvR.mk _ ⟨some (a, cls, d)⟩ _ _ _ _ _ ?_ fun j w hj => ?_) (StR.swap S'), ?_⟩
        · rw [List.length_set, List.length_replicate, List.length_set, hl]
          exact at_.env.len.trans hσ
        · have hi : i < e.length := by
            rw [at_.env.len, hσ]
            exact (List.getElem?_eq_some_iff.mp hN).1
          by_cases hji : j = i
          · subst hji
            rw [List.getElem?_set_self (by rw [List.length_replicate]; exact hi)] at hj
            cases hj
            refine ⟨.ref a, by rw [List.getElem?_set_self (by rw [hl, ← hσ, ← at_.env.len]; exact hi)], a, cls, d, rfl, rfl, xr⟩
          · rw [List.getElem?_set_ne (fun z => hji z.symm), List.getElem?_replicate] at hj
            split at hj <;> cases hj
        · rw [hrun]
          intro o H2 μ2 st2 S2 r2
          cases o <;> first | exact r2.elim | skip
          exact p2 (.rt _) H2 μ2 (st.trans st2) (StR.swap S2) r2
      · rw [if_neg (by rw [hs]; exact Bool.false_ne_true)] at p
        exact p cls d H' μ' st S' xr
  · refine @GoodS.mk _ xa (EW W) Z C (X.tr pn x) (@Good.mk _ xa (EW W) Z C (X.tr pn x) g.calm g.room2 (fun h => by rw [hh] at h; cases h) ?_ g.nodup g.line (fun f x h => ⟨(g.fns f x h).ex⟩) g.gls (fun i x h => ⟨(g.gds i x h).ex⟩) g.blt g.exg g.rsx g.mks g.ktg) g.kind own g.stk g.frm
    subst hEW
    rintro u s' ⟨a, B, sI, pins, σ, H, cls, d, e, I, nb, up, sky, na, os, ag, w⟩
    exact tk u s' ⟨a, B, sI, pins, σ, H, cls, d, e, I, nb, up, sky, na, os, ag, w σ I.len⟩
  · obtain ⟨vs, hv⟩ := hf
    have zc : Zc cls d oe := zn.zc
    refine @GoodS.mk _ ⟨some (a, cls, d)⟩ xF { Z with hot := true } C (X.suite a ((a, oe) :: pn)) (@Good.mk _ ⟨some (a, cls, d)⟩ xF { Z with hot := true } C (X.suite a ((a, oe) :: pn)) (fun h => by cases h) (fun h => by cases h) (fun _ => ⟨(a, oe), ⟨rfl, vs, hv, zn.2.2 vs hv⟩, List.mem_cons_self, cls, d, rfl, zc⟩) takesF
      g.nodup g.line (fun f x h => @FnGx.mk _ ⟨some (a, cls, d)⟩ _ _ _ _ _ ?_) g.gls (fun i x h => ⟨(g.gds i x h).ex⟩) g.blt ⟨g.exg.mg, g.exg.exk, g.exg.exm, g.exg.kit, g.exg.kiv, g.exg.fld⟩ g.rsx g.mks g.ktg) g.kind PassesOwn.never g.stk g.frm
    obtain ⟨k, f', fd, ps, q1, q2, q3, q4, q5, q6⟩ := (g.fns f x h).ex
    exact ⟨k, f', fd, ps, q1, q2, q3, (fun h => by cases h), fun hf => ⟨⟨(q5 hf).1.dp, (q5 hf).1.un⟩, (q5 hf).2⟩, q6⟩
set_option maxHeartbeats 4000000 in
mutual
theorem okS : ∀ (c : CS) [_a : XA] [_i : XE] {Z : Nm} {X : Cx} {s : Stmt}, GoodS Z C X → chkS Z X.N X.env.scope X.fn c s = true → PS X s (tS X.K (evS C c))
  | .set tg a, _a, _i, Z, X, s, g, h => by
    unfold chkS at h
    split at h
    · simp only [Bool.and_eq_true, decide_eq_true_eq] at h
      exact k_set g h.1 h.2.1 h.2.2.1 h.2.2.2.1 h.2.2.2.2
    · cases h
  | .par ix es, _a, _i, Z, X, s, g, h => by
    unfold chkS at h
    split at h
    · rw [Bool.and_eq_true, Bool.not_eq_true'] at h
      obtain ⟨hh, h⟩ := h
      simp only [Bool.and_eq_true, decide_eq_true_eq] at h
      obtain ⟨h1, h2, h3, h4, h5, h6⟩ := h
      refine k_par g (g.calm hh) h1 h2 h3 h4 h5 ?_
      split at h6
      · rename_i q; exact ⟨none, q, .inl rfl⟩
      · rename_i l q
        rw [decide_eq_true_eq] at h6
        exact ⟨some l, q, .inr (by rw [h6])⟩
      · cases h6
    · cases h
  | .setI o i a, _a, _i, Z, X, s, g, h => by
    unfold chkS at h
    split at h
    · simp only [Bool.and_eq_true] at h
      exact k_setI g h.1 (okE a g.toGood h.2.1) (okE o g.toGood h.2.2.1) (okE i g.toGood h.2.2.2)
    · cases h
  | .expr a, _a, _i, Z, X, s, g, h => by
    unfold chkS at h
    split at h
    · simp only [Bool.and_eq_true] at h
      exact k_expr h.1 (okE a g.toGood h.2)
    · cases h
  | .ret a, _a, _i, Z, X, s, g, h => by
    unfold chkS at h
    split at h
    · exact k_ret (okE a g.toGood h)
    · cases h
  | .retN, _a, _i, Z, X, s, g, h => by
    unfold chkS at h
    split at h
    · exact PS.imp ps_retN fun D σ H ⟨e, M, μ, at_, p⟩ => (show D.rt .non H from Post.now (RA := RF X.K) (b := Out.rt .non) (M := M) p at_.st DR.non)
    · cases h
  | .ifs c a b, _a, _i, Z, X, s, g, h => by
    unfold chkS at h
    split at h
    · simp only [Bool.and_eq_true] at h
      exact k_if (okB c g.toGood h.1).1 (okSs a g h.2.1) (okSs b g h.2.2)
    · cases h
  | .forS tg it b, _a, _i, Z, X, s, g, h => by
    unfold chkS at h
    split at h
    · simp only [Bool.and_eq_true] at h
      exact PS.imp (ps_for g.own (g.calm (chkI_calm h.2.1)) (okI it g.toGood h.2.1) (okT (g.calm (chkI_calm h.2.1)) g.nodup h.1) (okSs b g h.2.2) fun _ => notSet_fold (chkI_set h.2.1) _ _) fun D σ H ⟨e, M, μ, at_, p⟩ => for_ok (F := C.F) at_ p
    · cases h
  | .whl c b, _a, _i, Z, X, s, g, h => by
    unfold chkS at h
    split at h
    · simp only [Bool.and_eq_true] at h
      exact PS.imp (ps_while g.own (okB c g.toGood h.1).1 (okSs b g h.2)) fun D σ H ⟨e, M, μ, at_, p⟩ => while_ok (F := C.F) at_ p
    · cases h
  | .pass, _a, _i, Z, X, s, g, h => by
    unfold chkS at h
    split at h
    · exact PS.imp ps_pass fun D σ H ⟨e, M, μ, at_, p⟩ => (show D.nx σ H from Post.now (RA := RF X.K) (b := Out.nx σ) (M := M) p at_.st at_.env)
    · cases h
  | .brk, _a, _i, Z, X, s, g, h => by
    unfold chkS at h
    split at h
    · exact PS.imp ps_break fun D σ H ⟨e, M, μ, at_, p⟩ => (show D.bk σ H from Post.now (RA := RF X.K) (b := Out.bk σ) (M := M) p at_.st at_.env)
    · cases h
  | .cont, _a, _i, Z, X, s, g, h => by
    unfold chkS at h
    split at h
    · exact PS.imp ps_continue fun D σ H ⟨e, M, μ, at_, p⟩ => (show D.ct σ H from Post.now (RA := RF X.K) (b := Out.ct σ) (M := M) p at_.st at_.env)
    · cases h
  | .lockS a c, _a, _i, Z, X, s, g, h => by
    unfold chkS at h
    exact k_lockS (okS c g h)
  | .raise c es, _a, _i, Z, X, s, g, h => by
    unfold chkS at h
    split at h
    · simp only [Bool.and_eq_true, decide_eq_true_eq, Bool.not_eq_true'] at h
      obtain ⟨h1, h2, h3, h4, h5, h6, h7⟩ := h
      exact k_raise g h5 h1 h2 h3 h4 h6 (chkEs_star h7) (okEs es g.toGood h7)
    · cases h
  | .tryS i c b u, _a, _i, Z, X, s, g, h => by
    unfold chkS at h
    split at h
    · rw [Bool.and_eq_true, Bool.and_eq_true, Bool.and_eq_true, Bool.and_eq_true, Bool.and_eq_true, Bool.and_eq_true, Bool.and_eq_true, Bool.and_eq_true, Bool.not_eq_true', decide_eq_true_eq, decide_eq_true_eq, decide_eq_true_eq] at h
      obtain ⟨h1, h2, h3, h4, h5, h6, h7, h8, h9⟩ := h
      exact k_try g h5 h1 h2 h3 h4 h6 h7 (fun e pn x gg => okSs b (_a := _a) (_i := e) gg h8) fun a ad pn gg => okSs u (_a := a) (_i := xF) gg h9
    · cases h
theorem okSs : ∀ (c : CSs) [_a : XA] [_i : XE] {Z : Nm} {X : Cx} {s : List Stmt}, GoodS Z C X → chkSs Z X.N X.env.scope X.fn c s = true → PSs X s (tS X.K (evSs C c))
  | .nil, _a, _i, Z, X, s, g, h => by
    cases s with
    | nil => exact PSs.imp pss_nil fun D σ H ⟨e, M, μ, at_, p⟩ => (show D.nx σ H from Post.now (RA := RF X.K) (b := Out.nx σ) (M := M) p at_.st at_.env)
    | cons a r => simp [chkSs] at h
  | .cons a r, _a, _i, Z, X, s, g, h => by
    cases s with
    | nil => simp [chkSs] at h
    | cons x ss =>
      simp only [chkSs, Bool.and_eq_true] at h
      exact k_cons (okS a g h.1) (okSs r g h.2)
end
end Ev
set_option Elab.async false
set_option linter.all false
set_option maxRecDepth 100000
/-! EvR: defs -/
namespace Ev
open PySem PySem.Spec PyProof.Rows L2
variable [XT] [XA] [XE]

section
variable {K : PySem.W.Frag} {H H1 : Hp} {μ μ1 : Mu} {M M1 : Store}
theorem WR.cut {n : Nat} {pi : List Addr} (hp : ∀ a ∈ pi, a ∈ μ.pi) {w : W} {v : V} (h : WR K H μ w v) (hn : ∀ k, w = .r k → k < n) : WR K H (μ.cut n pi) w v := by
  cases w with
  | d x => exact DR.cut hp h
  | x e => exact XR.keep (Mu.keep_cut hp) h
  | t e => exact TR.keep (Mu.keep_cut hp) h
  | s xs =>
    obtain ⟨a, vs, rfl, h | h, r⟩ := h
    · exact ⟨a, vs, rfl, .inl ⟨Mu.free_cut hp h.1, h.2⟩, r.cut hp⟩
    · exact ⟨a, vs, rfl, .inr h, r.cut hp⟩
  | g xs => exact h
  | r k =>
    have hk := hn k rfl
    have up : ∀ x : Option Addr, μ.cs[k]? = some x → (μ.cs.take n)[k]? = some x := fun x h => by
      rw [List.getElem?_take, if_pos hk]; exact h
    rcases h with ⟨a, e, rfl⟩ | e
    · exact .inl ⟨a, up _ e, rfl⟩
    · exact .inr (up _ e)
/-- a cell made in a def, handed out -/
theorem leave_cell {k : Nat} {a : Addr} {c0 : Cell} {Q : VK} (S : StR K H μ M) (p : Post K (RV K) H μ (.ok (.r M.length) (M1.take M.length ++ [c0])) Q) (s : Stp H μ H1 μ1) (S1 : StR K H1 μ1 M1) (hk2 : μ.cs.length ≤ k) (ha : μ1.cs[k]? = some (some a)) (q : M1[k]? = some c0) (hc : ∀ b, Dn b c0) : Q (.ref a) H1 := by
  have hl : M.length = μ.cs.length := S.len.symm
  have st : Stp H μ H1 (μ1.cut μ.cs.length μ.pi) := s.cut
  have S2 : StR K H1 (μ1.cut μ.cs.length μ.pi) (M1.take M.length) := by rw [hl]; exact S1.cut _ s.pi
  obtain ⟨ob, ho, hor⟩ := S1.cells k c0 a q ha
  have fresh : H a = none := by
    rcases s.fresh k a ha with q | q
    · have := (List.getElem?_eq_some_iff.mp q).1
      omega
    · exact q
  have out : some a ∉ μ1.cs.take μ.cs.length := fun z => by
    obtain ⟨m, z⟩ := mem_get z
    obtain ⟨z1, z2⟩ := take_get z
    have := S1.nd m k a z2 ha
    omega
  have nopi : a ∉ μ.pi := fun z => S1.dis k a ha (s.pi a z)
  have tl : (M1.take M.length).length = (μ1.cs.take μ.cs.length).length := S2.len.symm
  have hi : ∀ (m : Nat) (x : Option Addr), (μ1.cs.take μ.cs.length ++ [some a])[m]? = some x → (μ1.cs.take μ.cs.length)[m]? = some x ∨ (m = (μ1.cs.take μ.cs.length).length ∧ x = some a) := fun m x h => by
    by_cases hn : m < (μ1.cs.take μ.cs.length).length
    · rw [List.getElem?_append_left hn] at h; exact .inl h
    · have h2 := (List.getElem?_eq_some_iff.mp h).1
      have hn2 : m = (μ1.cs.take μ.cs.length).length := by simp at h2 hn ⊢; omega
      subst hn2
      simp at h
      exact .inr ⟨rfl, h.symm⟩
  have lo : ∀ (m : Nat) (x : Option Addr), (μ1.cs.take μ.cs.length)[m]? = some x → (μ1.cs.take μ.cs.length ++ [some a])[m]? = some x := fun m x h => by
    rw [List.getElem?_append_left (List.getElem?_eq_some_iff.mp h).1]; exact h
  have fr : ∀ b, μ1.free b → (Mu.mk (μ1.cs.take μ.cs.length ++ [some a]) μ.pi).free b := fun b hb => ⟨fun z => by
    have z : some b ∈ μ1.cs.take μ.cs.length ++ [some a] := z
    rcases List.mem_append.mp z with z | z
    · exact hb.1 (List.mem_of_mem_take z)
    · have e : b = a := by simpa using z
      subst e
      exact hb.1 (List.mem_of_getElem? ha), fun z => hb.2 (s.pi b z)⟩
  have s3 : Stp H μ H1 ⟨μ1.cs.take μ.cs.length ++ [some a], μ.pi⟩ := by
    refine ⟨Nat.le_trans st.len (by show (μ1.cs.take μ.cs.length).length ≤ _; simp), fun _ h => h, fun _ h => .inl h, fun n b h => ?_, fun n h => lo n _ (st.gone n h), st.keep, fun n b h => ?_, st.live⟩
    · rcases st.get n b h with q | q
      · exact .inl (lo n _ q)
      · exact .inr (lo n _ q)
    · rcases hi n _ h with q | ⟨_, q⟩
      · exact st.fresh n b q
      · cases q; exact .inr fresh
  have mv : Mv H1 μ1 H1 ⟨μ1.cs.take μ.cs.length ++ [some a], μ.pi⟩ M.length := by
    have up : ∀ (n : Nat) (x : Option Addr), n < M.length → μ1.cs[n]? = some x → (μ1.cs.take μ.cs.length ++ [some a])[n]? = some x := fun n x hn h => lo n x (by rw [List.getElem?_take, if_pos (by rw [← hl]; exact hn)]; exact h)
    exact ⟨fun b o hb h => ⟨fr b hb, h⟩, fun n b hn h => .inl (up n _ hn h), fun n hn h => up n _ hn h⟩
  have S3 : StR K H1 ⟨μ1.cs.take μ.cs.length ++ [some a], μ.pi⟩ (M1.take M.length ++ [c0]) := by
    refine ⟨dn_snoc S2 (hc _), by simp [tl], fun i j b h1 h2 => ?_, fun m c b h1 h2 => ?_, fun b hb => S2.pis b hb, fun m b h z => ?_, fun m c h1 h2 => ?_⟩
    · rcases hi i _ h1 with q1 | ⟨q1, z1⟩ <;> rcases hi j _ h2 with q2 | ⟨q2, z2⟩
      · exact S2.nd i j b q1 q2
      · cases z2; exact absurd (List.mem_of_getElem? q1) out
      · cases z1; exact absurd (List.mem_of_getElem? q2) out
      · rw [q1, q2]
    · rcases hi m _ h2 with q | ⟨q, z⟩
      · have hn : m < (M1.take M.length).length := by rw [tl]; exact (List.getElem?_eq_some_iff.mp q).1
        rw [List.getElem?_append_left hn] at h1
        have h3 : M1[m]? = some c := by
          rw [List.getElem?_take] at h1
          split at h1
          · exact h1
          · cases h1
        obtain ⟨o', h4, h5⟩ := S1.cells m c b h3 (take_get q).2
        exact ⟨o', h4, h5.move mv ((S1.dn m c h3).mono (Nat.le_of_lt (by rw [hl]; exact (take_get q).1)))⟩
      · subst q; cases z
        rw [← tl] at h1
        simp at h1
        subst h1
        exact ⟨ob, ho, hor.move mv (hc _)⟩
    · rcases hi m _ h with q | ⟨_, q⟩
      · exact S2.dis m b q z
      · cases q; exact nopi z
    · rcases hi m _ h2 with q | ⟨q, z⟩
      · have hn : m < (M1.take M.length).length := by rw [tl]; exact (List.getElem?_eq_some_iff.mp q).1
        rw [List.getElem?_append_left hn] at h1
        exact S2.deads m c h1 q
      · cases z
  refine p _ _ _ s3 S3 (.inl ⟨a, ?_, rfl⟩)
  show (μ1.cs.take μ.cs.length ++ [some a])[M.length]? = some (some a)
  have e : M.length = (μ1.cs.take μ.cs.length).length := by
    rw [List.length_take, hl]
    have := s.len
    omega
  rw [e]; simp
/-- a def's end: the cells made in it are let go, but for what it hands out -/
theorem leave_ok {md : Md} {fl : Fl} {o : Out} {Q : VK} (S : StR K H μ M) (p : Post K (RV K) H μ (leave md M.length fl M1) Q) (s : Stp H μ H1 μ1) (S1 : StR K H1 μ1 M1) (r : RF K H1 μ1 fl o) : outD { nx := fun _ H' => Q .non H', rt := Q } o H1 := by
  have hl : M.length = μ.cs.length := S.len.symm
  have st : Stp H μ H1 (μ1.cut μ.cs.length μ.pi) := s.cut
  have S2 : StR K H1 (μ1.cut μ.cs.length μ.pi) (M1.take M.length) := by rw [hl]; exact S1.cut _ s.pi
  cases fl with
  | nx e =>
    cases o <;> first | exact r.elim | skip
    show Q .non H1
    cases md <;> exact p _ _ _ st S2 DR.non
  | bk e => cases md <;> exact p.elim
  | ct e => cases md <;> exact p.elim
  | rt w =>
    cases o <;> first | exact r.elim | skip
    rename_i v
    show Q v H1
    have r : WR K H1 μ1 w v := r
    cases w with
    | d x => cases md <;> exact p _ _ _ st S2 (DR.cut s.pi r)
    | s xs => cases md <;> exact p.elim
    | x e => cases md <;> exact p.elim
    | t e => cases md <;> exact p.elim
    | g xs =>
      cases md <;> exact p _ _ _ st S2 r
    | r k =>
      by_cases hN : md = .N
      · subst hN
        exact p _ _ _ s S1 r
      have p : Post K (RV K) H μ (leaveR md M.length k M1) Q := by
        cases md with
        | N => exact absurd rfl hN
        | F => exact p
        | M => exact p
      unfold leaveR at p
      split at p
      · rename_i hk
        exact p _ _ _ st S2 (WR.cut s.pi r fun j e => by cases e; rw [← hl]; exact hk)
      · rename_i hk
        have hk2 : μ.cs.length ≤ k := by rw [← hl]; omega
        have go : ∀ c0, c0 ≠ .dead → (∀ b, Dn b c0) → M1[k]? = some c0 → Post K (RV K) H μ (.ok (.r M.length) (M1.take M.length ++ [c0])) Q → Q v H1 := fun c0 hne hc q p => by
          rcases r with ⟨a, ha, rfl⟩ | e
          · exact leave_cell S p s S1 hk2 ha q hc
          · exact absurd (S1.deads k _ q e) hne
        split at p
        · obtain ⟨pp, h1, p2⟩ := Post.withO p
          obtain ⟨μ3, s3, S3, d3⟩ := frzW_ok S1 r h1
          have s13 := s.trans s3
          have S4 : StR K H1 (μ3.cut μ.cs.length μ.pi) (pp.2.take M.length) := by rw [hl]; exact S3.cut _ s13.pi
          exact p2 _ _ _ s13.cut S4 (DR.cut s13.pi d3)
        · rename_i xs q _
          exact go (.lst xs) (fun z => by cases z) (fun b => trivial) q p
        · rename_i xs q _
          exact go (.dK xs) (fun z => by cases z) (fun b => trivial) q p
        · rename_i xs q _
          exact go (.dT xs) (fun z => by cases z) (fun b => trivial) q p
        · exact p.elim
end
end Ev
set_option Elab.async false
set_option linter.all false
set_option maxRecDepth 100000
/-! EvS: all defs of a program -/
namespace Ev
open PySem PySem.Spec PyProof.Rows L2
variable [XT] [XA]

/-- a def of the program, as the head tells it, with its compact form -/
structure FnD (K : PySem.W.Frag) (mg : Str → Option Value) (Z : Nm) (T : List Fn) (f : Nat) (x : Str) (fn : Fn) (a : Addr) (fd : FuncData) (ps N : List Str) : Prop where
  ex : ∃ qual params body scope, Z.fn[f]? = some x ∧ T[f]? = some fn ∧ mg x = some (.ref a) ∧ PySem.W.keepIn K (.ref a) = true ∧ Binds K fd ps [] ∧ FunD K x qual params body scope [] [] a fd ∧ FnScope N ps scope ∧
    ps.length = fn.np ∧ N.length = fn.ns ∧ (isHot Z x = false → chkSs Z N scope (fun _ => true) fn.body body = true) ∧ (f ∈ Z.hf → chkSs { Z with hot := true } N scope (fun _ => true) fn.body body = true)
def Gls (K : PySem.W.Frag) (mg : Str → Option Value) (Z : Nm) (G : List D) : Prop := ∀ (i : Nat) (x : Str), Z.gl[i]? = some x → ∃ v u d, mg x = some u ∧ RelV v u ∧ G[i]? = some d ∧ KD K d v
def Gds (K : PySem.W.Frag) (w : World) (mg : Str → Option Value) (Z : Nm) (GD : List (List (Str × D))) : Prop := ∀ (i : Nat) (x : Str), Z.gd[i]? = some x → ∃ a es n kvs, mg x = some (.ref a) ∧ KDict K w a es n ∧ GD[i]? = some kvs ∧ ∀ z : Str, ∃ r, PySem.W.nsIn K a z = some r ∧
    ((valD kvs z = none ∧ r = none) ∨ ∃ d u v, valD kvs z = some d ∧ r = some u ∧ RelV v u ∧ KD K d v)
structure Prg (P : Program) (K : PySem.W.Frag) (w : World) (mg : Str → Option Value) (Z : Nm) (T : List Fn) (G : List D) (GD : Tabs) : Prop where
  fns : ∀ f x, Z.fn[f]? = some x → ∃ fn a fd ps N, FnD K mg Z T f x fn a fd ps N
  gls : Gls K mg Z G
  gds : Gds K w mg Z GD.gd
  blt : ∀ x ∈ bltN, mg x = none
  cold : Z.hot = false
  exg : ExG Z GD K mg
  rsx : ∀ x ∈ Z.rs, x ∈ Z.ex
  mks : ∀ base, ∀ x ∈ Z.rs, ∃ fs, GD.ex.lookup x = some fs ∧ MkG K P w mg base x fs
  ktg : Z.kt = XT.kt
section
variable {P : Program} {w : World} {K : PySem.W.Frag} {mg : Str → Option Value} {base : Heap} {Z : Nm} {T : List Fn} {G : List D} {GD : Tabs} {F : Nat}
omit [XT] [XA] in
theorem callF_len {k f : Nat} {ws : List W} {M : Store} {fn : Fn} (h : T[f]? = some fn) (hl : ws.length ≠ fn.np) : callF T G GD F k f ws M = .stuck := by
  cases k with
  | zero => rfl
  | succ k =>
    unfold callF
    rw [h]
    exact if_neg hl
theorem startE_ok {H : Hp} {μ : Mu} {N : List Str} {ws : List W} {vs : List V} (r : WRs K H μ ws vs) : EnvR K H μ (startE N.length ws) (L2.start N vs) := by
  have hl := r.length
  unfold startE L2.start
  rw [hl]
  have key : ∀ {ws : List W} {vs : List V}, WRs K H μ ws vs → ∀ n : Nat, EnvR K H μ (ws.map some ++ List.replicate n none) (vs.map some ++ List.replicate n none) := by
    intro ws vs r n
    refine ⟨by simp [r.length], fun i u q => ?_⟩
    induction r generalizing i with
    | nil =>
      rw [List.map_nil, List.nil_append, List.getElem?_replicate] at q
      split at q <;> cases q
    | cons h r ih =>
      cases i with
      | zero =>
        have q : some _ = some (some u) := q
        cases q
        exact ⟨_, rfl, h⟩
      | succ i => exact ih i q
  exact key r _
/-- what a def's body keeps -/
theorem body_ok {E : XK} {k f np : Nat} {fn : Fn} {vs : List V} {H : Hp} {Q : VK} {N : List Str} (h2 : T[f]? = some fn) (h8 : np = fn.np) (h9 : N.length = fn.ns) (h : spC K ⟨callF T G GD F (k + 1), F, G, GD⟩ f np vs H Q E) :
    @tS _ _ ⟨E⟩ K (evSs ⟨callF T G GD F k, F, G, GD⟩ fn.body) { nx := fun _ H' => Q .non H', rt := Q } (L2.start N vs) H := by
  obtain ⟨hl, ws, M, μ, S, hw, q⟩ := h
  have hlw : ws.length = fn.np := by rw [hw.length, hl, h8]
  have q : @Post _ _ ⟨E⟩ _ _ K (RV K) H μ (callF T G GD F (k + 1) f ws M) Q := q
  unfold callF at q
  rw [h2] at q
  have q : @Post _ _ ⟨E⟩ _ _ K (RV K) H μ (if ws.length = fn.np then (evSs ⟨callF T G GD F k, F, G, GD⟩ fn.body (startE fn.ns ws) M).bind fun fl M1 => leave fn.ret M.length fl M1 else .stuck) Q := q
  rw [if_pos hlw] at q
  refine ⟨startE fn.ns ws, M, μ, ⟨by rw [← h9]; exact startE_ok hw, S⟩, ?_⟩
  cases hr2 : evSs ⟨callF T G GD F k, F, G, GD⟩ fn.body (startE fn.ns ws) M with
  | stuck => rw [hr2] at q; exact q.elim
  | exn e M2 => rw [hr2] at q; exact q
  | ok fl M1 =>
    rw [hr2] at q
    have q : @Post _ _ ⟨E⟩ _ _ K (RV K) H μ (leave fn.ret M.length fl M1) Q := q
    exact fun o H' μ' s S' r => @leave_ok _ _ ⟨E⟩ _ _ _ _ _ _ _ _ _ _ _ S q s S' r
theorem all_ok (p : Prg P K w mg Z T G GD) : ∀ (k f : Nat) (x : Str) (fn : Fn) (a : Addr) (fd : FuncData) (ps N : List Str), FnD K mg Z T f x fn a fd ps N →
    (isHot Z x = false → FnOk P w K mg base (L2N.CX P w) (k + 2) a fd ps (spC K ⟨callF T G GD F k, F, G, GD⟩ f ps.length)) ∧ (f ∈ Z.hf → ∀ xa : XA, @FnZ xa P w K mg base (L2N.CX P w) (k + 2) a fd ps (@spC _ xa K ⟨callF T G GD F k, F, G, GD⟩ f ps.length))
  | 0, f, x, fn, a, fd, ps, N, d => ⟨fun _ => ⟨fun vs H Q E h => h.1, fun A outer s H args us vs Q E hr e0 hb r h => by
      obtain ⟨_, ws, M, μ, S, hw, q⟩ := h
      exact q.elim⟩, fun _ xa => @FnZ.mk xa _ _ _ _ _ _ _ _ _ _ _ (fun vs H Q E h => h.1) fun A outer s H args us vs Q E p hr hot px hpin e0 hb r h => by
      obtain ⟨_, ws, M, μ, S, hw, q⟩ := h
      exact q.elim⟩
  | k + 1, f, x, fn, a, fd, ps, N, d => by
    obtain ⟨qual, params, body, scope, h1, h2, h3, h4, h5, h6, h7, h8, h9, h10, h11⟩ := d.ex
    have fns : ∀ (f' : Nat) (x' : Str), Z.fn[f']? = some x' → ∃ a' fd' ps', mg x' = some (.ref a') ∧ PySem.W.keepIn K (.ref a') = true ∧ Binds K fd' ps' [] ∧ (isHot Z x' = false → FnOk P w K mg base (L2N.CX P w) (k + 2) a' fd' ps' (spC K ⟨callF T G GD F k, F, G, GD⟩ f' ps'.length)) ∧
        (f' ∈ Z.hf → ∀ xa : XA, @FnZ xa P w K mg base (L2N.CX P w) (k + 2) a' fd' ps' (@spC _ xa K ⟨callF T G GD F k, F, G, GD⟩ f' ps'.length)) ∧ ∀ ws M, ws.length ≠ ps'.length → callF T G GD F k f' ws M = .stuck := fun f' x' hx => by
      obtain ⟨fn', a', fd', ps', N', d'⟩ := p.fns f' x' hx
      have d0 := d'
      obtain ⟨qual', params', body', scope', g1, g2, g3, g4, g5, g6, g7, g8, g9, g10⟩ := d'.ex
      exact ⟨a', fd', ps', g3, g4, g5, (all_ok p k f' x' fn' a' fd' ps' N' d0).1, (all_ok p k f' x' fn' a' fd' ps' N' d0).2, fun ws M hl => callF_len g2 (by rw [← g8]; exact hl)⟩
    refine ⟨fun hh0 => ?_, fun hf xa => ?_⟩
    · refine h6.ok h7 (fun vs H Q E h => h.1) fun cdv A outer s H vs Q E hr h => ⟨@tS _ _ ⟨E⟩ K (evSs ⟨callF T G GD F k, F, G, GD⟩ fn.body), ?_, body_ok h2 h8 h9 h⟩
      letI : XE := ⟨E⟩
      refine okSs fn.body (Z := Z) ⟨⟨fun _ => rfl, fun _ => hr.mono (by omega), fun z => (by rw [p.cold] at z; cases z), L2N.takes_of rfl rfl rfl rfl, h7.nd, ?_, fun f' x' hx => ?_, p.gls, fun i x hx => ⟨p.gds i x hx⟩, p.blt, p.exg, p.rsx, p.mks base, p.ktg⟩, h7.kind, passes_of rfl, rfl, rfl⟩ (h10 hh0)
      · have := hr.un
        show (A.deeper _).units + 65 < cLine
        omega
      · obtain ⟨a', fd', ps', g3, g4, g5, g6, g7, g8⟩ := fns f' x' hx
        exact ⟨k + 2, a', fd', ps', g3, g4, g5, fun _ z => ⟨hr, g6 z⟩, fun hf => ⟨L2H.roomH_of hr, g7 hf⟩, g8⟩
    · refine fn_ofZ h6 h7 (fun vs H Q E h => h.1) fun cdv A outer s H vs Q E pp hot px hr h => ⟨@tS _ _ ⟨E⟩ K (evSs ⟨callF T G GD F k, F, G, GD⟩ fn.body), ?_, body_ok h2 h8 h9 h⟩
      letI : XE := ⟨E⟩
      refine okSs fn.body (Z := { Z with hot := true }) ⟨⟨fun z => (by cases z), fun z => (by cases z), fun _ => ⟨pp, ⟨hot.1, hot.2⟩, List.mem_cons_self, px⟩, L2N.takes_of rfl rfl rfl rfl, h7.nd, ?_, fun f' x' hx => ?_, p.gls, fun i x hx => ⟨p.gds i x hx⟩, p.blt, ⟨p.exg.mg, p.exg.exk, p.exg.exm, p.exg.kit, p.exg.kiv, p.exg.fld⟩, p.rsx, p.mks base, p.ktg⟩, h7.kind, passes_of rfl, rfl, rfl⟩ (h11 hf)
      · have := hr.un
        show (A.deeper _).units + 65 < cLine
        omega
      · obtain ⟨a', fd', ps', g3, g4, g5, g6, g7, g8⟩ := fns f' x' hx
        exact ⟨k + 2, a', fd', ps', g3, g4, g5, fun z => (by cases z), fun hf => ⟨hr, g7 hf⟩, g8⟩
/-- nothing is handled -/
abbrev xN : XA := ⟨none⟩
omit [XA] in
/-- the promise of the law's def -/
theorem law_sp {f : Nat} {k : Nat} {M' : Store} {ns : List Int} {H : Hp} {a : Addr} (h : callF T G GD F k f [.s (ns.map .int)] [] = .ok (.d (.bool true)) M') (hS : SqL K H a (ns.map V.int)) :
    @spC _ xN K ⟨callF T G GD F k, F, G, GD⟩ f 1 [.ref a] H (fun v _ => v = .bl true) fun _ _ _ => False := by
  letI : XA := xN
  letI : XE := xF
  refine ⟨rfl, [.s (ns.map .int)], [], ⟨[], []⟩, ⟨fun n c h => by simp at h, rfl, fun i j a h => by simp at h, fun n c a h => by simp at h, fun a h => (by simp at h), fun n a h => by simp at h, fun n c h => by simp at h⟩, .cons ⟨a, _, rfl, ?_, DRs.ints ns⟩ .nil, ?_⟩
  · rcases hS with q | q
    · exact .inl ⟨⟨fun z => by simp at z, fun z => by simp at z⟩, q⟩
    · exact .inr q
  · show Post K (RV K) H _ (callF T G GD F k f [.s (ns.map .int)] []) _
    rw [h]
    intro b H' μ' s S r
    cases r
    rfl
end

/-! ### binding -/
theorem zip_lookup {ps : List Str} : ∀ {us : List Value}, us.length = ps.length → ∀ n ∈ ps, ((ps.zip us).lookup n).isNone = false := by
  induction ps with
  | nil => intro us h n hn; cases hn
  | cons p r ih =>
    intro us h n hn
    cases us with
    | nil => cases h
    | cons u us =>
      rw [List.zip_cons_cons, List.lookup_cons]
      by_cases e : n = p
      · subst e; simp
      · have hn' : n ∈ r := by
          rcases List.mem_cons.mp hn with z | z
          · exact absurd z e
          · exact z
        have : (n == p) = false := by simpa using e
        rw [this]
        exact ih (by simpa using h) n hn'
theorem zip_filterMap : ∀ {ps : List Str} {us : List Value}, ps.Nodup → us.length = ps.length → ps.filterMap (fun n => ((ps.zip us).lookup n).map (n, ·)) = ps.zip us
  | [], _, _, _ => by simp
  | p :: r, [], _, h => by cases h
  | p :: r, u :: us, nd, h => by
    have nd2 := List.nodup_cons.mp nd
    rw [List.zip_cons_cons, List.filterMap_cons, List.lookup_cons]
    simp only [beq_self_eq_true, Option.map_some]
    congr 1
    have key : ∀ l : List Str, p ∉ l → l.filterMap (fun n => (List.lookup n ((p, u) :: r.zip us)).map (n, ·)) = l.filterMap (fun n => ((r.zip us).lookup n).map (n, ·)) := by
      intro l
      induction l with
      | nil => intro _; rfl
      | cons m l ih =>
        intro hm
        have h1 : (m == p) = false := by
          have : m ≠ p := fun e => hm (by simp [e])
          simpa using this
        rw [List.filterMap_cons, List.filterMap_cons, List.lookup_cons, h1, ih fun e => hm (List.mem_cons_of_mem _ e)]
    exact (key r nd2.1).trans (zip_filterMap nd2.2 (show us.length = r.length by simpa using h))
theorem bind_gen {name qual : Str} {params : Arguments} {body : List Stmt} {scope : Scope} {kV doc pm cdv ct : Value} {an : Option Addr} {ps : List Str} (hp : params.posonlyargs = []) (ha : params.args.map (·.arg) = ps) (hv : params.vararg = none) (hk : params.kwonlyargs = []) (hkw : params.kwarg = none) (nd : ps.Nodup)
    (us : List Value) (hl : us.length = ps.length) : bindArgs (PySem.W.fnOf name qual params body scope .none kV doc pm an cdv ct) ⟨us, []⟩ = pure (ps.zip us) := by
  obtain ⟨po, ar, va, ko, kd, kw, df⟩ := params
  simp only at hp ha hv hk hkw
  subst hp hv hk hkw
  subst ha
  unfold bindArgs
  simp only [PySem.W.fnOf, List.map_nil, List.nil_append]
  generalize List.map (fun x => x.arg) ar = qs at nd hl
  have h1 : (qs.filter fun n => ((qs.zip us).lookup n).isNone) = [] := by
    rw [List.filter_eq_nil_iff]
    intro n hn
    rw [zip_lookup hl n hn]
    decide
  have h2 : List.take us.length qs = qs := by rw [hl]; exact List.take_length
  have h3 : seqItems? .none = (pure none : Sem (Option (Array Value))) := rfl
  rw [h3]
  simp [hl, h1, h2, zip_filterMap nd hl]

/-! ### the head's facts -/
structure Rec where
  x : Str
  st : Stmt
  ps : List Str
  N : List Str
  fn : Fn
instance : Inhabited Rec := ⟨⟨"", .Pass ⟨0, 0, 0, 0⟩, [], [], ⟨0, 0, .F, .nil⟩⟩⟩
def Rec.dd (r : Rec) : He.DefD := ⟨(r.x, none), r.x, r.x, defArgs r.st, defBody r.st, defScope r.st, [], []⟩
def argB (a : Arguments) (ps : List Str) : Bool := a.posonlyargs.isEmpty && (decide (a.args.map (·.arg) = ps) && (a.vararg.isNone && (a.kwonlyargs.isEmpty && a.kwarg.isNone)))
def scopB (N ps : List Str) (sc : Scope) : Bool := (match sc.kind with
  | .function => true
  | _ => false) && ((!sc.isCoroutine) && ((!sc.isGenerator) && (decide N.Nodup && (decide (N.take ps.length = ps) && (ps.all (fun x => match sc.names.lookup x with
  | some .local => true
  | some .cell => true
  | _ => false) && sc.names.all fun y => match y.2 with
  | .free => false
  | _ => true)))))
theorem scopB_ok {N ps : List Str} {sc : Scope} (h : scopB N ps sc = true) : FnScope N ps sc := by
  unfold scopB at h
  simp only [Bool.and_eq_true, Bool.not_eq_true', decide_eq_true_eq, List.all_eq_true] at h
  obtain ⟨h1, h2, h3, h4, h5, h6, h7⟩ := h
  refine ⟨?_, h2, h3, h4, h5, fun x hx => ?_, fun y hy e => ?_⟩
  · split at h1
    · assumption
    · cases h1
  · have q := h6 x hx
    split at q
    · rename_i z; exact .inl z
    · rename_i z; exact .inr z
    · cases q
  · have q := h7 y hy
    rw [e] at q
    cases q
/-- the exception classes of a program: all their names; those with their fields; the raised ones; the fields that are read; the defs that are called while one is handled -/
structure XI where
  ex : List Str
  kn : List (Str × List Str)
  rs : List Str
  fl : List Str
  hf : List Nat
  kt : Bool := false
def Rec.ok (Z : Nm) (r : Rec) : Bool := argB (defArgs r.st) r.ps && (scopB r.N r.ps (defScope r.st) && (decide r.ps.Nodup && (decide (r.ps.length = r.fn.np) && (decide (r.N.length = r.fn.ns) && (isHot Z r.x || chkSs Z r.N (defScope r.st) (fun _ => true) r.fn.body (defBody r.st))))))
def glFa : Str × D → He.Fa
  | (x, .int i) => .int x i
  | (x, .str z) => .str x z
  | (x, _) => .glo x
abbrev GDs := List (Str × List (Str × D))
def hotOk (Z : Nm) (rs : List Rec) : Bool := Z.hf.all fun f => match rs[f]? with
  | some r => chkSs { Z with hot := true } r.N (defScope r.st) (fun _ => true) r.fn.body (defBody r.st)
  | none => true
def tabsX (gd : GDs) (xi : XI) : Tabs := ⟨gd.map (·.2), xi.kn⟩
def fasOf (rs : List Rec) (gl : List (Str × D)) (gd : GDs) (xi : XI) : List He.Fa := rs.map (fun r => .glo r.x) ++ (bltN.map .free ++ (gl.map glFa ++ (gd.map (fun p => .glo p.1) ++ xi.ex.map .glo)))
def nmOf (rs : List Rec) (gl : List (Str × D)) (gd : GDs) (xi : XI) : Nm := ⟨rs.map (·.x), gl.map (·.1), gd.map (·.1), xi.ex, xi.rs, xi.fl, false, xi.hf, xi.kt⟩
/-- the V that a written value is -/
def vOf : Value → V
  | .none => .non
  | .bool b => .bl b
  | .int i _ => .int i
  | .str x _ => .str x
  | .ref a => .ref a
  | _ => .non
mutual
def kdB (K : PySem.W.Frag) : D → Value → Bool
  | .none, .none => true
  | .bool b, .bool c => b == c
  | .int i, .int j _ => decide (i = j)
  | .str x, .str y _ => decide (x = y)
  | .tuple xs, .ref a => match K.lookup a with
    | some ⟨.type c, _, .seq its _, _⟩ => decide (c = "tuple") && (decide (its.size ≤ 1000) && kdBs K xs its.toList)
    | _ => false
  | _, _ => false
def kdBs (K : PySem.W.Frag) : List D → List Value → Bool
  | [], [] => true
  | x :: xs, u :: us => kdB K x u && kdBs K xs us
  | _, _ => false
end
mutual
theorem kdB_ok {K : PySem.W.Frag} : ∀ {d : D} {u : Value}, kdB K d u = true → RelV (vOf u) u ∧ KD K d (vOf u)
  | .none, .none, _ => ⟨rfl, .non⟩
  | .bool b, .bool c, h => by
    have e : b = c := eq_of_beq (show (b == c) = true from h)
    subst e
    exact ⟨rfl, .bl b⟩
  | .int i, .int j t, h => by
    have e : i = j := of_decide_eq_true h
    subst e
    exact ⟨⟨t, rfl⟩, .int i⟩
  | .str i, .str j t, h => by
    have e : i = j := of_decide_eq_true h
    subst e
    exact ⟨⟨t, rfl⟩, .str i⟩
  | .tuple xs, .ref a, h => by
    unfold kdB at h
    split at h
    · rename_i c od its n sl hl
      simp only [Bool.and_eq_true, decide_eq_true_eq] at h
      obtain ⟨h1, h2, h3⟩ := h
      subst h1
      obtain ⟨vs, r1, r2⟩ := kdBs_ok h3
      exact ⟨rfl, .tup ⟨_, its, n, hl, rfl, rfl, Nat.le_trans h2 (by decide), r1⟩ r2⟩
    · cases h
theorem kdBs_ok {K : PySem.W.Frag} : ∀ {ds : List D} {us : List Value}, kdBs K ds us = true → ∃ vs, Vals vs us ∧ KDs K ds vs
  | [], [], _ => ⟨[], .nil, .nil⟩
  | x :: xs, u :: us, h => by
    simp only [kdBs, Bool.and_eq_true] at h
    obtain ⟨r, k⟩ := kdB_ok h.1
    obtain ⟨vs, r1, r2⟩ := kdBs_ok h.2
    exact ⟨_ :: vs, .cons r r1, .cons k r2⟩
  | [], _ :: _, h => by simp [kdBs] at h
  | _ :: _, [], h => by simp [kdBs] at h
end
def entB (K : PySem.W.Frag) : List DictEntry → List (Str × D) → Bool
  | [], [] => true
  | e :: r, p :: ps => (match e.key with
    | .str x _ => decide (x = p.1)
    | _ => false) && (kdB K p.2 e.val && entB K r ps)
  | _, _ => false
def tabB (K : PySem.W.Frag) (p : Str × List (Str × D)) : Bool := match K.lookup (He.ga K p.1) with
  | some ⟨_, _, .dict es _, _⟩ => entB K es.toList p.2
  | _ => false
theorem entB_ok {K : PySem.W.Frag} (z : Str) : ∀ {es : List DictEntry} {kvs : List (Str × D)}, entB K es kvs = true → es.any (·.refKey) = false ∧ ((valD kvs z = none ∧ es.find? (·.key.isStr z) = none) ∨ ∃ d e v, valD kvs z = some d ∧ es.find? (·.key.isStr z) = some e ∧ RelV v e.val ∧ KD K d v)
  | [], [], _ => ⟨rfl, .inl ⟨rfl, rfl⟩⟩
  | e :: r, p :: ps, h => by
    simp only [entB, Bool.and_eq_true] at h
    obtain ⟨h1, h2, h3⟩ := h
    obtain ⟨q1, q2⟩ := entB_ok z h3
    split at h1
    · rename_i x t hk
      have h1 : x = p.1 := of_decide_eq_true h1
      have hrk : e.refKey = false := by unfold DictEntry.refKey; rw [hk]
      refine ⟨by rw [List.any_cons, hrk, q1]; rfl, ?_⟩
      have hs : e.key.isStr z = decide (p.1 = z) := by
        rw [hk]
        show (x == z) = _
        rw [h1]
        by_cases e0 : p.1 = z
        · subst e0; simp
        · simp [e0]
      unfold valD
      rw [List.find?_cons, List.find?_cons, hs]
      by_cases e0 : p.1 = z
      · rw [decide_eq_true e0]
        obtain ⟨r1, r2⟩ := kdB_ok h2
        exact .inr ⟨p.2, e, _, rfl, rfl, r1, r2⟩
      · rw [decide_eq_false e0]
        exact q2
    · cases h1
  | [], _ :: _, h => by simp [entB] at h
  | _ :: _, [], h => by simp [entB] at h
theorem tabB_ok {K : PySem.W.Frag} {p : Str × List (Str × D)} (h : tabB K p = true) (z : Str) : ∃ r, PySem.W.nsIn K (He.ga K p.1) z = some r ∧
    ((valD p.2 z = none ∧ r = none) ∨ ∃ d u v, valD p.2 z = some d ∧ r = some u ∧ RelV v u ∧ KD K d v) := by
  unfold tabB at h
  split at h
  · rename_i oc od es n sl hl
    obtain ⟨q1, q2⟩ := entB_ok z h
    unfold PySem.W.nsIn
    rw [hl]
    rcases q2 with ⟨q2, q3⟩ | ⟨d, e, v, q2, q3, q4, q5⟩
    · refine ⟨none, ?_, .inl ⟨q2, rfl⟩⟩
      simp only [q3, q1]
      rfl
    · refine ⟨some e.val, ?_, .inr ⟨d, e.val, v, q2, rfl, q4, q5⟩⟩
      simp only [q3]
  · cases h
/-- what is looked at besides: written tuples, written dicts -/
def glTup : Str × D → Bool
  | (_, .int _) => true
  | (_, .str _) => true
  | (_, .tuple _) => true
  | _ => false
/-! ### exception classes -/
def oexB (K : PySem.W.Frag) (C : Addr) : Bool := (match K.lookup C with
  | some ⟨.type "type", _, .cls cd, sl⟩ => (match cd.mro, sl.toList with
    | .ref C' :: bm, [_, _, _, _, some (.builtin n), _] => C' == C && (n == "ValueError.__new__" && (!cd.hasDel && (cd.hasDict && HandSPX.refsVE bm)))
    | _, _ => false)
  | _ => false) && (decide (PySem.W.findIn K (.ref C) "__setattr__" = some (some (.builtin "object.__setattr__"))) && (decide (PySem.W.subIn K (.ref C) (.type "BaseException") = some true) && (decide (PySem.W.typeIn K (.ref C) = some (.type "type")) && PySem.W.keepIn K (.ref C))))
theorem oexB_ok {K : PySem.W.Frag} {C : Addr} (h : oexB K C = true) : OexC K C := by
  unfold oexB at h
  simp only [Bool.and_eq_true, decide_eq_true_eq] at h
  obtain ⟨h1, h2, h3, h4, h5⟩ := h
  refine ⟨?_, h2, h3, h4, h5⟩
  split at h1
  · rename_i dd cd sl ho
    split at h1
    · rename_i C' bm k0 k1 k2 k3 n k5 hm hs
      simp only [Bool.and_eq_true, beq_iff_eq, Bool.not_eq_true'] at h1
      obtain ⟨rfl, rfl, q1, q2, q3⟩ := h1
      obtain ⟨nm, bs, mro, ns, qn, hd, sn, sub, ab, col, del⟩ := cd
      dsimp only at hm q1 q2
      subst hm q1 q2
      have hsl : sl = #[k0, k1, k2, k3, some (.builtin "ValueError.__new__"), k5] := by
        obtain ⟨l⟩ := sl
        simp only at hs
        rw [hs]
      subst hsl
      exact ⟨nm, qn, ns, bs, bm, sn, sub, ab, col, dd, k0, k1, k2, k3, k5, ho, q3⟩
    · cases h1
  · cases h1
def exkB (K : PySem.W.Frag) (D : Addr) : Bool := (PySem.W.clsIn K D).isSome && (decide (PySem.W.findIn K (.ref D) "__getattribute__" = some (some (.builtin "BaseException.__getattribute__"))) && (decide (PySem.W.findIn K (.ref D) "__getattr__" = some none) && (decide (PySem.W.subIn K (.ref D) (.type "BaseException") = some true) && (PySem.W.hasDictIn K D &&
  (decide (PySem.W.findIn K (.ref D) "__class__" = some (some (.builtin "object.__class__"))) && (decide (PySem.W.specialIn K (.builtin "object.__class__") "__get__" = some (some (.builtin "getset_descriptor.__get__"))) && (decide (PySem.W.takesIn K (.builtin "object.__class__") = some true) && decide (PySem.W.mroIn K D (.type "object") = some true))))))))
theorem exkB_ok {K : PySem.W.Frag} {D : Addr} (h : exkB K D = true) : ExK K D := by
  unfold exkB at h
  simp only [Bool.and_eq_true, decide_eq_true_eq] at h
  obtain ⟨h1, h2, h3, h4, h5, h6, h7, h8, h9⟩ := h
  exact ⟨h1, h2, h3, h4, h5, h6, h7, h8, h9⟩
/-- its __init__ -/
def iniB (K : PySem.W.Frag) (P : Program) (C : Addr) (ps : List Str) (fd : FuncData) : Bool := match fd with
  | ⟨_, qual, params, .stmts body, scope, globals, cl, dV, _, _, _, _, cdv, _, builtins⟩ => decide (globals = mainGlobals) && (decide (builtins = builtinsNs) && (decide (dV = .none) && ((match cdv, cl with
    | .ref c, [(n, cc)] => decide (n = ("__class__" : Str)) && (PySem.W.codeIn K (.ref c) qual && ((match K.lookup c with
        | some ⟨_, _, .fields vs, _⟩ => (match (vs : Array Value)[2]? with
          | some (Value.str f _) => (P.main.file : Str) == f
          | _ => false)
        | _ => false) && (match K.lookup cc with
        | some ⟨_, _, .cell (some (.ref D)), _⟩ => decide (D = C)
        | _ => false)))
    | _, _ => false) && (NdefX.nscB (("self" : Str) :: (ps ++ [("__class__" : Str)])) (("self" : Str) :: ps) [("__class__" : Str)] scope && (decide (scope.names.lookup ("super" : Str) = some .globalImplicit) && (argB params (("self" : Str) :: ps) && (decide (("self" : Str) :: ps).Nodup && (chkInit ps body && (match body with
      | .Expr (.Call _ [.JoinedStr es _] _ _) _ :: _ => es.all partOk
      | _ => false)))))))))
  | _ => false
def supB (K : PySem.W.Frag) (P : Program) (C : Addr) (ps : List Str) : Bool := (match PySem.W.findIn K (.ref C) "__init__" with
  | some (some (.ref fI)) => decide (PySem.W.typeIn K (.ref fI) = some (.type "function")) && (match K.lookup fI with
    | some ⟨_, _, .func fd, _⟩ => iniB K P C ps fd
    | _ => false)
  | _ => false) && (oexB K C && (decide (PySem.W.mroIn K C (.ref C) = some true) && (decide (PySem.W.ks_superIn K C C "__init__" = some (some (.builtin "ValueError.__init__"))) && (decide (PySem.W.subIn K (.ref C) (.type "ValueError") = some true) && (decide (PySem.W.nsIn K PySem.cStatics "thirdparty.any" = some none) &&
    ((!(P.main.scope.names.lookup ("super" : Str)).isSome) && (ps.all (fun f => decide (PySem.W.findIn K (.ref C) f = some none) && okN f) && (decide (ps.length ≤ 20) && !ps.isEmpty))))))))
theorem bind_genX {name qual : Str} {params : Arguments} {body : List Stmt} {scope : Scope} {cl : List (Str × Addr)} {kV doc pm cdv ct : Value} {an : Option Addr} {ps : List Str} (hp : params.posonlyargs = []) (ha : params.args.map (·.arg) = ps) (hv : params.vararg = none) (hk : params.kwonlyargs = []) (hkw : params.kwarg = none) (nd : ps.Nodup)
    (us : List Value) (hl : us.length = ps.length) : bindArgs (PySem.W.fnX name qual params body scope cl .none kV doc pm an cdv ct) ⟨us, []⟩ = pure (ps.zip us) := by
  have e : bindArgs (PySem.W.fnX name qual params body scope cl .none kV doc pm an cdv ct) ⟨us, []⟩ = bindArgs (PySem.W.fnOf name qual params body scope .none kV doc pm an cdv ct) ⟨us, []⟩ := rfl
  rw [e]
  exact bind_gen hp ha hv hk hkw nd us hl
theorem supB_ok {K : PySem.W.Frag} {P : Program} {w : World} {mg : Str → Option Value} {base : Heap} {x : Str} {ps : List Str} (h : supB K P (He.ga K x) ps = true) (hs : mg "super" = none) : MkG K P w mg base x ps := by
  obtain ⟨C, hC⟩ : ∃ C, C = He.ga K x := ⟨_, rfl⟩
  rw [← hC] at h
  unfold supB at h
  simp only [Bool.and_eq_true, decide_eq_true_eq, List.all_eq_true] at h
  obtain ⟨h1, h2, h3, h4, h5, h6, h7, h8, h9, h10⟩ := h
  split at h1
  · rename_i fI hfI
    rw [Bool.and_eq_true, decide_eq_true_eq] at h1
    obtain ⟨ht, h1⟩ := h1
    split at h1
    · rename_i oc od fd osl hlk
      obtain ⟨name, qual, params, bd, scope, globals, cl, dV, kV, doc, pm, an, cdv, ct, builtins⟩ := fd
      cases bd with
      | expr e => cases h1
      | stmts body =>
      unfold iniB at h1
      rw [Bool.and_eq_true, Bool.and_eq_true, Bool.and_eq_true, Bool.and_eq_true, Bool.and_eq_true, Bool.and_eq_true, Bool.and_eq_true, Bool.and_eq_true, Bool.and_eq_true, decide_eq_true_eq, decide_eq_true_eq, decide_eq_true_eq, decide_eq_true_eq, decide_eq_true_eq] at h1
      obtain ⟨rfl, rfl, rfl, q1, q2, q3, q4, q5, q6, q7⟩ := h1
      split at q1
      · rename_i c n cc
        rw [Bool.and_eq_true, Bool.and_eq_true, Bool.and_eq_true, decide_eq_true_eq] at q1
        obtain ⟨rfl, q8, q9, q10⟩ := q1
        have ar := q4
        unfold argB at ar
        simp only [Bool.and_eq_true, decide_eq_true_eq, List.isEmpty_iff, Option.isNone_iff_eq_none] at ar
        obtain ⟨a1, a2, a3, a4, a5⟩ := ar
        have T : SupC K P mg C fI ⟨name, qual, params, body, scope, [(("__class__" : Str), cc)], c⟩ (PySem.W.fnX name qual params body scope [(("__class__" : Str), cc)] .none kV doc pm an (.ref c) ct) ps := {
          oex := oexB_ok h2
          ini := hfI
          typ := ht
          fn := ⟨_, _, _, _, _, _, _, _, _, rfl, hlk⟩
          code := q8
          file := by
            split at q9
            · rename_i ccl cdd vs ccs hc
              split at q9
              · rename_i f tf hv
                exact ⟨_, _, vs, _, f, tf, hc, hv, q9⟩
              · cases q9
            · cases q9
          cell := by
            split at q10
            · rename_i c1 c2 D c3 hc
              rw [decide_eq_true_eq] at q10
              subst q10
              exact ⟨cc, _, _, _, rfl, hc⟩
            · cases q10
          mro := h3
          sup := h4
          sub := h5
          opq := h6
          top := by simpa using h7
          mgS := hs
          fld := fun f hf => (h8 f hf).1
          scp := NdefX.nscope_by q2
          nmS := q3
          par := by
            rw [a1, List.nil_append, List.head?_eq_getElem?]
            have e : (params.args.map (·.arg))[0]? = some ("self" : Str) := by rw [a2]; rfl
            rw [List.getElem?_map] at e
            exact e }
        letI : XE := xF
        subst hC
        refine ⟨⟨fI, _, _, T, init_fn (k := 0) T q6 q7 h9 (fun z => by rw [z] at h10; cases h10) (fun f hf => okN_ok (h8 f hf).2), Binds.all fun us hl => bind_genX a1 a2 a3 a4 a5 q5 us hl⟩, h9⟩
      · cases q1
    · cases h1
  · cases h1
def exAll (P : Program) (xi : XI) (K : PySem.W.Frag) : Bool := xi.kn.all (fun p => exkB K (He.ga K p.1) && (xi.ex.all (fun c => decide (PySem.W.exmOne K (.ref (He.ga K p.1)) (.ref (He.ga K c)) = some (exSub p.1 c)) && decide (PySem.W.kitOne K (.ref (He.ga K p.1)) (.ref (He.ga K c)) = some (exSub p.1 c))) &&
    (decide (PySem.W.kitOne K (.ref (He.ga K p.1)) (.type "ValueError") = some true) && xi.fl.all fun f => decide (PySem.W.findIn K (.ref (He.ga K p.1)) f = some none)))) && xi.rs.all (fun x => xi.ex.contains x && (match xi.kn.lookup x with
    | some fs => supB K P (He.ga K x) fs
    | none => false))
def exB (P : Program) (gl : List (Str × D)) (gd : GDs) (xi : XI) (K : PySem.W.Frag) : Bool := (gl.all (fun p => match p.2 with
  | .tuple xs => kdB K (.tuple xs) (.ref (He.ga K p.1))
  | _ => true) && gd.all (tabB K)) && exAll P xi K
/-- what the names reach, and the interpreter's own statics -/
def asY (g : Addr → Option Obj) (n : Nat) : List Addr := He.asD g n ++ [PySem.cStatics]
structure SaysY (fa : List He.Fa) (fn : List He.DefD) (ts : List He.Tab) (ex : PySem.W.Frag → Bool) (w : World) (K : PySem.W.Frag) : Prop where
  t : He.SaysT fa fn ts w K
  more : ex K = true
abbrev AlY : Type := He.AlT × Bool
def obsY (n : Nat) (fa : List He.Fa) (fn : List He.DefD) (ts : List He.Tab) (ex : PySem.W.Frag → Bool) (g : Addr → Option Obj) : AlY := (He.obsT fa fn ts (He.frT g (asY g n)), ex (He.frT g (asY g n)))
def valY (fn : List He.DefD) (ts : List He.Tab) (w : World) : AlY := (He.valT fn ts w, true)
omit [XT] [XA] in
theorem saysY_of {n : Nat} {fa : List He.Fa} {fn : List He.DefD} {ts : List He.Tab} {ex : PySem.W.Frag → Bool} {w : World} {h : Heap} (e : obsY n fa fn ts ex h.get? = valY fn ts w) : SaysY fa fn ts ex w (He.frT h.get? (asY h.get? n)) :=
  ⟨congrArg (fun z : AlY => z.1) e, congrArg (fun z : AlY => z.2) e⟩
def hookY (n : Nat) (fa : List He.Fa) (fn : List He.DefD) (ts : List He.Tab) (ex : PySem.W.Frag → Bool) : PySem.W.Hook where
  α := AlY
  obs := fun s => obsY n fa fn ts ex s.heap.get?
  val := fun w => valY fn ts w
  says := fun w h => ∃ K : PySem.W.Frag, K.In h ∧ SaysY fa fn ts ex w K
  of := fun _ _ e => ⟨_, He.frT_in, saysY_of e⟩
  keeps := fun _ _ _ ⟨K, hK, c⟩ k => ⟨K, PySem.W.Frag.In.keeps hK k, c⟩
omit [XT] [XA] in
theorem obsY_eq {n : Nat} {fa : List He.Fa} {fn : List He.DefD} {ts : List He.Tab} {ex : PySem.W.Frag → Bool} {g : Addr → Option Obj} {s : Shared} (h : ∀ a, g a = s.heap.get? a) : obsY n fa fn ts ex g = (hookY n fa fn ts ex).obs s := by
  have e : g = s.heap.get? := funext h
  rw [e] <;> rfl
def tabs (gd : GDs) : List He.Tab := gd.map fun p => (fun K => He.ga K p.1, p.2.map (·.1))
theorem exg_of {P : Program} {K : PySem.W.Frag} {mg : Str → Option Value} {rs : List Rec} {gl : List (Str × D)} {gd : GDs} {xi : XI} (h : exAll P xi K = true) (hm : ∀ x ∈ xi.ex, mg x = some (.ref (He.ga K x))) : ExG (nmOf rs gl gd xi) (tabsX gd xi) K mg := by
  unfold exAll at h
  rw [Bool.and_eq_true] at h
  have q : ∀ x, exKnown (tabsX gd xi) x = true → ∃ p ∈ xi.kn, p.1 = x := fun x hx => by
    obtain ⟨p, hp, e⟩ := List.any_eq_true.mp (show (xi.kn.any fun p => p.1 == x) = true from hx)
    exact ⟨p, hp, eq_of_beq e⟩
  have r : ∀ x, exKnown (tabsX gd xi) x = true → exkB K (He.ga K x) = true ∧ (∀ c ∈ xi.ex, (decide (PySem.W.exmOne K (.ref (He.ga K x)) (.ref (He.ga K c)) = some (exSub x c)) && decide (PySem.W.kitOne K (.ref (He.ga K x)) (.ref (He.ga K c)) = some (exSub x c))) = true) ∧
      PySem.W.kitOne K (.ref (He.ga K x)) (.type "ValueError") = some true ∧ ∀ f ∈ xi.fl, decide (PySem.W.findIn K (.ref (He.ga K x)) f = some none) = true := fun x hx => by
    obtain ⟨p, hp, e⟩ := q x hx
    have z := List.all_eq_true.mp h.1 p hp
    rw [e, Bool.and_eq_true, Bool.and_eq_true, Bool.and_eq_true, List.all_eq_true, List.all_eq_true, decide_eq_true_eq] at z
    exact z
  refine ⟨hm, fun x hx => exkB_ok (r x hx).1, fun x hx c hc => ?_, fun x hx c hc => ?_, fun x hx => (r x hx).2.2.1, fun x hx f hf => of_decide_eq_true ((r x hx).2.2.2 f hf)⟩
  · have z := (r x hx).2.1 c hc
    rw [Bool.and_eq_true, decide_eq_true_eq, decide_eq_true_eq] at z
    exact z.1
  · have z := (r x hx).2.1 c hc
    rw [Bool.and_eq_true, decide_eq_true_eq, decide_eq_true_eq] at z
    exact z.2
theorem hot_of {Z : Nm} {rs : List Rec} {f : Nat} {r : Rec} (h : hotOk Z rs = true) (hr : rs[f]? = some r) (hf : f ∈ Z.hf) : chkSs { Z with hot := true } r.N (defScope r.st) (fun _ => true) r.fn.body (defBody r.st) = true := by
  have q := List.all_eq_true.mp h f hf
  rw [hr] at q
  exact q
theorem prg_of {P : Program} {w : World} {K : PySem.W.Frag} {h : Heap} {mg : Str → Option Value} {rs : List Rec} {gl : List (Str × D)} {gd : GDs} {xi : XI} (X : K.In h) (G : h.Ns mainGlobals mg) (c : SaysY (fasOf rs gl gd xi) (rs.map Rec.dd) (tabs gd) (exB P gl gd xi) w K) (hc : (rs.all (Rec.ok (nmOf rs gl gd xi)) && hotOk (nmOf rs gl gd xi) rs) = true) (hg : gl.all glTup = true) (hk : xi.kt = XT.kt) :
    Prg P K w mg (nmOf rs gl gd xi) (rs.map (·.fn)) (gl.map (·.2)) (tabsX gd xi) := by
  obtain ⟨hc, hot⟩ := (Bool.and_eq_true _ _).mp hc
  have cd := c.t.d
  obtain ⟨m1, m2⟩ := (Bool.and_eq_true _ _).mp (show (gl.all (fun p => match p.2 with
    | .tuple xs => kdB K (.tuple xs) (.ref (He.ga K p.1))
    | _ => true) && gd.all (tabB K)) = true from ((Bool.and_eq_true _ _).mp (show ((gl.all (fun p => match p.2 with
    | .tuple xs => kdB K (.tuple xs) (.ref (He.ga K p.1))
    | _ => true) && gd.all (tabB K)) && exAll P xi K) = true from c.more)).1)
  have hfree : ∀ x ∈ bltN, mg x = none := fun x hx => He.free_ok X G (cd.facts (f := .free x) (List.mem_append_right _ (List.mem_append_left _ (List.mem_map.mpr ⟨x, hx, rfl⟩))))
  have hxa : exAll P xi K = true := ((Bool.and_eq_true _ _).mp (show ((gl.all (fun p => match p.2 with
    | .tuple xs => kdB K (.tuple xs) (.ref (He.ga K p.1))
    | _ => true) && gd.all (tabB K)) && exAll P xi K) = true from c.more)).2
  have hex : ∀ x ∈ xi.ex, mg x = some (.ref (He.ga K x)) := fun x hx => He.glo_ok X G (cd.facts (f := .glo x) (List.mem_append_right _ (List.mem_append_right _ (List.mem_append_right _ (List.mem_append_right _ (List.mem_map.mpr ⟨x, hx, rfl⟩))))))
  have hrs : ∀ x ∈ xi.rs, x ∈ xi.ex ∧ ∃ fs, xi.kn.lookup x = some fs ∧ supB K P (He.ga K x) fs = true := fun x hx => by
    have z := List.all_eq_true.mp ((Bool.and_eq_true _ _).mp hxa).2 x hx
    rw [Bool.and_eq_true, List.contains_iff_mem] at z
    refine ⟨z.1, ?_⟩
    have z2 := z.2
    split at z2
    · exact ⟨_, ‹_›, z2⟩
    · cases z2
  refine ⟨fun f x hx => ?_, fun i x hx => ?_, fun i x hx => ?_, hfree, rfl, exg_of hxa hex, fun x hx => (hrs x hx).1, fun base x hx => ?_, hk⟩
  rotate_right
  · obtain ⟨_, fs, e, z⟩ := hrs x hx
    exact ⟨fs, e, supB_ok z (hfree "super" (by simp [bltN]))⟩
  · have hx : (rs.map (·.x))[f]? = some x := hx
    rw [List.getElem?_map] at hx
    obtain ⟨r, hr, rfl⟩ := Option.map_eq_some_iff.mp hx
    have hm := List.mem_of_getElem? hr
    have ok := List.all_eq_true.mp hc r hm
    unfold Rec.ok argB at ok
    simp only [Bool.and_eq_true, decide_eq_true_eq, List.isEmpty_iff, Option.isNone_iff_eq_none] at ok
    obtain ⟨⟨a1, a2, a3, a4, a5⟩, h2, h3, h4, h5, h6⟩ := ok
    obtain ⟨fd, FD⟩ := cd.defs (d := r.dd) (List.mem_map.mpr ⟨r, hm, rfl⟩)
    have FD : FunD K r.x r.x (defArgs r.st) (defBody r.st) (defScope r.st) [] [] _ fd := FD
    have hmg := He.glo_ok X G (cd.facts (f := .glo r.x) (List.mem_append_left _ (List.mem_map.mpr ⟨r, hm, rfl⟩)))
    refine ⟨r.fn, _, fd, r.ps, r.N, ⟨r.x, defArgs r.st, defBody r.st, defScope r.st, ?_, ?_, hmg, FD.kp, FD.bindsN fun kV doc pm an cdv ct us hl => bind_gen a1 a2 a3 a4 a5 h3 us hl, FD, scopB_ok h2, h4, h5, (fun z => by rw [z, Bool.false_or] at h6; exact h6), hot_of hot hr⟩⟩
    · show (rs.map (·.x))[f]? = _
      rw [List.getElem?_map, hr]; rfl
    · rw [List.getElem?_map, hr]; rfl
  · have hx : (gl.map (·.1))[i]? = some x := hx
    rw [List.getElem?_map] at hx
    obtain ⟨⟨y, d⟩, hr, e⟩ := Option.map_eq_some_iff.mp hx
    have e : y = x := e
    subst e
    have hm := List.mem_of_getElem? hr
    have ok : glTup (y, d) = true := List.all_eq_true.mp hg _ hm
    have hf := cd.facts (f := glFa (y, d)) (List.mem_append_right _ (List.mem_append_right _ (List.mem_append_left _ (List.mem_map.mpr ⟨_, hm, rfl⟩))))
    have hd : (gl.map (·.2))[i]? = some d := by rw [List.getElem?_map, hr]; rfl
    cases d with
    | int n =>
      obtain ⟨t, ht⟩ := He.int_ok X G (show (He.Fa.int y n).ok K = true from hf)
      exact ⟨.int n, _, .int n, ht, ⟨t, rfl⟩, hd, .int n⟩
    | str z =>
      obtain ⟨t, ht⟩ := He.str_ok X G (show (He.Fa.str y z).ok K = true from hf)
      exact ⟨.str z, _, .str z, ht, ⟨t, rfl⟩, hd, .str z⟩
    | tuple xs =>
      have ht := He.glo_ok X G (show (He.Fa.glo y).ok K = true from hf)
      obtain ⟨r1, r2⟩ := kdB_ok (show kdB K (.tuple xs) (.ref (He.ga K y)) = true from List.all_eq_true.mp m1 _ hm)
      exact ⟨_, _, .tuple xs, ht, r1, hd, r2⟩
    | _ => cases ok
  · have hx : (gd.map (·.1))[i]? = some x := hx
    rw [List.getElem?_map] at hx
    obtain ⟨p, hr, rfl⟩ := Option.map_eq_some_iff.mp hx
    have hm := List.mem_of_getElem? hr
    have ht := He.glo_ok X G (cd.facts (f := .glo p.1) (List.mem_append_right _ (List.mem_append_right _ (List.mem_append_right _ (List.mem_append_left _ (List.mem_map.mpr ⟨_, hm, rfl⟩))))))
    obtain ⟨es, n, kd⟩ := c.t.tab i (t := (fun K => He.ga K p.1, p.2.map (·.1))) (by
      show (gd.map _)[i]? = _
      rw [List.getElem?_map, hr]; rfl)
    exact ⟨_, es, n, p.2, ht, kd, (show (gd.map (·.2))[i]? = _ by rw [List.getElem?_map, hr]; rfl), fun z => tabB_ok (List.all_eq_true.mp m2 p hm) z⟩
/-- nothing is let out -/
theorem fn_calm {P : Program} {w : World} {K : PySem.W.Frag} {mg : Str → Option Value} {base : Heap} {k : Nat} {a : Addr} {fd : FuncData} {ps : List Str} {sp : Sp} (F : FnOk P w K mg base (L2N.CX P w) k a fd ps sp) :
    FnOk P w K mg base C8.CX0 k a fd ps (fun vs H Q _ => sp vs H Q (fun _ _ _ => False)) :=
  ⟨fun vs H Q E h => F.len vs H Q _ h, fun A outer s H args us vs Q E hr e0 hb r h => codeAny_mono (F.run A outer s H args us vs Q _ hr e0 hb r h) fun r s' z => by
    cases r with
    | ok fl => cases fl <;> exact z
    | error e =>
      obtain ⟨_, _, _, _, _, _, _, _, _, _, _, _, q⟩ := z
      exact q⟩
/-- behind the top: the law's def, at the call -/
theorem facts_of {P : Program} {w : World} {K : PySem.W.Frag} {h : Heap} {mg : Str → Option Value} {rs : List Rec} {gl : List (Str × D)} {gd : GDs} {xi : XI} {F k f : Nat} {r : Rec} {a : Addr} (X : K.In h) (G : h.Ns mainGlobals mg) (c : SaysY (fasOf rs gl gd xi) (rs.map Rec.dd) (tabs gd) (exB P gl gd xi) w K) (hc : (rs.all (Rec.ok (nmOf rs gl gd xi)) && hotOk (nmOf rs gl gd xi) rs) = true) (hg : gl.all glTup = true) (hk : xi.kt = XT.kt)
    (hr : rs[f]? = some r) (hp : r.ps = [("script" : Str)]) (hh0 : isHot (nmOf rs gl gd xi) r.x = false) (ha : mg r.x = some (.ref a)) : ∃ fd : FuncData, (∀ (s : Shared) (v : Value), BindsTo s fd ⟨[v], []⟩ [(("script" : Str), v)]) ∧ ∀ base : Heap, FnOk P w K mg base C8.CX0 (k + 2) a fd [("script" : Str)] (fun vs H Q _ => @spC _ xN K ⟨callF (rs.map (·.fn)) (gl.map (·.2)) (tabsX gd xi) F k, F, gl.map (·.2), tabsX gd xi⟩ f 1 vs H Q (fun _ _ _ => False)) := by
  have p := prg_of X G c hc hg hk
  obtain ⟨hc, hot⟩ := (Bool.and_eq_true _ _).mp hc
  have cd := c.t.d
  have hx : (nmOf rs gl gd xi).fn[f]? = some r.x := by
    show (rs.map (·.x))[f]? = _
    rw [List.getElem?_map, hr]; rfl
  have hm := List.mem_of_getElem? hr
  have ok := List.all_eq_true.mp hc r hm
  unfold Rec.ok argB at ok
  simp only [Bool.and_eq_true, decide_eq_true_eq, List.isEmpty_iff, Option.isNone_iff_eq_none] at ok
  obtain ⟨⟨a1, a2, a3, a4, a5⟩, h2, h3, h4, h5, h6⟩ := ok
  obtain ⟨fd, FD⟩ := cd.defs (d := r.dd) (List.mem_map.mpr ⟨r, hm, rfl⟩)
  have FD : FunD K r.x r.x (defArgs r.st) (defBody r.st) (defScope r.st) [] [] _ fd := FD
  have hmg := He.glo_ok X G (cd.facts (f := .glo r.x) (List.mem_append_left _ (List.mem_map.mpr ⟨r, hm, rfl⟩)))
  have ea := ha.symm.trans hmg
  cases ea
  refine ⟨fd, fun s v => ?_, fun base => ?_⟩
  · have b := FunD.bindsA (ps := r.ps) FD fun kV doc pm an cdv ct us hl => bind_gen a1 a2 a3 a4 a5 h3 us hl
    have := b s [v] (by rw [hp]; rfl)
    rw [hp] at this
    exact this
  · letI : XA := xN
    have q := all_ok (P := P) (w := w) (base := base) (F := F) p k f r.x r.fn _ fd r.ps r.N ⟨r.x, defArgs r.st, defBody r.st, defScope r.st, hx, by rw [List.getElem?_map, hr]; rfl, hmg, FD.kp, FD.bindsN fun kV doc pm an cdv ct us hl => bind_gen a1 a2 a3 a4 a5 h3 us hl, FD, scopB_ok h2, h4, h5, (fun z => by rw [z, Bool.false_or] at h6; exact h6), hot_of hot hr⟩
    rw [hp] at q
    exact fn_calm (q.1 hh0)
end Ev
set_option Elab.async false
set_option linter.all false
set_option maxRecDepth 100000
/-! Pl: the evaluator's runs, in plain Lean -/
namespace Ev
open PySem

def Ok {α : Type} (r : Res α) (P : α → Store → Prop) : Prop := ∃ a M, r = .ok a M ∧ P a M
section
variable {α β : Type} {P : α → Store → Prop} {Q : β → Store → Prop}
theorem Ok.ret {a : α} {M : Store} (h : P a M) : Ok (.ok a M) P := ⟨a, M, rfl, h⟩
theorem Ok.bind {r : Res α} {f : α → Store → Res β} (h : Ok r P) (k : ∀ a M, P a M → Ok (f a M) Q) : Ok (r.bind f) Q := by
  obtain ⟨a, M, rfl, h⟩ := h
  exact k a M h
theorem Ok.bindI {r : Res α} {f : α → Store → Res β} (h : Ok r fun a M => Ok (f a M) Q) : Ok (r.bind f) Q := Ok.bind h fun _ _ q => q
theorem Ok.mono {P' : α → Store → Prop} {r : Res α} (h : Ok r P) (k : ∀ a M, P a M → P' a M) : Ok r P' := by
  obtain ⟨a, M, e, h⟩ := h
  exact ⟨a, M, e, k a M h⟩
theorem Ok.nx {r : Res α} (h : Ok r P) : Ok (nox r) P := by
  obtain ⟨a, M, rfl, h⟩ := h
  exact ⟨a, M, rfl, h⟩
theorem Ok.nxb {r : Res α} {f : α → Store → Res β} (h : Ok (r.bind f) Q) : Ok ((nox r).bind f) Q := by
  cases r with
  | ok a M => exact h
  | exn x M => (obtain ⟨_, _, e, _⟩ := h; cases e)
  | stuck => exact h
theorem Ok.withO {γ : Type} {o : Option γ} {x : γ} {f : γ → Res α} (e : o = some x) (h : Ok (f x) P) : Ok (Ev.withO o f) P := by
  subst e; exact h
theorem Ok.must {c : Prop} [Decidable c] {r : Res α} (hc : c) (h : Ok r P) : Ok (Ev.must c r) P := by
  unfold Ev.must; rw [if_pos hc]; exact h
theorem Ok.lim {n : Nat} {r : Res α} (hc : n ≤ sizeLine) (h : Ok r P) : Ok (Ev.lim n r) P := by
  unfold Ev.lim; rw [if_pos hc]; exact h
theorem Ok.eq {r : Res α} {a : α} {M : Store} (e : r = .ok a M) (h : P a M) : Ok r P := ⟨a, M, e, h⟩
end
theorem callF_run {T : List Fn} {G : List D} {GD : Tabs} {F k f : Nat} {fn : Fn} {ws : List W} {M : Store} (h : T[f]? = some fn) (hl : ws.length = fn.np) :
    callF T G GD F (k + 1) f ws M = (evSs ⟨callF T G GD F k, F, G, GD⟩ fn.body (startE fn.ns ws) M).bind fun fl M1 => leave fn.ret M.length fl M1 := by
  show (match T[f]? with
    | none => Res.stuck
    | some fn => if ws.length = fn.np then (evSs ⟨callF T G GD F k, F, G, GD⟩ fn.body (startE fn.ns ws) M).bind fun fl M1 => leave fn.ret M.length fl M1 else Res.stuck) = _
  rw [h]
  exact if_pos hl
/-- a loop over items: what holds ahead of turn i, I -/
theorem forL_ok {tg : CT} {body : Env → Store → Res Fl} {R : Fl → Store → Prop} : ∀ {xs : List D} (I : Nat → Env → Store → Prop) {e : Env} {M : Store}, I 0 e M →
    (∀ i x e M, xs[i]? = some x → I i e M → ∃ e', asgT tg (.d x) e = some e' ∧ Ok (body e' M) fun fl M1 => match fl with
      | .nx e1 => I (i + 1) e1 M1
      | .ct e1 => I (i + 1) e1 M1
      | .bk e1 => R (.nx e1) M1
      | .rt w => R (.rt w) M1) →
    (∀ e M, I xs.length e M → R (.nx e) M) → Ok (forL tg body xs e M) R
  | [], I, e, M, h0, _, hn => ⟨_, _, rfl, hn e M h0⟩
  | x :: xs, I, e, M, h0, hs, hn => by
    obtain ⟨e', h1, h2⟩ := hs 0 x e M rfl h0
    show Ok (Ev.withO (asgT tg (.d x) e) fun e' => after (body e' M) (forL tg body xs)) R
    refine Ok.withO h1 (Ok.bind h2 fun fl M1 q => ?_)
    have go : ∀ e1, I 1 e1 M1 → Ok (forL tg body xs e1 M1) R := fun e1 q => forL_ok (fun i => I (i + 1)) q (fun i x e M hx hi => hs (i + 1) x e M hx hi) fun e M h => hn e M h
    cases fl with
    | nx e1 => exact go e1 q
    | ct e1 => exact go e1 q
    | bk e1 => exact ⟨_, _, rfl, q⟩
    | rt w => exact ⟨_, _, rfl, q⟩
/-- a comprehension over items, one item of the result a turn, no test: J ahead of turn i, with the result so far -/
theorem compL_ok {tg : CT} {inner : Env → Store → Res (List D)} {e0 : Env} {R : List D → Store → Prop} : ∀ {xs : List D} (J : Nat → List D → Store → Prop) {acc : List D} {M : Store}, J 0 acc M →
    (∀ i x acc M, xs[i]? = some x → J i acc M → ∃ e', asgT tg (.d x) e0 = some e' ∧ Ok (inner e' M) fun ys M1 => J (i + 1) (acc ++ ys) M1) →
    (∀ acc M, J xs.length acc M → R acc M) → Ok (compL tg (fun _ M => .ok true M) inner e0 xs M) fun zs M1 => R (acc ++ zs) M1
  | [], J, acc, M, h0, _, hn => ⟨[], M, rfl, by show R (acc ++ []) M; rw [List.append_nil]; exact hn _ _ h0⟩
  | x :: xs, J, acc, M, h0, hs, hn => by
    obtain ⟨e', h1, h2⟩ := hs 0 x acc M rfl h0
    show Ok (Ev.withO (asgT tg (.d x) e0) fun e1 => (inner e1 M).bind fun ys M2 => (compL tg (fun _ M => .ok true M) inner e0 xs M2).bind fun zs M3 => .ok (ys ++ zs) M3) _
    refine Ok.withO h1 (Ok.bind h2 fun ys M1 q => ?_)
    refine Ok.bind (compL_ok (fun i => J (i + 1)) q (fun i x acc M hx hi => hs (i + 1) x acc M hx hi) fun acc M h => hn acc M h) fun zs M2 r => ?_
    exact ⟨_, _, rfl, by show R (acc ++ (ys ++ zs)) M2; rw [← List.append_assoc]; exact r⟩
theorem compL_ok' {tg : CT} {cd : Ev.Env → Store → Res Bool} {inner : Ev.Env → Store → Res (List D)} {e0 : Ev.Env} (hcd : ∀ e M, cd e M = .ok true M) (J : Nat → List D → Store → Prop) {xs : List D} {acc : List D} {M : Store} (h0 : J 0 acc M)
    (hs : ∀ i x acc M, xs[i]? = some x → J i acc M → ∃ e', asgT tg (.d x) e0 = some e' ∧ Ok (inner e' M) fun ys M1 => J (i + 1) (acc ++ ys) M1) : Ok (compL tg cd inner e0 xs M) fun zs M1 => J xs.length (acc ++ zs) M1 := by
  have e : cd = fun _ M => .ok true M := funext fun e => funext fun M => hcd e M
  subst e
  exact compL_ok J h0 hs fun _ _ h => h
/-- .. with a test -/
theorem compLt_ok {tg : CT} {cd : Env → Store → Res Bool} {inner : Env → Store → Res (List D)} {e0 : Env} {R : List D → Store → Prop} : ∀ {xs : List D} (J : Nat → List D → Store → Prop) {acc : List D} {M : Store}, J 0 acc M →
    (∀ i x acc M, xs[i]? = some x → J i acc M → ∃ e', asgT tg (.d x) e0 = some e' ∧ Ok (cd e' M) fun b M1 => if b = true then Ok (inner e' M1) fun ys M2 => J (i + 1) (acc ++ ys) M2 else J (i + 1) acc M1) →
    (∀ acc M, J xs.length acc M → R acc M) → Ok (compL tg cd inner e0 xs M) fun zs M1 => R (acc ++ zs) M1
  | [], J, acc, M, h0, _, hn => ⟨[], M, rfl, by show R (acc ++ []) M; rw [List.append_nil]; exact hn _ _ h0⟩
  | x :: xs, J, acc, M, h0, hs, hn => by
    obtain ⟨e', h1, h2⟩ := hs 0 x acc M rfl h0
    show Ok (Ev.withO (asgT tg (.d x) e0) fun e1 => (cd e1 M).bind fun b M1 => if b = true then (inner e1 M1).bind fun ys M2 => (compL tg cd inner e0 xs M2).bind fun zs M3 => .ok (ys ++ zs) M3 else compL tg cd inner e0 xs M1) _
    refine Ok.withO h1 (Ok.bind h2 fun b M1 q => ?_)
    cases b with
    | true =>
      rw [if_pos rfl] at q ⊢
      refine Ok.bind q fun ys M1 q => ?_
      refine Ok.bind (compLt_ok (fun i => J (i + 1)) q (fun i x acc M hx hi => hs (i + 1) x acc M hx hi) fun acc M h => hn acc M h) fun zs M2 r => ?_
      exact ⟨_, _, rfl, by show R (acc ++ (ys ++ zs)) M2; rw [← List.append_assoc]; exact r⟩
    | false =>
      rw [if_neg Bool.false_ne_true] at q ⊢
      exact compLt_ok (fun i => J (i + 1)) q (fun i x acc M hx hi => hs (i + 1) x acc M hx hi) fun acc M h => hn acc M h
/-- the tape of drawn numbers -/
def TpOk (c : Cell) : Prop := ∃ (s : List Int) (p : Nat) (z mx : Int), c = .lst [.list (s.map .int), .int p, .int z, .int mx] ∧ 0 ≤ z
end Ev
set_option Elab.async false
set_option linter.all false
set_option maxRecDepth 100000
/-! Pe: the evaluator's equations, as rules that rewriting proves step by step -/
namespace Ev
open PySem
theorem nr {α : Sort _} {a b : α} (h : a = b) : a = b := h
section
variable {C : Cfg} {e : Env} {M : Store} {md : Md} {op op2 : BOp} {cp cp2 : COp} {a b c i o k v : CE} {lo hi : CO} {es : CEs} {t t1 : CB} {f n : Nat} {tg tg1 : CT} {it it1 : CI} {cd cd1 : CC} {own own1 : List Nat}
@[simp] theorem E_var : evE C (.var n) e M = withO (e[n]?.bind id) fun w => .ok w M := by
  unfold evE
  rcases h : e[n]? with _ | (_ | w) <;> rfl
@[simp] theorem E_cst {x : D} : evE C (.cst x) e M = .ok (.d x) M := nr rfl
@[simp] theorem E_glob : evE C (.glob n) e M = withO C.G[n]? fun v => .ok (gW v) M := nr rfl
@[simp] theorem E_bin : evE C (.bin md op a b) e M = (evE C a e M).bind fun x M1 => (evE C b e M1).bind fun y M2 => binW md op x y M2 := nr rfl
def negW (w : W) (M : Store) : Res W := match w with
  | .d (.int i) => .ok (.d (.int (-i))) M
  | _ => .stuck
@[simp] theorem negW_int {j : Int} : negW (.d (.int j)) M = .ok (.d (.int (-j))) M := nr rfl
@[simp] theorem E_neg : evE C (.neg a) e M = (evE C a e M).bind negW := nr rfl
@[simp] theorem E_cmp : evE C (.cmp cp a b) e M = (evE C a e M).bind fun x M1 => (evE C b e M1).bind fun y M2 => withO (cmpW cp x y M2) fun t => boolR t M2 := nr rfl
@[simp] theorem E_isN : evE C (.isN a) e M = (evE C a e M).bind fun x M1 => withO (isNW x M1) fun t => boolR t M1 := nr rfl
@[simp] theorem E_notN : evE C (.notN a) e M = (evE C a e M).bind fun x M1 => withO (isNW x M1) fun t => boolR (!t) M1 := nr rfl
/-- branches wait until the test is told -/
def iteS (b : Bool) (f g : Env → Store → Res Fl) (e : Env) (M : Store) : Res Fl := if b = true then f e M else g e M
def iteE (b : Bool) (f g : Env → Store → Res W) (e : Env) (M : Store) : Res W := if b = true then f e M else g e M
def andB (b : Bool) (g : Env → Store → Res Bool) (e : Env) (M : Store) : Res Bool := if b = true then g e M else .ok false M
def orB (b : Bool) (g : Env → Store → Res Bool) (e : Env) (M : Store) : Res Bool := if b = true then .ok true M else g e M
def andV (w : W) (g : Env → Store → Res W) (e : Env) (M : Store) : Res W := match w with
  | .d (.bool t) => if t = true then g e M else boolR false M
  | _ => .stuck
def orV (w : W) (g : Env → Store → Res W) (e : Env) (M : Store) : Res W := match w with
  | .d (.bool t) => if t = true then boolR true M else g e M
  | _ => .stuck
def notV (w : W) (M : Store) : Res W := match w with
  | .d (.bool t) => boolR (!t) M
  | _ => .stuck
def chE (t : Bool) (g : Env → Store → Res W) (cp2 : COp) (y : W) (e : Env) (M : Store) : Res W := if t = true then (g e M).bind fun z M3 => withO (cmpW cp2 y z M3) fun u => boolR u M3 else boolR false M
def chB (t : Bool) (g : Env → Store → Res W) (cp2 : COp) (y : W) (e : Env) (M : Store) : Res Bool := if t = true then (g e M).bind fun z M3 => withO (cmpW cp2 y z M3) fun u => .ok u M3 else .ok false M
section
variable {sf sg : Env → Store → Res Fl} {wf wg : Env → Store → Res W} {bg : Env → Store → Res Bool} {y : W}
@[simp] theorem iteS_t : iteS true sf sg e M = sf e M := nr rfl
@[simp] theorem iteS_f : iteS false sf sg e M = sg e M := nr rfl
@[simp] theorem iteE_t : iteE true wf wg e M = wf e M := nr rfl
@[simp] theorem iteE_f : iteE false wf wg e M = wg e M := nr rfl
@[simp] theorem andB_t : andB true bg e M = bg e M := nr rfl
@[simp] theorem andB_f : andB false bg e M = .ok false M := nr rfl
@[simp] theorem orB_t : orB true bg e M = .ok true M := nr rfl
@[simp] theorem orB_f : orB false bg e M = bg e M := nr rfl
@[simp] theorem andV_t : andV (.d (.bool true)) wf e M = wf e M := nr rfl
@[simp] theorem andV_f : andV (.d (.bool false)) wf e M = boolR false M := nr rfl
@[simp] theorem orV_t : orV (.d (.bool true)) wf e M = boolR true M := nr rfl
@[simp] theorem orV_f : orV (.d (.bool false)) wf e M = wf e M := nr rfl
@[simp] theorem notV_b {t : Bool} : notV (.d (.bool t)) M = boolR (!t) M := nr rfl
@[simp] theorem chE_t : chE true wf cp2 y e M = (wf e M).bind fun z M3 => withO (cmpW cp2 y z M3) fun u => boolR u M3 := nr rfl
@[simp] theorem chE_f : chE false wf cp2 y e M = boolR false M := nr rfl
@[simp] theorem chB_t : chB true wf cp2 y e M = (wf e M).bind fun z M3 => withO (cmpW cp2 y z M3) fun u => .ok u M3 := nr rfl
@[simp] theorem chB_f : chB false wf cp2 y e M = .ok false M := nr rfl
end
@[simp] theorem E_chain : evE C (.chain cp cp2 a b c) e M = (evE C a e M).bind fun x M1 => (evE C b e M1).bind fun y M2 => withO (cmpW cp x y M2) fun t => chE t (evE C c) cp2 y e M2 := nr rfl
@[simp] theorem E_andV : evE C (.andV a b) e M = (evE C a e M).bind fun x M1 => andV x (evE C b) e M1 := nr rfl
@[simp] theorem E_orV : evE C (.orV a b) e M = (evE C a e M).bind fun x M1 => orV x (evE C b) e M1 := nr rfl
@[simp] theorem E_notV : evE C (.notV a) e M = (evE C a e M).bind notV := nr rfl
@[simp] theorem E_ite : evE C (.ite t a b) e M = (evB C t e M).bind fun k M1 => iteE k (evE C a) (evE C b) e M1 := nr rfl
@[simp] theorem E_tup : evE C (.tup es) e M = (evEs C es e M).bind fun ws M1 => withO (frzs ws M1) fun p => lim p.1.length (.ok (.d (.tuple p.1)) p.2) := nr rfl
@[simp] theorem E_lst : evE C (.lst md es) e M = (evEs C es e M).bind fun ws M1 => lstW md ws M1 := nr rfl
@[simp] theorem lstW_F {ws : List W} : lstW .F ws M = withO (frzs ws M) fun p => lim p.1.length (mk .F p.1 p.2) := nr rfl
@[simp] theorem lstW_M {ws : List W} : lstW .M ws M = withO (frzs ws M) fun p => lim p.1.length (mk .M p.1 p.2) := nr rfl
@[simp] theorem lstW_N {ws : List W} : lstW .N ws M = must (ws.all noS = true) (lim ws.length (.ok (.r M.length) (M ++ [.wl ws]))) := nr rfl
@[simp] theorem gW_i {j : Int} : gW (.int j) = .d (.int j) := nr rfl
@[simp] theorem gW_s {z : Str} : gW (.str z) = .d (.str z) := nr rfl
@[simp] theorem gW_t {xs : List D} : gW (.tuple xs) = .g xs := nr rfl
@[simp] theorem gW_n : gW .none = .d .none := nr rfl
@[simp] theorem gW_b {z : Bool} : gW (.bool z) = .d (.bool z) := nr rfl
variable {ks : List Key}
@[simp] theorem E_ddisp : evE C (.ddisp md ks es) e M = (nox (evEs C es e M)).bind fun ws M1 => dispW md ks ws M.length M1 := nr rfl
@[simp] theorem dispN {ws : List W} : dispW .N ks ws n M = must (ws.all noS = true) (withO (zipK ks ws) fun kvs => .ok (.r M.length) (M ++ [.wK (dispG kvs)])) := nr rfl
@[simp] theorem dispF {ws : List W} : dispW .F ks ws n M = withO (frzs ws M) fun p => withO (zipK ks p.1) fun kvs => .ok (.r n) (p.2.take n ++ [.dK (dispG kvs)]) := nr rfl
/-- what the display's dict has -/
def dsubK (kvs : List (Key × D)) (w : W) (M : Store) : Res W := match w with
  | .d k => withO ((keyOf k).bind fun k => valD (dispG kvs) k) fun x => .ok (.d x) M
  | _ => .stuck
def dgetK (kvs : List (Key × D)) (w d : W) (M : Store) : Res W := match w with
  | .d k => withO (keyOf k) fun k => .ok (((valD (dispG kvs) k).map .d).getD d) M
  | _ => .stuck
@[simp] theorem E_dsub : evE C (.dsub ks es i) e M = (nox (evEs C es e M)).bind fun ws M1 => withO (frzs ws M1) fun p => withO (zipK ks p.1) fun kvs => (evE C i e p.2).bind (dsubK kvs) := nr rfl
@[simp] theorem E_dgetd : evE C (.dgetd ks es i a) e M = (nox (evEs C es e M)).bind fun ws M1 => withO (frzs ws M1) fun p => withO (zipK ks p.1) fun kvs => (evE C i e p.2).bind fun y M2 => (evE C a e M2).bind fun d M3 => dgetK kvs y d M3 := nr rfl
def kgetK (G : List (List (Str × D))) (j : Nat) (w : W) (M : Store) : Res W := match w with
  | .d k => withO ((kTab G j k).bind id) fun y => .ok (gW y) M
  | _ => .stuck
def kinK (G : List (List (Str × D))) (neg : Bool) (j : Nat) (w : W) (M : Store) : Res W := match w with
  | .d k => withO (kTab G j k) fun o => boolR (o.isSome != neg) M
  | _ => .stuck
def kinB (G : List (List (Str × D))) (neg : Bool) (j : Nat) (w : W) (M : Store) : Res Bool := match w with
  | .d k => withO (kTab G j k) fun o => .ok (o.isSome != neg) M
  | _ => .stuck
@[simp] theorem E_kget : evE C (.kget n a) e M = (evE C a e M).bind (kgetK C.GD.gd n) := nr rfl
@[simp] theorem E_kin {neg : Bool} : evE C (.kin neg a n) e M = (evE C a e M).bind (kinK C.GD.gd neg n) := nr rfl
@[simp] theorem B_kin {neg : Bool} : evB C (.kin neg a n) e M = (evE C a e M).bind (kinB C.GD.gd neg n) := nr rfl
@[simp] theorem kgetK_s {G : List (List (Str × D))} {j : Nat} {z : Str} : kgetK G j (.d (.str z)) M = withO ((kTab G j (.str z)).bind id) fun y => .ok (gW y) M := nr rfl
@[simp] theorem kinK_s {G : List (List (Str × D))} {neg : Bool} {j : Nat} {z : Str} : kinK G neg j (.d (.str z)) M = withO (kTab G j (.str z)) fun o => boolR (o.isSome != neg) M := nr rfl
@[simp] theorem kinB_s {G : List (List (Str × D))} {neg : Bool} {j : Nat} {z : Str} : kinB G neg j (.d (.str z)) M = withO (kTab G j (.str z)) fun o => .ok (o.isSome != neg) M := nr rfl
def fmtK (w : W) (M : Store) : Res W := match w with
  | .d (.str y) => lim y.length (.ok (.d (.str y)) M)
  | .d (.int i) => must (i.natAbs.log2 < 1920) (.ok (.d (.str (strI i))) M)
  | _ => .stuck
@[simp] theorem E_fmt : evE C (.fmt a) e M = (evE C a e M).bind fmtK := nr rfl
@[simp] theorem fmtK_s {z : Str} : fmtK (.d (.str z)) M = lim z.length (.ok (.d (.str z)) M) := nr rfl
@[simp] theorem fmtK_i {j : Int} : fmtK (.d (.int j)) M = must (j.natAbs.log2 < 1920) (.ok (.d (.str (strI j))) M) := nr rfl
@[simp] theorem E_fstr : evE C (.fstr es) e M = (nox (evEs C es e M)).bind fun ws M1 => withO (catS ws Str.empty) fun x => lim x.length (.ok (.d (.str x)) M1) := nr rfl
@[simp] theorem E_lockE : evE C (.lockE a b) e M = withO ((oneOf (evE C a e M)).bind fun w => lockAt w M) fun p => (nox (evE C b e p.2)).bind fun w M1 => withO (unlockAt p.1 M1) fun M2 => .ok w M2 := nr rfl
@[simp] theorem E_compN : evE C (.compN own tg it cd a) e M = (evI C it e M).bind fun j M1 => (nox (compI C.F tg (evC C cd) (fun e1 M2 => oneW (evE C a e1 M2)) (wipeE e own) j M1)).bind fun ws M2 => lim ws.length (.ok (.r M2.length) (M2 ++ [.wl ws])) := nr rfl
def keysK (w : W) (M : Store) : Res Its := match w with
  | .r n => withO (lkKeys M n) fun _ => .ok (.keys n) M
  | _ => .stuck
@[simp] theorem keysK_r : keysK (.r n) M = withO (lkKeys M n) fun _ => .ok (.keys n) M := nr rfl
@[simp] theorem I_keys : evI C (.keys a) e M = (evE C a e M).bind keysK := nr rfl
@[simp] theorem oneOf_ok {α : Type} {x : α} : oneOf (.ok x M) = some x := nr rfl
@[simp] theorem E_sub : evE C (.sub a i) e M = (evE C a e M).bind fun x M1 => (evE C i e M1).bind fun y M2 => withO (subW x y M2) fun z => .ok z M2 := nr rfl
@[simp] theorem E_slc : evE C (.slc md a lo hi) e M = (evE C a e M).bind fun x M1 => (evO C lo e M1).bind fun l M2 => (evO C hi e M2).bind fun h M3 => slcW md x l h M3 := nr rfl
@[simp] theorem E_call : evE C (.call f es) e M = (evEs C es e M).bind fun ws M1 => C.call f ws M1 := nr rfl
@[simp] theorem E_blt {id : Blt} : evE C (.blt id md es) e M = (evEs C es e M).bind fun ws M1 => bltW id md ws M1 := nr rfl
@[simp] theorem E_isi {ty : Ty} : evE C (.isi a ty) e M = (evE C a e M).bind fun x M1 => withO (isiW x ty M1) fun b => boolR b M1 := nr rfl
@[simp] theorem E_mth {id : Mth} : evE C (.mth id o es) e M = (evE C o e M).bind fun x M1 => must (mTy id x M1 = true) ((evEs C es e M1).bind fun ws M2 => mthW id x ws M2) := nr rfl
@[simp] theorem E_comp : evE C (.comp md own tg it cd a) e M = (evI C it e M).bind fun j M1 => (nox (compI C.F tg (evC C cd) (fun e1 M2 => oneD (evE C a e1 M2)) (wipeE e own) j M1)).bind fun xs M2 => lim xs.length (mk md xs (M2.take M1.length)) := nr rfl
@[simp] theorem E_comp2 : evE C (.comp2 md own own1 tg it cd tg1 it1 cd1 a) e M = (evI C it e M).bind fun j M1 => (nox (compI C.F tg (evC C cd) (fun e1 M2 => (evI C it1 e1 M2).bind fun j1 M3 =>
      compI C.F tg1 (evC C cd1) (fun e2 M4 => oneD (evE C a e2 M4)) (wipeE e1 own1) j1 M3) (wipeE e own) j M1)).bind fun xs M2 => lim xs.length (mk md xs (M2.take M1.length)) := nr rfl
@[simp] theorem E_dnewK : evE C (.dnew false) e M = .ok (.r M.length) (M ++ [.dK []]) := nr rfl
@[simp] theorem E_dnewT : evE C (.dnew true) e M = .ok (.r M.length) (M ++ [.dT []]) := nr rfl
@[simp] theorem E_dcomp : evE C (.dcomp own tg it cd k v) e M = (evI C it e M).bind fun j M1 => (nox (compI C.F tg (evC C cd) (fun e1 M2 => pairD (evE C k e1 M2) (evE C v e1)) (wipeE e own) j M1)).bind fun xs M2 => withO (dictG [] xs) fun kvs => lim xs.length (.ok (.r M1.length) (M2.take M1.length ++ [.dK kvs])) := nr rfl
def intK (w : W) (f : Int → Res (Option Int)) : Res (Option Int) := match w with
  | .d (.int i) => f i
  | _ => .stuck
@[simp] theorem intK_i {j : Int} {f : Int → Res (Option Int)} : intK (.d (.int j)) f = f j := nr rfl
@[simp] theorem O_no : evO C .no e M = .ok none M := nr rfl
@[simp] theorem O_so : evO C (.so a) e M = (evE C a e M).bind fun x M1 => intK x fun i => .ok (some i) M1 := nr rfl
@[simp] theorem C_no : evC C .no e M = .ok true M := nr rfl
@[simp] theorem C_so : evC C (.so t) e M = evB C t e M := nr rfl
@[simp] theorem Es_nil : evEs C .nil e M = .ok [] M := nr rfl
@[simp] theorem Es_cons : evEs C (.cons a es) e M = (evE C a e M).bind fun w M1 => (evEs C es e M1).bind fun ws M2 => .ok (w :: ws) M2 := nr rfl
@[simp] theorem B_and : evB C (.and t t1) e M = (evB C t e M).bind fun k M1 => andB k (evB C t1) e M1 := nr rfl
@[simp] theorem B_or : evB C (.or t t1) e M = (evB C t e M).bind fun k M1 => orB k (evB C t1) e M1 := nr rfl
@[simp] theorem B_not : evB C (.not t) e M = (evB C t e M).bind fun k M1 => .ok (!k) M1 := nr rfl
@[simp] theorem B_tru : evB C (.tru a) e M = (evE C a e M).bind fun w M1 => withO (truW w M1) fun b => .ok b M1 := nr rfl
@[simp] theorem B_cmp : evB C (.cmp cp a b) e M = (evE C a e M).bind fun x M1 => (evE C b e M1).bind fun y M2 => withO (cmpW cp x y M2) fun t => .ok t M2 := nr rfl
@[simp] theorem B_isN : evB C (.isN a) e M = (evE C a e M).bind fun x M1 => withO (isNW x M1) fun t => .ok t M1 := nr rfl
@[simp] theorem B_notN : evB C (.notN a) e M = (evE C a e M).bind fun x M1 => withO (isNW x M1) fun t => .ok (!t) M1 := nr rfl
@[simp] theorem B_chain : evB C (.chain cp cp2 a b c) e M = (evE C a e M).bind fun x M1 => (evE C b e M1).bind fun y M2 => withO (cmpW cp x y M2) fun t => chB t (evE C c) cp2 y e M2 := nr rfl
def rngK (w : W) (M : Store) : Res Its := match w with
  | .d (.int n) => must (-(2 ^ 62) ≤ n ∧ n < 2 ^ 62) (.ok (.items (range0 n)) M)
  | _ => .stuck
theorem rngK_i {j : Int} (h : 0 ≤ j) (h2 : j ≤ 1000000) : rngK (.d (.int j)) M = .ok (.items (range0 j)) M := by
  show must (-(2 ^ 62) ≤ j ∧ j < 2 ^ 62) _ = _
  unfold must
  rw [if_pos (by constructor <;> omega)]
def enumK (w : W) (M : Store) : Res Its := match w with
  | .d (.list xs) => .ok (.items (enumD xs 0)) M
  | .d (.tuple xs) => .ok (.items (enumD xs 0)) M
  | .r n => withO (cellWs M n) fun _ => .ok (.cell true n) M
  | _ => .stuck
@[simp] theorem enumK_r : enumK (.r n) M = withO (cellWs M n) fun _ => .ok (.cell true n) M := nr rfl
@[simp] theorem enumK_l {xs : List D} : enumK (.d (.list xs)) M = .ok (.items (enumD xs 0)) M := nr rfl
@[simp] theorem enumK_t {xs : List D} : enumK (.d (.tuple xs)) M = .ok (.items (enumD xs 0)) M := nr rfl
@[simp] theorem I_ex : evI C (.ex a) e M = (evE C a e M).bind fun w M1 => withO (itsW w M1) fun j => .ok j M1 := nr rfl
@[simp] theorem I_rng1 : evI C (.rng1 a) e M = (evE C a e M).bind rngK := nr rfl
def enumTK (w : W) (M : Store) : Res Its := match w with
  | .d (.tuple xs) => .ok (.items (enumD xs 0)) M
  | _ => .stuck
@[simp] theorem enumTK_t {xs : List D} : enumTK (.d (.tuple xs)) M = .ok (.items (enumD xs 0)) M := nr rfl
@[simp] theorem I_enumT : evI C (.enumT a) e M = (evE C a e M).bind enumTK := nr rfl
@[simp] theorem I_enum : evI C (.enum a) e M = (evE C a e M).bind enumK := nr rfl
variable {s : CS} {r bd bd1 : CSs} {ix : List Nat}
@[simp] theorem S_set : evS C (.set tg a) e M = (evE C a e M).bind fun w M1 => withO (asgT tg w e) fun e1 => .ok (.nx e1) M1 := nr rfl
@[simp] theorem S_par : evS C (.par ix es) e M = (evEs C es e M).bind fun ws M1 => .ok (.nx (setAll ix ws e)) M1 := nr rfl
@[simp] theorem S_setI : evS C (.setI o i a) e M = (evE C a e M).bind fun w M1 => (evE C o e M1).bind fun x M2 => (evE C i e M2).bind fun y M3 => withO (frzW w M3) fun p => (setW x y p.1 p.2).bind fun _ M4 => .ok (.nx e) M4 := nr rfl
@[simp] theorem S_expr : evS C (.expr a) e M = (evE C a e M).bind fun _ M1 => .ok (.nx e) M1 := nr rfl
@[simp] theorem S_ret : evS C (.ret a) e M = (evE C a e M).bind fun w M1 => .ok (.rt w) M1 := nr rfl
@[simp] theorem S_retN : evS C .retN e M = .ok (.rt (.d .none)) M := nr rfl
@[simp] theorem S_ifs : evS C (.ifs t bd bd1) e M = (evB C t e M).bind fun k M1 => iteS k (evSs C bd) (evSs C bd1) e M1 := nr rfl
@[simp] theorem S_for : evS C (.forS tg it bd) e M = (evI C it e M).bind fun j M1 => forI C.F tg (evSs C bd) j e M1 := nr rfl
@[simp] theorem S_whl : evS C (.whl t bd) e M = whileW (evB C t) (evSs C bd) C.F e M := nr rfl
@[simp] theorem S_lockS : evS C (.lockS a s) e M = withO ((oneOf (evE C a e M)).bind fun w => lockAt w M) fun p => (nox (evS C s e p.2)).bind fun f M1 => withO (unlockAt p.1 M1) fun M2 => .ok f M2 := nr rfl
@[simp] theorem S_pass : evS C .pass e M = .ok (.nx e) M := nr rfl
@[simp] theorem S_brk : evS C .brk e M = .ok (.bk e) M := nr rfl
@[simp] theorem S_cont : evS C .cont e M = .ok (.ct e) M := nr rfl
/-- behind a statement -/
def thenK (f : Fl) (M : Store) (g : Env → Store → Res Fl) : Res Fl := match f with
  | .nx e => g e M
  | f => .ok f M
@[simp] theorem thenK_n {g : Env → Store → Res Fl} : thenK (.nx e) M g = g e M := nr rfl
@[simp] theorem thenK_r {w : W} {g : Env → Store → Res Fl} : thenK (.rt w) M g = .ok (.rt w) M := nr rfl
@[simp] theorem thenK_b {g : Env → Store → Res Fl} : thenK (.bk e) M g = .ok (.bk e) M := nr rfl
@[simp] theorem thenK_c {g : Env → Store → Res Fl} : thenK (.ct e) M g = .ok (.ct e) M := nr rfl
@[simp] theorem Ss_nil : evSs C .nil e M = .ok (.nx e) M := nr rfl
@[simp] theorem Ss_cons : evSs C (.cons s r) e M = (evS C s e M).bind fun f M1 => thenK f M1 (evSs C r) := nr rfl
@[simp] theorem I_forI {F : Nat} {body : Env → Store → Res Fl} {xs : List D} : forI F tg body (.items xs) e M = forL tg body xs e M := nr rfl
@[simp] theorem I_compI {F : Nat} {c : Env → Store → Res Bool} {inner : Env → Store → Res (List D)} {xs : List D} : compI F tg c inner e (.items xs) M = compL tg c inner e xs M := nr rfl
@[simp] theorem b_ok {α β : Type} {x : α} {f : α → Store → Res β} : (Res.ok x M).bind f = f x M := nr rfl
@[simp] theorem w_ok {α β : Type} {x : α} {f : α → Res β} : withO (some x) f = f x := nr rfl
theorem b_assoc {α β γ : Type} {r : Res α} {f : α → Store → Res β} {g : β → Store → Res γ} : (r.bind f).bind g = r.bind fun a M => (f a M).bind g := Res.bind_assoc r f g
theorem if_bind {α β : Type} {p : Prop} [Decidable p] {x y : Res α} {f : α → Store → Res β} : (if p then x else y).bind f = if p then x.bind f else y.bind f := by split <;> rfl
theorem lim_bind {α β : Type} {n : Nat} {x : Res α} {f : α → Store → Res β} (h : n ≤ sizeLine) : (lim n x).bind f = x.bind f := by unfold lim; rw [if_pos h]
theorem lim_ok {α : Type} {n : Nat} {x : Res α} (h : n ≤ 16777216) : lim n x = x := by unfold lim; rw [if_pos (by rw [sizeLine_eq]; exact h)]
theorem must_ok {α : Type} {p : Prop} [Decidable p] {x : Res α} (h : p) : must p x = x := by unfold must; rw [if_pos h]
section
variable {α β : Type} {T : Tabs} {x : Exn} {c : Str} {z : D}
@[simp] theorem E_exIs : evE C (.exIs a c) e M = (evE C a e M).bind fun w M1 => isX C.GD w c M1 := nr rfl
@[simp] theorem E_exFld : evE C (.exFld a c) e M = (evE C a e M).bind fun w M1 => fldX C.GD w c M1 := nr rfl
@[simp] theorem isX_x : isX T (.x x) c M = must (exKnown T x.cls = true) (boolR (exSub x.cls c) M) := nr rfl
@[simp] theorem fldX_x : fldX T (.x x) c M = must (exKnown T x.cls = true) (withO (x.args.lookup c) fun y => .ok (.d y) M) := nr rfl
@[simp] theorem S_raise : evS C (.raise c es) e M = (evEs C es e M).bind fun ws M1 => raiseX C.GD c ws M1 := nr rfl
@[simp] theorem S_tryS : evS C (.tryS n c bd bd1) e M = tryX C.GD c e.length n (evSs C bd e M) (evSs C bd1) := nr rfl
@[simp] theorem tryX_ok {j k : Nat} {f : Fl} {g : Env → Store → Res Fl} : tryX T c j k (.ok f M) g = .ok f M := nr rfl
@[simp] theorem tryX_exn {j k : Nat} {g : Env → Store → Res Fl} : tryX T c j k (.exn x M) g = must (exKnown T x.cls = true) (if exSub x.cls c = true then (nox (g ((List.replicate j none).set k (some (.x x))) M)).bind tryEnd else .exn x M) := nr rfl
@[simp] theorem tryEnd_d : tryEnd (.rt (.d z)) M = .ok (.rt (.d z)) M := nr rfl
@[simp] theorem b_exn {f : α → Store → Res β} : (Res.exn x M : Res α).bind f = .exn x M := nr rfl
@[simp] theorem nox_k {y : α} : nox (.ok y M) = .ok y M := nr rfl
@[simp] theorem nox_b {r : Res α} {f : α → Store → Res β} : nox (r.bind f) = (nox r).bind fun y M1 => nox (f y M1) := by cases r <;> rfl
@[simp] theorem nox_w {o : Option α} {f : α → Res β} : nox (withO o f) = withO o fun y => nox (f y) := by cases o <;> rfl
@[simp] theorem nox_l {j : Nat} {r : Res α} : nox (lim j r) = lim j (nox r) := by unfold lim; split <;> rfl
@[simp] theorem nox_m {p : Prop} [Decidable p] {r : Res α} : nox (must p r) = must p (nox r) := by unfold must; split <;> rfl
@[simp] theorem nox_n {r : Res α} : nox (nox r) = nox r := by cases r <;> rfl
end
end
end Ev
set_option Elab.async false
set_option linter.all false
set_option maxRecDepth 100000
/-! Pm: one step of the evaluator, as rewriting rules -/
namespace Ev
open PySem
section
variable {M : Store} {R : Store} {xs ys : List D} {i j k : Int} {b : Bool} {x y : D} {s t : Str} {md : Md}
@[simp] theorem e_subT : subW (.d (.tuple xs)) (.d (.int k)) M = (L2.atI xs k).map .d := nr rfl
@[simp] theorem e_subL : subW (.d (.list xs)) (.d (.int k)) M = (L2.atI xs k).map .d := nr rfl
@[simp] theorem e_subR0 : subW (.r 0) (.d (.int k)) (.lst xs :: R) = (L2.atI xs k).map .d := nr rfl
@[simp] theorem e_subR1 {c : Cell} : subW (.r 1) (.d (.int k)) (c :: .lst xs :: R) = (L2.atI xs k).map .d := nr rfl
@[simp] theorem e_subR2 {c c1 : Cell} : subW (.r 2) (.d (.int k)) (c :: c1 :: .lst xs :: R) = (L2.atI xs k).map .d := nr rfl
@[simp] theorem e_eqI : cmpW .eq (.d (.int i)) (.d (.int j)) M = some (decide (i = j)) := nr rfl
@[simp] theorem e_neI : cmpW .ne (.d (.int i)) (.d (.int j)) M = some (!decide (i = j)) := nr rfl
@[simp] theorem e_ltI : cmpW .lt (.d (.int i)) (.d (.int j)) M = some (decide (i < j)) := nr rfl
@[simp] theorem e_leI : cmpW .le (.d (.int i)) (.d (.int j)) M = some (decide (i ≤ j)) := nr rfl
@[simp] theorem e_gtI : cmpW .gt (.d (.int i)) (.d (.int j)) M = some (decide (j < i)) := nr rfl
@[simp] theorem e_geI : cmpW .ge (.d (.int i)) (.d (.int j)) M = some (decide (j ≤ i)) := nr rfl
@[simp] theorem e_eqS : cmpW .eq (.d (.str s)) (.d (.str t)) M = some (decide (s = t)) := by
  show (some (PyData.eqv (.str s) (.str t)) : Option Bool) = _
  refine congrArg some ?_
  rw [Bool.eq_iff_iff]
  simp [PyData.eqv]
@[simp] theorem e_neS : cmpW .ne (.d (.str s)) (.d (.str t)) M = some (!decide (s = t)) := by
  show (some (!PyData.eqv (.str s) (.str t)) : Option Bool) = _
  refine congrArg (fun z => some (!z)) ?_
  rw [Bool.eq_iff_iff]
  simp [PyData.eqv]
@[simp] theorem e_add : binW md .add (.d (.int i)) (.d (.int j)) M = .ok (.d (.int (i + j))) M := nr rfl
@[simp] theorem e_sub : binW md .sub (.d (.int i)) (.d (.int j)) M = .ok (.d (.int (i - j))) M := nr rfl
theorem e_mul (h : -18446744073709551616 < j ∧ j < 18446744073709551616) : binW md .mul (.d (.int i)) (.d (.int j)) M = .ok (.d (.int (i * j))) M := if_pos (.inr h)
theorem e_mulL (h : -18446744073709551616 < i ∧ i < 18446744073709551616) : binW md .mul (.d (.int i)) (.d (.int j)) M = .ok (.d (.int (i * j))) M := if_pos (.inl h)
theorem e_mod (h : 0 < j) : binW md .mod (.d (.int i)) (.d (.int j)) M = .ok (.d (.int (i % j))) M := if_pos h
theorem e_fdiv (h : 0 < j) (h2 : j < 18446744073709551616) : binW md .fdiv (.d (.int i)) (.d (.int j)) M = .ok (.d (.int (i / j))) M := if_pos ⟨h, h2⟩
theorem e_pow {n : Nat} (h : (n : Int) ≤ 1000000) (hi : i.natAbs < 18446744073709551616) : binW md .pow (.d (.int i)) (.d (.int n)) M = .ok (.d (.int (i ^ n))) M := if_pos ⟨Int.natCast_nonneg n, h, hi⟩
@[simp] theorem e_pow18 : binW md .pow (.d (.int 10)) (.d (.int 18)) M = .ok (.d (.int 1000000000000000000)) M := by
  have h : (0 : Int) ≤ 18 ∧ (18 : Int) ≤ 1000000 ∧ (10 : Int).natAbs < 18446744073709551616 := by decide
  show must ((0 : Int) ≤ 18 ∧ (18 : Int) ≤ 1000000 ∧ (10 : Int).natAbs < 18446744073709551616) _ = _
  unfold must
  rw [if_pos h]
  rfl
@[simp] theorem e_addT : binW md .add (.d (.tuple xs)) (.d (.tuple ys)) M = lim (xs.length + ys.length) (.ok (.d (.tuple (xs ++ ys))) M) := nr rfl
@[simp] theorem e_addLL : binW md .add (.d (.list xs)) (.d (.list ys)) M = lim (xs.length + ys.length) (mk md (xs ++ ys) M) := nr rfl
@[simp] theorem e_mkF : mk .F xs M = .ok (.d (.list xs)) M := nr rfl
@[simp] theorem e_mkM : mk .M xs M = .ok (.r M.length) (M ++ [.lst xs]) := nr rfl
@[simp] theorem e_lenT : bltW .len md [.d (.tuple xs)] M = .ok (.d (.int (xs.length : Nat))) M := nr rfl
@[simp] theorem e_lenL : bltW .len md [.d (.list xs)] M = .ok (.d (.int (xs.length : Nat))) M := nr rfl
@[simp] theorem e_int : bltW .int md [.d (.int i)] M = .ok (.d (.int i)) M := nr rfl
@[simp] theorem e_abs : bltW .abs md [.d (.int i)] M = .ok (.d (.int (if i < 0 then -i else i))) M := nr rfl
@[simp] theorem e_max2 : bltW .max2 md [.d (.int i), .d (.int j)] M = .ok (.d (.int (if j > i then j else i))) M := nr rfl
@[simp] theorem e_min2 : bltW .min2 md [.d (.int i), .d (.int j)] M = .ok (.d (.int (if j < i then j else i))) M := nr rfl
@[simp] theorem e_listL : bltW .list md [.d (.list xs)] M = mk md xs M := nr rfl
@[simp] theorem e_listT : bltW .list md [.d (.tuple xs)] M = mk md xs M := nr rfl
@[simp] theorem e_listS : bltW .list md [.s xs] M = mk md xs M := nr rfl
@[simp] theorem e_tupleL : bltW .tuple md [.d (.list xs)] M = .ok (.d (.tuple xs)) M := nr rfl
@[simp] theorem e_tupleT : bltW .tuple md [.d (.tuple xs)] M = .ok (.d (.tuple xs)) M := nr rfl
@[simp] theorem e_slcT {lo hi : Option Int} : slcW md (.d (.tuple xs)) lo hi M = .ok (.d (.tuple (cutD xs lo hi))) M := nr rfl
@[simp] theorem e_slcL {lo hi : Option Int} : slcW md (.d (.list xs)) lo hi M = mk md (cutD xs lo hi) M := nr rfl
@[simp] theorem e_truT : truW (.d (.tuple xs)) M = some (!xs.isEmpty) := nr rfl
@[simp] theorem e_truL : truW (.d (.list xs)) M = some (!xs.isEmpty) := nr rfl
@[simp] theorem e_truB : truW (.d (.bool b)) M = some b := nr rfl
@[simp] theorem e_isNN : isNW (.d .none) M = some true := nr rfl
@[simp] theorem e_isNI : isNW (.d (.int i)) M = some false := nr rfl
@[simp] theorem e_isNB : isNW (.d (.bool b)) M = some false := nr rfl
@[simp] theorem e_isNS : isNW (.d (.str s)) M = some false := nr rfl
@[simp] theorem e_isNT : isNW (.d (.tuple xs)) M = some false := nr rfl
@[simp] theorem e_isNL : isNW (.d (.list xs)) M = some false := nr rfl
@[simp] theorem e_setR0 : setW (.r 0) (.d (.int k)) y (.lst xs :: R) = withO (L2.ixN xs.length k) fun j => .ok () (.lst (xs.set j y) :: R) := nr rfl
@[simp] theorem e_frzD : frzW (.d x) M = some (x, M) := nr rfl
@[simp] theorem e_frzs0 : frzs [] M = some ([], M) := nr rfl
@[simp] theorem e_frzsD {ws : List W} : frzs (.d x :: ws) M = (frzs ws M).map fun q => (x :: q.1, q.2) := by
  show ((frzW (.d x) M).bind fun p => (frzs ws p.2).bind fun q => some (p.1 :: q.1, q.2)) = _
  rw [e_frzD, Option.bind_some]
  cases frzs ws M <;> rfl
@[simp] theorem e_asgN {i : Nat} {w : W} {e : Env} : asgT (.name i) w e = some (e.set i (some w)) := nr rfl
@[simp] theorem e_asgT {ts : CTs} {e : Env} : asgT (.tup ts) (.d (.tuple xs)) e = asgTs ts xs e := nr rfl
@[simp] theorem e_asgs0 {e : Env} : asgTs .nil [] e = some e := nr rfl
@[simp] theorem e_asgs1 {t : CT} {r : CTs} {e : Env} : asgTs (.cons t r) (x :: xs) e = (asgT t (.d x) e).bind fun e' => asgTs r xs e' := nr rfl
@[simp] theorem e_leaveD {n : Nat} : leave md n (.rt (.d x)) M = .ok (.d x) (M.take n) := by cases md <;> rfl
@[simp] theorem e_leaveN {n : Nat} {e : Env} : leave md n (.nx e) M = .ok (.d .none) (M.take n) := by cases md <;> rfl
@[simp] theorem e_afterN {e : Env} {f : Env → Store → Res Fl} : after (.ok (.nx e) M) f = f e M := nr rfl
@[simp] theorem e_afterC {e : Env} {f : Env → Store → Res Fl} : after (.ok (.ct e) M) f = f e M := nr rfl
@[simp] theorem e_afterB {e : Env} {f : Env → Store → Res Fl} : after (.ok (.bk e) M) f = .ok (.nx e) M := nr rfl
@[simp] theorem e_afterR {w : W} {f : Env → Store → Res Fl} : after (.ok (.rt w) M) f = .ok (.rt w) M := nr rfl
@[simp] theorem e_itT : itsW (.d (.tuple xs)) M = some (.items xs) := nr rfl
@[simp] theorem e_itL : itsW (.d (.list xs)) M = some (.items xs) := nr rfl
@[simp] theorem e_itS : itsW (.s xs) M = some (.items xs) := nr rfl
@[simp] theorem e_boolR : boolR b M = .ok (.d (.bool b)) M := nr rfl
@[simp] theorem e_isiT {ty : Ty} : isiW (.d (.tuple xs)) ty M = some (tgB .tup ty) := nr rfl
@[simp] theorem e_isiL {ty : Ty} : isiW (.d (.list xs)) ty M = some (tgB .lst ty) := nr rfl
@[simp] theorem e_isiI {ty : Ty} : isiW (.d (.int i)) ty M = some (tgB .int ty) := nr rfl
@[simp] theorem e_isiB {ty : Ty} : isiW (.d (.bool b)) ty M = some (tgB .bl ty) := nr rfl
@[simp] theorem e_isiS {ty : Ty} : isiW (.d (.str s)) ty M = some (tgB .str ty) := nr rfl
@[simp] theorem e_isiN {ty : Ty} : isiW (.d .none) ty M = some (tgB .non ty) := nr rfl
end
end Ev
namespace Ev
open PySem
section
variable {M : Store} {xs : List D} {n : Nat} {x : D} {md : Md}
theorem atI_nat {α : Type} {xs : List α} {n : Nat} (h : n < xs.length) : L2.atI xs (n : Int) = some xs[n] := by
  unfold L2.atI L2.ixN
  rw [if_pos (Int.natCast_nonneg n), if_pos (by omega)]
  simp [h]
theorem ixN_nat {m n : Nat} (h : n < m) : L2.ixN m (n : Int) = some n := by
  unfold L2.ixN
  rw [if_pos (Int.natCast_nonneg n), if_pos (by omega)]
  simp
theorem e_mTyA (h : cellLst M n = some xs) : mTy .append (.r n) M = true := by
  show (cellLst M n).isSome = true
  rw [h]; rfl
theorem e_mTyP (h : cellLst M n = some xs) : mTy .pop (.r n) M = true := by
  show (cellLst M n).isSome = true
  rw [h]; rfl
theorem e_mTyI : mTy .index (.d (.list xs)) M = true := nr rfl
theorem e_lenR (h : cellLst M n = some xs) : bltW .len md [.r n] M = .ok (.d (.int (xs.length : Nat))) M := by
  show withO (match seqOf (.r n) M with
    | some xs => some xs.length
    | none => match wlOf (.r n) M with
      | some ws => some ws.length
      | none => dlen (.r n) M) _ = _
  have e : seqOf (.r n) M = some xs := h
  rw [e]; rfl
theorem e_popR {i : Nat} (h : cellLst M n = some xs) (hi : i < xs.length) : mthW .pop (.r n) [.d (.int (i : Int))] M = .ok (.d xs[i]) (M.set n (.lst (xs.eraseIdx i))) := by
  show withO (cellLst M n) (fun xs => withO (L2.ixN xs.length (i : Int)) fun k => withO xs[k]? fun y => Res.ok (W.d y) (M.set n (.lst (xs.eraseIdx k)))) = _
  rw [h, w_ok, ixN_nat hi, w_ok, List.getElem?_eq_getElem hi, w_ok]
theorem e_appR (h : cellLst M n = some xs) (hl : xs.length < sizeLine) : mthW .append (.r n) [.d x] M = .ok (.d .none) (M.set n (.lst (xs ++ [x]))) := by
  show withO (frzW (.d x) M) (fun p => withO (cellLst p.2 n) fun xs => must (xs.length < sizeLine) (Res.ok (W.d PyData.none) (p.2.set n (.lst (xs ++ [p.1]))))) = _
  rw [e_frzD, w_ok]
  simp only
  rw [h, w_ok, must_ok hl]
theorem e_slcR {lo hi : Option Int} (h : cellLst M n = some xs) : slcW md (.r n) lo hi M = mk md (cutD xs lo hi) M := by
  show withO (cellLst M n) _ = _
  rw [h, w_ok]
theorem e_leaveF {k m : Nat} (h : cellLst M k = some xs) (hk : m ≤ k) : leave .F m (.rt (.r k)) M = .ok (.d (.list xs)) (M.take m) := by
  unfold cellLst at h
  show leaveR .F m k M = _
  unfold leaveR
  rw [if_neg (by omega)]
  split at h
  · rename_i q
    cases h
    simp only [frzW, frzN, q, w_ok]
    rw [List.take_set_of_le hk]
  · cases h
theorem e_tupR (h : cellLst M n = some xs) : bltW .tuple md [.r n] M = .ok (.d (.tuple xs)) M := by
  show withO (seqOf (.r n) M) _ = _
  have e : seqOf (.r n) M = cellLst M n := rfl
  rw [e, h, w_ok]
theorem e_listr {n : Nat} (h : n ≤ 16777216) : bltW .listr md [.d (.int (n : Int))] M = mk md (range0 n) M := by
  show must ((0 : Int) ≤ n ∧ (n : Int) ≤ 16777216) _ = _
  rw [must_ok ⟨Int.natCast_nonneg n, by omega⟩]
theorem range0_len (n : Nat) : (range0 (n : Int)).length = n := by simp [range0]
theorem rngK_n (h : n ≤ 1000000) : rngK (.d (.int (n : Int))) M = .ok (.items (range0 n)) M := rngK_i (Int.natCast_nonneg n) (by omega)
@[simp] theorem e_eqB {a b : Bool} : cmpW .eq (.d (.bool a)) (.d (.bool b)) M = some (decide (a = b)) := by
  show (some (PyData.eqv (.bool a) (.bool b)) : Option Bool) = _
  cases a <;> cases b <;> rfl
@[simp] theorem e_neB {a b : Bool} : cmpW .ne (.d (.bool a)) (.d (.bool b)) M = some (!decide (a = b)) := by
  show (some (!PyData.eqv (.bool a) (.bool b)) : Option Bool) = _
  cases a <;> cases b <;> rfl
@[simp] theorem t_tt : tgB .tup .tuple = true := nr rfl
@[simp] theorem t_ti : tgB .tup .int = false := nr rfl
@[simp] theorem t_ts : tgB .tup .str = false := nr rfl
@[simp] theorem t_tb : tgB .tup .bool = false := nr rfl
@[simp] theorem t_it : tgB .int .tuple = false := nr rfl
@[simp] theorem t_ii : tgB .int .int = true := nr rfl
@[simp] theorem t_is : tgB .int .str = false := nr rfl
@[simp] theorem t_ib : tgB .int .bool = false := nr rfl
@[simp] theorem t_st : tgB .str .tuple = false := nr rfl
@[simp] theorem t_si : tgB .str .int = false := nr rfl
@[simp] theorem t_ss : tgB .str .str = true := nr rfl
@[simp] theorem t_sb : tgB .str .bool = false := nr rfl
@[simp] theorem t_bt : tgB .bl .tuple = false := nr rfl
@[simp] theorem t_bi : tgB .bl .int = true := nr rfl
@[simp] theorem t_bs : tgB .bl .str = false := nr rfl
@[simp] theorem t_bb : tgB .bl .bool = true := nr rfl
@[simp] theorem t_nt : tgB .non .tuple = false := nr rfl
@[simp] theorem t_ni : tgB .non .int = false := nr rfl
@[simp] theorem t_ns : tgB .non .str = false := nr rfl
@[simp] theorem t_nb : tgB .non .bool = false := nr rfl
/-- what a law's same compares: tuples of scalars -/
inductive Sm : Nat → D → Prop where
  | int (n : Nat) (i : Int) : Sm n (.int i)
  | str (n : Nat) (s : Str) : Sm n (.str s)
  | bl (n : Nat) (b : Bool) : Sm n (.bool b)
  | non (n : Nat) : Sm n .none
  | tup {n : Nat} {xs : List D} : (∀ x ∈ xs, Sm n x) → xs.length < 1000000 → Sm (n + 1) (.tuple xs)
/-! ### comprehensions without effects -/
theorem compL_map {tg : CT} {cd : Env → Store → Res Bool} {inner : Env → Store → Res (List D)} {e0 : Env} {g : D → D} (hcd : ∀ e M, cd e M = .ok true M) : ∀ {xs : List D}, (∀ x ∈ xs, ∃ e', asgT tg (.d x) e0 = some e' ∧ inner e' M = .ok [g x] M) → compL tg cd inner e0 xs M = .ok (xs.map g) M
  | [], _ => rfl
  | x :: xs, h => by
    obtain ⟨e', h1, h2⟩ := h x List.mem_cons_self
    show withO (asgT tg (.d x) e0) (fun e1 => (cd e1 M).bind fun b M1 => if b = true then (inner e1 M1).bind fun ys M2 => (compL tg cd inner e0 xs M2).bind fun zs M3 => .ok (ys ++ zs) M3 else compL tg cd inner e0 xs M1) = _
    rw [h1, w_ok, hcd, b_ok, if_pos rfl, h2, b_ok, compL_map hcd fun y hy => h y (List.mem_cons_of_mem _ hy), b_ok]
    rfl
theorem compL_filter {tg : CT} {cd : Env → Store → Res Bool} {inner : Env → Store → Res (List D)} {e0 : Env} {g : D → D} {p : D → Bool} : ∀ {xs : List D}, (∀ x ∈ xs, ∃ e', asgT tg (.d x) e0 = some e' ∧ cd e' M = .ok (p x) M ∧ inner e' M = .ok [g x] M) → compL tg cd inner e0 xs M = .ok ((xs.filter p).map g) M
  | [], _ => rfl
  | x :: xs, h => by
    obtain ⟨e', h1, h2, h3⟩ := h x List.mem_cons_self
    show withO (asgT tg (.d x) e0) (fun e1 => (cd e1 M).bind fun b M1 => if b = true then (inner e1 M1).bind fun ys M2 => (compL tg cd inner e0 xs M2).bind fun zs M3 => .ok (ys ++ zs) M3 else compL tg cd inner e0 xs M1) = _
    have ih := compL_filter fun y hy => h y (List.mem_cons_of_mem _ hy)
    rw [h1, w_ok, h2, b_ok, List.filter_cons]
    cases hp : p x with
    | true =>
      rw [if_pos rfl, h3, b_ok, ih, b_ok, if_pos rfl]
      rfl
    | false =>
      rw [if_neg Bool.false_ne_true, ih, if_neg Bool.false_ne_true]
@[simp] theorem e_oneD : oneD (.ok (.d x) M) = .ok [x] M := nr rfl
@[simp] theorem e_wipe0 {e : Env} : wipeE e [] = e := nr rfl
@[simp] theorem e_wipe1 {e : Env} {v : Nat} {vs : List Nat} : wipeE e (v :: vs) = (wipeE e vs).set v none := nr rfl
/-! ### slices -/
theorem cut_neg {k : Nat} : cutD xs (some (-((k : Nat) : Int) - 1)) none = xs.drop (xs.length - (k + 1)) := by
  unfold cutD
  have e1 : HT.sIx xs.length 0 (some (-((k : Nat) : Int) - 1)) = xs.length - (k + 1) := by
    show (if -((k : Nat) : Int) - 1 < 0 then (-((k : Nat) : Int) - 1 + (xs.length : Int)).toNat else min (-((k : Nat) : Int) - 1).toNat xs.length) = _
    rw [if_pos (by omega)]
    omega
  have e2 : HT.sIx xs.length xs.length none = xs.length := rfl
  rw [e1, e2]
  exact List.take_of_length_le (by rw [List.length_drop]; exact Nat.le_refl _)
theorem cut_m5 : cutD xs (some (-5)) none = xs.drop (xs.length - 5) := cut_neg (k := 4)
theorem cut_m1 : cutD xs (some (-1)) none = xs.drop (xs.length - 1) := cut_neg (k := 0)
theorem cut_from (k : Nat) : cutD xs (some (k : Int)) none = xs.drop k := by
  unfold cutD
  have e1 : HT.sIx xs.length 0 (some (k : Int)) = min k xs.length := HT.sIx_nat _ _ _
  have e2 : HT.sIx xs.length xs.length none = xs.length := rfl
  rw [e1, e2]
  by_cases h : k ≤ xs.length
  · rw [Nat.min_eq_left h]
    exact List.take_of_length_le (by rw [List.length_drop]; exact Nat.le_refl _)
  · rw [Nat.min_eq_right (by omega), List.drop_length, List.drop_eq_nil_of_le (by omega)]
    simp
theorem cut_1 : cutD xs (some 1) none = xs.drop 1 := cut_from 1
theorem cut_s (k : Nat) : cutD xs (some ((k : Int) + 1)) none = xs.drop (k + 1) := cut_from (k + 1)
theorem cut_to (k : Nat) : cutD xs none (some (k : Int)) = xs.take k := by
  unfold cutD
  have e1 : HT.sIx xs.length 0 none = 0 := rfl
  have e2 : HT.sIx xs.length xs.length (some (k : Int)) = min k xs.length := HT.sIx_nat _ _ _
  rw [e1, e2, List.drop_zero, Nat.sub_zero]
  by_cases h : k ≤ xs.length
  · rw [Nat.min_eq_left h]
  · rw [Nat.min_eq_right (by omega), List.take_of_length_le (Nat.le_refl _), List.take_of_length_le (by omega)]
theorem atI_last {α : Type} {xs : List α} (h : xs ≠ []) : L2.atI xs (-1) = some (xs.getLast h) := by
  have hp : 0 < xs.length := List.length_pos_iff.mpr h
  unfold L2.atI L2.ixN
  rw [if_neg (by omega), if_pos (by omega)]
  have e : ((-1 : Int) + (xs.length : Int)).toNat = xs.length - 1 := by omega
  rw [Option.bind_some, e, List.getLast_eq_getElem, List.getElem?_eq_getElem (by omega)]
@[simp] theorem atI_0 {α : Type} {x : α} {xs : List α} : L2.atI (x :: xs) 0 = some x := atI_nat (xs := x :: xs) (n := 0) (by simp)
@[simp] theorem atI_1 {α : Type} {x y : α} {xs : List α} : L2.atI (x :: y :: xs) 1 = some y := atI_nat (xs := x :: y :: xs) (n := 1) (by simp)
@[simp] theorem atI_2 {α : Type} {x y z : α} {xs : List α} : L2.atI (x :: y :: z :: xs) 2 = some z := atI_nat (xs := x :: y :: z :: xs) (n := 2) (by simp)
@[simp] theorem atI_3 {α : Type} {x y z w : α} {xs : List α} : L2.atI (x :: y :: z :: w :: xs) 3 = some w := atI_nat (xs := x :: y :: z :: w :: xs) (n := 3) (by simp)
@[simp] theorem atI_4 {α : Type} {x y z w u : α} {xs : List α} : L2.atI (x :: y :: z :: w :: u :: xs) 4 = some u := atI_nat (xs := x :: y :: z :: w :: u :: xs) (n := 4) (by simp)
@[simp] theorem setAll_0 {e : Env} {ws : List W} : setAll [] ws e = e := nr rfl
@[simp] theorem setAll_1 {e : Env} {i : Nat} {is : List Nat} {w : W} {ws : List W} : setAll (i :: is) (w :: ws) e = setAll is ws (e.set i (some w)) := nr rfl
theorem e_subR {j : Int} (h : cellLst M n = some xs) : subW (.r n) (.d (.int j)) M = (L2.atI xs j).map .d := by
  have e : seqOf (.r n) M = some xs := h
  unfold subW
  rw [e]
theorem e_setR {j : Nat} (h : cellLst M n = some xs) (hj : j < xs.length) : setW (.r n) (.d (.int (j : Int))) x M = .ok () (M.set n (.lst (xs.set j x))) := by
  unfold cellLst at h
  unfold setW
  split at h
  · rename_i ys q
    cases h
    simp only [q, ixN_nat hj, w_ok]
  · cases h
theorem conv_nat {n : Nat} : ∀ {u : List D}, (∀ x ∈ u, ∃ j : Nat, j < n ∧ x = .int (j : Nat)) → ∃ ts : List Nat, u = ts.map (fun t => PyData.int (t : Nat)) ∧ ∀ j ∈ ts, j < n
  | [], _ => ⟨[], rfl, by simp⟩
  | x :: u, hu => by
    obtain ⟨ts, e1, e2⟩ := conv_nat fun y hy => hu y (List.mem_cons_of_mem _ hy)
    obtain ⟨j, hj, rfl⟩ := hu x List.mem_cons_self
    exact ⟨j :: ts, by rw [e1]; rfl, fun i hi => by
      rcases List.mem_cons.mp hi with rfl | hi
      · exact hj
      · exact e2 i hi⟩
theorem mem_range0 {n : Nat} {x : D} (h : x ∈ range0 (n : Int)) : ∃ j : Nat, j < n ∧ x = .int (j : Nat) := by
  unfold range0 at h
  obtain ⟨j, hj, rfl⟩ := List.mem_map.mp h
  exact ⟨j, by simpa using hj, rfl⟩
theorem mem_cut {lo hi : Option Int} {x : D} (h : x ∈ cutD xs lo hi) : x ∈ xs := List.mem_of_mem_drop (List.mem_of_mem_take h)
theorem cut_len {lo hi : Option Int} : (cutD xs lo hi).length ≤ xs.length := by
  unfold cutD
  rw [List.length_take, List.length_drop]
  omega
theorem range0_get {n i : Nat} {x : D} (h : (range0 (n : Int))[i]? = some x) : i < n ∧ x = .int (i : Nat) := by
  have hi : i < n := by
    have := (List.getElem?_eq_some_iff.mp h).1
    simpa [range0] using this
  refine ⟨hi, ?_⟩
  unfold range0 at h
  rw [List.getElem?_map, List.getElem?_range (by simpa using hi)] at h
  simpa using h.symm
@[simp] theorem take_self {c : Cell} {R : Store} : (c :: R).take (R.length + 1) = c :: R := by
  rw [List.take_succ_cons, List.take_length]
theorem oneD_b {r : Res W} : oneD r = r.bind fun w M => withO (frzW w M) fun p => .ok [p.1] p.2 := nr rfl
theorem e_pairD {i : Int} {f : Store → Res W} : pairD (.ok (.d (.int i)) M) f = (f M).bind fun u M1 => withO (frzW u M1) fun p => .ok [.tuple [.int i, p.1]] p.2 := by
  show (f M).bind (fun u M1 => must ((keyOf (.int i)).isSome = true) (withO (frzW u M1) fun p => Res.ok [PyData.tuple [PyData.int i, p.1]] p.2)) = _
  have h : (keyOf (.int i)).isSome = true := rfl
  refine congrArg _ (funext fun u => funext fun M1 => ?_)
  rw [must_ok h]
@[simp] theorem take_snoc {c : Cell} : (M ++ [c]).take (M.length + 1) = M ++ [c] := List.take_of_length_le (by simp)
@[simp] theorem take_snoc0 {c : Cell} : (M ++ [c]).take M.length = M := by simp
theorem okEq_int {i : Int} : okEq (.int i) = true := by
  show (PyData.canLay0 (.int i) && decide (PyData.depth (.int i) ≤ 64)) = true
  simp [PyData.canLay0, PyData.depth]
theorem okEq_ints (l : List Int) : okEq (.list (l.map .int)) = true := by
  have h1 : ∀ l : List Int, PyData.canLayAll0 (l.map .int) = true := by
    intro l
    induction l with
    | nil => rfl
    | cons x r ih => rw [List.map_cons, PyData.canLayAll0, ih]; rfl
  have h2 : ∀ l : List Int, PyData.depthAll (l.map .int) ≤ 1 := by
    intro l
    induction l with
    | nil => simp [PyData.depthAll]
    | cons x r ih => simp [PyData.depthAll, PyData.depth]; omega
  show (PyData.canLay0 (.list (l.map .int)) && decide (PyData.depth (.list (l.map .int)) ≤ 64)) = true
  have := h2 l
  rw [PyData.canLay0, h1, Bool.true_and, decide_eq_true_eq, PyData.depth]
  omega
theorem inV_ints {x : Int} : ∀ {l : List Int}, Ev.inV (.int x) (l.map .int) = decide (x ∈ l)
  | [] => rfl
  | y :: r => by
    have ih := inV_ints (x := x) (l := r)
    unfold Ev.inV at ih ⊢
    rw [List.map_cons, List.any_cons, ih]
    have e : PyData.eqv (.int y) (.int x) = decide (y = x) := by
      rw [Bool.eq_iff_iff]
      simp [PyData.eqv]
    rw [e, Bool.eq_iff_iff]
    simp only [Bool.or_eq_true, decide_eq_true_eq, List.mem_cons]
    constructor
    · rintro (h | h)
      · exact .inl h.symm
      · exact .inr h
    · rintro (h | h)
      · exact .inl h.symm
      · exact .inr h
theorem e_notinI {x : Int} {l : List Int} : cmpW .notin (.d (.int x)) (.d (.list (l.map .int))) M = some (!decide (x ∈ l)) := by
  have hf : (l.map PyData.int).all flatD = true := by
    rw [List.all_eq_true]
    intro y hy
    obtain ⟨n, _, rfl⟩ := List.mem_map.mp hy
    rfl
  show (inD (.int x) (l.map .int)).map (!·) = _
  unfold inD
  rw [if_pos (.inl ⟨rfl, hf⟩), inV_ints]
  rfl
theorem findIx_ints {x : Int} : ∀ {l : List Int} {i j : Nat}, l.findIdx? (· == x) = some j → findIx (.int x) (l.map .int) i = some (i + j)
  | [], i, j, h => by cases h
  | y :: r, i, j, h => by
    have e : PyData.eqv (.int y) (.int x) = decide (y = x) := by
      rw [Bool.eq_iff_iff]
      simp [PyData.eqv]
    rw [List.findIdx?_cons] at h
    rw [List.map_cons]
    unfold findIx
    by_cases hy : y = x
    · have h2 : (y == x) = true := by simpa using hy
      rw [h2, if_pos rfl] at h
      cases h
      rw [e, decide_eq_true hy, if_pos rfl]
      rfl
    · have h2 : (y == x) = false := by simpa using hy
      rw [h2, if_neg Bool.false_ne_true] at h
      obtain ⟨k, h3, rfl⟩ := Option.map_eq_some_iff.mp h
      rw [e, decide_eq_false hy, if_neg Bool.false_ne_true, findIx_ints h3]
      congr 1
      omega
theorem e_indexI {x : Int} {l : List Int} {j : Nat} (h : l.findIdx? (· == x) = some j) : mthW .index (.d (.list (l.map .int))) [.d (.int x)] M = .ok (.d (.int (j : Nat))) M := by
  show withO (some (l.map PyData.int)) (fun xs => must (okEq (.int x) = true ∧ okEq (.list xs) = true) (withO (findIx (.int x) xs 0) fun j => Res.ok (W.d (PyData.int (j : Nat))) M)) = _
  rw [w_ok, must_ok ⟨okEq_int, okEq_ints l⟩, findIx_ints h, w_ok, Nat.zero_add]
end
end Ev
set_option Elab.async false
set_option linter.all false
set_option maxRecDepth 100000
/-! Pa: head evaluation: rewriting never goes under what stands behind -/
namespace Ev
open PySem
section
variable {α β γ : Type} {r r' : Res α} {f : α → Store → Res β} {P : α → Store → Prop}
theorem bind_hd (h : r = r') : r.bind f = r'.bind f := by rw [h]
theorem Ok_hd (h : r = r') : Ok r P = Ok r' P := by rw [h]
theorem withO_hd {o o' : Option γ} {g : γ → Res α} (h : o = o') : withO o g = withO o' g := by rw [h]
theorem must_hd {c c' : Prop} [Decidable c] [Decidable c'] (h : c = c') : must c r = must c' r := by subst h; congr
theorem lim_hd {n n' : Nat} (h : n = n') : lim n r = lim n' r := by rw [h]
theorem evSs_hd {C : Cfg} {b : CSs} {e e' : Env} {M M' : Store} (h : e = e') (h2 : M = M') : evSs C b e M = evSs C b e' M' := by rw [h, h2]
theorem evS_hd {C : Cfg} {b : CS} {e e' : Env} {M M' : Store} (h : e = e') (h2 : M = M') : evS C b e M = evS C b e' M' := by rw [h, h2]
theorem evE_hd {C : Cfg} {b : CE} {e e' : Env} {M M' : Store} (h : e = e') (h2 : M = M') : evE C b e M = evE C b e' M' := by rw [h, h2]
theorem ite_hd {c c' : Prop} [Decidable c] [Decidable c'] {x y : α} (h : c = c') : (if c then x else y) = if c' then x else y := by subst h; congr
theorem ifR_bind {p : Prop} [Decidable p] {x y : Res α} : (if p then x else y).bind f = if p then x.bind f else y.bind f := by split <;> rfl
theorem withO_bind {o : Option γ} {g : γ → Res α} : (withO o g).bind f = withO o fun a => (g a).bind f := by cases o <;> rfl
theorem lim_bindR {n : Nat} : (lim n r).bind f = lim n (r.bind f) := by unfold lim; split <;> rfl
theorem must_bind {p : Prop} [Decidable p] : (must p r).bind f = must p (r.bind f) := by unfold must; split <;> rfl
end
/-- a call: its body; the rest of the calls' depth -/
theorem call_run {T : List Fn} {G : List D} {GD : Tabs} {F k f : Nat} {fn : Fn} {ws : List W} {M : Store} (h : T[f]? = some fn) (hl : ws.length = fn.np) (hk : 0 < k) :
    callF T G GD F k f ws M = (evSs ⟨callF T G GD F (k - 1), F, G, GD⟩ fn.body (startE fn.ns ws) M).bind fun fl M1 => leave fn.ret M.length fl M1 := by
  obtain ⟨j, rfl⟩ : ∃ j, k = j + 1 := ⟨k - 1, by omega⟩
  exact callF_run h hl
/-- what a turn of a loop leaves -/
def Turn (I : Env → Store → Prop) (R : Fl → Store → Prop) (fl : Fl) (M : Store) : Prop := match fl with
  | .nx e => I e M
  | .ct e => I e M
  | .bk e => R (.nx e) M
  | .rt w => R (.rt w) M
@[simp] theorem Turn_n {I : Env → Store → Prop} {R : Fl → Store → Prop} {e : Env} {M : Store} : Turn I R (.nx e) M = I e M := nr rfl
@[simp] theorem Turn_c {I : Env → Store → Prop} {R : Fl → Store → Prop} {e : Env} {M : Store} : Turn I R (.ct e) M = I e M := nr rfl
@[simp] theorem Turn_b {I : Env → Store → Prop} {R : Fl → Store → Prop} {e : Env} {M : Store} : Turn I R (.bk e) M = R (.nx e) M := nr rfl
@[simp] theorem Turn_r {I : Env → Store → Prop} {R : Fl → Store → Prop} {w : W} {M : Store} : Turn I R (.rt w) M = R (.rt w) M := nr rfl
section
variable {ι : Type} {enc : ι → D} {tg : CT} {body : Env → Store → Res Fl} {R : Fl → Store → Prop} {e : Env} {M : Store}
/-- a loop over native items, by what is still to come -/
theorem for_todo (I : List ι → Env → Store → Prop) : ∀ {xs : List ι} {e : Env} {M : Store}, I xs e M →
    (∀ x todo e M, I (x :: todo) e M → ∃ e', asgT tg (.d (enc x)) e = some e' ∧ Ok (body e' M) (Turn (I todo) R)) →
    (∀ e M, I [] e M → R (.nx e) M) → Ok (forL tg body (xs.map enc) e M) R
  | [], e, M, h0, _, hn => ⟨_, _, rfl, hn e M h0⟩
  | x :: xs, e, M, h0, hs, hn => by
    obtain ⟨e', h1, h2⟩ := hs x xs e M h0
    show Ok (Ev.withO (asgT tg (.d (enc x)) e) fun e' => after (body e' M) (forL tg body (xs.map enc))) R
    refine Ok.withO h1 (Ok.bind h2 fun fl M1 q => ?_)
    cases fl with
    | nx e1 => exact for_todo I (show I xs e1 M1 from q) hs hn
    | ct e1 => exact for_todo I (show I xs e1 M1 from q) hs hn
    | bk e1 => exact ⟨_, _, rfl, q⟩
    | rt w => exact ⟨_, _, rfl, q⟩
theorem range0_cons' (n : Nat) : range0 (n : Int) = (List.range n).map fun (i : Nat) => PyData.int i := by simp [range0]
/-- .. over 0, 1, .. -/
theorem for_rng {n : Nat} (I : Nat → Env → Store → Prop) (h0 : I 0 e M)
    (hs : ∀ (i : Nat) e M, i < n → I i e M → ∃ e', asgT tg (.d (.int (i : Nat))) e = some e' ∧ Ok (body e' M) (Turn (I (i + 1)) R))
    (hn : ∀ e M, I n e M → R (.nx e) M) : Ok (forL tg body (range0 (n : Int)) e M) R := by
  refine forL_ok (fun i e M => I i e M) h0 (fun i x e M hx hI => ?_) (fun e M h => hn e M (by rwa [range0_len] at h))
  obtain ⟨hi, rfl⟩ := range0_get hx
  obtain ⟨e', h1, h2⟩ := hs i e M hi hI
  refine ⟨e', h1, h2.mono fun fl M1 q => ?_⟩
  cases fl <;> exact q
theorem enumD_getN : ∀ (xs : List D) (k i : Nat), (enumD xs k)[i]? = (xs[i]?).map fun x => .tuple [.int ((k + i : Nat) : Int), x]
  | [], k, i => by simp [enumD]
  | x :: xs, k, 0 => by simp [enumD]
  | x :: xs, k, i + 1 => by
    simp only [enumD, List.getElem?_cons_succ]
    rw [enumD_getN xs (k + 1) i]
    have : k + 1 + i = k + (i + 1) := by omega
    rw [this]
/-- .. over enumerate, by what is still to come and the place -/
theorem for_enum (I : Nat → List ι → Env → Store → Prop) : ∀ {xs : List ι} {i : Nat} {e : Env} {M : Store}, I i xs e M →
    (∀ (i : Nat) x todo e M, I i (x :: todo) e M → ∃ e', asgT tg (.d (.tuple [.int (i : Nat), enc x])) e = some e' ∧ Ok (body e' M) (Turn (I (i + 1) todo) R)) →
    (∀ i e M, I i [] e M → R (.nx e) M) → Ok (forL tg body (enumD (xs.map enc) i) e M) R
  | [], i, e, M, h0, _, hn => ⟨_, _, rfl, hn i e M h0⟩
  | x :: xs, i, e, M, h0, hs, hn => by
    obtain ⟨e', h1, h2⟩ := hs i x xs e M h0
    show Ok (Ev.withO (asgT tg (.d (.tuple [.int (i : Nat), enc x])) e) fun e' => after (body e' M) (forL tg body (enumD (xs.map enc) (i + 1)))) R
    refine Ok.withO h1 (Ok.bind h2 fun fl M1 q => ?_)
    cases fl with
    | nx e1 => exact for_enum I (show I (i + 1) xs e1 M1 from q) hs hn
    | ct e1 => exact for_enum I (show I (i + 1) xs e1 M1 from q) hs hn
    | bk e1 => exact ⟨_, _, rfl, q⟩
    | rt w => exact ⟨_, _, rfl, q⟩
/-! comprehensions that only read -/
variable {cd : Env → Store → Res Bool} {inner : Env → Store → Res (List D)} {e0 : Env}
theorem comp_map {g : ι → D} (hcd : ∀ e M, cd e M = .ok true M) : ∀ {xs : List ι}, (∀ x ∈ xs, ∃ e', asgT tg (.d (enc x)) e0 = some e' ∧ inner e' M = .ok [g x] M) → compL tg cd inner e0 (xs.map enc) M = .ok (xs.map g) M
  | [], _ => rfl
  | x :: xs, h => by
    obtain ⟨e', h1, h2⟩ := h x List.mem_cons_self
    show withO (asgT tg (.d (enc x)) e0) (fun e1 => (cd e1 M).bind fun b M1 => if b = true then (inner e1 M1).bind fun ys M2 => (compL tg cd inner e0 (xs.map enc) M2).bind fun zs M3 => .ok (ys ++ zs) M3 else compL tg cd inner e0 (xs.map enc) M1) = _
    rw [h1, w_ok, hcd, b_ok, if_pos rfl, h2, b_ok, comp_map hcd fun y hy => h y (List.mem_cons_of_mem _ hy), b_ok]
    rfl
theorem comp_filter {g : ι → D} {p : ι → Bool} : ∀ {xs : List ι}, (∀ x ∈ xs, ∃ e', asgT tg (.d (enc x)) e0 = some e' ∧ cd e' M = .ok (p x) M ∧ (p x = true → inner e' M = .ok [g x] M)) → compL tg cd inner e0 (xs.map enc) M = .ok ((xs.filter p).map g) M
  | [], _ => rfl
  | x :: xs, h => by
    obtain ⟨e', h1, h2, h3⟩ := h x List.mem_cons_self
    show withO (asgT tg (.d (enc x)) e0) (fun e1 => (cd e1 M).bind fun b M1 => if b = true then (inner e1 M1).bind fun ys M2 => (compL tg cd inner e0 (xs.map enc) M2).bind fun zs M3 => .ok (ys ++ zs) M3 else compL tg cd inner e0 (xs.map enc) M1) = _
    have ih := comp_filter fun y hy => h y (List.mem_cons_of_mem _ hy)
    rw [h1, w_ok, h2, b_ok, List.filter_cons]
    cases hp : p x with
    | true =>
      rw [if_pos rfl, h3 hp, b_ok, ih, b_ok, if_pos rfl]
      rfl
    | false =>
      rw [if_neg Bool.false_ne_true, ih, if_neg Bool.false_ne_true]
/-- a comprehension with effects (the tape), by the count of items so far -/
theorem comp_rng {n : Nat} (J : Nat → List D → Store → Prop) (hcd : ∀ e M, cd e M = .ok true M) {R : List D → Store → Prop} (h0 : J 0 [] M)
    (hs : ∀ (i : Nat) acc M, i < n → J i acc M → ∃ e', asgT tg (.d (.int (i : Nat))) e0 = some e' ∧ Ok (inner e' M) fun ys M1 => J (i + 1) (acc ++ ys) M1)
    (hn : ∀ acc M, J n acc M → R acc M) : Ok (compL tg cd inner e0 (range0 (n : Int)) M) R := by
  refine (compL_ok' hcd J (acc := []) h0 (fun i x acc M hx h => ?_)).mono fun zs M1 q => hn _ _ (by rwa [range0_len] at q)
  obtain ⟨hi, rfl⟩ := range0_get hx
  exact hs i acc M hi h
/-- a comprehension with effects, by what is still to come -/
theorem comp_todo (hcd : ∀ e M, cd e M = .ok true M) {R : List D → Store → Prop} (J : List ι → List D → Store → Prop)
    (hs : ∀ x todo acc M, J (x :: todo) acc M → ∃ e', asgT tg (.d (enc x)) e0 = some e' ∧ Ok (inner e' M) fun ys M1 => J todo (acc ++ ys) M1)
    (hn : ∀ acc M, J [] acc M → R acc M) : ∀ {xs : List ι} {acc : List D} {M : Store}, J xs acc M → Ok (compL tg cd inner e0 (xs.map enc) M) fun zs M1 => R (acc ++ zs) M1
  | [], acc, M, h0 => ⟨[], M, rfl, by show R (acc ++ []) M; rw [List.append_nil]; exact hn acc M h0⟩
  | x :: xs, acc, M, h0 => by
    obtain ⟨e', h1, h2⟩ := hs x xs acc M h0
    show Ok (Ev.withO (asgT tg (.d (enc x)) e0) fun e1 => (cd e1 M).bind fun b M1 => if b = true then (inner e1 M1).bind fun ys M2 => (compL tg cd inner e0 (xs.map enc) M2).bind fun zs M3 => .ok (ys ++ zs) M3 else compL tg cd inner e0 (xs.map enc) M1) _
    refine Ok.withO h1 ?_
    rw [hcd, b_ok, if_pos rfl]
    refine Ok.bind h2 fun ys M2 q => ?_
    refine Ok.bind (comp_todo hcd J hs hn q) fun zs M3 r => ?_
    exact ⟨_, _, rfl, by show R (acc ++ (ys ++ zs)) M3; rw [← List.append_assoc]; exact r⟩
theorem comp_todo0 (hcd : ∀ e M, cd e M = .ok true M) {R : List D → Store → Prop} (J : List ι → List D → Store → Prop) {xs : List ι} {M : Store} (h0 : J xs [] M)
    (hs : ∀ x todo acc M, J (x :: todo) acc M → ∃ e', asgT tg (.d (enc x)) e0 = some e' ∧ Ok (inner e' M) fun ys M1 => J todo (acc ++ ys) M1)
    (hn : ∀ acc M, J [] acc M → R acc M) : Ok (compL tg cd inner e0 (xs.map enc) M) R := comp_todo hcd J hs hn h0
end
end Ev
set_option Elab.async false
set_option linter.all false
set_option maxRecDepth 100000
/-! Pc: cells by what stands at their place; membership; comprehensions by places -/
namespace Ev
open PySem
def lstK {α : Type} (o : Option Cell) (f : List D → Res α) : Res α := match o with
  | some (.lst xs) => f xs
  | _ => .stuck
section
variable {α : Type} {M R : Store} {n : Nat} {xs ys : List D} {x y : D} {k : Nat} {md : Md} {f : List D → Res α} {kvs : List (Key × D)} {kvt : List (List Key × D)} {c c0 c1 c2 c3 c4 d : Cell}
theorem lstK_hd {o o' : Option Cell} (h : o = o') : lstK o f = lstK o' f := by rw [h]
theorem lstK_l : lstK (some (.lst xs)) f = f xs := nr rfl
theorem lstK_bind {β : Type} {o : Option Cell} {g : α → Store → Res β} : (lstK o f).bind g = lstK o fun xs => (f xs).bind g := by
  cases o with
  | none => rfl
  | some c => cases c <;> rfl
theorem cell_K {o : Option Cell} {g : List D → Res α} : withO (match o with | some (.lst xs) => some xs | _ => none) g = lstK o g := by
  cases o with
  | none => rfl
  | some c => cases c <;> rfl
theorem c_append : mthW .append (.r n) [.d x] M = lstK M[n]? fun xs => must (xs.length < sizeLine) (.ok (.d .none) (M.set n (.lst (xs ++ [x])))) := by
  show withO (frzW (.d x) M) (fun p => withO (cellLst p.2 n) fun xs => must (xs.length < sizeLine) (Res.ok (W.d PyData.none) (p.2.set n (.lst (xs ++ [p.1]))))) = _
  rw [e_frzD, w_ok]
  exact cell_K
theorem c_pop0 : mthW .pop0 (.r n) [] M = lstK M[n]? fun xs => withO xs[xs.length - 1]? fun y => .ok (.d y) (M.set n (.lst xs.dropLast)) := cell_K
theorem c_pop {i : Int} : mthW .pop (.r n) [.d (.int i)] M = lstK M[n]? fun xs => withO (L2.ixN xs.length i) fun k => withO xs[k]? fun y => .ok (.d y) (M.set n (.lst (xs.eraseIdx k))) := cell_K
theorem c_remove : mthW .remove (.r n) [.d x] M = lstK M[n]? fun xs => must (okEq x = true ∧ okEq (.list xs) = true) (withO (findIx x xs 0) fun j => .ok (.d .none) (M.set n (.lst (xs.eraseIdx j)))) := cell_K
def isLstC : Option Cell → Bool
  | some (.lst _) => true
  | _ => false
def isDicC : Option Cell → Bool
  | some (.dK _) => true
  | some (.dT _) => true
  | some (.wK _) => true
  | _ => false
theorem isDic_W {kvw : List (Key × W)} : isDicC (some (.wK kvw)) = true := nr rfl
theorem isLst_l : isLstC (some (.lst xs)) = true := nr rfl
theorem isDic_K : isDicC (some (.dK kvs)) = true := nr rfl
theorem isDic_T : isDicC (some (.dT kvt)) = true := nr rfl
theorem cellLst_C : (cellLst M n).isSome = isLstC M[n]? := by
  unfold cellLst
  cases M[n]? with
  | none => rfl
  | some c => cases c <;> rfl
theorem c_tyA : mTy .append (.r n) M = isLstC M[n]? := cellLst_C
theorem c_tyP : mTy .pop (.r n) M = isLstC M[n]? := cellLst_C
theorem c_tyP0 : mTy .pop0 (.r n) M = isLstC M[n]? := cellLst_C
theorem c_tyI : mTy .index (.r n) M = isLstC M[n]? := cellLst_C
theorem c_tyR : mTy .remove (.r n) M = isLstC M[n]? := cellLst_C
theorem c_tyC : mTy .count (.r n) M = isLstC M[n]? := cellLst_C
theorem c_tyIL : mTy .index (.d (.list xs)) M = true := nr rfl
theorem c_tyTC : mTy .tcount (.d (.tuple xs)) M = true := nr rfl
theorem c_tcount : mthW .tcount (.d (.tuple xs)) [.d x] M = must (okEq x = true ∧ okEq (.list xs) = true) (.ok (.d (.int (xs.countP fun y => PyData.eqv y x : Nat))) M) := nr rfl
theorem c_lsetT {md : Md} : bltW .lset md [.d (.tuple xs)] M = withO (intsD xs) fun ns => must (ns.length ≤ 1000) (.ok (.d (.int (dstN ns : Nat))) M) := nr rfl
theorem c_lsetL {md : Md} : bltW .lset md [.d (.list xs)] M = withO (tkeysOf xs) fun ks => must (ks.length < 64) (.ok (.d (.int (dstN ks : Nat))) M) := nr rfl
theorem c_min1 {md : Md} : bltW .min1 md [.d (.list xs)] M = withO ((intsD xs).bind minI) fun n => .ok (.d (.int n)) M := nr rfl
theorem c_tyCL : mTy .count (.d (.list xs)) M = true := nr rfl
theorem c_tyG1 : mTy .get1 (.r n) M = isDicC M[n]? := by
  show (match M[n]? with
    | some (.dK _) => true
    | some (.dT _) => true
    | some (.wK _) => true
    | _ => false) = _
  cases M[n]? with
  | none => rfl
  | some c => cases c <;> rfl
theorem c_tyG2 : mTy .get2 (.r n) M = isDicC M[n]? := c_tyG1
/-- o[k] of a cell -/
def subC (o : Option Cell) (x : D) : Option W := match o with
  | some (.lst xs) => (match x with
    | .int k => (L2.atI xs k).map .d
    | _ => none)
  | some (.wl ws) => (match x with
    | .int k => L2.atI ws k
    | _ => none)
  | some (.dK kvs) => ((keyOf x).bind fun k => valD kvs k).map .d
  | some (.dT kvs) => ((tkeyOf x).bind fun k => valD kvs k).map .d
  | some (.wK kvs) => (keyOf x).bind fun k => valD kvs k
  | some (.lkK kvs) => ((keyOf x).bind fun k => valD kvs k).map .d
  | some (.lkT kvs) => ((tkeyOf x).bind fun k => valD kvs k).map .d
  | _ => none
section
variable {ws : List W} {kvw : List (Key × W)}
theorem subC_l {k : Int} : subC (some (.lst xs)) (.int k) = (L2.atI xs k).map .d := nr rfl
theorem subC_w {k : Int} : subC (some (.wl ws)) (.int k) = L2.atI ws k := nr rfl
theorem subC_ki {k : Int} : subC (some (.dK kvs)) (.int k) = (valD kvs (.inl k)).map .d := nr rfl
theorem subC_ks {k : Str} : subC (some (.dK kvs)) (.str k) = (valD kvs (.inr k)).map .d := nr rfl
theorem subC_lki {k : Int} : subC (some (.lkK kvs)) (.int k) = (valD kvs (.inl k)).map .d := nr rfl
theorem subC_lks {k : Str} : subC (some (.lkK kvs)) (.str k) = (valD kvs (.inr k)).map .d := nr rfl
theorem subC_wki {k : Int} : subC (some (.wK kvw)) (.int k) = valD kvw (.inl k) := nr rfl
theorem subC_wks {k : Str} : subC (some (.wK kvw)) (.str k) = valD kvw (.inr k) := nr rfl
theorem subC_t {ks : List D} : subC (some (.dT kvt)) (.tuple ks) = ((keysOf ks).bind fun k => valD kvt k).map .d := nr rfl
theorem subC_lt {ks : List D} : subC (some (.lkT kvt)) (.tuple ks) = ((keysOf ks).bind fun k => valD kvt k).map .d := nr rfl
end
theorem c_sub : subW (.r n) (.d x) M = subC M[n]? x := by
  unfold subW subC
  have e : seqOf (.r n) M = cellLst M n := rfl
  rw [e]
  unfold cellLst wlOf
  have bd : ∀ {β γ : Type} (o : Option β) (f : β → Option γ), (o.map f).bind id = o.bind f := fun o f => by cases o <;> rfl
  have bm : ∀ {β γ δ : Type} (o : Option β) (f : β → Option γ) (g : γ → δ), (o.bind f).map g = o.bind fun b => (f b).map g := fun o f g => by cases o <;> rfl
  cases h : M[n]? with
  | none => cases x <;> simp [dgetW, h]
  | some c => cases c <;> (cases x <;> simp [dgetW, h, bd, bm])
/-- o[k] = v of a cell -/
def setC (o : Option Cell) (n : Nat) (k : D) (v : D) (M : Store) : Res Unit := match o with
    | some (.lst xs) => (match k with
      | .int k => withO (L2.ixN xs.length k) fun j => .ok () (M.set n (.lst (xs.set j v)))
      | _ => .stuck)
    | some (.dK kvs) => withO (keyOf k) fun j => must (kvs.length < sizeLine) (.ok () (M.set n (.dK (putD kvs j v))))
    | some (.dT kvs) => withO (tkeyOf k) fun j => must (kvs.length < sizeLine) (.ok () (M.set n (.dT (putD kvs j v))))
    | _ => .stuck
theorem c_set : setW (.r n) (.d x) y M = setC M[n]? n x y M := nr rfl
theorem setC_l {k : Int} : setC (some (.lst xs)) n (.int k) y M = withO (L2.ixN xs.length k) fun j => .ok () (M.set n (.lst (xs.set j y))) := nr rfl
theorem setC_ki {k : Int} : setC (some (.dK kvs)) n (.int k) y M = must (kvs.length < sizeLine) (.ok () (M.set n (.dK (putD kvs (.inl k) y)))) := nr rfl
theorem setC_ks {k : Str} : setC (some (.dK kvs)) n (.str k) y M = must (kvs.length < sizeLine) (.ok () (M.set n (.dK (putD kvs (.inr k) y)))) := nr rfl
theorem setC_t {ks : List D} : setC (some (.dT kvt)) n (.tuple ks) y M = withO (keysOf ks) fun j => must (kvt.length < sizeLine) (.ok () (M.set n (.dT (putD kvt j y)))) := nr rfl
theorem setC_hd {o o' : Option Cell} (h : o = o') : setC o n x y M = setC o' n x y M := by rw [h]
def lenC : Option Cell → Option Nat
  | some (.lst xs) => some xs.length
  | some (.dK kvs) => some kvs.length
  | some (.wl ws) => some ws.length
  | _ => none
theorem lenC_w {ws : List W} : lenC (some (.wl ws)) = some ws.length := nr rfl
theorem lenC_l : lenC (some (.lst xs)) = some xs.length := nr rfl
theorem lenC_k : lenC (some (.dK kvs)) = some kvs.length := nr rfl
theorem c_len : bltW .len md [.r n] M = withO (lenC M[n]?) fun k => .ok (.d (.int (k : Nat))) M := by
  have e : lenW (.r n) M = lenC M[n]? := by
    show (match seqOf (.r n) M with
      | some xs => some xs.length
      | none => match wlOf (.r n) M with
        | some ws => some ws.length
        | none => dlen (.r n) M) = _
    have e : seqOf (.r n) M = cellLst M n := rfl
    rw [e]
    unfold cellLst wlOf dlen lenC
    cases h : M[n]? with
    | none => simp [h]
    | some c => cases c <;> simp [h]
  show withO (lenW (.r n) M) _ = _
  rw [e]
theorem c_tuple : bltW .tuple md [.r n] M = lstK M[n]? fun xs => .ok (.d (.tuple xs)) M := cell_K
theorem c_list : bltW .list md [.r n] M = lstK M[n]? fun xs => mk md xs M := cell_K
theorem c_slc {lo hi : Option Int} : slcW md (.r n) lo hi M = lstK M[n]? fun xs => mk md (cutD xs lo hi) M := cell_K
def frzC (o : Option Cell) (n : Nat) (M : Store) : Option (D × Store) := match o with
  | some (.lst xs) => some (.list xs, M.set n .dead)
  | some (.wl ws) => (frzNs 2 ws (M.set n .dead)).map fun p => (.list p.1, p.2)
  | _ => none
theorem c_frz : frzW (.r n) M = frzC M[n]? n M := nr rfl
theorem frzC_l : frzC (some (.lst xs)) n M = some (.list xs, M.set n .dead) := nr rfl
theorem frzC_w {ws : List W} : frzC (some (.wl ws)) n M = (frzNs 2 ws (M.set n .dead)).map fun p => (.list p.1, p.2) := nr rfl
/-- how a cell leaves a def, as data -/
def leavC (o : Option Cell) (m n : Nat) (M : Store) : Res W := match o with
  | some (.lst xs) => .ok (.d (.list xs)) (M.take m)
  | o => withO (frzC o n M) fun p => .ok (.d p.1) (p.2.take m)
theorem leavC_l {m : Nat} : leavC (some (.lst xs)) m n M = .ok (.d (.list xs)) (M.take m) := nr rfl
theorem leavC_w {ws : List W} {m : Nat} : leavC (some (.wl ws)) m n M = withO (frzC (some (.wl ws)) n M) fun p => .ok (.d p.1) (p.2.take m) := nr rfl
theorem leavC_bind {β : Type} {o : Option Cell} {m : Nat} {g : W → Store → Res β} (h : o = some (.lst xs)) : (leavC o m n M).bind g = g (.d (.list xs)) (M.take m) := by
  subst h; rfl
theorem c_leaveF {m : Nat} (hm : m ≤ n) : leave .F m (.rt (.r n)) M = leavC M[n]? m n M := by
  show leaveR .F m n M = _
  unfold leaveR leavC
  rw [if_neg (by omega)]
  simp only [c_frz]
  cases M[n]? with
  | none => rfl
  | some c =>
    cases c with
    | lst xs =>
      simp only [frzC_l, w_ok]
      rw [List.take_set_of_le hm]
    | _ => rfl
theorem c_leaveN : leave .N n (.rt (.r k)) M = .ok (.r k) M := nr rfl
theorem e_frzsR {ws : List W} : frzs (.r n :: ws) M = (frzW (.r n) M).bind fun p => (frzs ws p.2).map fun q => (p.1 :: q.1, q.2) := by
  show ((frzW (.r n) M).bind fun p => (frzs ws p.2).bind fun q => some (p.1 :: q.1, q.2)) = _
  congr 1
  funext p
  cases frzs ws p.2 <;> rfl
/-- membership -/
def memC (x : D) (o : Option Cell) : Option Bool := match o with
  | some (.lst xs) => inD x xs
  | some (.dK kvs) => (keyOf x).map fun k => (valD kvs k).isSome
  | some (.dT kvs) => (tkeyOf x).map fun k => (valD kvs k).isSome
  | some (.wK kvs) => (keyOf x).map fun k => (valD kvs k).isSome
  | some (.lkK kvs) => (keyOf x).map fun k => (valD kvs k).isSome
  | some (.lkT kvs) => (tkeyOf x).map fun k => (valD kvs k).isSome
  | _ => none
theorem memC_wki {kvw : List (Key × W)} {k : Int} : memC (.int k) (some (.wK kvw)) = some (valD kvw (.inl k)).isSome := nr rfl
theorem memC_wks {kvw : List (Key × W)} {k : Str} : memC (.str k) (some (.wK kvw)) = some (valD kvw (.inr k)).isSome := nr rfl
theorem memC_l : memC x (some (.lst xs)) = inD x xs := nr rfl
theorem memC_ki {k : Int} : memC (.int k) (some (.dK kvs)) = some (valD kvs (.inl k)).isSome := nr rfl
theorem memC_ks {k : Str} : memC (.str k) (some (.dK kvs)) = some (valD kvs (.inr k)).isSome := nr rfl
theorem memC_t {ks : List D} : memC (.tuple ks) (some (.dT kvt)) = (keysOf ks).map fun k => (valD kvt k).isSome := nr rfl
theorem memD_C : memD x (.r n) M = memC x M[n]? := by
  unfold memD
  have e : seqOf (.r n) M = cellLst M n := rfl
  rw [e]
  unfold cellLst memC
  have mm : ∀ {β γ δ : Type} (o : Option β) (f : β → γ) (g : γ → δ), (o.map f).map g = o.map fun b => g (f b) := fun o f g => by cases o <;> rfl
  cases h : M[n]? with
  | none => cases x <;> simp [dgetW, h]
  | some c => cases c <;> (cases x <;> simp [dgetW, h, mm, Option.isSome_map])
theorem c_in : cmpW .isin (.d x) (.r n) M = memC x M[n]? := memD_C
theorem c_notin : cmpW .notin (.d x) (.r n) M = (memC x M[n]?).map (!·) := by
  show (memD x (.r n) M).map (!·) = _
  rw [memD_C]
theorem c_inL : cmpW .isin (.d x) (.d (.list xs)) M = inD x xs := nr rfl
theorem c_notinL : cmpW .notin (.d x) (.d (.list xs)) M = (inD x xs).map (!·) := nr rfl
theorem c_inT : cmpW .isin (.d x) (.d (.tuple xs)) M = inD x xs := nr rfl
theorem c_notinT : cmpW .notin (.d x) (.d (.tuple xs)) M = (inD x xs).map (!·) := nr rfl
theorem c_truL : truW (.r n) M = (match M[n]? with | some (.lst xs) => some (!xs.isEmpty) | _ => none) := by
  show (cellLst M n).map (fun xs => !xs.isEmpty) = _
  unfold cellLst
  cases M[n]? with
  | none => rfl
  | some c => cases c <;> rfl
def isNC : Option Cell → Option Bool
  | some (.lst _) => some false
  | some (.dK _) => some false
  | some (.dT _) => some false
  | some (.wl _) => some false
  | some (.wK _) => some false
  | _ => none
theorem isNC_l : isNC (some (.lst xs)) = some false := nr rfl
theorem c_isN : isNW (.r n) M = isNC M[n]? := by
  show (match M[n]? with
    | some (.lst _) => some false
    | some (.dK _) => some false
    | some (.dT _) => some false
    | some (.wl _) => some false
    | some (.wK _) => some false
    | _ => none) = _
  cases M[n]? with
  | none => rfl
  | some c => cases c <;> rfl
/-- a dict is locked -/
def lockC (o : Option Cell) (n : Nat) (M : Store) : Option (Nat × Store) := match o with
  | some (.dK kvs) => some (n, M.set n (.lkK kvs))
  | some (.dT kvs) => some (n, M.set n (.lkT kvs))
  | _ => none
def unlockC (o : Option Cell) (n : Nat) (M : Store) : Option Store := match o with
  | some (.lkK kvs) => some (M.set n (.dK kvs))
  | some (.lkT kvs) => some (M.set n (.dT kvs))
  | _ => none
def lkKeysC : Option Cell → Option (List D)
  | some (.lkK kvs) => some (kvs.map fun kv => kD kv.1)
  | some (.lkT kvs) => some (kvs.map fun kv => .tuple (kv.1.map kD))
  | _ => none
theorem c_lock : lockAt (.r n) M = lockC M[n]? n M := nr rfl
theorem c_unlock : unlockAt n M = unlockC M[n]? n M := nr rfl
theorem c_lkKeys : lkKeys M n = lkKeysC M[n]? := nr rfl
theorem lockC_K : lockC (some (.dK kvs)) n M = some (n, M.set n (.lkK kvs)) := nr rfl
theorem lockC_T : lockC (some (.dT kvt)) n M = some (n, M.set n (.lkT kvt)) := nr rfl
theorem unlockC_K : unlockC (some (.lkK kvs)) n M = some (M.set n (.dK kvs)) := nr rfl
theorem unlockC_T : unlockC (some (.lkT kvt)) n M = some (M.set n (.dT kvt)) := nr rfl
theorem lkKeysC_K : lkKeysC (some (.lkK kvs)) = some (kvs.map fun kv => kD kv.1) := nr rfl
theorem lkKeysC_T : lkKeysC (some (.lkT kvt)) = some (kvt.map fun kv => .tuple (kv.1.map kD)) := nr rfl
/-- places -/
theorem get_m0 : (M ++ c :: R)[M.length]? = some c := by simp
theorem get_m1 : (M ++ c0 :: c :: R)[M.length + 1]? = some c := by simp
theorem get_m2 : (M ++ c0 :: c1 :: c :: R)[M.length + 2]? = some c := by simp
theorem get_m3 : (M ++ c0 :: c1 :: c2 :: c :: R)[M.length + 3]? = some c := by simp
theorem get_m4 : (M ++ c0 :: c1 :: c2 :: c3 :: c :: R)[M.length + 4]? = some c := by simp
theorem get_m5 : (M ++ c0 :: c1 :: c2 :: c3 :: c4 :: c :: R)[M.length + 5]? = some c := by simp
theorem get_m2' : (M ++ c0 :: c1 :: c :: R)[M.length + 1 + 1]? = some c := get_m2
theorem set_m0 : (M ++ c :: R).set M.length d = M ++ d :: R := by simp
theorem set_m1 : (M ++ c0 :: c :: R).set (M.length + 1) d = M ++ c0 :: d :: R := by simp
theorem set_m2 : (M ++ c0 :: c1 :: c :: R).set (M.length + 2) d = M ++ c0 :: c1 :: d :: R := by simp
theorem set_m3 : (M ++ c0 :: c1 :: c2 :: c :: R).set (M.length + 3) d = M ++ c0 :: c1 :: c2 :: d :: R := by simp
theorem set_m4 : (M ++ c0 :: c1 :: c2 :: c3 :: c :: R).set (M.length + 4) d = M ++ c0 :: c1 :: c2 :: c3 :: d :: R := by simp
theorem set_m5 : (M ++ c0 :: c1 :: c2 :: c3 :: c4 :: c :: R).set (M.length + 5) d = M ++ c0 :: c1 :: c2 :: c3 :: c4 :: d :: R := by simp
theorem set_m2' : (M ++ c0 :: c1 :: c :: R).set (M.length + 1 + 1) d = M ++ c0 :: c1 :: d :: R := set_m2
end
/-! native lists as data -/
section
variable {ι : Type} {enc : ι → D}
theorem eq_of_ok {α : Type} {r : Res α} {a : α} {M : Store} (h : Ok r fun b M' => b = a ∧ M' = M) : r = .ok a M := by
  obtain ⟨b, M', e, rfl, rfl⟩ := h
  exact e
theorem inV_enc (he : ∀ a b, PyData.eqv (enc a) (enc b) = true ↔ a = b) {x : ι} : ∀ {xs : List ι} [Decidable (x ∈ xs)], Ev.inV (enc x) (xs.map enc) = decide (x ∈ xs) := by
  intro xs inst
  rw [Bool.eq_iff_iff, decide_eq_true_eq]
  unfold Ev.inV
  rw [List.any_eq_true]
  constructor
  · rintro ⟨y, hy, h⟩
    obtain ⟨z, hz, rfl⟩ := List.mem_map.mp hy
    rw [he] at h
    subst h
    exact hz
  · intro h
    exact ⟨_, List.mem_map.mpr ⟨x, h, rfl⟩, (he x x).mpr rfl⟩
theorem inD_enc (he : ∀ a b, PyData.eqv (enc a) (enc b) = true ↔ a = b) (ho : ∀ a, okEq (enc a) = true) (hl : ∀ xs : List ι, okEq (.list (xs.map enc)) = true) {x : ι} {xs : List ι} [Decidable (x ∈ xs)] : inD (enc x) (xs.map enc) = some (decide (x ∈ xs)) := by
  unfold inD
  rw [if_pos (.inr ⟨ho x, hl xs⟩), inV_enc he]
theorem findIx_enc [DecidableEq ι] (he : ∀ a b, PyData.eqv (enc a) (enc b) = true ↔ a = b) {x : ι} : ∀ {xs : List ι} {i : Nat}, findIx (enc x) (xs.map enc) i = (xs.findIdx? fun y => decide (y = x)).map (i + ·)
  | [], i => rfl
  | y :: r, i => by
    rw [List.map_cons, List.findIdx?_cons]
    unfold findIx
    by_cases h : y = x
    · rw [if_pos ((he y x).mpr h), if_pos (by simpa using h)]
      rfl
    · rw [if_neg (fun z => h ((he y x).mp z)), if_neg (by simpa using h), findIx_enc he, Option.map_map]
      congr 1
      funext j
      show i + 1 + j = i + (j + 1)
      omega
theorem eqD_enc [DecidableEq ι] (he : ∀ a b, PyData.eqv (enc a) (enc b) = true ↔ a = b) (ho : ∀ a, okEq (enc a) = true) {a b : ι} : eqD (enc a) (enc b) = some (decide (a = b)) := by
  have e : PyData.eqv (enc a) (enc b) = decide (a = b) := by
    rw [Bool.eq_iff_iff, he, decide_eq_true_eq]
  unfold eqD
  split
  · rw [e]
  · rw [if_pos ⟨ho a, ho b⟩, e]
theorem cmp_enc [DecidableEq ι] (he : ∀ a b, PyData.eqv (enc a) (enc b) = true ↔ a = b) (ho : ∀ a, okEq (enc a) = true) {a b : ι} {M : Store} : cmpW .eq (.d (enc a)) (.d (enc b)) M = some (decide (a = b)) := eqD_enc he ho
theorem cmp_encN [DecidableEq ι] (he : ∀ a b, PyData.eqv (enc a) (enc b) = true ↔ a = b) (ho : ∀ a, okEq (enc a) = true) {a b : ι} {M : Store} : cmpW .ne (.d (enc a)) (.d (enc b)) M = some (!decide (a = b)) := by
  show (eqD (enc a) (enc b)).map (!·) = _
  rw [eqD_enc he ho]
  rfl
end
/-- height of data, none of it a dict -/
inductive Hg : Nat → D → Prop where
  | int (n : Nat) (i : Int) : Hg n (.int i)
  | str (n : Nat) (s : Str) (h : PyData.strOk s = true) : Hg n (.str s)
  | bl (n : Nat) (b : Bool) : Hg n (.bool b)
  | non (n : Nat) : Hg n .none
  | tup {n : Nat} {xs : List D} : (∀ x ∈ xs, Hg n x) → Hg (n + 1) (.tuple xs)
  | lst {n : Nat} {xs : List D} : (∀ x ∈ xs, Hg n x) → Hg (n + 1) (.list xs)
theorem Hg.ok : ∀ {n : Nat} {x : D}, Hg n x → PyData.canLay0 x = true ∧ PyData.depth x ≤ n + 1 := by
  have aux : ∀ {n : Nat} {xs : List D}, (∀ x ∈ xs, PyData.canLay0 x = true ∧ PyData.depth x ≤ n + 1) → PyData.canLayAll0 xs = true ∧ PyData.depthAll xs ≤ n + 1 := by
    intro n xs
    induction xs with
    | nil => intro _; exact ⟨rfl, by simp [PyData.depthAll]⟩
    | cons x r ih =>
      intro h
      obtain ⟨a, b⟩ := h x List.mem_cons_self
      obtain ⟨a', b'⟩ := ih fun y hy => h y (List.mem_cons_of_mem _ hy)
      refine ⟨by rw [PyData.canLayAll0, a, a']; rfl, ?_⟩
      rw [PyData.depthAll]
      omega
  intro n x h
  induction h with
  | int n i => exact ⟨rfl, by simp [PyData.depth]⟩
  | str n i h => exact ⟨h, by simp [PyData.depth]⟩
  | bl n i => exact ⟨rfl, by simp [PyData.depth]⟩
  | non n => exact ⟨rfl, by simp [PyData.depth]⟩
  | tup h ih =>
    obtain ⟨a, b⟩ := aux ih
    exact ⟨by rw [PyData.canLay0]; exact a, by rw [PyData.depth]; omega⟩
  | lst h ih =>
    obtain ⟨a, b⟩ := aux ih
    exact ⟨by rw [PyData.canLay0]; exact a, by rw [PyData.depth]; omega⟩
theorem Hg.okEq {n : Nat} {x : D} (h : Hg n x) (hn : n ≤ 60) : Ev.okEq x = true := by
  obtain ⟨a, b⟩ := h.ok
  show (PyData.canLay0 x && decide (PyData.depth x ≤ 64)) = true
  rw [a, Bool.true_and, decide_eq_true_eq]
  omega
theorem Hg.nil {n : Nat} : ∀ x ∈ ([] : List D), Hg n x := fun x h => by cases h
theorem Hg.cons {n : Nat} {y : D} {ys : List D} (h : Hg n y) (r : ∀ x ∈ ys, Hg n x) : ∀ x ∈ y :: ys, Hg n x := fun x hx => by
  rcases List.mem_cons.mp hx with rfl | hx
  · exact h
  · exact r x hx
theorem Hg.map {n : Nat} {ι : Type} {enc : ι → D} (h : ∀ a, Hg n (enc a)) (xs : List ι) : ∀ x ∈ xs.map enc, Hg n x := fun x hx => by
  obtain ⟨a, _, rfl⟩ := List.mem_map.mp hx
  exact h a
/-- the items at places that p lets -/
def keepI {ι : Type} (p : Nat → Bool) : Nat → List ι → List ι
  | _, [] => []
  | i, x :: r => if p i = true then x :: keepI p (i + 1) r else keepI p (i + 1) r
section
variable {ι : Type} {enc : ι → D} {tg : CT} {cd : Env → Store → Res Bool} {inner : Env → Store → Res (List D)} {e0 : Env} {M : Store}
theorem comp_enumF {p : Nat → Bool} {g : ι → D} : ∀ {xs : List ι} {j : Nat}, (∀ (i : Nat) x, x ∈ xs → ∃ e', asgT tg (.d (.tuple [.int (i : Nat), enc x])) e0 = some e' ∧ cd e' M = .ok (p i) M ∧ (p i = true → inner e' M = .ok [g x] M)) →
    compL tg cd inner e0 (enumD (xs.map enc) j) M = .ok ((keepI p j xs).map g) M
  | [], _, _ => rfl
  | x :: xs, j, h => by
    obtain ⟨e', h1, h2, h3⟩ := h j x List.mem_cons_self
    show withO (asgT tg (.d (.tuple [.int (j : Nat), enc x])) e0) (fun e1 => (cd e1 M).bind fun b M1 => if b = true then (inner e1 M1).bind fun ys M2 => (compL tg cd inner e0 (enumD (xs.map enc) (j + 1)) M2).bind fun zs M3 => .ok (ys ++ zs) M3 else compL tg cd inner e0 (enumD (xs.map enc) (j + 1)) M1) = _
    have ih := comp_enumF (p := p) (g := g) (xs := xs) (j := j + 1) fun i y hy => h i y (List.mem_cons_of_mem _ hy)
    rw [h1, w_ok, h2, b_ok]
    unfold keepI
    cases hp : p j with
    | true =>
      rw [if_pos rfl, h3 hp, b_ok, ih, b_ok, if_pos rfl]
      rfl
    | false =>
      rw [if_neg Bool.false_ne_true, ih, if_neg Bool.false_ne_true]
theorem keep_range {α : Type} (p : Nat → Bool) (f : Nat → α) : ∀ (xs : List α) (j : Nat), (∀ i, (h : i < xs.length) → f (j + i) = xs[i]) → (((List.range' j xs.length).filter p).map f) = keepI p j xs
  | [], _, _ => rfl
  | x :: xs, j, h => by
    have h0 := h 0 (by simp)
    simp at h0
    have ih := keep_range p f xs (j + 1) fun i hi => by
      have := h (i + 1) (by simpa using hi)
      simp at this
      rw [← this]
      congr 1
      omega
    rw [List.length_cons, List.range'_succ, List.filter_cons]
    unfold keepI
    cases hp : p j with
    | true => rw [if_pos rfl, if_pos rfl, List.map_cons, ih, h0]
    | false => rw [if_neg Bool.false_ne_true, if_neg Bool.false_ne_true, ih]
end
end Ev
namespace Ev
open PySem
section
variable {κ : Type} [DecidableEq κ] {kvs : List (κ × D)} {k j : κ} {v : D}
theorem putD_le : (putD kvs k v).length ≤ kvs.length + 1 := by
  unfold putD
  split <;> simp
theorem valD_nil : valD ([] : List (κ × D)) k = none := rfl
theorem valD_cons {p : κ × D} : valD (p :: kvs) k = if p.1 = k then some p.2 else valD kvs k := by
  unfold valD
  rw [List.find?_cons]
  by_cases h : p.1 = k
  · simp [h]
  · simp [h]
theorem valD_put : valD (putD kvs k v) j = if j = k then some v else valD kvs j := by
  have aux1 : ∀ kvs : List (κ × D), valD (kvs.map fun kv => if kv.1 = k then (kv.1, v) else kv) j = if j = k then (if kvs.any (fun kv => decide (kv.1 = k)) = true then some v else none) else valD kvs j := by
    intro kvs
    induction kvs with
    | nil => simp [valD_nil]
    | cons p r ih =>
      rw [List.map_cons, valD_cons, valD_cons, ih]
      by_cases h1 : p.1 = k
      · by_cases h2 : j = k
        · subst h2; simp [h1]
        · have h3 : ¬ k = j := fun e => h2 e.symm
          have h4 : ¬ p.1 = j := fun e => h2 (e.symm.trans h1)
          simp [h1, h2, h3]
      · by_cases h2 : j = k
        · subst h2
          rw [if_neg h1, if_neg h1, if_pos rfl, if_pos rfl, List.any_cons, decide_eq_false h1, Bool.false_or]
        · simp [h1, h2]
  have aux2 : ∀ kvs : List (κ × D), kvs.any (fun kv => decide (kv.1 = k)) = false → valD (kvs ++ [(k, v)]) j = if j = k then some v else valD kvs j := by
    intro kvs
    induction kvs with
    | nil => 
      intro _
      by_cases h : j = k
      · subst h; simp [valD_cons]
      · have : ¬ k = j := fun e => h e.symm
        simp [valD_cons, valD_nil, h, this]
    | cons p r ih =>
      intro h
      rw [List.any_cons, Bool.or_eq_false_iff] at h
      have h1 : ¬ p.1 = k := by simpa using h.1
      rw [List.cons_append, valD_cons, ih h.2, valD_cons]
      by_cases h2 : j = k
      · subst h2; simp [h1]
      · simp [h2]
  unfold putD
  split
  · rename_i h
    rw [aux1, h]; simp
  · rename_i h
    exact aux2 kvs (Bool.eq_false_iff.mpr h)
end
end Ev
namespace Ev
open PySem
theorem Hg.refl : ∀ {n : Nat} {x : D}, Hg n x → PyData.eqv x x = true := by
  intro n x h
  have aux : ∀ {xs : List D}, (∀ x ∈ xs, PyData.eqv x x = true) → PyData.eqvAll xs xs = true := by
    intro xs
    induction xs with
    | nil => intro _; rfl
    | cons x r ih =>
      intro h
      show (PyData.eqv x x && PyData.eqvAll r r) = true
      rw [h x List.mem_cons_self, ih fun y hy => h y (List.mem_cons_of_mem _ hy)]
      rfl
  induction h with
  | int n i => show (i == i) = true; simp
  | str n i h => show (i == i) = true; simp
  | bl n i => show (i == i) = true; simp
  | non n => rfl
  | tup h ih => exact aux ih
  | lst h ih => exact aux ih
theorem ne_same {n : Nat} {x : D} {M : Store} (h : Hg n x) (hn : n ≤ 60) : cmpW .ne (.d x) (.d x) M = some false := by
  show (eqD x x).map (!·) = _
  unfold eqD
  split
  · rw [h.refl]; rfl
  · rw [if_pos ⟨h.okEq hn, h.okEq hn⟩, h.refl]; rfl
theorem eq_same {n : Nat} {x : D} {M : Store} (h : Hg n x) (hn : n ≤ 60) : cmpW .eq (.d x) (.d x) M = some true := by
  show eqD x x = _
  unfold eqD
  split
  · rw [h.refl]
  · rw [if_pos ⟨h.okEq hn, h.okEq hn⟩, h.refl]
theorem Sm.nil {n : Nat} : ∀ x ∈ ([] : List D), Sm n x := fun x h => by cases h
theorem Sm.cons {n : Nat} {y : D} {ys : List D} (h : Sm n y) (r : ∀ x ∈ ys, Sm n x) : ∀ x ∈ y :: ys, Sm n x := fun x hx => by
  rcases List.mem_cons.mp hx with rfl | hx
  · exact h
  · exact r x hx
theorem Sm.map {n : Nat} {ι : Type} {enc : ι → D} (h : ∀ a, Sm n (enc a)) (xs : List ι) : ∀ x ∈ xs.map enc, Sm n x := fun x hx => by
  obtain ⟨a, _, rfl⟩ := List.mem_map.mp hx
  exact h a
end Ev
namespace Ev
open PySem
theorem cut_to_s {xs : List D} (k : Nat) : cutD xs none (some ((k : Int) + 1)) = xs.take (k + 1) := cut_to (k + 1)
theorem e_fdiv3 {M : Store} {md : Md} {i j : Int} (h : 0 < j ∧ j < 18446744073709551616) : binW md .fdiv (.d (.int i)) (.d (.int j)) M = .ok (.d (.int (i / j))) M := e_fdiv h.1 h.2
end Ev
namespace Ev
theorem Ok.ret' {α : Type} {r : Res α} {P : α → Store → Prop} (h : ∃ a M, r = .ok a M ∧ P a M) : Ok r P := h
end Ev
namespace Ev
/-- the statements behind the first n -/
def dropS : CSs → Nat → CSs
  | b, 0 => b
  | .cons _ r, n + 1 => dropS r n
  | .nil, _ => .nil
end Ev
set_option Elab.async false
set_option linter.all false
set_option maxRecDepth 100000
/-! Pb: short words -/
namespace Ev
open PySem
theorem evEs_hd {C : Cfg} {b : CEs} {e e' : Env} {M M' : Store} (h : e = e') (h2 : M = M') : evEs C b e M = evEs C b e' M' := by rw [h, h2]
theorem evB_hd {C : Cfg} {b : CB} {e e' : Env} {M M' : Store} (h : e = e') (h2 : M = M') : evB C b e M = evB C b e' M' := by rw [h, h2]
theorem evI_hd {C : Cfg} {b : CI} {e e' : Env} {M M' : Store} (h : e = e') (h2 : M = M') : evI C b e M = evI C b e' M' := by rw [h, h2]
theorem evO_hd {C : Cfg} {b : CO} {e e' : Env} {M M' : Store} (h : e = e') (h2 : M = M') : evO C b e M = evO C b e' M' := by rw [h, h2]
theorem evC_hd {C : Cfg} {b : CC} {e e' : Env} {M M' : Store} (h : e = e') (h2 : M = M') : evC C b e M = evC C b e' M' := by rw [h, h2]
theorem callF_hd {T : List Fn} {G : List D} {GD : Tabs} {F k f : Nat} {ws ws' : List W} {M M' : Store} (h : ws = ws') (h2 : M = M') : callF T G GD F k f ws M = callF T G GD F k f ws' M' := by rw [h, h2]
theorem forL_hd {tg : CT} {body : Env → Store → Res Fl} {xs xs' : List D} {e e' : Env} {M M' : Store} (h0 : xs = xs') (h : e = e') (h2 : M = M') : forL tg body xs e M = forL tg body xs' e' M' := by rw [h0, h, h2]
theorem compL_hd {tg : CT} {cd : Env → Store → Res Bool} {inner : Env → Store → Res (List D)} {xs xs' : List D} {e e' : Env} {M M' : Store} (h0 : xs = xs') (h : e = e') (h2 : M = M') : compL tg cd inner e xs M = compL tg cd inner e' xs' M' := by rw [h0, h, h2]
theorem after_hd {r r' : Res Fl} {f : Env → Store → Res Fl} (h : r = r') : after r f = after r' f := by rw [h]
theorem rng1_n {n : Nat} {M : Store} (h : n ≤ 1000000) : rngK (.d (.int (n : Nat))) M = .ok (.items (range0 n)) M := rngK_n h
theorem take_mk {α : Type} {M R : List α} {k : Nat} : (M ++ R).take (M.length + k) = M ++ R.take k := by
  rw [List.take_append, List.take_of_length_le (by omega)]
  congr 1
  congr 1
  omega
theorem must_T {α : Type} {r : Res α} : must True r = r := must_ok trivial
end Ev
open Ev PySem
local macro_rules | `(tactic| simp! [$xs,*]) => `(tactic| try simp only [E_var, E_cst, E_glob, E_bin, negW_int, E_neg, E_cmp, E_isN, E_notN, iteS_t, iteS_f, iteE_t, iteE_f, andB_t, andB_f, orB_t, orB_f, andV_t, andV_f, orV_t, orV_f, notV_b, chE_t, chE_f, chB_t, chB_f, E_chain, E_andV, E_orV, E_notV, E_ite, E_tup, E_lst, E_sub, E_slc, E_call, E_blt, E_isi, E_mth, E_comp, E_comp2, E_dnewK, E_dnewT, E_dcomp, intK_i, O_no, O_so, C_no, C_so, Es_nil, Es_cons, B_and, B_or, B_not, B_tru, B_cmp, B_isN, B_notN, B_chain, enumK_l, enumK_t, I_ex, I_rng1, I_enum, S_set, S_par, S_setI, S_expr, S_ret, S_retN, S_ifs, S_for, S_whl, S_pass, S_brk, S_cont, thenK_n, thenK_r, thenK_b, thenK_c, Ss_nil, I_forI, I_compI, b_ok, w_ok, e_subT, e_subL, e_eqI, e_neI, e_ltI, e_leI, e_gtI, e_geI, e_eqS, e_neS, e_add, e_sub, e_pow18, e_addT, e_addLL, e_mkF, e_mkM, e_lenT, e_lenL, e_int, e_abs, e_max2, e_min2, e_listL, e_listT, e_listS, e_tupleL, e_tupleT, e_slcT, e_slcL, e_truT, e_truL, e_truB, e_isNN, e_isNI, e_isNB, e_isNS, e_isNT, e_isNL, e_frzD, e_frzs0, e_frzsD, e_asgN, e_asgT, e_asgs0, e_asgs1, e_leaveD, e_leaveN, e_afterN, e_afterC, e_afterB, e_afterR, e_itT, e_itL, e_itS, e_boolR, e_isiT, e_isiL, e_isiI, e_isiB, e_isiS, e_isiN, e_eqB, e_neB, t_tt, t_ti, t_ts, t_tb, t_it, t_ii, t_is, t_ib, t_st, t_si, t_ss, t_sb, t_bt, t_bi, t_bs, t_bb, t_nt, t_ni, t_ns, t_nb, e_oneD, e_wipe0, e_wipe1, atI_0, atI_1, atI_2, atI_3, setAll_0, setAll_1, take_self, take_snoc, take_snoc0, List.set_cons_zero, List.set_cons_succ, List.getElem?_cons_zero, List.getElem?_cons_succ, Option.bind_some, Option.bind_none, Option.map_some, Option.map_none, id_eq, startE, List.map_cons, List.map_nil, List.length_cons, List.length_nil, List.replicate_succ, List.replicate_zero, List.append_nil, List.nil_append, List.cons_append, List.reverse_nil, decide_eq_true_eq, Bool.not_eq_true', Bool.not_true, Bool.not_false, decide_true, decide_false, if_true, if_false, ite_true, ite_false, reduceIte, Bool.and_true, Bool.and_false, Bool.true_and, Bool.false_and, Bool.or_true, Bool.or_false, Bool.true_or, Bool.false_or, Bool.false_eq_true, Bool.true_eq_false, not_true_eq_false, not_false_eq_true, Nat.reduceAdd, Nat.reduceSub, Nat.reduceLT, Nat.zero_add, Option.some.injEq, decide_eq_false_iff_not, b_assoc, withO_bind, lim_bindR, must_bind, List.take_length, List.isEmpty_cons, List.isEmpty_nil, Int.reduceEq, Int.reduceLT, Int.reduceLE, Int.reduceAdd, Int.reduceSub, Int.reduceNeg, Int.reduceMul, Nat.reduceEqDiff, Nat.reduceMul, Int.zero_add, Int.add_zero, reduceCtorEq, Int.natCast_zero, Int.natCast_one, Int.cast_ofNat_Int, must_T, take_mk, List.take_nil, List.take_zero, lstK_l, lstK_bind, c_append, c_pop0, c_pop, c_remove, isLst_l, isDic_K, isDic_T, c_tyA, c_tyP, c_tyP0, c_tyI, c_tyR, c_tyC, c_tyIL, c_tyCL, c_tyTC, c_tcount, c_lsetT, c_lsetL, I_enumT, enumTK_t, c_tyG1, c_tyG2, subC_l, subC_ki, subC_ks, subC_t, c_sub, c_set, setC_l, setC_ki, setC_ks, setC_t, lenC_l, lenC_k, c_len, c_tuple, c_list, c_slc, c_frz, frzC_l, e_frzsR, memC_l, memC_ki, memC_ks, memC_t, c_in, c_notin, c_inL, c_notinL, c_inT, c_notinT, c_truL, get_m0, get_m1, get_m2, get_m3, get_m4, get_m5, set_m0, set_m1, set_m2, set_m3, set_m4, set_m5, List.append_assoc, List.length_append, List.take_left, List.take_succ_cons, Nat.le_refl, Nat.le_add_right, c_leaveF, leavC_l, lstW_F, lstW_M, lstW_N, gW_i, gW_s, gW_t, gW_n, gW_b, E_ddisp, dispN, dispF, E_dsub, E_dgetd, E_kget, E_kin, B_kin, kgetK_s, kinK_s, kinB_s, E_fmt, fmtK_s, fmtK_i, E_fstr, E_lockE, E_compN, keysK_r, I_keys, oneOf_ok, enumK_r, S_lockS, isDic_W, subC_w, subC_lki, subC_lks, subC_wki, subC_wks, subC_lt, lenC_w, memC_wki, memC_wks, isNC_l, c_isN, c_leaveN, c_lock, c_unlock, c_lkKeys, lockC_K, lockC_T, unlockC_K, unlockC_T, lkKeysC_K, lkKeysC_T, E_exIs, E_exFld, isX_x, fldX_x, S_raise, S_tryS, tryX_ok, tryX_exn, tryEnd_d, b_exn, nox_k, nox_b, nox_w, nox_l, nox_m, nox_n, $xs,*])
local macro_rules | `(tactic| dsimp! [$xs,*]) => `(tactic| (simp! [$xs,*]; repeat (rw [Ev.Ss_cons]; simp! [$xs,*])))
set_option Elab.async false
set_option linter.all false
set_option maxRecDepth 100000
set_option maxHeartbeats 0
namespace K13
open PySem Ev
def s_frames : Str := A [102, 114, 97, 109, 101, 115]
def s_pages : Str := A [112, 97, 103, 101, 115]
def s_store : Str := A [115, 116, 111, 114, 101]
def s_start : Str := A [115, 116, 97, 114, 116]
def s_copy : Str := A [99, 111, 112, 121]
-- 0: replaced(values, place, value); 0 values 1 place 2 value
-- written: {}; result: []
def b_replaced : CSs := (.cons (.ret (.bin .F .add (.bin .F .add (.slc .F (.var 0) .no (.so (.var 1))) (.tup (.cons (.var 2) .nil))) (.slc .F (.var 0) (.so (.bin .F .add (.var 1) (.cst (.int 1)))) .no))) .nil)
def f_replaced : Fn := ⟨3, 3, .F, b_replaced⟩
-- 1: stored_in_frames(memory, page, place, word); 0 memory 1 page 2 place 3 word 4 frame 5 words 6 table 7 frames
-- written: {}; result: []
def b_stored_in_frames : CSs := (.cons (.par [6, 7] (.cons (.sub (.var 0) (.cst (.int 1))) (.cons (.sub (.var 0) (.cst (.int 2))) .nil))) (.cons (.set (.name 4) (.sub (.var 6) (.var 1))) (.cons (.set (.name 5) (.call 0 (.cons (.sub (.var 7) (.var 4)) (.cons (.var 2) (.cons (.var 3) .nil))))) (.cons (.ifs (.cmp .gt (.mth .tcount (.var 6) (.cons (.var 4) .nil)) (.cst (.int 1))) (.cons (.set (.name 4) (.call 2 (.cons (.var 6) .nil))) (.cons (.set (.name 6) (.call 0 (.cons (.var 6) (.cons (.var 1) (.cons (.var 4) .nil))))) .nil)) .nil) (.cons (.ret (.tup (.cons (.cst (.str s_frames)) (.cons (.var 6) (.cons (.call 0 (.cons (.var 7) (.cons (.var 4) (.cons (.var 5) .nil)))) .nil))))) .nil)))))
def f_stored_in_frames : Fn := ⟨4, 8, .F, b_stored_in_frames⟩
-- 2: free_frame(table); 0 table 1 frame
-- written: {}; result: []
def b_free_frame : CSs := (.cons (.ret (.blt .min1 .F (.cons (.comp .F [1] (.name 1) (.rng1 (.blt .len .F (.cons (.var 0) .nil))) (.so (.cmp .notin (.var 1) (.var 0))) (.var 1)) .nil))) .nil)
def f_free_frame : Fn := ⟨1, 2, .F, b_free_frame⟩
-- 3: copied_in_frames(memory, target, source); 0 memory 1 target 2 source 3 table
-- written: {}; result: []
def b_copied_in_frames : CSs := (.cons (.set (.name 3) (.sub (.var 0) (.cst (.int 1)))) (.cons (.ret (.tup (.cons (.cst (.str s_frames)) (.cons (.call 0 (.cons (.var 3) (.cons (.var 1) (.cons (.sub (.var 3) (.var 2)) .nil)))) (.cons (.sub (.var 0) (.cst (.int 2))) .nil))))) .nil))
def f_copied_in_frames : Fn := ⟨3, 4, .F, b_copied_in_frames⟩
-- 4: stored_in_pages(memory, page, place, word); 0 memory 1 page 2 place 3 word 4 pages
-- written: {}; result: []
def b_stored_in_pages : CSs := (.cons (.set (.name 4) (.sub (.var 0) (.cst (.int 1)))) (.cons (.ret (.tup (.cons (.cst (.str s_pages)) (.cons (.call 0 (.cons (.var 4) (.cons (.var 1) (.cons (.call 0 (.cons (.sub (.var 4) (.var 1)) (.cons (.var 2) (.cons (.var 3) .nil)))) .nil)))) .nil)))) .nil))
def f_stored_in_pages : Fn := ⟨4, 5, .F, b_stored_in_pages⟩
-- 5: copied_in_pages(memory, target, source); 0 memory 1 target 2 source 3 pages
-- written: {}; result: []
def b_copied_in_pages : CSs := (.cons (.set (.name 3) (.sub (.var 0) (.cst (.int 1)))) (.cons (.ret (.tup (.cons (.cst (.str s_pages)) (.cons (.call 0 (.cons (.var 3) (.cons (.var 1) (.cons (.sub (.var 3) (.var 2)) .nil)))) .nil)))) .nil))
def f_copied_in_pages : Fn := ⟨3, 4, .F, b_copied_in_pages⟩
-- 6: memory_of(pages, way); 0 pages 1 way
-- written: {}; result: []
def b_memory_of : CSs := (.cons (.ifs (.cmp .eq (.var 1) (.cst (.str s_pages))) (.cons (.ret (.tup (.cons (.cst (.str s_pages)) (.cons (.var 0) .nil)))) .nil) .nil) (.cons (.ret (.tup (.cons (.cst (.str s_frames)) (.cons (.blt .tupr .F (.cons (.blt .len .F (.cons (.var 0) .nil)) .nil)) (.cons (.var 0) .nil))))) .nil))
def f_memory_of : Fn := ⟨2, 2, .F, b_memory_of⟩
-- 7: words_of(memory, page); 0 memory 1 page
-- written: {}; result: []
def b_words_of : CSs := (.cons (.ifs (.cmp .eq (.sub (.var 0) (.cst (.int 0))) (.cst (.str s_pages))) (.cons (.ret (.sub (.sub (.var 0) (.cst (.int 1))) (.var 1))) .nil) .nil) (.cons (.ret (.sub (.sub (.var 0) (.cst (.int 2))) (.sub (.sub (.var 0) (.cst (.int 1))) (.var 1)))) .nil))
def f_words_of : Fn := ⟨2, 2, .F, b_words_of⟩
-- 8: word_at(memory, page, place); 0 memory 1 page 2 place
-- written: {}; result: []
def b_word_at : CSs := (.cons (.ret (.sub (.call 7 (.cons (.var 0) (.cons (.var 1) .nil))) (.var 2))) .nil)
def f_word_at : Fn := ⟨3, 3, .F, b_word_at⟩
-- 9: store_word(memory, page, place, word); 0 memory 1 page 2 place 3 word
-- written: {}; result: []
def b_store_word : CSs := (.cons (.ifs (.cmp .eq (.sub (.var 0) (.cst (.int 0))) (.cst (.str s_pages))) (.cons (.ret (.call 4 (.cons (.var 0) (.cons (.var 1) (.cons (.var 2) (.cons (.var 3) .nil)))))) .nil) .nil) (.cons (.ret (.call 1 (.cons (.var 0) (.cons (.var 1) (.cons (.var 2) (.cons (.var 3) .nil)))))) .nil))
def f_store_word : Fn := ⟨4, 4, .F, b_store_word⟩
-- 10: copy_page(memory, target, source); 0 memory 1 target 2 source
-- written: {}; result: []
def b_copy_page : CSs := (.cons (.ifs (.cmp .eq (.sub (.var 0) (.cst (.int 0))) (.cst (.str s_pages))) (.cons (.ret (.call 5 (.cons (.var 0) (.cons (.var 1) (.cons (.var 2) .nil))))) .nil) .nil) (.cons (.ret (.call 3 (.cons (.var 0) (.cons (.var 1) (.cons (.var 2) .nil))))) .nil))
def f_copy_page : Fn := ⟨3, 3, .F, b_copy_page⟩
-- 11: frames_in_use(memory); 0 memory
-- written: {}; result: []
def b_frames_in_use : CSs := (.cons (.ifs (.cmp .eq (.sub (.var 0) (.cst (.int 0))) (.cst (.str s_pages))) (.cons (.ret (.blt .len .F (.cons (.sub (.var 0) (.cst (.int 1))) .nil))) .nil) .nil) (.cons (.ret (.blt .lset .F (.cons (.sub (.var 0) (.cst (.int 1))) .nil))) .nil))
def f_frames_in_use : Fn := ⟨1, 1, .F, b_frames_in_use⟩
-- 12: shares(memory, page, other); 0 memory 1 page 2 other
-- written: {}; result: []
def b_shares : CSs := (.cons (.ifs (.or (.cmp .eq (.sub (.var 0) (.cst (.int 0))) (.cst (.str s_pages))) (.cmp .eq (.var 1) (.var 2))) (.cons (.ret (.cst (.bool false))) .nil) .nil) (.cons (.ret (.cmp .eq (.sub (.sub (.var 0) (.cst (.int 1))) (.var 1)) (.sub (.sub (.var 0) (.cst (.int 1))) (.var 2)))) .nil))
def f_shares : Fn := ⟨3, 3, .F, b_shares⟩
-- 13: memory_behind(memory, deeds); 0 memory 1 deeds 2 deed
-- written: {}; result: []
def b_memory_behind : CSs := (.cons (.forS (.name 2) (.ex (.var 1)) (.cons (.ifs (.cmp .eq (.sub (.var 2) (.cst (.int 0))) (.cst (.str s_store))) (.cons (.set (.name 0) (.call 9 (.cons (.var 0) (.cons (.sub (.var 2) (.cst (.int 1))) (.cons (.sub (.var 2) (.cst (.int 2))) (.cons (.sub (.var 2) (.cst (.int 3))) .nil)))))) .nil) (.cons (.set (.name 0) (.call 10 (.cons (.var 0) (.cons (.sub (.var 2) (.cst (.int 1))) (.cons (.sub (.var 2) (.cst (.int 2))) .nil))))) .nil)) .nil)) (.cons (.ret (.var 0)) .nil))
def f_memory_behind : Fn := ⟨2, 3, .F, b_memory_behind⟩
-- 14: origins_of(many, deeds); 0 many 1 deeds 2 origins 3 number 4 deed 5 page
-- written: {'origins': [()]}; result: []
def b_origins_of : CSs := (.cons (.set (.name 2) (.comp .M [5] (.name 5) (.rng1 (.var 0)) .no (.tup (.cons (.cst (.str s_start)) (.cons (.var 5) .nil))))) (.cons (.forS (.tup (.cons (.name 3) (.cons (.name 4) .nil))) (.enumT (.var 1)) (.cons (.ifs (.cmp .eq (.sub (.var 4) (.cst (.int 0))) (.cst (.str s_store))) (.cons (.setI (.var 2) (.sub (.var 4) (.cst (.int 1))) (.tup (.cons (.cst (.str s_store)) (.cons (.var 3) .nil)))) .nil) (.cons (.setI (.var 2) (.sub (.var 4) (.cst (.int 1))) (.sub (.var 2) (.sub (.var 4) (.cst (.int 2))))) .nil)) .nil)) (.cons (.ret (.blt .tuple .F (.cons (.var 2) .nil))) .nil)))
def f_origins_of : Fn := ⟨2, 6, .F, b_origins_of⟩
-- 15: _law_tape(script); 0 script 1 mixed 2 cell
-- written: {}; result: [()]
def b_law_tape : CSs := (.cons (.set (.name 1) (.cst (.int 7))) (.cons (.forS (.name 2) (.ex (.var 0)) (.cons (.set (.name 1) (.bin .F .mod (.blt .int .F (.cons (.bin .F .add (.bin .F .mul (.var 1) (.cst (.int 31))) (.blt .abs .F (.cons (.blt .int .F (.cons (.var 2) .nil)) .nil))) .nil)) (.cst (.int 2147483647)))) .nil)) (.cons (.ret (.lst .M (.cons (.blt .list .F (.cons (.var 0) .nil)) (.cons (.cst (.int 0)) (.cons (.cst (.int 0)) (.cons (.var 1) .nil)))))) .nil)))
def f_law_tape : Fn := ⟨1, 3, .M, b_law_tape⟩
-- 16: _law_draw(tape, many); 0 tape 1 many 2 number 3 place
-- written: {'tape': [()]}; result: []
def b_law_draw : CSs := (.cons (.ifs (.cmp .eq (.sub (.var 0) (.cst (.int 2))) (.cst (.int 0))) (.cons (.set (.name 3) (.sub (.var 0) (.cst (.int 1)))) (.cons (.set (.name 2) (.cst (.int 0))) (.cons (.ifs (.cmp .lt (.var 3) (.blt .len .F (.cons (.sub (.var 0) (.cst (.int 0))) .nil))) (.cons (.set (.name 2) (.blt .abs .F (.cons (.blt .int .F (.cons (.sub (.sub (.var 0) (.cst (.int 0))) (.var 3)) .nil)) .nil))) .nil) (.cons (.setI (.var 0) (.cst (.int 3)) (.bin .F .mod (.blt .int .F (.cons (.bin .F .add (.bin .F .add (.bin .F .mul (.sub (.var 0) (.cst (.int 3))) (.cst (.int 48271))) (.var 3)) (.cst (.int 1))) .nil)) (.cst (.int 2147483647)))) (.cons (.set (.name 2) (.sub (.var 0) (.cst (.int 3)))) .nil))) (.cons (.setI (.var 0) (.cst (.int 1)) (.bin .F .add (.var 3) (.cst (.int 1)))) (.cons (.ifs (.cmp .lt (.var 2) (.bin .F .pow (.cst (.int 10)) (.cst (.int 18)))) (.cons (.set (.name 2) (.bin .F .mod (.blt .int .F (.cons (.bin .F .add (.bin .F .add (.bin .F .mul (.var 2) (.cst (.int 48271))) (.bin .F .mul (.var 3) (.cst (.int 69621)))) (.cst (.int 5))) .nil)) (.cst (.int 2147483647)))) (.cons (.set (.name 2) (.bin .F .mod (.blt .int .F (.cons (.bin .F .mul (.var 2) (.cst (.int 69621))) .nil)) (.cst (.int 2147483629)))) (.cons (.ret (.bin .F .mod (.blt .int .F (.cons (.var 2) .nil)) (.blt .max2 .F (.cons (.var 1) (.cons (.cst (.int 1)) .nil))))) .nil))) .nil) (.cons (.setI (.var 0) (.cst (.int 2)) (.var 2)) .nil)))))) .nil) (.cons (.set (.name 2) (.sub (.var 0) (.cst (.int 2)))) (.cons (.setI (.var 0) (.cst (.int 2)) (.bin .F .fdiv (.var 2) (.blt .max2 .F (.cons (.var 1) (.cons (.cst (.int 2)) .nil))))) (.cons (.ret (.bin .F .mod (.blt .int .F (.cons (.var 2) .nil)) (.blt .max2 .F (.cons (.var 1) (.cons (.cst (.int 1)) .nil))))) .nil))))
def f_law_draw : Fn := ⟨2, 4, .F, b_law_draw⟩
-- 17: _law_pick(tape, menu); 0 tape 1 menu
-- written: {'tape': [()]}; result: []
def b_law_pick : CSs := (.cons (.ret (.sub (.var 1) (.call 16 (.cons (.var 0) (.cons (.blt .len .F (.cons (.var 1) .nil)) .nil))))) .nil)
def f_law_pick : Fn := ⟨2, 2, .F, b_law_pick⟩
-- 18: _law_turns(tape, many); 0 tape 1 many 2 left 3 turns 4 k
-- written: {'turns': [()], 'left': [()], 'tape': [()]}; result: []
def b_law_turns : CSs := (.cons (.set (.name 2) (.blt .listr .M (.cons (.var 1) .nil))) (.cons (.set (.name 3) (.lst .M .nil)) (.cons (.forS (.name 4) (.rng1 (.var 1)) (.cons (.expr (.mth .append (.var 3) (.cons (.mth .pop (.var 2) (.cons (.call 16 (.cons (.var 0) (.cons (.blt .len .F (.cons (.var 2) .nil)) .nil))) .nil)) .nil))) .nil)) (.cons (.ret (.slc .F (.var 3) .no (.so (.sub (.lst .F (.cons (.var 1) (.cons (.var 1) (.cons (.cst (.int 1)) .nil)))) (.call 16 (.cons (.var 0) (.cons (.cst (.int 3)) .nil))))))) .nil))))
def f_law_turns : Fn := ⟨2, 5, .F, b_law_turns⟩
-- 19: _law_shuffled(tape, menu); 0 tape 1 menu 2 left 3 turned 4 k
-- written: {'turned': [()], 'left': [()], 'tape': [()]}; result: []
def b_law_shuffled : CSs := (.cons (.set (.name 2) (.blt .list .M (.cons (.var 1) .nil))) (.cons (.set (.name 3) (.lst .M .nil)) (.cons (.forS (.name 4) (.rng1 (.blt .len .F (.cons (.var 1) .nil))) (.cons (.expr (.mth .append (.var 3) (.cons (.mth .pop (.var 2) (.cons (.call 16 (.cons (.var 0) (.cons (.blt .len .F (.cons (.var 2) .nil)) .nil))) .nil)) .nil))) .nil)) (.cons (.ret (.var 3)) .nil))))
def f_law_shuffled : Fn := ⟨2, 5, .F, b_law_shuffled⟩
-- 20: _law_put(told, place, thing); 0 told 1 place 2 thing
-- written: {}; result: []
def b_law_put : CSs := (.cons (.ret (.bin .F .add (.bin .F .add (.slc .F (.var 0) .no (.so (.var 1))) (.tup (.cons (.var 2) .nil))) (.slc .F (.var 0) (.so (.bin .F .add (.var 1) (.cst (.int 1)))) .no))) .nil)
def f_law_put : Fn := ⟨3, 3, .F, b_law_put⟩
-- 21: _law_same(told, wanted); 0 told 1 wanted 2 k
-- written: {}; result: []
def b_law_same : CSs := (.cons (.ifs (.tru (.isi (.var 1) .tuple)) (.cons (.ifs (.or (.not (.tru (.isi (.var 0) .tuple))) (.cmp .ne (.blt .len .F (.cons (.var 0) .nil)) (.blt .len .F (.cons (.var 1) .nil)))) (.cons (.ret (.cst (.bool false))) .nil) .nil) (.cons (.forS (.name 2) (.rng1 (.blt .len .F (.cons (.var 1) .nil))) (.cons (.ifs (.not (.tru (.call 21 (.cons (.sub (.var 0) (.var 2)) (.cons (.sub (.var 1) (.var 2)) .nil))))) (.cons (.ret (.cst (.bool false))) .nil) .nil) .nil)) (.cons (.ret (.cst (.bool true))) .nil))) .nil) (.cons (.ifs (.or (.isN (.var 1)) (.isN (.var 0))) (.cons (.ret (.andV (.isN (.var 1)) (.isN (.var 0)))) .nil) .nil) (.cons (.ifs (.tru (.isi (.var 1) .str)) (.cons (.ret (.andV (.isi (.var 0) .str) (.cmp .eq (.var 0) (.var 1)))) .nil) .nil) (.cons (.ifs (.or (.cmp .ne (.isi (.var 0) .bool) (.isi (.var 1) .bool)) (.not (.tru (.isi (.var 0) .int)))) (.cons (.ret (.cst (.bool false))) .nil) .nil) (.cons (.ret (.cmp .eq (.var 0) (.var 1))) .nil)))))
def f_law_same : Fn := ⟨2, 3, .F, b_law_same⟩
-- 22: _law_word(tape); 0 tape 1 kind 2 power 3 k
-- written: {'tape': [()]}; result: []
def b_law_word : CSs := (.cons (.set (.name 1) (.call 16 (.cons (.var 0) (.cons (.cst (.int 6)) .nil)))) (.cons (.ifs (.cmp .eq (.var 1) (.cst (.int 0))) (.cons (.ret (.call 17 (.cons (.var 0) (.cons (.lst .F (.cons (.cst (.int 0)) (.cons (.cst (.int 1)) (.cons (.cst (.int 2)) (.cons (.cst (.int 31)) (.cons (.cst (.int 32)) (.cons (.cst (.int 33)) (.cons (.cst (.int 255)) (.cons (.cst (.int 256)) (.cons (.cst (.int 65535)) (.cons (.cst (.int 65536)) (.cons (.cst (.int 2147483647)) (.cons (.cst (.int 2147483648)) (.cons (.cst (.int 4294967294)) (.cons (.cst (.int 4294967295)) .nil))))))))))))))) .nil)))) .nil) .nil) (.cons (.ifs (.cmp .eq (.var 1) (.cst (.int 1))) (.cons (.set (.name 2) (.cst (.int 1))) (.cons (.forS (.name 3) (.rng1 (.call 16 (.cons (.var 0) (.cons (.cst (.int 32)) .nil)))) (.cons (.set (.name 2) (.bin .F .mul (.var 2) (.cst (.int 2)))) .nil)) (.cons (.ret (.bin .F .mod (.blt .int .F (.cons (.bin .F .add (.bin .F .add (.var 2) (.call 16 (.cons (.var 0) (.cons (.cst (.int 3)) .nil)))) (.cst (.int 4294967295))) .nil)) (.cst (.int 4294967296)))) .nil))) .nil) (.cons (.ifs (.cmp .eq (.var 1) (.cst (.int 2))) (.cons (.ret (.call 16 (.cons (.var 0) (.cons (.cst (.int 40)) .nil)))) .nil) .nil) (.cons (.ret (.bin .F .add (.bin .F .mul (.call 16 (.cons (.var 0) (.cons (.cst (.int 65536)) .nil))) (.cst (.int 65536))) (.call 16 (.cons (.var 0) (.cons (.cst (.int 65536)) .nil))))) .nil)))))
def f_law_word : Fn := ⟨1, 4, .F, b_law_word⟩
-- 23: _law_some_deed(tape, many, pages); 0 tape 1 many 2 pages 3 page 4 kind 5 place
-- written: {'tape': [()]}; result: []
def b_law_some_deed : CSs := (.cons (.set (.name 3) (.call 16 (.cons (.var 0) (.cons (.var 1) .nil)))) (.cons (.set (.name 4) (.call 16 (.cons (.var 0) (.cons (.cst (.int 7)) .nil)))) (.cons (.ifs (.cmp .lt (.var 4) (.cst (.int 3))) (.cons (.ret (.tup (.cons (.cst (.str s_copy)) (.cons (.var 3) (.cons (.call 16 (.cons (.var 0) (.cons (.var 1) .nil))) .nil))))) .nil) .nil) (.cons (.set (.name 5) (.call 16 (.cons (.var 0) (.cons (.cst (.int 8)) .nil)))) (.cons (.ret (.tup (.cons (.cst (.str s_store)) (.cons (.var 3) (.cons (.var 5) (.cons (.call 17 (.cons (.var 0) (.cons (.lst .F (.cons (.call 22 (.cons (.var 0) .nil)) (.cons (.sub (.sub (.var 2) (.var 3)) (.var 5)) (.cons (.sub (.sub (.var 2) (.call 16 (.cons (.var 0) (.cons (.var 1) .nil)))) (.var 5)) (.cons (.cst (.int 0)) .nil))))) .nil))) .nil)))))) .nil)))))
def f_law_some_deed : Fn := ⟨3, 6, .F, b_law_some_deed⟩
-- 24: _law_some_deeds(tape, many, pages); 0 tape 1 many 2 pages 3 size 4 deeds 5 k 6 page
-- written: {'tape': [()], 'deeds': [()]}; result: []
def b_law_some_deeds : CSs := (.cons (.ifs (.cmp .eq (.var 1) (.cst (.int 0))) (.cons (.ret (.lst .F .nil)) .nil) .nil) (.cons (.set (.name 3) (.ite (.cmp .eq (.call 16 (.cons (.var 0) (.cons (.cst (.int 16)) .nil))) (.cst (.int 0))) (.cst (.int 40)) (.bin .F .add (.cst (.int 6)) (.call 16 (.cons (.var 0) (.cons (.cst (.int 11)) .nil)))))) (.cons (.set (.name 4) (.lst .M .nil)) (.cons (.ifs (.cmp .eq (.call 16 (.cons (.var 0) (.cons (.cst (.int 4)) .nil))) (.cst (.int 0))) (.cons (.set (.name 6) (.call 16 (.cons (.var 0) (.cons (.var 1) .nil)))) (.cons (.set (.name 4) (.bin .M .add (.comp .F [5] (.name 5) (.rng1 (.var 1)) .no (.tup (.cons (.cst (.str s_copy)) (.cons (.var 5) (.cons (.var 6) .nil))))) (.comp .F [5] (.name 5) (.rng1 (.var 1)) .no (.tup (.cons (.cst (.str s_store)) (.cons (.call 16 (.cons (.var 0) (.cons (.var 1) .nil))) (.cons (.cst (.int 1)) (.cons (.cst (.int 5)) .nil)))))))) .nil)) .nil) (.cons (.forS (.name 5) (.rng1 (.bin .F .sub (.var 3) (.blt .len .F (.cons (.var 4) .nil)))) (.cons (.expr (.mth .append (.var 4) (.cons (.call 23 (.cons (.var 0) (.cons (.var 1) (.cons (.var 2) .nil)))) .nil))) .nil)) (.cons (.ret (.var 4)) .nil))))))
def f_law_some_deeds : Fn := ⟨3, 7, .F, b_law_some_deeds⟩
-- 25: _law_start(pages, way); 0 pages 1 way
-- written: {}; result: []
def b_law_start : CSs := (.cons (.ifs (.cmp .eq (.var 1) (.cst (.str s_pages))) (.cons (.ret (.tup (.cons (.cst (.str s_pages)) (.cons (.var 0) .nil)))) .nil) .nil) (.cons (.ret (.tup (.cons (.cst (.str s_frames)) (.cons (.blt .tupr .F (.cons (.blt .len .F (.cons (.var 0) .nil)) .nil)) (.cons (.var 0) .nil))))) .nil))
def f_law_start : Fn := ⟨2, 2, .F, b_law_start⟩
-- 26: _law_behind(memory, deed); 0 memory 1 deed 2 table 3 mine 4 words 5 pages 6 page 7 k
-- written: {}; result: []
def b_law_behind : CSs := (.cons (.ifs (.cmp .eq (.sub (.var 0) (.cst (.int 0))) (.cst (.str s_pages))) (.cons (.set (.name 5) (.sub (.var 0) (.cst (.int 1)))) (.cons (.set (.name 4) (.ite (.cmp .eq (.sub (.var 1) (.cst (.int 0))) (.cst (.str s_copy))) (.sub (.var 5) (.sub (.var 1) (.cst (.int 2)))) (.call 20 (.cons (.sub (.var 5) (.sub (.var 1) (.cst (.int 1)))) (.cons (.sub (.var 1) (.cst (.int 2))) (.cons (.sub (.var 1) (.cst (.int 3))) .nil)))))) (.cons (.ret (.tup (.cons (.cst (.str s_pages)) (.cons (.call 20 (.cons (.var 5) (.cons (.sub (.var 1) (.cst (.int 1))) (.cons (.var 4) .nil)))) .nil)))) .nil))) .nil) (.cons (.set (.name 2) (.sub (.var 0) (.cst (.int 1)))) (.cons (.ifs (.cmp .eq (.sub (.var 1) (.cst (.int 0))) (.cst (.str s_copy))) (.cons (.ret (.tup (.cons (.cst (.str s_frames)) (.cons (.call 20 (.cons (.var 2) (.cons (.sub (.var 1) (.cst (.int 1))) (.cons (.sub (.var 2) (.sub (.var 1) (.cst (.int 2)))) .nil)))) (.cons (.sub (.var 0) (.cst (.int 2))) .nil))))) .nil) .nil) (.cons (.set (.name 3) (.sub (.var 2) (.sub (.var 1) (.cst (.int 1))))) (.cons (.set (.name 4) (.call 20 (.cons (.sub (.sub (.var 0) (.cst (.int 2))) (.var 3)) (.cons (.sub (.var 1) (.cst (.int 2))) (.cons (.sub (.var 1) (.cst (.int 3))) .nil))))) (.cons (.ifs (.cmp .gt (.blt .len .F (.cons (.comp .F [6] (.name 6) (.ex (.var 2)) (.so (.cmp .eq (.var 6) (.var 3))) (.var 6)) .nil)) (.cst (.int 1))) (.cons (.set (.name 3) (.sub (.comp .F [7] (.name 7) (.rng1 (.blt .len .F (.cons (.var 2) .nil))) (.so (.cmp .notin (.var 7) (.var 2))) (.var 7)) (.cst (.int 0)))) .nil) .nil) (.cons (.ret (.tup (.cons (.cst (.str s_frames)) (.cons (.call 20 (.cons (.var 2) (.cons (.sub (.var 1) (.cst (.int 1))) (.cons (.var 3) .nil)))) (.cons (.call 20 (.cons (.sub (.var 0) (.cst (.int 2))) (.cons (.var 3) (.cons (.var 4) .nil)))) .nil))))) .nil)))))))
def f_law_behind : Fn := ⟨2, 8, .F, b_law_behind⟩
-- 27: _law_origins(many, deeds); 0 many 1 deeds 2 told 3 k
-- written: {'told': [()]}; result: []
def b_law_origins : CSs := (.cons (.set (.name 2) (.comp .M [3] (.name 3) (.rng1 (.var 0)) .no (.tup (.cons (.cst (.str s_start)) (.cons (.var 3) .nil))))) (.cons (.forS (.name 3) (.rng1 (.blt .len .F (.cons (.var 1) .nil))) (.cons (.setI (.var 2) (.sub (.sub (.var 1) (.var 3)) (.cst (.int 1))) (.ite (.cmp .eq (.sub (.sub (.var 1) (.var 3)) (.cst (.int 0))) (.cst (.str s_copy))) (.sub (.var 2) (.sub (.sub (.var 1) (.var 3)) (.cst (.int 2)))) (.tup (.cons (.cst (.str s_store)) (.cons (.var 3) .nil))))) .nil)) (.cons (.ret (.var 2)) .nil)))
def f_law_origins : Fn := ⟨2, 4, .F, b_law_origins⟩
-- 28: _law_shown(memory); 0 memory 1 frame
-- written: {}; result: []
def b_law_shown : CSs := (.cons (.ifs (.cmp .eq (.sub (.var 0) (.cst (.int 0))) (.cst (.str s_pages))) (.cons (.ret (.sub (.var 0) (.cst (.int 1)))) .nil) .nil) (.cons (.ret (.blt .tuple .F (.cons (.comp .F [1] (.name 1) (.ex (.sub (.var 0) (.cst (.int 1)))) .no (.sub (.sub (.var 0) (.cst (.int 2))) (.var 1))) .nil))) .nil))
def f_law_shown : Fn := ⟨1, 2, .F, b_law_shown⟩
-- 29: _law_looked(tape, told, mine, origins); 0 tape 1 told 2 mine 3 origins 4 many 5 shown 6 door 7 page 8 place 9 other
-- written: {'tape': [()]}; result: []
def b_law_looked : CSs := (.cons (.set (.name 4) (.blt .len .F (.cons (.var 3) .nil))) (.cons (.set (.name 5) (.call 28 (.cons (.var 2) .nil))) (.cons (.forS (.name 6) (.ex (.call 18 (.cons (.var 0) (.cons (.cst (.int 4)) .nil)))) (.cons (.ifs (.cmp .eq (.var 6) (.cst (.int 0))) (.cons (.forS (.name 7) (.rng1 (.var 4)) (.cons (.ifs (.not (.tru (.call 21 (.cons (.call 7 (.cons (.var 1) (.cons (.var 7) .nil))) (.cons (.sub (.var 5) (.var 7)) .nil))))) (.cons (.ret (.cst (.bool false))) .nil) .nil) .nil)) .nil) .nil) (.cons (.ifs (.and (.cmp .eq (.var 6) (.cst (.int 1))) (.cmp .gt (.var 4) (.cst (.int 0)))) (.cons (.set (.name 7) (.call 16 (.cons (.var 0) (.cons (.var 4) .nil)))) (.cons (.set (.name 8) (.call 16 (.cons (.var 0) (.cons (.cst (.int 8)) .nil)))) (.cons (.ifs (.not (.tru (.call 21 (.cons (.call 8 (.cons (.var 1) (.cons (.var 7) (.cons (.var 8) .nil)))) (.cons (.sub (.sub (.var 5) (.var 7)) (.var 8)) .nil))))) (.cons (.ret (.cst (.bool false))) .nil) .nil) .nil))) .nil) (.cons (.ifs (.cmp .eq (.var 6) (.cst (.int 2))) (.cons (.ifs (.not (.tru (.call 21 (.cons (.call 11 (.cons (.var 1) .nil)) (.cons (.ite (.cmp .eq (.sub (.var 2) (.cst (.int 0))) (.cst (.str s_pages))) (.var 4) (.blt .lset .F (.cons (.var 3) .nil))) .nil))))) (.cons (.ret (.cst (.bool false))) .nil) .nil) .nil) .nil) (.cons (.ifs (.and (.cmp .eq (.var 6) (.cst (.int 3))) (.cmp .gt (.var 4) (.cst (.int 0)))) (.cons (.set (.name 7) (.call 16 (.cons (.var 0) (.cons (.var 4) .nil)))) (.cons (.set (.name 9) (.call 16 (.cons (.var 0) (.cons (.var 4) .nil)))) (.cons (.ifs (.not (.tru (.call 21 (.cons (.call 12 (.cons (.var 1) (.cons (.var 7) (.cons (.var 9) .nil)))) (.cons (.andV (.cmp .eq (.sub (.var 2) (.cst (.int 0))) (.cst (.str s_frames))) (.andV (.cmp .ne (.var 7) (.var 9)) (.cmp .eq (.sub (.var 3) (.var 7)) (.sub (.var 3) (.var 9))))) .nil))))) (.cons (.ret (.cst (.bool false))) .nil) .nil) .nil))) .nil) .nil))))) (.cons (.ret (.cst (.bool true))) .nil))))
def f_law_looked : Fn := ⟨4, 10, .F, b_law_looked⟩
-- 30: _law_lived(tape, pages, deeds, way); 0 tape 1 pages 2 deeds 3 way 4 told 5 mine 6 elder 7 k 8 one 9 deed
-- written: {'tape': [()], 'elder': [()]}; result: []
def b_law_lived : CSs := (.cons (.set (.name 4) (.call 6 (.cons (.var 1) (.cons (.var 3) .nil)))) (.cons (.set (.name 5) (.call 25 (.cons (.var 1) (.cons (.var 3) .nil)))) (.cons (.ifs (.not (.tru (.call 21 (.cons (.var 4) (.cons (.var 5) .nil))))) (.cons (.ret (.cst (.bool false))) .nil) .nil) (.cons (.set (.name 6) (.lst .M (.cons (.tup (.cons (.var 4) (.cons (.var 5) (.cons (.call 27 (.cons (.blt .len .F (.cons (.var 1) .nil)) (.cons (.lst .F .nil) .nil))) .nil)))) .nil))) (.cons (.forS (.name 7) (.rng1 (.blt .len .F (.cons (.var 2) .nil))) (.cons (.set (.name 9) (.sub (.var 2) (.var 7))) (.cons (.set (.name 4) (.ite (.cmp .eq (.sub (.var 9) (.cst (.int 0))) (.cst (.str s_copy))) (.call 10 (.cons (.var 4) (.cons (.sub (.var 9) (.cst (.int 1))) (.cons (.sub (.var 9) (.cst (.int 2))) .nil)))) (.call 9 (.cons (.var 4) (.cons (.sub (.var 9) (.cst (.int 1))) (.cons (.sub (.var 9) (.cst (.int 2))) (.cons (.sub (.var 9) (.cst (.int 3))) .nil))))))) (.cons (.set (.name 5) (.call 26 (.cons (.var 5) (.cons (.var 9) .nil)))) (.cons (.ifs (.not (.tru (.call 21 (.cons (.var 4) (.cons (.var 5) .nil))))) (.cons (.ret (.cst (.bool false))) .nil) .nil) (.cons (.ifs (.or (.cmp .eq (.bin .F .mod (.blt .int .F (.cons (.var 7) .nil)) (.cst (.int 5))) (.cst (.int 2))) (.cmp .eq (.var 7) (.bin .F .sub (.blt .len .F (.cons (.var 2) .nil)) (.cst (.int 1))))) (.cons (.expr (.mth .append (.var 6) (.cons (.tup (.cons (.var 4) (.cons (.var 5) (.cons (.call 27 (.cons (.blt .len .F (.cons (.var 1) .nil)) (.cons (.slc .F (.var 2) .no (.so (.bin .F .add (.var 7) (.cst (.int 1))))) .nil))) .nil)))) .nil))) .nil) .nil) .nil)))))) (.cons (.forS (.name 8) (.ex (.bin .F .add (.call 19 (.cons (.var 0) (.cons (.slc .F (.var 6) (.so (.neg (.cst (.int 3)))) .no) .nil))) (.slc .F (.var 6) .no (.so (.cst (.int 1)))))) (.cons (.ifs (.not (.tru (.call 29 (.cons (.var 0) (.cons (.sub (.var 8) (.cst (.int 0))) (.cons (.sub (.var 8) (.cst (.int 1))) (.cons (.sub (.var 8) (.cst (.int 2))) .nil))))))) (.cons (.ret (.cst (.bool false))) .nil) .nil) .nil)) (.cons (.ret (.cst (.bool true))) .nil)))))))
def f_law_lived : Fn := ⟨4, 10, .F, b_law_lived⟩
-- 31: _law_whole_row(tape, pages, deeds, way); 0 tape 1 pages 2 deeds 3 way 4 mine 5 start 6 deed 7 door
-- written: {'tape': [()]}; result: []
def b_law_whole_row : CSs := (.cons (.set (.name 4) (.call 25 (.cons (.var 1) (.cons (.var 3) .nil)))) (.cons (.set (.name 5) (.call 6 (.cons (.var 1) (.cons (.var 3) .nil)))) (.cons (.ifs (.not (.tru (.call 21 (.cons (.var 5) (.cons (.var 4) .nil))))) (.cons (.ret (.cst (.bool false))) .nil) .nil) (.cons (.forS (.name 6) (.ex (.var 2)) (.cons (.set (.name 4) (.call 26 (.cons (.var 4) (.cons (.var 6) .nil)))) .nil)) (.cons (.forS (.name 7) (.ex (.call 18 (.cons (.var 0) (.cons (.cst (.int 2)) .nil)))) (.cons (.ifs (.and (.cmp .eq (.var 7) (.cst (.int 0))) (.not (.tru (.call 21 (.cons (.call 13 (.cons (.var 5) (.cons (.blt .tuple .F (.cons (.var 2) .nil)) .nil))) (.cons (.var 4) .nil)))))) (.cons (.ret (.cst (.bool false))) .nil) .nil) (.cons (.ifs (.and (.cmp .eq (.var 7) (.cst (.int 1))) (.not (.tru (.call 21 (.cons (.call 14 (.cons (.blt .len .F (.cons (.var 1) .nil)) (.cons (.blt .tuple .F (.cons (.var 2) .nil)) .nil))) (.cons (.blt .tuple .F (.cons (.call 27 (.cons (.blt .len .F (.cons (.var 1) .nil)) (.cons (.var 2) .nil))) .nil)) .nil)))))) (.cons (.ret (.cst (.bool false))) .nil) .nil) .nil))) (.cons (.ret (.cst (.bool true))) .nil))))))
def f_law_whole_row : Fn := ⟨4, 8, .F, b_law_whole_row⟩
-- 32: law(script); 0 script 1 tape 2 many 3 plain 4 pages 5 first 6 second 7 ways 8 way 9 k 10 deed 11 deeds
-- written: {'tape': [()]}; result: []
def b_law : CSs := (.cons (.set (.name 1) (.call 15 (.cons (.var 0) .nil))) (.cons (.set (.name 2) (.call 17 (.cons (.var 1) (.cons (.lst .F (.cons (.cst (.int 0)) (.cons (.cst (.int 1)) (.cons (.cst (.int 2)) (.cons (.cst (.int 3)) (.cons (.cst (.int 4)) (.cons (.cst (.int 5)) (.cons (.cst (.int 6)) (.cons (.cst (.int 3)) (.cons (.cst (.int 4)) (.cons (.cst (.int 3)) .nil))))))))))) .nil)))) (.cons (.set (.name 3) (.blt .tuple .F (.cons (.comp .F [9] (.name 9) (.rng1 (.cst (.int 8))) .no (.call 22 (.cons (.var 1) .nil))) .nil))) (.cons (.set (.name 4) (.blt .tuple .F (.cons (.comp .F [9] (.name 9) (.rng1 (.var 2)) .no (.call 17 (.cons (.var 1) (.cons (.lst .F (.cons (.var 3) (.cons (.bin .F .mul (.tup (.cons (.cst (.int 0)) .nil)) (.cst (.int 8))) (.cons (.call 20 (.cons (.var 3) (.cons (.var 9) (.cons (.call 22 (.cons (.var 1) .nil)) .nil)))) .nil)))) .nil)))) .nil))) (.cons (.set (.name 5) (.call 24 (.cons (.var 1) (.cons (.var 2) (.cons (.var 4) .nil))))) (.cons (.set (.name 6) (.blt .list .F (.cons (.var 5) .nil))) (.cons (.ifs (.cmp .gt (.blt .len .F (.cons (.var 5) .nil)) (.cst (.int 0))) (.cons (.set (.name 9) (.call 16 (.cons (.var 1) (.cons (.blt .len .F (.cons (.var 5) .nil)) .nil)))) (.cons (.set (.name 10) (.call 23 (.cons (.var 1) (.cons (.var 2) (.cons (.var 4) .nil))))) (.cons (.set (.name 6) (.call 17 (.cons (.var 1) (.cons (.lst .F (.cons (.bin .F .add (.bin .F .add (.slc .F (.var 5) .no (.so (.var 9))) (.lst .F (.cons (.var 10) .nil))) (.slc .F (.var 5) (.so (.bin .F .add (.var 9) (.cst (.int 1)))) .no)) (.cons (.bin .F .add (.slc .F (.var 5) .no (.so (.var 9))) (.slc .F (.var 5) (.so (.bin .F .add (.var 9) (.cst (.int 1)))) .no)) (.cons (.bin .F .add (.bin .F .add (.slc .F (.var 5) .no (.so (.var 9))) (.lst .F (.cons (.var 10) .nil))) (.slc .F (.var 5) (.so (.var 9)) (.so (.cst (.int 39))))) .nil)))) .nil)))) .nil))) .nil) (.cons (.set (.name 7) (.call 19 (.cons (.var 1) (.cons (.lst .F (.cons (.cst (.str s_frames)) (.cons (.cst (.str s_pages)) .nil))) .nil)))) (.cons (.forS (.name 8) (.ex (.var 7)) (.cons (.forS (.name 11) (.ex (.lst .F (.cons (.var 5) (.cons (.var 6) (.cons (.var 5) .nil))))) (.cons (.ifs (.not (.tru (.call 31 (.cons (.var 1) (.cons (.var 4) (.cons (.var 11) (.cons (.var 8) .nil))))))) (.cons (.ret (.cst (.bool false))) .nil) .nil) .nil)) (.cons (.ifs (.not (.tru (.call 30 (.cons (.var 1) (.cons (.var 4) (.cons (.call 17 (.cons (.var 1) (.cons (.lst .F (.cons (.var 5) (.cons (.var 6) .nil))) .nil))) (.cons (.var 8) .nil))))))) (.cons (.ret (.cst (.bool false))) .nil) .nil) .nil))) (.cons (.ret (.cst (.bool true))) .nil))))))))))
def f_law : Fn := ⟨1, 12, .F, b_law⟩
def T : List Fn := [f_replaced, f_stored_in_frames, f_free_frame, f_copied_in_frames, f_stored_in_pages, f_copied_in_pages, f_memory_of, f_words_of, f_word_at, f_store_word, f_copy_page, f_frames_in_use, f_shares, f_memory_behind, f_origins_of, f_law_tape, f_law_draw, f_law_pick, f_law_turns, f_law_shuffled, f_law_put, f_law_same, f_law_word, f_law_some_deed, f_law_some_deeds, f_law_start, f_law_behind, f_law_origins, f_law_shown, f_law_looked, f_law_lived, f_law_whole_row, f_law]
def gl : List (Str × D) := []
def gd : List (Str × List (Str × D)) := []
def kn : List (Str × List Str) := []
def TB : Tabs := ⟨gd.map (·.2), kn⟩

def lawTop : Nat := 38
def lawIx : Nat := 32


theorem T_replaced : T[0]? = some f_replaced := rfl
theorem T_stored_in_frames : T[1]? = some f_stored_in_frames := rfl
theorem T_free_frame : T[2]? = some f_free_frame := rfl
theorem T_copied_in_frames : T[3]? = some f_copied_in_frames := rfl
theorem T_stored_in_pages : T[4]? = some f_stored_in_pages := rfl
theorem T_copied_in_pages : T[5]? = some f_copied_in_pages := rfl
theorem T_memory_of : T[6]? = some f_memory_of := rfl
theorem T_words_of : T[7]? = some f_words_of := rfl
theorem T_word_at : T[8]? = some f_word_at := rfl
theorem T_store_word : T[9]? = some f_store_word := rfl
theorem T_copy_page : T[10]? = some f_copy_page := rfl
theorem T_frames_in_use : T[11]? = some f_frames_in_use := rfl
theorem T_shares : T[12]? = some f_shares := rfl
theorem T_memory_behind : T[13]? = some f_memory_behind := rfl
theorem T_origins_of : T[14]? = some f_origins_of := rfl
theorem T_law_tape : T[15]? = some f_law_tape := rfl
theorem T_law_draw : T[16]? = some f_law_draw := rfl
theorem T_law_pick : T[17]? = some f_law_pick := rfl
theorem T_law_turns : T[18]? = some f_law_turns := rfl
theorem T_law_shuffled : T[19]? = some f_law_shuffled := rfl
theorem T_law_put : T[20]? = some f_law_put := rfl
theorem T_law_same : T[21]? = some f_law_same := rfl
theorem T_law_word : T[22]? = some f_law_word := rfl
theorem T_law_some_deed : T[23]? = some f_law_some_deed := rfl
theorem T_law_some_deeds : T[24]? = some f_law_some_deeds := rfl
theorem T_law_start : T[25]? = some f_law_start := rfl
theorem T_law_behind : T[26]? = some f_law_behind := rfl
theorem T_law_origins : T[27]? = some f_law_origins := rfl
theorem T_law_shown : T[28]? = some f_law_shown := rfl
theorem T_law_looked : T[29]? = some f_law_looked := rfl
theorem T_law_lived : T[30]? = some f_law_lived := rfl
theorem T_law_whole_row : T[31]? = some f_law_whole_row := rfl
theorem T_law : T[32]? = some f_law := rfl
end K13
set_option Elab.async false
set_option linter.all false
set_option maxRecDepth 100000
set_option maxHeartbeats 1000000
namespace K13
open PySem Ev
/-! ### the tape -/
abbrev cl (F k f : Nat) (ws : List W) (M : Store) : Res W := callF T (gl.map (·.2)) TB F k f ws M
theorem at0 {a b c d : D} : L2.atI [a, b, c, d] 0 = some a := nr rfl
theorem at1 {a b c d : D} : L2.atI [a, b, c, d] 1 = some b := nr rfl
theorem at2 {a b c d : D} : L2.atI [a, b, c, d] 2 = some c := nr rfl
theorem at3 {a b c d : D} : L2.atI [a, b, c, d] 3 = some d := nr rfl
theorem ix1 : L2.ixN 4 1 = some 1 := nr rfl
theorem ix2 : L2.ixN 4 2 = some 2 := nr rfl
theorem ix3 : L2.ixN 4 3 = some 3 := nr rfl
section
variable {F k : Nat}
theorem L_draw {c : Cell} {R : Store} {m : Int} {P : W → Store → Prop} (hc : TpOk c) (hm : m < 18446744073709551616) (h : ∀ r c', TpOk c' → 0 ≤ r → r < max m 1 → P (.d (.int r)) (c' :: R)) : Ok (callF T (gl.map (·.2)) TB F (k + 1) 16 [.r 0, .d (.int m)] (c :: R)) P := by
  obtain ⟨s, p, z, mx, rfl, hz⟩ := hc
  rw [callF_run (fn := f_law_draw) rfl rfl]
  have m1 : (0 : Int) < (if 1 > m then 1 else m) := by split <;> omega
  have m2 : (0 : Int) < (if 2 > m then 2 else m) := by split <;> omega
  have m3 : (if 2 > m then 2 else m) < (18446744073709551616 : Int) := by split <;> omega
  have me : max m 1 = (if 1 > m then 1 else m) := by rw [Int.max_def]; split <;> split <;> omega
  rw [me] at h
  have fin : ∀ (n : Int) (p : Nat) (z mx : Int), 0 ≤ z → Ok (.ok (.d (.int (n % (if 1 > m then 1 else m)))) (.lst [.list (s.map .int), .int p, .int z, .int mx] :: R)) P := fun n p z mx hz => Ok.ret (h _ _ ⟨s, p, z, mx, rfl, hz⟩ (Int.emod_nonneg _ (by omega)) (Int.emod_lt_of_pos _ m1))
  clear h
  generalize hk1 : (if 1 > m then 1 else m) = M1 at m1 fin
  generalize hk2 : (if 2 > m then 2 else m) = M2 at m2 m3
  by_cases h0 : z = 0
  · subst h0
    by_cases h1 : (p : Int) < s.length
    · have hs : L2.atI (s.map PyData.int) (p : Int) = some (.int (s[p]'(by omega))) := by
        rw [atI_nat (by simpa using (by omega : p < s.length))]
        simp
      by_cases h2 : (if s[p]'(by omega) < 0 then -(s[p]'(by omega)) else s[p]'(by omega)) < 1000000000000000000
      · simp [f_law_draw, b_law_draw, startE, at0, at1, at2, at3, ix1, ix2, ix3, h1, hs, h2, e_mul, e_mod, hk1, hk2, m1, -gt_iff_lt, b_assoc, if_bind]
        exact fin _ (p + 1) _ _ (Int.le_refl 0)
      · simp [f_law_draw, b_law_draw, startE, at0, at1, at2, at3, ix1, ix2, ix3, h1, hs, h2, e_mul, e_mod, e_fdiv, hk1, hk2, m1, m2, m3, -gt_iff_lt, b_assoc, if_bind]
        exact fin _ (p + 1) _ _ (Int.ediv_nonneg (by split <;> omega) (by omega))
    · have hmx : (mx * 48271 + (p : Int) + 1) % 2147483647 < 1000000000000000000 := by
        have := Int.emod_lt_of_pos (mx * 48271 + (p : Int) + 1) (show (0 : Int) < 2147483647 by decide)
        omega
      simp [f_law_draw, b_law_draw, startE, at0, at1, at2, at3, ix1, ix2, ix3, h1, hmx, e_mul, e_mod, hk1, hk2, m1, -gt_iff_lt, b_assoc, if_bind]
      exact fin _ (p + 1) _ _ (Int.le_refl 0)
  · simp [f_law_draw, b_law_draw, startE, at0, at1, at2, at3, ix1, ix2, ix3, h0, e_mul, e_mod, e_fdiv, hk1, hk2, m1, m2, m3, -gt_iff_lt, b_assoc, if_bind]
    exact fin _ p _ _ (Int.ediv_nonneg hz (by omega))
theorem L_tape {ns : List Int} {P : W → Store → Prop} (h : ∀ c, TpOk c → P (.r 0) [c]) : Ok (callF T (gl.map (·.2)) TB F (k + 1) 15 [.s (ns.map .int)] []) P := by
  rw [callF_run (fn := f_law_tape) rfl rfl]
  simp [f_law_tape, b_law_tape, startE, b_assoc]
  refine Ok.bindI (forL_ok (fun i e M => M = [] ∧ ∃ (mx : Int) (v : Option W), e = [some (.s (ns.map .int)), some (.d (.int mx)), v]) ⟨rfl, 7, none, rfl⟩ (fun i x e M hx hI => ?_) (fun e M hI => ?_))
  · obtain ⟨rfl, mx, v, rfl⟩ := hI
    obtain ⟨n, hn, rfl⟩ := List.mem_map.mp (List.mem_of_getElem? hx)
    refine ⟨_, rfl, ?_⟩
    simp [e_mul, e_mod, b_assoc]
    exact Ok.ret ⟨rfl, _, _, rfl⟩
  · obtain ⟨rfl, mx, v, rfl⟩ := hI
    simp [lim_ok, leave]
    refine Ok.ret (h _ ⟨ns, 0, 0, mx, rfl, Int.le_refl 0⟩)
theorem L_pick {c : Cell} {R : Store} {xs : List D} {P : W → Store → Prop} (hc : TpOk c) (h0 : xs ≠ []) (hl : xs.length < 1000000) (h : ∀ x c', TpOk c' → x ∈ xs → P (.d x) (c' :: R)) : Ok (callF T (gl.map (·.2)) TB F (k + 1 + 1) 17 [.r 0, .d (.list xs)] (c :: R)) P := by
  rw [callF_run (fn := f_law_pick) rfl rfl]
  simp [f_law_pick, b_law_pick, startE, b_assoc]
  have hp : 0 < xs.length := List.length_pos_iff.mpr h0
  refine Ok.bindI (L_draw hc (by omega) fun r c' hc' h1 h2 => ?_)
  have h3 : r < xs.length := by rw [Int.max_def] at h2; split at h2 <;> omega
  obtain ⟨n, rfl⟩ := Int.eq_ofNat_of_zero_le h1
  have h4 : n < xs.length := by exact_mod_cast h3
  simp [atI_nat h4]
  exact Ok.ret (h _ _ hc' (List.getElem_mem h4))
theorem pull_perm : ∀ {l : List D} {n : Nat} (h : n < l.length), (l[n] :: l.eraseIdx n).Perm l
  | x :: l, 0, _ => .refl _
  | x :: l, n + 1, h => by
    have ih := pull_perm (l := l) (n := n) (by simpa using h)
    exact (List.Perm.swap _ _ _).trans (.cons _ ih)
theorem L_pull {c : Cell} {R : Store} {l t : List D} {a v : Option W} {C : Cfg} {R' : Fl → Store → Prop} (hC : C.call = callF T (gl.map (·.2)) TB F (k + 1)) (hc : TpOk c) (hl : l ≠ []) (hn : l.length < 1000000) (ht : t.length < 1000000)
    (h : ∀ c' x l', TpOk c' → (x :: l').Perm l → R' (.nx [some (.r 0), a, some (.r (R.length + 1)), some (.r (R.length + 1 + 1)), v]) (c' :: (R ++ [.lst l', .lst (t ++ [x])]))) :
    Ok (evSs C (.cons (.expr (.mth .append (.var 3) (.cons (.mth .pop (.var 2) (.cons (.call 16 (.cons (.var 0) (.cons (.blt .len .F (.cons (.var 2) .nil)) .nil))) .nil)) .nil))) .nil) [some (.r 0), a, some (.r (R.length + 1)), some (.r (R.length + 1 + 1)), v] (c :: (R ++ [.lst l, .lst t]))) R' := by
  have hz := sizeLine_eq
  have hp : 0 < l.length := List.length_pos_iff.mpr hl
  have g1 : ∀ (c : Cell) (l t : List D), cellLst (c :: (R ++ [.lst l, .lst t])) (R.length + 1) = some l := fun c l t => by simp [cellLst]
  have g2 : ∀ (c : Cell) (l t : List D), cellLst (c :: (R ++ [.lst l, .lst t])) (R.length + 1 + 1) = some t := fun c l t => by simp [cellLst]
  have s1 : ∀ (c : Cell) (l t : List D) (x : Cell), (c :: (R ++ [.lst l, .lst t])).set (R.length + 1) x = c :: (R ++ [x, .lst t]) := fun c l t x => by simp
  have s2 : ∀ (c : Cell) (l t : List D) (x : Cell), (c :: (R ++ [.lst l, .lst t])).set (R.length + 1 + 1) x = c :: (R ++ [.lst l, x]) := fun c l t x => by simp
  simp [b_assoc, hC, e_mTyA (g2 _ _ _), e_mTyP (g1 _ _ _), e_lenR (g1 _ _ _), must_ok]
  refine Ok.bindI (L_draw hc (by omega) fun r c' hc' h1 h2 => ?_)
  have h3 : r < l.length := by rw [Int.max_def] at h2; split at h2 <;> omega
  obtain ⟨n, rfl⟩ := Int.eq_ofNat_of_zero_le h1
  have h4 : n < l.length := by exact_mod_cast h3
  simp only [b_ok, e_popR (g1 _ _ _) h4, s1]
  rw [e_appR (g2 _ _ _) (by omega), s2]
  simp
  refine Ok.ret (h _ _ _ hc' ?_)
  exact pull_perm h4
theorem L_shuffled {c : Cell} {R : Store} {xs : List D} {P : W → Store → Prop} (hc : TpOk c) (hl : xs.length < 1000) (h : ∀ ys c', TpOk c' → ys.Perm xs → P (.d (.list ys)) (c' :: R)) : Ok (callF T (gl.map (·.2)) TB F (k + 1 + 1) 19 [.r 0, .d (.list xs)] (c :: R)) P := by
  rw [callF_run (fn := f_law_shuffled) rfl rfl]
  have hz := sizeLine_eq
  simp [f_law_shuffled, b_law_shuffled, startE, b_assoc, lim_ok, rngK_n (show xs.length ≤ 1000000 by omega), -Ss_cons, -Ss_nil]
  rw [Ss_cons]
  simp [b_assoc, -Ss_cons]
  rw [Ss_cons]
  simp [b_assoc, lim_ok, -Ss_cons]
  rw [Ss_cons]
  simp [b_assoc, rngK_n (show xs.length ≤ 1000000 by omega), -Ss_cons]
  refine Ok.bindI (forL_ok (fun i e M => ∃ c' l t v, TpOk c' ∧ M = c' :: (R ++ [.lst l, .lst t]) ∧ e = [some (.r 0), some (.d (.list xs)), some (.r (R.length + 1)), some (.r (R.length + 1 + 1)), v] ∧ (l ++ t).Perm xs ∧ l.length + i = xs.length) ⟨c, xs, [], none, hc, by simp, rfl, by simp, by simp⟩ (fun i x e M hx hI => ?_) (fun e M hI => ?_))
  · obtain ⟨c', l, t, v, hc', rfl, rfl, hp, hi⟩ := hI
    have hlt : i < xs.length := by
      have := (List.getElem?_eq_some_iff.mp hx).1
      simpa [range0] using this
    have e2 : (l ++ t).length = xs.length := hp.length_eq
    rw [List.length_append] at e2
    refine ⟨_, rfl, ?_⟩
    refine L_pull (k := k) rfl hc' (by intro z; subst z; simp at hi; omega) (by omega) (by omega) fun c2 x2 l2 hc2 hp2 => ⟨c2, l2, t ++ [x2], _, hc2, rfl, rfl, ?_, ?_⟩
    · have : (l2 ++ (t ++ [x2])).Perm ((x2 :: l2) ++ t) := by
        rw [← List.append_assoc]
        exact (List.perm_append_comm).trans (by simp)
      exact this.trans ((List.Perm.append_right t hp2).trans hp)
    · have := hp2.length_eq
      simp at this
      omega
  · obtain ⟨c', l, t, v, hc', rfl, rfl, hp, hi⟩ := hI
    rw [range0_len] at hi
    have hl0 : l = [] := List.eq_nil_of_length_eq_zero (by omega)
    subst hl0
    simp [b_assoc]
    rw [e_leaveF (xs := t) (by simp [cellLst]) (by simp)]
    simp
    exact Ok.ret (h t c' hc' (by simpa using hp))
theorem L_turns {c : Cell} {R : Store} {n : Nat} {P : W → Store → Prop} (hc : TpOk c) (hl : n < 1000) (h : ∀ (ts : List Nat) c', TpOk c' → (∀ t ∈ ts, t < n) → P (.d (.list (ts.map fun t => .int (t : Nat)))) (c' :: R)) : Ok (callF T (gl.map (·.2)) TB F (k + 1 + 1) 18 [.r 0, .d (.int (n : Nat))] (c :: R)) P := by
  rw [callF_run (fn := f_law_turns) rfl rfl]
  have hz := sizeLine_eq
  simp [f_law_turns, b_law_turns, startE, b_assoc, e_listr (show n ≤ 16777216 by omega), -Ss_cons, -Ss_nil]
  rw [Ss_cons]
  simp [b_assoc, e_listr (show n ≤ 16777216 by omega), -Ss_cons]
  rw [Ss_cons]
  simp [b_assoc, lim_ok, -Ss_cons]
  rw [Ss_cons]
  simp [b_assoc, rngK_n (show n ≤ 1000000 by omega), -Ss_cons]
  refine Ok.bindI (forL_ok (fun i e M => ∃ c' l t v, TpOk c' ∧ M = c' :: (R ++ [.lst l, .lst t]) ∧ e = [some (.r 0), some (.d (.int (n : Nat))), some (.r (R.length + 1)), some (.r (R.length + 1 + 1)), v] ∧ (l ++ t).Perm (range0 n) ∧ l.length + i = n) ⟨c, range0 n, [], none, hc, by simp, rfl, by simp, by simp [range0]⟩ (fun i x e M hx hI => ?_) (fun e M hI => ?_))
  · obtain ⟨c', l, t, v, hc', rfl, rfl, hp, hi⟩ := hI
    have hlt : i < n := by
      have := (List.getElem?_eq_some_iff.mp hx).1
      simpa [range0] using this
    have e2 : (l ++ t).length = n := by rw [hp.length_eq, range0_len]
    rw [List.length_append] at e2
    refine ⟨_, rfl, ?_⟩
    refine L_pull (k := k) rfl hc' (by intro z; subst z; simp at hi; omega) (by omega) (by omega) fun c2 x2 l2 hc2 hp2 => ⟨c2, l2, t ++ [x2], _, hc2, rfl, rfl, ?_, ?_⟩
    · have : (l2 ++ (t ++ [x2])).Perm ((x2 :: l2) ++ t) := by
        rw [← List.append_assoc]
        exact (List.perm_append_comm).trans (by simp)
      exact this.trans ((List.Perm.append_right t hp2).trans hp)
    · have := hp2.length_eq
      simp at this
      omega
  · obtain ⟨c', l, t, v, hc', rfl, rfl, hp, hi⟩ := hI
    rw [range0_len] at hi
    have hl0 : l = [] := List.eq_nil_of_length_eq_zero (by omega)
    subst hl0
    simp [b_assoc, lim_ok]
    refine Ok.bindI (L_draw hc' (by omega) fun r c2 hc2 h1 h2 => ?_)
    have hmem : ∀ x ∈ t, ∃ j : Nat, j < n ∧ x = .int (j : Nat) := fun x hx => by
      have := hp.mem_iff.mp (show x ∈ [] ++ t by simpa using hx)
      unfold range0 at this
      obtain ⟨j, hj, rfl⟩ := List.mem_map.mp this
      exact ⟨j, by simpa using hj, rfl⟩
    have conv : ∀ u : List D, (∀ x ∈ u, x ∈ t) → ∃ ts : List Nat, u = ts.map (fun t => PyData.int (t : Nat)) ∧ ∀ j ∈ ts, j < n := by
      intro u
      induction u with
      | nil => exact fun _ => ⟨[], rfl, by simp⟩
      | cons x u ih =>
        intro hu
        obtain ⟨ts, e1, e2⟩ := ih fun y hy => hu y (List.mem_cons_of_mem _ hy)
        obtain ⟨j, hj, rfl⟩ := hmem x (hu x List.mem_cons_self)
        exact ⟨j :: ts, by rw [e1]; rfl, fun i hi => by
          rcases List.mem_cons.mp hi with rfl | hi
          · exact hj
          · exact e2 i hi⟩
    have fin : ∀ j : Int, Ok (slcW .F (.r (R.length + 1 + 1)) none (some j) (c2 :: (R ++ [.lst [], .lst t]))) (fun a M => Ok (leave .F (R.length + 1) (.rt a) M) P) := fun j => by
      rw [e_slcR (xs := t) (by simp [cellLst])]
      simp
      obtain ⟨ts, e1, e2⟩ := conv (cutD t none (some j)) fun x hx => List.mem_of_mem_drop (List.mem_of_mem_take hx)
      rw [e1]
      refine Ok.ret ?_
      simp
      exact Ok.ret (h ts c2 hc2 e2)
    have h3 : r = 0 ∨ r = 1 ∨ r = 2 := by
      have : max (3 : Int) 1 = 3 := by decide
      rw [this] at h2
      omega
    rcases h3 with rfl | rfl | rfl
    · simp [show L2.atI [PyData.int (n : Int), .int n, .int 1] 0 = some (.int n) from rfl]
      exact Ok.bindI (fin _)
    · simp [show L2.atI [PyData.int (n : Int), .int n, .int 1] 1 = some (.int n) from rfl]
      exact Ok.bindI (fin _)
    · simp [show L2.atI [PyData.int (n : Int), .int n, .int 1] 2 = some (.int 1) from rfl]
      exact Ok.bindI (fin _)
theorem L_same : ∀ {n k : Nat} {x : D} {M : Store} {P : W → Store → Prop}, Sm n x → n ≤ k → P (.d (.bool true)) M → Ok (callF T (gl.map (·.2)) TB F (k + 1) 21 [.d x, .d x] M) P := by
  intro n
  induction n with
  | zero =>
    intro k x M P h hk hP
    rw [callF_run (fn := f_law_same) rfl rfl]
    cases h with
    | int i => simp [f_law_same, b_law_same, startE, b_assoc]; exact Ok.ret hP
    | str i => simp [f_law_same, b_law_same, startE, b_assoc]; exact Ok.ret hP
    | bl i => simp [f_law_same, b_law_same, startE, b_assoc]; exact Ok.ret hP
    | non => simp [f_law_same, b_law_same, startE, b_assoc]; exact Ok.ret hP
  | succ n ih =>
    intro k x M P h hk hP
    rw [callF_run (fn := f_law_same) rfl rfl]
    cases h with
    | int i => simp [f_law_same, b_law_same, startE, b_assoc]; exact Ok.ret hP
    | str i => simp [f_law_same, b_law_same, startE, b_assoc]; exact Ok.ret hP
    | bl i => simp [f_law_same, b_law_same, startE, b_assoc]; exact Ok.ret hP
    | non => simp [f_law_same, b_law_same, startE, b_assoc]; exact Ok.ret hP
    | tup hx hl =>
      rename_i xs
      obtain ⟨k, rfl⟩ : ∃ j, k = j + 1 := ⟨k - 1, by omega⟩
      simp [f_law_same, b_law_same, startE, b_assoc, rngK_n (show xs.length ≤ 1000000 by omega)]
      refine Ok.bindI (forL_ok (fun i e M' => M' = M ∧ ∃ v, e = [some (.d (.tuple xs)), some (.d (.tuple xs)), v]) ⟨rfl, none, rfl⟩ (fun i x e M' hxx hI => ?_) (fun e M' hI => ?_))
      · obtain ⟨rfl, v, rfl⟩ := hI
        have hi : i < xs.length := by
          have := (List.getElem?_eq_some_iff.mp hxx).1
          simpa [range0] using this
        have hx2 : x = .int (i : Nat) := by
          unfold range0 at hxx
          rw [List.getElem?_map, List.getElem?_range (by simpa using hi)] at hxx
          simpa using hxx.symm
        subst hx2
        refine ⟨_, rfl, ?_⟩
        simp [b_assoc, atI_nat hi]
        refine Ok.bindI (ih (hx _ (List.getElem_mem hi)) (by omega) ?_)
        simp
        exact Ok.ret ⟨rfl, _, rfl⟩
      · obtain ⟨rfl, v, rfl⟩ := hI
        simp
        exact Ok.ret hP
end

/-! ### the same, in native words -/
section
variable {F k : Nat} {c : Cell} {R : Store} {P : W → Store → Prop} {ι : Type} {enc : ι → D}
theorem D_draw (hk : 0 < k) (hc : TpOk c) {m : Int} (h1 : 1 ≤ m) (h2 : m < 18446744073709551616) (h : ∀ (r : Nat) c', TpOk c' → (r : Int) < m → P (.d (.int (r : Nat))) (c' :: R)) : Ok (callF T (gl.map (·.2)) TB F k 16 [.r 0, .d (.int m)] (c :: R)) P := by
  obtain ⟨k, rfl⟩ : ∃ j, k = j + 1 := ⟨k - 1, by omega⟩
  refine L_draw hc h2 fun r c' hc' h3 h4 => ?_
  rw [Int.max_def] at h4
  obtain ⟨n, rfl⟩ := Int.eq_ofNat_of_zero_le h3
  exact h n c' hc' (by split at h4 <;> omega)
theorem D_draw0 (hk : 0 < k) (hc : TpOk c) {m : Int} (h2 : m < 18446744073709551616) (h : ∀ (r : Nat) c', TpOk c' → (r : Int) < max m 1 → P (.d (.int (r : Nat))) (c' :: R)) : Ok (callF T (gl.map (·.2)) TB F k 16 [.r 0, .d (.int m)] (c :: R)) P := by
  obtain ⟨k, rfl⟩ : ∃ j, k = j + 1 := ⟨k - 1, by omega⟩
  refine L_draw hc h2 fun r c' hc' h3 h4 => ?_
  obtain ⟨n, rfl⟩ := Int.eq_ofNat_of_zero_le h3
  exact h n c' hc' h4
theorem D_pick (hk : 1 < k) (hc : TpOk c) {xs : List ι} (h0 : xs ≠ []) (hl : xs.length < 1000000) (h : ∀ x c', TpOk c' → x ∈ xs → P (.d (enc x)) (c' :: R)) : Ok (callF T (gl.map (·.2)) TB F k 17 [.r 0, .d (.list (xs.map enc))] (c :: R)) P := by
  obtain ⟨k, rfl⟩ : ∃ j, k = j + 1 + 1 := ⟨k - 2, by omega⟩
  refine L_pick hc (by simpa using h0) (by simpa using hl) fun x c' hc' hx => ?_
  obtain ⟨y, hy, rfl⟩ := List.mem_map.mp hx
  exact h y c' hc' hy
theorem D_pickL (hk : 1 < k) (hc : TpOk c) {xs : List D} (h0 : xs ≠ []) (hl : xs.length < 1000000) (h : ∀ x c', TpOk c' → x ∈ xs → P (.d x) (c' :: R)) : Ok (callF T (gl.map (·.2)) TB F k 17 [.r 0, .d (.list xs)] (c :: R)) P := by
  have := D_pick (enc := id) (F := F) (R := R) (P := P) hk hc h0 hl h
  rwa [List.map_id] at this
theorem perm_map {xs : List ι} : ∀ {ys : List D}, ys.Perm (xs.map enc) → ∃ zs : List ι, ys = zs.map enc ∧ zs.Perm xs := by
  intro ys h
  generalize hz : xs.map enc = zs at h
  induction h generalizing xs with
  | nil =>
    have : xs = [] := by simpa using hz
    subst this
    exact ⟨[], rfl, .nil⟩
  | @cons x l1 l2 h ih =>
    cases xs with
    | nil => cases hz
    | cons y ys =>
      cases hz
      obtain ⟨zs, rfl, hp⟩ := ih rfl
      exact ⟨y :: zs, rfl, hp.cons y⟩
  | swap x y l =>
    match xs, hz with
    | a :: b :: r, hz =>
      cases hz
      exact ⟨b :: a :: r, rfl, .swap a b r⟩
  | trans h1 h2 ih1 ih2 =>
    obtain ⟨zs, rfl, hp⟩ := ih2 hz
    obtain ⟨us, rfl, hq⟩ := ih1 rfl
    exact ⟨us, rfl, hq.trans hp⟩
theorem D_shuffled (hk : 1 < k) (hc : TpOk c) {xs : List ι} (hl : xs.length < 1000) (h : ∀ (ys : List ι) c', TpOk c' → ys.Perm xs → P (.d (.list (ys.map enc))) (c' :: R)) : Ok (callF T (gl.map (·.2)) TB F k 19 [.r 0, .d (.list (xs.map enc))] (c :: R)) P := by
  obtain ⟨k, rfl⟩ : ∃ j, k = j + 1 + 1 := ⟨k - 2, by omega⟩
  refine L_shuffled hc (by simpa using hl) fun ys c' hc' hp => ?_
  obtain ⟨zs, rfl, hq⟩ := perm_map hp
  exact h zs c' hc' hq
theorem D_turns (hk : 1 < k) (hc : TpOk c) {n : Nat} (hl : n < 1000) (h : ∀ (ts : List Nat) c', TpOk c' → (∀ t ∈ ts, t < n) → P (.d (.list (ts.map fun t => .int (t : Nat)))) (c' :: R)) : Ok (callF T (gl.map (·.2)) TB F k 18 [.r 0, .d (.int (n : Nat))] (c :: R)) P := by
  obtain ⟨k, rfl⟩ : ∃ j, k = j + 1 + 1 := ⟨k - 2, by omega⟩
  exact L_turns hc hl h
theorem D_same {n : Nat} {M : Store} {x : D} (hs : Sm n x) (hk : n < k) : callF T (gl.map (·.2)) TB F k 21 [.d x, .d x] M = .ok (.d (.bool true)) M := by
  obtain ⟨k, rfl⟩ : ∃ j, k = j + 1 := ⟨k - 1, by omega⟩
  obtain ⟨a, M', e, rfl, rfl⟩ := L_same (F := F) (M := M) (P := fun w M' => w = .d (.bool true) ∧ M' = M) hs (show n ≤ k by omega) ⟨rfl, rfl⟩
  exact e
end
section
variable {F k : Nat} {c : Cell} {R : Store} {P : W → Store → Prop} {ι : Type} {enc : ι → D}
/-- .. of a list in a cell -/
theorem D_pickR (hk : 1 < k) (hc : TpOk c) {n : Nat} {xs : List ι} (hn : R[n]? = some (.lst (xs.map enc))) (h0 : xs ≠ []) (hl : xs.length < 1000000) (h : ∀ x c', TpOk c' → x ∈ xs → P (.d (enc x)) (c' :: R)) : Ok (callF T (gl.map (·.2)) TB F k 17 [.r 0, .r (n + 1)] (c :: R)) P := by
  have hp : 0 < xs.length := List.length_pos_iff.mpr h0
  rw [call_run T_law_pick rfl (by omega)]
  dsimp! [f_law_pick, b_law_pick, hn, List.length_map]
  refine Ok.bindI (D_draw (by omega) hc (by omega) (by omega) fun r c' hc' hr => ?_)
  have hr2 : r < xs.length := by exact_mod_cast hr
  have ha : L2.atI (xs.map enc) ((r : Nat) : Int) = some (enc xs[r]) := by rw [atI_nat (by simpa using hr2)]; simp
  dsimp! [hn, ha]
  exact Ok.ret (h _ _ hc' (List.getElem_mem hr2))
end
end K13
set_option Elab.async false
set_option linter.all false
set_option maxRecDepth 100000
set_option maxHeartbeats 1000000
namespace K13
open PySem Ev
abbrev Pg := List Int
def pgD (p : Pg) : D := .tuple (p.map .int)
def psD (ps : List Pg) : D := .tuple (ps.map pgD)
def natD (i : Nat) : D := .int (i : Nat)
def tbD (t : List Nat) : D := .tuple (t.map natD)
inductive Mem where
  | pages (ps : List Pg)
  | frames (t : List Nat) (fs : List Pg)
def memD : Mem → D
  | .pages ps => .tuple [.str s_pages, psD ps]
  | .frames t fs => .tuple [.str s_frames, tbD t, psD fs]
structure PsOk (n : Nat) (ps : List Pg) : Prop where
  len : ps.length = n
  all : ∀ p ∈ ps, p.length = 8
def MemOk (n : Nat) : Mem → Prop
  | .pages ps => PsOk n ps
  | .frames t fs => t.length = n ∧ PsOk n fs ∧ ∀ x ∈ t, x < n
inductive Deed where
  | copy (t s : Nat)
  | store (p q : Nat) (w : Int)
def deedD : Deed → D
  | .copy t s => .tuple [.str s_copy, natD t, natD s]
  | .store p q w => .tuple [.str s_store, natD p, natD q, .int w]
def DeedOk (n : Nat) : Deed → Prop
  | .copy t s => t < n ∧ s < n
  | .store p q _ => p < n ∧ q < 8
theorem ns_fp : (s_frames = s_pages) = False := by simp; decide
theorem ns_pf : (s_pages = s_frames) = False := by simp; decide
theorem ns_sc : (s_store = s_copy) = False := by simp; decide
theorem ns_cs : (s_copy = s_store) = False := by simp; decide
/-- the frames that nobody has -/
def freeL (t : List Nat) : List Nat := (List.range t.length).filter fun k => !decide (k ∈ t)
def frF (t : List Nat) : Nat := (freeL t).headD 0
def mstore (m : Mem) (p q : Nat) (w : Int) : Mem := match m with
  | .pages ps => .pages (ps.set p ((ps.getD p []).set q w))
  | .frames t fs => if 1 < t.count (t.getD p 0) then .frames (t.set p (frF t)) (fs.set (frF t) ((fs.getD (t.getD p 0) []).set q w))
    else .frames t (fs.set (t.getD p 0) ((fs.getD (t.getD p 0) []).set q w))
def mcopy (m : Mem) (a b : Nat) : Mem := match m with
  | .pages ps => .pages (ps.set a (ps.getD b []))
  | .frames t fs => .frames (t.set a (t.getD b 0)) fs
def mdeed (m : Mem) : Deed → Mem
  | .copy a b => mcopy m a b
  | .store p q w => mstore m p q w
theorem ex_free {t : List Nat} (h : ∀ x ∈ t, x < t.length) {p : Nat} (hc : 1 < t.count p) : ∃ k, k < t.length ∧ k ∉ t := by
  rcases Classical.em (∃ k, k < t.length ∧ k ∉ t) with z | z
  · exact z
  · exfalso
    have hs : ∀ k, k ∈ List.range t.length → k ∈ t := fun k hk => by
      rcases Classical.em (k ∈ t) with q | q
      · exact q
      · exact absurd ⟨k, List.mem_range.mp hk, q⟩ z
    have mp : p ∈ t := List.count_pos_iff.mp (by omega)
    have sub : List.range t.length ⊆ t.erase p := fun k hk => by
      by_cases e : k = p
      · subst e
        refine List.count_pos_iff.mp ?_
        rw [List.count_erase_self]
        omega
      · exact (List.mem_erase_of_ne e).mpr (hs k hk)
    have le := List.nodup_range.length_le_of_subset sub
    rw [List.length_range, List.length_erase_of_mem mp] at le
    have := List.length_pos_of_mem mp
    omega
theorem frF_ok {t : List Nat} (h : ∀ x ∈ t, x < t.length) {p : Nat} (hc : 1 < t.count p) : frF t < t.length ∧ frF t ∉ t ∧ freeL t ≠ [] := by
  obtain ⟨k, k1, k2⟩ := ex_free h hc
  have m : k ∈ freeL t := by
    unfold freeL
    rw [List.mem_filter]
    exact ⟨List.mem_range.mpr k1, by simpa using k2⟩
  have ne : freeL t ≠ [] := fun e => by rw [e] at m; cases m
  unfold frF
  cases hf : freeL t with
  | nil => exact absurd hf ne
  | cons a r =>
    have ma : a ∈ freeL t := by rw [hf]; exact List.mem_cons_self
    unfold freeL at ma
    rw [List.mem_filter, List.mem_range] at ma
    exact ⟨ma.1, by simpa using ma.2, by simp⟩
theorem ps_set {n : Nat} {ps : List Pg} (h : PsOk n ps) {i : Nat} {x : Pg} (hx : x.length = 8) : PsOk n (ps.set i x) := by
  refine ⟨by rw [List.length_set]; exact h.len, fun p hp => ?_⟩
  rcases List.mem_or_eq_of_mem_set hp with z | z
  · exact h.all p z
  · rw [z]; exact hx
theorem ps_get {n : Nat} {ps : List Pg} (h : PsOk n ps) {i : Nat} (hi : i < n) : (ps.getD i []).length = 8 := by
  have hl : i < ps.length := by rw [h.len]; exact hi
  rw [List.getD_eq_getElem?_getD, List.getElem?_eq_getElem hl]
  exact h.all _ (List.getElem_mem hl)
theorem tb_get {n : Nat} {t : List Nat} (hl : t.length = n) (h : ∀ x ∈ t, x < n) {i : Nat} (hi : i < n) : t.getD i 0 < n := by
  have hl : i < t.length := by rw [hl]; exact hi
  rw [List.getD_eq_getElem?_getD, List.getElem?_eq_getElem hl]
  exact h _ (List.getElem_mem hl)
theorem mdeed_ok {n : Nat} {m : Mem} {d : Deed} (hm : MemOk n m) (hd : DeedOk n d) : MemOk n (mdeed m d) := by
  cases m with
  | pages ps =>
    have hm : PsOk n ps := hm
    cases d with
    | copy a b => exact ps_set hm (ps_get hm hd.2)
    | store p q w => exact ps_set hm (by rw [List.length_set]; exact ps_get hm hd.1)
  | frames t fs =>
    obtain ⟨h1, h2, h3⟩ := hm
    cases d with
    | copy a b =>
      refine ⟨by rw [List.length_set]; exact h1, h2, fun x hx => ?_⟩
      rcases List.mem_or_eq_of_mem_set hx with z | z
      · exact h3 x z
      · rw [z]; exact tb_get h1 h3 hd.2
    | store p q w =>
      have l8 : ((fs.getD (t.getD p 0) []).set q w).length = 8 := by rw [List.length_set]; exact ps_get h2 (tb_get h1 h3 hd.1)
      show MemOk n (mstore (.frames t fs) p q w)
      unfold mstore
      dsimp only
      split
      · rename_i hc
        refine ⟨by rw [List.length_set]; exact h1, ps_set h2 l8, fun x hx => ?_⟩
        rcases List.mem_or_eq_of_mem_set hx with z | z
        · exact h3 x z
        · rw [z, ← h1]; exact (frF_ok (fun x hx => by rw [h1]; exact h3 x hx) hc).1
      · exact ⟨h1, ps_set h2 l8, h3⟩
theorem at_map {ι : Type} {f : ι → D} {xs : List ι} {n : Nat} (d : ι) (h : n < xs.length) : L2.atI (xs.map f) ((n : Nat) : Int) = some (f (xs.getD n d)) := by
  rw [atI_nat (by simpa using h), List.getElem_map, List.getD_eq_getElem?_getD, List.getElem?_eq_getElem h]
  rfl
theorem set_cut {xs : List D} {i : Nat} {x : D} (h : i < xs.length) : xs.take i ++ (x :: xs.drop (i + 1)) = xs.set i x := by
  rw [List.set_eq_take_append_cons_drop, if_pos h]
theorem map_setD {ι : Type} {f : ι → D} {xs : List ι} {i : Nat} {x : ι} : (xs.map f).set i (f x) = (xs.set i x).map f := by rw [List.map_set]
theorem eqv_natD (a b : Nat) : PyData.eqv (natD a) (natD b) = true ↔ a = b := by
  show (((a : Nat) : Int) == ((b : Nat) : Int)) = true ↔ _
  rw [beq_iff_eq]
  omega
theorem ok_natD (a : Nat) : okEq (natD a) = true := (Hg.int 0 _).okEq (by decide)
theorem ok_natsD (l : List Nat) : okEq (.list (l.map natD)) = true := (Hg.lst (Hg.map (fun a => Hg.int 0 _) l)).okEq (by decide)
theorem in_natD {x : Nat} {l : List Nat} [Decidable (x ∈ l)] : inD (natD x) (l.map natD) = some (decide (x ∈ l)) := inD_enc eqv_natD ok_natD ok_natsD
theorem count_natD {x : Nat} : ∀ {l : List Nat}, ((l.map natD).countP fun y => PyData.eqv y (natD x)) = l.count x
  | [] => rfl
  | y :: r => by
    rw [List.map_cons, List.countP_cons, List.count_cons, count_natD]
    congr 1
    by_cases h : y = x
    · subst h
      rw [if_pos ((eqv_natD y y).mpr rfl), if_pos (by simp)]
    · rw [if_neg (fun z => h ((eqv_natD y x).mp z)), if_neg (by simpa using h)]
theorem ints_natD : ∀ (l : List Nat), intsD (l.map natD) = some (l.map fun (i : Nat) => (i : Int))
  | [] => rfl
  | i :: r => by
    show (intsD (r.map natD)).map (fun x => ((i : Nat) : Int) :: x) = _
    rw [ints_natD r]; rfl
theorem foldl_min {x : Int} : ∀ {l : List Int}, (∀ y ∈ l, x ≤ y) → l.foldl (fun a b => if b < a then b else a) x = x
  | [], _ => rfl
  | y :: r, h => by
    have := h y List.mem_cons_self
    rw [List.foldl_cons, if_neg (by omega)]
    exact foldl_min fun z hz => h z (List.mem_cons_of_mem _ hz)
theorem min_free {t : List Nat} (h : freeL t ≠ []) : minI ((freeL t).map fun (i : Nat) => (i : Int)) = some ((frF t : Nat) : Int) := by
  have s : (freeL t).Pairwise (· < ·) := List.pairwise_lt_range.filter _
  unfold frF
  cases hf : freeL t with
  | nil => exact absurd hf h
  | cons a r =>
    rw [hf, List.pairwise_cons] at s
    show some ((r.map fun (i : Nat) => (i : Int)).foldl _ ((a : Nat) : Int)) = _
    rw [foldl_min fun y hy => ?_]
    · rfl
    · obtain ⟨z, hz, rfl⟩ := List.mem_map.mp hy
      have := s.1 z hz
      omega
theorem range0_nat (n : Nat) : range0 (n : Int) = (List.range n).map natD := by
  unfold range0
  simp [natD]
section
variable {F k : Nat} {M : Store} {P : W → Store → Prop}
theorem q_replaced (hk : 0 < k) {xs : List D} {i : Nat} {x : D} (hi : i < xs.length) (hl : xs.length ≤ 1000) : callF T (gl.map (·.2)) TB F k 0 [.d (.tuple xs), .d (.int (i : Nat)), .d x] M = .ok (.d (.tuple (xs.set i x))) M := by
  refine eq_of_ok ?_
  rw [call_run T_replaced rfl hk]
  dsimp! [f_replaced, b_replaced, natD, cut_to, cut_s]
  rw [lim_ok (by decide)]
  simp! [Ev.b_ok]
  rw [lim_ok (by simp; omega)]
  simp! [Ev.b_ok]
  rw [lim_ok (by simp; omega)]
  simp! [Ev.b_ok]
  rw [set_cut hi]
  exact Ok.ret ⟨rfl, rfl⟩
theorem q_put (hk : 0 < k) {xs : List D} {i : Nat} {x : D} (hi : i < xs.length) (hl : xs.length ≤ 1000) : callF T (gl.map (·.2)) TB F k 20 [.d (.tuple xs), .d (.int (i : Nat)), .d x] M = .ok (.d (.tuple (xs.set i x))) M := by
  refine eq_of_ok ?_
  rw [call_run T_law_put rfl hk]
  dsimp! [f_law_put, b_law_put, natD, cut_to, cut_s]
  rw [lim_ok (by decide)]
  simp! [Ev.b_ok]
  rw [lim_ok (by simp; omega)]
  simp! [Ev.b_ok]
  rw [lim_ok (by simp; omega)]
  simp! [Ev.b_ok]
  rw [set_cut hi]
  exact Ok.ret ⟨rfl, rfl⟩
end
end K13
set_option Elab.async false
set_option linter.all false
set_option maxRecDepth 100000
set_option maxHeartbeats 1000000
namespace K13
open PySem Ev
def mstart (ps : List Pg) (fr : Bool) : Mem := if fr then .frames (List.range ps.length) ps else .pages ps
def wayS (fr : Bool) : Str := if fr then s_frames else s_pages
theorem mstart_ok {n : Nat} {ps : List Pg} {fr : Bool} (h : PsOk n ps) : MemOk n (mstart ps fr) := by
  cases fr
  · exact h
  · exact ⟨by rw [List.length_range]; exact h.len, h, fun x hx => by rw [← h.len]; exact List.mem_range.mp hx⟩
theorem len_of {n : Nat} {ps : List Pg} (h : PsOk n ps) : ps.length = n := h.len
theorem map_pg {ps : List Pg} {i : Nat} {p : Pg} : (ps.map pgD).set i (.tuple (p.map .int)) = (ps.set i p).map pgD := map_setD (f := pgD)
theorem map_nt {t : List Nat} {i j : Nat} : (t.map natD).set i (.int (j : Nat)) = (t.set i j).map natD := map_setD (f := natD)
theorem map_w {p : Pg} {i : Nat} {w : Int} : (p.map PyData.int).set i (.int w) = (p.set i w).map .int := map_setD (f := PyData.int)
section
variable {F k : Nat} {M : Store} {P : W → Store → Prop}
theorem q_stored_pages (hk : 1 < k) {n p q : Nat} {w : Int} {ps : List Pg} (h : PsOk n ps) (hn : n ≤ 6) (hp : p < n) (hq : q < 8) :
    callF T (gl.map (·.2)) TB F k 4 [.d (memD (.pages ps)), .d (.int (p : Nat)), .d (.int (q : Nat)), .d (.int w)] M = .ok (.d (memD (mstore (.pages ps) p q w))) M := by
  refine eq_of_ok ?_
  have hl := h.len
  have l8 := ps_get h hp
  rw [call_run T_stored_in_pages rfl (by omega)]
  dsimp! [f_stored_in_pages, b_stored_in_pages, memD, psD, at_map (f := pgD) [] (show p < ps.length by omega), pgD]
  rw [q_replaced (by omega) (by rw [List.length_map]; omega) (by rw [List.length_map]; omega)]
  simp! [map_w]
  rw [q_replaced (by omega) (by simp; omega) (by simp; omega)]
  simp! [map_pg]
  rw [lim_ok (by decide)]
  exact Ok.ret ⟨rfl, rfl⟩
theorem q_copied_pages (hk : 1 < k) {n a b : Nat} {ps : List Pg} (h : PsOk n ps) (hn : n ≤ 6) (ha : a < n) (hb : b < n) :
    callF T (gl.map (·.2)) TB F k 5 [.d (memD (.pages ps)), .d (.int (a : Nat)), .d (.int (b : Nat))] M = .ok (.d (memD (mcopy (.pages ps) a b))) M := by
  refine eq_of_ok ?_
  have hl := h.len
  rw [call_run T_copied_in_pages rfl (by omega)]
  dsimp! [f_copied_in_pages, b_copied_in_pages, memD, psD, at_map (f := pgD) [] (show b < ps.length by omega)]
  rw [q_replaced (by omega) (by simp; omega) (by simp; omega)]
  simp! [map_setD]
  rw [lim_ok (by decide)]
  exact Ok.ret ⟨rfl, rfl⟩
theorem q_free_frame (hk : 0 < k) {t : List Nat} (h : freeL t ≠ []) (hl : t.length ≤ 6) : callF T (gl.map (·.2)) TB F k 2 [.d (tbD t)] M = .ok (.d (.int (frF t : Nat))) M := by
  refine eq_of_ok ?_
  rw [call_run T_free_frame rfl hk]
  dsimp! [f_free_frame, b_free_frame, tbD, rng1_n (show (t.map natD).length ≤ 1000000 by simp; omega), range0_nat]
  rw [comp_filter (enc := natD) (g := natD) (p := fun k => !decide (k ∈ t)) fun x hx => ⟨_, rfl, by dsimp! [in_natD], fun _ => by dsimp! [Ev.b_ok]⟩]
  have e : (List.filter (fun k => !decide (k ∈ t)) (List.range (List.map natD t).length)) = freeL t := by rw [List.length_map]; rfl
  dsimp! [e]
  rw [lim_ok (by rw [List.length_map]; refine Nat.le_trans (List.length_filter_le _ _) ?_; rw [List.length_range]; omega)]
  simp! [c_min1, ints_natD, min_free h]
  exact Ok.ret ⟨rfl, rfl⟩
theorem q_copied_frames (hk : 1 < k) {n a b : Nat} {t : List Nat} {fs : List Pg} (h : MemOk n (.frames t fs)) (hn : n ≤ 6) (ha : a < n) (hb : b < n) :
    callF T (gl.map (·.2)) TB F k 3 [.d (memD (.frames t fs)), .d (.int (a : Nat)), .d (.int (b : Nat))] M = .ok (.d (memD (mcopy (.frames t fs) a b))) M := by
  refine eq_of_ok ?_
  obtain ⟨hl, h2, h3⟩ := h
  rw [call_run T_copied_in_frames rfl (by omega)]
  dsimp! [f_copied_in_frames, b_copied_in_frames, memD, tbD, at_map (f := natD) 0 (show b < t.length by omega)]
  rw [q_replaced (by omega) (by simp; omega) (by simp; omega)]
  simp! [map_setD]
  rw [lim_ok (by decide)]
  exact Ok.ret ⟨rfl, rfl⟩
theorem q_stored_frames (hk : 1 < k) {n p q : Nat} {w : Int} {t : List Nat} {fs : List Pg} (h : MemOk n (.frames t fs)) (hn : n ≤ 6) (hp : p < n) (hq : q < 8) :
    callF T (gl.map (·.2)) TB F k 1 [.d (memD (.frames t fs)), .d (.int (p : Nat)), .d (.int (q : Nat)), .d (.int w)] M = .ok (.d (memD (mstore (.frames t fs) p q w))) M := by
  refine eq_of_ok ?_
  obtain ⟨hl, h2, h3⟩ := h
  have hl2 := h2.len
  have hf := tb_get hl h3 hp
  have l8 := ps_get h2 hf
  rw [call_run T_stored_in_frames rfl (by omega)]
  unfold mstore
  dsimp only
  generalize ef : t.getD p 0 = f at hf l8 ⊢
  dsimp! [f_stored_in_frames, b_stored_in_frames, memD, tbD, psD, at_map (f := natD) 0 (show p < t.length by omega), ef, natD, at_map (f := pgD) [] (show f < fs.length by omega), pgD]
  rw [q_replaced (by omega) (by rw [List.length_map]; omega) (by rw [List.length_map]; omega)]
  dsimp! [map_w]
  rw [must_ok ⟨ok_natD f, ok_natsD t⟩]
  have ec : (List.countP (fun y => y.eqv (PyData.int (f : Nat))) (t.map natD)) = t.count f := count_natD
  simp! [ec]
  by_cases hc : 1 < t.count f
  · have fr := frF_ok (t := t) (fun x hx => by rw [hl]; exact h3 x hx) hc
    have hc2 : (1 : Int) < ((t.count f : Nat) : Int) := by omega
    rw [if_pos hc]
    have e := q_free_frame (M := M) (F := F) (k := k - 1) (by omega) fr.2.2 (by omega)
    unfold tbD at e
    dsimp! [hc2, e]
    rw [q_replaced (by omega) (by simp; omega) (by simp; omega)]
    dsimp! [map_nt]
    rw [q_replaced (by omega) (by simp; omega) (by simp; omega)]
    dsimp! [map_pg]
    rw [lim_ok (by decide)]
    exact Ok.ret ⟨rfl, rfl⟩
  · have hc2 : ¬ (1 : Int) < ((t.count f : Nat) : Int) := by omega
    rw [if_neg hc]
    dsimp! [hc2]
    rw [q_replaced (by omega) (by simp; omega) (by simp; omega)]
    dsimp! [map_pg]
    rw [lim_ok (by decide)]
    exact Ok.ret ⟨rfl, rfl⟩
theorem q_store_word (hk : 2 < k) {n p q : Nat} {w : Int} {m : Mem} (h : MemOk n m) (hn : n ≤ 6) (hp : p < n) (hq : q < 8) :
    callF T (gl.map (·.2)) TB F k 9 [.d (memD m), .d (.int (p : Nat)), .d (.int (q : Nat)), .d (.int w)] M = .ok (.d (memD (mstore m p q w))) M := by
  refine eq_of_ok ?_
  rw [call_run T_store_word rfl (by omega)]
  cases m with
  | pages ps =>
    have e := q_stored_pages (M := M) (F := F) (k := k - 1) (w := w) (by omega) h hn hp hq
    unfold memD at e ⊢
    dsimp! [f_store_word, b_store_word, e]
    exact Ok.ret ⟨rfl, rfl⟩
  | frames t fs =>
    have e := q_stored_frames (M := M) (F := F) (k := k - 1) (w := w) (by omega) h hn hp hq
    rw [show memD (.frames t fs) = .tuple [.str s_frames, tbD t, psD fs] from rfl] at e ⊢
    dsimp! [f_store_word, b_store_word, ns_fp, e]
    exact Ok.ret ⟨rfl, rfl⟩
theorem q_copy_page (hk : 2 < k) {n a b : Nat} {m : Mem} (h : MemOk n m) (hn : n ≤ 6) (ha : a < n) (hb : b < n) :
    callF T (gl.map (·.2)) TB F k 10 [.d (memD m), .d (.int (a : Nat)), .d (.int (b : Nat))] M = .ok (.d (memD (mcopy m a b))) M := by
  refine eq_of_ok ?_
  rw [call_run T_copy_page rfl (by omega)]
  cases m with
  | pages ps =>
    have e := q_copied_pages (M := M) (F := F) (k := k - 1) (by omega) h hn ha hb
    rw [show memD (.pages ps) = .tuple [.str s_pages, psD ps] from rfl] at e ⊢
    dsimp! [f_copy_page, b_copy_page, e]
    exact Ok.ret ⟨rfl, rfl⟩
  | frames t fs =>
    have e := q_copied_frames (M := M) (F := F) (k := k - 1) (by omega) h hn ha hb
    rw [show memD (.frames t fs) = .tuple [.str s_frames, tbD t, psD fs] from rfl] at e ⊢
    dsimp! [f_copy_page, b_copy_page, ns_fp, e]
    exact Ok.ret ⟨rfl, rfl⟩
theorem range_nats {n : Nat} : range0 (n : Int) = (List.range n).map natD := range0_nat n
theorem q_memory_of (hk : 0 < k) {n : Nat} {ps : List Pg} (h : PsOk n ps) (hn : n ≤ 6) {fr : Bool} : callF T (gl.map (·.2)) TB F k 6 [.d (psD ps), .d (.str (wayS fr))] M = .ok (.d (memD (mstart ps fr))) M := by
  refine eq_of_ok ?_
  have hl := h.len
  rw [call_run T_memory_of rfl hk]
  cases fr
  · dsimp! [f_memory_of, b_memory_of, wayS]
    rw [lim_ok (by decide)]
    exact Ok.ret ⟨rfl, rfl⟩
  · dsimp! [f_memory_of, b_memory_of, wayS, ns_fp, psD]
    rw [show bltW .tupr .F [.d (.int (((ps.map pgD).length : Nat) : Int))] M = .ok (.d (.tuple (range0 (((ps.map pgD).length : Nat) : Int)))) M from if_pos (by constructor <;> simp <;> omega)]
    simp! [range0_nat, List.length_map]
    rw [lim_ok (by decide)]
    exact Ok.ret ⟨rfl, rfl⟩
theorem q_start (hk : 0 < k) {n : Nat} {ps : List Pg} (h : PsOk n ps) (hn : n ≤ 6) {fr : Bool} : callF T (gl.map (·.2)) TB F k 25 [.d (psD ps), .d (.str (wayS fr))] M = .ok (.d (memD (mstart ps fr))) M := by
  refine eq_of_ok ?_
  have hl := h.len
  rw [call_run T_law_start rfl hk]
  cases fr
  · dsimp! [f_law_start, b_law_start, wayS]
    rw [lim_ok (by decide)]
    exact Ok.ret ⟨rfl, rfl⟩
  · dsimp! [f_law_start, b_law_start, wayS, ns_fp, psD]
    rw [show bltW .tupr .F [.d (.int (((ps.map pgD).length : Nat) : Int))] M = .ok (.d (.tuple (range0 (((ps.map pgD).length : Nat) : Int)))) M from if_pos (by constructor <;> simp <;> omega)]
    simp! [range0_nat, List.length_map]
    rw [lim_ok (by decide)]
    exact Ok.ret ⟨rfl, rfl⟩
end
end K13
set_option Elab.async false
set_option linter.all false
set_option maxRecDepth 100000
set_option maxHeartbeats 1000000
namespace K13
open PySem Ev
abbrev Org := Bool × Nat
def orS : Bool → Str
  | true => s_start | false => s_store
def orgD (o : Org) : D := .tuple [.str (orS o.1), natD o.2]
def o0 (n : Nat) : List Org := (List.range n).map fun k => (true, k)
def odeed (o : List Org) (i : Nat) : Deed → List Org
  | .copy a b => o.set a (o.getD b (true, 0))
  | .store p _ _ => o.set p (false, i)
def oat (n : Nat) (ds : List Deed) : Nat → List Org
  | 0 => o0 n
  | i + 1 => match ds[i]? with
    | some d => odeed (oat n ds i) i d
    | none => oat n ds i
theorem oat_len {n : Nat} {ds : List Deed} : ∀ i, (oat n ds i).length = n
  | 0 => by simp [oat, o0]
  | i + 1 => by
    unfold oat
    split
    · rename_i d _
      cases d <;> simp [odeed, oat_len i]
    · exact oat_len i
theorem oat_take {n : Nat} {ds : List Deed} {m : Nat} : ∀ i, i ≤ m → oat n (ds.take m) i = oat n ds i
  | 0, _ => rfl
  | i + 1, h => by
    unfold oat
    rw [List.getElem?_take_of_lt h, oat_take i (by omega)]
theorem getD_set {α : Type} {l : List α} {i j : Nat} {x d : α} (hi : i < l.length) : (l.set i x).getD j d = if i = j then x else l.getD j d := by
  rw [List.getD_eq_getElem?_getD, List.getD_eq_getElem?_getD, List.getElem?_set]
  by_cases e : i = j
  · subst e
    rw [if_pos rfl, if_pos hi, if_pos rfl]; rfl
  · rw [if_neg e, if_neg e]
theorem mem_getD {α : Type} {l : List α} {i : Nat} {d : α} (hi : i < l.length) : l.getD i d ∈ l := by
  rw [List.getD_eq_getElem?_getD, List.getElem?_eq_getElem hi]
  exact List.getElem_mem hi
theorem two_count {v : Nat} : ∀ {t : List Nat} {a b : Nat}, a < b → t[a]? = some v → t[b]? = some v → 2 ≤ t.count v
  | [], _, _, _, h, _ => by simp at h
  | x :: r, 0, b + 1, _, h1, h2 => by
    have e : x = v := by simpa using h1
    have m : v ∈ r := List.mem_of_getElem? (by simpa using h2)
    have := List.count_pos_iff.mpr m
    rw [List.count_cons, e]
    simp
    omega
  | x :: r, a + 1, b + 1, h, h1, h2 => by
    have := two_count (t := r) (a := a) (b := b) (by omega) (by simpa using h1) (by simpa using h2)
    rw [List.count_cons]
    omega
/-- the origins tell who shares a frame -/
structure Rel (n i : Nat) (m : Mem) (o : List Org) : Prop where
  len : o.length = n
  old : ∀ x ∈ o, x.1 = false → x.2 < i
  sh : ∀ t fs, m = .frames t fs → ∀ a b, a < n → b < n → (t.getD a 0 = t.getD b 0 ↔ o.getD a (true, 0) = o.getD b (true, 0))
theorem Rel.start {n : Nat} {ps : List Pg} (h : PsOk n ps) {fr : Bool} : Rel n 0 (mstart ps fr) (o0 n) := by
  refine ⟨by simp [o0], fun x hx hf => ?_, fun t fs e a b ha hb => ?_⟩
  · obtain ⟨k, _, rfl⟩ := List.mem_map.mp hx
    cases hf
  · cases fr
    · cases e
    · cases e
      have r : ∀ j, j < n → (List.range ps.length).getD j 0 = j := fun j hj => by
        rw [List.getD_eq_getElem?_getD, List.getElem?_eq_getElem (by rw [List.length_range, h.len]; exact hj), List.getElem_range]; rfl
      have r2 : ∀ j, j < n → (o0 n).getD j (true, 0) = (true, j) := fun j hj => by
        unfold o0
        rw [List.getD_eq_getElem?_getD, List.getElem?_map, List.getElem?_eq_getElem (by rw [List.length_range]; exact hj), List.getElem_range]; rfl
      rw [r a ha, r b hb, r2 a ha, r2 b hb]
      simp
theorem Rel.step {n i : Nat} {m : Mem} {o : List Org} (R : Rel n i m o) (hm : MemOk n m) {d : Deed} (hd : DeedOk n d) : Rel n (i + 1) (mdeed m d) (odeed o i d) := by
  cases d with
  | copy a s =>
    have ho : a < o.length := by rw [R.len]; exact hd.1
    refine ⟨by show (o.set _ _).length = n; rw [List.length_set]; exact R.len, fun x hx hf => ?_, fun t fs e j l hj hl => ?_⟩
    · rcases List.mem_or_eq_of_mem_set (show x ∈ o.set _ _ from hx) with z | z
      · exact Nat.lt_succ_of_lt (R.old x z hf)
      · refine Nat.lt_succ_of_lt (R.old x ?_ hf)
        rw [z]; exact mem_getD (by rw [R.len]; exact hd.2)
    · cases m with
      | pages ps => cases e
      | frames t0 fs0 =>
        cases e
        have ht : a < t0.length := by rw [hm.1]; exact hd.1
        have sh := R.sh t0 _ rfl
        show (t0.set a (t0.getD s 0)).getD j 0 = (t0.set a (t0.getD s 0)).getD l 0 ↔ (o.set a (o.getD s (true, 0))).getD j (true, 0) = (o.set a (o.getD s (true, 0))).getD l (true, 0)
        rw [getD_set ht, getD_set ht, getD_set ho, getD_set ho]
        by_cases e1 : a = j <;> by_cases e2 : a = l
        · rw [if_pos e1, if_pos e2, if_pos e1, if_pos e2]; simp
        · rw [if_pos e1, if_neg e2, if_pos e1, if_neg e2]; exact sh s l hd.2 hl
        · rw [if_neg e1, if_pos e2, if_neg e1, if_pos e2]; exact sh j s hj hd.2
        · rw [if_neg e1, if_neg e2, if_neg e1, if_neg e2]; exact sh j l hj hl
  | store p q w =>
    have ho : p < o.length := by rw [R.len]; exact hd.1
    refine ⟨by show (o.set _ _).length = n; rw [List.length_set]; exact R.len, fun x hx hf => ?_, fun t fs e j l hj hl => ?_⟩
    · rcases List.mem_or_eq_of_mem_set (show x ∈ o.set _ _ from hx) with z | z
      · exact Nat.lt_succ_of_lt (R.old x z hf)
      · rw [z]; exact Nat.lt_succ_self i
    · have on : ∀ j, j < n → o.getD j (true, 0) ≠ (false, i) := fun j hj z => by
        have := R.old _ (mem_getD (d := (true, 0)) (by rw [R.len]; exact hj : j < o.length)) (by rw [z])
        rw [z] at this
        exact absurd this (Nat.lt_irrefl i)
      cases m with
      | pages ps => cases e
      | frames t0 fs0 =>
        have sh := R.sh t0 _ rfl
        have ht : p < t0.length := by rw [hm.1]; exact hd.1
        have key : ∃ v, (∀ j, j < n → t.getD j 0 = if p = j then v else t0.getD j 0) ∧ ∀ j, j < n → p ≠ j → t0.getD j 0 ≠ v := by
          have e : mstore (.frames t0 fs0) p q w = .frames t fs := e
          unfold mstore at e
          dsimp only at e
          split at e
          · rename_i hc
            cases e
            refine ⟨frF t0, fun j _ => getD_set ht, fun j hj _ z => (frF_ok (fun x hx => by rw [hm.1]; exact hm.2.2 x hx) hc).2.1 ?_⟩
            rw [← z]; exact mem_getD (by rw [hm.1]; exact hj)
          · rename_i hc
            cases e
            refine ⟨t.getD p 0, fun j _ => ?_, fun j hj hne z => hc ?_⟩
            · by_cases e : p = j
              · rw [if_pos e, e]
              · rw [if_neg e]
            · have g1 : t[p]? = some (t.getD p 0) := by rw [List.getD_eq_getElem?_getD, List.getElem?_eq_getElem ht]; rfl
              have hj2 : j < t.length := by rw [hm.1]; exact hj
              have g2 : t[j]? = some (t.getD p 0) := by rw [← z, List.getD_eq_getElem?_getD, List.getElem?_eq_getElem hj2]; rfl
              rcases Nat.lt_or_gt_of_ne hne with z | z
              · exact two_count z g1 g2
              · exact two_count z g2 g1
        obtain ⟨v, k1, k2⟩ := key
        show _ ↔ (o.set p (false, i)).getD j (true, 0) = (o.set p (false, i)).getD l (true, 0)
        rw [k1 j hj, k1 l hl, getD_set ho, getD_set ho]
        by_cases e1 : p = j <;> by_cases e2 : p = l
        · rw [if_pos e1, if_pos e2, if_pos e1, if_pos e2]; simp
        · rw [if_pos e1, if_neg e2, if_pos e1, if_neg e2]
          exact ⟨fun z => absurd z.symm (k2 l hl e2), fun z => absurd z.symm (on l hl)⟩
        · rw [if_neg e1, if_pos e2, if_neg e1, if_pos e2]
          exact ⟨fun z => absurd z (k2 j hj e1), fun z => absurd z (on j hj)⟩
        · rw [if_neg e1, if_neg e2, if_neg e1, if_neg e2]; exact sh j l hj hl
/-- the memory behind the first i deeds -/
def mat (m : Mem) (ds : List Deed) (i : Nat) : Mem := (ds.take i).foldl mdeed m
theorem mat_zero {m : Mem} {ds : List Deed} : mat m ds 0 = m := rfl
theorem mat_succ {m : Mem} {ds : List Deed} {i : Nat} {d : Deed} (h : ds[i]? = some d) : mat m ds (i + 1) = mdeed (mat m ds i) d := by
  unfold mat
  rw [List.take_succ, h, List.foldl_append]; rfl
theorem mat_ok {n : Nat} {m : Mem} {ds : List Deed} (hm : MemOk n m) (hd : ∀ d ∈ ds, DeedOk n d) : ∀ i, MemOk n (mat m ds i)
  | 0 => hm
  | i + 1 => by
    cases h : ds[i]? with
    | none =>
      have : mat m ds (i + 1) = mat m ds i := by unfold mat; rw [List.take_succ, h]; simp
      rw [this]; exact mat_ok hm hd i
    | some d =>
      rw [mat_succ h]
      exact mdeed_ok (mat_ok hm hd i) (hd d (List.mem_of_getElem? h))
theorem rel_at {n : Nat} {ps : List Pg} (h : PsOk n ps) {fr : Bool} {ds : List Deed} (hd : ∀ d ∈ ds, DeedOk n d) : ∀ i, i ≤ ds.length → Rel n i (mat (mstart ps fr) ds i) (oat n ds i)
  | 0, _ => Rel.start h
  | i + 1, hi => by
    have e : ds[i]? = some ds[i] := List.getElem?_eq_getElem hi
    have r := (rel_at h (fr := fr) hd i (by omega)).step (mat_ok (mstart_ok h) hd i) (hd _ (List.getElem_mem hi))
    rw [mat_succ e]
    unfold oat
    rw [e]
    exact r
/-! ### how many different ones -/
theorem dst_pair {α β : Type} [DecidableEq α] [DecidableEq β] : ∀ zs : List (α × β), (∀ a ∈ zs, ∀ b ∈ zs, a.1 = b.1 ↔ a.2 = b.2) → dstN (zs.map Prod.fst) = dstN (zs.map Prod.snd)
  | [], _ => rfl
  | z :: r, h => by
    have ih := dst_pair r fun a ha b hb => h a (List.mem_cons_of_mem _ ha) b (List.mem_cons_of_mem _ hb)
    have e : z.1 ∈ r.map Prod.fst ↔ z.2 ∈ r.map Prod.snd := by
      rw [List.mem_map, List.mem_map]
      exact ⟨fun ⟨a, h1, h2⟩ => ⟨a, h1, (h a (List.mem_cons_of_mem _ h1) z List.mem_cons_self).mp h2⟩, fun ⟨a, h1, h2⟩ => ⟨a, h1, (h a (List.mem_cons_of_mem _ h1) z List.mem_cons_self).mpr h2⟩⟩
    show (if z.1 ∈ r.map Prod.fst then dstN (r.map Prod.fst) else dstN (r.map Prod.fst) + 1) = if z.2 ∈ r.map Prod.snd then dstN (r.map Prod.snd) else dstN (r.map Prod.snd) + 1
    by_cases c : z.1 ∈ r.map Prod.fst
    · rw [if_pos c, if_pos (e.mp c), ih]
    · rw [if_neg c, if_neg (fun z => c (e.mpr z)), ih]
theorem dst_same {α β : Type} [DecidableEq α] [DecidableEq β] {n : Nat} {xs : List α} {ys : List β} {a0 : α} {b0 : β} (hx : xs.length = n) (hy : ys.length = n) (h : ∀ i j, i < n → j < n → (xs.getD i a0 = xs.getD j a0 ↔ ys.getD i b0 = ys.getD j b0)) : dstN xs = dstN ys := by
  have e := dst_pair (xs.zip ys) fun a ha b hb => by
    obtain ⟨i, hi, rfl⟩ := List.getElem_of_mem ha
    obtain ⟨j, hj, rfl⟩ := List.getElem_of_mem hb
    rw [List.length_zip] at hi hj
    have := h i j (by omega) (by omega)
    rw [List.getD_eq_getElem?_getD, List.getD_eq_getElem?_getD, List.getD_eq_getElem?_getD, List.getD_eq_getElem?_getD, List.getElem?_eq_getElem (show i < xs.length by omega), List.getElem?_eq_getElem (show j < xs.length by omega), List.getElem?_eq_getElem (show i < ys.length by omega), List.getElem?_eq_getElem (show j < ys.length by omega)] at this
    rw [List.getElem_zip, List.getElem_zip]
    exact this
  rw [List.map_fst_zip (by omega), List.map_snd_zip (by omega)] at e
  exact e
theorem dst_map {α β : Type} [DecidableEq α] [DecidableEq β] {f : α → β} (hf : ∀ a b, f a = f b → a = b) : ∀ xs : List α, dstN (xs.map f) = dstN xs
  | [] => rfl
  | x :: r => by
    have ih := dst_map hf r
    have e : f x ∈ r.map f ↔ x ∈ r := by
      rw [List.mem_map]
      exact ⟨fun ⟨a, h1, h2⟩ => (hf _ _ h2) ▸ h1, fun h => ⟨x, h, rfl⟩⟩
    show (if f x ∈ r.map f then dstN (r.map f) else dstN (r.map f) + 1) = if x ∈ r then dstN r else dstN r + 1
    by_cases c : x ∈ r
    · rw [if_pos c, if_pos (e.mpr c), ih]
    · rw [if_neg c, if_neg (fun z => c (e.mp z)), ih]
/-- what a memory shows -/
def shown : Mem → List Pg
  | .pages ps => ps
  | .frames t fs => t.map fun f => fs.getD f []
theorem shown_len {n : Nat} {m : Mem} (h : MemOk n m) : (shown m).length = n := by
  cases m with
  | pages ps => exact PsOk.len h
  | frames t fs => show (t.map _).length = n; rw [List.length_map]; exact h.1
end K13
set_option Elab.async false
set_option linter.all false
set_option maxRecDepth 100000
set_option maxHeartbeats 1000000
namespace K13
open PySem Ev
theorem shown_get {n : Nat} {m : Mem} (h : MemOk n m) {p : Nat} (hp : p < n) : ((shown m).getD p []).length = 8 := by
  cases m with
  | pages ps => exact ps_get h hp
  | frames t fs =>
    obtain ⟨h1, h2, h3⟩ := h
    have hl : p < t.length := by omega
    have e : (shown (.frames t fs)).getD p [] = fs.getD (t.getD p 0) [] := by
      show (t.map fun f => fs.getD f []).getD p [] = _
      rw [List.getD_eq_getElem?_getD, List.getElem?_map, List.getElem?_eq_getElem hl, List.getD_eq_getElem?_getD (l := t), List.getElem?_eq_getElem hl]
      rfl
    rw [e]
    exact ps_get h2 (tb_get h1 h3 hp)
theorem eqv_orgD (a b : Org) : PyData.eqv (orgD a) (orgD b) = true ↔ a = b := by
  obtain ⟨a1, a2⟩ := a
  obtain ⟨b1, b2⟩ := b
  have e : (orS a1 = orS b1) ↔ a1 = b1 := by cases a1 <;> cases b1 <;> decide
  show PyData.eqv (.tuple [.str (orS a1), .int (a2 : Nat)]) (.tuple [.str (orS b1), .int (b2 : Nat)]) = true ↔ _
  simp [PyData.eqv, PyData.eqvAll, e]
  omega
theorem or_ok (b : Bool) : PyData.strOk (orS b) = true := by cases b <;> decide +kernel
theorem hg_org {n : Nat} (a : Org) : Hg (n + 1) (orgD a) := .tup (.cons (.str _ _ (or_ok a.1)) (.cons (.int _ _) .nil))
theorem ok_org (a : Org) : okEq (orgD a) = true := (hg_org (n := 0) a).okEq (by decide)
theorem cmp_org {a b : Org} {M : Store} : cmpW .eq (.d (orgD a)) (.d (orgD b)) M = some (decide (a = b)) := cmp_enc eqv_orgD ok_org
theorem cmp_nat {a b : Nat} {M : Store} : cmpW .eq (.d (natD a)) (.d (natD b)) M = some (decide (a = b)) := cmp_enc eqv_natD ok_natD
def orK (o : Org) : List Key := [.inr (orS o.1), .inl ((o.2 : Nat) : Int)]
theorem orK_inj (a b : Org) (h : orK a = orK b) : a = b := by
  obtain ⟨a1, a2⟩ := a
  obtain ⟨b1, b2⟩ := b
  have e : (orS a1 = orS b1) → a1 = b1 := by cases a1 <;> cases b1 <;> decide
  simp [orK] at h
  obtain ⟨h1, h2⟩ := h
  have h3 : a2 = b2 := by omega
  rw [e h1, h3]
theorem tk_orgs : ∀ (o : List Org), tkeysOf (o.map orgD) = some (o.map orK)
  | [] => rfl
  | x :: r => by
    show (some (orK x)).bind (fun k => (tkeysOf (r.map orgD)).bind fun ks => some (k :: ks)) = _
    rw [tk_orgs r]; rfl
theorem bl_set {t : List Nat} {p : Nat} (h : p < t.length) : t.set p (t.getD p 0) = t := by
  rw [List.getD_eq_getElem?_getD, List.getElem?_eq_getElem h]
  exact List.set_getElem_self h
section
variable {F k : Nat} {M : Store} {P : W → Store → Prop}
theorem q_words_of (hk : 0 < k) {n p : Nat} {m : Mem} (h : MemOk n m) (hp : p < n) : callF T (gl.map (·.2)) TB F k 7 [.d (memD m), .d (.int (p : Nat))] M = .ok (.d (pgD ((shown m).getD p []))) M := by
  refine eq_of_ok ?_
  rw [call_run T_words_of rfl hk]
  cases m with
  | pages ps =>
    have hl : p < ps.length := by rw [PsOk.len h]; exact hp
    dsimp! [f_words_of, b_words_of, memD, psD, at_map (f := pgD) [] hl]
    exact Ok.ret ⟨rfl, rfl⟩
  | frames t fs =>
    obtain ⟨h1, h2, h3⟩ := h
    have hl : p < t.length := by omega
    have hf : t.getD p 0 < fs.length := by rw [h2.len]; exact tb_get h1 h3 hp
    have e : (shown (.frames t fs)).getD p [] = fs.getD (t.getD p 0) [] := by
      show (t.map fun f => fs.getD f []).getD p [] = _
      rw [List.getD_eq_getElem?_getD, List.getElem?_map, List.getElem?_eq_getElem hl, List.getD_eq_getElem?_getD (l := t), List.getElem?_eq_getElem hl]
      rfl
    rw [e]
    dsimp! [f_words_of, b_words_of, memD, ns_fp, psD, tbD, at_map (f := natD) 0 hl, natD, at_map (f := pgD) [] hf]
    exact Ok.ret ⟨rfl, rfl⟩
theorem q_word_at (hk : 1 < k) {n p q : Nat} {m : Mem} (h : MemOk n m) (hp : p < n) (hq : q < 8) : callF T (gl.map (·.2)) TB F k 8 [.d (memD m), .d (.int (p : Nat)), .d (.int (q : Nat))] M = .ok (.d (.int (((shown m).getD p []).getD q 0))) M := by
  refine eq_of_ok ?_
  have l8 := shown_get h hp
  rw [call_run T_word_at rfl (by omega)]
  dsimp! [f_word_at, b_word_at, q_words_of (show 0 < k - 1 by omega) h hp, pgD, at_map (f := PyData.int) 0 (show q < ((shown m).getD p []).length by omega)]
  exact Ok.ret ⟨rfl, rfl⟩
theorem q_shown (hk : 0 < k) {n : Nat} {m : Mem} (h : MemOk n m) (hn : n ≤ 6) : callF T (gl.map (·.2)) TB F k 28 [.d (memD m)] M = .ok (.d (psD (shown m))) M := by
  refine eq_of_ok ?_
  rw [call_run T_law_shown rfl hk]
  cases m with
  | pages ps =>
    dsimp! [f_law_shown, b_law_shown, memD]
    exact Ok.ret ⟨rfl, rfl⟩
  | frames t fs =>
    obtain ⟨h1, h2, h3⟩ := h
    dsimp! [f_law_shown, b_law_shown, memD, ns_fp, psD, tbD]
    rw [comp_map (enc := natD) (g := fun f => pgD (fs.getD f [])) (fun _ _ => C_no) fun x hx => ⟨_, rfl, by dsimp! [natD, at_map (f := pgD) [] (show x < fs.length by rw [h2.len]; exact h3 x hx)]⟩]
    dsimp! [Ev.b_ok]
    rw [lim_ok (by rw [List.length_map]; omega)]
    dsimp! [shown, List.map_map]
    exact Ok.ret ⟨rfl, rfl⟩
def usedN (n : Nat) : Mem → Nat
  | .pages _ => n
  | .frames t _ => dstN t
theorem q_in_use (hk : 0 < k) {n : Nat} {m : Mem} (h : MemOk n m) (hn : n ≤ 6) : callF T (gl.map (·.2)) TB F k 11 [.d (memD m)] M = .ok (.d (natD (usedN n m))) M := by
  refine eq_of_ok ?_
  rw [call_run T_frames_in_use rfl hk]
  cases m with
  | pages ps =>
    dsimp! [f_frames_in_use, b_frames_in_use, memD, psD, List.length_map, PsOk.len h]
    exact Ok.ret ⟨rfl, rfl⟩
  | frames t fs =>
    obtain ⟨h1, h2, h3⟩ := h
    dsimp! [f_frames_in_use, b_frames_in_use, memD, ns_fp, tbD, ints_natD, dst_map (f := fun (i : Nat) => (i : Int)) (fun a b z => by omega) t]
    rw [must_ok (by rw [List.length_map]; omega)]
    exact Ok.ret ⟨rfl, rfl⟩
def shareB (m : Mem) (a b : Nat) : Bool := match m with
  | .pages _ => false
  | .frames t _ => !decide (a = b) && decide (t.getD a 0 = t.getD b 0)
theorem q_shares (hk : 0 < k) {n a b : Nat} {m : Mem} (h : MemOk n m) (ha : a < n) (hb : b < n) : callF T (gl.map (·.2)) TB F k 12 [.d (memD m), .d (.int (a : Nat)), .d (.int (b : Nat))] M = .ok (.d (.bool (shareB m a b))) M := by
  refine eq_of_ok ?_
  rw [call_run T_shares rfl hk]
  cases m with
  | pages ps =>
    dsimp! [f_shares, b_shares, memD]
    exact Ok.ret ⟨rfl, rfl⟩
  | frames t fs =>
    obtain ⟨h1, h2, h3⟩ := h
    by_cases e : a = b
    · have e2 : ((a : Nat) : Int) = ((b : Nat) : Int) := by omega
      dsimp! [f_shares, b_shares, memD, ns_fp, e2]
      refine Ok.ret ⟨?_, rfl⟩
      unfold shareB
      dsimp only
      rw [decide_eq_true e]; rfl
    · have e2 : ¬ ((a : Nat) : Int) = ((b : Nat) : Int) := by omega
      dsimp! [f_shares, b_shares, memD, ns_fp, e2, tbD, at_map (f := natD) 0 (show a < t.length by omega), at_map (f := natD) 0 (show b < t.length by omega), cmp_nat]
      refine Ok.ret ⟨?_, rfl⟩
      unfold shareB
      dsimp only
      rw [decide_eq_false e]; rfl
theorem q_behind (hk : 1 < k) {n : Nat} {m : Mem} {d : Deed} (h : MemOk n m) (hn : n ≤ 6) (hd : DeedOk n d) : callF T (gl.map (·.2)) TB F k 26 [.d (memD m), .d (deedD d)] M = .ok (.d (memD (mdeed m d))) M := by
  refine eq_of_ok ?_
  rw [call_run T_law_behind rfl (by omega)]
  cases m with
  | pages ps =>
    have hl := PsOk.len h
    cases d with
    | copy a b =>
      have ha := hd.1
      have hb := hd.2
      dsimp! [f_law_behind, b_law_behind, memD, psD, deedD, natD, at_map (f := pgD) [] (show b < ps.length by omega)]
      rw [q_put (by omega) (by simp; omega) (by simp; omega)]
      dsimp! [map_setD]
      rw [lim_ok (by decide)]
      exact Ok.ret ⟨rfl, rfl⟩
    | store p q w =>
      have hp := hd.1
      have hq := hd.2
      have l8 := ps_get h hp
      dsimp! [f_law_behind, b_law_behind, memD, psD, deedD, natD, ns_sc, at_map (f := pgD) [] (show p < ps.length by omega), pgD]
      rw [q_put (by omega) (by rw [List.length_map]; omega) (by rw [List.length_map]; omega)]
      dsimp! [map_w]
      rw [q_put (by omega) (by simp; omega) (by simp; omega)]
      dsimp! [map_pg]
      rw [lim_ok (by decide)]
      exact Ok.ret ⟨rfl, rfl⟩
  | frames t fs =>
    obtain ⟨hl, h2, h3⟩ := h
    have hl2 := h2.len
    cases d with
    | copy a b =>
      have ha := hd.1
      have hb := hd.2
      dsimp! [f_law_behind, b_law_behind, memD, ns_fp, tbD, deedD, natD, at_map (f := natD) 0 (show b < t.length by omega)]
      rw [q_put (by omega) (by simp; omega) (by simp; omega)]
      dsimp! [map_nt]
      rw [lim_ok (by decide)]
      exact Ok.ret ⟨rfl, rfl⟩
    | store p q w =>
      have hp := hd.1
      have hq := hd.2
      have hf := tb_get hl h3 hp
      have l8 := ps_get h2 hf
      unfold mdeed mstore
      dsimp only
      have sp := bl_set (t := t) (p := p) (by omega)
      generalize ef : t.getD p 0 = f at hf l8 sp ⊢
      dsimp! [f_law_behind, b_law_behind, memD, ns_fp, ns_sc, tbD, psD, deedD, at_map (f := natD) 0 (show p < t.length by omega), ef, natD, at_map (f := pgD) [] (show f < fs.length by omega), pgD]
      rw [q_put (by omega) (by rw [List.length_map]; omega) (by rw [List.length_map]; omega)]
      dsimp! [map_w]
      rw [comp_filter (enc := natD) (g := natD) (p := fun x => decide (x = f)) fun x hx => ⟨_, rfl, by dsimp! [show W.d (PyData.int (f : Nat)) = .d (natD f) from rfl, cmp_nat], fun _ => by dsimp! [Ev.b_ok]⟩]
      have ec : ((t.filter fun x => decide (x = f)).map natD).length = t.count f := by
        rw [List.length_map, List.count_eq_length_filter]
        congr 1
      dsimp! [ec]
      rw [lim_ok (by have := List.count_le_length (a := f) (l := t); omega)]
      simp! [ec]
      by_cases hc : 1 < t.count f
      · have fr := frF_ok (t := t) (fun x hx => by rw [hl]; exact h3 x hx) hc
        have hc2 : (1 : Int) < ((t.count f : Nat) : Int) := by omega
        rw [if_pos hc]
        dsimp! [hc2, rng1_n (show (t.map natD).length ≤ 1000000 by simp; omega), range0_nat]
        rw [comp_filter (enc := natD) (g := natD) (p := fun k => !decide (k ∈ t)) fun x hx => ⟨_, rfl, by dsimp! [in_natD], fun _ => by dsimp! [Ev.b_ok]⟩]
        have e : (List.filter (fun k => !decide (k ∈ t)) (List.range (List.map natD t).length)) = freeL t := by rw [List.length_map]; rfl
        dsimp! [e]
        rw [lim_ok (by rw [List.length_map]; refine Nat.le_trans (List.length_filter_le _ _) ?_; rw [List.length_range]; omega)]
        have e0 : L2.atI ((freeL t).map natD) 0 = some (.int ((frF t : Nat) : Int)) := by
          have := fr.2.2
          unfold frF
          cases hq : freeL t with
          | nil => exact absurd hq this
          | cons a r => exact atI_0
        dsimp! [e0]
        rw [q_put (by omega) (by simp; omega) (by simp; omega)]
        dsimp! [map_nt]
        rw [q_put (by omega) (by simp; omega) (by simp; omega)]
        dsimp! [map_pg]
        rw [lim_ok (by decide)]
        exact Ok.ret ⟨rfl, rfl⟩
      · have hc2 : ¬ (1 : Int) < ((t.count f : Nat) : Int) := by omega
        rw [if_neg hc]
        dsimp! [hc2]
        rw [q_put (by omega) (by simp; omega) (by simp; omega)]
        dsimp! [map_nt, sp]
        rw [q_put (by omega) (by simp; omega) (by simp; omega)]
        dsimp! [map_pg]
        rw [lim_ok (by decide)]
        exact Ok.ret ⟨rfl, rfl⟩
end
end K13
set_option Elab.async false
set_option linter.all false
set_option maxRecDepth 100000
set_option maxHeartbeats 1000000
namespace K13
open PySem Ev
theorem sm_pg {n : Nat} {p : Pg} (h : p.length ≤ 1000) : Sm (n + 1) (pgD p) := .tup (Sm.map (fun i => .int _ i) p) (by rw [List.length_map]; omega)
theorem sm_ps {n : Nat} {ps : List Pg} (h : ∀ p ∈ ps, p.length = 8) (hl : ps.length ≤ 1000) : Sm (n + 2) (psD ps) := .tup (fun x hx => by
  obtain ⟨p, hp, rfl⟩ := List.mem_map.mp hx
  exact sm_pg (by rw [h p hp]; decide)) (by rw [List.length_map]; omega)
theorem sm_tb {n : Nat} {t : List Nat} (h : t.length ≤ 1000) : Sm (n + 1) (tbD t) := .tup (Sm.map (fun i => .int _ _) t) (by rw [List.length_map]; omega)
theorem sm_mem {n : Nat} {m : Mem} (h : MemOk n m) (hn : n ≤ 6) : Sm 3 (memD m) := by
  cases m with
  | pages ps =>
    have hl := PsOk.len h
    exact .tup (Sm.cons (.str _ _) (Sm.cons (sm_ps (PsOk.all h) (by omega)) Sm.nil)) (by simp)
  | frames t fs =>
    obtain ⟨h1, h2, h3⟩ := h
    have hl := h2.len
    exact .tup (Sm.cons (.str _ _) (Sm.cons (sm_tb (by omega)) (Sm.cons (sm_ps h2.all (by omega)) Sm.nil))) (by simp)
theorem sm_org {n : Nat} (o : Org) : Sm (n + 1) (orgD o) := .tup (Sm.cons (.str _ _) (Sm.cons (.int _ _) Sm.nil)) (by simp)
theorem sm_orgs {n : Nat} {o : List Org} (h : o.length ≤ 1000) : Sm (n + 2) (.tuple (o.map orgD)) := .tup (Sm.map (fun x => sm_org x) o) (by rw [List.length_map]; omega)
section
variable {F k : Nat} {M : Store} {P : W → Store → Prop}
theorem getD_of {α : Type} {l : List α} {i : Nat} {x d : α} (h : l[i]? = some x) : l.getD i d = x := by rw [List.getD_eq_getElem?_getD, h]; rfl
theorem oat_succ {n : Nat} {ds : List Deed} {i : Nat} {d : Deed} (h : ds[i]? = some d) : oat n ds (i + 1) = odeed (oat n ds i) i d := by
  show (match ds[i]? with | some d => odeed (oat n ds i) i d | none => oat n ds i) = _
  rw [h]
theorem org_t (i : Nat) : PyData.tuple [.str s_start, .int (i : Nat)] = orgD (true, i) := rfl
theorem org_f (i : Nat) : PyData.tuple [.str s_store, .int (i : Nat)] = orgD (false, i) := rfl
theorem q_origins (hk : 0 < k) {n : Nat} {ds : List Deed} (hd : ∀ d ∈ ds, DeedOk n d) (hn : n ≤ 6) (hl : ds.length ≤ 1000) : callF T (gl.map (·.2)) TB F k 27 [.d (.int (n : Nat)), .d (.list (ds.map deedD))] M = .ok (.d (.list ((oat n ds ds.length).map orgD))) M := by
  refine eq_of_ok ?_
  rw [call_run T_law_origins rfl hk]
  dsimp! [f_law_origins, b_law_origins, rng1_n (show n ≤ 1000000 by omega), range0_nat]
  rw [comp_map (enc := natD) (g := fun k => orgD (true, k)) (fun _ _ => C_no) fun x hx => ⟨_, rfl, by dsimp! [lim_ok (show 2 ≤ 16777216 by decide)]; rfl⟩]
  dsimp! [Ev.b_ok]
  rw [lim_ok (by simp; omega)]
  dsimp! [rng1_n (show (ds.map deedD).length ≤ 1000000 by simp; omega)]
  rw [List.length_map]
  refine Ok.bindI (for_rng (fun i e M' => M' = M ++ [.lst ((oat n ds i).map orgD)] ∧ ∃ v, e = [some (.d (.int (n : Nat))), some (.d (.list (ds.map deedD))), some (.r M.length), v]) ⟨by rw [show oat n ds 0 = o0 n from rfl]; unfold o0; rw [List.map_map]; rfl, none, rfl⟩ (fun i e M' hi hI => ?_) fun e M' hI => ?_)
  · obtain ⟨rfl, v, rfl⟩ := hI
    refine ⟨_, rfl, ?_⟩
    have ed : ds[i]? = some ds[i] := List.getElem?_eq_getElem hi
    have hdd := hd _ (List.getElem_mem hi)
    generalize ds[i] = d at ed hdd
    have ol := oat_len (n := n) (ds := ds) i
    have es := oat_succ (n := n) ed
    cases d with
    | copy a b =>
      have ha := hdd.1
      have hb := hdd.2
      dsimp! [at_map (f := deedD) (.copy 0 0) hi, getD_of ed, deedD, natD, at_map (f := orgD) (true, 0) (show b < (oat n ds i).length by omega), List.length_map, ixN_nat (show a < (oat n ds i).length by omega), map_setD]
      refine Ok.ret ⟨?_, _, rfl⟩
      rw [es]; rfl
    | store p q w =>
      have hp := hdd.1
      dsimp! [at_map (f := deedD) (.copy 0 0) hi, getD_of ed, deedD, natD, ns_sc, lim_ok (show 2 ≤ 16777216 by decide), List.length_map, ixN_nat (show p < (oat n ds i).length by omega), org_f, map_setD]
      refine Ok.ret ⟨?_, _, rfl⟩
      rw [es]; rfl
  · obtain ⟨rfl, v, rfl⟩ := hI
    dsimp! [Ev.b_ok]
    exact Ok.ret ⟨rfl, rfl⟩
theorem q_origins_of (hk : 0 < k) {n : Nat} {ds : List Deed} (hd : ∀ d ∈ ds, DeedOk n d) (hn : n ≤ 6) (hl : ds.length ≤ 1000) : callF T (gl.map (·.2)) TB F k 14 [.d (.int (n : Nat)), .d (.tuple (ds.map deedD))] M = .ok (.d (.tuple ((oat n ds ds.length).map orgD))) M := by
  refine eq_of_ok ?_
  rw [call_run T_origins_of rfl hk]
  dsimp! [f_origins_of, b_origins_of, rng1_n (show n ≤ 1000000 by omega), range0_nat]
  rw [comp_map (enc := natD) (g := fun k => orgD (true, k)) (fun _ _ => C_no) fun x hx => ⟨_, rfl, by dsimp! [lim_ok (show 2 ≤ 16777216 by decide)]; rfl⟩]
  dsimp! [Ev.b_ok]
  rw [lim_ok (by simp; omega)]
  dsimp! [Ev.b_ok]
  refine Ok.bindI (for_enum (enc := deedD) (fun i todo e M' => todo = ds.drop i ∧ M' = M ++ [.lst ((oat n ds i).map orgD)] ∧ ∃ v1 v2 v3, e = [some (.d (.int (n : Nat))), some (.d (.tuple (ds.map deedD))), some (.r M.length), v1, v2, v3]) ⟨rfl, by rw [show oat n ds 0 = o0 n from rfl]; unfold o0; rw [List.map_map]; rfl, none, none, none, rfl⟩ (fun i d todo e M' hI => ?_) fun i e M' hI => ?_)
  · obtain ⟨ht, rfl, v1, v2, v3, rfl⟩ := hI
    refine ⟨_, rfl, ?_⟩
    have ed : ds[i]? = some d := by
      have := congrArg List.head? ht
      rw [List.head?_cons, List.head?_drop] at this
      exact this.symm
    have ht2 : todo = ds.drop (i + 1) := by
      have := congrArg List.tail ht
      rwa [List.tail_cons, List.tail_drop] at this
    have hdd := hd _ (List.mem_of_getElem? ed)
    have ol := oat_len (n := n) (ds := ds) i
    have es := oat_succ (n := n) ed
    cases d with
    | copy a b =>
      have ha := hdd.1
      have hb := hdd.2
      dsimp! [deedD, natD, ns_cs, at_map (f := orgD) (true, 0) (show b < (oat n ds i).length by omega), List.length_map, ixN_nat (show a < (oat n ds i).length by omega), map_setD]
      refine Ok.ret ⟨ht2, ?_, _, _, _, rfl⟩
      rw [es]; rfl
    | store p q w =>
      have hp := hdd.1
      dsimp! [deedD, natD, lim_ok (show 2 ≤ 16777216 by decide), List.length_map, ixN_nat (show p < (oat n ds i).length by omega), org_f, map_setD]
      refine Ok.ret ⟨ht2, ?_, _, _, _, rfl⟩
      rw [es]; rfl
  · obtain ⟨ht, rfl, v1, v2, v3, rfl⟩ := hI
    have e2 : oat n ds i = oat n ds ds.length := by
      have h1 : ds.length ≤ i := List.drop_eq_nil_iff.mp ht.symm
      have key : ∀ j, oat n ds (ds.length + j) = oat n ds ds.length := fun j => by
        induction j with
        | zero => rfl
        | succ j ih =>
          show (match ds[ds.length + j]? with | some d => _ | none => oat n ds (ds.length + j)) = _
          rw [List.getElem?_eq_none (by omega), ih]
      have := key (i - ds.length)
      rwa [show ds.length + (i - ds.length) = i by omega] at this
    dsimp! [Ev.b_ok]
    exact Ok.ret ⟨by rw [e2], rfl⟩
theorem q_memory_behind (hk : 3 < k) {n : Nat} {m : Mem} {ds : List Deed} (h : MemOk n m) (hd : ∀ d ∈ ds, DeedOk n d) (hn : n ≤ 6) : callF T (gl.map (·.2)) TB F k 13 [.d (memD m), .d (.tuple (ds.map deedD))] M = .ok (.d (memD (mat m ds ds.length))) M := by
  refine eq_of_ok ?_
  rw [call_run T_memory_behind rfl (by omega)]
  dsimp! [f_memory_behind, b_memory_behind]
  refine Ok.bindI (for_todo (enc := deedD) (fun todo e M' => M' = M ∧ (∀ d ∈ todo, DeedOk n d) ∧ ∃ m' v, MemOk n m' ∧ e = [some (.d (memD m')), some (.d (.tuple (ds.map deedD))), v] ∧ todo.foldl mdeed m' = ds.foldl mdeed m) ⟨rfl, hd, m, none, h, rfl, rfl⟩ (fun d todo e M' hI => ?_) fun e M' hI => ?_)
  · obtain ⟨rfl, hall, m', v, hm, rfl, hf⟩ := hI
    refine ⟨_, rfl, ?_⟩
    have hdd := hall d List.mem_cons_self
    have hok := mdeed_ok hm hdd
    rw [List.foldl_cons] at hf
    cases d with
    | copy a b =>
      dsimp! [deedD, natD, ns_cs, q_copy_page (show 2 < k - 1 by omega) hm hn hdd.1 hdd.2]
      exact Ok.ret ⟨rfl, fun d hd => hall d (List.mem_cons_of_mem _ hd), _, _, hok, rfl, hf⟩
    | store p q w =>
      dsimp! [deedD, natD, q_store_word (show 2 < k - 1 by omega) hm hn hdd.1 hdd.2]
      exact Ok.ret ⟨rfl, fun d hd => hall d (List.mem_cons_of_mem _ hd), _, _, hok, rfl, hf⟩
  · obtain ⟨rfl, _, m', v, hm, rfl, hf⟩ := hI
    dsimp! [Ev.b_ok]
    refine Ok.ret ⟨?_, rfl⟩
    unfold mat
    rw [List.take_length, ← hf]
    rfl
end
end K13
set_option Elab.async false
set_option linter.all false
set_option maxRecDepth 100000
set_option maxHeartbeats 1000000
namespace K13
open PySem Ev
section
variable {F k : Nat} {c : Cell} {R : Store} {P : W → Store → Prop}
theorem D_word (hk : 2 < k) (hc : TpOk c) (h : ∀ (v : Int) c', TpOk c' → P (.d (.int v)) (c' :: R)) : Ok (callF T (gl.map (·.2)) TB F k 22 [.r 0] (c :: R)) P := by
  rw [call_run T_law_word rfl (by omega)]
  dsimp! [f_law_word, b_law_word]
  refine Ok.bindI (D_draw (by omega) hc (by omega) (by omega) fun r c1 h1 hr => ?_)
  by_cases h0 : (r : Int) = 0
  · dsimp! [h0, lim_ok (show 14 ≤ 16777216 by decide)]
    refine Ok.bindI (D_pick (enc := PyData.int) (xs := [0, 1, 2, 31, 32, 33, 255, 256, 65535, 65536, 2147483647, 2147483648, 4294967294, 4294967295]) (by omega) h1 (by simp) (by simp) fun v c2 h2 hv => ?_)
    dsimp! [Ev.b_ok]
    exact Ok.ret (h v c2 h2)
  · by_cases h01 : (r : Int) = 1
    · dsimp! [h0, h01]
      refine Ok.bindI (D_draw (by omega) h1 (by omega) (by omega) fun n c2 h2 hn => ?_)
      dsimp! [rng1_n (show n ≤ 1000000 by omega)]
      refine Ok.bindI (forL_ok (fun i e M => M = c2 :: R ∧ ∃ (pw : Int) (v : Option W), e = [some (.r 0), some (.d (.int 1)), some (.d (.int pw)), v]) ⟨rfl, 1, none, rfl⟩ (fun i x e M hx hI => ?_) (fun e M hI => ?_))
      · obtain ⟨rfl, pw, v, rfl⟩ := hI
        refine ⟨_, rfl, ?_⟩
        dsimp! [e_mul (show -18446744073709551616 < (2 : Int) ∧ (2 : Int) < 18446744073709551616 by decide)]
        exact Ok.ret ⟨rfl, _, _, rfl⟩
      · obtain ⟨rfl, pw, v, rfl⟩ := hI
        dsimp! [Ev.b_ok]
        refine Ok.bindI (D_draw (by omega) h2 (by omega) (by omega) fun m c3 h3 hm => ?_)
        dsimp! [e_mod (show (0 : Int) < 4294967296 by decide)]
        exact Ok.ret (h _ c3 h3)
    · by_cases h02 : (r : Int) = 2
      · dsimp! [h0, h01, h02]
        refine Ok.bindI (D_draw (by omega) h1 (by omega) (by omega) fun n c2 h2 hn => ?_)
        dsimp! [Ev.b_ok]
        exact Ok.ret (h _ c2 h2)
      · dsimp! [h0, h01, h02]
        refine Ok.bindI (D_draw (by omega) h1 (by omega) (by omega) fun n c2 h2 hn => ?_)
        dsimp! [e_mul (show -18446744073709551616 < (65536 : Int) ∧ (65536 : Int) < 18446744073709551616 by decide)]
        refine Ok.bindI (D_draw (by omega) h2 (by omega) (by omega) fun m c3 h3 hm => ?_)
        dsimp! [Ev.b_ok]
        exact Ok.ret (h _ c3 h3)
theorem D_some_deed (hk : 3 < k) (hc : TpOk c) {n : Nat} {ps : List Pg} (hp : PsOk n ps) (h0 : 0 < n) (hn : n ≤ 6) (h : ∀ d c', TpOk c' → DeedOk n d → P (.d (deedD d)) (c' :: R)) : Ok (callF T (gl.map (·.2)) TB F k 23 [.r 0, .d (.int (n : Nat)), .d (psD ps)] (c :: R)) P := by
  have hl := hp.len
  rw [call_run T_law_some_deed rfl (by omega)]
  dsimp! [f_law_some_deed, b_law_some_deed]
  refine Ok.bindI (D_draw (by omega) hc (by omega) (by omega) fun p c1 h1 hp1 => ?_)
  have hpn : p < n := by omega
  dsimp! [Ev.b_ok]
  refine Ok.bindI (D_draw (by omega) h1 (by omega) (by omega) fun kd c2 h2 hk2 => ?_)
  by_cases hkd : (kd : Int) < 3
  · dsimp! [hkd]
    refine Ok.bindI (D_draw (by omega) h2 (by omega) (by omega) fun s c3 h3 hs => ?_)
    dsimp! [lim_ok (show 3 ≤ 16777216 by decide)]
    exact Ok.ret (h (.copy p s) c3 h3 ⟨hpn, by omega⟩)
  · dsimp! [hkd]
    refine Ok.bindI (D_draw (by omega) h2 (by omega) (by omega) fun q c3 h3 hq => ?_)
    have hq8 : q < 8 := by omega
    dsimp! [Ev.b_ok]
    refine Ok.bindI (D_word (by omega) h3 fun w c4 h4 => ?_)
    have l8 := ps_get hp hpn
    dsimp! [psD, at_map (f := pgD) [] (show p < ps.length by omega), pgD, at_map (f := PyData.int) 0 (show q < (ps.getD p []).length by omega)]
    refine Ok.bindI (D_draw (by omega) h4 (by omega) (by omega) fun o c5 h5 ho => ?_)
    have hon : o < n := by omega
    have l9 := ps_get hp hon
    dsimp! [at_map (f := pgD) [] (show o < ps.length by omega), pgD, at_map (f := PyData.int) 0 (show q < (ps.getD o []).length by omega), lim_ok (show 4 ≤ 16777216 by decide)]
    refine Ok.bindI (D_pick (enc := PyData.int) (xs := [w, (ps.getD p []).getD q 0, (ps.getD o []).getD q 0, 0]) (by omega) h5 (by simp) (by simp) fun v c6 h6 hv => ?_)
    dsimp! [lim_ok (show 4 ≤ 16777216 by decide)]
    exact Ok.ret (h (.store p q v) c6 h6 ⟨hpn, hq8⟩)
theorem rng_any {z : Int} {M : Store} (h1 : -1000 ≤ z) (h2 : z ≤ 1000) : rngK (.d (.int z)) M = .ok (.items (range0 z)) M := if_pos (by constructor <;> omega)
theorem D_some_deeds (hk : 4 < k) (hc : TpOk c) {n : Nat} {ps : List Pg} (hp : PsOk n ps) (hn : n ≤ 6) (h : ∀ (ds : List Deed) c', TpOk c' → (∀ d ∈ ds, DeedOk n d) → ds.length ≤ 60 → P (.d (.list (ds.map deedD))) (c' :: R)) : Ok (callF T (gl.map (·.2)) TB F k 24 [.r 0, .d (.int (n : Nat)), .d (psD ps)] (c :: R)) P := by
  rw [call_run T_law_some_deeds rfl (by omega)]
  have rest2 : ∀ (Q : Store) (ds : List Deed) (c1 : Cell) (sz : Nat) (x5 x6 : Option W), (∃ pre, Q = R ++ pre) → ds.length ≤ 12 → sz ≤ 40 → (∀ d ∈ ds, DeedOk n d) → TpOk c1 → 0 < n →
      Ok ((evSs ⟨callF T (gl.map (·.2)) TB F (k - 1), F, gl.map (·.2), TB⟩ (dropS b_law_some_deeds 4) [some (.r 0), some (.d (.int (n : Nat))), some (.d (psD ps)), some (.d (.int (sz : Nat))), some (.r (Q.length + 1)), x5, x6] (c1 :: (Q ++ [.lst (ds.map deedD)]))).bind fun fl M1 => leave .F (R.length + 1) fl M1) P := by
    rintro Q ds c1 sz x5 x6 hQ hds hsz hall h1 h0
    have hRQ : R.length ≤ Q.length := by obtain ⟨pre, rfl⟩ := hQ; rw [List.length_append]; omega
    dsimp! [b_law_some_deeds, dropS, List.length_map, rng_any (show -1000 ≤ ((sz : Nat) : Int) - ((ds.length : Nat) : Int) by omega) (show ((sz : Nat) : Int) - ((ds.length : Nat) : Int) ≤ 1000 by omega)]
    generalize ez : ((sz : Nat) : Int) - ((ds.length : Nat) : Int) = z
    have hz : (range0 z).length ≤ 40 := by unfold range0; rw [List.length_map, List.length_range]; omega
    refine Ok.bindI (forL_ok (fun i e M => i ≤ 40 ∧ ∃ (c2 : Cell) (ds2 : List Deed) (v : Option W), TpOk c2 ∧ (∀ d ∈ ds2, DeedOk n d) ∧ ds2.length ≤ 12 + i ∧ M = c2 :: (Q ++ [.lst (ds2.map deedD)]) ∧ e = [some (.r 0), some (.d (.int (n : Nat))), some (.d (psD ps)), some (.d (.int (sz : Nat))), some (.r (Q.length + 1)), v, x6]) ⟨by omega, c1, ds, x5, h1, hall, by omega, rfl, rfl⟩ (fun i x e M hx hI => ?_) fun e M hI => ?_)
    · obtain ⟨hi, c2, ds2, v, h2, hall2, hl2, rfl, rfl⟩ := hI
      have hi2 : i < (range0 z).length := (List.getElem?_eq_some_iff.mp hx).1
      refine ⟨_, rfl, ?_⟩
      dsimp! [Ev.b_ok]
      refine Ok.bindI (D_some_deed (by omega) h2 hp h0 hn fun d c3 h3 hd => ?_)
      dsimp! [must_ok (show (ds2.map deedD).length < sizeLine by rw [List.length_map, sizeLine_eq]; omega)]
      refine Ok.ret ⟨by omega, c3, ds2 ++ [d], _, h3, fun y hy => ?_, by rw [List.length_append, List.length_singleton]; omega, by rw [List.map_append]; rfl, rfl⟩
      rcases List.mem_append.mp hy with z | z
      · exact hall2 y z
      · rw [List.mem_singleton.mp z]; exact hd
    · obtain ⟨hi, c2, ds2, v, h2, hall2, hl2, rfl, rfl⟩ := hI
      dsimp! [Ev.b_ok]
      rw [c_leaveF (by omega)]
      simp! [Ev.b_ok]
      have tk : List.take R.length (Q ++ [Cell.lst (ds2.map deedD)]) = R := by
        obtain ⟨pre, rfl⟩ := hQ
        rw [List.append_assoc, List.take_left]
      rw [tk]
      exact Ok.ret (h ds2 c2 h2 hall2 (by omega))
  have rest1 : ∀ (c1 : Cell) (sz : Nat), sz ≤ 40 → TpOk c1 → 0 < n →
      Ok ((evSs ⟨callF T (gl.map (·.2)) TB F (k - 1), F, gl.map (·.2), TB⟩ (dropS b_law_some_deeds 2) [some (.r 0), some (.d (.int (n : Nat))), some (.d (psD ps)), some (.d (.int (sz : Nat))), none, none, none] (c1 :: R)).bind fun fl M1 => leave .F (R.length + 1) fl M1) P := by
    intro c1 sz hsz h1 h0
    dsimp! [b_law_some_deeds, dropS]
    refine Ok.bindI (D_draw (by omega) h1 (by omega) (by omega) fun r c2 h2 hr => ?_)
    by_cases hr0 : (r : Int) = 0
    · dsimp! [hr0]
      refine Ok.bindI (D_draw (by omega) h2 (by omega) (by omega) fun p c3 h3 hp3 => ?_)
      dsimp! [rng1_n (show n ≤ 1000000 by omega), range0_nat]
      rw [comp_map (enc := natD) (g := fun x => deedD (.copy x p)) (fun _ _ => C_no) fun x hx => ⟨_, rfl, by dsimp! [lim_ok (show 3 ≤ 16777216 by decide)]; rfl⟩]
      dsimp! [Ev.b_ok]
      rw [lim_ok (by simp; omega)]
      dsimp! [rng1_n (show n ≤ 1000000 by omega)]
      refine Ok.nxb (Ok.bindI (comp_todo0 (enc := natD) (fun _ _ => C_no) (fun (todo : List Nat) acc M => ∃ (c4 : Cell) (ds : List Deed), TpOk c4 ∧ M = c4 :: (R ++ [Cell.lst []]) ∧ acc = ds.map deedD ∧ ds.length + todo.length = n ∧ ∀ d ∈ ds, DeedOk n d) ⟨c3, [], h3, rfl, rfl, by simp, fun d hd => (by cases hd)⟩ (fun x todo acc M hJ => ?_) fun acc M hJ => ?_))
      · obtain ⟨c4, ds, h4, rfl, rfl, hdl, hall⟩ := hJ
        refine ⟨_, rfl, ?_⟩
        dsimp! [Ev.b_ok]
        rw [List.length_cons] at hdl
        refine Ok.bindI (Ok.bindI (D_draw (by omega) h4 (by omega) (by omega) fun o c5 h5 ho => ?_))
        dsimp! [lim_ok (show 4 ≤ 16777216 by decide)]
        refine Ok.ret ?_
        dsimp! [Ev.b_ok]
        refine Ok.ret ⟨c5, ds ++ [.store o 1 5], h5, rfl, by rw [List.map_append]; rfl, by rw [List.length_append, List.length_singleton]; omega, fun y hy => ?_⟩
        rcases List.mem_append.mp hy with z | z
        · exact hall y z
        · rw [List.mem_singleton.mp z]; exact ⟨by omega, by decide⟩
      · obtain ⟨c4, ds, h4, rfl, rfl, hdl, hall⟩ := hJ
        rw [List.length_nil, Nat.add_zero] at hdl
        simp! [Ev.b_ok]
        rw [lim_ok (by rw [List.length_map]; omega)]
        simp! [Ev.b_ok]
        rw [lim_ok (by simp; omega)]
        have e : (List.range n).map (fun x => deedD (.copy x p)) ++ ds.map deedD = (((List.range n).map fun x => Deed.copy x p) ++ ds).map deedD := by
          rw [List.map_append, List.map_map]; rfl
        have q := rest2 (R ++ [.lst []]) (((List.range n).map fun x => Deed.copy x p) ++ ds) c4 sz none (some (.d (.int (p : Nat)))) ⟨_, rfl⟩ (by simp; omega) hsz (fun d hd => by
          rcases List.mem_append.mp hd with z | z
          · obtain ⟨x, hx, rfl⟩ := List.mem_map.mp z
            exact ⟨List.mem_range.mp hx, by omega⟩
          · exact hall d z) h4 h0
        simp only [b_law_some_deeds, dropS] at q
        rw [← e] at q
        simp only [List.length_append, List.length_cons, List.length_nil, List.append_assoc, List.cons_append, List.nil_append, Nat.zero_add] at q
        exact q
    · simp! [hr0]
      have q := rest2 R [] c2 sz none none ⟨[], by simp⟩ (by decide) hsz (fun d hd => by cases hd) h2 h0
      simp only [b_law_some_deeds, dropS, List.map_nil] at q
      exact q
  dsimp! [f_law_some_deeds, b_law_some_deeds]
  by_cases h0 : n = 0
  · have e0 : ((n : Nat) : Int) = 0 := by omega
    dsimp! [e0, lim_ok (show 0 ≤ 16777216 by decide)]
    exact Ok.ret (h [] c hc (fun d hd => by cases hd) (by decide))
  · have e0 : ¬ ((n : Nat) : Int) = 0 := by omega
    dsimp! [e0]
    refine Ok.bindI (D_draw (by omega) hc (by omega) (by omega) fun r c1 h1 hr => ?_)
    by_cases hr0 : (r : Int) = 0
    · simp! [hr0]
      have q := rest1 c1 40 (by decide) h1 (by omega)
      simp only [b_law_some_deeds, dropS] at q
      exact q
    · simp! [hr0]
      refine Ok.bindI (D_draw (by omega) h1 (by omega) (by omega) fun r2 c2 h2 hr2 => ?_)
      simp! [Ev.b_ok]
      have q := rest1 c2 (6 + r2) (by omega) h2 (by omega)
      simp only [b_law_some_deeds, dropS] at q
      rw [Int.natCast_add] at q
      exact q
end
end K13
set_option Elab.async false
set_option linter.all false
set_option maxRecDepth 100000
set_option maxHeartbeats 1000000
namespace K13
open PySem Ev
def kindS : Mem → Str
  | .pages _ => s_pages
  | .frames _ _ => s_frames
theorem sub_kind {m : Mem} {M : Store} : subW (.d (memD m)) (.d (.int 0)) M = some (.d (.str (kindS m))) := by cases m <;> rfl
theorem use_org {n i : Nat} {m : Mem} {o : List Org} (hm : MemOk n m) (R1 : Rel n i m o) : ∀ t fs, m = .frames t fs → dstN t = dstN (o.map orK) := fun t fs e => by
  subst e
  rw [dst_map orK_inj]
  exact dst_same (a0 := 0) (b0 := (true, 0)) hm.1 R1.len (R1.sh t fs rfl)
theorem share_org {n i a b : Nat} {m : Mem} {o : List Org} (R1 : Rel n i m o) (ha : a < n) (hb : b < n) {t : List Nat} {fs : List Pg} (e : m = .frames t fs) : shareB m a b = (!decide (a = b) && decide (o.getD a (true, 0) = o.getD b (true, 0))) := by
  subst e
  show (!decide (a = b) && decide (t.getD a 0 = t.getD b 0)) = _
  congr 1
  have := R1.sh t fs rfl a b ha hb
  by_cases c : t.getD a 0 = t.getD b 0
  · rw [decide_eq_true c, decide_eq_true (this.mp c)]
  · rw [decide_eq_false c, decide_eq_false (fun z => c (this.mpr z))]
section
variable {F k : Nat} {c : Cell} {R : Store} {P : W → Store → Prop}
theorem D_looked (hk : 6 < k) (hc : TpOk c) {n i : Nat} {m : Mem} {o : List Org} (hm : MemOk n m) (hn : n ≤ 6) (R1 : Rel n i m o) (h : ∀ c', TpOk c' → P (.d (.bool true)) (c' :: R)) : Ok (callF T (gl.map (·.2)) TB F k 29 [.r 0, .d (memD m), .d (memD m), .d (.list (o.map orgD))] (c :: R)) P := by
  have hol := R1.len
  have hsl := shown_len hm
  rw [call_run T_law_looked rfl (by omega)]
  dsimp! [f_law_looked, b_law_looked, List.length_map, q_shown (show 0 < k - 1 by omega) hm hn]
  refine Ok.bindI (D_turns (n := 4) (by omega) hc (by decide) fun ts c1 h1 ht => ?_)
  dsimp! [Ev.b_ok]
  refine Ok.bindI (for_todo (enc := fun t => PyData.int ((t : Nat) : Int)) (fun todo e M => (∀ t ∈ todo, t < 4) ∧ ∃ (c2 : Cell) (v6 v7 v8 v9 : Option W), TpOk c2 ∧ M = c2 :: R ∧ e = [some (.r 0), some (.d (memD m)), some (.d (memD m)), some (.d (.list (o.map orgD))), some (.d (.int (o.length : Nat))), some (.d (psD (shown m))), v6, v7, v8, v9]) ⟨ht, c1, none, none, none, none, h1, rfl, rfl⟩ (fun t todo e M hI => ?_) fun e M hI => ?_)
  · obtain ⟨hall, c2, v6, v7, v8, v9, h2, rfl, rfl⟩ := hI
    refine ⟨_, rfl, ?_⟩
    have ht4 := hall t List.mem_cons_self
    have hall2 : ∀ t ∈ todo, t < 4 := fun t ht => hall t (List.mem_cons_of_mem _ ht)
    have cs : t = 0 ∨ t = 1 ∨ t = 2 ∨ t = 3 := by omega
    rcases cs with rfl | rfl | rfl | rfl
    · dsimp! [rng1_n (show o.length ≤ 1000000 by omega)]
      refine Ok.bindI (for_rng (n := o.length) (fun j e M => M = c2 :: R ∧ ∃ v7, e = [some (.r 0), some (.d (memD m)), some (.d (memD m)), some (.d (.list (o.map orgD))), some (.d (.int (o.length : Nat))), some (.d (psD (shown m))), some (.d (.int ((0 : Nat) : Int))), v7, v8, v9]) ⟨rfl, v7, rfl⟩ (fun j e M hj hJ => ?_) fun e M hJ => ?_)
      · obtain ⟨rfl, v7, rfl⟩ := hJ
        refine ⟨_, rfl, ?_⟩
        have hjn : j < n := by omega
        have l8 := shown_get hm hjn
        dsimp! [q_words_of (show 0 < k - 1 by omega) hm hjn, psD, at_map (f := pgD) [] (show j < (shown m).length by omega), D_same (sm_pg (n := 0) (show ((shown m).getD j []).length ≤ 1000 by omega)) (show 1 < k - 1 by omega)]
        exact Ok.ret ⟨rfl, _, rfl⟩
      · obtain ⟨rfl, v7, rfl⟩ := hJ
        dsimp! [Ev.b_ok]
        exact Ok.ret ⟨hall2, c2, _, _, _, _, h2, rfl, rfl⟩
    · by_cases h0 : 0 < n
      · have h01 : (0 : Int) < ((o.length : Nat) : Int) := by omega
        dsimp! [h01]
        refine Ok.bindI (D_draw (by omega) h2 (by omega) (by omega) fun p c3 h3 hp => ?_)
        have hpn : p < n := by omega
        dsimp! [Ev.b_ok]
        refine Ok.bindI (D_draw (by omega) h3 (by omega) (by omega) fun q c4 h4 hq => ?_)
        have hq8 : q < 8 := by omega
        have l8 := shown_get hm hpn
        dsimp! [q_word_at (show 1 < k - 1 by omega) hm hpn hq8, psD, at_map (f := pgD) [] (show p < (shown m).length by omega), pgD, at_map (f := PyData.int) 0 (show q < ((shown m).getD p []).length by omega), D_same (.int 0 _) (show 0 < k - 1 by omega)]
        exact Ok.ret ⟨hall2, c4, _, _, _, _, h4, rfl, rfl⟩
      · have h01 : ¬ (0 : Int) < ((o.length : Nat) : Int) := by omega
        dsimp! [h01]
        exact Ok.ret ⟨hall2, c2, _, _, _, _, h2, rfl, rfl⟩
    · have us := use_org hm R1
      cases m with
      | pages ps =>
        dsimp! [q_in_use (show 0 < k - 1 by omega) hm hn, sub_kind, kindS, natD, usedN, hol, D_same (.int 0 _) (show 0 < k - 1 by omega)]
        exact Ok.ret ⟨hall2, c2, _, _, _, _, h2, rfl, rfl⟩
      | frames t fs =>
        have us := us t fs rfl
        dsimp! [q_in_use (show 0 < k - 1 by omega) hm hn, sub_kind, kindS, ns_fp, natD, usedN, tk_orgs, us]
        rw [must_ok (by rw [List.length_map]; omega)]
        dsimp! [D_same (.int 0 _) (show 0 < k - 1 by omega)]
        exact Ok.ret ⟨hall2, c2, _, _, _, _, h2, rfl, rfl⟩
    · by_cases h0 : 0 < n
      · have h01 : (0 : Int) < ((o.length : Nat) : Int) := by omega
        dsimp! [h01]
        refine Ok.bindI (D_draw (by omega) h2 (by omega) (by omega) fun p c3 h3 hp => ?_)
        have hpn : p < n := by omega
        dsimp! [Ev.b_ok]
        refine Ok.bindI (D_draw (by omega) h3 (by omega) (by omega) fun q c4 h4 hq => ?_)
        have hqn : q < n := by omega
        have sh := fun t fs e => share_org (t := t) (fs := fs) R1 hpn hqn e
        cases m with
        | pages ps =>
          dsimp! [q_shares (show 0 < k - 1 by omega) hm hpn hqn, sub_kind, kindS, ns_pf, shareB, D_same (.bl 0 _) (show 0 < k - 1 by omega)]
          exact Ok.ret ⟨hall2, c4, _, _, _, _, h4, rfl, rfl⟩
        | frames t fs =>
          have sh := sh t fs rfl
          by_cases e : p = q
          · subst e
            rw [decide_eq_true rfl] at sh
            have sh : shareB (.frames t fs) p p = false := sh
            dsimp! [q_shares (show 0 < k - 1 by omega) hm hpn hqn, sh, sub_kind, kindS, eq_self, D_same (.bl 0 _) (show 0 < k - 1 by omega)]
            exact Ok.ret ⟨hall2, c4, _, _, _, _, h4, rfl, rfl⟩
          · have e2 : ¬ ((p : Nat) : Int) = ((q : Nat) : Int) := by omega
            rw [decide_eq_false e] at sh
            have sh : shareB (.frames t fs) p q = decide (o.getD p (true, 0) = o.getD q (true, 0)) := sh
            dsimp! [q_shares (show 0 < k - 1 by omega) hm hpn hqn, sh, sub_kind, kindS, e2, at_map (f := orgD) (true, 0) (show p < o.length by omega), at_map (f := orgD) (true, 0) (show q < o.length by omega), cmp_org, D_same (.bl 0 _) (show 0 < k - 1 by omega)]
            exact Ok.ret ⟨hall2, c4, _, _, _, _, h4, rfl, rfl⟩
      · have h01 : ¬ (0 : Int) < ((o.length : Nat) : Int) := by omega
        dsimp! [h01]
        exact Ok.ret ⟨hall2, c2, _, _, _, _, h2, rfl, rfl⟩
  · obtain ⟨_, c2, v6, v7, v8, v9, h2, rfl, rfl⟩ := hI
    dsimp! [Ev.b_ok]
    exact Ok.ret (h c2 h2)
end
end K13
set_option Elab.async false
set_option linter.all false
set_option maxRecDepth 100000
set_option maxHeartbeats 1000000
namespace K13
open PySem Ev
abbrev Eld := Mem × List Org
def eldD (x : Eld) : D := .tuple [memD x.1, memD x.1, .list (x.2.map orgD)]
def EldOk (n : Nat) (x : Eld) : Prop := MemOk n x.1 ∧ ∃ i, Rel n i x.1 x.2
theorem cut_m3 {xs : List D} : cutD xs (some (-3)) none = xs.drop (xs.length - 3) := cut_neg (k := 2)
theorem cut_t1 {xs : List D} : cutD xs none (some 1) = xs.take 1 := cut_to 1
theorem rows_take {ds : List Deed} {i : Nat} : cutD (ds.map deedD) none (some (((i : Nat) : Int) + 1)) = (ds.take (i + 1)).map deedD := by rw [cut_to_s, List.map_take]
section
variable {F k : Nat} {c : Cell} {R : Store} {P : W → Store → Prop}
theorem D_whole_row (hk : 6 < k) (hc : TpOk c) {n : Nat} {ps : List Pg} {ds : List Deed} {fr : Bool} (hp : PsOk n ps) (hn : n ≤ 6) (hd : ∀ d ∈ ds, DeedOk n d) (hl : ds.length ≤ 200) (h : ∀ c', TpOk c' → P (.d (.bool true)) (c' :: R)) :
    Ok (callF T (gl.map (·.2)) TB F k 31 [.r 0, .d (psD ps), .d (.list (ds.map deedD)), .d (.str (wayS fr))] (c :: R)) P := by
  have hpl := hp.len
  have m0 := mstart_ok (fr := fr) hp
  have s0 := sm_mem m0 hn
  rw [call_run T_law_whole_row rfl (by omega)]
  dsimp! [f_law_whole_row, b_law_whole_row, q_start (show 0 < k - 1 by omega) hp hn, q_memory_of (show 0 < k - 1 by omega) hp hn, D_same s0 (show 3 < k - 1 by omega)]
  refine Ok.bindI (for_todo (enc := deedD) (fun todo e M => M = c :: R ∧ (∀ d ∈ todo, DeedOk n d) ∧ ∃ m' v, MemOk n m' ∧ e = [some (.r 0), some (.d (psD ps)), some (.d (.list (ds.map deedD))), some (.d (.str (wayS fr))), some (.d (memD m')), some (.d (memD (mstart ps fr))), v, none] ∧ todo.foldl mdeed m' = ds.foldl mdeed (mstart ps fr)) ⟨rfl, hd, _, none, m0, rfl, rfl⟩ (fun d todo e M hI => ?_) fun e M hI => ?_)
  · obtain ⟨rfl, hall, m', v, hm, rfl, hf⟩ := hI
    refine ⟨_, rfl, ?_⟩
    have hdd := hall d List.mem_cons_self
    rw [List.foldl_cons] at hf
    dsimp! [q_behind (show 1 < k - 1 by omega) hm hn hdd]
    exact Ok.ret ⟨rfl, fun d hd => hall d (List.mem_cons_of_mem _ hd), _, _, mdeed_ok hm hdd, rfl, hf⟩
  · obtain ⟨rfl, _, m', v, hm, rfl, hf⟩ := hI
    have em : m' = mat (mstart ps fr) ds ds.length := by
      unfold mat
      rw [List.take_length, ← hf]; rfl
    have hme := mat_ok m0 hd ds.length
    have s1 := sm_mem hme hn
    rw [em]
    dsimp! [Ev.b_ok]
    refine Ok.bindI (D_turns (n := 2) (by omega) hc (by decide) fun ts c1 h1 ht => ?_)
    dsimp! [Ev.b_ok]
    refine Ok.bindI (for_todo (enc := fun t => PyData.int ((t : Nat) : Int)) (fun todo e M => (∀ t ∈ todo, t < 2) ∧ ∃ (c2 : Cell) (v7 : Option W), TpOk c2 ∧ M = c2 :: R ∧ e = [some (.r 0), some (.d (psD ps)), some (.d (.list (ds.map deedD))), some (.d (.str (wayS fr))), some (.d (memD (mat (mstart ps fr) ds ds.length))), some (.d (memD (mstart ps fr))), v, v7]) ⟨ht, c1, none, h1, rfl, rfl⟩ (fun t todo e M hI => ?_) fun e M hI => ?_)
    · obtain ⟨hall, c2, v7, h2, rfl, rfl⟩ := hI
      refine ⟨_, rfl, ?_⟩
      have ht2 := hall t List.mem_cons_self
      have hall2 : ∀ t ∈ todo, t < 2 := fun t ht => hall t (List.mem_cons_of_mem _ ht)
      have cs : t = 0 ∨ t = 1 := by omega
      rcases cs with rfl | rfl
      · dsimp! [q_memory_behind (show 3 < k - 1 by omega) m0 hd hn, D_same s1 (show 3 < k - 1 by omega)]
        exact Ok.ret ⟨hall2, c2, _, h2, rfl, rfl⟩
      · have ol := oat_len (n := n) (ds := ds) ds.length
        dsimp! [psD, List.length_map, hpl, q_origins_of (show 0 < k - 1 by omega) hd hn (show ds.length ≤ 1000 by omega), q_origins (show 0 < k - 1 by omega) hd hn (show ds.length ≤ 1000 by omega), D_same (sm_orgs (n := 0) (show (oat n ds ds.length).length ≤ 1000 by omega)) (show 2 < k - 1 by omega)]
        exact Ok.ret ⟨hall2, c2, _, h2, rfl, rfl⟩
    · obtain ⟨_, c2, v7, h2, rfl, rfl⟩ := hI
      dsimp! [Ev.b_ok]
      exact Ok.ret (h c2 h2)
theorem D_lived (hk : 9 < k) (hc : TpOk c) {n : Nat} {ps : List Pg} {ds : List Deed} {fr : Bool} (hp : PsOk n ps) (hn : n ≤ 6) (hd : ∀ d ∈ ds, DeedOk n d) (hl : ds.length ≤ 200) (h : ∀ c', TpOk c' → P (.d (.bool true)) (c' :: R)) :
    Ok (callF T (gl.map (·.2)) TB F k 30 [.r 0, .d (psD ps), .d (.list (ds.map deedD)), .d (.str (wayS fr))] (c :: R)) P := by
  have hpl := hp.len
  have m0 := mstart_ok (fr := fr) hp
  have s0 := sm_mem m0 hn
  have lp : (ps.map pgD).length = n := by rw [List.length_map]; exact hpl
  have no : ∀ d ∈ ([] : List Deed), DeedOk n d := fun d hd => by cases hd
  have e0 := q_origins (F := F) (k := k - 1) (M := c :: R) (by omega) no hn (by decide)
  rw [List.map_nil] at e0
  rw [call_run T_law_lived rfl (by omega)]
  dsimp! [f_law_lived, b_law_lived, q_start (show 0 < k - 1 by omega) hp hn, q_memory_of (show 0 < k - 1 by omega) hp hn, D_same s0 (show 3 < k - 1 by omega), lim_ok (show 0 ≤ 16777216 by decide)]
  unfold psD
  dsimp! [lp, e0, lim_ok (show 3 ≤ 16777216 by decide), lim_ok (show 1 ≤ 16777216 by decide), lstW_M]
  rw [rng1_n (show (ds.map deedD).length ≤ 1000000 by rw [List.length_map]; omega)]
  simp! [Ev.b_ok]
  rw [List.length_map]
  have r0 : EldOk n (mstart ps fr, oat n ([] : List Deed) 0) := ⟨m0, 0, Rel.start hp⟩
  refine Ok.bindI (for_rng (n := ds.length) (fun i e M => ∃ (el : List Eld) (v7 v9 : Option W), el ≠ [] ∧ el.length ≤ i + 1 ∧ (∀ x ∈ el, EldOk n x) ∧ M = c :: (R ++ [.lst (el.map eldD)]) ∧
    e = [some (.r 0), some (.d (.tuple (ps.map pgD))), some (.d (.list (ds.map deedD))), some (.d (.str (wayS fr))), some (.d (memD (mat (mstart ps fr) ds i))), some (.d (memD (mat (mstart ps fr) ds i))), some (.r (R.length + 1)), v7, none, v9])
    ⟨[(mstart ps fr, oat n [] 0)], none, none, by simp, by simp, fun x hx => by rw [List.mem_singleton.mp hx]; exact r0, rfl, rfl⟩ (fun i e M hi hI => ?_) fun e M hI => ?_)
  · obtain ⟨el, v7, v9, hne, hel, hall, rfl, rfl⟩ := hI
    refine ⟨_, rfl, ?_⟩
    have ed : ds[i]? = some ds[i] := List.getElem?_eq_getElem hi
    have hdd := hd _ (List.getElem_mem hi)
    generalize hgd : ds[i] = d at ed hdd
    have hmi := mat_ok m0 hd i
    have hms := mat_ok m0 hd (i + 1)
    have es1 := mat_succ (m := mstart ps fr) ed
    have s1 := sm_mem hms hn
    have rl := rel_at hp (fr := fr) hd (i + 1) (by omega)
    have eo := q_origins (F := F) (k := k - 1) (n := n) (ds := ds.take (i + 1)) (M := c :: (R ++ [.lst (el.map eldD)])) (by omega) (fun d hd2 => hd d (List.mem_of_mem_take hd2)) hn (by rw [List.length_take]; omega)
    have eo2 : oat n (ds.take (i + 1)) (ds.take (i + 1)).length = oat n ds (i + 1) := by
      rw [List.length_take, Nat.min_eq_left (by omega), oat_take _ (Nat.le_refl _)]
    rw [eo2] at eo
    have lenDs : (ds.map deedD).length = ds.length := List.length_map _
    have app : ∀ x ∈ el ++ [(mat (mstart ps fr) ds (i + 1), oat n ds (i + 1))], EldOk n x := fun x hx => by
      rcases List.mem_append.mp hx with z | z
      · exact hall x z
      · rw [List.mem_singleton.mp z]; exact ⟨hms, _, rl⟩
    have q2 := q_behind (F := F) (k := k - 1) (M := c :: (R ++ [.lst (el.map eldD)])) (by omega) hmi hn hdd
    rw [← es1] at q2
    cases d with
    | copy a b =>
      have q1 := q_copy_page (F := F) (k := k - 1) (M := c :: (R ++ [.lst (el.map eldD)])) (by omega) hmi hn hdd.1 hdd.2
      have q1 : callF T (gl.map (·.2)) TB F (k - 1) 10 [.d (memD (mat (mstart ps fr) ds i)), .d (.int (a : Nat)), .d (.int (b : Nat))] (c :: (R ++ [.lst (el.map eldD)])) = .ok (.d (memD (mat (mstart ps fr) ds (i + 1)))) (c :: (R ++ [.lst (el.map eldD)])) := by rw [es1]; exact q1
      unfold deedD natD at q2
      dsimp! [at_map (f := deedD) (.copy 0 0) hi, getD_of ed, deedD, natD, q1, q2, D_same s1 (show 3 < k - 1 by omega)]
      have h5 : (0 : Int) < 5 := by decide
      by_cases g1 : ((i : Nat) : Int) % 5 = 2
      · dsimp! [e_mod h5, g1, lp, rows_take, eo, lim_ok (show 3 ≤ 16777216 by decide), must_ok (show (el.map eldD).length < sizeLine by rw [List.length_map, sizeLine_eq]; omega)]
        exact Ok.ret ⟨el ++ [(mat (mstart ps fr) ds (i + 1), oat n ds (i + 1))], _, _, by simp, by rw [List.length_append, List.length_singleton]; omega, app, by rw [List.map_append]; rfl, rfl⟩
      · by_cases g2 : ((i : Nat) : Int) = ((ds.length : Nat) : Int) - 1
        · dsimp! [e_mod h5, g1, lenDs, eq_true g2, lp, rows_take, eo, lim_ok (show 3 ≤ 16777216 by decide), must_ok (show (el.map eldD).length < sizeLine by rw [List.length_map, sizeLine_eq]; omega)]
          exact Ok.ret ⟨el ++ [(mat (mstart ps fr) ds (i + 1), oat n ds (i + 1))], _, _, by simp, by rw [List.length_append, List.length_singleton]; omega, app, by rw [List.map_append]; rfl, rfl⟩
        · dsimp! [e_mod h5, g1, lenDs, g2]
          exact Ok.ret ⟨el, _, _, hne, by omega, hall, rfl, rfl⟩
    | store p q w =>
      have q1 := q_store_word (F := F) (k := k - 1) (M := c :: (R ++ [.lst (el.map eldD)])) (w := w) (by omega) hmi hn hdd.1 hdd.2
      have q1 : callF T (gl.map (·.2)) TB F (k - 1) 9 [.d (memD (mat (mstart ps fr) ds i)), .d (.int (p : Nat)), .d (.int (q : Nat)), .d (.int w)] (c :: (R ++ [.lst (el.map eldD)])) = .ok (.d (memD (mat (mstart ps fr) ds (i + 1)))) (c :: (R ++ [.lst (el.map eldD)])) := by rw [es1]; exact q1
      unfold deedD natD at q2
      dsimp! [at_map (f := deedD) (.copy 0 0) hi, getD_of ed, deedD, natD, ns_sc, q1, q2, D_same s1 (show 3 < k - 1 by omega)]
      have h5 : (0 : Int) < 5 := by decide
      by_cases g1 : ((i : Nat) : Int) % 5 = 2
      · dsimp! [e_mod h5, g1, lp, rows_take, eo, lim_ok (show 3 ≤ 16777216 by decide), must_ok (show (el.map eldD).length < sizeLine by rw [List.length_map, sizeLine_eq]; omega)]
        exact Ok.ret ⟨el ++ [(mat (mstart ps fr) ds (i + 1), oat n ds (i + 1))], _, _, by simp, by rw [List.length_append, List.length_singleton]; omega, app, by rw [List.map_append]; rfl, rfl⟩
      · by_cases g2 : ((i : Nat) : Int) = ((ds.length : Nat) : Int) - 1
        · dsimp! [e_mod h5, g1, lenDs, eq_true g2, lp, rows_take, eo, lim_ok (show 3 ≤ 16777216 by decide), must_ok (show (el.map eldD).length < sizeLine by rw [List.length_map, sizeLine_eq]; omega)]
          exact Ok.ret ⟨el ++ [(mat (mstart ps fr) ds (i + 1), oat n ds (i + 1))], _, _, by simp, by rw [List.length_append, List.length_singleton]; omega, app, by rw [List.map_append]; rfl, rfl⟩
        · dsimp! [e_mod h5, g1, lenDs, g2]
          exact Ok.ret ⟨el, _, _, hne, by omega, hall, rfl, rfl⟩
  · obtain ⟨el, v7, v9, hne, hel, hall, rfl, rfl⟩ := hI
    have e3 : cutD (el.map eldD) (some (-3)) none = (el.drop (el.length - 3)).map eldD := by rw [cut_m3, List.length_map, List.map_drop]
    have e1 : cutD (el.map eldD) none (some 1) = (el.take 1).map eldD := by rw [cut_t1, List.map_take]
    dsimp! [e3]
    refine Ok.bindI (D_shuffled (enc := eldD) (by omega) hc (by rw [List.length_drop]; omega) fun ys c1 h1 hperm => ?_)
    have hys : ys.length ≤ 300 := by rw [hperm.length_eq, List.length_drop]; omega
    have hys2 : ∀ x ∈ ys, EldOk n x := fun x hx => hall x (List.mem_of_mem_drop (hperm.mem_iff.mp hx))
    dsimp! [e1]
    rw [lim_ok (by rw [List.length_map, List.length_map, List.length_take]; omega)]
    simp! [Ev.b_ok]
    rw [← List.map_append]
    refine Ok.bindI (for_todo (enc := eldD) (fun todo e M => (∀ x ∈ todo, EldOk n x) ∧ ∃ (c2 : Cell) (v8 : Option W), TpOk c2 ∧ M = c2 :: (R ++ [.lst (el.map eldD)]) ∧
      e = [some (.r 0), some (.d (.tuple (ps.map pgD))), some (.d (.list (ds.map deedD))), some (.d (.str (wayS fr))), some (.d (memD (mat (mstart ps fr) ds ds.length))), some (.d (memD (mat (mstart ps fr) ds ds.length))), some (.r (R.length + 1)), v7, v8, v9]) ⟨fun x hx => (List.mem_append.mp hx).elim (hys2 x) fun z => hall x (List.mem_of_mem_take z), c1, none, h1, rfl, rfl⟩ (fun x todo e M hI => ?_) fun e M hI => ?_)
    · obtain ⟨hx, c2, v8, h2, rfl, rfl⟩ := hI
      refine ⟨_, rfl, ?_⟩
      obtain ⟨hm, i, R1⟩ := hx x List.mem_cons_self
      dsimp! [eldD]
      refine Ok.bindI (D_looked (by omega) h2 hm hn R1 fun c3 h3 => ?_)
      dsimp! [Ev.b_ok]
      exact Ok.ret ⟨fun y hy => hx y (List.mem_cons_of_mem _ hy), c3, _, h3, rfl, rfl⟩
    · obtain ⟨_, c2, v8, h2, rfl, rfl⟩ := hI
      dsimp! [Ev.b_ok]
      exact Ok.ret (h c2 h2)
theorem e_mulT8 {md : Md} {M : Store} : binW md .mul (.d (.tuple [.int 0])) (.d (.int 8)) M = .ok (.d (pgD (List.replicate 8 0))) M := by
  show must _ _ = _
  rw [must_ok (by decide)]
  rfl
theorem e_tupL {md : Md} {M : Store} {xs : List D} : bltW .tuple md [.d (.list xs)] M = .ok (.d (.tuple xs)) M := rfl
def lsD (ds : List Deed) : D := .list (ds.map deedD)
def wayD (fr : Bool) : D := .str (wayS fr)
theorem e_rng8 {M : Store} : rngK (.d (.int 8)) M = .ok (.items (range0 ((8 : Nat) : Int))) M := rng_any (by decide) (by decide)
theorem e_listF {M : Store} {xs : List D} : bltW .list .F [.d (.list xs)] M = .ok (.d (.list xs)) M := rfl
theorem cut_map {ds : List Deed} (lo hi : Option Int) : ∃ ys : List Deed, cutD (ds.map deedD) lo hi = ys.map deedD ∧ (∀ d ∈ ys, d ∈ ds) ∧ ys.length ≤ ds.length := by
  have key : ∀ a b, ((ds.map deedD).drop a).take b = ((ds.drop a).take b).map deedD := fun a b => by rw [List.map_take, List.map_drop]
  unfold cutD
  rw [key]
  exact ⟨_, rfl, fun d hd => List.mem_of_mem_drop (List.mem_of_mem_take hd), by rw [List.length_take, List.length_drop]; omega⟩
theorem holds1 (ns : List Int) : Ok (callF T (gl.map (·.2)) TB 1000 40 lawIx [.s (ns.map .int)] []) fun w _ => w = .d (.bool true) := by
  rw [show lawIx = 32 from rfl, call_run T_law rfl (by omega)]
  have tail : ∀ (c1 : Cell) (n : Nat) (pl : Pg) (ps : List Pg) (ds1 ds2 : List Deed) (v9 v10 : Option W), TpOk c1 → n ≤ 6 → PsOk n ps → (∀ d ∈ ds1, DeedOk n d) → (∀ d ∈ ds2, DeedOk n d) → ds1.length ≤ 200 → ds2.length ≤ 200 →
      Ok ((evSs ⟨callF T (gl.map (·.2)) TB 1000 39, 1000, gl.map (·.2), TB⟩ (dropS b_law 7) [some (.s (ns.map .int)), some (.r 0), some (.d (.int (n : Nat))), some (.d (pgD pl)), some (.d (psD ps)), some (.d (lsD ds1)), some (.d (lsD ds2)), none, none, v9, v10, none] [c1]).bind fun fl M1 => leave .F 0 fl M1) fun w _ => w = .d (.bool true) := by
    intro c1 n pl ps ds1 ds2 v9 v10 h1 hn hp ha hb la lb
    dsimp! [b_law, dropS, lim_ok (show 2 ≤ 16777216 by decide)]
    refine Ok.bindI (D_shuffled (enc := wayD) (xs := [true, false]) (by omega) h1 (by decide) fun ys c2 h2 hperm => ?_)
    dsimp! [Ev.b_ok]
    refine Ok.bindI (for_todo (enc := wayD) (fun todo e M => ∃ (c3 : Cell) (v8 v11 : Option W), TpOk c3 ∧ M = [c3] ∧ e = [some (.s (ns.map .int)), some (.r 0), some (.d (.int (n : Nat))), some (.d (pgD pl)), some (.d (psD ps)), some (.d (lsD ds1)), some (.d (lsD ds2)), some (.d (.list (ys.map wayD))), v8, v9, v10, v11]) ⟨c2, none, none, h2, rfl, rfl⟩ (fun fr todo e M hI => ?_) fun e M hI => ?_)
    · obtain ⟨c3, v8, v11, h3, rfl, rfl⟩ := hI
      refine ⟨_, rfl, ?_⟩
      dsimp! [lim_ok (show 3 ≤ 16777216 by decide)]
      rw [show [lsD ds1, lsD ds2, lsD ds1] = [ds1, ds2, ds1].map lsD from rfl]
      refine Ok.bindI (for_todo (enc := lsD) (fun todo e M => (∀ ds ∈ todo, (∀ d ∈ ds, DeedOk n d) ∧ ds.length ≤ 200) ∧ ∃ (c4 : Cell) (v11 : Option W), TpOk c4 ∧ M = [c4] ∧ e = [some (.s (ns.map .int)), some (.r 0), some (.d (.int (n : Nat))), some (.d (pgD pl)), some (.d (psD ps)), some (.d (lsD ds1)), some (.d (lsD ds2)), some (.d (.list (ys.map wayD))), some (.d (wayD fr)), v9, v10, v11]) ⟨fun ds hds => ?_, c3, v11, h3, rfl, rfl⟩ (fun ds todo2 e M hJ => ?_) fun e M hJ => ?_)
      · simp only [List.mem_cons, List.not_mem_nil, or_false] at hds
        rcases hds with rfl | rfl | rfl
        · exact ⟨ha, la⟩
        · exact ⟨hb, lb⟩
        · exact ⟨ha, la⟩
      · obtain ⟨hall, c4, v11, h4, rfl, rfl⟩ := hJ
        refine ⟨_, rfl, ?_⟩
        obtain ⟨q1, q2⟩ := hall ds List.mem_cons_self
        dsimp! [Ev.b_ok]
        unfold lsD wayD
        refine Ok.bindI (D_whole_row (by omega) h4 hp hn q1 q2 fun c5 h5 => ?_)
        dsimp! [Ev.b_ok]
        exact Ok.ret ⟨fun y hy => hall y (List.mem_cons_of_mem _ hy), c5, _, h5, rfl, rfl⟩
      · obtain ⟨_, c4, v11, h4, rfl, rfl⟩ := hJ
        dsimp! [lim_ok (show 2 ≤ 16777216 by decide)]
        refine Ok.bindI (D_pick (enc := lsD) (xs := [ds1, ds2]) (by omega) h4 (by simp) (by simp) fun ds c5 h5 hds => ?_)
        have q : (∀ d ∈ ds, DeedOk n d) ∧ ds.length ≤ 200 := by
          simp only [List.mem_cons, List.not_mem_nil, or_false] at hds
          rcases hds with rfl | rfl
          · exact ⟨ha, la⟩
          · exact ⟨hb, lb⟩
        dsimp! [Ev.b_ok]
        unfold lsD wayD
        refine Ok.bindI (D_lived (by omega) h5 hp hn q.1 q.2 fun c6 h6 => ?_)
        dsimp! [Ev.b_ok]
        exact Ok.ret ⟨c6, _, _, h6, rfl, rfl⟩
    · obtain ⟨c3, v8, v11, h3, rfl, rfl⟩ := hI
      dsimp! [Ev.b_ok]
      exact Ok.ret rfl
  dsimp! [f_law, b_law]
  refine Ok.bindI (L_tape (k := 38) fun c hc => ?_)
  dsimp! [lim_ok (show 10 ≤ 16777216 by decide)]
  refine Ok.bindI (D_pick (enc := natD) (xs := [0, 1, 2, 3, 4, 5, 6, 3, 4, 3]) (by omega) hc (by simp) (by simp) fun n c1 h1 hn => ?_)
  have hn6 : n ≤ 6 := by simp at hn; omega
  dsimp! [e_rng8]
  refine Ok.nxb (Ok.bindI (comp_rng (n := 8) (fun i acc M => ∃ (c2 : Cell) (p : List Int), TpOk c2 ∧ M = [c2] ∧ acc = p.map .int ∧ p.length = i) (fun _ _ => C_no) ⟨c1, [], h1, rfl, rfl, rfl⟩ (fun i acc M hi hJ => ?_) fun acc M hJ => ?_))
  · obtain ⟨c2, p, h2, rfl, rfl, hpl⟩ := hJ
    refine ⟨_, rfl, ?_⟩
    dsimp! [oneD_b]
    refine Ok.bindI (D_word (by omega) h2 fun v c3 h3 => ?_)
    dsimp! [Ev.b_ok]
    exact Ok.ret ⟨c3, p ++ [v], h3, rfl, by rw [List.map_append]; rfl, by rw [List.length_append, hpl]; rfl⟩
  · obtain ⟨c2, pl, h2, rfl, rfl, hpl⟩ := hJ
    dsimp! [lim_ok (show (pl.map PyData.int).length ≤ 16777216 by rw [List.length_map]; omega), natD, rng1_n (show n ≤ 1000000 by omega)]
    refine Ok.nxb (Ok.bindI (comp_rng (fun i acc M => ∃ (c3 : Cell) (ps : List Pg), TpOk c3 ∧ M = [c3] ∧ acc = ps.map pgD ∧ ps.length = i ∧ ∀ p ∈ ps, p.length = 8) (fun _ _ => C_no) ⟨c2, [], h2, rfl, rfl, rfl, fun p hp => (by cases hp)⟩ (fun i acc M hi hJ => ?_) fun acc M hJ => ?_))
    · obtain ⟨c3, ps, h3, rfl, rfl, hl, hall⟩ := hJ
      refine ⟨_, rfl, ?_⟩
      dsimp! [oneD_b, e_mulT8, lim_ok (show 1 ≤ 16777216 by decide)]
      refine Ok.bindI (D_word (by omega) h3 fun v c4 h4 => ?_)
      simp! [Ev.b_ok]
      rw [q_put (by omega) (by rw [List.length_map]; omega) (by rw [List.length_map]; omega)]
      dsimp! [map_w, lim_ok (show 3 ≤ 16777216 by decide)]
      refine Ok.bindI (D_pick (enc := pgD) (xs := [pl, List.replicate 8 0, pl.set i v]) (by omega) h4 (by simp) (by simp) fun pg c5 h5 hpg => ?_)
      dsimp! [Ev.b_ok]
      refine Ok.ret ⟨c5, ps ++ [pg], h5, rfl, by rw [List.map_append]; rfl, by rw [List.length_append, hl]; rfl, fun p hp => ?_⟩
      rcases List.mem_append.mp hp with z | z
      · exact hall p z
      · rw [List.mem_singleton.mp z]
        simp only [List.mem_cons, List.not_mem_nil, or_false] at hpg
        rcases hpg with rfl | rfl | rfl
        · exact hpl
        · rfl
        · rw [List.length_set]; exact hpl
    · obtain ⟨c3, ps, h3, rfl, rfl, hl, hall⟩ := hJ
      have hp : PsOk n ps := ⟨hl, hall⟩
      dsimp! [lim_ok (show (ps.map pgD).length ≤ 16777216 by rw [List.length_map]; omega)]
      rw [show PyData.tuple (ps.map pgD) = psD ps from rfl]
      refine Ok.bindI (D_some_deeds (by omega) h3 hp hn6 fun ds1 c4 h4 hd1 hl1 => ?_)
      simp! [Ev.b_ok]
      rw [Ss_cons]
      simp! [Ev.b_ok]
      rw [Ss_cons]
      simp! [Ev.b_ok]
      by_cases h0 : ds1.length = 0
      · have e0 : ¬ (0 : Int) < (((ds1.map deedD).length : Nat) : Int) := by rw [List.length_map]; omega
        simp! [e0]
        have q := tail c4 n pl ps ds1 ds1 none none h4 hn6 hp hd1 hd1 (by omega) (by omega)
        simp only [b_law, dropS] at q
        exact q
      · have e0 : (0 : Int) < (((ds1.map deedD).length : Nat) : Int) := by rw [List.length_map]; omega
        rw [List.length_map] at e0
        have l1 : (ds1.map deedD).length = ds1.length := List.length_map _
        dsimp! [l1, e0]
        refine Ok.bindI (D_draw (by omega) h4 (by omega) (by omega) fun r c5 h5 hr => ?_)
        dsimp! [Ev.b_ok]
        have n0 : 0 < n := by
          have hm : ds1[0]'(by omega) ∈ ds1 := List.getElem_mem _
          have := hd1 _ hm
          cases hq : ds1[0]'(by omega) with
          | copy a b => rw [hq] at this; have := this.1; omega
          | store a b w => rw [hq] at this; have := this.1; omega
        refine Ok.bindI (D_some_deed (by omega) h5 hp n0 hn6 fun d c6 h6 hd => ?_)
        obtain ⟨y1, e1, m1, b1⟩ := cut_map (ds := ds1) none (some ((r : Nat) : Int))
        obtain ⟨y2, e2, m2, b2⟩ := cut_map (ds := ds1) (some (((r : Nat) : Int) + 1)) none
        obtain ⟨y3, e3, m3, b3⟩ := cut_map (ds := ds1) (some ((r : Nat) : Int)) (some 39)
        have k1 : (y1.map deedD).length = y1.length := List.length_map _
        have k2 : (y2.map deedD).length = y2.length := List.length_map _
        have k3 : (y3.map deedD).length = y3.length := List.length_map _
        dsimp! [e1, e2, e3, k1, k2, k3, lim_ok (show 1 ≤ 16777216 by decide), lim_ok (show y1.length + 1 ≤ 16777216 by omega), lim_ok (show y1.length + 1 + y2.length ≤ 16777216 by omega), lim_ok (show y1.length + (1 + y2.length) ≤ 16777216 by omega), lim_ok (show y1.length + y2.length ≤ 16777216 by omega), lim_ok (show y1.length + 1 + y3.length ≤ 16777216 by omega), lim_ok (show 3 ≤ 16777216 by decide)]
        refine Ok.bindI (D_pickL (by omega) h6 (by simp) (by simp) fun x c7 h7 hx => ?_)
        have hz : ∃ ds2 : List Deed, x = lsD ds2 ∧ (∀ d ∈ ds2, DeedOk n d) ∧ ds2.length ≤ 200 := by
          have g : ∀ (y z : List Deed), (∀ d ∈ y, d ∈ ds1) → (∀ d ∈ z, d ∈ ds1) → y.length ≤ ds1.length → z.length ≤ ds1.length → ∀ q ∈ [y ++ d :: z, y ++ z], (∀ d ∈ q, DeedOk n d) := fun y z hy hz ly lz q hq e he => by
            simp only [List.mem_cons, List.not_mem_nil, or_false] at hq
            rcases hq with rfl | rfl
            · rcases List.mem_append.mp he with u | u
              · exact hd1 e (hy e u)
              · rcases List.mem_cons.mp u with rfl | u
                · exact hd
                · exact hd1 e (hz e u)
            · rcases List.mem_append.mp he with u | u
              · exact hd1 e (hy e u)
              · exact hd1 e (hz e u)
          have cl : ds1.length ≤ 49 ∨ 49 < ds1.length := by omega
          simp only [List.mem_cons, List.not_mem_nil, or_false] at hx
          have z1 : y1.length ≤ r := by
            have := congrArg List.length e1
            rw [cut_to, List.length_take, List.length_map, List.length_map] at this
            omega
          have z2 : y2.length + (r + 1) ≤ ds1.length := by
            have := congrArg List.length e2
            rw [cut_s, List.length_drop, List.length_map, List.length_map] at this
            omega
          rcases hx with rfl | rfl | rfl
          · exact ⟨y1 ++ d :: y2, by simp [lsD], g y1 y2 m1 m2 b1 b2 _ (by simp), by simp; omega⟩
          · exact ⟨y1 ++ y2, by simp [lsD], g y1 y2 m1 m2 b1 b2 _ (by simp), by simp; omega⟩
          · exact ⟨y1 ++ d :: y3, by simp [lsD], g y1 y3 m1 m3 b1 b3 _ (by simp), by simp; omega⟩
        obtain ⟨ds2, rfl, q1, q2⟩ := hz
        simp! [Ev.b_ok]
        have q := tail c7 n pl ps ds1 ds2 (some (.d (.int (r : Nat)))) (some (.d (deedD d))) h7 hn6 hp hd1 q1 (by omega) q2
        simp only [b_law, dropS] at q
        exact q
theorem holds0 (ns : List Int) : ∃ M', callF T (gl.map (·.2)) TB 1000 40 lawIx [.s (ns.map .int)] [] = .ok (.d (.bool true)) M' := by
  obtain ⟨a, M', e, h⟩ := holds1 ns
  exact ⟨M', by rw [e, h]⟩
end
end K13
set_option Elab.async false
set_option linter.all false
set_option maxRecDepth 100000
set_option maxHeartbeats 0
namespace K13
open PySem PySem.Spec PyProof.Rows L2 Ev
def top (i : Nat) : Stmt := PySem.Challenge.pw_capkern_k13_memories_frames_origins.main.body.getD i (.Pass ⟨0, 0, 0, 0⟩)
def rs : List Rec := [
  ⟨"replaced", top 1, ["values", "place", "value"], ["values", "place", "value"], f_replaced⟩,
  ⟨"stored_in_frames", top 3, ["memory", "page", "place", "word"], ["memory", "page", "place", "word", "frame", "words", "table", "frames"], f_stored_in_frames⟩,
  ⟨"free_frame", top 4, ["table"], ["table", "frame"], f_free_frame⟩,
  ⟨"copied_in_frames", top 5, ["memory", "target", "source"], ["memory", "target", "source", "table"], f_copied_in_frames⟩,
  ⟨"stored_in_pages", top 7, ["memory", "page", "place", "word"], ["memory", "page", "place", "word", "pages"], f_stored_in_pages⟩,
  ⟨"copied_in_pages", top 8, ["memory", "target", "source"], ["memory", "target", "source", "pages"], f_copied_in_pages⟩,
  ⟨"memory_of", top 10, ["pages", "way"], ["pages", "way"], f_memory_of⟩,
  ⟨"words_of", top 11, ["memory", "page"], ["memory", "page"], f_words_of⟩,
  ⟨"word_at", top 12, ["memory", "page", "place"], ["memory", "page", "place"], f_word_at⟩,
  ⟨"store_word", top 13, ["memory", "page", "place", "word"], ["memory", "page", "place", "word"], f_store_word⟩,
  ⟨"copy_page", top 14, ["memory", "target", "source"], ["memory", "target", "source"], f_copy_page⟩,
  ⟨"frames_in_use", top 15, ["memory"], ["memory"], f_frames_in_use⟩,
  ⟨"shares", top 16, ["memory", "page", "other"], ["memory", "page", "other"], f_shares⟩,
  ⟨"memory_behind", top 18, ["memory", "deeds"], ["memory", "deeds", "deed"], f_memory_behind⟩,
  ⟨"origins_of", top 19, ["many", "deeds"], ["many", "deeds", "origins", "number", "deed", "page"], f_origins_of⟩,
  ⟨"_law_tape", top 21, ["script"], ["script", "mixed", "cell"], f_law_tape⟩,
  ⟨"_law_draw", top 22, ["tape", "many"], ["tape", "many", "number", "place"], f_law_draw⟩,
  ⟨"_law_pick", top 23, ["tape", "menu"], ["tape", "menu"], f_law_pick⟩,
  ⟨"_law_turns", top 24, ["tape", "many"], ["tape", "many", "left", "turns", "k"], f_law_turns⟩,
  ⟨"_law_shuffled", top 25, ["tape", "menu"], ["tape", "menu", "left", "turned", "k"], f_law_shuffled⟩,
  ⟨"_law_put", top 26, ["told", "place", "thing"], ["told", "place", "thing"], f_law_put⟩,
  ⟨"_law_same", top 27, ["told", "wanted"], ["told", "wanted", "k"], f_law_same⟩,
  ⟨"_law_word", top 28, ["tape"], ["tape", "kind", "power", "k"], f_law_word⟩,
  ⟨"_law_some_deed", top 29, ["tape", "many", "pages"], ["tape", "many", "pages", "page", "kind", "place"], f_law_some_deed⟩,
  ⟨"_law_some_deeds", top 30, ["tape", "many", "pages"], ["tape", "many", "pages", "size", "deeds", "k", "page"], f_law_some_deeds⟩,
  ⟨"_law_start", top 31, ["pages", "way"], ["pages", "way"], f_law_start⟩,
  ⟨"_law_behind", top 32, ["memory", "deed"], ["memory", "deed", "table", "mine", "words", "pages", "page", "k"], f_law_behind⟩,
  ⟨"_law_origins", top 33, ["many", "deeds"], ["many", "deeds", "told", "k"], f_law_origins⟩,
  ⟨"_law_shown", top 34, ["memory"], ["memory", "frame"], f_law_shown⟩,
  ⟨"_law_looked", top 35, ["tape", "told", "mine", "origins"], ["tape", "told", "mine", "origins", "many", "shown", "door", "page", "place", "other"], f_law_looked⟩,
  ⟨"_law_lived", top 36, ["tape", "pages", "deeds", "way"], ["tape", "pages", "deeds", "way", "told", "mine", "elder", "k", "one", "deed"], f_law_lived⟩,
  ⟨"_law_whole_row", top 37, ["tape", "pages", "deeds", "way"], ["tape", "pages", "deeds", "way", "mine", "start", "deed", "door"], f_law_whole_row⟩,
  ⟨"law", top 38, ["script"], ["script", "tape", "many", "plain", "pages", "first", "second", "ways", "way", "k", "deed", "deeds"], f_law⟩]
def xi : XI := ⟨[], kn, [], [], [], true⟩
def loose : List Str := (["replaced", "stored_in_frames", "free_frame", "copied_in_frames", "stored_in_pages", "copied_in_pages", "memory_of", "words_of", "word_at", "store_word", "copy_page", "frames_in_use", "shares", "memory_behind", "origins_of", "_law_tape", "_law_draw", "_law_pick", "_law_turns", "_law_shuffled", "_law_put", "_law_same", "_law_word", "_law_some_deed", "_law_some_deeds", "_law_start", "_law_behind", "_law_origins", "_law_shown", "_law_looked"] : List Str) ++ (["_law_lived", "_law_whole_row"] : List Str)
theorem h_chk : (rs.all (Rec.ok (nmOf rs gl gd xi)) && hotOk (nmOf rs gl gd xi) rs) = true := by kernel_rfl
def h_fn : List He.DefD := rs.map Rec.dd
def h_fa : List He.Fa := fasOf rs gl gd xi
def h_ts : List He.Tab := tabs gd
abbrev h_R : PySem.W.OpenRow := PySem.W.OpenLaw.row PySem.Challenge.rw_capkern_k13_memories_frames_origins
abbrev h_hk : PySem.W.Hook := hookY 4 h_fa h_fn h_ts (exB PySem.Challenge.pw_capkern_k13_memories_frames_origins gl gd xi)
def h_ob (s : PySem.W.SharedT) : AlY := obsY 4 h_fa h_fn h_ts (exB PySem.Challenge.pw_capkern_k13_memories_frames_origins gl gd xi) (HandSHeadRun.getT s)
theorem h_ob_eq (s : PySem.W.SharedT) : h_ob s = h_hk.obs s.abs := obsY_eq (HandSHeadRun.getT_eq s)
def wSet (w : World) (b : Bool) : World := { w with params := { w.params with followText := fun t => if t = "special-get-raises" then b else w.params.followText t } }
theorem wSet_eq (w : World) : wSet w (w.params.followText "special-get-raises") = w := by
  have e : (fun t => if t = "special-get-raises" then w.params.followText "special-get-raises" else w.params.followText t) = w.params.followText := by
    funext t
    split
    · rename_i h; rw [h]
    · rfl
  unfold wSet
  rw [e]
theorem h_run1 (w : World) : HandSHeadRun.RunEq h_R (PySem.W.view h_R.prog [lawTop]) h_hk h_ob 6000 loose (wSet w true) := by
  intro os
  kernel_rfl
theorem h_run0 (w : World) : HandSHeadRun.RunEq h_R (PySem.W.view h_R.prog [lawTop]) h_hk h_ob 6000 loose (wSet w false) := by
  intro os
  kernel_rfl
theorem h_run (w : World) : HandSHeadRun.RunEq h_R (PySem.W.view h_R.prog [lawTop]) h_hk h_ob 6000 loose w := by
  have key : ∀ b : Bool, HandSHeadRun.RunEq h_R (PySem.W.view h_R.prog [lawTop]) h_hk h_ob 6000 loose (wSet w b) := fun b => match b with
    | true => h_run1 w
    | false => h_run0 w
  rw [← wSet_eq w]
  exact key _
theorem rs_T : rs.map (·.fn) = T := rfl
end K13
set_option Elab.async false
set_option linter.all false
set_option maxRecDepth 100000
set_option maxHeartbeats 0
theorem K13.holds (ns : List Int) (h : ns.length ≤ 63) : ∃ M', Ev.callF (K13.rs.map (·.fn)) (K13.gl.map (·.2)) (Ev.tabsX K13.gd K13.xi) 1000 40 K13.lawIx [.s (ns.map .int)] [] = .ok (.d (.bool true)) M' := by
  rw [K13.rs_T]
  exact K13.holds0 ns
open PySem PySem.W PySem.Calls PyProof.Rows
theorem PySem.Challenge.cw_capkern_k13_memories_frames_origins_holds : PySem.Challenge.rw_capkern_k13_memories_frames_origins.Holds := by
  w_on; o_law
  refine HandSHeadRun.head_any (r := OpenLaw.row PySem.Challenge.rw_capkern_k13_memories_frames_origins) (q := view (OpenLaw.row PySem.Challenge.rw_capkern_k13_memories_frames_origins).prog [K13.lawTop]) (H := K13.h_hk) (ob := K13.h_ob) (M := 6000) (loose := K13.loose) (d := HandSHeadRun.topDef (OpenLaw.row PySem.Challenge.rw_capkern_k13_memories_frames_origins).prog K13.lawTop) (kwd := []) K13.h_ob_eq
    (by kernel_rfl) (fun s => by kernel_rfl) K13.h_run (by kernel_rfl) (by kernel_rfl) (by kernel_rfl) (by rfl) (by first | assumption | decide +kernel) (by decide +kernel) ⟨rfl, rfl, rfl, rfl, rfl, by decide +kernel⟩ ?hw ?hc
  case hw => w_witness2
  case hc =>
    refine L2.walk_ofE (l := PySem.Challenge.rw_capkern_k13_memories_frames_origins) (n := 63) (k := 42) (x := "script") (CX := C8.CX0) rfl (by decide) (by kernel_rfl) ⟨rfl, by decide, by decide⟩ ?F (fun _ _ _ _ z => z)
    intro w mg fa h Y G hmg0
    obtain ⟨K, KX, c⟩ := Y
    have hmg : mg ("law" : PySem.Str) = some (.ref fa) := by
      have e : (HandSHeadRun.topDef (OpenLaw.row PySem.Challenge.rw_capkern_k13_memories_frames_origins).prog K13.lawTop).name = ("law" : PySem.Str) := by kernel_rfl
      rw [← e]
      exact hmg0
    letI : Ev.XT := ⟨K13.xi.kt⟩
    letI : Ev.XA := Ev.xN
    obtain ⟨fd, hb, hF⟩ := Ev.facts_of (P := (PySem.Challenge.rw_capkern_k13_memories_frames_origins).prog) (w := w) (F := 1000) (k := 40) (f := K13.lawIx) (r := K13.rs.getD K13.lawIx default) KX G c K13.h_chk (by decide) rfl (by rfl) (by rfl) (by kernel_rfl) hmg
    exact ⟨K, fd, _, KX, hb, fun H a ns hl _ hS => (let ⟨M', e⟩ := K13.holds ns hl; Ev.law_sp e hS), fun base _ _ => hF base⟩
