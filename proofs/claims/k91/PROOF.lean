import PyProof.Rows.All
import Wide.All
import OpenK.AllK
import Wide.FinOn
import PySem.Str
import HandS.ForMost
import HandS.ForExc
import HandS.CallSlots
import HandS.Flow
import HandS.Lambda
import KE.KDictKeyed
import HandS.TupAny
import HandS.TupMul
import HandS.Deep
import HandS.TupLe
import HandS.Style
import HandS.IsInst
import HandS.Comp
import HandS.ExcOwn
import HandS.Exc
import HandS.WordsExc
import KE.SortData
import KE.DataMinMax
import PyProof.WalksMore
import HandS.RaiseMore
import HandS.ForDict
import KE.KDictZip
import KE.GoesMore
import KE.GoesZip
import HandS.ExcInit
import HandS.ExcIs
import HandS.ExcField
import KE.KExcIs
import HandS.HeadHook4
import HandS.HeadWalk
import HandS.HeadEnd
import HandS.Head0
import HandS.Head1
import HandS.Head2
import HandS.NestedK
import PyProof.ExcBaseAll.ValueError
import PySem.Challenge.RW_signlots_k91_whole_counts_of_rank_two
set_option linter.all false
/-! Fx, the semantics: data, results, and the combinators that a program's text is read as. Plain Lean, no machine in sight. -/
namespace Fx

/-- data: what a Python value of these programs is, as a tree (a text is its code points; an instance is its class's number and its fields in order) -/
inductive D where
  | non
  | bl (b : Bool)
  | int (i : Int)
  | str (x : List Nat)
  | tup (l : List D)
  | lst (l : List D)
  | dct (l : List (D × D))
  | ins (c : Nat) (fs : List D)
  deriving Inhabited

/-- an exception: its class's number, its one argument (where it has one) -/
structure Exn where
  c : Nat
  arg : Option D

/-- what a name's slot holds: nothing known, a value that never changes, a list or a dict that is this name's own, the hand -/
inductive LV where
  | un
  | val (d : D)
  | own (l : List D)
  | ownd (l : List (D × D))
  | slf (c : Nat) (fs : List D)
  | exn (x : Exn)
  | fnn
  | hnd
  deriving Inhabited

abbrev Env := List LV

inductive R (S α : Type) where
  | ok (a : α) (s : S)
  | exc (x : Exn) (s : S)
  | bad

inductive RS (S : Type) where
  | nx (ρ : Env) (s : S)
  | rt (d : D) (s : S)
  | bk (ρ : Env) (s : S)
  | ct (ρ : Env) (s : S)
  | exc (x : Exn) (ρ : Env) (s : S)
  | bad

abbrev E (S : Type) := Env → S → R S D
abbrev T (S : Type) := Env → S → R S Bool
abbrev As (S : Type) := Env → S → R S (List D)
abbrev Gs (S : Type) := Env → S → RS S

section
variable {S : Type}
def R.bind {α β : Type} (r : R S α) (k : α → S → R S β) : R S β :=
  match r with
  | .ok a s => k a s
  | .exc x s => .exc x s
  | .bad => .bad
/-- a partial operation -/
def R.opt {α : Type} (o : Option α) (s : S) : R S α :=
  match o with
  | some a => .ok a s
  | none => .bad
end

/-! ### operations on data -/
def lim : Nat := 16777216
/-! Python's ==, of data without dicts and instances -/
mutual
def D.eqv : D → D → Bool
  | .non, .non => true
  | .bl a, .bl b => a == b
  | .bl a, .int b => (if a then 1 else 0) == b
  | .int a, .bl b => a == (if b then 1 else 0)
  | .int a, .int b => a == b
  | .str a, .str b => a == b
  | .tup a, .tup b => D.eqvL a b
  | .lst a, .lst b => D.eqvL a b
  | _, _ => false
def D.eqvL : List D → List D → Bool
  | [], [] => true
  | a :: as, b :: bs => D.eqv a b && D.eqvL as bs
  | _, _ => false
end
/-! plain: none, bools, ints, texts, tuples and lists of such -/
mutual
def D.plain : D → Bool
  | .non => true
  | .bl _ => true
  | .int _ => true
  | .str x => x.all fun c => Nat.blt c 0x110000
  | .tup l => D.plainL l
  | .lst l => D.plainL l
  | .dct _ => false
  | .ins _ _ => false
def D.plainL : List D → Bool
  | [] => true
  | a :: as => D.plain a && D.plainL as
end
mutual
def D.depth : D → Nat
  | .tup l => D.depthL l + 1
  | .lst l => D.depthL l + 1
  | _ => 0
def D.depthL : List D → Nat
  | [] => 0
  | a :: as => max (D.depth a) (D.depthL as)
end
/-- data that == is asked of here -/
def D.fine (d : D) : Bool := D.plain d && Nat.ble (D.depth d) 60
def dEq (a b : D) : Option D := if D.fine a && D.fine b then some (.bl (D.eqv a b)) else none
def dNe (a b : D) : Option D := if D.fine a && D.fine b then some (.bl (!D.eqv a b)) else none
/-! comparable: ints, and tuples of such at any depth -/
mutual
def D.cmp : D → D → Bool
  | .int _, .int _ => true
  | .tup a, .tup b => D.cmpL a b
  | _, _ => false
def D.cmpL : List D → List D → Bool
  | a :: as, b :: bs => D.cmp a b && D.cmpL as bs
  | _, _ => true
end
/-! the order of such -/
mutual
def D.lt : D → D → Bool
  | .int a, .int b => decide (a < b)
  | .tup a, .tup b => D.ltL a b
  | _, _ => false
def D.ltL : List D → List D → Bool
  | a :: as, b :: bs => if D.eqv a b then D.ltL as bs else D.lt a b
  | [], _ :: _ => true
  | _, [] => false
end
def dLt (a b : D) : Option D := if D.fine a && D.fine b && D.cmp a b then some (.bl (D.lt a b)) else none
def dGt (a b : D) : Option D := match a, b with
  | .int i, .int j => some (.bl (decide (j < i)))
  | _, _ => none
def dLe (a b : D) : Option D := match a, b with
  | .int i, .int j => some (.bl (decide (i ≤ j)))
  | _, _ => none
def dGe (a b : D) : Option D := match a, b with
  | .int i, .int j => some (.bl (decide (j ≤ i)))
  | _, _ => none
def dIn (a b : D) : Option D := match b with
  | .tup l => if D.fine a && D.fine (.tup l) then some (.bl (l.any fun z => D.eqv z a)) else none
  | .lst l => if D.fine a && D.fine (.lst l) then some (.bl (l.any fun z => D.eqv z a)) else none
  | _ => none
def dNot (a : D) : Option D := match a with
  | .bl b => some (.bl (!b))
  | _ => none
def dNotIn (a b : D) : Option D := (dIn a b).bind dNot
def dAdd (a b : D) : Option D := match a, b with
  | .int i, .int j => some (.int (i + j))
  | .tup l, .tup m => if Nat.ble (l.length + m.length) lim then some (.tup (l ++ m)) else none
  | _, _ => none
def dSub (a b : D) : Option D := match a, b with
  | .int i, .int j => some (.int (i - j))
  | _, _ => none
/-- a factor within 2^64 -/
def small (i : Int) : Bool := decide (-(2 ^ 64) < i) && decide (i < 2 ^ 64)
def dMul (a b : D) : Option D := match a, b with
  | .int i, .int j => if small i || small j then some (.int (i * j)) else none
  | _, _ => none
def dFdiv (a b : D) : Option D := match a, b with
  | .int i, .int j => if decide (0 < j) && decide (j < 1073741824) then some (.int (i / j)) else none
  | _, _ => none
def dMod (a b : D) : Option D := match a, b with
  | .int i, .int j => if decide (0 < j) then some (.int (i % j)) else none
  | _, _ => none
def dPow (a b : D) : Option D := match a, b with
  | .int i, .int j => if decide (0 ≤ j) && decide (j ≤ 1000000) && decide (i.natAbs < 2 ^ 64) then some (.int (i ^ j.toNat)) else none
  | _, _ => none
def dShl (a b : D) : Option D := match a, b with
  | .int i, .int j => if decide (0 ≤ j) && decide (j ≤ 1000000) && decide (i.natAbs < 2 ^ 64) then some (.int (i * 2 ^ j.toNat)) else none
  | _, _ => none
def dNeg (a : D) : Option D := match a with
  | .int i => some (.int (-i))
  | _ => none
/-- the place that an index of any sign means -/
def ixD (n : Nat) (i : Int) : Option Nat := if 0 ≤ i then (if i < n then some i.toNat else none) else if -(n : Int) ≤ i then some (i + n).toNat else none
def dIx (a b : D) : Option D := match a, b with
  | .tup l, .int i => (ixD l.length i).bind fun j => l[j]?
  | .lst l, .int i => (ixD l.length i).bind fun j => l[j]?
  | _, _ => none
def dLen (a : D) : Option D := match a with
  | .tup l => some (.int l.length)
  | .lst l => some (.int l.length)
  | _ => none
def dTruth (a : D) : Option Bool := match a with
  | .non => some false
  | .bl b => some b
  | .int i => some (i != 0)
  | .tup l => some (!l.isEmpty)
  | .lst l => some (!l.isEmpty)
  | _ => none
def asBl (a : D) : Option Bool := match a with
  | .bl b => some b
  | _ => none

/-! ### expressions -/
section
variable {S : Type}
def eC (d : D) : E S := fun _ s => .ok d s
def eVar (i : Nat) : E S := fun ρ s => match ρ[i]? with
  | some (.val d) => .ok d s
  | _ => .bad
def bVar (i : Nat) : E S := fun ρ s => match ρ[i]? with
  | some (.val d) => .ok d s
  | some (.own l) => .ok (.lst l) s
  | some (.ownd l) => .ok (.dct l) s
  | _ => .bad
def eBin (op : D → D → Option D) (f g : E S) : E S := fun ρ s => (f ρ s).bind fun a s => (g ρ s).bind fun b s => R.opt (op a b) s
def eUn (op : D → Option D) (f : E S) : E S := fun ρ s => (f ρ s).bind fun a s => R.opt (op a) s
def aNil : As S := fun _ s => .ok [] s
def aCons (f : E S) (g : As S) : As S := fun ρ s => (f ρ s).bind fun a s => (g ρ s).bind fun as s => .ok (a :: as) s
def eTup (g : As S) : E S := fun ρ s => (g ρ s).bind fun as s => if Nat.ble as.length lim then .ok (.tup as) s else .bad
def fLst (g : As S) : As S := fun ρ s => (g ρ s).bind fun as s => if Nat.ble as.length lim then .ok as s else .bad
/-- a new list, kept for good -/
def eOf (g : As S) : E S := fun ρ s => (g ρ s).bind fun as s => .ok (.lst as) s
def eIf (t : T S) (f g : E S) : E S := fun ρ s => (t ρ s).bind fun b s => if b then f ρ s else g ρ s
def eAnd (f g : E S) : E S := fun ρ s => (f ρ s).bind fun a s => match a with
  | .bl true => g ρ s
  | .bl false => .ok (.bl false) s
  | _ => .bad
def eOr (f g : E S) : E S := fun ρ s => (f ρ s).bind fun a s => match a with
  | .bl true => .ok (.bl true) s
  | .bl false => g ρ s
  | _ => .bad
/-- a op b op' c -/
def eChain (op op' : D → D → Option D) (f g h : E S) : E S := fun ρ s => (f ρ s).bind fun a s => (g ρ s).bind fun b s => (R.opt (op a b) s).bind fun c s => match c with
  | .bl true => (h ρ s).bind fun e s => R.opt (op' b e) s
  | .bl false => .ok (.bl false) s
  | _ => .bad
def tVal (f : E S) : T S := fun ρ s => (f ρ s).bind fun a s => R.opt (asBl a) s
def tTru (f : E S) : T S := fun ρ s => (f ρ s).bind fun a s => R.opt (dTruth a) s
def tNot' (t : T S) : T S := fun ρ s => (t ρ s).bind fun b s => .ok (!b) s
def tAnd' (t u : T S) : T S := fun ρ s => (t ρ s).bind fun b s => if b then u ρ s else .ok false s
def tOr' (t u : T S) : T S := fun ρ s => (t ρ s).bind fun b s => if b then .ok true s else u ρ s

/-! ### statements -/
def sEnd (r : R S D) (ρ : Env) (k : D → S → RS S) : RS S := match r with
  | .ok d s => k d s
  | .exc x s => .exc x ρ s
  | .bad => .bad
def gNext : Gs S := fun ρ s => .nx ρ s
def gSeq (g h : Gs S) : Gs S := fun ρ s => match g ρ s with
  | .nx ρ' s' => h ρ' s'
  | r => r
def gIf (t : T S) (g h : Gs S) : Gs S := fun ρ s => match t ρ s with
  | .ok b s' => if b then g ρ s' else h ρ s'
  | .exc x s' => .exc x ρ s'
  | .bad => .bad
def gRet (f : E S) : Gs S := fun ρ s => sEnd (f ρ s) ρ fun d s => .rt d s
def gRetN : Gs S := fun _ s => .rt .non s
def gSet (i : Nat) (f : E S) : Gs S := fun ρ s => sEnd (f ρ s) ρ fun d s => .nx (ρ.set i (.val d)) s
def gSetF (i : Nat) (f : As S) : Gs S := fun ρ s => match f ρ s with
  | .ok l s' => .nx (ρ.set i (.own l)) s'
  | .exc x s' => .exc x ρ s'
  | .bad => .bad
def gDrop (f : E S) : Gs S := fun ρ s => sEnd (f ρ s) ρ fun _ s => .nx ρ s
def gBreak : Gs S := fun ρ s => .bk ρ s
def gCont : Gs S := fun ρ s => .ct ρ s
/-- the name's own list is kept for good from here on -/
def gFrz (i : Nat) (g : Gs S) : Gs S := fun ρ s => match ρ[i]? with
  | some (.own l) => g (ρ.set i (.val (.lst l))) s
  | some (.ownd l) => g (ρ.set i (.val (.dct l))) s
  | _ => .bad
def gApp (i : Nat) (f : E S) : Gs S := fun ρ s => match ρ[i]? with
  | some (.own l) => sEnd (f ρ s) ρ fun d s => if Nat.blt l.length lim then .nx (ρ.set i (.own (l ++ [d]))) s else .bad
  | _ => .bad
def gExt (i : Nat) (f : As S) : Gs S := fun ρ s => match ρ[i]? with
  | some (.own l) => (match f ρ s with
    | .ok m s' => if Nat.ble (l.length + m.length) lim then .nx (ρ.set i (.own (l ++ m))) s' else .bad
    | .exc x s' => .exc x ρ s'
    | .bad => .bad)
  | _ => .bad
/-- x[k] = v of the name's own list -/
def gPut (i : Nat) (f g : E S) : Gs S := fun ρ s => match ρ[i]? with
  | some (.own l) => sEnd (f ρ s) ρ fun d s => sEnd (g ρ s) ρ fun k s => match k with
    | .int z => (match ixD l.length z with
      | some j => .nx (ρ.set i (.own (l.set j d))) s
      | none => .bad)
    | _ => .bad
  | _ => .bad
/-! ### loops -/
/-- a target's store -/
abbrev Tg := D → Env → Option Env
def tgN (i : Nat) : Tg := fun d ρ => some (ρ.set i (.val d))
def tgAll : List Tg → List D → Env → Option Env
  | [], [], ρ => some ρ
  | t :: ts, d :: ds, ρ => (t d ρ).bind (tgAll ts ds)
  | _, _, _ => none
def tgT (ts : List Tg) : Tg := fun d ρ => match d with
  | .tup l => tgAll ts l ρ
  | _ => none
def forL (tg : Tg) (g : Gs S) : List D → Gs S
  | [], ρ, s => .nx ρ s
  | d :: ds, ρ, s => match tg d ρ with
    | none => .bad
    | some ρ1 => match g ρ1 s with
      | .nx ρ2 s2 => forL tg g ds ρ2 s2
      | .ct ρ2 s2 => forL tg g ds ρ2 s2
      | .bk ρ2 s2 => .nx ρ2 s2
      | r => r
def gFor (f : As S) (tg : Tg) (g : Gs S) : Gs S := fun ρ s => match f ρ s with
  | .ok l s' => forL tg g l ρ s'
  | .exc x s' => .exc x ρ s'
  | .bad => .bad
def whileN (t : T S) (g : Gs S) : Nat → Gs S
  | 0, _, _ => .bad
  | n + 1, ρ, s => match t ρ s with
    | .ok false s1 => .nx ρ s1
    | .ok true s1 => (match g ρ s1 with
      | .nx ρ2 s2 => whileN t g n ρ2 s2
      | .ct ρ2 s2 => whileN t g n ρ2 s2
      | .bk ρ2 s2 => .nx ρ2 s2
      | r => r)
    | .exc x s1 => .exc x ρ s1
    | .bad => .bad
def gWhile (t : T S) (g : Gs S) : Gs S := whileN t g 1000000
/-! ### what is walked: the items in order -/
def wSeq (f : E S) : As S := fun ρ s => (f ρ s).bind fun a s => match a with
  | .lst l => .ok l s
  | .tup l => .ok l s
  | _ => .bad
def okR (i : Int) : Bool := decide (-(2 ^ 62) ≤ i) && decide (i < 2 ^ 62)
def rangeL (lo : Int) (n : Nat) : List D := (List.range n).map fun (k : Nat) => D.int (lo + k)
def wRange1 (f : E S) : As S := fun ρ s => (f ρ s).bind fun a s => match a with
  | .int j => if okR j then .ok (rangeL 0 j.toNat) s else .bad
  | _ => .bad
def wRange2 (f g : E S) : As S := fun ρ s => (f ρ s).bind fun a s => (g ρ s).bind fun b s => match a, b with
  | .int i, .int j => if okR i && okR j then .ok (rangeL i (j - i).toNat) s else .bad
  | _, _ => .bad
/-! ### comprehensions -/
def wipeE (ρ : Env) : List Nat → Env
  | [] => ρ
  | v :: vs => (wipeE ρ vs).set v .un
def lcL (tg : Tg) (t : T S) (f : E S) (ρ : Env) : List D → List D → S → R S (List D)
  | [], acc, s => .ok acc s
  | d :: ds, acc, s => match tg d ρ with
    | none => .bad
    | some ρ1 => match t ρ1 s with
      | .ok true s => (match f ρ1 s with
        | .ok y s => if Nat.blt acc.length lim then lcL tg t f ρ ds (acc ++ [y]) s else .bad
        | _ => .bad)
      | .ok false s => lcL tg t f ρ ds acc s
      | _ => .bad
def fLc (w : As S) (own : List Nat) (tg : Tg) (t : T S) (f : E S) : As S := fun ρ s => (w ρ s).bind fun l s => lcL tg t f (wipeE ρ own) l [] s
def tYes' : T S := fun _ s => .ok true s
/-! ### calls -/
def eCallP (m : List D → Unit → R Unit D) (g : As S) : E S := fun ρ s => (g ρ s).bind fun as s => match m as () with
  | .ok d _ => .ok d s
  | .exc x _ => .exc x s
  | .bad => .bad
def eCallH (i : Nat) (m : List D → S → R S D) (g : As S) : E S := fun ρ s => match ρ[i]? with
  | some .hnd => (g ρ s).bind fun as s => m as s
  | _ => .bad
/-- a def: its body from its arguments -/
def endG (r : RS S) : R S D := match r with
  | .rt d s => .ok d s
  | .nx _ s => .ok .non s
  | .exc x _ s => .exc x s
  | _ => .bad
def runG (np n : Nat) (g : Gs S) (as : List D) (s : S) : R S D := if as.length = np then endG (g (as.map LV.val ++ List.replicate (n - np) LV.un) s) else .bad
/-- .. whose first parameter is the hand -/
def runH (np n : Nat) (g : Gs S) (as : List D) (s : S) : R S D := if as.length + 1 = np then endG (g (LV.hnd :: (as.map LV.val ++ List.replicate (n - np) LV.un)) s) else .bad
end

/-! ### further -/
section
variable {S : Type}
def dIsN (a : D) : Option D := match a with
  | .non => some (.bl true)
  | _ => some (.bl false)
def dNotN (a : D) : Option D := match a with
  | .non => some (.bl false)
  | _ => some (.bl true)
/-- what isinstance tells of the built-in classes that these texts ask of -/
inductive Ty where
  | int | bool | tuple | list | str | dict
def D.isTy (t : Ty) : D → Bool
  | .non => false
  | .bl _ => match t with | .int => true | .bool => true | _ => false
  | .int _ => match t with | .int => true | _ => false
  | .str _ => match t with | .str => true | _ => false
  | .tup _ => match t with | .tuple => true | _ => false
  | .lst _ => match t with | .list => true | _ => false
  | .dct _ => match t with | .dict => true | _ => false
  | .ins _ _ => false
def dIsTy (t : Ty) (a : D) : Option D := some (.bl (D.isTy t a))
def dIsIns (c : Nat) (a : D) : Option D := match a with
  | .ins c' _ => some (.bl (c == c'))
  | _ => some (.bl false)
/-- a slice's bound as a place among n (d where it is left out) -/
def sIx (n d : Nat) : Option Int → Nat
  | none => d
  | some v => if v < 0 then (v + (n : Int)).toNat else min v.toNat n
def cutD (xs : List D) (lo hi : Option Int) : List D := (xs.drop (sIx xs.length 0 lo)).take (sIx xs.length xs.length hi - sIx xs.length 0 lo)
abbrev O (S : Type) := Env → S → R S (Option Int)
def oNone : O S := fun _ s => .ok none s
def oSome (f : E S) : O S := fun ρ s => (f ρ s).bind fun a s => match a with
  | .int i => .ok (some i) s
  | _ => .bad
/-- t[lo:hi] of a tuple -/
def eSlT (f : E S) (lo hi : O S) : E S := fun ρ s => (f ρ s).bind fun a s => (lo ρ s).bind fun l s => (hi ρ s).bind fun h s => match a with
  | .tup xs => .ok (.tup (cutD xs l h)) s
  | _ => .bad
/-- l[lo:hi] of a list: a new list -/
def fSlL (f : E S) (lo hi : O S) : As S := fun ρ s => (f ρ s).bind fun a s => (lo ρ s).bind fun l s => (hi ρ s).bind fun h s => match a with
  | .lst xs => .ok (cutD xs l h) s
  | _ => .bad
/-- l + m, of lists: a new list -/
def fCat (f g : E S) : As S := fun ρ s => (f ρ s).bind fun a s => (g ρ s).bind fun b s => match a, b with
  | .lst l, .lst m => if Nat.ble (l.length + m.length) lim then .ok (l ++ m) s else .bad
  | _, _ => .bad
/-- l * n, of a list: a new list -/
def fRep (f g : E S) : As S := fun ρ s => (f ρ s).bind fun a s => (g ρ s).bind fun b s => match a, b with
  | .lst l, .int k => if small k && Nat.ble (l.length * k.toNat) lim && decide (k < 1000000) && decide (-1000000 < k) then .ok (List.replicate k.toNat l).flatten s else .bad
  | _, _ => .bad
/-- list(x): a new list -/
def fList (f : E S) : As S := fun ρ s => (f ρ s).bind fun a s => match a with
  | .lst l => .ok l s
  | .tup l => .ok l s
  | _ => .bad
/-- tuple(x) -/
def dTuple (a : D) : Option D := match a with
  | .lst l => some (.tup l)
  | .tup l => some (.tup l)
  | _ => none
def blsOf : List D → Option (List Bool)
  | [] => some []
  | .bl b :: l => (blsOf l).map (b :: ·)
  | _ :: _ => none
def dAny (a : D) : Option D := match a with
  | .lst l => (blsOf l).map fun bs => .bl (bs.any id)
  | _ => none
def dAll (a : D) : Option D := match a with
  | .lst l => (blsOf l).map fun bs => .bl (bs.all id)
  | _ => none
def intsOf : List D → Option (List Int)
  | [] => some []
  | .int b :: l => (intsOf l).map (b :: ·)
  | _ :: _ => none
def dSum (a : D) : Option D := match a with
  | .lst l => (intsOf l).map fun bs => .int bs.sum
  | .tup l => (intsOf l).map fun bs => .int bs.sum
  | _ => none
def dAbs (a : D) : Option D := match a with
  | .int i => some (.int (if i < 0 then -i else i))
  | _ => none
def dInt (a : D) : Option D := match a with
  | .int i => some (.int i)
  | .bl b => some (.int (if b then 1 else 0))
  | _ => none
def dMax2 (a b : D) : Option D := match a, b with
  | .int i, .int j => some (.int (if j > i then j else i))
  | _, _ => none
def dMin2 (a b : D) : Option D := match a, b with
  | .int i, .int j => some (.int (if j < i then j else i))
  | _, _ => none
/-- a method or a call of one argument more -/
def eBinA (op : D → D → Option D) (f g : E S) : E S := eBin op f g
def dCount (a b : D) : Option D := if D.fine a && D.fine b then (match a with
  | .lst l => some (.int ((l.countP fun z => D.eqv z b : Nat) : Int))
  | .tup l => some (.int ((l.countP fun z => D.eqv z b : Nat) : Int))
  | _ => none) else none
end

/-! ### a dict's keys -/
mutual
/-- what a tuple that is a key is made of -/
def D.kp : D → Bool
  | .non => true
  | .bl _ => true
  | .int _ => true
  | .str _ => true
  | .tup l => D.kpL l
  | _ => false
def D.kpL : List D → Bool
  | [] => true
  | a :: as => D.kp a && D.kpL as
end
/-- a tuple that may be a key -/
def isTK (d : D) : Bool := match d with
  | .tup l => D.kpL l && Nat.ble (D.depthL l + 1) 8
  | _ => false
/-- another key -/
def isLK (d : D) : Bool := match d with
  | .non => true
  | .int _ => true
  | .str _ => true
  | _ => false
/-- a dict's entries: keys of one kind, no two alike -/
def KOk (l : List (D × D)) : Prop := (l.all (fun p => isTK p.1) = true ∨ l.all (fun p => isLK p.1) = true) ∧ l.Pairwise (fun p q => D.eqv p.1 q.1 = false)
end Fx
set_option Elab.async false
set_option linter.all false
set_option autoImplicit false
set_option maxRecDepth 100000
/-! Fx, the base: how data lies in the abstract heap (Rep), how an environment lies in a frame's slots (Rel), the readings (tE, tS ..). -/
namespace Fx
open PySem L2

/-- what the text's classes are: their addresses, their fields, and a key's hash -/
structure CI where
  cA : Nat → Option Addr
  xA : Nat → Option Addr
  fN : Nat → List PySem.Str
  hs : D → Int

/-- at a: a plain dict with just these entries -/
def dicO (a : Addr) (es : List DictEntry × Nat) : HO := .ext fun h => (a == sysModules) = false ∧ h.DictRaw a es.1.toArray es.2

/-- a dict is no code object -/
theorem dicO_code (a : Addr) (es : List DictEntry × Nat) (q : PySem.Str) : dicO a es ≠ LamX.CodeO a q := fun z => by
  unfold dicO LamX.CodeO at z
  injection z with z
  have w := congrFun z { objs := Array.replicate (a + 1) { cls := .none, data := .fields #[.none, .str q default] } }
  have hg : Heap.get? { objs := Array.replicate (a + 1) { cls := .none, data := .fields #[.none, .str q default] } } a = some { cls := .none, data := .fields #[.none, .str q default] } := by
    unfold Heap.get?
    simp
  obtain ⟨_, o, ho, _, hd⟩ := w.symm.mp ⟨_, #[.none, .str q default], default, hg, rfl, rfl⟩
  rw [hg] at ho
  cases ho
  cases hd

mutual
/-- the value v is the data d, by what stands in G -/
inductive Rep (C : CI) (G : Hp) : D → V → Prop
  | non : Rep C G .non .non
  | bl (b : Bool) : Rep C G (.bl b) (.bl b)
  | int (i : Int) : Rep C G (.int i) (.int i)
  | str (x : List Nat) : Rep C G (.str x) (.str ⟨x.toArray⟩)
  | tup {a : Addr} {l : List D} {xs : List V} : G a = some (.tup xs) → Reps C G l xs → Rep C G (.tup l) (.ref a)
  | lst {a : Addr} {l : List D} {xs : List V} : G a = some (.lst xs) → Reps C G l xs → Rep C G (.lst l) (.ref a)
  | dct {a : Addr} {l : List (D × D)} {es : List DictEntry × Nat} : G a = some (dicO a es) → KOk l → RepE0 C G l es.1 → Rep C G (.dct l) (.ref a)
  | ins {a cl dx : Addr} {c : Nat} {fs : List D} {vs : List V} : C.cA c = some cl → G a = some (.ins cl dx ((C.fN c).zip vs)) → Reps C G fs vs → vs.length = (C.fN c).length → Rep C G (.ins c fs) (.ref a)
inductive Reps (C : CI) (G : Hp) : List D → List V → Prop
  | nil : Reps C G [] []
  | cons {d : D} {v : V} {ds : List D} {vs : List V} : Rep C G d v → Reps C G ds vs → Reps C G (d :: ds) (v :: vs)
inductive RepE0 (C : CI) (G : Hp) : List (D × D) → List DictEntry → Prop
  | nil : RepE0 C G [] []
  | cons {k d : D} {kv dv : V} {e : DictEntry} {l : List (D × D)} {es : List DictEntry} : Rep C G k kv → RelV kv e.key → e.hash = C.hs k → Rep C G d dv → RelV dv e.val → RepE0 C G l es → RepE0 C G ((k, d) :: l) (e :: es)
end
/-- .. a dict's entries, its keys fit to be such -/
def RepE (C : CI) (G : Hp) (l : List (D × D)) (es : List DictEntry × Nat) : Prop := KOk l ∧ RepE0 C G l es.1
theorem Rep.dctE {C : CI} {G : Hp} {a : Addr} {l : List (D × D)} {es : List DictEntry × Nat} (h : G a = some (dicO a es)) (r : RepE C G l es) : Rep C G (.dct l) (.ref a) := .dct h r.1 r.2

section
variable {C : CI} {G G' H H' : Hp}
/-- all that stands in the one stands in the other -/
def Sub (G G' : Hp) : Prop := ∀ b o, G b = some o → G' b = some o
theorem Sub.refl : Sub G G := fun _ _ h => h
theorem Sub.trans {G1 G2 G3 : Hp} (a : Sub G1 G2) (b : Sub G2 G3) : Sub G1 G3 := fun c o h => b c o (a c o h)
mutual
theorem Rep.mono (s : Sub G G') : ∀ (d : D) (v : V), Rep C G d v → Rep C G' d v
  | .non, _, h => by cases h; exact .non
  | .bl _, _, h => by cases h; exact .bl _
  | .int _, _, h => by cases h; exact .int _
  | .str _, _, h => by cases h; exact .str _
  | .tup l, _, h => by cases h with | tup a b => exact .tup (s _ _ a) (Reps.mono s l _ b)
  | .lst l, _, h => by cases h with | lst a b => exact .lst (s _ _ a) (Reps.mono s l _ b)
  | .dct l, _, h => by cases h with | dct a k b => exact .dct (s _ _ a) k (RepE0.mono s l _ b)
  | .ins c fs, _, h => by cases h with | ins a b c d => exact .ins a (s _ _ b) (Reps.mono s fs _ c) d
theorem Reps.mono (s : Sub G G') : ∀ (ds : List D) (vs : List V), Reps C G ds vs → Reps C G' ds vs
  | [], _, h => by cases h; exact .nil
  | d :: ds, _, h => by cases h with | cons a b => exact .cons (Rep.mono s d _ a) (Reps.mono s ds _ b)
theorem RepE0.mono (s : Sub G G') : ∀ (ds : List (D × D)) (es : List DictEntry), RepE0 C G ds es → RepE0 C G' ds es
  | [], _, h => by cases h; exact .nil
  | (k, d) :: l, _, h => by cases h with | cons a b c e f g => exact .cons (Rep.mono s k _ a) b c (Rep.mono s d _ e) f (RepE0.mono s l _ g)
end
theorem RepE.mono (s : Sub G G') (ds : List (D × D)) (es : List DictEntry × Nat) (h : RepE C G ds es) : RepE C G' ds es := ⟨h.1, RepE0.mono s ds es.1 h.2⟩
end

/-- what is known besides: in an except suite the exception that it holds; in a def that calls what it got, what this is -/
structure XA where
  x : Option (Addr × Value × Option Addr) := none
  f : Option (Addr × List Addr × Hp × Hp) := none
/-- the hand (what the law's draws come from): how its state lies at its addresses -/
structure HandK (S : Type) where
  at_ : S → List Addr → Hp → Prop
  loc : ∀ s HA H H', at_ s HA H → (∀ a ∈ HA, H' a = H a) → (∀ a q, H a = some (LamX.CodeO a q) → H' a = some (LamX.CodeO a q)) → at_ s HA H'
  trk : ∀ s HA H, at_ s HA H → ∀ a ∈ HA, ∃ o, H a = some o
  ea : XA := {}
/-- no hand -/
def noHand : HandK Unit where
  at_ := fun _ HA _ => HA = []
  loc := fun _ _ _ _ h _ _ => h
  trk := fun _ _ _ h a ha => by rw [h] at ha; cases ha

/-- what is fixed while a def runs: the hand's addresses, the heap and its unchanging part at the entry -/
structure Fix where
  HA : List Addr
  H0 : Hp
  G0 : Hp
  /-- the instance that an __init__ makes -/
  sa : Option Addr := none

/-- from (G, H) on to (G', H'): what was tracked stands (but the hand), what stands for good is more, the new of it is new -/
structure Ext (HA : List Addr) (G H G' H' : Hp) : Prop where
  sub : Sub G G'
  new : ∀ a o, G' a = some o → G a = some o ∨ H a = none
  kp : ∀ a o, H a = some o → a ∉ HA → H' a = some o
  off : ∀ a o, G' a = some o → a ∉ HA
  le : Sub G' H'
theorem Ext.trans {HA : List Addr} {G H G1 H1 G2 H2 : Hp} (a : Ext HA G H G1 H1) (b : Ext HA G1 H1 G2 H2) : Ext HA G H G2 H2 where
  sub := a.sub.trans b.sub
  new := fun c o e => by
    rcases b.new c o e with h | h
    · exact a.new c o h
    · right
      cases q : H c with
      | none => rfl
      | some u =>
        have := a.kp c u q (b.off c o e)
        rw [h] at this; cases this
  kp := fun c o e n => b.kp c o (a.kp c o e n) n
  off := b.off
  le := b.le
structure Nxt {S : Type} (HK : HandK S) (HA : List Addr) (G H : Hp) (s' : S) (G' H' : Hp) : Prop where
  ext : Ext HA G H G' H'
  hand : HK.at_ s' HA H'
theorem Nxt.trans {S : Type} {HK : HandK S} {HA : List Addr} {G H G1 H1 G2 H2 : Hp} {s1 s2 : S} (a : Nxt HK HA G H s1 G1 H1) (b : Nxt HK HA G1 H1 s2 G2 H2) : Nxt HK HA G H s2 G2 H2 := ⟨a.ext.trans b.ext, b.hand⟩

def LV.isOwn : LV → Bool
  | .own _ => true
  | .ownd _ => true
  | .slf _ _ => true
  | _ => false
/-- an instance that is being made: its first fields stand -/
def insO (C : CI) (c n : Nat) (w : Addr × Addr × List V) : HO := .ins w.1 w.2.1 (((C.fN c).take n).zip w.2.2)
def RepI (C : CI) (G : Hp) (c : Nat) (fs : List D) (w : Addr × Addr × List V) : Prop := C.cA c = some w.1 ∧ Reps C G fs w.2.2 ∧ fs.length ≤ (C.fN c).length
theorem RepI.mono {C : CI} {G G' : Hp} (s : Sub G G') {c : Nat} (fs : List D) (w : Addr × Addr × List V) (h : RepI C G c fs w) : RepI C G' c fs w := ⟨h.1, Reps.mono s _ _ h.2.1, h.2.2⟩
/-- an exception of the text's own classes, as it lies -/
def ExnIs (C : CI) (x : Exn) (cls : Value) (dd : Option Addr) (G : Hp) : Prop :=
  ∃ cl, C.xA x.c = some cl ∧ cls = .ref cl ∧
    match x.arg with
    | none => dd = none
    | some d => ∃ a v, dd = some a ∧ G a = some (.xd ((C.fN x.c).zip [v])) ∧ (C.fN x.c).length = 1 ∧ Rep C G d v
theorem ExnIs.mono {C : CI} {G G' : Hp} (s : Sub G G') {x : Exn} {cls : Value} {dd : Option Addr} (h : ExnIs C x cls dd G) : ExnIs C x cls dd G' := by
  obtain ⟨cl, h1, h2, h3⟩ := h
  refine ⟨cl, h1, h2, ?_⟩
  cases q : x.arg with
  | none => rw [q] at h3; exact h3
  | some d =>
    rw [q] at h3
    obtain ⟨a, v, e1, e2, e3, e4⟩ := h3
    exact ⟨a, v, e1, s _ _ e2, e3, Rep.mono s _ _ e4⟩
/-- how a slot holds what its name is said to hold -/
def SlotOk (C : CI) (ea : XA) (F : Fix) (G H : Hp) : LV → Option (Option V) → Prop
  | .un, _ => True
  | .val d, x => ∃ v, x = some (some v) ∧ Rep C G d v
  | .own l, x => ∃ a vs, x = some (some (.ref a)) ∧ H a = some (.lst vs) ∧ Reps C G l vs ∧ G a = none ∧ F.H0 a = none ∧ a ∉ F.HA
  | .ownd l, x => ∃ a es, x = some (some (.ref a)) ∧ H a = some (dicO a es) ∧ RepE C G l es ∧ G a = none ∧ F.H0 a = none ∧ a ∉ F.HA
  | .slf c fs, x => ∃ a w, x = some (some (.ref a)) ∧ H a = some (insO C c fs.length w) ∧ RepI C G c fs w ∧ G a = none ∧ F.H0 a = none ∧ a ∉ F.HA ∧ F.sa = some a
  | .exn x, y => ∀ a cls dd, ea.x = some (a, cls, dd) → y = some (some (.ref a)) ∧ ExnIs C x cls dd G
  | .fnn, y => ∀ a ha h0 g0, ea.f = some (a, ha, h0, g0) → y = some (some (.ref a)) ∧ F.HA = ha ∧ F.H0 = h0 ∧ F.G0 = g0
  | .hnd, x => ∃ a, x = some (some (.ref a)) ∧ F.HA.head? = some a
/-- the name at slot i owns a -/
def OwnAt (ρ : Env) (σ : St) (i : Nat) (a : Addr) : Prop := (∃ lv, ρ[i]? = some lv ∧ lv.isOwn = true) ∧ σ[i]? = some (some (.ref a))

structure Rel {S : Type} (C : CI) (HK : HandK S) (F : Fix) (G : Hp) (ρ : Env) (s : S) (σ : St) (H : Hp) : Prop where
  len : σ.length = ρ.length
  slot : ∀ (i : Nat) (lv : LV), ρ[i]? = some lv → SlotOk C HK.ea F G H lv σ[i]?
  sep : ∀ (i j : Nat) (a : Addr), OwnAt ρ σ i a → OwnAt ρ σ j a → i = j
  le : Sub G H
  off : ∀ a o, G a = some o → a ∉ F.HA
  g0 : Sub F.G0 G
  gnew : ∀ a o, G a = some o → F.G0 a = some o ∨ F.H0 a = none
  fr : ∀ a o, F.H0 a = some o → a ∉ F.HA → H a = some o
  hand : HK.at_ s F.HA H

section
variable {S : Type} {C : CI} {HK : HandK S} {F : Fix} {G G' : Hp} {ρ ρ' : Env} {s s' : S} {σ σ' : St} {H H' : Hp}
theorem Ext.refl (r : Rel C HK F G ρ s σ H) : Ext F.HA G H G H := ⟨Sub.refl, fun _ _ h => .inl h, fun _ _ h _ => h, r.off, r.le⟩
theorem Nxt.refl (r : Rel C HK F G ρ s σ H) : Nxt HK F.HA G H s G H := ⟨Ext.refl r, r.hand⟩
/-- a new address is new to all -/
theorem Rel.h0 (r : Rel C HK F G ρ s σ H) {p : Addr} (n : H p = none) : F.H0 p = none ∧ p ∉ F.HA ∧ G p = none := by
  have hp : p ∉ F.HA := fun h => by
    obtain ⟨o, e⟩ := HK.trk s F.HA H r.hand p h
    rw [n] at e; cases e
  refine ⟨?_, hp, ?_⟩
  · cases q : F.H0 p with
    | none => rfl
    | some o =>
      have := r.fr p o q hp
      rw [n] at this; cases this
  · cases q : G p with
    | none => rfl
    | some o =>
      have := r.le p o q
      rw [n] at this; cases this
/-- the slots behind an expression -/
theorem Rel.ext (r : Rel C HK F G ρ s σ H) (x : Nxt HK F.HA G H s' G' H') : Rel C HK F G' ρ s' σ H' where
  len := r.len
  slot := fun i lv e => by
    have h := r.slot i lv e
    cases lv with
    | un => trivial
    | exn _ => exact fun a cls dd e => ⟨(h a cls dd e).1, ExnIs.mono x.ext.sub (h a cls dd e).2⟩
    | val d =>
      obtain ⟨v, e1, q⟩ := h
      exact ⟨v, e1, Rep.mono x.ext.sub _ _ q⟩
    | own l =>
      obtain ⟨a, vs, e1, e2, q, g, z, m⟩ := h
      refine ⟨a, vs, e1, x.ext.kp _ _ e2 m, Reps.mono x.ext.sub _ _ q, ?_, z, m⟩
      cases w : G' a with
      | none => rfl
      | some o =>
        rcases x.ext.new a o w with y | y
        · rw [g] at y; cases y
        · rw [e2] at y; cases y
    | ownd l =>
      obtain ⟨a, vs, e1, e2, q, g, z, m⟩ := h
      refine ⟨a, vs, e1, x.ext.kp _ _ e2 m, RepE.mono x.ext.sub _ _ q, ?_, z, m⟩
      cases w : G' a with
      | none => rfl
      | some o =>
        rcases x.ext.new a o w with y | y
        · rw [g] at y; cases y
        · rw [e2] at y; cases y
    | slf c fs =>
      obtain ⟨a, vs, e1, e2, q, g, z, m⟩ := h
      refine ⟨a, vs, e1, x.ext.kp _ _ e2 m.1, RepI.mono x.ext.sub _ _ q, ?_, z, m⟩
      cases w : G' a with
      | none => rfl
      | some o =>
        rcases x.ext.new a o w with y | y
        · rw [g] at y; cases y
        · rw [e2] at y; cases y
    | hnd => exact h
    | fnn => exact h
  sep := r.sep
  le := x.ext.le
  off := x.ext.off
  g0 := r.g0.trans x.ext.sub
  gnew := fun a o e => by
    rcases x.ext.new a o e with y | y
    · exact r.gnew a o y
    · exact .inr (r.h0 y).1
  fr := fun a o e n => x.ext.kp a o (r.fr a o e n) n
  hand := x.hand
/-- a new object, not for good (yet) -/
theorem Rel.new (r : Rel C HK F G ρ s σ H) {p : Addr} {o : HO} (n : H p = none) : Nxt HK F.HA G H s G (upd H p o) := by
  obtain ⟨h0, hp, hg⟩ := r.h0 n
  have ne : ∀ a u, H a = some u → a ≠ p := fun a u e z => by rw [z, n] at e; cases e
  refine ⟨⟨Sub.refl, fun _ _ h => .inl h, fun a u e _ => by rw [upd_ne (ne a u e)]; exact e, r.off, fun a u e => by rw [upd_ne (ne a u (r.le a u e))]; exact r.le a u e⟩, ?_⟩
  exact HK.loc _ _ _ _ r.hand (fun a ha => upd_ne fun z => hp (z ▸ ha)) fun a q e => by rw [upd_ne (ne a _ e)]; exact e
/-- a new object, for good -/
theorem Rel.newG (r : Rel C HK F G ρ s σ H) {p : Addr} {o : HO} (n : H p = none) : Nxt HK F.HA G H s (upd G p o) (upd H p o) := by
  obtain ⟨h0, hp, hg⟩ := r.h0 n
  have x := (r.new (o := o) n)
  refine ⟨⟨fun a u e => ?_, fun a u e => ?_, x.ext.kp, fun a u e => ?_, fun a u e => ?_⟩, x.hand⟩
  · rw [upd_ne (ne_of_none e hg)]; exact e
  · by_cases h : a = p
    · subst h; exact .inr n
    · rw [upd_ne h] at e; exact .inl e
  · by_cases h : a = p
    · subst h; exact hp
    · rw [upd_ne h] at e; exact r.off a u e
  · by_cases h : a = p
    · subst h; rw [upd_same] at e; rw [upd_same]; exact e
    · rw [upd_ne h] at e; rw [upd_ne h]; exact r.le a u e
end

/-! ### the readings -/
section
variable {S α β : Type} (C : CI) (HK : HandK S)
/-- what is known behind an expression -/
def Post (W : WX) (F : Fix) (G H : Hp) (σ : St) (RR : Hp → Hp → α → β → Prop) : R S α → (β → Hp → Prop) → Prop
  | .ok a s', Q => ∀ b H' G', Nxt HK F.HA G H s' G' H' → RR G' H' a b → Q b H'
  | .exc x s', _ => ∀ cls dd H' G', Nxt HK F.HA G H s' G' H' → ExnIs C x cls dd G' → W cls dd σ H'
  | .bad, _ => False
/-- an expression's reading: the frame's slots are as an environment says, and what is wanted follows from the semantics' answer -/
def tX (W : WX) (RR : Fix → Env → St → Hp → Hp → Hp → α → β → Prop) (f : Env → S → R S α) : St → Hp → (β → Hp → Prop) → Prop := fun σ H Q =>
  ∃ F G ρ s, Rel C HK F G ρ s σ H ∧ Post C HK W F G H σ (RR F ρ σ H) (f ρ s) Q
def PostS (W : WX) (F : Fix) (G : Hp) (D : Ends) : RS S → Prop
  | .nx ρ' s' => ∀ σ' H' G', Rel C HK F G' ρ' s' σ' H' → Sub G G' → D.nx σ' H'
  | .rt d s' => ∀ v ρ' σ' H' G', Rel C HK F G' ρ' s' σ' H' → Sub G G' → Rep C G' d v → D.rt v H'
  | .bk ρ' s' => ∀ σ' H' G', Rel C HK F G' ρ' s' σ' H' → Sub G G' → D.bk σ' H'
  | .ct ρ' s' => ∀ σ' H' G', Rel C HK F G' ρ' s' σ' H' → Sub G G' → D.ct σ' H'
  | .exc x ρ' s' => ∀ cls dd σ' H' G', Rel C HK F G' ρ' s' σ' H' → Sub G G' → ExnIs C x cls dd G' → W cls dd σ' H'
  | .bad => False
/-- a statement's reading -/
def tS (W : WX) (g : Gs S) : TS := fun D σ H => ∃ F G ρ s, Rel C HK F G ρ s σ H ∧ PostS C HK W F G D (g ρ s)
/-- values: for good, or (borrowed) a name's own list or dict whose items stand for good -/
def RRe : Fix → Env → St → Hp → Hp → Hp → D → V → Prop := fun _ _ _ _ G _ d v => Rep C G d v
def BRep (HA : List Addr) (G H : Hp) (d : D) (v : V) : Prop := Rep C G d v ∨ (∃ a l vs, d = .lst l ∧ v = .ref a ∧ H a = some (.lst vs) ∧ a ∉ HA ∧ Reps C G l vs) ∨ ∃ a l es, d = .dct l ∧ v = .ref a ∧ H a = some (dicO a es) ∧ a ∉ HA ∧ RepE C G l es
def RRb : Fix → Env → St → Hp → Hp → Hp → D → V → Prop := fun F _ _ _ G H d v => BRep C F.HA G H d v
def RRt : Fix → Env → St → Hp → Hp → Hp → Bool → Bool → Prop := fun _ _ _ _ _ _ a b => b = a
def RRa : Fix → Env → St → Hp → Hp → Hp → List D → List V → Prop := fun _ _ _ _ G _ ds vs => Reps C G ds vs
/-- a new list, nobody's -/
def RRf : Fix → Env → St → Hp → Hp → Hp → List D → V → Prop := fun F ρ σ B G H l v => ∃ a vs, v = .ref a ∧ B a = none ∧ H a = some (.lst vs) ∧ Reps C G l vs ∧ G a = none ∧ F.H0 a = none ∧ a ∉ F.HA ∧ ∀ i, ¬ OwnAt ρ σ i a
def RRd : Fix → Env → St → Hp → Hp → Hp → List (D × D) → V → Prop := fun F ρ σ B G H l v => ∃ a es, v = .ref a ∧ B a = none ∧ H a = some (dicO a es) ∧ RepE C G l es ∧ G a = none ∧ F.H0 a = none ∧ a ∉ F.HA ∧ ∀ i, ¬ OwnAt ρ σ i a
abbrev tE (W : WX) (f : E S) : TE := tX C HK W (RRe C) f
abbrev tB (W : WX) (f : E S) : TE := tX C HK W (RRb C) f
abbrev tT (W : WX) (f : T S) : TT := tX C HK W RRt f
abbrev tA (W : WX) (f : As S) : TA := tX C HK W (RRa C) f
abbrev tF (W : WX) (f : As S) : TE := tX C HK W (RRf C) f
abbrev tFd (W : WX) (f : Env → S → R S (List (D × D))) : TE := tX C HK W (RRd C) f
abbrev EV (X : Cx) (W : WX) (e : Expr) (f : E S) : Prop := PE X e (tE C HK W f)
abbrev EB (X : Cx) (W : WX) (e : Expr) (f : E S) : Prop := PE X e (tB C HK W f)
abbrev EF (X : Cx) (W : WX) (e : Expr) (f : As S) : Prop := PE X e (tF C HK W f)
abbrev EFd (X : Cx) (W : WX) (e : Expr) (f : Env → S → R S (List (D × D))) : Prop := PE X e (tFd C HK W f)
abbrev TV (X : Cx) (W : WX) (e : Expr) (f : T S) : Prop := PT X e (tT C HK W f)
abbrev AV (X : Cx) (W : WX) (es : List Expr) (f : As S) : Prop := PA X es (tA C HK W f)
abbrev SV (X : Cx) (W : WX) (st : Stmt) (g : Gs S) : Prop := PS X st (tS C HK W g)
abbrev SVs (X : Cx) (W : WX) (st : List Stmt) (g : Gs S) : Prop := PSs X st (tS C HK W g)
end

/-! ### other readings of the same -/
section
variable {X : Cx} {e : Expr} {es : List Expr} {st : Stmt} {sts : List Stmt}
theorem PE.of {t t' : TE} (h : PE X e t') (w : ∀ σ H Q, t σ H Q → t' σ H Q) : PE X e t := ⟨fun pins s σ H Q I q => h.run pins s σ H Q I (w _ _ _ q)⟩
theorem PT.of {t t' : TT} (h : PT X e t') (w : ∀ σ H Q, t σ H Q → t' σ H Q) : PT X e t := ⟨fun pins s σ H Q I q => h.run pins s σ H Q I (w _ _ _ q)⟩
theorem PW.of {t t' : TT} (h : PW X e t') (w : ∀ σ H Q, t σ H Q → t' σ H Q) : PW X e t := ⟨fun wh pins s σ H Q I q => h.run wh pins s σ H Q I (w _ _ _ q)⟩
theorem PA.of {t t' : TA} (h : PA X es t') (w : ∀ σ H Q, t σ H Q → t' σ H Q) : PA X es t := ⟨fun pos pins s σ H Q I q => h.run pos pins s σ H Q I (w _ _ _ q)⟩
theorem PS.of {t t' : TS} (h : PS X st t') (w : ∀ D σ H, t D σ H → t' D σ H) : PS X st t := ⟨fun pins s σ H D I q => h.run pins s σ H D I (w _ _ _ q)⟩
theorem PSs.of {t t' : TS} (h : PSs X sts t') (w : ∀ D σ H, t D σ H → t' D σ H) : PSs X sts t := ⟨fun pins s σ H D I q => h.run pins s σ H D I (w _ _ _ q)⟩
end
section
variable {S α β γ δ : Type} {C : CI} {HK : HandK S} {W : WX} {F : Fix} {G G1 H H1 : Hp} {ρ : Env} {σ : St} {s s1 : S}
/-- later -/
theorem Post.later {RR : Hp → Hp → α → β → Prop} {r : R S α} {Q : β → Hp → Prop} (p : Post C HK W F G H σ RR r Q) (x : Ext F.HA G H G1 H1) : Post C HK W F G1 H1 σ RR r Q := by
  cases r with
  | ok a s' => exact fun b H' G' n q => p b H' G' ⟨x.trans n.ext, n.hand⟩ q
  | exc e s' => exact fun cls dd H' G' n q => p cls dd H' G' ⟨x.trans n.ext, n.hand⟩ q
  | bad => exact p.elim
/-- THE STEP: the first part's answer, then what is left to be read -/
theorem Post.step {RR : Hp → Hp → α → β → Prop} {RR' : Hp → Hp → γ → δ → Prop} {r : R S α} {k : α → S → R S γ} {Q : δ → Hp → Prop} (rel : Rel C HK F G ρ s σ H) (p : Post C HK W F G H σ RR' (r.bind k) Q) :
    Post C HK W F G H σ RR r (fun b H1 => ∃ a s1 G1, Rel C HK F G1 ρ s1 σ H1 ∧ Ext F.HA G H G1 H1 ∧ RR G1 H1 a b ∧ Post C HK W F G1 H1 σ RR' (k a s1) Q) := by
  cases r with
  | ok a s1 => exact fun b H1 G1 n q => ⟨a, s1, G1, rel.ext n, n.ext, q, Post.later p n.ext⟩
  | exc e s1 => exact p
  | bad => exact p.elim
/-- the end: no step of the heap -/
theorem Post.here {RR : Hp → Hp → α → β → Prop} {a : α} {b : β} {Q : β → Hp → Prop} (rel : Rel C HK F G ρ s σ H) (p : Post C HK W F G H σ RR (.ok a s) Q) (q : RR G H a b) : Q b H := p b H G (Nxt.refl rel) q
/-- what was not there is not there ahead -/
theorem Ext.back {HA : List Addr} {G H G' H' : Hp} (x : Ext HA G H G' H') {a : Addr} (n : H' a = none) (h : a ∉ HA) : H a = none := by
  cases q : H a with
  | none => rfl
  | some o =>
    have := x.kp a o q h
    rw [n] at this; cases this
end
end Fx
set_option Elab.async false
set_option linter.all false
set_option autoImplicit false
set_option maxRecDepth 100000
/-! Fx, data and the library's data. -/
namespace Fx
open PySem L2
mutual
def D.toP : D → PyData
  | .non => .none
  | .bl b => .bool b
  | .int i => .int i
  | .str x => .str ⟨x.toArray⟩
  | .tup l => .tuple (D.toPL l)
  | .lst l => .list (D.toPL l)
  | .dct _ => .none
  | .ins _ _ => .none
def D.toPL : List D → List PyData
  | [] => []
  | d :: ds => D.toP d :: D.toPL ds
end
mutual
theorem Rep.dp {C : CI} {K : PySem.W.Frag} {H : Hp} : ∀ (d : D) (v : V), Rep C H d v → D.plain d = true → Dp K H v (D.toP d)
  | .non, _, h, _ => by cases h; exact .non
  | .bl _, _, h, _ => by cases h; exact .bl _
  | .int _, _, h, _ => by cases h; exact .int _
  | .str _, _, h, _ => by cases h; exact .str _
  | .tup l, _, h, p => by cases h with | tup a b => exact .tup (.of a) (Reps.dp l _ b p)
  | .lst l, _, h, p => by cases h with | lst a b => exact .lst (.of a) (Reps.dp l _ b p)
  | .dct _, _, _, p => by cases p
  | .ins _ _, _, _, p => by cases p
theorem Reps.dp {C : CI} {K : PySem.W.Frag} {H : Hp} : ∀ (ds : List D) (vs : List V), Reps C H ds vs → D.plainL ds = true → DpAll K H vs (D.toPL ds)
  | [], _, h, _ => by cases h; exact .nil
  | d :: ds, _, h, p => by
    have p' : (D.plain d && D.plainL ds) = true := p
    rw [Bool.and_eq_true] at p'
    cases h with | cons a b => exact .cons (Rep.dp d _ a p'.1) (Reps.dp ds _ b p'.2)
end
mutual
theorem D.lay : ∀ d : D, D.plain d = true → (D.toP d).canLay0 = true
  | .non, _ => by simp [D.toP, PyData.canLay0]
  | .bl _, _ => by simp [D.toP, PyData.canLay0]
  | .int _, _ => by simp [D.toP, PyData.canLay0]
  | .str x, p => by
    have p' : (x.all fun c => Nat.blt c 0x110000) = true := p
    have e : (D.toP (.str x)).canLay0 = PyData.strOk ⟨x.toArray⟩ := by simp [D.toP, PyData.canLay0]
    rw [e]
    unfold PyData.strOk
    rw [List.all_eq_true] at p'
    simp only [List.all_toArray, List.all_eq_true, decide_eq_true_eq]
    intro c hc
    exact Nat.le_of_ble_eq_true (p' c hc)
  | .tup l, p => by simp only [D.toP, PyData.canLay0]; exact D.layL l p
  | .lst l, p => by simp only [D.toP, PyData.canLay0]; exact D.layL l p
  | .dct _, p => by cases p
  | .ins _ _, p => by cases p
theorem D.layL : ∀ ds : List D, D.plainL ds = true → PyData.canLayAll0 (D.toPL ds) = true
  | [], _ => by simp [D.toPL, PyData.canLayAll0]
  | d :: ds, p => by
    have p' : (D.plain d && D.plainL ds) = true := p
    rw [Bool.and_eq_true] at p'
    simp only [D.toPL, PyData.canLayAll0, D.lay d p'.1, D.layL ds p'.2, Bool.and_self]
end
mutual
theorem D.dep : ∀ d : D, (D.toP d).depth = d.depth
  | .non => by simp [D.toP, PyData.depth, D.depth]
  | .bl _ => by simp [D.toP, PyData.depth, D.depth]
  | .int _ => by simp [D.toP, PyData.depth, D.depth]
  | .str _ => by simp [D.toP, PyData.depth, D.depth]
  | .tup l => by simp only [D.toP, PyData.depth, D.depth, D.depL l]
  | .lst l => by simp only [D.toP, PyData.depth, D.depth, D.depL l]
  | .dct _ => by simp [D.toP, PyData.depth, D.depth]
  | .ins _ _ => by simp [D.toP, PyData.depth, D.depth]
theorem D.depL : ∀ ds : List D, PyData.depthAll (D.toPL ds) = D.depthL ds
  | [] => by simp [D.toPL, PyData.depthAll, D.depthL]
  | d :: ds => by simp only [D.toPL, PyData.depthAll, D.depthL, D.dep d, D.depL ds]
end
theorem str_beq (x y : List Nat) : ((⟨x.toArray⟩ : PySem.Str) == ⟨y.toArray⟩) = (x == y) := by
  by_cases h : x = y
  · subst h; simp
  · have : (⟨x.toArray⟩ : PySem.Str) ≠ ⟨y.toArray⟩ := fun e => h (by simpa using congrArg (fun z => z.cps.toList) e)
    rw [beq_eq_false_iff_ne.mpr this, beq_eq_false_iff_ne.mpr h]
mutual
theorem D.eqvP : ∀ a b : D, D.plain a = true → D.plain b = true → PyData.eqv a.toP b.toP = D.eqv a b
  | .dct _, _, p, _ => by cases p
  | .ins _ _, _, p, _ => by cases p
  | .non, b, _, q => by cases b <;> first | (cases q; done) | simp [D.toP, PyData.eqv, D.eqv]
  | .bl x, b, _, q => by cases b <;> first | (cases q; done) | simp [D.toP, PyData.eqv, D.eqv]
  | .int x, b, _, q => by cases b <;> first | (cases q; done) | simp [D.toP, PyData.eqv, D.eqv]
  | .str x, b, _, q => by
    cases b <;> first | (cases q; done) | (simp [D.toP, PyData.eqv, D.eqv]; done) | skip
    simp only [D.toP, PyData.eqv, D.eqv]
    exact str_beq _ _
  | .tup l, b, p, q => by
    cases b <;> first | (cases q; done) | (simp [D.toP, PyData.eqv, D.eqv]; done) | skip
    simp only [D.toP, PyData.eqv, D.eqv]
    exact D.eqvPL l _ p q
  | .lst l, b, p, q => by
    cases b <;> first | (cases q; done) | (simp [D.toP, PyData.eqv, D.eqv]; done) | skip
    simp only [D.toP, PyData.eqv, D.eqv]
    exact D.eqvPL l _ p q
theorem D.eqvPL : ∀ as bs : List D, D.plainL as = true → D.plainL bs = true → PyData.eqvAll (D.toPL as) (D.toPL bs) = D.eqvL as bs
  | [], [], _, _ => by simp [D.toPL, PyData.eqvAll, D.eqvL]
  | [], _ :: _, _, _ => by simp [D.toPL, PyData.eqvAll, D.eqvL]
  | _ :: _, [], _, _ => by simp [D.toPL, PyData.eqvAll, D.eqvL]
  | a :: as, b :: bs, p, q => by
    have p' : (D.plain a && D.plainL as) = true := p
    have q' : (D.plain b && D.plainL bs) = true := q
    rw [Bool.and_eq_true] at p' q'
    simp only [D.toPL, PyData.eqvAll, D.eqvL, D.eqvP a b p'.1 q'.1, D.eqvPL as bs p'.2 q'.2]
end
theorem D.fine_iff {d : D} (h : D.fine d = true) : D.plain d = true ∧ D.depth d ≤ 60 := by
  have h' : (D.plain d && Nat.ble (D.depth d) 60) = true := h
  rw [Bool.and_eq_true] at h'
  exact ⟨h'.1, Nat.le_of_ble_eq_true h'.2⟩
theorem D.shaped {d : D} (h : D.fine d = true) : SeqAt.shaped d.toP = true := by
  obtain ⟨h1, h2⟩ := D.fine_iff h
  unfold SeqAt.shaped
  rw [D.lay d h1, D.dep d, Bool.true_and, decide_eq_true_eq]
  omega
theorem D.toPL_any (f : PyData → Bool) : ∀ l : List D, (D.toPL l).any f = l.any fun z => f z.toP
  | [] => by simp [D.toPL]
  | d :: ds => by simp only [D.toPL, List.any_cons, D.toPL_any f ds]
theorem plainL_mem : ∀ {l : List D}, D.plainL l = true → ∀ d ∈ l, D.plain d = true
  | [], _, d, h => by cases h
  | a :: as, p, d, h => by
    have p' : (D.plain a && D.plainL as) = true := p
    rw [Bool.and_eq_true] at p'
    rcases List.mem_cons.mp h with rfl | h
    · exact p'.1
    · exact plainL_mem p'.2 d h
theorem any_eqv {a : D} (pa : D.plain a = true) : ∀ {l : List D}, D.plainL l = true → (D.toPL l).any (fun z => PyData.eqv z a.toP) = l.any fun z => D.eqv z a
  | [], _ => by simp [D.toPL]
  | d :: ds, p => by
    have p' : (D.plain d && D.plainL ds) = true := p
    rw [Bool.and_eq_true] at p'
    simp only [D.toPL, List.any_cons, D.eqvP d a p'.1 pa, any_eqv pa p'.2]
end Fx
set_option Elab.async false
set_option linter.all false
set_option autoImplicit false
set_option maxRecDepth 100000
/-! Fx, the order of data: t < u of tuples at any depth. -/
namespace Fx
open PySem L2
theorem Reps.length {C : CI} {G : Hp} : ∀ {ds : List D} {vs : List V}, Reps C G ds vs → ds.length = vs.length
  | [], _, h => by cases h; rfl
  | _ :: ds, _, h => by cases h with | cons _ b => simp [Reps.length b]
theorem Reps.get {C : CI} {G : Hp} : ∀ {ds : List D} {vs : List V} {i : Nat} {d : D}, Reps C G ds vs → ds[i]? = some d → ∃ v, vs[i]? = some v ∧ Rep C G d v
  | [], _, i, _, _, e => by simp at e
  | d :: ds, _, 0, _, h, e => by
    cases h with | cons a b => simp at e; subst e; exact ⟨_, rfl, a⟩
  | d :: ds, _, i + 1, _, h, e => by
    cases h with | cons a b =>
      obtain ⟨v, h1, h2⟩ := Reps.get (i := i) b (by simpa using e)
      exact ⟨v, by simpa using h1, h2⟩
theorem Reps.append {C : CI} {G : Hp} : ∀ {ds es : List D} {vs ws : List V}, Reps C G ds vs → Reps C G es ws → Reps C G (ds ++ es) (vs ++ ws)
  | [], _, _, _, h, k => by cases h; exact k
  | _ :: ds, _, _, _, h, k => by cases h with | cons a b => exact .cons a (Reps.append b k)
theorem Reps.take {C : CI} {G : Hp} : ∀ {ds : List D} {vs : List V} (n : Nat), Reps C G ds vs → Reps C G (ds.take n) (vs.take n)
  | _, _, 0, _ => by simp; exact .nil
  | [], _, n + 1, h => by cases h; simp; exact .nil
  | _ :: ds, _, n + 1, h => by cases h with | cons a b => simp only [List.take_succ_cons]; exact .cons a (Reps.take n b)
theorem Reps.drop {C : CI} {G : Hp} : ∀ {ds : List D} {vs : List V} (n : Nat), Reps C G ds vs → Reps C G (ds.drop n) (vs.drop n)
  | _, _, 0, h => by simpa using h
  | [], _, n + 1, h => by cases h; simp; exact .nil
  | _ :: ds, _, n + 1, h => by cases h with | cons a b => simp only [List.drop_succ_cons]; exact Reps.drop n b
theorem Reps.set {C : CI} {G : Hp} {d : D} {v : V} (r : Rep C G d v) : ∀ {ds : List D} {vs : List V} (n : Nat), Reps C G ds vs → Reps C G (ds.set n d) (vs.set n v)
  | [], _, _, h => by cases h; exact .nil
  | _ :: ds, _, 0, h => by cases h with | cons a b => exact .cons r b
  | _ :: ds, _, n + 1, h => by cases h with | cons a b => exact .cons a (Reps.set r n b)
theorem Reps.erase {C : CI} {G : Hp} : ∀ {ds : List D} {vs : List V} (n : Nat), Reps C G ds vs → Reps C G (ds.eraseIdx n) (vs.eraseIdx n)
  | [], _, _, h => by cases h; exact .nil
  | _ :: ds, _, 0, h => by cases h with | cons a b => exact b
  | _ :: ds, _, n + 1, h => by cases h with | cons a b => exact .cons a (Reps.erase n b)
theorem Reps.rev {C : CI} {G : Hp} : ∀ {ds : List D} {vs : List V}, Reps C G ds vs → Reps C G ds.reverse vs.reverse
  | [], _, h => by cases h; exact .nil
  | _ :: ds, _, h => by cases h with | cons a b => simp only [List.reverse_cons]; exact Reps.append (Reps.rev b) (.cons a .nil)
theorem getD_at {l : List D} {j : Nat} (h : j < l.length) : l.getD j .non = l[j] := by
  rw [List.getD_eq_getElem?_getD, List.getElem?_eq_getElem h]; rfl
theorem lex_drop (as bs : List D) (k : Nat) : ∀ i, i + k = min as.length bs.length →
    Ob.lexAt (fun j => D.eqv (as.getD j .non) (bs.getD j .non)) (fun j => D.lt (as.getD j .non) (bs.getD j .non)) (decide (as.length < bs.length)) i k = D.ltL (as.drop i) (bs.drop i) := by
  induction k with
  | zero =>
    intro i hi
    rw [Ob.lexAt_zero]
    by_cases h : as.length < bs.length
    · rw [decide_eq_true h]
      have e1 : as.drop i = [] := List.drop_eq_nil_of_le (by omega)
      rw [e1]
      cases e2 : bs.drop i with
      | nil =>
        have := List.drop_eq_nil_iff.mp e2
        omega
      | cons x xs => simp [D.ltL]
    · rw [decide_eq_false h]
      have e1 : bs.drop i = [] := List.drop_eq_nil_of_le (by omega)
      rw [e1]
      cases as.drop i <;> simp [D.ltL]
  | succ k ih =>
    intro i hi
    have h1 : i < as.length := by omega
    have h2 : i < bs.length := by omega
    rw [Ob.lexAt_succ, ih (i + 1) (by omega)]
    have e1 : as.drop i = as[i] :: as.drop (i + 1) := List.drop_eq_getElem_cons h1
    have e2 : bs.drop i = bs[i] :: bs.drop (i + 1) := List.drop_eq_getElem_cons h2
    rw [e1, e2]
    simp only [D.ltL, getD_at h1, getD_at h2]
theorem cmpL_at : ∀ {as bs : List D} {j : Nat} {a b : D}, D.cmpL as bs = true → as[j]? = some a → bs[j]? = some b → D.cmp a b = true
  | [], _, _, _, _, _, h, _ => by simp at h
  | _ :: _, [], _, _, _, _, _, h => by simp at h
  | x :: as, y :: bs, j, a, b, p, h, k => by
    have p' : (D.cmp x y && D.cmpL as bs) = true := p
    rw [Bool.and_eq_true] at p'
    cases j with
    | zero => simp at h k; subst h; subst k; exact p'.1
    | succ j => exact cmpL_at (j := j) p'.2 (by simpa using h) (by simpa using k)
theorem depthL_mem : ∀ {l : List D} {d : D}, d ∈ l → D.depth d ≤ D.depthL l
  | [], _, h => by cases h
  | x :: l, d, h => by
    simp only [D.depthL]
    rcases List.mem_cons.mp h with rfl | h
    · omega
    · have := depthL_mem h
      omega
section
variable {C : CI} {X : Cx} {pins : List (Addr × Obj)} {σ : L2.St} {H : Hp} {s : Shared}
/-- == of data, asked of values -/
theorem eq_at (I : Inv X pins σ H s) {a b : D} {x y : V} {u v : Value} (ra : Rep C H a x) (rb : Rep C H b y) (ru : RelV x u) (rv : RelV y v) (pa : D.plain a = true) (pb : D.plain b = true) (A : Around) (hu : A.units + D.depth a < cLine) : SeqAt.EqAt A s u v (D.eqv a b) := by
  obtain ⟨as, r1⟩ := Dp.reads I _ x u (Rep.dp a x ra pa) ru
  obtain ⟨bs, r2⟩ := Dp.reads I _ y v (Rep.dp b y rb pb) rv
  rw [← D.eqvP a b pa pb]
  refine SeqAt.eqAt_reads _ _ A s u v as bs r1 r2 (D.lay a pa) (D.lay b pb) ?_
  rw [D.dep, D.dep]
  exact Nat.lt_of_le_of_lt (by have := Nat.min_le_left (D.depth a) (D.depth b); omega) hu
/-- < of data, asked of values -/
theorem lt_at (I : Inv X pins σ H s) : ∀ (a b : D) (x y : V) (u v : Value) (A : Around), Rep C H a x → Rep C H b y → RelV x u → RelV y v → D.plain a = true → D.plain b = true → D.cmp a b = true → A.units + D.depth a < cLine → Ob.RcOp .Lt A s u v (D.lt a b)
  | .int i, b, x, y, u, v, A, ra, rb, ru, rv, _, _, c, _ => by
    cases b with
    | int j =>
      cases ra
      cases rb
      obtain ⟨t, rfl⟩ := ru
      obtain ⟨t', rfl⟩ := rv
      simp only [D.lt]
      exact Ob.RcOp.lt_int _ _ _ _
    | _ => cases c
  | .tup l, b, x, y, u, v, A, ra, rb, ru, rv, pa, pb, c, hu => by
    cases b with
    | tup m =>
      cases ra with | tup a1 a2 =>
      cases rb with | tup b1 b2 =>
      cases ru
      cases rv
      obtain ⟨its, r1, p1, _⟩ := I.tuple (SqT.of a1)
      obtain ⟨its2, r2, p2, _⟩ := I.tuple (SqT.of b1)
      have n1 : its.toArray.size = l.length := by rw [List.size_toArray, ← r1.length, ← Reps.length a2]
      have n2 : its2.toArray.size = m.length := by rw [List.size_toArray, ← r2.length, ← Reps.length b2]
      have hd : A.units + (D.depthL l + 1) < cLine := by simpa [D.depth] using hu
      have at1 : ∀ j (h : j < its.toArray.size), ∃ x, RelV x its.toArray[j] ∧ Rep C H (l.getD j .non) x ∧ l.getD j .non ∈ l ∧ l[j]? = some (l.getD j .non) := fun j h => by
        have hj : j < l.length := by omega
        have e : l[j]? = some (l.getD j .non) := by rw [List.getElem?_eq_getElem hj, getD_at hj]
        obtain ⟨v, e1, q⟩ := Reps.get a2 e
        obtain ⟨u, e2, q2⟩ := r1.get e1
        refine ⟨v, ?_, q, List.mem_of_getElem? e, e⟩
        have : its.toArray[j] = u := by
          have hj2 : j < its.length := by simpa using h
          have := List.getElem?_eq_getElem hj2
          rw [e2] at this
          simpa using (Option.some.inj this).symm
        rw [this]; exact q2
      have at2 : ∀ j (h : j < its2.toArray.size), ∃ x, RelV x its2.toArray[j] ∧ Rep C H (m.getD j .non) x ∧ m.getD j .non ∈ m ∧ m[j]? = some (m.getD j .non) := fun j h => by
        have hj : j < m.length := by omega
        have e : m[j]? = some (m.getD j .non) := by rw [List.getElem?_eq_getElem hj, getD_at hj]
        obtain ⟨v, e1, q⟩ := Reps.get b2 e
        obtain ⟨u, e2, q2⟩ := r2.get e1
        refine ⟨v, ?_, q, List.mem_of_getElem? e, e⟩
        have : its2.toArray[j] = u := by
          have hj2 : j < its2.length := by simpa using h
          have := List.getElem?_eq_getElem hj2
          rw [e2] at this
          simpa using (Option.some.inj this).symm
        rw [this]; exact q2
      have R := Ob.RcOp.tuples_lt (A := A) (s := s) (e := fun j => D.eqv (l.getD j .non) (m.getD j .non)) (r := fun j => D.lt (l.getD j .non) (m.getD j .non)) p1 p2 (by omega)
        (fun j h1 h2 => by
          obtain ⟨x, q1, q2, q3, _⟩ := at1 j h1
          obtain ⟨y, k1, k2, k3, _⟩ := at2 j h2
          refine eq_at I q2 k2 q1 k1 (plainL_mem pa _ q3) (plainL_mem pb _ k3) _ ?_
          have := depthL_mem q3
          show A.units + 1 + _ < cLine
          omega)
        (fun j h1 h2 _ => by
          obtain ⟨x, q1, q2, q3, q4⟩ := at1 j h1
          obtain ⟨y, k1, k2, k3, k4⟩ := at2 j h2
          have hlt : sizeOf (l.getD j .non) < 1 + sizeOf l := by
            have := List.sizeOf_lt_of_mem q3
            omega
          refine lt_at I (l.getD j .non) (m.getD j .non) x y _ _ _ q2 k2 q1 k1 (plainL_mem pa _ q3) (plainL_mem pb _ k3) (cmpL_at c q4 k4) ?_
          have := depthL_mem q3
          show A.units + 1 + _ < cLine
          omega)
      rw [n1, n2, lex_drop l m _ 0 (by omega)] at R
      simpa [D.lt] using R
    | _ => cases c
  | .non, b, _, _, _, _, _, _, _, _, _, _, _, c, _ => by cases b <;> cases c
  | .bl _, b, _, _, _, _, _, _, _, _, _, _, _, c, _ => by cases b <;> cases c
  | .str _, b, _, _, _, _, _, _, _, _, _, _, _, c, _ => by cases b <;> cases c
  | .lst _, b, _, _, _, _, _, _, _, _, _, _, _, c, _ => by cases b <;> cases c
  | .dct _, b, _, _, _, _, _, _, _, _, _, _, _, c, _ => by cases b <;> cases c
  | .ins _ _, b, _, _, _, _, _, _, _, _, _, _, _, c, _ => by cases b <;> cases c
termination_by a => sizeOf a
decreasing_by
  all_goals (show sizeOf _ < sizeOf (D.tup l); rw [D.tup.sizeOf_spec]; assumption)
end
end Fx
set_option Elab.async false
set_option linter.all false
set_option autoImplicit false
set_option maxRecDepth 100000
/-! Fx, rules 1: expressions. -/
namespace Fx
open PySem PySem.Spec PyProof.Rows L2
section
variable {S : Type} {C : CI} {HK : HandK S} {X : Cx} {W : WX} {e e2 e3 : Expr} {es : List Expr} {pos : Pos}

theorem ev_c {d : D} {v : V} (h : PE X e (tC v)) (r : ∀ G, Rep C G d v) : EV C HK X W e (eC d) :=
  PE.of h fun σ H Q ⟨F, G, ρ, s, rel, p⟩ => p.here rel (r G)
theorem ev_int {i : Int} {j : Nat} : EV C HK X W (.Constant (.int i) j pos) (eC (.int i)) := ev_c pe_int fun _ => .int _
theorem ev_bl {b : Bool} {j : Nat} : EV C HK X W (.Constant (.bool b) j pos) (eC (.bl b)) := ev_c pe_bl fun _ => .bl _
theorem ev_non {j : Nat} : EV C HK X W (.Constant .none j pos) (eC .non) := ev_c pe_non fun _ => .non
theorem ev_str {x : PySem.Str} {y : List Nat} {j : Nat} (h : x = ⟨y.toArray⟩) : EV C HK X W (.Constant (.str x) j pos) (eC (.str y)) := ev_c pe_str fun _ => by rw [h]; exact .str _
/-- a module's constant -/
theorem ev_glob {x : PySem.Str} {d : D} {v : V} {u : Value} (hg : Gl X x) (hm : X.mg x = some u) (r : RelV v u) (q : ∀ G, Rep C G d v) (hd : (x == ("__debug__" : PySem.Str)) = false := by decide) : EV C HK X W (.Name x pos) (eC d) := ev_c (pe_glob hg hm r hd) q

/-- a name that holds a value for good -/
theorem ev_var (i : Nat) {x : PySem.Str} (h : PE X (.Name x pos) (tVar i)) : EV C HK X W (.Name x pos) (eVar i) := PE.of h fun σ H Q ⟨F, G, ρ, s, rel, p⟩ => by
  unfold eVar at p
  cases q : ρ[i]? with
  | none => rw [q] at p; exact p.elim
  | some lv =>
    rw [q] at p
    have z := rel.slot i lv q
    cases lv with
    | val d =>
      obtain ⟨v, e1, r⟩ := z
      exact ⟨v, e1, p.here rel r⟩
    | un => exact p.elim
    | own _ => exact p.elim
    | ownd _ => exact p.elim
    | slf _ _ => exact p.elim
    | hnd => exact p.elim
    | fnn => exact p.elim
    | exn _ => exact p.elim
/-- a name, its list or dict borrowed -/
theorem eb_var (i : Nat) {x : PySem.Str} (h : PE X (.Name x pos) (tVar i)) : EB C HK X W (.Name x pos) (bVar i) := PE.of h fun σ H Q ⟨F, G, ρ, s, rel, p⟩ => by
  unfold bVar at p
  cases q : ρ[i]? with
  | none => rw [q] at p; exact p.elim
  | some lv =>
    rw [q] at p
    have z := rel.slot i lv q
    cases lv with
    | val d =>
      obtain ⟨v, e1, r⟩ := z
      exact ⟨v, e1, p.here rel (Or.inl r)⟩
    | un => exact p.elim
    | own l =>
      obtain ⟨a, vs, e1, e2, r, _, _, n⟩ := z
      exact ⟨_, e1, p.here rel (Or.inr (Or.inl ⟨a, l, vs, rfl, rfl, e2, n, r⟩))⟩
    | ownd l =>
      obtain ⟨a, vs, e1, e2, r, _, _, n⟩ := z
      exact ⟨_, e1, p.here rel (Or.inr (Or.inr ⟨a, l, vs, rfl, rfl, e2, n, r⟩))⟩
    | slf _ _ => exact p.elim
    | hnd => exact p.elim
    | fnn => exact p.elim
    | exn _ => exact p.elim
/-- weaker looks at what comes -/
theorem Post.imp {α β : Type} {F : Fix} {G H : Hp} {σ : L2.St} {RR RR' : Hp → Hp → α → β → Prop} {r : R S α} {Q : β → Hp → Prop} (p : Post C HK W F G H σ RR r Q) (h : ∀ G' H' a b, Sub G' H' → RR' G' H' a b → RR G' H' a b) : Post C HK W F G H σ RR' r Q := by
  cases r with
  | ok a s' => exact fun b H' G' n q => p b H' G' n (h _ _ _ _ n.ext.le q)
  | exc x s' => exact p
  | bad => exact p
theorem Post.imp' {α β : Type} {F : Fix} {G H : Hp} {σ : L2.St} {RR : Hp → Hp → α → β → Prop} {r : R S α} {Q Q' : β → Hp → Prop} (p : Post C HK W F G H σ RR r Q) (h : ∀ b H', Q b H' → Q' b H') : Post C HK W F G H σ RR r Q' := by
  cases r with
  | ok a s' => exact fun b H' G' n q => h _ _ (p b H' G' n q)
  | exc x s' => exact p
  | bad => exact p
theorem eb_of {f : E S} (h : EV C HK X W e f) : EB C HK X W e f := PE.of h fun σ H Q ⟨F, G, ρ, s, rel, p⟩ => ⟨F, G, ρ, s, rel, p.imp fun _ _ _ _ _ q => Or.inl q⟩
theorem BRep.rep {HA : List Addr} {G H : Hp} (s : Sub G H) {d : D} {v : V} (b : BRep C HA G H d v) : Rep C H d v := by
  rcases b with b | ⟨a, l, vs, rfl, rfl, e, _, r⟩ | ⟨a, l, es, rfl, rfl, e, _, r⟩
  · exact Rep.mono s _ _ b
  · exact .lst e (Reps.mono s _ _ r)
  · exact .dctE e (RepE.mono s _ _ r)
/-- a borrowed value stays what it is through an expression -/
theorem BRep.keep {HA : List Addr} {G H G' H' : Hp} (x : Ext HA G H G' H') {d : D} {v : V} (b : BRep C HA G H d v) : BRep C HA G' H' d v := by
  rcases b with b | ⟨a, l, vs, rfl, rfl, e, n, r⟩ | ⟨a, l, es, rfl, rfl, e, n, r⟩
  · exact .inl (Rep.mono x.sub _ _ b)
  · exact .inr (.inl ⟨a, l, vs, rfl, rfl, x.kp _ _ e n, n, Reps.mono x.sub _ _ r⟩)
  · exact .inr (.inr ⟨a, l, es, rfl, rfl, x.kp _ _ e n, n, RepE.mono x.sub _ _ r⟩)

theorem BRep.tup {HA : List Addr} {G H : Hp} {l : List D} {v : V} (b : BRep C HA G H (.tup l) v) : ∃ a xs, v = .ref a ∧ G a = some (.tup xs) ∧ Reps C G l xs := by
  rcases b with b | ⟨a, l, vs, e0, _⟩ | ⟨a, l, es, e0, _⟩
  · cases b with | tup a b => exact ⟨_, _, rfl, a, b⟩
  · cases e0
  · cases e0
theorem BRep.lst {HA : List Addr} {G H : Hp} (s : Sub G H) {l : List D} {v : V} (b : BRep C HA G H (.lst l) v) : ∃ a xs, v = .ref a ∧ H a = some (.lst xs) ∧ Reps C G l xs := by
  rcases b with b | ⟨a, l', vs, e0, e1, e2, _, r⟩ | ⟨a, l, es, e0, _⟩
  · cases b with | lst a b => exact ⟨_, _, rfl, s _ _ a, b⟩
  · cases e0; exact ⟨a, vs, e1, e2, r⟩
  · cases e0
theorem BRep.dct {HA : List Addr} {G H : Hp} (s : Sub G H) {l : List (D × D)} {v : V} (b : BRep C HA G H (.dct l) v) : ∃ a es, v = .ref a ∧ H a = some (dicO a es) ∧ RepE C G l es := by
  rcases b with b | ⟨a, l', vs, e0, _⟩ | ⟨a, l', es, e0, e1, e2, _, r⟩
  · cases b with | dct a k b => exact ⟨_, _, rfl, s _ _ a, k, b⟩
  · cases e0
  · cases e0; exact ⟨a, es, e1, e2, r⟩

/-! ### two-place operations -/
/-- an operation on data is what a rule says of values; the rule is asked of borrowed values -/
def Op2 (C : CI) (HK : HandK S) (W : WX) (r : R2) (op : D → D → Option D) : Prop := ∀ (F : Fix) (G H : Hp) (ρ : Env) (s : S) (σ : L2.St) (a b : D) (x y : V) (Q : VK), Rel C HK F G ρ s σ H → BRep C F.HA G H a x → BRep C F.HA G H b y →
  Post C HK W F G H σ (RRe C F ρ σ H) (R.opt (op a b) s) Q → r x y H Q
theorem op2_or {r r' : R2} {op op' dop : D → D → Option D} (h : Op2 C HK W r op) (h' : Op2 C HK W r' op') (hd : ∀ a b d, dop a b = some d → op a b = some d ∨ op' a b = some d) : Op2 C HK W (fun x y H Q => r x y H Q ∨ r' x y H Q) dop := fun F G H ρ s σ a b x y Q rel ra rb p => by
  cases q : dop a b with
  | none => rw [q] at p; exact p.elim
  | some d =>
    rw [q] at p
    rcases hd a b d q with z | z
    · exact .inl (h F G H ρ s σ a b x y Q rel ra rb (by rw [z]; exact p))
    · exact .inr (h' F G H ρ s σ a b x y Q rel ra rb (by rw [z]; exact p))
theorem op2_int {Cc : Int → Int → Prop} {g : Int → Int → V} {dop : D → D → Option D} (h : ∀ a b d, dop a b = some d → ∃ i j, a = .int i ∧ b = .int j ∧ Cc i j ∧ ∀ G, Rep C G d (g i j)) : Op2 C HK W (rI Cc g) dop := fun F G H ρ s σ a b x y Q rel ra rb p => by
  cases q : dop a b with
  | none => rw [q] at p; exact p.elim
  | some d =>
    rw [q] at p
    obtain ⟨i, j, rfl, rfl, c, r⟩ := h a b d q
    cases ra.rep rel.le
    cases rb.rep rel.le
    exact ⟨i, j, rfl, rfl, c, p.here rel (r G)⟩
theorem op2_int0 {g : Int → Int → V} {dop : D → D → Option D} (h : ∀ a b d, dop a b = some d → ∃ i j, a = .int i ∧ b = .int j ∧ ∀ G, Rep C G d (g i j)) : Op2 C HK W (rI0 g) dop := fun F G H ρ s σ a b x y Q rel ra rb p => by
  cases q : dop a b with
  | none => rw [q] at p; exact p.elim
  | some d =>
    rw [q] at p
    obtain ⟨i, j, rfl, rfl, r⟩ := h a b d q
    cases ra.rep rel.le
    cases rb.rep rel.le
    exact ⟨i, j, rfl, rfl, p.here rel (r G)⟩
def dAddI (a b : D) : Option D := match a, b with
  | .int i, .int j => some (.int (i + j))
  | _, _ => none
def dAddT (a b : D) : Option D := match a, b with
  | .tup l, .tup m => if Nat.ble (l.length + m.length) lim then some (.tup (l ++ m)) else none
  | _, _ => none
theorem so_addI : Op2 C HK W (rI0 fun i j => .int (i + j)) dAddI := op2_int0 fun a b d h => by
  cases a <;> cases b <;> first | cases h; done | skip
  simp only [dAddI, Option.some.injEq] at h; subst h
  exact ⟨_, _, rfl, rfl, fun _ => .int _⟩
theorem lim_line {n : Nat} (h : Nat.ble n lim = true) : n ≤ sizeLine := by
  have := Nat.le_of_ble_eq_true h
  rw [sizeLine_eq]; exact this
theorem so_addT {K : PySem.W.Frag} : Op2 C HK W (rCatA K) dAddT := fun F G H ρ s σ a b x y Q rel ra rb p => by
  cases a <;> first | exact p.elim | skip
  cases b <;> first | exact p.elim | skip
  rename_i l m
  obtain ⟨a, xs, rfl, a1, a2⟩ := ra.tup
  obtain ⟨b, ys, rfl, b1, b2⟩ := rb.tup
  simp only [dAddT] at p
  by_cases hl : Nat.ble (l.length + m.length) lim = true
  · rw [if_pos hl] at p
    have hz := lim_line hl
    rw [Reps.length a2, Reps.length b2] at hz
    refine ⟨a, b, xs, ys, rfl, rfl, SqT.of (rel.le _ _ a1), SqT.of (rel.le _ _ b1), hz, fun e => ?_, fun e1 e2 => ?_, fun e1 e2 q n => ?_⟩
    · subst e
      cases a2
      exact p.here rel (.tup b1 b2)
    · subst e2
      cases b2
      exact p.here rel (show Rep C G (.tup (l ++ [])) _ by rw [List.append_nil]; exact .tup a1 a2)
    · have x := rel.newG (o := .tup (xs ++ ys)) n
      exact p _ _ _ x (.tup upd_same (Reps.mono x.ext.sub _ _ (Reps.append a2 b2)))
  · rw [if_neg hl] at p; exact p.elim
def so_add {K : PySem.W.Frag} : Op2 C HK W (fun x y H Q => rI0 (fun i j => .int (i + j)) x y H Q ∨ rCatA K x y H Q) dAdd := op2_or so_addI so_addT fun a b d h => by
  cases a <;> cases b <;> first | (cases h; done) | exact .inl h | exact .inr h
theorem so_sub : Op2 C HK W (rI0 fun i j => .int (i - j)) dSub := op2_int0 fun a b d h => by
  cases a <;> cases b <;> first | cases h; done | skip
  simp only [dSub, Option.some.injEq] at h; subst h
  exact ⟨_, _, rfl, rfl, fun _ => .int _⟩
theorem small_iff {i : Int} (h : small i = true) : -(2 ^ 64) < i ∧ i < 2 ^ 64 := by
  unfold small at h
  rw [Bool.and_eq_true, decide_eq_true_eq, decide_eq_true_eq] at h
  exact h
theorem so_mul : Op2 C HK W (rI CMul fun i j => .int (i * j)) dMul := op2_int fun a b d h => by
  cases a <;> cases b <;> first | cases h; done | skip
  rename_i i j
  simp only [dMul] at h
  by_cases q : (small i || small j) = true
  · rw [if_pos q, Option.some.injEq] at h; subst h
    refine ⟨i, j, rfl, rfl, ?_, fun _ => .int _⟩
    rw [Bool.or_eq_true] at q
    exact q.imp small_iff small_iff
  · rw [if_neg q] at h; cases h
theorem so_fdiv : Op2 C HK W (rI CDiv fun i j => .int (i / j)) dFdiv := op2_int fun a b d h => by
  cases a <;> cases b <;> first | cases h; done | skip
  rename_i i j
  simp only [dFdiv] at h
  by_cases q : (decide (0 < j) && decide (j < 1073741824)) = true
  · rw [if_pos q, Option.some.injEq] at h; subst h
    rw [Bool.and_eq_true, decide_eq_true_eq, decide_eq_true_eq] at q
    exact ⟨i, j, rfl, rfl, q, fun _ => .int _⟩
  · rw [if_neg q] at h; cases h
theorem so_mod : Op2 C HK W (rI (fun _ j => 0 < j) fun i j => .int (i % j)) dMod := op2_int fun a b d h => by
  cases a <;> cases b <;> first | cases h; done | skip
  rename_i i j
  simp only [dMod] at h
  by_cases q : decide (0 < j) = true
  · rw [if_pos q, Option.some.injEq] at h; subst h
    exact ⟨i, j, rfl, rfl, of_decide_eq_true q, fun _ => .int _⟩
  · rw [if_neg q] at h; cases h
theorem so_pow : Op2 C HK W (rI CPow fun i j => .int (i ^ j.toNat)) dPow := op2_int fun a b d h => by
  cases a <;> cases b <;> first | cases h; done | skip
  rename_i i j
  simp only [dPow] at h
  by_cases q : (decide (0 ≤ j) && decide (j ≤ 1000000) && decide (i.natAbs < 2 ^ 64)) = true
  · rw [if_pos q, Option.some.injEq] at h; subst h
    rw [Bool.and_eq_true, Bool.and_eq_true, decide_eq_true_eq, decide_eq_true_eq, decide_eq_true_eq] at q
    exact ⟨i, j, rfl, rfl, ⟨q.1.1, q.1.2, q.2⟩, fun _ => .int _⟩
  · rw [if_neg q] at h; cases h
theorem so_shl : Op2 C HK W (rI CPow fun i j => .int (i * 2 ^ j.toNat)) dShl := op2_int fun a b d h => by
  cases a <;> cases b <;> first | cases h; done | skip
  rename_i i j
  simp only [dShl] at h
  by_cases q : (decide (0 ≤ j) && decide (j ≤ 1000000) && decide (i.natAbs < 2 ^ 64)) = true
  · rw [if_pos q, Option.some.injEq] at h; subst h
    rw [Bool.and_eq_true, Bool.and_eq_true, decide_eq_true_eq, decide_eq_true_eq, decide_eq_true_eq] at q
    exact ⟨i, j, rfl, rfl, ⟨q.1.1, q.1.2, q.2⟩, fun _ => .int _⟩
  · rw [if_neg q] at h; cases h
theorem so_gt : Op2 C HK W (rI0 fun i j => .bl (decide (j < i))) dGt := op2_int0 fun a b d h => by
  cases a <;> cases b <;> first | cases h; done | skip
  simp only [dGt, Option.some.injEq] at h; subst h
  exact ⟨_, _, rfl, rfl, fun _ => .bl _⟩
theorem so_le : Op2 C HK W (rI0 fun i j => .bl (decide (i ≤ j))) dLe := op2_int0 fun a b d h => by
  cases a <;> cases b <;> first | cases h; done | skip
  simp only [dLe, Option.some.injEq] at h; subst h
  exact ⟨_, _, rfl, rfl, fun _ => .bl _⟩
theorem so_ge : Op2 C HK W (rI0 fun i j => .bl (decide (j ≤ i))) dGe := op2_int0 fun a b d h => by
  cases a <;> cases b <;> first | cases h; done | skip
  simp only [dGe, Option.some.injEq] at h; subst h
  exact ⟨_, _, rfl, rfl, fun _ => .bl _⟩
theorem so_eq {K : PySem.W.Frag} : Op2 C HK W (rEqD K) dEq := fun F G H ρ s σ a b x y Q rel ra rb p => by
  unfold dEq at p
  by_cases q : (D.fine a && D.fine b) = true
  · rw [if_pos q] at p
    rw [Bool.and_eq_true] at q
    obtain ⟨pa, _⟩ := D.fine_iff q.1
    obtain ⟨pb, _⟩ := D.fine_iff q.2
    refine ⟨a.toP, b.toP, Rep.dp _ _ (ra.rep rel.le) pa, Rep.dp _ _ (rb.rep rel.le) pb, D.shaped q.1, D.shaped q.2, ?_⟩
    rw [D.eqvP a b pa pb]
    exact p.here rel (.bl _)
  · rw [if_neg q] at p; exact p.elim
theorem so_ne {K : PySem.W.Frag} : Op2 C HK W (rNeD K) dNe := fun F G H ρ s σ a b x y Q rel ra rb p => by
  unfold dNe at p
  by_cases q : (D.fine a && D.fine b) = true
  · rw [if_pos q] at p
    rw [Bool.and_eq_true] at q
    obtain ⟨pa, _⟩ := D.fine_iff q.1
    obtain ⟨pb, _⟩ := D.fine_iff q.2
    refine ⟨a.toP, b.toP, Rep.dp _ _ (ra.rep rel.le) pa, Rep.dp _ _ (rb.rep rel.le) pb, D.shaped q.1, D.shaped q.2, ?_⟩
    rw [D.eqvP a b pa pb]
    exact p.here rel (.bl _)
  · rw [if_neg q] at p; exact p.elim
/-- x in t, tuples and lists of plain items -/
def rInX (K : PySem.W.Frag) (neg : Bool) : R2 := fun x y H Q => ∃ d ds, Dp K H x d ∧ (Dp K H y (.list ds) ∨ Dp K H y (.tuple ds)) ∧ SeqAt.shaped d = true ∧ PyData.canLayAll0 ds = true ∧ Q (.bl (if neg then !ds.any fun z => PyData.eqv z d else ds.any fun z => PyData.eqv z d)) H
theorem room_inX {d : PyData} {A : Around} {n : Nat} (sd : SeqAt.shaped d = true) (hu : A.units + 65 < cLine) : A.units + 1 + min n d.depth < cLine := by
  have h := SeqAt.depth_of_shaped sd
  have h2 : min n d.depth ≤ d.depth := Nat.min_le_right _ _
  omega
theorem op_inX (hu : X.A.units + 65 < cLine) : OpR X (compareOp .In) (rInX X.K false) := by
  intro pins s σ H x y v u Q I rx ry h
  obtain ⟨d, ds, hd, he, sd, se, q⟩ := h
  obtain ⟨as, r1⟩ := Dp.reads I d x v hd rx
  rcases he with he | he
  · obtain ⟨bs, r2⟩ := Dp.reads I (.list ds) y u he ry
    exact SeqAt.in_list_reads r2 r1 se (SeqAt.canLay_of_shaped sd) (room_inX sd hu) ⟨.bl _, H, I, rfl, q⟩
  · obtain ⟨bs, r2⟩ := Dp.reads I (.tuple ds) y u he ry
    exact SeqAt.in_tuple_reads r2 r1 se (SeqAt.canLay_of_shaped sd) (room_inX sd hu) ⟨.bl _, H, I, rfl, q⟩
theorem op_notInX (hu : X.A.units + 65 < cLine) : OpR X (compareOp .NotIn) (rInX X.K true) := by
  intro pins s σ H x y v u Q I rx ry h
  obtain ⟨d, ds, hd, he, sd, se, q⟩ := h
  obtain ⟨as, r1⟩ := Dp.reads I d x v hd rx
  rcases he with he | he
  · obtain ⟨bs, r2⟩ := Dp.reads I (.list ds) y u he ry
    exact SeqAt.notIn_list_reads r2 r1 se (SeqAt.canLay_of_shaped sd) (room_inX sd hu) ⟨.bl _, H, I, rfl, q⟩
  · obtain ⟨bs, r2⟩ := Dp.reads I (.tuple ds) y u he ry
    exact SeqAt.notIn_tuple_reads r2 r1 se (SeqAt.canLay_of_shaped sd) (room_inX sd hu) ⟨.bl _, H, I, rfl, q⟩
theorem so_inG {K : PySem.W.Frag} {neg : Bool} : Op2 C HK W (rInX K neg) (if neg then dNotIn else dIn) := fun F G H ρ s σ a b x y Q rel ra rb p => by
  have key : ∀ l, (b = .tup l ∨ b = .lst l) → rInX K neg x y H Q := fun l hb => by
    have pb : D.fine b = true ∧ D.fine a = true ∧ ∃ k, Post C HK W F G H σ (RRe C F ρ σ H) (.ok (.bl k) s) Q ∧ k = (if neg then !(l.any fun z => D.eqv z a) else l.any fun z => D.eqv z a) := by
      cases neg with
      | false =>
        rcases hb with rfl | rfl
        all_goals
          simp only [Bool.false_eq_true, if_false, dIn] at p
          split at p
          · rename_i q
            rw [Bool.and_eq_true] at q
            exact ⟨q.2, q.1, _, p, rfl⟩
          · exact p.elim
      | true =>
        rcases hb with rfl | rfl
        all_goals
          simp only [if_true, dNotIn, dIn] at p
          split at p
          · rename_i q
            rw [Bool.and_eq_true] at q
            exact ⟨q.2, q.1, _, p, rfl⟩
          · exact p.elim
    obtain ⟨fb, fa, k, p, rfl⟩ := pb
    obtain ⟨qa, _⟩ := D.fine_iff fa
    obtain ⟨qb, _⟩ := D.fine_iff fb
    have ql : D.plainL l = true := by rcases hb with rfl | rfl <;> exact qb
    refine ⟨a.toP, D.toPL l, Rep.dp _ _ (ra.rep rel.le) qa, ?_, D.shaped fa, D.layL l ql, ?_⟩
    · have := Rep.dp (K := K) _ _ (rb.rep rel.le) qb
      rcases hb with rfl | rfl
      · exact .inr this
      · exact .inl this
    · rw [any_eqv qa ql]
      exact p.here rel (.bl _)
  cases b with
  | tup l => exact key l (.inl rfl)
  | lst l => exact key l (.inr rfl)
  | _ => cases neg <;> exact p.elim
theorem so_in {K : PySem.W.Frag} : Op2 C HK W (rInX K false) dIn := so_inG (neg := false)
theorem so_notIn {K : PySem.W.Frag} : Op2 C HK W (rInX K true) dNotIn := so_inG (neg := true)
/-- t < u -/
def rLtX (C : CI) : R2 := fun x y H Q => ∃ a b, Rep C H a x ∧ Rep C H b y ∧ D.fine a = true ∧ D.plain b = true ∧ D.cmp a b = true ∧ Q (.bl (D.lt a b)) H
theorem op_ltX (hu : X.A.units + 64 < cLine) : OpR X (compareOp .Lt) (rLtX C) := by
  intro pins s σ H x y v u Q I rx ry h
  obtain ⟨a, b, ra, rb, fa, pb, c, q⟩ := h
  obtain ⟨pa, da⟩ := D.fine_iff fa
  exact lt_at I a b x y v u X.A ra rb rx ry pa pb c (by omega) X.prog X.w X.xe _ ⟨.bl _, H, I, rfl, q⟩
theorem so_lt : Op2 C HK W (rLtX C) dLt := fun F G H ρ s σ a b x y Q rel ra rb p => by
  unfold dLt at p
  by_cases q : (D.fine a && D.fine b && D.cmp a b) = true
  · rw [if_pos q] at p
    rw [Bool.and_eq_true, Bool.and_eq_true] at q
    exact ⟨a, b, ra.rep rel.le, rb.rep rel.le, q.1.1, (D.fine_iff q.1.2).1, q.2, p.here rel (.bl _)⟩
  · rw [if_neg q] at p; exact p.elim
/-- a op b -/
theorem eb_bin {op : Operator} {r : R2} {dop : D → D → Option D} {f g : E S} (ho : OpR X (binaryOp op) r) (so : Op2 C HK W r dop) (hf : EB C HK X W e f) (hg : EB C HK X W e2 g) : EV C HK X W (.BinOp e op e2 pos) (eBin dop f g) :=
  PE.of (pe_op ho hf hg) fun σ H Q ⟨F, G, ρ, s, rel, p⟩ => ⟨F, G, ρ, s, rel, by
    refine (Post.step (RR := RRb C F ρ σ H) rel p).imp' fun x H1 ⟨a, s1, G1, rel1, x1, r1, p1⟩ => ?_
    refine ⟨F, G1, ρ, s1, rel1, (Post.step (RR := RRb C F ρ σ H) rel1 p1).imp' fun y H2 ⟨b, s2, G2, rel2, x2, r2, p2⟩ => ?_⟩
    exact so F G2 H2 ρ s2 σ a b x y Q rel2 (r1.keep x2) r2 p2⟩

/-- a cmp b, as a value and as a test -/
theorem ev_cmp {op : CmpOp} {r : R2} {dop : D → D → Option D} {f g : E S} (ho : OpR X (compareOp op) r) (so : Op2 C HK W r dop) (hf : EB C HK X W e f) (hg : EB C HK X W e2 g) (hm : behindInMarks op e2 = false) : EV C HK X W (.Compare e [op] [e2] pos) (eBin dop f g) :=
  PE.of (pe_cmpR ho hf hg hm) fun σ H Q ⟨F, G, ρ, s, rel, p⟩ => ⟨F, G, ρ, s, rel, by
    refine (Post.step (RR := RRb C F ρ σ H) rel p).imp' fun x H1 ⟨a, s1, G1, rel1, x1, r1, p1⟩ => ?_
    refine ⟨F, G1, ρ, s1, rel1, (Post.step (RR := RRb C F ρ σ H) rel1 p1).imp' fun y H2 ⟨b, s2, G2, rel2, x2, r2, p2⟩ => ?_⟩
    exact so F G2 H2 ρ s2 σ a b x y Q rel2 (r1.keep x2) r2 p2⟩
theorem tv_cmp {op : CmpOp} {r : R2} {dop : D → D → Option D} {f g : E S} (ho : OpR X (compareOp op) r) (so : Op2 C HK W r dop) (hf : EB C HK X W e f) (hg : EB C HK X W e2 g) (hm : behindInMarks op e2 = false) : TV C HK X W (.Compare e [op] [e2] pos) (tVal (eBin dop f g)) :=
  PT.of (pt_cmpR ho hf hg hm) fun σ H Q ⟨F, G, ρ, s, rel, p⟩ => ⟨F, G, ρ, s, rel, by
    have p0 := Post.step (RR := RRe C F ρ σ H) rel p
    refine (Post.step (RR := RRb C F ρ σ H) rel p0).imp' fun x H1 ⟨a, s1, G1, rel1, x1, r1, p1⟩ => ?_
    refine ⟨F, G1, ρ, s1, rel1, (Post.step (RR := RRb C F ρ σ H) rel1 p1).imp' fun y H2 ⟨b, s2, G2, rel2, x2, r2, p2⟩ => ?_⟩
    refine so F G2 H2 ρ s2 σ a b x y _ rel2 (r1.keep x2) r2 (p2.imp' fun z H3 ⟨c, s3, G3, rel3, x3, r3, p3⟩ => ?_)
    cases c <;> first | exact p3.elim | skip
    cases r3
    exact ⟨_, rfl, p3.here rel3 rfl⟩⟩
/-- a value that is a bool, as a test -/
theorem tv_val {f : E S} (h : EV C HK X W e f) (he : ∀ whole, isTrue e X.env whole = (do let v ← whole; standAt e.pos; holding [v] (truthy v)) := by intro _; rfl) : TV C HK X W e (tVal f) :=
  PT.of (pt_val h he) fun σ H Q ⟨F, G, ρ, s, rel, p⟩ => ⟨F, G, ρ, s, rel, (Post.step (RR := RRe C F ρ σ H) rel p).imp' fun z H1 ⟨c, s3, G3, rel3, x3, r3, p3⟩ => by
    cases c <;> first | exact p3.elim | skip
    cases r3
    exact ⟨_, rfl, p3.here rel3 rfl⟩⟩
/-- a value's truth -/
theorem tv_tru {f : E S} (h : EB C HK X W e f) (he : ∀ whole, isTrue e X.env whole = (do let v ← whole; standAt e.pos; holding [v] (truthy v)) := by intro _; rfl) : TV C HK X W e (tTru f) :=
  PT.of (pt_truth h he) fun σ H Q ⟨F, G, ρ, s, rel, p⟩ => ⟨F, G, ρ, s, rel, (Post.step (RR := RRb C F ρ σ H) rel p).imp' fun z H1 ⟨c, s3, G3, rel3, x3, r3, p3⟩ => by
    have emp : ∀ {l : List D} {xs : List V}, Reps C G3 l xs → (!l.isEmpty) = !xs.isEmpty := fun {l xs} r => by
      have := Reps.length r
      cases l <;> cases xs <;> first | rfl | (simp at this)
    cases c <;> first | exact p3.elim | skip
    · cases r3.rep rel3.le; exact ⟨false, rfl, p3.here rel3 rfl⟩
    · cases r3.rep rel3.le; exact ⟨_, rfl, p3.here rel3 rfl⟩
    · cases r3.rep rel3.le; exact ⟨_, rfl, p3.here rel3 rfl⟩
    · obtain ⟨a, xs, rfl, q1, q2⟩ := r3.tup
      exact ⟨_, .inr (.inl ⟨xs, SqT.of (rel3.le _ _ q1), (emp q2)⟩), p3.here rel3 rfl⟩
    · obtain ⟨a, xs, rfl, q1, q2⟩ := r3.lst rel3.le
      exact ⟨_, .inl ⟨xs, SqL.of q1, (emp q2)⟩, p3.here rel3 rfl⟩⟩
abbrev WV (C : CI) (HK : HandK S) (X : Cx) (W : WX) (e : Expr) (f : T S) : Prop := PW X e (tT C HK W f)
theorem tv_of {t : T S} (h : WV C HK X W e t) : TV C HK X W e t := h.pt
theorem wv_and1 {t : T S} (h : TV C HK X W e t) : WV C HK X W (.BoolOp .And [e] pos) t := pw_and1 h
theorem wv_or1 {t : T S} (h : TV C HK X W e t) : WV C HK X W (.BoolOp .Or [e] pos) t := pw_or1 h
theorem wv_and {t u : T S} (h : TV C HK X W e t) (k : WV C HK X W (.BoolOp .And (e2 :: es) pos) u) : WV C HK X W (.BoolOp .And (e :: e2 :: es) pos) (tAnd' t u) :=
  PW.of (pw_and h k) fun σ H Q ⟨F, G, ρ, s, rel, p⟩ => ⟨F, G, ρ, s, rel, (Post.step (RR := RRt F ρ σ H) rel p).imp' fun b H1 ⟨c, s1, G1, rel1, x1, r1, p1⟩ => by
    cases r1
    cases b with
    | true => exact (if_pos rfl).mpr ⟨F, G1, ρ, s1, rel1, p1⟩
    | false => exact (if_neg Bool.false_ne_true).mpr (p1.here rel1 rfl)⟩
theorem wv_or {t u : T S} (h : TV C HK X W e t) (k : WV C HK X W (.BoolOp .Or (e2 :: es) pos) u) : WV C HK X W (.BoolOp .Or (e :: e2 :: es) pos) (tOr' t u) :=
  PW.of (pw_or h k) fun σ H Q ⟨F, G, ρ, s, rel, p⟩ => ⟨F, G, ρ, s, rel, (Post.step (RR := RRt F ρ σ H) rel p).imp' fun b H1 ⟨c, s1, G1, rel1, x1, r1, p1⟩ => by
    cases r1
    cases b with
    | true => exact (if_pos rfl).mpr (p1.here rel1 rfl)
    | false => exact (if_neg Bool.false_ne_true).mpr ⟨F, G1, ρ, s1, rel1, p1⟩⟩
theorem tv_not {t : T S} (h : TV C HK X W e t) : TV C HK X W (.UnaryOp .Not e pos) (tNot' t) :=
  PT.of (pt_not h) fun σ H Q ⟨F, G, ρ, s, rel, p⟩ => ⟨F, G, ρ, s, rel, (Post.step (RR := RRt F ρ σ H) rel p).imp' fun b H1 ⟨c, s1, G1, rel1, x1, r1, p1⟩ => by
    cases r1
    exact p1.here rel1 rfl⟩
/-- and, or of bools (the last of any kind), not: as values -/
theorem ev_one {op : BoolOp} {f : E S} (h : EV C HK X W e f) : EV C HK X W (.BoolOp op [e] pos) f := pe_one h
theorem ev_and {f g : E S} (h : EV C HK X W e f) (k : EV C HK X W (.BoolOp .And (e2 :: es) pos) g) : EV C HK X W (.BoolOp .And (e :: e2 :: es) pos) (eAnd f g) :=
  PE.of (pe_and h k) fun σ H Q ⟨F, G, ρ, s, rel, p⟩ => ⟨F, G, ρ, s, rel, (Post.step (RR := RRe C F ρ σ H) rel p).imp' fun x H1 ⟨c, s1, G1, rel1, x1, r1, p1⟩ => by
    cases c <;> first | exact p1.elim | skip
    rename_i b
    cases r1
    refine ⟨b, rfl, ?_⟩
    cases b with
    | true => exact (if_pos rfl).mpr ⟨F, G1, ρ, s1, rel1, p1⟩
    | false => exact (if_neg Bool.false_ne_true).mpr (p1.here rel1 (.bl _))⟩
theorem ev_or {f g : E S} (h : EV C HK X W e f) (k : EV C HK X W (.BoolOp .Or (e2 :: es) pos) g) : EV C HK X W (.BoolOp .Or (e :: e2 :: es) pos) (eOr f g) :=
  PE.of (pe_or h k) fun σ H Q ⟨F, G, ρ, s, rel, p⟩ => ⟨F, G, ρ, s, rel, (Post.step (RR := RRe C F ρ σ H) rel p).imp' fun x H1 ⟨c, s1, G1, rel1, x1, r1, p1⟩ => by
    cases c <;> first | exact p1.elim | skip
    rename_i b
    cases r1
    refine ⟨b, rfl, ?_⟩
    cases b with
    | true => exact (if_pos rfl).mpr (p1.here rel1 (.bl _))
    | false => exact (if_neg Bool.false_ne_true).mpr ⟨F, G1, ρ, s1, rel1, p1⟩⟩
theorem ev_not {f : E S} (h : EV C HK X W e f) : EV C HK X W (.UnaryOp .Not e pos) (eUn dNot f) :=
  PE.of (pe_not h) fun σ H Q ⟨F, G, ρ, s, rel, p⟩ => ⟨F, G, ρ, s, rel, (Post.step (RR := RRe C F ρ σ H) rel p).imp' fun x H1 ⟨c, s1, G1, rel1, x1, r1, p1⟩ => by
    cases c <;> first | exact p1.elim | skip
    cases r1
    exact ⟨_, rfl, p1.here rel1 (.bl _)⟩⟩
theorem ev_neg {f : E S} (h : EV C HK X W e f) : EV C HK X W (.UnaryOp .USub e pos) (eUn dNeg f) :=
  PE.of (pe_un un_neg h) fun σ H Q ⟨F, G, ρ, s, rel, p⟩ => ⟨F, G, ρ, s, rel, (Post.step (RR := RRe C F ρ σ H) rel p).imp' fun x H1 ⟨c, s1, G1, rel1, x1, r1, p1⟩ => by
    cases c <;> first | exact p1.elim | skip
    cases r1
    exact ⟨_, rfl, p1.here rel1 (.int _)⟩⟩
theorem BRep.isN {HA : List Addr} {G H : Hp} {d : D} {v : V} (b : BRep C HA G H d v) : (v = .non) ↔ d = .non := by
  rcases b with b | ⟨a, l, vs, rfl, rfl, _⟩ | ⟨a, l, es, rfl, rfl, _⟩
  · cases b <;> simp
  · simp
  · simp
theorem ev_isN {f : E S} {j : Nat} {p' : Pos} (h : EB C HK X W e f) : EV C HK X W (.Compare e [.Is] [.Constant .none j p'] pos) (eUn dIsN f) :=
  PE.of (pe_cmp (pc_isN h)) fun σ H Q ⟨F, G, ρ, s, rel, p⟩ => ⟨F, G, ρ, s, rel, (Post.step (RR := RRb C F ρ σ H) rel p).imp' fun x H1 ⟨c, s1, G1, rel1, x1, r1, p1⟩ => by
    by_cases hc : c = .non
    · rw [decide_eq_true (r1.isN.mpr hc)]; subst hc; exact p1.here rel1 (.bl _)
    · rw [decide_eq_false fun z => hc (r1.isN.mp z)]; cases c <;> first | exact absurd rfl hc | exact p1.here rel1 (.bl _)⟩
theorem ev_notN {f : E S} {j : Nat} {p' : Pos} (h : EB C HK X W e f) : EV C HK X W (.Compare e [.IsNot] [.Constant .none j p'] pos) (eUn dNotN f) :=
  PE.of (pe_cmp (pc_notN h)) fun σ H Q ⟨F, G, ρ, s, rel, p⟩ => ⟨F, G, ρ, s, rel, (Post.step (RR := RRb C F ρ σ H) rel p).imp' fun x H1 ⟨c, s1, G1, rel1, x1, r1, p1⟩ => by
    by_cases hc : c = .non
    · rw [decide_eq_true (r1.isN.mpr hc)]; subst hc; exact p1.here rel1 (.bl _)
    · rw [decide_eq_false fun z => hc (r1.isN.mp z)]; cases c <;> first | exact absurd rfl hc | exact p1.here rel1 (.bl _)⟩
theorem dIsN_eq {HA : List Addr} {G H : Hp} {d : D} {v : V} (b : BRep C HA G H d v) : dIsN d = some (.bl (decide (v = .non))) := by
  by_cases hc : d = .non
  · rw [decide_eq_true (b.isN.mpr hc)]; subst hc; rfl
  · rw [decide_eq_false fun z => hc (b.isN.mp z)]; cases d <;> first | exact absurd rfl hc | rfl
theorem dNotN_eq {HA : List Addr} {G H : Hp} {d : D} {v : V} (b : BRep C HA G H d v) : dNotN d = some (.bl (!decide (v = .non))) := by
  by_cases hc : d = .non
  · rw [decide_eq_true (b.isN.mpr hc)]; subst hc; rfl
  · rw [decide_eq_false fun z => hc (b.isN.mp z)]; cases d <;> first | exact absurd rfl hc | rfl
theorem tv_isN {f : E S} {j : Nat} {p' : Pos} (h : EB C HK X W e f) : TV C HK X W (.Compare e [.Is] [.Constant .none j p'] pos) (tVal (eUn dIsN f)) :=
  PT.of (pt_cmp (pc_isN h)) fun σ H Q ⟨F, G, ρ, s, rel, p⟩ => ⟨F, G, ρ, s, rel, (Post.step (RR := RRb C F ρ σ H) rel (Post.step (RR := RRe C F ρ σ H) rel p)).imp' fun x H1 ⟨c, s1, G1, rel1, x1, r1, p1⟩ => by
    rw [dIsN_eq r1] at p1
    obtain ⟨d, s2, G2, rel2, _, r2, p2⟩ := Post.here rel1 p1 (.bl _)
    refine ⟨_, rfl, ?_⟩
    cases r2
    exact p2.here rel2 rfl⟩
theorem tv_notN {f : E S} {j : Nat} {p' : Pos} (h : EB C HK X W e f) : TV C HK X W (.Compare e [.IsNot] [.Constant .none j p'] pos) (tVal (eUn dNotN f)) :=
  PT.of (pt_cmp (pc_notN h)) fun σ H Q ⟨F, G, ρ, s, rel, p⟩ => ⟨F, G, ρ, s, rel, (Post.step (RR := RRb C F ρ σ H) rel (Post.step (RR := RRe C F ρ σ H) rel p)).imp' fun x H1 ⟨c, s1, G1, rel1, x1, r1, p1⟩ => by
    rw [dNotN_eq r1] at p1
    obtain ⟨d, s2, G2, rel2, _, r2, p2⟩ := Post.here rel1 p1 (.bl _)
    refine ⟨_, rfl, ?_⟩
    cases r2
    exact p2.here rel2 rfl⟩
/-- a op b op' c -/
theorem ev_chain {op op' : CmpOp} {r r' : R2} {dop dop' : D → D → Option D} {f g h : E S} (ho : OpR X (compareOp op) r) (so : Op2 C HK W r dop) (ho' : OpR X (compareOp op') r') (so' : Op2 C HK W r' dop') (hf : EB C HK X W e f) (hg : EB C HK X W e2 g) (hh : EB C HK X W e3 h)
    (hm : lastMarks [op, op'] [e2, e3] = false := by with_unfolding_all rfl) : EV C HK X W (.Compare e [op, op'] [e2, e3] pos) (eChain dop dop' f g h) :=
  PE.of (pe_chain ho ho' hf hg hh hm) fun σ H Q ⟨F, G, ρ, s, rel, p⟩ => ⟨F, G, ρ, s, rel, by
    refine (Post.step (RR := RRb C F ρ σ H) rel p).imp' fun x H1 ⟨a, s1, G1, rel1, x1, r1, p1⟩ => ?_
    refine ⟨F, G1, ρ, s1, rel1, (Post.step (RR := RRb C F ρ σ H) rel1 p1).imp' fun y H2 ⟨b, s2, G2, rel2, x2, r2, p2⟩ => ?_⟩
    refine so F G2 H2 ρ s2 σ a b x y _ rel2 (r1.keep x2) r2 ((Post.step (RR := RRe C F ρ σ H) rel2 p2).imp' fun z H3 ⟨c, s3, G3, rel3, x3, r3, p3⟩ => ?_)
    cases c <;> first | exact p3.elim | skip
    rename_i k
    cases r3
    refine ⟨k, rfl, ?_⟩
    cases k with
    | false => exact (if_neg Bool.false_ne_true).mpr (p3.here rel3 (.bl _))
    | true =>
      refine (if_pos rfl).mpr ⟨F, G3, ρ, s3, rel3, (Post.step (RR := RRb C F ρ σ H) rel3 p3).imp' fun w H4 ⟨d, s4, G4, rel4, x4, r4, p4⟩ => ?_⟩
      exact so' F G4 H4 ρ s4 σ b d y w Q rel4 ((r2.keep x3).keep x4) r4 p4⟩
theorem ev_if {t : T S} {f g : E S} (ht : TV C HK X W e t) (hf : EV C HK X W e2 f) (hg : EV C HK X W e3 g) : EV C HK X W (.IfExp e e2 e3 pos) (eIf t f g) :=
  PE.of (pe_ifExp ht hf hg) fun σ H Q ⟨F, G, ρ, s, rel, p⟩ => ⟨F, G, ρ, s, rel, (Post.step (RR := RRt F ρ σ H) rel p).imp' fun b H1 ⟨c, s1, G1, rel1, x1, r1, p1⟩ => by
    cases r1
    cases b with
    | true => exact (if_pos rfl).mpr ⟨F, G1, ρ, s1, rel1, p1⟩
    | false => exact (if_neg Bool.false_ne_true).mpr ⟨F, G1, ρ, s1, rel1, p1⟩⟩

/-! ### argument lists, displays -/
theorem av_nil : AV C HK X W [] aNil := PA.of pa_nil fun σ H Q ⟨F, G, ρ, s, rel, p⟩ => p.here rel .nil
theorem av_cons {f : E S} {g : As S} (hf : EV C HK X W e f) (hg : AV C HK X W es g) (hs : starEach (e :: es) X.env = (false, eval e X.env) :: starEach es X.env := by rfl) : AV C HK X W (e :: es) (aCons f g) :=
  PA.of (pa_cons hf hg hs) fun σ H Q ⟨F, G, ρ, s, rel, p⟩ => ⟨F, G, ρ, s, rel, (Post.step (RR := RRe C F ρ σ H) rel p).imp' fun x H1 ⟨a, s1, G1, rel1, x1, r1, p1⟩ =>
    ⟨F, G1, ρ, s1, rel1, (Post.step (RR := RRa C F ρ σ H) rel1 p1).imp' fun xs H2 ⟨as, s2, G2, rel2, x2, r2, p2⟩ => p2.here rel2 (.cons (Rep.mono x2.sub _ _ r1) r2)⟩⟩
theorem ev_tup {g : As S} {k : Nat} (hg : AV C HK X W es g) : EV C HK X W (.Tuple es k pos) (eTup g) :=
  PE.of (pe_tup hg) fun σ H Q ⟨F, G, ρ, s, rel, p⟩ => ⟨F, G, ρ, s, rel, (Post.step (RR := RRa C F ρ σ H) rel p).imp' fun xs H1 ⟨as, s1, G1, rel1, x1, r1, p1⟩ => by
    by_cases hl : Nat.ble as.length lim = true
    · rw [if_pos hl] at p1
      refine ⟨by rw [← Reps.length r1]; exact lim_line hl, fun q n => ?_⟩
      have x := rel1.newG (o := .tup xs) n
      exact p1 _ _ _ x (.tup upd_same (Reps.mono x.ext.sub _ _ r1))
    · rw [if_neg hl] at p1; exact p1.elim⟩
/-- a new list -/
theorem RRf.mk {F : Fix} {G H : Hp} {ρ : Env} {σ : L2.St} {s : S} {q : Addr} {l : List D} {xs : List V} {G0 B : Hp} (rel : Rel C HK F G ρ s σ H) (x : Ext F.HA G0 B G H) (n : H q = none) (r : Reps C G l xs) : RRf C F ρ σ B G (upd H q (.lst xs)) l (.ref q) := by
  obtain ⟨h0, hp, hg⟩ := rel.h0 n
  refine ⟨q, xs, rfl, x.back n hp, upd_same, r, hg, h0, hp, fun i ⟨⟨lv, e1, e2⟩, e3⟩ => ?_⟩
  have z := rel.slot i lv e1
  cases lv with
  | own l =>
    obtain ⟨a, vs, q1, q2, _⟩ := z
    rw [e3] at q1; cases q1
    rw [n] at q2; cases q2
  | ownd l =>
    obtain ⟨a, vs, q1, q2, _⟩ := z
    rw [e3] at q1; cases q1
    rw [n] at q2; cases q2
  | slf c fs =>
    obtain ⟨a, vs, q1, q2, _⟩ := z
    rw [e3] at q1; cases q1
    rw [n] at q2; cases q2
  | _ => cases e2
theorem ef_lst {g : As S} (hg : AV C HK X W es g) : EF C HK X W (.List es pos) (fLst g) :=
  PE.of (pe_lst hg) fun σ H Q ⟨F, G, ρ, s, rel, p⟩ => ⟨F, G, ρ, s, rel, (Post.step (RR := RRa C F ρ σ H) rel p).imp' fun xs H1 ⟨as, s1, G1, rel1, x1, r1, p1⟩ => by
    by_cases hl : Nat.ble as.length lim = true
    · rw [if_pos hl] at p1
      refine ⟨by rw [← Reps.length r1]; exact lim_line hl, fun q n => ?_⟩
      exact p1 _ _ _ (rel1.new (o := .lst xs) n) (RRf.mk rel1 x1 n r1)
    · rw [if_neg hl] at p1; exact p1.elim⟩
/-- kept for good -/
theorem Rel.frz {F : Fix} {G H : Hp} {ρ : Env} {σ : L2.St} {s : S} {a : Addr} {o : HO} (rel : Rel C HK F G ρ s σ H) (e : H a = some o) (g : G a = none) (h0 : F.H0 a = none) (n : a ∉ F.HA) (no : ∀ i, ¬ OwnAt ρ σ i a) : Rel C HK F (upd G a o) ρ s σ H ∧ Sub G (upd G a o) := by
  have sub : Sub G (upd G a o) := fun b u q => by rw [upd_ne (ne_of_none q g)]; exact q
  refine ⟨⟨rel.len, fun i lv q => ?_, rel.sep, fun b u q => ?_, fun b u q => ?_, rel.g0.trans sub, fun b u q => ?_, rel.fr, rel.hand⟩, sub⟩
  · have z := rel.slot i lv q
    cases lv with
    | un => trivial
    | exn _ => exact fun a cls dd e => ⟨(z a cls dd e).1, ExnIs.mono sub (z a cls dd e).2⟩
    | val d => obtain ⟨v, e1, r⟩ := z; exact ⟨v, e1, Rep.mono sub _ _ r⟩
    | own l =>
      obtain ⟨b, vs, e1, e2, r, q1, q2, q3⟩ := z
      exact ⟨b, vs, e1, e2, Reps.mono sub _ _ r, by rw [upd_ne (fun h => no i ⟨⟨_, q, rfl⟩, by rw [e1, h]⟩)]; exact q1, q2, q3⟩
    | ownd l =>
      obtain ⟨b, vs, e1, e2, r, q1, q2, q3⟩ := z
      exact ⟨b, vs, e1, e2, RepE.mono sub _ _ r, by rw [upd_ne (fun h => no i ⟨⟨_, q, rfl⟩, by rw [e1, h]⟩)]; exact q1, q2, q3⟩
    | slf c fs =>
      obtain ⟨b, vs, e1, e2, r, q1, q2, q3⟩ := z
      exact ⟨b, vs, e1, e2, RepI.mono sub _ _ r, by rw [upd_ne (fun h => no i ⟨⟨_, q, rfl⟩, by rw [e1, h]⟩)]; exact q1, q2, q3⟩
    | hnd => exact z
    | fnn => exact z
  · by_cases hb : b = a
    · subst hb; rw [upd_same] at q; cases q; exact e
    · rw [upd_ne hb] at q; exact rel.le b u q
  · by_cases hb : b = a
    · subst hb; exact n
    · rw [upd_ne hb] at q; exact rel.off b u q
  · by_cases hb : b = a
    · subst hb; exact .inr h0
    · rw [upd_ne hb] at q; exact rel.gnew b u q
end
end Fx
set_option Elab.async false
set_option linter.all false
set_option autoImplicit false
set_option maxRecDepth 100000
/-! Fx, rules 2: statements, loops, comprehensions, defs and their calls. -/
namespace Fx
open PySem PySem.Spec PyProof.Rows L2
section
variable {S : Type} {C : CI} {HK : HandK S} {X : Cx} {W : WX} {e e2 e3 : Expr} {es : List Expr} {pos : Pos} {st : Stmt} {sts sts2 : List Stmt}

/-! ### statements -/
theorem PostS.later {F : Fix} {G G1 : Hp} {N : Ends} {r : RS S} (p : PostS C HK W F G N r) (x : Sub G G1) : PostS C HK W F G1 N r := by
  cases r with
  | nx ρ' s' => exact fun σ' H' G' a b => p σ' H' G' a (x.trans b)
  | rt d s' => exact fun v ρ' σ' H' G' a b => p v ρ' σ' H' G' a (x.trans b)
  | bk ρ' s' => exact fun σ' H' G' a b => p σ' H' G' a (x.trans b)
  | ct ρ' s' => exact fun σ' H' G' a b => p σ' H' G' a (x.trans b)
  | exc y ρ' s' => exact fun cls dd σ' H' G' a b => p cls dd σ' H' G' a (x.trans b)
  | bad => exact p
theorem svs_nil : SVs C HK X W [] gNext := PSs.of pss_nil fun N σ H ⟨F, G, ρ, s, rel, p⟩ => p σ H G rel Sub.refl
theorem svs_one {g : Gs S} (h : SV C HK X W st g) : SVs C HK X W [st] g := pss_one h
theorem PostS.seq {F : Fix} {G : Hp} {N : Ends} {g h : Gs S} {ρ : Env} {s : S} (p : PostS C HK W F G N (gSeq g h ρ s)) : PostS C HK W F G { N with nx := tS C HK W h N } (g ρ s) := by
  unfold gSeq at p
  cases q : g ρ s with
  | nx ρ' s' => rw [q] at p; exact fun σ' H' G' a b => ⟨F, G', ρ', s', a, p.later b⟩
  | rt d s' => rw [q] at p; exact p
  | bk ρ' s' => rw [q] at p; exact p
  | ct ρ' s' => rw [q] at p; exact p
  | exc y ρ' s' => rw [q] at p; exact p
  | bad => rw [q] at p; exact p.elim
theorem svs_cons {g h : Gs S} (a : SV C HK X W st g) (b : SVs C HK X W sts h) : SVs C HK X W (st :: sts) (gSeq g h) :=
  PSs.of (pss_cons a b) fun N σ H ⟨F, G, ρ, s, rel, p⟩ => ⟨F, G, ρ, s, rel, PostS.seq p⟩
theorem sv_pass : SV C HK X W (.Pass pos) gNext := PS.of ps_pass fun N σ H ⟨F, G, ρ, s, rel, p⟩ => p σ H G rel Sub.refl
theorem sv_break : SV C HK X W (.Break pos) gBreak := PS.of ps_break fun N σ H ⟨F, G, ρ, s, rel, p⟩ => p σ H G rel Sub.refl
theorem sv_continue : SV C HK X W (.Continue pos) gCont := PS.of ps_continue fun N σ H ⟨F, G, ρ, s, rel, p⟩ => p σ H G rel Sub.refl
/-- an expression's answer, then a statement's -/
theorem PostS.expr {F : Fix} {G H : Hp} {N : Ends} {ρ : Env} {s : S} {σ : L2.St} {r : R S Fx.D} {k : Fx.D → S → RS S} (rel : Rel C HK F G ρ s σ H) (p : PostS C HK W F G N (sEnd r ρ k)) :
    Post C HK W F G H σ (RRe C F ρ σ H) r (fun v H1 => ∃ d s1 G1, Rel C HK F G1 ρ s1 σ H1 ∧ Rep C G1 d v ∧ PostS C HK W F G1 N (k d s1)) := by
  cases r with
  | ok a s1 => exact fun b H1 G1 n q => ⟨a, s1, G1, rel.ext n, q, p.later n.ext.sub⟩
  | exc x s1 => exact fun cls dd H' G' n q => p cls dd σ H' G' (rel.ext n) n.ext.sub q
  | bad => exact p.elim
theorem sv_ret {f : E S} (h : EV C HK X W e f) : SV C HK X W (.Return (some e) pos) (gRet f) :=
  PS.of (ps_ret h) fun N σ H ⟨F, G, ρ, s, rel, p⟩ => ⟨F, G, ρ, s, rel, (PostS.expr rel p).imp' fun v H1 ⟨d, s1, G1, rel1, r1, p1⟩ => p1 v ρ σ H1 G1 rel1 Sub.refl r1⟩
theorem sv_retN : SV C HK X W (.Return none pos) gRetN := PS.of ps_retN fun N σ H ⟨F, G, ρ, s, rel, p⟩ => p .non ρ σ H G rel Sub.refl .non
theorem sv_drop {f : E S} (h : EV C HK X W e f) (hs : swapsWith e none pos.line X.env = pure false := by rfl) : SV C HK X W (.Expr e pos) (gDrop f) :=
  PS.of (ps_expr h hs) fun N σ H ⟨F, G, ρ, s, rel, p⟩ => ⟨F, G, ρ, s, rel, (PostS.expr rel p).imp' fun v H1 ⟨d, s1, G1, rel1, r1, p1⟩ => p1 σ H1 G1 rel1 Sub.refl⟩
theorem sv_if {t : T S} {g h : Gs S} (ht : TV C HK X W e t) (hg : SVs C HK X W sts g) (hh : SVs C HK X W sts2 h) : SV C HK X W (.If e sts sts2 pos) (gIf t g h) :=
  PS.of (ps_if ht hg hh) fun N σ H ⟨F, G, ρ, s, rel, p⟩ => ⟨F, G, ρ, s, rel, by
    unfold gIf at p
    cases q : t ρ s with
    | ok b s1 =>
      rw [q] at p
      intro c H1 G1 n rr
      cases rr
      cases b with
      | true => exact (if_pos rfl).mpr ⟨F, G1, ρ, s1, rel.ext n, PostS.later p n.ext.sub⟩
      | false => exact (if_neg Bool.false_ne_true).mpr ⟨F, G1, ρ, s1, rel.ext n, PostS.later p n.ext.sub⟩
    | exc x s1 => rw [q] at p; exact fun cls dd H' G' n r => p cls dd σ H' G' (rel.ext n) n.ext.sub r
    | bad => rw [q] at p; exact p.elim⟩

/-! ### stores to names -/
theorem set_at {α : Type} {l : List α} {i j : Nat} {x y : α} (h : (l.set i x)[j]? = some y) : (j = i ∧ y = x) ∨ (j ≠ i ∧ l[j]? = some y) := by
  by_cases e : j = i
  · subst e
    by_cases hl : j < l.length
    · rw [List.getElem?_set_self hl] at h; exact .inl ⟨rfl, (Option.some.inj h).symm⟩
    · rw [List.getElem?_eq_none (by rw [List.length_set]; omega)] at h; cases h
  · rw [List.getElem?_set_ne (Ne.symm e)] at h; exact .inr ⟨e, h⟩
/-- a name gets a value for good -/
theorem Rel.setV {F : Fix} {G H : Hp} {ρ : Env} {σ : L2.St} {s : S} {i : Nat} {d : Fx.D} {v : V} (rel : Rel C HK F G ρ s σ H) (r : Rep C G d v) : Rel C HK F G (ρ.set i (.val d)) s (σ.set i (some v)) H where
  len := by rw [List.length_set, List.length_set]; exact rel.len
  slot := fun j lv e => by
    rcases set_at e with ⟨rfl, rfl⟩ | ⟨ne, e⟩
    · have hj : j < ρ.length := by
        have := (List.getElem?_eq_some_iff.mp e).1
        rwa [List.length_set] at this
      exact ⟨v, List.getElem?_set_self (by rw [rel.len]; exact hj), r⟩
    · rw [List.getElem?_set_ne (Ne.symm ne)]; exact rel.slot j lv e
  sep := fun a b c ⟨⟨l1, e1, o1⟩, f1⟩ ⟨⟨l2, e2, o2⟩, f2⟩ => by
    rcases set_at e1 with ⟨rfl, rfl⟩ | ⟨n1, e1⟩
    · cases o1
    · rcases set_at e2 with ⟨rfl, rfl⟩ | ⟨n2, e2⟩
      · cases o2
      · rw [List.getElem?_set_ne (Ne.symm n1)] at f1
        rw [List.getElem?_set_ne (Ne.symm n2)] at f2
        exact rel.sep a b c ⟨⟨l1, e1, o1⟩, f1⟩ ⟨⟨l2, e2, o2⟩, f2⟩
  le := rel.le
  off := rel.off
  g0 := rel.g0
  gnew := rel.gnew
  fr := rel.fr
  hand := rel.hand
/-- a name gets a list or a dict that nobody has -/
theorem Rel.setO {F : Fix} {G H : Hp} {ρ : Env} {σ : L2.St} {s : S} {i : Nat} {lv : LV} {a : Addr} (rel : Rel C HK F G ρ s σ H) (ok : SlotOk C HK.ea F G H lv (some (some (.ref a)))) (no : ∀ j, ¬ OwnAt ρ σ j a) : Rel C HK F G (ρ.set i lv) s (σ.set i (some (.ref a))) H where
  len := by rw [List.length_set, List.length_set]; exact rel.len
  slot := fun j lv' e => by
    rcases set_at e with ⟨rfl, rfl⟩ | ⟨ne, e⟩
    · have hj : j < ρ.length := by
        have := (List.getElem?_eq_some_iff.mp e).1
        rwa [List.length_set] at this
      rw [List.getElem?_set_self (by rw [rel.len]; exact hj)]
      exact ok
    · rw [List.getElem?_set_ne (Ne.symm ne)]; exact rel.slot j lv' e
  sep := fun b c q ⟨⟨l1, e1, o1⟩, f1⟩ ⟨⟨l2, e2, o2⟩, f2⟩ => by
    rcases set_at f1 with ⟨rfl, h1⟩ | ⟨n1, f1'⟩
    · rcases set_at f2 with ⟨rfl, h2⟩ | ⟨n2, f2'⟩
      · rfl
      · rw [List.getElem?_set_ne (Ne.symm n2)] at e2
        cases h1
        exact absurd ⟨⟨l2, e2, o2⟩, f2'⟩ (no c)
    · rcases set_at f2 with ⟨rfl, h2⟩ | ⟨n2, f2'⟩
      · rw [List.getElem?_set_ne (Ne.symm n1)] at e1
        cases h2
        exact absurd ⟨⟨l1, e1, o1⟩, f1'⟩ (no b)
      · rw [List.getElem?_set_ne (Ne.symm n1)] at e1
        rw [List.getElem?_set_ne (Ne.symm n2)] at e2
        exact rel.sep b c q ⟨⟨l1, e1, o1⟩, f1'⟩ ⟨⟨l2, e2, o2⟩, f2'⟩
  le := rel.le
  off := rel.off
  g0 := rel.g0
  gnew := rel.gnew
  fr := rel.fr
  hand := rel.hand
theorem PostS.exprF {F : Fix} {G H : Hp} {N : Ends} {ρ : Env} {s : S} {σ : L2.St} {i : Nat} {f : As S} (rel : Rel C HK F G ρ s σ H) (p : PostS C HK W F G N (gSetF i f ρ s)) :
    Post C HK W F G H σ (RRf C F ρ σ H) (f ρ s) (fun v H1 => N.nx (σ.set i (some v)) H1) := by
  unfold gSetF at p
  cases q : f ρ s with
  | ok l s1 =>
    rw [q] at p
    intro v H1 G1 n ⟨a, vs, e1, _, e2, e3, e4, e5, e6, no⟩
    subst e1
    exact p _ H1 G1 ((rel.ext n).setO ⟨a, vs, rfl, e2, e3, e4, e5, e6⟩ no) n.ext.sub
  | exc x s1 => rw [q] at p; exact fun cls dd H' G' n r => p cls dd σ H' G' (rel.ext n) n.ext.sub r
  | bad => rw [q] at p; exact p.elim
theorem sv_set {i : Nat} {x : PySem.Str} {f : E S} {pos' : Pos} (h : EV C HK X W e f) (hN : X.N.Nodup) (hi : X.N[i]? = some x) (hx : Loc X.env.scope x) (hs : swapsWith e (some (.Name x pos')) pos.line X.env = pure false := by rfl) (hf : X.fn x = true ∨ X.env.scope.names.lookup x = some .local := by first | exact .inl rfl | exact .inr rfl | assumption) :
    SV C HK X W (.Assign [.Name x pos'] e pos) (gSet i f) :=
  PS.of (ps_set hN hi hx h hs hf) fun N σ H ⟨F, G, ρ, s, rel, p⟩ => ⟨F, G, ρ, s, rel, (PostS.expr rel p).imp' fun v H1 ⟨d, s1, G1, rel1, r1, p1⟩ => p1 _ H1 G1 (rel1.setV r1) Sub.refl⟩
theorem sv_setF {i : Nat} {x : PySem.Str} {f : As S} {pos' : Pos} (h : EF C HK X W e f) (hN : X.N.Nodup) (hi : X.N[i]? = some x) (hx : Loc X.env.scope x) (hs : swapsWith e (some (.Name x pos')) pos.line X.env = pure false := by rfl) (hf : X.fn x = true ∨ X.env.scope.names.lookup x = some .local := by first | exact .inl rfl | exact .inr rfl | assumption) :
    SV C HK X W (.Assign [.Name x pos'] e pos) (gSetF i f) :=
  PS.of (ps_set hN hi hx h hs hf) fun N σ H ⟨F, G, ρ, s, rel, p⟩ => ⟨F, G, ρ, s, rel, PostS.exprF rel p⟩
/-- a new list, kept for good at once -/
theorem ev_of {f : As S} (h : EF C HK X W e f) : EV C HK X W e (eOf f) :=
  PE.of h fun σ H Q ⟨F, G, ρ, s, rel, p⟩ => ⟨F, G, ρ, s, rel, by
    unfold eOf at p
    cases q : f ρ s with
    | ok l s1 =>
      rw [q] at p
      intro v H1 G1 n ⟨a, vs, e1, e0, e2, e3, e4, e5, e6, no⟩
      subst e1
      have sub : Sub G1 (upd G1 a (.lst vs)) := fun b u q => by rw [upd_ne (ne_of_none q e4)]; exact q
      refine p _ H1 (upd G1 a (.lst vs)) ⟨⟨n.ext.sub.trans sub, fun b u z => ?_, n.ext.kp, fun b u z => ?_, fun b u z => ?_⟩, n.hand⟩ (.lst upd_same (Reps.mono sub _ _ e3))
      · by_cases hb : b = a
        · subst hb; exact .inr e0
        · rw [upd_ne hb] at z; exact n.ext.new b u z
      · by_cases hb : b = a
        · subst hb; exact e6
        · rw [upd_ne hb] at z; exact n.ext.off b u z
      · by_cases hb : b = a
        · subst hb; rw [upd_same] at z; cases z; exact e2
        · rw [upd_ne hb] at z; exact n.ext.le b u z
    | exc x s1 => rw [q] at p; exact p
    | bad => rw [q] at p; exact p.elim⟩

/-! ### a name's own list is changed -/
theorem Rel.updOwn {F : Fix} {G H : Hp} {ρ : Env} {σ : L2.St} {s : S} {i : Nat} {lv : LV} {a : Addr} {o : HO} (rel : Rel C HK F G ρ s σ H) (own : OwnAt ρ σ i a) (g : G a = none) (h0 : F.H0 a = none) (n : a ∉ F.HA) (isO : lv.isOwn = true)
    (ok : SlotOk C HK.ea F G (upd H a o) lv (some (some (.ref a)))) : Rel C HK F G (ρ.set i lv) s σ (upd H a o) := by
  have hi : i < ρ.length := by
    obtain ⟨⟨lv, e, _⟩, _⟩ := own
    exact (List.getElem?_eq_some_iff.mp e).1
  refine ⟨by rw [List.length_set]; exact rel.len, fun j lv' e => ?_, fun b c q ⟨⟨l1, e1, o1⟩, f1⟩ ⟨⟨l2, e2, o2⟩, f2⟩ => ?_, fun b u e => ?_, rel.off, rel.g0, rel.gnew, fun b u e m => ?_, ?_⟩
  · rcases set_at e with ⟨rfl, rfl⟩ | ⟨ne, e⟩
    · rw [own.2]; exact ok
    · have z := rel.slot j lv' e
      cases lv' with
      | un => trivial
      | exn _ => exact z
      | val d => exact z
      | own l =>
        obtain ⟨b, vs, q1, q2, q3, q4, q5, q6⟩ := z
        have hb : b ≠ a := fun h => ne (rel.sep j i a ⟨⟨_, e, rfl⟩, by rw [q1, h]⟩ own)
        exact ⟨b, vs, q1, by rw [upd_ne hb]; exact q2, q3, q4, q5, q6⟩
      | ownd l =>
        obtain ⟨b, vs, q1, q2, q3, q4, q5, q6⟩ := z
        have hb : b ≠ a := fun h => ne (rel.sep j i a ⟨⟨_, e, rfl⟩, by rw [q1, h]⟩ own)
        exact ⟨b, vs, q1, by rw [upd_ne hb]; exact q2, q3, q4, q5, q6⟩
      | slf c fs =>
        obtain ⟨b, vs, q1, q2, q3, q4, q5, q6⟩ := z
        have hb : b ≠ a := fun h => ne (rel.sep j i a ⟨⟨_, e, rfl⟩, by rw [q1, h]⟩ own)
        exact ⟨b, vs, q1, by rw [upd_ne hb]; exact q2, q3, q4, q5, q6⟩
      | hnd => exact z
      | fnn => exact z
  · have own' : ∀ j lv', (ρ.set i lv)[j]? = some lv' → lv'.isOwn = true → σ[j]? = some (some (.ref q)) → OwnAt ρ σ j q := fun j lv' e o f => by
      rcases set_at e with ⟨rfl, rfl⟩ | ⟨ne, e⟩
      · obtain ⟨w, _⟩ := own
        exact ⟨w, f⟩
      · exact ⟨⟨_, e, o⟩, f⟩
    exact rel.sep b c q (own' _ _ e1 o1 f1) (own' _ _ e2 o2 f2)
  · rw [upd_ne (ne_of_none e g)]; exact rel.le b u e
  · rw [upd_ne (ne_of_none e h0)]; exact rel.fr b u e m
  · refine HK.loc _ _ _ _ rel.hand (fun b hb => upd_ne fun z => n (z ▸ hb)) fun b q e => ?_
    by_cases hb : b = a
    · subst hb
      obtain ⟨⟨l1, e1, o1⟩, f1⟩ := own
      have z := rel.slot i _ e1
      rw [f1] at z
      cases l1 with
      | own l => obtain ⟨c, vs, q1, q2, _⟩ := z; cases q1; rw [e] at q2; cases q2
      | ownd l => obtain ⟨c, vs, q1, q2, _⟩ := z; cases q1; rw [e] at q2; exact absurd (Option.some.inj q2).symm (dicO_code _ _ _)
      | slf l m => obtain ⟨c, vs, q1, q2, _⟩ := z; cases q1; rw [e] at q2; cases q2
      | _ => cases o1
    · rw [upd_ne hb]; exact e
/-- where a name's own list lies -/
theorem Rel.own {F : Fix} {G H : Hp} {ρ : Env} {σ : L2.St} {s : S} {i : Nat} {l : List Fx.D} (rel : Rel C HK F G ρ s σ H) (e : ρ[i]? = some (.own l)) :
    ∃ a vs, σ[i]? = some (some (.ref a)) ∧ H a = some (.lst vs) ∧ Reps C G l vs ∧ G a = none ∧ F.H0 a = none ∧ a ∉ F.HA ∧ OwnAt ρ σ i a := by
  obtain ⟨a, vs, q1, q2, q3, q4, q5, q6⟩ := rel.slot i _ e
  exact ⟨a, vs, q1, q2, q3, q4, q5, q6, ⟨_, e, rfl⟩, q1⟩
theorem sv_app {i : Nat} {x : PySem.Str} {f : E S} {p1 p2 p3 : Pos} (hv : PE X (.Name x p1) (tVar i)) (hf : EV C HK X W e f)
    (hs : swapsWith (.Call (.Attribute (.Name x p1) "append" p2) [e] [] p3) none pos.line X.env = pure false := by rfl)
    (hbase : attributeBase (.Name x p1) "append" X.env (eval (.Name x p1) X.env) = eval (.Name x p1) X.env := by rfl)
    (hfew : ((backTo p3 (starEach [e] X.env)).all (fun x => !x.1) && (backToKw p3 (keywordEach [] X.env)).all (fun x => x.1.isSome)
      && decide (([e] : List Expr).length + ([] : List Keyword).length + (if ([] : List Keyword).isEmpty then 0 else 1) < 30)) = true := by rfl)
    (hline : (p2.endLine == p3.line) = true := by rfl) (he : starEach [e] X.env = (false, eval e X.env) :: starEach [] X.env := by rfl) (hplain : (backTo p3 (starEach [] X.env)).any (·.1) = false := by rfl) :
    SV C HK X W (.Expr (.Call (.Attribute (.Name x p1) "append" p2) [e] [] p3) pos) (gApp i f) :=
  PS.of (ps_expr (pe_bm PySem.F.plainAttrs_list PySem.F.slot_list_append PySem.F.type_list_append mt_append hv (pa_cons hf pa_nil he) hbase hfew hline he hplain) hs) fun N σ H ⟨F, G, ρ, s, rel, p⟩ => by
    unfold gApp at p
    cases q : ρ[i]? with
    | none => rw [q] at p; exact p.elim
    | some lv =>
      rw [q] at p
      cases lv with
      | own l =>
        obtain ⟨a, vs, q1, q2, q3, q4, q5, q6, ow⟩ := rel.own q
        refine ⟨_, q1, .inl ⟨rfl, vs, SqL.of q2⟩, F, G, ρ, s, rel, (PostS.expr rel p).imp' fun v H1 ⟨d, s1, G1, rel1, r1, p1⟩ => ?_⟩
        obtain ⟨a', vs1, k1, k2, k3, k4, k5, k6, ow1⟩ := rel1.own q
        rw [q1] at k1; cases k1
        by_cases hl : Nat.blt l.length lim = true
        · rw [if_pos hl] at p1
          have hz : vs1.length < sizeLine := by
            rw [← Reps.length k3, sizeLine_eq]
            exact Nat.le_of_ble_eq_true hl
          refine ⟨a, vs1, v, rfl, rfl, k2, hz, ?_⟩
          exact p1 _ _ G1 (rel1.updOwn ow1 k4 k5 k6 rfl ⟨a, _, rfl, upd_same, Reps.append k3 (.cons r1 .nil), k4, k5, k6⟩) Sub.refl
        · rw [if_neg hl] at p1; exact p1.elim
      | _ => exact p.elim
theorem sv_ext {i : Nat} {x : PySem.Str} {f : As S} {p1 p2 p3 : Pos} (hv : PE X (.Name x p1) (tVar i)) (hf : EF C HK X W e f)
    (hs : swapsWith (.Call (.Attribute (.Name x p1) "extend" p2) [e] [] p3) none pos.line X.env = pure false := by rfl)
    (hbase : attributeBase (.Name x p1) "extend" X.env (eval (.Name x p1) X.env) = eval (.Name x p1) X.env := by rfl)
    (hfew : ((backTo p3 (starEach [e] X.env)).all (fun x => !x.1) && (backToKw p3 (keywordEach [] X.env)).all (fun x => x.1.isSome)
      && decide (([e] : List Expr).length + ([] : List Keyword).length + (if ([] : List Keyword).isEmpty then 0 else 1) < 30)) = true := by rfl)
    (hline : (p2.endLine == p3.line) = true := by rfl) (he : starEach [e] X.env = (false, eval e X.env) :: starEach [] X.env := by rfl) (hplain : (backTo p3 (starEach [] X.env)).any (·.1) = false := by rfl) :
    SV C HK X W (.Expr (.Call (.Attribute (.Name x p1) "extend" p2) [e] [] p3) pos) (gExt i f) :=
  PS.of (ps_expr (pe_bm PySem.F.plainAttrs_list PySem.F.slot_list_extend PySem.F.type_list_extend mt_extend hv (pa_cons hf pa_nil he) hbase hfew hline he hplain) hs) fun N σ H ⟨F, G, ρ, s, rel, p⟩ => by
    unfold gExt at p
    cases q : ρ[i]? with
    | none => rw [q] at p; exact p.elim
    | some lv =>
      rw [q] at p
      cases lv with
      | own l =>
        obtain ⟨a, vs, q1, q2, q3, q4, q5, q6, ow⟩ := rel.own q
        refine ⟨_, q1, .inl ⟨rfl, vs, SqL.of q2⟩, F, G, ρ, s, rel, ?_⟩
        simp only at p
        cases z : f ρ s with
        | ok m s1 =>
          rw [z] at p
          intro v H1 G1 n ⟨b, ws, e1, e0, e2, e3, e4, e5, e6, no⟩
          subst e1
          have rel1 := rel.ext n
          obtain ⟨a', vs1, k1, k2, k3, k4, k5, k6, ow1⟩ := rel1.own q
          rw [q1] at k1; cases k1
          simp only at p
          by_cases hl : Nat.ble (l.length + m.length) lim = true
          · rw [if_pos hl] at p
            have hz : vs1.length + ws.length ≤ sizeLine := by
              rw [← Reps.length k3, ← Reps.length e3]
              exact lim_line hl
            refine ⟨a, b, vs1, ws, rfl, rfl, k2, e2, hz, ?_⟩
            exact p _ _ G1 (rel1.updOwn ow1 k4 k5 k6 rfl ⟨a, _, rfl, upd_same, Reps.append k3 e3, k4, k5, k6⟩) n.ext.sub
          · rw [if_neg hl] at p; exact p.elim
        | exc y s1 => rw [z] at p; exact fun cls dd H' G' n r => p cls dd σ H' G' (rel.ext n) n.ext.sub r
        | bad => rw [z] at p; exact p.elim
      | _ => exact p.elim
/-- the name's own list, for good from here on -/
theorem sv_frz {i : Nat} {g : Gs S} (h : SV C HK X W st g) : SV C HK X W st (gFrz i g) :=
  PS.of h fun N σ H ⟨F, G, ρ, s, rel, p⟩ => by
    unfold gFrz at p
    cases q : ρ[i]? with
    | none => rw [q] at p; exact p.elim
    | some lv =>
      rw [q] at p
      have hi : i < ρ.length := (List.getElem?_eq_some_iff.mp q).1
      have go : ∀ (lv' d a o), ρ[i]? = some lv' → lv'.isOwn = true → σ[i]? = some (some (.ref a)) → H a = some o → G a = none → F.H0 a = none → a ∉ F.HA → Rep C (upd G a o) d (.ref a) → Sub G (upd G a o) → Rel C HK F (upd G a o) (ρ.set i (.val d)) s σ H := by
        intro lv' d a o e1 e2 e3 e4 e5 e6 e7 r sub
        have ow : OwnAt ρ σ i a := ⟨⟨_, e1, e2⟩, e3⟩
        refine ⟨by rw [List.length_set]; exact rel.len, fun j lw z => ?_, fun b c y ⟨⟨l1, z1, o1⟩, f1⟩ ⟨⟨l2, z2, o2⟩, f2⟩ => ?_, fun b u z => ?_, fun b u z => ?_, rel.g0.trans sub, fun b u z => ?_, rel.fr, rel.hand⟩
        · rcases set_at z with ⟨rfl, rfl⟩ | ⟨ne, z⟩
          · exact ⟨_, e3, r⟩
          · have y := rel.slot j lw z
            cases lw with
            | un => trivial
            | exn _ => exact fun a cls dd e => ⟨(y a cls dd e).1, ExnIs.mono sub (y a cls dd e).2⟩
            | val d => obtain ⟨v, y1, y2⟩ := y; exact ⟨v, y1, Rep.mono sub _ _ y2⟩
            | own l =>
              obtain ⟨b, vs, y1, y2, y3, y4, y5, y6⟩ := y
              have hb : b ≠ a := fun h => ne (rel.sep j i a ⟨⟨_, z, rfl⟩, by rw [y1, h]⟩ ow)
              exact ⟨b, vs, y1, y2, Reps.mono sub _ _ y3, by rw [upd_ne hb]; exact y4, y5, y6⟩
            | ownd l =>
              obtain ⟨b, vs, y1, y2, y3, y4, y5, y6⟩ := y
              have hb : b ≠ a := fun h => ne (rel.sep j i a ⟨⟨_, z, rfl⟩, by rw [y1, h]⟩ ow)
              exact ⟨b, vs, y1, y2, RepE.mono sub _ _ y3, by rw [upd_ne hb]; exact y4, y5, y6⟩
            | slf c fs =>
              obtain ⟨b, vs, y1, y2, y3, y4, y5, y6⟩ := y
              have hb : b ≠ a := fun h => ne (rel.sep j i a ⟨⟨_, z, rfl⟩, by rw [y1, h]⟩ ow)
              exact ⟨b, vs, y1, y2, RepI.mono sub _ _ y3, by rw [upd_ne hb]; exact y4, y5, y6⟩
            | hnd => exact y
            | fnn => exact y
        · rcases set_at z1 with ⟨rfl, rfl⟩ | ⟨n1, z1⟩
          · cases o1
          · rcases set_at z2 with ⟨rfl, rfl⟩ | ⟨n2, z2⟩
            · cases o2
            · exact rel.sep b c y ⟨⟨l1, z1, o1⟩, f1⟩ ⟨⟨l2, z2, o2⟩, f2⟩
        · by_cases hb : b = a
          · subst hb; rw [upd_same] at z; cases z; exact e4
          · rw [upd_ne hb] at z; exact rel.le b u z
        · by_cases hb : b = a
          · subst hb; exact e7
          · rw [upd_ne hb] at z; exact rel.off b u z
        · by_cases hb : b = a
          · subst hb; exact .inr e6
          · rw [upd_ne hb] at z; exact rel.gnew b u z
      cases lv with
      | own l =>
        obtain ⟨a, vs, q1, q2, q3, q4, q5, q6⟩ := rel.slot i _ q
        have sub : Sub G (upd G a (.lst vs)) := fun b u z => by rw [upd_ne (ne_of_none z q4)]; exact z
        exact ⟨F, _, _, s, go _ (.lst l) a _ q rfl q1 q2 q4 q5 q6 (.lst upd_same (Reps.mono sub _ _ q3)) sub, PostS.later p sub⟩
      | ownd l =>
        obtain ⟨a, vs, q1, q2, q3, q4, q5, q6⟩ := rel.slot i _ q
        have sub : Sub G (upd G a (dicO a vs)) := fun b u z => by rw [upd_ne (ne_of_none z q4)]; exact z
        exact ⟨F, _, _, s, go _ (.dct l) a _ q rfl q1 q2 q4 q5 q6 (.dctE upd_same (RepE.mono sub _ _ q3)) sub, PostS.later p sub⟩
      | _ => exact p.elim
end
end Fx
set_option Elab.async false
set_option linter.all false
set_option autoImplicit false
set_option maxRecDepth 100000
/-! Fx, rules 3: what is walked, loops, comprehensions. -/
namespace Fx
open PySem PySem.Spec PyProof.Rows L2
section
variable {S : Type} {C : CI} {HK : HandK S} {X : Cx} {W : WX} {e e2 e3 tg : Expr} {es : List Expr} {pos : Pos} {st : Stmt} {sts sts2 : List Stmt}

/-- a walk that yields the data ds, one after another, at every later state (frozen) -/
def ItOk (C : CI) (HK : HandK S) (F : Fix) (J : It) (ds : List Fx.D) (G0 H0 : Hp) : Prop :=
  ∀ (i : Nat) (G : Hp) (ρ : Env) (s : S) (σ : L2.St) (H : Hp), Rel C HK F G ρ s σ H → Sub G0 G →
    (∀ d, ds[i]? = some d → J.go i H ∧ ∀ x H3, J.yld i H x H3 → ∃ G3, Nxt HK F.HA G H s G3 H3 ∧ Rep C G3 d x) ∧ (ds.length ≤ i → J.stop i H)
/-- .. at every later state at which what stood stands (borrowed) -/
def ItOkB (C : CI) (HK : HandK S) (F : Fix) (J : It) (ds : List Fx.D) (G0 H0 : Hp) : Prop :=
  ∀ (i : Nat) (G : Hp) (ρ : Env) (s : S) (σ : L2.St) (H : Hp), Rel C HK F G ρ s σ H → Ext F.HA G0 H0 G H →
    (∀ d, ds[i]? = some d → J.go i H ∧ ∀ x H3, J.yld i H x H3 → ∃ G3, Nxt HK F.HA G H s G3 H3 ∧ Rep C G3 d x) ∧ (ds.length ≤ i → J.stop i H)
theorem ItOk.b {F : Fix} {J : It} {ds : List Fx.D} {G0 H0 : Hp} (h : ItOk C HK F J ds G0 H0) : ItOkB C HK F J ds G0 H0 := fun i G ρ s σ H rel x => h i G ρ s σ H rel x.sub
/-- the readings of what is walked -/
def RRi (C : CI) (HK : HandK S) : Fix → Env → L2.St → Hp → Hp → Hp → List Fx.D → It → Prop := fun F _ _ _ G H ds J => ItOk C HK F J ds G H
def RRj (C : CI) (HK : HandK S) : Fix → Env → L2.St → Hp → Hp → Hp → List Fx.D → It → Prop := fun F _ _ _ G H ds J => ItOkB C HK F J ds G H
abbrev tIV (C : CI) (HK : HandK S) (W : WX) (f : As S) : TI := tX C HK W (RRi C HK) f
abbrev tIB (C : CI) (HK : HandK S) (W : WX) (f : As S) : TI := tX C HK W (RRj C HK) f
abbrev IV (C : CI) (HK : HandK S) (X : Cx) (W : WX) (tg e : Expr) (f : As S) : Prop := PI X tg e (tIV C HK W f)
abbrev IB (C : CI) (HK : HandK S) (X : Cx) (W : WX) (tg e : Expr) (f : As S) : Prop := PI X tg e (tIB C HK W f)
theorem PI.of {t t' : TI} (h : PI X tg e t') (w : ∀ σ H Q, t σ H Q → t' σ H Q) : PI X tg e t := ⟨fun pins s σ H Q I q => h.run pins s σ H Q I (w _ _ _ q)⟩
theorem ib_of {f : As S} (h : IV C HK X W tg e f) : IB C HK X W tg e f := PI.of h fun σ H R ⟨F, G, ρ, s, rel, p⟩ => ⟨F, G, ρ, s, rel, p.imp fun G' H' a b _ q => ItOk.b q⟩

/-- a list or a tuple -/
def iSeq (K : PySem.W.Frag) (tl : TE) : TI := fun σ H R => tl σ H fun x H1 => ∃ a, x = .ref a ∧ (((∃ xs, SqL K H1 a xs) ∧ R (Itl K a) H1) ∨ ((∃ xs, SqT K H1 a xs) ∧ R (Itt K a) H1))
theorem pi_seq {l : Expr} {tl : TE} (hl : PE X l tl) : PI X tg l (iSeq X.K tl) := by
  refine ⟨fun pins s σ H R I h => ?_⟩
  refine thn (hl.run pins s σ H _ I h) fun v s1 ⟨x, H1, I1, r1, q1⟩ => ?_
  obtain ⟨a, e, q⟩ := q1
  subst e
  cases r1
  have fp : ∀ b ∈ [s1.heap.objs.size], FpOk X pins H1 b := fun b hb => by
    have e : b = s1.heap.objs.size := by simpa using hb
    subst e
    exact I1.fpOk (Nat.le_refl _) (I1.hok.fresh (Nat.le_refl _))
  rcases q with ⟨⟨xs, hq⟩, q⟩ | ⟨⟨xs, hq⟩, q⟩
  · obtain ⟨its, rv, p, hz⟩ := I1.list hq
    refine wpAny_pyIter_list p.isList ?_
    exact ⟨s1.heap.objs.size, [s1.heap.objs.size], _, _, H1, rfl, I1.kept (t' := s1.toks) fun b o e => Heap.get?_push_of_some _ e, turn_list a _, ⟨_, Heap.get?_push_size _ rfl, rfl, rfl⟩, fp, q⟩
  · obtain ⟨its, rv, p, hz⟩ := I1.tuple hq
    refine wpAny_pyIter_tuple (show s1.heap.IsTuple a its.toArray from p) ?_
    exact ⟨s1.heap.objs.size, [s1.heap.objs.size], _, _, H1, rfl, I1.kept (t' := s1.toks) fun b o e => Heap.get?_push_of_some _ e, turn_tuple a _, ⟨_, Heap.get?_push_size _ rfl, rfl, rfl⟩, fp, q⟩
theorem itok_list {K : PySem.W.Frag} {F : Fix} {G0 H0 : Hp} {a : Addr} {l : List Fx.D} {vs : List V} (e : G0 a = some (.lst vs)) (r : Reps C G0 l vs) : ItOk C HK F (Itl K a) l G0 H0 := fun i G ρ s σ H rel sub => by
  have h : H a = some (.lst vs) := rel.le _ _ (sub _ _ e)
  have r' := Reps.mono sub _ _ r
  refine ⟨fun d q => ?_, fun q => ⟨vs, SqL.of h, by rw [← Reps.length r]; exact q⟩⟩
  obtain ⟨v, q1, q2⟩ := Reps.get r' q
  refine ⟨⟨vs, v, SqL.of h, q1⟩, fun x H3 ⟨z1, z2⟩ => ?_⟩
  subst z1
  have := z2 vs (SqL.of h)
  rw [q1] at this; cases this
  exact ⟨G, Nxt.refl rel, q2⟩
theorem itok_tup {K : PySem.W.Frag} {F : Fix} {G0 H0 : Hp} {a : Addr} {l : List Fx.D} {vs : List V} (e : G0 a = some (.tup vs)) (r : Reps C G0 l vs) : ItOk C HK F (Itt K a) l G0 H0 := fun i G ρ s σ H rel sub => by
  have h : H a = some (.tup vs) := rel.le _ _ (sub _ _ e)
  have r' := Reps.mono sub _ _ r
  refine ⟨fun d q => ?_, fun q => ⟨vs, SqT.of h, by rw [← Reps.length r]; exact q⟩⟩
  obtain ⟨v, q1, q2⟩ := Reps.get r' q
  refine ⟨⟨vs, v, SqT.of h, q1⟩, fun x H3 ⟨z1, z2⟩ => ?_⟩
  subst z1
  have := z2 vs (SqT.of h)
  rw [q1] at this; cases this
  exact ⟨G, Nxt.refl rel, q2⟩
theorem itokB_list {K : PySem.W.Frag} {F : Fix} {G0 H0 : Hp} {a : Addr} {l : List Fx.D} {vs : List V} (e : H0 a = some (.lst vs)) (n : a ∉ F.HA) (r : Reps C G0 l vs) : ItOkB C HK F (Itl K a) l G0 H0 := fun i G ρ s σ H rel x => by
  have h : H a = some (.lst vs) := x.kp _ _ e n
  have r' := Reps.mono x.sub _ _ r
  refine ⟨fun d q => ?_, fun q => ⟨vs, SqL.of h, by rw [← Reps.length r]; exact q⟩⟩
  obtain ⟨v, q1, q2⟩ := Reps.get r' q
  refine ⟨⟨vs, v, SqL.of h, q1⟩, fun x H3 ⟨z1, z2⟩ => ?_⟩
  subst z1
  have := z2 vs (SqL.of h)
  rw [q1] at this; cases this
  exact ⟨G, Nxt.refl rel, q2⟩
theorem itok_rng {F : Fix} {G0 H0 : Hp} {lo : Int} {n : Nat} : ItOk C HK F (Itr lo n) (rangeL lo n) G0 H0 := fun i G ρ s σ H rel sub => by
  have len : (rangeL lo n).length = n := by unfold rangeL; rw [List.length_map, List.length_range]
  refine ⟨fun d q => ?_, fun q => by rw [len] at q; exact q⟩
  have hi : i < n := by
    have := (List.getElem?_eq_some_iff.mp q).1
    rwa [len] at this
  refine ⟨hi, fun x H3 ⟨z1, z2⟩ => ?_⟩
  subst z1
  subst z2
  refine ⟨G, Nxt.refl rel, ?_⟩
  unfold rangeL at q
  rw [List.getElem?_map, List.getElem?_range hi] at q
  cases q
  exact .int _
theorem iv_seq {f : E S} (h : EV C HK X W e f) : IV C HK X W tg e (wSeq f) :=
  PI.of (pi_seq h) fun σ H R' ⟨F, G, ρ, s, rel, p⟩ => ⟨F, G, ρ, s, rel, (Post.step (RR := RRe C F ρ σ H) rel p).imp' fun v H1 ⟨d, s1, G1, rel1, x1, r, p1⟩ => by
    cases d <;> first | exact p1.elim | skip
    · cases r with | @tup a _ vs r1 r2 =>
      exact ⟨a, rfl, .inr ⟨⟨vs, SqT.of (x1.le _ _ r1)⟩, p1.here rel1 (itok_tup r1 r2)⟩⟩
    · cases r with | @lst a _ vs r1 r2 =>
      exact ⟨a, rfl, .inl ⟨⟨vs, SqL.of (x1.le _ _ r1)⟩, p1.here rel1 (itok_list r1 r2)⟩⟩⟩
theorem ib_seq {f : E S} (h : EB C HK X W e f) : IB C HK X W tg e (wSeq f) :=
  PI.of (pi_seq h) fun σ H R' ⟨F, G, ρ, s, rel, p⟩ => ⟨F, G, ρ, s, rel, (Post.step (RR := RRb C F ρ σ H) rel p).imp' fun v H1 ⟨d, s1, G1, rel1, x1, r, p1⟩ => by
    cases d <;> first | exact p1.elim | skip
    · obtain ⟨a, vs, rfl, r1, r2⟩ := r.tup
      exact ⟨a, rfl, .inr ⟨⟨vs, SqT.of (x1.le _ _ r1)⟩, p1.here rel1 (itok_tup r1 r2).b⟩⟩
    · rcases r with r | ⟨a, l, vs, e0, e1, e2, e3, e4⟩ | ⟨a, l, es, e0, _⟩
      · cases r with | @lst a _ vs r1 r2 =>
        exact ⟨a, rfl, .inl ⟨⟨vs, SqL.of (x1.le _ _ r1)⟩, p1.here rel1 (itok_list r1 r2).b⟩⟩
      · cases e0
        exact ⟨a, e1, .inl ⟨⟨vs, SqL.of e2⟩, p1.here rel1 (itokB_list e2 e3 e4)⟩⟩
      · cases e0⟩
theorem okR_iff {i : Int} (h : okR i = true) : -(2 ^ 62) ≤ i ∧ i < 2 ^ 62 := by
  unfold okR at h
  rw [Bool.and_eq_true, decide_eq_true_eq, decide_eq_true_eq] at h
  exact h
theorem iv_range1 {f : E S} {p1 p2 : Pos} (hg : Gl X "range") (hm : X.mg "range" = none) (h : EV C HK X W e f) (hs : starEach [e] X.env = [(false, eval e X.env)] := by rfl) : IV C HK X W tg (.Call (.Name "range" p1) [e] [] p2) (wRange1 f) :=
  PI.of (pi_range1 hg hm (pa_cons h pa_nil (by rw [hs]; rfl)) hs) fun σ H R' ⟨F, G, ρ, s, rel, p⟩ => ⟨F, G, ρ, s, rel, (Post.step (RR := RRe C F ρ σ H) rel p).imp' fun v H1 ⟨d, s1, G1, rel1, x1, r, p1⟩ => by
    cases d <;> first | exact p1.elim | skip
    rename_i j
    cases r
    dsimp only at p1
    by_cases hj : okR j = true
    · rw [if_pos hj] at p1
      exact ⟨j, rfl, (okR_iff hj).1, (okR_iff hj).2, p1.here rel1 itok_rng⟩
    · rw [if_neg hj] at p1; exact p1.elim⟩
theorem iv_range2 {f g : E S} {p1 p2 : Pos} (hg : Gl X "range") (hm : X.mg "range" = none) (h : EV C HK X W e f) (h2 : EV C HK X W e2 g) (hs : starEach [e, e2] X.env = [(false, eval e X.env), (false, eval e2 X.env)] := by rfl) (hs2 : starEach [e2] X.env = [(false, eval e2 X.env)] := by rfl) :
    IV C HK X W tg (.Call (.Name "range" p1) [e, e2] [] p2) (wRange2 f g) :=
  PI.of (pi_range2 hg hm (pa_cons h (pa_cons h2 pa_nil (by rw [hs2]; rfl)) (by rw [hs, hs2])) hs hs2) fun σ H R' ⟨F, G, ρ, s, rel, p⟩ => ⟨F, G, ρ, s, rel, (Post.step (RR := RRe C F ρ σ H) rel p).imp' fun v H1 ⟨a, s1, G1, rel1, x1, r, p1⟩ =>
    ⟨F, G1, ρ, s1, rel1, (Post.step (RR := RRe C F ρ σ H) rel1 p1).imp' fun v2 H2 ⟨b, s2, G2, rel2, x2, r2, p2⟩ => by
      cases a with
      | int i =>
        cases b with
        | int j =>
          cases r
          cases r2
          dsimp only at p2
          by_cases hj : (okR i && okR j) = true
          · rw [if_pos hj] at p2
            rw [Bool.and_eq_true] at hj
            obtain ⟨a1, a2⟩ := okR_iff hj.1
            obtain ⟨b1, b2⟩ := okR_iff hj.2
            exact ⟨i, j, rfl, ⟨a1, a2, b1, b2⟩, p2.here rel2 itok_rng⟩
          · rw [if_neg hj] at p2; exact p2.elim
        | _ => exact p2.elim
      | _ => exact p2.elim⟩⟩

/-! ### targets -/
/-- a target stores as u says, and into the slots of is alone -/
def tG (C : CI) (HK : HandK S) (is : List Nat) (u : Tg) : TG := fun v σ H Q => ∃ (F : Fix) (G : Hp) (ρ : Env) (s : S) (d : Fx.D), Rel C HK F G ρ s σ H ∧ Rep C G d v ∧
  match u d ρ with
  | some ρ' => ∀ σ', Rel C HK F G ρ' s σ' H → wipe σ' is = wipe σ is → Q σ' H
  | none => False
abbrev GV (C : CI) (HK : HandK S) (X : Cx) (tg : Expr) (is : List Nat) (u : Tg) : Prop := PG X tg (tG C HK is u)
theorem PG.of {t t' : TG} (h : PG X tg t') (w : ∀ v σ H Q, t v σ H Q → t' v σ H Q) : PG X tg t := ⟨fun pins s σ H v u Q I r q => h.run pins s σ H v u Q I r (w _ _ _ _ q)⟩
theorem wipe_get {σ : L2.St} {j : Nat} : ∀ {is : List Nat}, j < σ.length → (wipe σ is)[j]? = if j ∈ is then some none else σ[j]?
  | [], _ => by simp [wipe]
  | i :: is, h => by
    have ih := wipe_get (σ := σ) (j := j) (is := is) h
    show ((wipe σ is).set i none)[j]? = _
    by_cases e : j = i
    · subst e
      rw [List.getElem?_set_self (by rw [wipe_length]; exact h)]
      simp
    · rw [List.getElem?_set_ne (Ne.symm e), ih]
      simp [e]
theorem wipe_ext {σ σ' : L2.St} {is : List Nat} (hl : σ'.length = σ.length) (h : ∀ j, j ∉ is → σ'[j]? = σ[j]?) : wipe σ' is = wipe σ is := by
  apply List.ext_getElem?
  intro j
  by_cases hj : j < σ.length
  · rw [wipe_get hj, wipe_get (by rw [hl]; exact hj)]
    by_cases hm : j ∈ is
    · rw [if_pos hm, if_pos hm]
    · rw [if_neg hm, if_neg hm, h j hm]
  · rw [List.getElem?_eq_none (by rw [wipe_length, hl]; omega), List.getElem?_eq_none (by rw [wipe_length]; omega)]
theorem gv_name {i : Nat} {x : PySem.Str} (h : PG X (.Name x pos) (gName i)) : GV C HK X (.Name x pos) [i] (tgN i) :=
  PG.of h fun v σ H Q ⟨F, G, ρ, s, d, rel, r, p⟩ => p _ (rel.setV r) (wipe_ext (by rw [List.length_set]) fun j hj => by
    rw [List.getElem?_set_ne (fun z => hj (by rw [z]; exact List.mem_cons_self ..))])
/-- several targets -/
def tGs (C : CI) (HK : HandK S) (is : List Nat) (us : List Tg) : TGs := fun vs σ H Q => ∃ (F : Fix) (G : Hp) (ρ : Env) (s : S) (ds : List Fx.D), Rel C HK F G ρ s σ H ∧ Reps C G ds vs ∧
  match tgAll us ds ρ with
  | some ρ' => ∀ σ', Rel C HK F G ρ' s σ' H → wipe σ' is = wipe σ is → Q σ' H
  | none => False
abbrev GVs (C : CI) (HK : HandK S) (X : Cx) (tgs : List Expr) (is : List Nat) (us : List Tg) : Prop := PGs X tgs (tGs C HK is us)
theorem PGs.of {t t' : TGs} {tgs : List Expr} (h : PGs X tgs t') (w : ∀ v σ H Q, t v σ H Q → t' v σ H Q) : PGs X tgs t := ⟨fun pins s σ H v u Q I r q => h.run pins s σ H v u Q I r (w _ _ _ _ q)⟩
theorem gvs_nil : GVs C HK X [] [] [] := PGs.of pgs_nil fun vs σ H Q ⟨F, G, ρ, s, ds, rel, r, p⟩ => by
  cases ds with
  | nil => cases r; exact ⟨rfl, p σ rel rfl⟩
  | cons _ _ => exact p.elim
theorem wipe_mono {σ σ' : L2.St} {is js : List Nat} (hl : σ'.length = σ.length) (h : wipe σ' is = wipe σ is) (sub : ∀ j ∈ is, j ∈ js) : wipe σ' js = wipe σ js := wipe_ext hl fun j hj => by
  by_cases q : j < σ.length
  · have := congrArg (fun l => l[j]?) h
    rw [wipe_get q, wipe_get (by rw [hl]; exact q), if_neg fun z => hj (sub j z), if_neg fun z => hj (sub j z)] at this
    exact this
  · rw [List.getElem?_eq_none (by omega), List.getElem?_eq_none (by omega)]
theorem gvs_cons {tgs : List Expr} {is js : List Nat} {u : Tg} {us : List Tg} (h1 : GV C HK X tg is u) (h2 : GVs C HK X tgs js us) (hs : (assignEach (tg :: tgs) X.env).map (·.2) = assign tg X.env :: (assignEach tgs X.env).map (·.2) := by rfl) : GVs C HK X (tg :: tgs) (is ++ js) (u :: us) :=
  PGs.of (pgs_cons h1 h2 hs) fun vs σ H Q ⟨F, G, ρ, s, ds, rel, r, p⟩ => by
    cases ds with
    | nil => exact p.elim
    | cons d ds =>
      cases r with | @cons _ v _ vr r1 r2 =>
      refine ⟨v, vr, rfl, F, G, ρ, s, d, rel, r1, ?_⟩
      unfold tgAll at p
      cases q : u d ρ with
      | none => rw [q] at p; exact p.elim
      | some ρ1 =>
        rw [q] at p
        refine fun σ1 rel1 w1 => ⟨F, G, ρ1, s, ds, rel1, r2, ?_⟩
        change (match tgAll us ds ρ1 with | some ρ' => _ | none => _) at p
        cases q2 : tgAll us ds ρ1 with
        | none => rw [q2] at p; exact p.elim
        | some ρ2 =>
          rw [q2] at p
          have l1 : σ1.length = σ.length := by have := congrArg List.length w1; rwa [wipe_length, wipe_length] at this
          refine fun σ2 rel2 w2 => p σ2 rel2 ?_
          have l2 : σ2.length = σ1.length := by have := congrArg List.length w2; rwa [wipe_length, wipe_length] at this
          exact (wipe_mono l2 w2 fun j hj => List.mem_append_right _ hj).trans (wipe_mono l1 w1 fun j hj => List.mem_append_left _ hj)
theorem gv_tup {tgs : List Expr} {is : List Nat} {us : List Tg} {k n : Nat} (hc : X.calm = true) (h : GVs C HK X tgs is us) (hl : us.length = n := by rfl)
    (hn : (assignEach tgs X.env).length = n := by rfl) (hst : (assignEach tgs X.env).findIdx? (·.1) = none := by rfl) : GV C HK X (.Tuple tgs k pos) is (tgT us) :=
  PG.of (pg_tup hc h hn hst) fun v σ H Q ⟨F, G, ρ, s, d, rel, r, p⟩ => by
    cases d <;> first | exact p.elim | skip
    rename_i l
    cases r with | @tup a _ vs r1 r2 =>
    have len : ∀ (us : List Tg) (l : List Fx.D) (ρ : Env), l.length ≠ us.length → tgAll us l ρ = none := by
      intro us
      induction us with
      | nil => intro l ρ h; cases l <;> first | (simp at h; done) | rfl
      | cons u us ih =>
        intro l ρ h
        cases l with
        | nil => rfl
        | cons d l =>
          unfold tgAll
          cases u d ρ with
          | none => rfl
          | some ρ1 => exact ih l ρ1 (by simpa using h)
    by_cases hh : l.length = us.length
    · exact ⟨a, vs, rfl, SqT.of (rel.le _ _ r1), by rw [← Reps.length r2, hh, hl], F, G, ρ, s, l, rel, r2, p⟩
    · unfold tgT at p
      simp only [len us l ρ hh] at p
end
end Fx
set_option Elab.async false
set_option linter.all false
set_option autoImplicit false
set_option maxRecDepth 100000
/-! Fx, rules 4: loops, comprehensions, defs and their calls. -/
namespace Fx
open PySem PySem.Spec PyProof.Rows L2
section
variable {S : Type} {C : CI} {HK : HandK S} {X : Cx} {W : WX} {e e2 e3 tg : Expr} {es : List Expr} {pos : Pos} {st : Stmt} {sts sts2 : List Stmt}

theorem PostS.iter {F : Fix} {G H : Hp} {N : Ends} {ρ : Env} {s : S} {σ : L2.St} {f : As S} {u : Tg} {g : Gs S} (rel : Rel C HK F G ρ s σ H) (p : PostS C HK W F G N (gFor f u g ρ s)) :
    Post C HK W F G H σ (RRi C HK F ρ σ H) (f ρ s) (fun J H1 => ∃ ds s1 G1, Rel C HK F G1 ρ s1 σ H1 ∧ ItOk C HK F J ds G1 H1 ∧ PostS C HK W F G1 N (forL u g ds ρ s1)) := by
  unfold gFor at p
  cases q : f ρ s with
  | ok ds s1 => rw [q] at p; exact fun J H1 G1 n k => ⟨ds, s1, G1, rel.ext n, k, PostS.later p n.ext.sub⟩
  | exc x s1 => rw [q] at p; exact fun cls dd H' G' n r => p cls dd σ H' G' (rel.ext n) n.ext.sub r
  | bad => rw [q] at p; exact p.elim
theorem sv_for {f : As S} {is : List Nat} {u : Tg} {g : Gs S} (hp : PassesOwn (model X.prog X.w) X.A X.env X.xe) (hc : X.calm = true) (hi : IV C HK X W tg e f) (hg : GV C HK X tg is u) (hb : SVs C HK X W sts g)
    (hs : ∀ x, foldedSetIterable e X.env x = pure x := by intro _; rfl) : SV C HK X W (.For tg e sts [] pos) (gFor f u g) :=
  PS.of (ps_for hp hc hi hg hb hs) fun N σ H ⟨F, G, ρ, s, rel, p⟩ => ⟨F, G, ρ, s, rel, (PostS.iter rel p).imp' fun J H1 ⟨ds, s1, G1, rel1, it, p1⟩ => by
    refine ⟨fun i m σ H => m = ds.length - i ∧ i ≤ ds.length ∧ ∃ G ρ s, Rel C HK F G ρ s σ H ∧ Sub G1 G ∧ PostS C HK W F G N (forL u g (ds.drop i) ρ s), ⟨ds.length, rfl, Nat.zero_le _, G1, ρ, s1, rel1, Sub.refl, by rw [List.drop_zero]; exact p1⟩, ?_⟩
    rintro i m σ H ⟨rfl, hi, G, ρ, s, rel, sub, p⟩
    obtain ⟨go, stop⟩ := it i G ρ s σ H rel sub
    by_cases hl : i < ds.length
    · right
      have ed : ds.drop i = ds[i] :: ds.drop (i + 1) := List.drop_eq_getElem_cons hl
      have eg : ds[i]? = some ds[i] := List.getElem?_eq_getElem hl
      obtain ⟨g1, g2⟩ := go _ eg
      refine ⟨g1, fun σ' H' => ∃ G ρ s, Rel C HK F G ρ s σ' H' ∧ Sub G1 G ∧ PostS C HK W F G N (forL u g (ds.drop (i + 1)) ρ s), ?_, ?_⟩
      · rintro σ' H' ⟨G, ρ, s, h1, h2, h3⟩
        exact ⟨ds.length - (i + 1), by omega, rfl, by omega, G, ρ, s, h1, h2, h3⟩
      · intro x H3 y
        obtain ⟨G3, n3, r3⟩ := g2 x H3 y
        refine ⟨F, G3, ρ, s, _, rel.ext n3, r3, ?_⟩
        have p3 := PostS.later p n3.ext.sub
        rw [ed] at p3
        unfold forL at p3
        cases q : u ds[i] ρ with
        | none => rw [q] at p3; exact p3.elim
        | some ρ1 =>
          rw [q] at p3
          dsimp only at p3 ⊢
          intro σ' rel' _
          refine ⟨F, G3, ρ1, s, rel', ?_⟩
          cases q2 : g ρ1 s with
          | nx ρ2 s2 => rw [q2] at p3; exact fun σ2 H2 G2 a b => ⟨G2, ρ2, s2, a, (sub.trans n3.ext.sub).trans b, PostS.later p3 b⟩
          | ct ρ2 s2 => rw [q2] at p3; exact fun σ2 H2 G2 a b => ⟨G2, ρ2, s2, a, (sub.trans n3.ext.sub).trans b, PostS.later p3 b⟩
          | bk ρ2 s2 => rw [q2] at p3; exact p3
          | rt d s2 => rw [q2] at p3; exact p3
          | exc y ρ2 s2 => rw [q2] at p3; exact p3
          | bad => rw [q2] at p3; exact p3
    · left
      have ed : ds.drop i = [] := List.drop_eq_nil_of_le (by omega)
      rw [ed] at p
      exact ⟨stop (by omega), p σ H G rel Sub.refl⟩⟩
theorem sv_while {t : T S} {g : Gs S} (hp : PassesOwn (model X.prog X.w) X.A X.env X.xe) (ht : TV C HK X W e t) (hb : SVs C HK X W sts g) : SV C HK X W (.While e sts [] pos) (gWhile t g) :=
  PS.of (ps_while hp ht hb) fun N σ H ⟨F, G, ρ, s, rel, p⟩ => by
    refine ⟨fun m σ H => ∃ G ρ s, Rel C HK F G ρ s σ H ∧ PostS C HK W F G N (whileN t g m ρ s), ⟨1000000, G, ρ, s, rel, p⟩, ?_⟩
    rintro m σ H ⟨G, ρ, s, rel, p⟩
    cases m with
    | zero => exact p.elim
    | succ m =>
      unfold whileN at p
      refine ⟨F, G, ρ, s, rel, ?_⟩
      cases q : t ρ s with
      | bad => rw [q] at p; exact p
      | exc x s1 => rw [q] at p; exact fun cls dd H' G' n r => p cls dd σ H' G' (rel.ext n) n.ext.sub r
      | ok b s1 =>
        rw [q] at p
        intro c H1 G1 n rr
        cases rr
        have rel1 := rel.ext n
        cases b with
        | false => exact (if_neg Bool.false_ne_true).mpr (p σ H1 G1 rel1 n.ext.sub)
        | true =>
          refine (if_pos rfl).mpr ⟨fun σ' H' => ∃ G ρ s, Rel C HK F G ρ s σ' H' ∧ PostS C HK W F G N (whileN t g m ρ s), fun σ' H' h => ⟨m, Nat.lt_succ_self _, h⟩, F, G1, ρ, s1, rel1, ?_⟩
          have p1 := PostS.later p n.ext.sub
          dsimp only at p1
          cases q2 : g ρ s1 with
          | nx ρ2 s2 => rw [q2] at p1; exact fun σ2 H2 G2 a b => ⟨G2, ρ2, s2, a, PostS.later p1 b⟩
          | ct ρ2 s2 => rw [q2] at p1; exact fun σ2 H2 G2 a b => ⟨G2, ρ2, s2, a, PostS.later p1 b⟩
          | bk ρ2 s2 => rw [q2] at p1; exact p1
          | rt d s2 => rw [q2] at p1; exact p1
          | exc y ρ2 s2 => rw [q2] at p1; exact p1
          | bad => rw [q2] at p1; exact p1

/-! ### comprehensions -/
theorem wipeE_length (ρ : Env) : ∀ vs : List Nat, (wipeE ρ vs).length = ρ.length
  | [] => rfl
  | v :: vs => by unfold wipeE; rw [List.length_set, wipeE_length ρ vs]
theorem wipeE_get {ρ : Env} {j : Nat} : ∀ {is : List Nat}, j < ρ.length → (wipeE ρ is)[j]? = if j ∈ is then some LV.un else ρ[j]?
  | [], _ => by simp [wipeE]
  | i :: is, h => by
    have ih := wipeE_get (ρ := ρ) (j := j) (is := is) h
    show ((wipeE ρ is).set i .un)[j]? = _
    by_cases e : j = i
    · subst e
      rw [List.getElem?_set_self (by rw [wipeE_length]; exact h)]
      simp
    · rw [List.getElem?_set_ne (Ne.symm e), ih]
      simp [e]
theorem Rel.wiped {F : Fix} {G H : Hp} {ρ : Env} {σ : L2.St} {s : S} (rel : Rel C HK F G ρ s σ H) (vs : List Nat) : Rel C HK F G (wipeE ρ vs) s (wipe σ vs) H := by
  have at_ : ∀ j lv, (wipeE ρ vs)[j]? = some lv → lv = LV.un ∨ (ρ[j]? = some lv ∧ (wipe σ vs)[j]? = σ[j]?) := fun j lv e => by
    have hj : j < ρ.length := by
      have := (List.getElem?_eq_some_iff.mp e).1
      rwa [wipeE_length] at this
    rw [wipeE_get hj] at e
    by_cases hm : j ∈ vs
    · rw [if_pos hm] at e; exact .inl (Option.some.inj e).symm
    · rw [if_neg hm] at e
      refine .inr ⟨e, ?_⟩
      rw [wipe_get (by rw [rel.len]; exact hj), if_neg hm]
  refine ⟨by rw [wipe_length, wipeE_length]; exact rel.len, fun j lv e => ?_, fun b c q ⟨⟨l1, e1, o1⟩, f1⟩ ⟨⟨l2, e2, o2⟩, f2⟩ => ?_, rel.le, rel.off, rel.g0, rel.gnew, rel.fr, rel.hand⟩
  · rcases at_ j lv e with rfl | ⟨h1, h2⟩
    · trivial
    · rw [h2]; exact rel.slot j lv h1
  · rcases at_ _ _ e1 with rfl | ⟨h1, h2⟩
    · cases o1
    · rcases at_ _ _ e2 with rfl | ⟨k1, k2⟩
      · cases o2
      · exact rel.sep b c q ⟨⟨l1, h1, o1⟩, by rw [← h2]; exact f1⟩ ⟨⟨l2, k1, o2⟩, by rw [← k2]; exact f2⟩
theorem wipe_wipe {σ : L2.St} {vs : List Nat} : wipe (wipe σ vs) vs = wipe σ vs := wipe_ext (wipe_length _ _) fun j hj => by
  by_cases q : j < σ.length
  · rw [wipe_get q, if_neg hj]
  · rw [List.getElem?_eq_none (by rw [wipe_length]; omega), List.getElem?_eq_none (by omega)]
/-- the new list, which nobody has, is written -/
theorem Rel.updFree {F : Fix} {G H : Hp} {ρ : Env} {σ : L2.St} {s : S} {a : Addr} {o : HO} (rel : Rel C HK F G ρ s σ H) (g : G a = none) (h0 : F.H0 a = none) (n : a ∉ F.HA) (no : ∀ i, ¬ OwnAt ρ σ i a) (nk : ∀ q, H a ≠ some (LamX.CodeO a q)) : Rel C HK F G ρ s σ (upd H a o) where
  len := rel.len
  slot := fun j lv e => by
    have z := rel.slot j lv e
    cases lv with
    | un => trivial
    | exn _ => exact z
    | val d => exact z
    | own l =>
      obtain ⟨b, vs, q1, q2, q3, q4, q5, q6⟩ := z
      have hb : b ≠ a := fun h => no j ⟨⟨_, e, rfl⟩, by rw [q1, h]⟩
      exact ⟨b, vs, q1, by rw [upd_ne hb]; exact q2, q3, q4, q5, q6⟩
    | ownd l =>
      obtain ⟨b, vs, q1, q2, q3, q4, q5, q6⟩ := z
      have hb : b ≠ a := fun h => no j ⟨⟨_, e, rfl⟩, by rw [q1, h]⟩
      exact ⟨b, vs, q1, by rw [upd_ne hb]; exact q2, q3, q4, q5, q6⟩
    | slf c fs =>
      obtain ⟨b, vs, q1, q2, q3, q4, q5, q6⟩ := z
      have hb : b ≠ a := fun h => no j ⟨⟨_, e, rfl⟩, by rw [q1, h]⟩
      exact ⟨b, vs, q1, by rw [upd_ne hb]; exact q2, q3, q4, q5, q6⟩
    | hnd => exact z
    | fnn => exact z
  sep := rel.sep
  le := fun b u e => by rw [upd_ne (ne_of_none e g)]; exact rel.le b u e
  off := rel.off
  g0 := rel.g0
  gnew := rel.gnew
  fr := fun b u e m => by rw [upd_ne (ne_of_none e h0)]; exact rel.fr b u e m
  hand := HK.loc _ _ _ _ rel.hand (fun b hb => upd_ne fun z => n (z ▸ hb)) fun b q e => by
    by_cases hb : b = a
    · subst hb; exact absurd e (nk q)
    · rw [upd_ne hb]; exact e
/-- no exception is wished for -/
abbrev W0 : WX := fun _ _ _ _ => False
abbrev GVb (C : CI) (HK : HandK S) (X : Cx) (scope : Scope) (tg : Expr) (is : List Nat) (u : Tg) : Prop := ∀ (s : Shared) (H : Hp) (Cc : Addr) (cl : List (PySem.Str × Addr)) (fp : List Addr), PG (X.blk s H scope (compEnvC scope cl Cc X.env) fp) tg (tG C HK is u)
abbrev TVb (C : CI) (HK : HandK S) (X : Cx) (scope : Scope) (ifs : List Expr) (t : T S) : Prop := ∀ (s : Shared) (H : Hp) (Cc : Addr) (cl : List (PySem.Str × Addr)) (fp : List Addr), PTs (X.blk s H scope (compEnvC scope cl Cc X.env) fp) ifs (tT C HK W0 t)
abbrev EVb (C : CI) (HK : HandK S) (X : Cx) (scope : Scope) (e : Expr) (f : E S) : Prop := ∀ (s : Shared) (H : Hp) (Cc : Addr) (cl : List (PySem.Str × Addr)) (fp : List Addr), PE (X.blk s H scope (compEnvC scope cl Cc X.env) fp) e (tE C HK W0 f)
theorem tvb_nil {scope : Scope} : TVb C HK X scope [] (tYes' (S := S)) := fun _ _ _ _ _ => ⟨fun pins s σ H Q I ⟨F, G, ρ, s', rel, p⟩ => (pts_nil (X := _)).run pins s σ H Q I (p.here rel rfl)⟩
theorem tvb_one {scope : Scope} {t : T S} (h : ∀ (s : Shared) (H : Hp) (Cc : Addr) (cl : List (PySem.Str × Addr)) (fp : List Addr), PT (X.blk s H scope (compEnvC scope cl Cc X.env) fp) e (tT C HK W0 t)) : TVb C HK X scope [e] t := fun s H Cc cl fp => pts_one (h s H Cc cl fp)
/-- the reading of a comprehension over a list of data -/
theorem lc_read {F : Fix} {G H : Hp} {ρ : Env} {s : S} {σ : L2.St} {Q : VK} {w : As S} {own is : List Nat} {u : Tg} {t : T S} {f : E S} (rel : Rel C HK F G ρ s σ H) (sub : ∀ j ∈ is, j ∈ own) (p : Post C HK W F G H σ (RRf C F ρ σ H) (fLc w own u t f ρ s) Q) :
    tLc (tIB C HK W w) (tG C HK is u) (tT C HK W0 t) (tE C HK W0 f) own σ H Q := by
  refine ⟨F, G, ρ, s, rel, (Post.step (RR := RRj C HK F ρ σ H) rel p).imp' fun J H1 ⟨l, s1, G1, rel1, x1, it, p1⟩ D hD => ?_⟩
  obtain ⟨hD0, hDA, hDG⟩ := rel1.h0 hD
  have noD : ∀ i, ¬ OwnAt ρ σ i D := fun i ⟨⟨lv, e1, e2⟩, e3⟩ => by
    have z := rel1.slot i lv e1
    cases lv with
    | own l =>
      obtain ⟨a, vs, q1, q2, _⟩ := z
      rw [e3] at q1; cases q1
      rw [hD] at q2; cases q2
    | ownd l =>
      obtain ⟨a, vs, q1, q2, _⟩ := z
      rw [e3] at q1; cases q1
      rw [hD] at q2; cases q2
    | slf c fs =>
      obtain ⟨a, vs, q1, q2, _⟩ := z
      rw [e3] at q1; cases q1
      rw [hD] at q2; cases q2
    | _ => cases e2
  have noDw : ∀ i, ¬ OwnAt (wipeE ρ own) (wipe σ own) i D := fun i ⟨⟨lv, e1, e2⟩, e3⟩ => by
    have hj : i < ρ.length := by
      have := (List.getElem?_eq_some_iff.mp e1).1
      rwa [wipeE_length] at this
    rw [wipeE_get hj] at e1
    by_cases hm : i ∈ own
    · rw [if_pos hm] at e1; cases e1; cases e2
    · rw [if_neg hm] at e1
      rw [wipe_get (by rw [rel1.len]; exact hj), if_neg hm] at e3
      exact noD i ⟨⟨lv, e1, e2⟩, e3⟩
  refine ⟨fun i m H' => m = l.length - i ∧ i ≤ l.length ∧ ∃ Gi si acc vs, Rel C HK F Gi (wipeE ρ own) si (wipe σ own) H' ∧ Ext F.HA G1 H1 Gi H' ∧ H' D = some (.lst vs) ∧ Reps C Gi acc vs ∧ Gi D = none ∧
    Post C HK W F G1 H1 σ (RRf C F ρ σ H) (lcL u t f (wipeE ρ own) (l.drop i) acc si) Q, ⟨l.length, rfl, Nat.zero_le _, G1, s1, [], [], ?_⟩, ?_⟩
  · have n0 := rel1.new (o := .lst []) hD
    refine ⟨(rel1.ext n0).wiped own, n0.ext, upd_same, .nil, hDG, ?_⟩
    rw [List.drop_zero]; exact p1
  · rintro i m H2 ⟨rfl, hi, Gi, si, acc, vs, reli, xi, eD, rv, gD, pi⟩
    obtain ⟨go, stop⟩ := it i Gi (wipeE ρ own) si (wipe σ own) H2 reli xi
    by_cases hl : i < l.length
    · right
      have ed : l.drop i = l[i] :: l.drop (i + 1) := List.drop_eq_getElem_cons hl
      have eg : l[i]? = some l[i] := List.getElem?_eq_getElem hl
      obtain ⟨g1, g2⟩ := go _ eg
      rw [ed] at pi
      unfold lcL at pi
      refine ⟨g1, fun H' => ∃ Gi si acc vs, Rel C HK F Gi (wipeE ρ own) si (wipe σ own) H' ∧ Ext F.HA G1 H1 Gi H' ∧ H' D = some (.lst vs) ∧ Reps C Gi acc vs ∧ Gi D = none ∧
        Post C HK W F G1 H1 σ (RRf C F ρ σ H) (lcL u t f (wipeE ρ own) (l.drop (i + 1)) acc si) Q, fun H' h => ⟨l.length - (i + 1), by omega, rfl, by omega, h⟩, ?_⟩
      intro x H3 y
      obtain ⟨G3, n3, r3⟩ := g2 x H3 y
      have rel3 := reli.ext n3
      have x3 := xi.trans n3.ext
      have eD3 := n3.ext.kp _ _ eD hDA
      have gD3 : G3 D = none := by
        cases q : G3 D with
        | none => rfl
        | some o =>
          rcases n3.ext.new D o q with z | z
          · rw [gD] at z; cases z
          · rw [eD] at z; cases z
      refine ⟨F, G3, wipeE ρ own, _, _, rel3, r3, ?_⟩
      cases q : u l[i] (wipeE ρ own) with
      | none => rw [q] at pi; exact pi.elim
      | some ρ1 =>
        rw [q] at pi
        dsimp only at pi ⊢
        intro σ2 rel4 hw
        have hw2 : wipe σ2 own = wipe σ own := by
          have l2 : σ2.length = (wipe σ own).length := by have := congrArg List.length hw; rwa [wipe_length, wipe_length] at this
          exact (wipe_mono l2 hw sub).trans wipe_wipe
        refine ⟨hw2, F, G3, ρ1, _, rel4, ?_⟩
        cases q2 : t ρ1 si with
        | exc _ _ => rw [q2] at pi; exact pi.elim
        | bad => rw [q2] at pi; exact pi.elim
        | ok b s4 =>
          rw [q2] at pi
          intro c H4 G4 n4 rr
          cases rr
          have rel5 := rel4.ext n4
          have relw := rel3.ext n4
          have x4 := x3.trans n4.ext
          have eD4 := n4.ext.kp _ _ eD3 hDA
          have gD4 : G4 D = none := by
            cases q : G4 D with
            | none => rfl
            | some o =>
              rcases n4.ext.new D o q with z | z
              · rw [gD3] at z; cases z
              · rw [eD3] at z; cases z
          have rv4 := Reps.mono (n3.ext.sub.trans n4.ext.sub) _ _ rv
          cases b with
          | false => exact (if_neg Bool.false_ne_true).mpr ⟨G4, s4, acc, vs, relw, x4, eD4, rv4, gD4, pi⟩
          | true =>
            refine (if_pos rfl).mpr ⟨F, G4, ρ1, s4, rel5, ?_⟩
            dsimp only at pi
            cases q3 : f ρ1 s4 with
            | exc _ _ => rw [q3] at pi; exact pi.elim
            | bad => rw [q3] at pi; exact pi.elim
            | ok d s5 =>
              rw [q3] at pi
              dsimp only at pi
              intro v H5 G5 n5 r5
              have relw5 := relw.ext n5
              have x5 := x4.trans n5.ext
              have eD5 := n5.ext.kp _ _ eD4 hDA
              have gD5 : G5 D = none := by
                cases q : G5 D with
                | none => rfl
                | some o =>
                  rcases n5.ext.new D o q with z | z
                  · rw [gD4] at z; cases z
                  · rw [eD4] at z; cases z
              by_cases hz : Nat.blt acc.length lim = true
              · rw [if_pos hz] at pi
                have rv5 := Reps.mono n5.ext.sub _ _ rv4
                refine ⟨vs, eD5, ?_, G5, s5, acc ++ [d], vs ++ [v], relw5.updFree gD5 hD0 hDA noDw (fun q z => by rw [eD5] at z; cases z), ?_, upd_same, Reps.append rv5 (.cons r5 .nil), gD5, pi⟩
                · rw [← Reps.length rv5, sizeLine_eq]
                  exact Nat.le_of_ble_eq_true hz
                · refine ⟨x5.sub, x5.new, fun a o e n => ?_, x5.off, fun a o e => ?_⟩
                  · rw [upd_ne (ne_of_none e hD)]; exact x5.kp a o e n
                  · rw [upd_ne (ne_of_none e gD5)]; exact x5.le a o e
              · rw [if_neg hz] at pi; exact pi.elim
    · left
      have ed : l.drop i = [] := List.drop_eq_nil_of_le (by omega)
      rw [ed] at pi
      refine ⟨stop (by omega), pi _ H2 Gi ⟨xi, reli.hand⟩ ⟨D, vs, rfl, x1.back hD hDA, eD, rv, gD, hD0, hDA, noD⟩⟩
theorem ef_lc {scope : Scope} {own : List (PySem.Str × Nat)} {w : As S} {is : List Nat} {u : Tg} {ifs : List Expr} {t : T S} {f : E S} (hc : X.calm = true) (hN : X.N.Nodup) (hi : IB C HK X W tg e2 w) (ok : BlkOk X.N X.env.scope scope own)
    (hg : GVb C HK X scope tg is u) (ht : TVb C HK X scope ifs t) (he : EVb C HK X scope e f) (sub : ∀ j ∈ is, j ∈ own.map (·.2)) (hs : ∀ x, foldedSetIterable e2 X.env x = pure x := by intro _; rfl) :
    EF C HK X W (.ListComp e [⟨tg, e2, ifs, 0⟩] scope pos) (fLc w (own.map (·.2)) u t f) :=
  PE.of (pe_lc hc hN hi ok hg ht he hs) fun σ H Q ⟨F, G, ρ, s, rel, p⟩ => lc_read rel sub p
/-- name = [..], the name a local -/
theorem sv_setLc {i : Nat} {y : PySem.Str} {py spos : Pos} {scope : Scope} {own : List (PySem.Str × Nat)} {w : As S} {is : List Nat} {u : Tg} {ifs : List Expr} {t : T S} {f : E S} (hc : X.calm = true) (hN : X.N.Nodup) (hy : X.N[i]? = some y) (hyl : X.env.scope.names.lookup y = some .local)
    (hsw : swapsWith (.ListComp e [⟨tg, e2, ifs, 0⟩] scope pos) (some (.Name y py)) spos.line X.env = pure true) (hi : IB C HK X W tg e2 w) (ok : BlkOk X.N X.env.scope scope own)
    (hg : GVb C HK X scope tg is u) (ht : TVb C HK X scope ifs t) (he : EVb C HK X scope e f) (sub : ∀ j ∈ is, j ∈ own.map (·.2)) (hs : ∀ x, foldedSetIterable e2 X.env x = pure x := by intro _; rfl) :
    SV C HK X W (.Assign [.Name y py] (.ListComp e [⟨tg, e2, ifs, 0⟩] scope pos) spos) (gSetF i (fLc w (own.map (·.2)) u t f)) :=
  PS.of (ps_setLc hc hN hy hyl hsw hi ok hg ht he hs) fun N σ H ⟨F, G, ρ, s, rel, p⟩ => by
    refine lc_read (W := W) (F := F) (G := G) (ρ := ρ) (s := s) rel sub ?_
    exact PostS.exprF rel p
/-- .. a name that is never changed in place -/
theorem PostS.exprO {F : Fix} {G H : Hp} {N : Ends} {ρ : Env} {s : S} {σ : L2.St} {i : Nat} {f : As S} (rel : Rel C HK F G ρ s σ H) (p : PostS C HK W F G N (gSet i (eOf f) ρ s)) :
    Post C HK W F G H σ (RRf C F ρ σ H) (f ρ s) (fun v H1 => N.nx (σ.set i (some v)) H1) := by
  have p2 := PostS.expr rel p
  unfold eOf at p2
  cases q : f ρ s with
  | ok l s1 =>
    rw [q] at p2
    intro v H1 G1 n ⟨a, vs, e1, e0, e2, e3, e4, e5, e6, no⟩
    subst e1
    have sub : Sub G1 (upd G1 a (.lst vs)) := fun b u q => by rw [upd_ne (ne_of_none q e4)]; exact q
    obtain ⟨d, s2, G2, r1, r2, p3⟩ := p2 _ H1 (upd G1 a (.lst vs)) ⟨⟨n.ext.sub.trans sub, fun b u z => by
      by_cases hb : b = a
      · subst hb; exact .inr e0
      · rw [upd_ne hb] at z; exact n.ext.new b u z, n.ext.kp, fun b u z => by
      by_cases hb : b = a
      · subst hb; exact e6
      · rw [upd_ne hb] at z; exact n.ext.off b u z, fun b u z => by
      by_cases hb : b = a
      · subst hb; rw [upd_same] at z; cases z; exact e2
      · rw [upd_ne hb] at z; exact n.ext.le b u z⟩, n.hand⟩ (.lst upd_same (Reps.mono sub _ _ e3))
    exact p3 _ H1 G2 (r1.setV r2) Sub.refl
  | exc x s1 => rw [q] at p2; exact p2
  | bad => rw [q] at p2; exact p2.elim
theorem sv_setLcV {i : Nat} {y : PySem.Str} {py spos : Pos} {scope : Scope} {own : List (PySem.Str × Nat)} {w : As S} {is : List Nat} {u : Tg} {ifs : List Expr} {t : T S} {f : E S} (hc : X.calm = true) (hN : X.N.Nodup) (hy : X.N[i]? = some y) (hyl : X.env.scope.names.lookup y = some .local)
    (hsw : swapsWith (.ListComp e [⟨tg, e2, ifs, 0⟩] scope pos) (some (.Name y py)) spos.line X.env = pure true) (hi : IB C HK X W tg e2 w) (ok : BlkOk X.N X.env.scope scope own)
    (hg : GVb C HK X scope tg is u) (ht : TVb C HK X scope ifs t) (he : EVb C HK X scope e f) (sub : ∀ j ∈ is, j ∈ own.map (·.2)) (hs : ∀ x, foldedSetIterable e2 X.env x = pure x := by intro _; rfl) :
    SV C HK X W (.Assign [.Name y py] (.ListComp e [⟨tg, e2, ifs, 0⟩] scope pos) spos) (gSet i (eOf (fLc w (own.map (·.2)) u t f))) :=
  PS.of (ps_setLc hc hN hy hyl hsw hi ok hg ht he hs) fun N σ H ⟨F, G, ρ, s, rel, p⟩ => by
    refine lc_read (W := W) (F := F) (G := G) (ρ := ρ) (s := s) rel sub ?_
    exact PostS.exprO rel p
end
end Fx
set_option Elab.async false
set_option linter.all false
set_option autoImplicit false
set_option maxRecDepth 100000
/-! Fx, rules 5: defs and their calls. -/
namespace Fx
open PySem PySem.Spec PyProof.Rows L2
section
variable {S : Type} {C : CI} {HK : HandK S} {X : Cx} {W : WX} {e e2 e3 tg : Expr} {es : List Expr} {pos : Pos} {st : Stmt} {sts sts2 : List Stmt}
/-- a def's promise: it does what m says -/
def SpM (C : CI) (HK : HandK S) (m : List Fx.D → S → R S Fx.D) : Sp := fun vs H Q E => ∃ HA G ds s, Reps C G ds vs ∧ Sub G H ∧ (∀ a o, G a = some o → a ∉ HA) ∧ HK.at_ s HA H ∧
  Post C HK (fun cls d _ H' => E cls d H') { HA := HA, H0 := H, G0 := G } G H [] (fun G' _ d v => Rep C G' d v) (m ds s) Q
/-- .. whose first argument is the hand -/
def SpH (C : CI) (HK : HandK S) (m : List Fx.D → S → R S Fx.D) : Sp := fun vs H Q E => ∃ HA G ds s ha r, vs = .ref ha :: r ∧ HA.head? = some ha ∧ Reps C G ds r ∧ Sub G H ∧ (∀ a o, G a = some o → a ∉ HA) ∧ HK.at_ s HA H ∧
  Post C HK (fun cls d _ H' => E cls d H') { HA := HA, H0 := H, G0 := G } G H [] (fun G' _ d v => Rep C G' d v) (m ds s) Q
/-- a def that may be called by its name -/
structure Cal (P : Program) (w : World) (K : PySem.W.Frag) (mg : PySem.Str → Option Value) (base : Heap) (k : Nat) (x : PySem.Str) (sp : Sp) : Prop where
  ex : ∃ (f : Addr) (fd : FuncData) (ps : List PySem.Str), FnOk P w K mg base (L2.CX P w) k f fd ps sp ∧ mg x = some (.ref f) ∧ PySem.W.keepIn K (.ref f) = true ∧ L2.Binds K fd ps []
theorem Cal.mono {P : Program} {w : World} {K : PySem.W.Frag} {mg : PySem.Str → Option Value} {base : Heap} {j k : Nat} {x : PySem.Str} {sp : Sp} (c : Cal P w K mg base j x sp) (h : j ≤ k) : Cal P w K mg base k x sp := by
  obtain ⟨f, fd, ps, h1, h2, h3, h4⟩ := c.ex
  exact ⟨f, fd, ps, h1.mono h, h2, h3, h4⟩
theorem Nxt.pure {F : Fix} {G H G' H' : Hp} {ρ : Env} {σ : L2.St} {s : S} (rel : Rel C HK F G ρ s σ H) (n : Nxt noHand [] G H () G' H') : Nxt HK F.HA G H s G' H' := by
  refine ⟨⟨n.ext.sub, n.ext.new, fun a o e _ => n.ext.kp a o e (by simp), fun a o e => ?_, n.ext.le⟩, HK.loc _ _ _ _ rel.hand (fun a ha => ?_) fun a q e => n.ext.kp a _ e (by simp)⟩
  · rcases n.ext.new a o e with h | h
    · exact rel.off a o h
    · exact (rel.h0 h).2.1
  · obtain ⟨o, e⟩ := HK.trk _ _ _ rel.hand a ha
    rw [e]; exact n.ext.kp a o e (by simp)
theorem ev_callP {m : List Fx.D → Unit → R Unit Fx.D} {g : As S} {x : PySem.Str} {k : Nat} {p : Pos} (c : Cal X.prog X.w X.K X.mg X.base k x (SpM C noHand m)) (hr : Room k X.A) (tk : Takes X W) (hg : Gl X x) (ha : AV C HK X W (e :: es) g)
    (hdb : (x == ("__debug__" : PySem.Str)) = false := by decide) (he : starEach (e :: es) X.env = (false, eval e X.env) :: starEach es X.env := by rfl) (hpl : (backTo pos (starEach es X.env)).any (·.1) = false := by rfl) :
    EV C HK X W (.Call (.Name x p) (e :: es) [] pos) (eCallP m g) := by
  obtain ⟨f, fd, ps, h1, h2, h3, h4⟩ := c.ex
  refine PE.of (pe_callSD (E := WE W) h1 hr hg h2 h3 h4 .nil (fun σ => passAt tk σ) ha hdb he hpl) fun σ H Q ⟨F, G, ρ, s, rel, p⟩ => ⟨F, G, ρ, s, rel, (Post.step (RR := RRa C F ρ σ H) rel p).imp' fun vs H1 ⟨ds, s1, G1, rel1, x1, r, p1⟩ => ?_⟩
  refine ⟨[], G1, ds, (), by rw [List.append_nil]; exact r, rel1.le, fun _ _ _ => by simp, rfl, ?_⟩
  cases q : m ds () with
  | ok d u => rw [q] at p1; exact fun v H' G' n r => p1 v H' G' (Nxt.pure rel1 n) r
  | exc y u => rw [q] at p1; exact fun cls dd H' G' n r => p1 cls dd H' G' (Nxt.pure rel1 n) r
  | bad => rw [q] at p1; exact p1.elim
/-- a call of a def that takes the hand -/
theorem ev_callH {m : List Fx.D → S → R S Fx.D} {g : As S} {x y : PySem.Str} {k i : Nat} {p p1 : Pos} (c : Cal X.prog X.w X.K X.mg X.base k x (SpH C HK m)) (hr : Room k X.A) (tk : Takes X W) (hg : Gl X x) (hv : PE X (.Name y p1) (tVar i)) (ha : AV C HK X W es g)
    (hdb : (x == ("__debug__" : PySem.Str)) = false := by decide) (he : starEach (.Name y p1 :: es) X.env = (false, eval (.Name y p1) X.env) :: starEach es X.env := by rfl) (hpl : (backTo pos (starEach es X.env)).any (·.1) = false := by rfl) :
    EV C HK X W (.Call (.Name x p) (.Name y p1 :: es) [] pos) (eCallH i m g) := by
  obtain ⟨f, fd, ps, h1, h2, h3, h4⟩ := c.ex
  refine PE.of (pe_callSD (E := WE W) h1 hr hg h2 h3 h4 .nil (fun σ => passAt tk σ) (pa_cons hv ha he) hdb he hpl) fun σ H Q ⟨F, G, ρ, s, rel, p⟩ => ?_
  unfold eCallH at p
  cases q0 : ρ[i]? with
  | none => rw [q0] at p; exact p.elim
  | some lv =>
    rw [q0] at p
    cases lv with
    | hnd =>
      obtain ⟨ha, e1, e2⟩ := rel.slot i _ q0
      refine ⟨_, e1, F, G, ρ, s, rel, (Post.step (RR := RRa C F ρ σ H) rel p).imp' fun vs H1 ⟨ds, s1, G1, rel1, x1, r, p1⟩ => ?_⟩
      refine ⟨F.HA, G1, ds, s1, ha, vs, by rw [List.append_nil], e2, r, rel1.le, rel1.off, rel1.hand, ?_⟩
      cases q : m ds s1 with
      | ok d u => rw [q] at p1; exact fun v H' G' n r => p1 v H' G' n r
      | exc y u => rw [q] at p1; exact fun cls dd H' G' n r => p1 cls dd H' G' n r
      | bad => rw [q] at p1; exact p1.elim
    | _ => exact p.elim
end
section
variable {S : Type} {C : CI} {HK : HandK S} {P : Program} {w : World} {K : PySem.W.Frag} {mg : PySem.Str → Option Value} {base : Heap}
theorem start_get {N : List PySem.Str} {vs : List V} {i : Nat} {v : V} (h : vs[i]? = some v) : (L2.start N vs)[i]? = some (some v) := by
  unfold L2.start
  have hi : i < vs.length := (List.getElem?_eq_some_iff.mp h).1
  rw [List.getElem?_append_left (by rw [List.length_map]; exact hi), List.getElem?_map, h]
  rfl
theorem start_len {N : List PySem.Str} {vs : List V} (h : vs.length ≤ N.length) : (L2.start N vs).length = N.length := by
  unfold L2.start
  rw [List.length_append, List.length_map, List.length_replicate]
  omega
theorem env_at {pre : Env} {n i : Nat} {lv : LV} (h : (pre ++ List.replicate n LV.un)[i]? = some lv) : lv = .un ∨ pre[i]? = some lv := by
  by_cases hi : i < pre.length
  · rw [List.getElem?_append_left hi] at h; exact .inr h
  · rw [List.getElem?_append_right (by omega)] at h
    have := List.mem_of_getElem? h
    rw [List.mem_replicate] at this
    exact .inl this.2
/-- the end of a def -/
theorem PostS.end_ {HA : List Addr} {G H : Hp} {E : XK} {Q : VK} {r : RS S} (p : Post C HK (fun cls d _ H' => E cls d H') { HA := HA, H0 := H, G0 := G } G H [] (fun G' _ d v => Rep C G' d v) (endG r) Q) :
    PostS C HK (fun cls d _ H' => E cls d H') { HA := HA, H0 := H, G0 := G } G { nx := fun _ H' => Q .non H', rt := Q } r := by
  have nx : ∀ {G' : Hp} {ρ : Env} {s : S} {σ : L2.St} {H' : Hp}, Rel C HK { HA := HA, H0 := H, G0 := G } G' ρ s σ H' → Nxt HK HA G H s G' H' := fun r => ⟨⟨r.g0, r.gnew, r.fr, r.off, r.le⟩, r.hand⟩
  cases r with
  | nx ρ s => exact fun σ' H' G' rel _ => p _ H' G' (nx rel) .non
  | rt d s => exact fun v ρ σ' H' G' rel _ r => p v H' G' (nx rel) r
  | exc x ρ s => exact fun cls dd σ' H' G' rel _ r => p cls dd H' G' (nx rel) r
  | bk ρ s => exact p.elim
  | ct ρ s => exact p.elim
  | bad => exact p.elim
abbrev defCx (P : Program) (w : World) (K : PySem.W.Frag) (mg : PySem.Str → Option Value) (base : Heap) (N : List PySem.Str) (qual : PySem.Str) (sc : Scope) (f : Addr) (cdv : Value) (A : Around) (outer : List PySem.Env) (s : Shared) (H : Hp) (E : XK) : Cx := cxOf (L2.CX P w) P w K mg base N qual sc f cdv A outer s H E
abbrev WD (E : XK) : WX := fun cls d _ H' => E cls d H'
theorem def_takes {N : List PySem.Str} {qual : PySem.Str} {sc : Scope} {f : Addr} {cdv : Value} {A : Around} {outer : List PySem.Env} {s : Shared} {H : Hp} {E : XK} : Takes (defCx P w K mg base N qual sc f cdv A outer s H E) (WD E) := takes_of rfl rfl rfl rfl
theorem def_passes {N : List PySem.Str} {qual : PySem.Str} {sc : Scope} {f : Addr} {cdv : Value} {A : Around} {outer : List PySem.Env} {s : Shared} {H : Hp} {E : XK} : PassesOwn (model (defCx P w K mg base N qual sc f cdv A outer s H E).prog (defCx P w K mg base N qual sc f cdv A outer s H E).w) (defCx P w K mg base N qual sc f cdv A outer s H E).A (defCx P w K mg base N qual sc f cdv A outer s H E).env (defCx P w K mg base N qual sc f cdv A outer s H E).xe := passes_of rfl
/-- THE RULE for a def -/
theorem def_ok {x qual : PySem.Str} {st : Stmt} {f : Addr} {fd : FuncData} {N ps : List PySem.Str} {np n k : Nat} {g : Gs S} (Fu : L2.Fun K x qual st f fd) (Sc : FnScope N ps (defScope st)) (hp : ps.length = np) (hn : N.length = n)
    (hbody : ∀ (cdv : Value) (A : Around) (outer : List PySem.Env) (s : Shared) (H : Hp) (E : XK), Room k (A.deeper (envOfC qual (defScope st) s.heap.objs.size f cdv)) → SVs C HK (defCx P w K mg base N qual (defScope st) f cdv A outer s H E) (WD E) (defBody st) g) :
    FnOk P w K mg base (L2.CX P w) (k + 1) f fd ps (SpM C HK (runG np n g)) := by
  have hpn : ps.length ≤ N.length := by have := congrArg List.length Sc.pre; rw [List.length_take] at this; omega
  refine Fu.okX Sc (fun vs H Q E ⟨HA, G, ds, s, r, _, _, _, p⟩ => ?_) fun cdv A outer s H vs Q E hr ⟨HA, G, ds, s0, r, le, off, hand, p⟩ => ⟨_, hbody cdv A outer s H E hr, ?_⟩
  · unfold runG at p
    by_cases h : ds.length = np
    · rw [← Reps.length r, h, hp]
    · rw [if_neg h] at p; exact p.elim
  · unfold runG at p
    by_cases h : ds.length = np
    · rw [if_pos h] at p
      have hl : vs.length = np := by rw [← Reps.length r, h]
      refine ⟨{ HA := HA, H0 := H, G0 := G }, G, _, s0, ⟨?_, fun i lv e => ?_, fun i j a ⟨⟨lv, e1, e2⟩, _⟩ _ => ?_, le, off, Sub.refl, fun _ _ e => .inl e, fun _ _ e _ => e, hand⟩, PostS.end_ p⟩
      · rw [start_len (by omega), List.length_append, List.length_map, List.length_replicate]; omega
      · rcases env_at e with rfl | e
        · trivial
        · rw [List.getElem?_map] at e
          cases q : ds[i]? with
          | none => rw [q] at e; cases e
          | some d =>
            rw [q] at e
            cases e
            obtain ⟨v, e1, e2⟩ := Reps.get r q
            exact ⟨v, start_get e1, e2⟩
      · exfalso
        rcases env_at e1 with rfl | e1
        · cases e2
        · rw [List.getElem?_map] at e1
          cases q : ds[i]? with
          | none => rw [q] at e1; cases e1
          | some d => rw [q] at e1; cases e1; cases e2
    · rw [if_neg h] at p; exact p.elim
theorem def_okH {x qual : PySem.Str} {st : Stmt} {f : Addr} {fd : FuncData} {N ps : List PySem.Str} {np n k : Nat} {g : Gs S} (Fu : L2.Fun K x qual st f fd) (Sc : FnScope N ps (defScope st)) (hp : ps.length = np) (hn : N.length = n)
    (hbody : ∀ (cdv : Value) (A : Around) (outer : List PySem.Env) (s : Shared) (H : Hp) (E : XK), Room k (A.deeper (envOfC qual (defScope st) s.heap.objs.size f cdv)) → SVs C HK (defCx P w K mg base N qual (defScope st) f cdv A outer s H E) (WD E) (defBody st) g) :
    FnOk P w K mg base (L2.CX P w) (k + 1) f fd ps (SpH C HK (runH np n g)) := by
  have hpn : ps.length ≤ N.length := by have := congrArg List.length Sc.pre; rw [List.length_take] at this; omega
  refine Fu.okX Sc (fun vs H Q E ⟨HA, G, ds, s, ha, r0, e0, _, r, _, _, _, p⟩ => ?_) fun cdv A outer s H vs Q E hr ⟨HA, G, ds, s0, ha, r0, e0, eh, r, le, off, hand, p⟩ => ⟨_, hbody cdv A outer s H E hr, ?_⟩
  · unfold runH at p
    by_cases h : ds.length + 1 = np
    · rw [e0, List.length_cons, ← Reps.length r, h, hp]
    · rw [if_neg h] at p; exact p.elim
  · unfold runH at p
    by_cases h : ds.length + 1 = np
    · rw [if_pos h] at p
      have hl : vs.length = np := by rw [e0, List.length_cons, ← Reps.length r, h]
      have at_ : ∀ (i : Nat) (lv : LV), (LV.hnd :: (ds.map LV.val ++ List.replicate (n - np) LV.un))[i]? = some lv → lv = .un ∨ (i = 0 ∧ lv = .hnd) ∨ ∃ j d, i = j + 1 ∧ ds[j]? = some d ∧ lv = .val d := fun i lv e => by
        cases i with
        | zero => rw [List.getElem?_cons_zero] at e; cases e; exact .inr (.inl ⟨rfl, rfl⟩)
        | succ i =>
          rw [List.getElem?_cons_succ] at e
          rcases env_at e with rfl | e
          · exact .inl rfl
          · rw [List.getElem?_map] at e
            cases q : ds[i]? with
            | none => rw [q] at e; cases e
            | some d => rw [q] at e; cases e; exact .inr (.inr ⟨i, d, rfl, q, rfl⟩)
      refine ⟨{ HA := HA, H0 := H, G0 := G }, G, _, s0, ⟨?_, fun i lv e => ?_, fun i j a ⟨⟨lv, e1, e2⟩, _⟩ _ => ?_, le, off, Sub.refl, fun _ _ e => .inl e, fun _ _ e _ => e, hand⟩, PostS.end_ p⟩
      · rw [start_len (by omega), List.length_cons, List.length_append, List.length_map, List.length_replicate]; omega
      · rcases at_ i lv e with rfl | ⟨rfl, rfl⟩ | ⟨j, d, rfl, q, rfl⟩
        · trivial
        · exact ⟨ha, start_get (by rw [e0]; rfl), eh⟩
        · obtain ⟨v, e1, e2⟩ := Reps.get r q
          exact ⟨v, start_get (by rw [e0, List.getElem?_cons_succ]; exact e1), e2⟩
      · exfalso
        rcases at_ i lv e1 with rfl | ⟨rfl, rfl⟩ | ⟨j, d, rfl, q, rfl⟩ <;> cases e2
    · rw [if_neg h] at p; exact p.elim
end
end Fx
set_option linter.all false
/-! Fx, the semantics, second part: builtins, dicts, instances, exceptions. -/
namespace Fx
variable {S : Type}
/-! the same data -/
mutual
def D.same : D → D → Bool
  | .non, .non => true
  | .bl a, .bl b => a == b
  | .int a, .int b => a == b
  | .str a, .str b => a == b
  | .tup a, .tup b => D.sameL a b
  | .lst a, .lst b => D.sameL a b
  | _, _ => false
def D.sameL : List D → List D → Bool
  | [], [] => true
  | a :: as, b :: bs => D.same a b && D.sameL as bs
  | _, _ => false
end
mutual
theorem D.same_eq : ∀ {a b : D}, D.same a b = true → a = b
  | .non, b, h => by cases b <;> first | rfl | cases h
  | .bl x, b, h => by cases b <;> first | cases h; done | (rw [eq_of_beq h])
  | .int x, b, h => by cases b <;> first | cases h; done | (rw [eq_of_beq h])
  | .str x, b, h => by cases b <;> first | cases h; done | (rw [eq_of_beq h])
  | .tup x, b, h => by cases b <;> first | cases h; done | (rw [D.sameL_eq (as := x) h])
  | .lst x, b, h => by cases b <;> first | cases h; done | (rw [D.sameL_eq (as := x) h])
  | .dct x, b, h => by cases b <;> cases h
  | .ins x y, b, h => by cases b <;> cases h
theorem D.sameL_eq : ∀ {as bs : List D}, D.sameL as bs = true → as = bs
  | [], [], _ => rfl
  | [], _ :: _, h => by cases h
  | _ :: _, [], h => by cases h
  | a :: as, b :: bs, h => by
    have h' : (D.same a b && D.sameL as bs) = true := h
    rw [Bool.and_eq_true] at h'
    rw [D.same_eq h'.1, D.sameL_eq h'.2]
end
/-- repr(x) == repr(y), told where both are the same plain data -/
def dRepEq (a b : D) : Option D := if D.fine a && D.same a b then some (.bl true) else none
/-- an operation on one datum that makes a new list -/
def fUn (op : D → Option (List D)) (f : E S) : As S := fun ρ s => (f ρ s).bind fun a s => R.opt (op a) s
/-! sorted -/
def insL (d : D) : List D → List D
  | [] => [d]
  | e :: l => if D.lt e d then e :: insL d l else d :: e :: l
def isort : List D → List D
  | [] => []
  | d :: l => insL d (isort l)
/-- every two can be compared -/
def allCmp (l : List D) : Bool := l.all fun a => l.all fun b => D.cmp a b
/-- what sorted takes: ints, or tuples that are not empty -/
def isInt : D → Bool
  | .int _ => true
  | _ => false
def isTup1 : D → Bool
  | .tup (_ :: _) => true
  | _ => false
def sortable (l : List D) : Bool := D.fine (.tup l) && allCmp l && (l.all isInt || l.all isTup1)
def seqD : D → Option (List D)
  | .lst l => some l
  | .tup l => some l
  | _ => none
def dSorted (a : D) : Option (List D) := (seqD a).bind fun l => if sortable l && Nat.ble l.length lim then some (isort l) else none
/-- the first of the least -/
def minL : D → List D → D
  | m, [] => m
  | m, d :: l => minL (if D.lt d m then d else m) l
def maxL : D → List D → D
  | m, [] => m
  | m, d :: l => maxL (if D.lt m d then d else m) l
def dMinS (a : D) : Option D := (seqD a).bind fun l => match l with
  | [] => none
  | d :: l => if D.fine (.tup (d :: l)) && allCmp (d :: l) then some (minL d l) else none
def dMaxS (a : D) : Option D := (seqD a).bind fun l => match l with
  | [] => none
  | d :: l => if D.fine (.tup (d :: l)) && allCmp (d :: l) then some (maxL d l) else none
/-- t[::-1] of a tuple -/
def dRevT (a : D) : Option D := match a with
  | .tup l => some (.tup l.reverse)
  | _ => none
def dLs (a : D) : Option (List D) := seqD a
/-- x.index(y) -/
def idxD (y : D) : List D → Nat → Option Nat
  | [], _ => none
  | x :: l, n => if D.eqv x y then some n else idxD y l (n + 1)
def dIndex (a b : D) : Option D := (seqD a).bind fun l => if D.fine (.tup l) && D.fine b then (idxD b l 0).map fun n => .int n else none
end Fx
namespace Fx
/-- repr(x) == repr(y), told of the same whole numbers -/
def eRepI {S : Type} (f g : E S) : E S := fun ρ s => (f ρ s).bind fun a s => match a with
  | .int i => if decide (i.natAbs < 2 ^ 64) then (g ρ s).bind (fun b s => match b with
    | .int j => if decide (i = j) then .ok (.bl true) s else .bad
    | _ => .bad) else .bad
  | _ => .bad
/-- x.count(y) of a list -/
def dCountL (a b : D) : Option D := match a with
  | .lst l => if D.fine (.lst l) && D.fine b then some (.int ((l.countP fun z => D.eqv z b : Nat) : Int)) else none
  | _ => none
end Fx
namespace Fx
/-- a method of a list, with one argument -/
def eMl {S : Type} (op : D → D → Option D) (f g : E S) : E S := fun ρ s => (f ρ s).bind fun a s => match a with
  | .lst l => (g ρ s).bind fun b s => R.opt (op (.lst l) b) s
  | _ => .bad
end Fx
namespace Fx
/-! dicts -/
def lookD (k : D) : List (D × D) → Option D
  | [] => none
  | (a, d) :: l => if D.eqv a k then some d else lookD k l
/-- k may be asked of these -/
def kfit (l : List (D × D)) (k : D) : Bool := match l with
  | [] => isTK k || isLK k
  | (a, _) :: _ => (isTK a && isTK k) || (isLK a && isLK k)
/-- x[i], dicts too -/
def dIx2 (a b : D) : Option D := match a with
  | .dct l => if kfit l b then lookD b l else none
  | _ => dIx a b
def putD (k v : D) : List (D × D) → List (D × D)
  | [] => [(k, v)]
  | (a, d) :: l => if D.eqv a k then (a, v) :: l else (a, d) :: putD k v l
/-- all that is walked: lists, tuples, the keys of dicts -/
def wSeq2 {S : Type} (f : E S) : As S := fun ρ s => (f ρ s).bind fun a s => match a with
  | .lst l => .ok l s
  | .tup l => .ok l s
  | .dct l => .ok (l.map (·.1)) s
  | _ => .bad
/-- dict(zip(x, y)), a new dict kept for good: keys are tuples (each its own) -/
def zipD (l m : List D) : List (D × D) := (l.zip m).foldl (fun acc p => putD p.1 p.2 acc) []
def eDZip {S : Type} (f g : E S) : E S := fun ρ s => (f ρ s).bind fun a s => (g ρ s).bind fun b s => match seqD a, seqD b with
  | some l, some m => if l.all isTK && Nat.ble l.length lim && Nat.ble m.length lim then .ok (.dct (zipD l m)) s else .bad
  | _, _ => .bad
end Fx
namespace Fx
def isIS : D → Bool
  | .int _ => true
  | .str _ => true
  | _ => false
/-- {k: v}, kept for good -/
def eD1 {S : Type} (f g : E S) : E S := fun ρ s => (f ρ s).bind fun k s => (g ρ s).bind fun v s => if isIS k then .ok (.dct [(k, v)]) s else .bad
end Fx
namespace Fx
section
variable {S : Type}
/-! exceptions, instances -/
def gRaise (c : Nat) : Gs S := fun ρ s => .exc ⟨c, none⟩ ρ s
def gRaise1 (c : Nat) (f : E S) : Gs S := fun ρ s => sEnd (f ρ s) ρ fun d s => .exc ⟨c, some d⟩ ρ s
/-- x.f; tb tells each class's place of the field -/
def eFld (tb : Nat → Option Nat) (f : E S) : E S := fun ρ s => (f ρ s).bind fun a s => match a with
  | .ins c fs => R.opt ((tb c).bind fun j => fs[j]?) s
  | _ => .bad
/-- self.f, of an instance that is being made -/
def eSlf (i c j : Nat) : E S := fun ρ s => match ρ[i]? with
  | some (.slf c' fs) => if Nat.beq c' c then R.opt fs[j]? s else .bad
  | _ => .bad
/-- self.f = e, the field next in order -/
def gSelf (i c j : Nat) (f : E S) : Gs S := fun ρ s => match ρ[i]? with
  | some (.slf c' fs) => if Nat.beq c' c && Nat.beq fs.length j then sEnd (f ρ s) ρ fun d s => .nx (ρ.set i (.slf c (fs ++ [d]))) s else .bad
  | _ => .bad
def slfOf (ρ : Env) (i : Nat) : Option (Nat × List D) := match ρ[i]? with
  | some (.slf c fs) => some (c, fs)
  | _ => none
/-- an __init__'s end: the instance of class c with its n fields -/
def endI (c n : Nat) (r : RS S) : R S D := match r with
  | .nx ρ s => (match slfOf ρ 0 with
    | some (c', fs) => if Nat.beq c' c && Nat.beq fs.length n then .ok (.ins c fs) s else .bad
    | none => .bad)
  | .exc x _ s => .exc x s
  | _ => .bad
/-- an __init__: np parameters (self is the first), n names, nf fields -/
def runI (np n c nf : Nat) (g : Gs S) (as : List D) (s : S) : R S D := if as.length + 1 = np then endI c nf (g (LV.slf c [] :: (as.map LV.val ++ List.replicate (n - np) LV.un)) s) else .bad
def clrX (ρ : Env) : Env := ρ.map fun lv => match lv with
  | .exn _ => .un
  | lv => lv
def endX (i : Nat) (r : RS S) : RS S := match r with
  | .nx ρ s => .nx (ρ.set i .un) s
  | .rt d s => .rt d s
  | .bk ρ s => .bk (ρ.set i .un) s
  | .ct ρ s => .ct (ρ.set i .un) s
  | _ => .bad
/-- try: g / except those that cs tells as name i: h -/
def gTryAs (cs : Nat → Option Bool) (i : Nat) (g h : Gs S) : Gs S := fun ρ s => match g ρ s with
  | .exc x ρ' s' => (match cs x.c with
    | some true => endX i (h ((clrX ρ').set i (.exn x)) s')
    | some false => .exc x ρ' s'
    | none => .bad)
  | r => r
/-- isinstance(e, C), e the caught exception -/
def eIsE (i : Nat) (f : Nat → Option Bool) : E S := fun ρ s => match ρ[i]? with
  | some (.exn x) => R.opt ((f x.c).map D.bl) s
  | _ => .bad
/-- e.f of the caught exception -/
def eArgE (i : Nat) (c : Nat) : E S := fun ρ s => match ρ[i]? with
  | some (.exn x) => if Nat.beq x.c c then R.opt x.arg s else .bad
  | _ => .bad
end
end Fx
namespace Fx
section
variable {S : Type}
/-- call(), in a def that got what it calls -/
def eThunk (i : Nat) (th : S → R S D) : E S := fun ρ s => match ρ[i]? with
  | some .fnn => th s
  | _ => .bad
/-- a def that gets what it calls: n names, its body -/
def runT (n : Nat) (g : (S → R S D) → Gs S) (th : S → R S D) (s : S) : R S D := endG (g th (LV.fnn :: List.replicate (n - 1) LV.un) s)
/-- x(lambda: f); no exception comes out of x -/
def eLam (m : (S → R S D) → S → R S D) (f : E S) : E S := fun ρ s => match m (fun s' => f ρ s') s with
  | .ok d s' => .ok d s'
  | _ => .bad
end
end Fx
namespace Fx
section
variable {S : Type}
/-- targets = e -/
def gTgt (u : Tg) (f : E S) : Gs S := fun ρ s => sEnd (f ρ s) ρ fun d s => match u d ρ with
  | some ρ' => .nx ρ' s
  | none => .bad
/-- x, y = a, b: no tuple -/
def gPar (i j : Nat) (f g : E S) : Gs S := fun ρ s => sEnd (f ρ s) ρ fun a s => sEnd (g ρ s) ρ fun b s => .nx ((ρ.set i (.val a)).set j (.val b)) s
/-- x op= e, of whole numbers -/
def gAug (i : Nat) (op : Int → Int → Int) (f : E S) : Gs S := fun ρ s => match ρ[i]? with
  | some (.val (.int a)) => sEnd (f ρ s) ρ fun d s => match d with
    | .int b => .nx (ρ.set i (.val (.int (op a b)))) s
    | _ => .bad
  | _ => .bad
end
end Fx
set_option Elab.async false
set_option linter.all false
set_option autoImplicit false
set_option maxRecDepth 100000
/-! Fx, rules 6: builtin functions. -/
namespace Fx
open PySem PySem.Spec PyProof.Rows L2
section
variable {S : Type} {C : CI} {HK : HandK S} {X : Cx} {W : WX} {e e2 e3 : Expr} {es : List Expr} {pos p : Pos} {x : PySem.Str}
/-- an operation on one datum is what a rule says of a call with one argument -/
def Op1 (C : CI) (HK : HandK S) (W : WX) (r : List V → Hp → VK → Prop) (op : Fx.D → Option Fx.D) : Prop := ∀ (F : Fix) (G H : Hp) (ρ : Env) (s : S) (σ : L2.St) (a : Fx.D) (x : V) (Q : VK), Rel C HK F G ρ s σ H → BRep C F.HA G H a x →
  Post C HK W F G H σ (RRe C F ρ σ H) (R.opt (op a) s) Q → r [x] H Q
/-- .. that makes a new list -/
def Op1F (C : CI) (HK : HandK S) (W : WX) (r : List V → Hp → VK → Prop) (op : Fx.D → Option (List Fx.D)) : Prop := ∀ (F : Fix) (G0 H0 G H : Hp) (ρ : Env) (s : S) (σ : L2.St) (a : Fx.D) (x : V) (Q : VK), Rel C HK F G ρ s σ H → Ext F.HA G0 H0 G H → BRep C F.HA G H a x →
  Post C HK W F G H σ (RRf C F ρ σ H0) (R.opt (op a) s) Q → r [x] H Q
def Op1x (C : CI) (HK : HandK S) (W : WX) (r : List V → Hp → VK → Prop) (op : Fx.D → Fx.D → Option Fx.D) : Prop := ∀ (F : Fix) (G H : Hp) (ρ : Env) (s : S) (σ : L2.St) (a b : Fx.D) (x y : V) (Q : VK), Rel C HK F G ρ s σ H → BRep C F.HA G H a x → BRep C F.HA G H b y →
  Post C HK W F G H σ (RRe C F ρ σ H) (R.opt (op a b) s) Q → r [x, y] H Q
theorem tcb1 {r : List V → Hp → VK → Prop} {op : Fx.D → Option Fx.D} {f : E S} (so : Op1 C HK W r op) {σ : L2.St} {H : Hp} {Q : VK} (h : tE C HK W (eUn op f) σ H Q) : tCB r (tCons (tB C HK W f) tNil) σ H Q := by
  obtain ⟨F, G, ρ, s, rel, p⟩ := h
  exact ⟨F, G, ρ, s, rel, (Post.step (RR := RRb C F ρ σ H) rel p).imp' fun x H1 ⟨a, s1, G1, rel1, x1, r1, p1⟩ => so F G1 H1 ρ s1 σ a x Q rel1 r1 p1⟩
theorem tcb1f {r : List V → Hp → VK → Prop} {op : Fx.D → Option (List Fx.D)} {f : E S} (so : Op1F C HK W r op) {σ : L2.St} {H : Hp} {Q : VK} (h : tF C HK W (fUn op f) σ H Q) : tCB r (tCons (tB C HK W f) tNil) σ H Q := by
  obtain ⟨F, G, ρ, s, rel, p⟩ := h
  exact ⟨F, G, ρ, s, rel, (Post.step (RR := RRb C F ρ σ H) rel p).imp' fun x H1 ⟨a, s1, G1, rel1, x1, r1, p1⟩ => so F G H G1 H1 ρ s1 σ a x Q rel1 x1 r1 p1⟩
theorem tcb2 {r : List V → Hp → VK → Prop} {op : Fx.D → Fx.D → Option Fx.D} {f g : E S} (so : Op1x C HK W r op) {σ : L2.St} {H : Hp} {Q : VK} (h : tE C HK W (eBin op f g) σ H Q) : tCB r (tCons (tB C HK W f) (tCons (tB C HK W g) tNil)) σ H Q := by
  obtain ⟨F, G, ρ, s, rel, p⟩ := h
  exact ⟨F, G, ρ, s, rel, (Post.step (RR := RRb C F ρ σ H) rel p).imp' fun x H1 ⟨a, s1, G1, rel1, x1, r1, p1⟩ => 
    ⟨F, G1, ρ, s1, rel1, (Post.step (RR := RRb C F ρ σ H) rel1 p1).imp' fun y H2 ⟨b, s2, G2, rel2, x2, r2, p2⟩ => so F G2 H2 ρ s2 σ a b x y Q rel2 (r1.keep x2) r2 p2⟩⟩
section
variable {id T : String} {r : List V → Hp → VK → Prop} {f g : E S}
theorem ev_blt {op : Fx.D → Option Fx.D} (hc : CallR X (.builtin id) r) (so : Op1 C HK W r op) (hg : Gl X x) (hm : X.mg x = none) (hv : bootBuiltins x = some (.builtin id)) (hf : EB C HK X W e f) (hn : x ≠ "__name__" := by decide) (hdb : (x == ("__debug__" : PySem.Str)) = false := by decide)
    (he : starEach [e] X.env = (false, eval e X.env) :: starEach [] X.env := by rfl) (hpl : (backTo pos (starEach [] X.env)).any (·.1) = false := by rfl) : EV C HK X W (.Call (.Name x p) [e] [] pos) (eUn op f) :=
  PE.of (pe_callB hc hg hm hv (pa_cons hf pa_nil he) hn hdb he hpl) fun σ H Q h => tcb1 so h
theorem ev_bty {op : Fx.D → Option Fx.D} (hc : CallR X (.type T) r) (so : Op1 C HK W r op) (hg : Gl X x) (hm : X.mg x = none) (hv : bootBuiltins x = some (.type T)) (hf : EB C HK X W e f) (hn : x ≠ "__name__" := by decide) (hdb : (x == ("__debug__" : PySem.Str)) = false := by decide)
    (he : starEach [e] X.env = (false, eval e X.env) :: starEach [] X.env := by rfl) (hpl : (backTo pos (starEach [] X.env)).any (·.1) = false := by rfl) : EV C HK X W (.Call (.Name x p) [e] [] pos) (eUn op f) :=
  PE.of (pe_callTy hc hg hm hv (pa_cons hf pa_nil he) hn hdb he hpl) fun σ H Q h => tcb1 so h
theorem ef_blt {op : Fx.D → Option (List Fx.D)} (hc : CallR X (.builtin id) r) (so : Op1F C HK W r op) (hg : Gl X x) (hm : X.mg x = none) (hv : bootBuiltins x = some (.builtin id)) (hf : EB C HK X W e f) (hn : x ≠ "__name__" := by decide) (hdb : (x == ("__debug__" : PySem.Str)) = false := by decide)
    (he : starEach [e] X.env = (false, eval e X.env) :: starEach [] X.env := by rfl) (hpl : (backTo pos (starEach [] X.env)).any (·.1) = false := by rfl) : EF C HK X W (.Call (.Name x p) [e] [] pos) (fUn op f) :=
  PE.of (pe_callB hc hg hm hv (pa_cons hf pa_nil he) hn hdb he hpl) fun σ H Q h => tcb1f so h
theorem ef_bty {op : Fx.D → Option (List Fx.D)} (hc : CallR X (.type T) r) (so : Op1F C HK W r op) (hg : Gl X x) (hm : X.mg x = none) (hv : bootBuiltins x = some (.type T)) (hf : EB C HK X W e f) (hn : x ≠ "__name__" := by decide) (hdb : (x == ("__debug__" : PySem.Str)) = false := by decide)
    (he : starEach [e] X.env = (false, eval e X.env) :: starEach [] X.env := by rfl) (hpl : (backTo pos (starEach [] X.env)).any (·.1) = false := by rfl) : EF C HK X W (.Call (.Name x p) [e] [] pos) (fUn op f) :=
  PE.of (pe_callTy hc hg hm hv (pa_cons hf pa_nil he) hn hdb he hpl) fun σ H Q h => tcb1f so h
theorem ev_blt2 {op : Fx.D → Fx.D → Option Fx.D} (hc : CallR X (.builtin id) r) (so : Op1x C HK W r op) (hg : Gl X x) (hm : X.mg x = none) (hv : bootBuiltins x = some (.builtin id)) (hf : EB C HK X W e f) (hf2 : EB C HK X W e2 g) (hn : x ≠ "__name__" := by decide) (hdb : (x == ("__debug__" : PySem.Str)) = false := by decide)
    (he : starEach [e, e2] X.env = (false, eval e X.env) :: starEach [e2] X.env := by rfl) (he2 : starEach [e2] X.env = (false, eval e2 X.env) :: starEach [] X.env := by rfl) (hpl : (backTo pos (starEach [e2] X.env)).any (·.1) = false := by rfl) : EV C HK X W (.Call (.Name x p) [e, e2] [] pos) (eBin op f g) :=
  PE.of (pe_callB hc hg hm hv (pa_cons hf (pa_cons hf2 pa_nil he2) he) hn hdb he hpl) fun σ H Q h => tcb2 so h
end
theorem BRep.seq {HA : List Addr} {G H : Hp} {K : PySem.W.Frag} (s : Sub G H) {l : List Fx.D} {d : Fx.D} {v : V} (hd : seqD d = some l) (b : BRep C HA G H d v) : ∃ a xs, v = .ref a ∧ (SqL K H a xs ∨ SqT K H a xs) ∧ Reps C G l xs := by
  cases d <;> first | cases hd; done | skip
  · cases hd
    obtain ⟨a, xs, h1, h2, h3⟩ := b.tup
    exact ⟨a, xs, h1, .inr (SqT.of (s _ _ h2)), h3⟩
  · cases hd
    obtain ⟨a, xs, h1, h2, h3⟩ := b.lst s
    exact ⟨a, xs, h1, .inl (SqL.of h2), h3⟩
theorem so_len {K : PySem.W.Frag} : Op1 C HK W (fun xs H Q => ∃ p ys, xs = [.ref p] ∧ (SqL K H p ys ∨ SqT K H p ys) ∧ Q (.int ys.length) H) dLen := fun F G H ρ s σ a x Q rel ra q => by
  have key : ∀ l, seqD a = some l → dLen a = some (.int l.length) → ∃ p ys, [x] = [.ref p] ∧ (SqL K H p ys ∨ SqT K H p ys) ∧ Q (.int ys.length) H := fun l h h2 => by
    obtain ⟨p, xs, rfl, h3, h4⟩ := ra.seq (K := K) rel.le h
    rw [h2] at q
    refine ⟨p, xs, rfl, h3, ?_⟩
    rw [← Reps.length h4]
    exact q.here rel (.int _)
  cases a <;> first | exact q.elim | exact key _ rfl rfl
theorem reps_ints {G : Hp} : ∀ {l : List Fx.D} {ns : List Int} {xs : List V}, intsOf l = some ns → Reps C G l xs → xs = ns.map V.int
  | [], _, _, h, r => by cases r; cases h; rfl
  | d :: l, ns, _, h, r => by
    cases r with | cons a b =>
    cases d <;> first | cases h; done | skip
    rename_i i
    cases a
    simp only [intsOf] at h
    cases q : intsOf l with
    | none => rw [q] at h; cases h
    | some ms => rw [q] at h; cases h; rw [reps_ints q b]; rfl
theorem ints_reps {G : Hp} : ∀ {ns : List Int}, Reps C G (ns.map Fx.D.int) (ns.map V.int)
  | [] => .nil
  | _ :: _ => .cons (.int _) ints_reps
theorem reps_bls {G : Hp} : ∀ {l : List Fx.D} {ns : List Bool} {xs : List V}, blsOf l = some ns → Reps C G l xs → xs = ns.map V.bl
  | [], _, _, h, r => by cases r; cases h; rfl
  | d :: l, ns, _, h, r => by
    cases r with | cons a b =>
    cases d <;> first | cases h; done | skip
    rename_i i
    cases a
    simp only [blsOf] at h
    cases q : blsOf l with
    | none => rw [q] at h; cases h
    | some ms => rw [q] at h; cases h; rw [reps_bls q b]; rfl
theorem so_any {K : PySem.W.Frag} : Op1 C HK W (rAny K) dAny := fun F G H ρ s σ a x Q rel ra q => by
  cases a <;> first | exact q.elim | skip
  obtain ⟨p, xs, rfl, h2, h3⟩ := ra.lst rel.le
  simp only [dAny] at q
  cases z : blsOf _ with
  | none => rw [z] at q; exact q.elim
  | some bs =>
    rw [z] at q
    have e := reps_bls z h3
    subst e
    exact ⟨p, bs, rfl, SqL.of h2, Post.here rel q (.bl _)⟩
theorem so_all {K : PySem.W.Frag} : Op1 C HK W (rAll K) dAll := fun F G H ρ s σ a x Q rel ra q => by
  cases a <;> first | exact q.elim | skip
  obtain ⟨p, xs, rfl, h2, h3⟩ := ra.lst rel.le
  simp only [dAll] at q
  cases z : blsOf _ with
  | none => rw [z] at q; exact q.elim
  | some bs =>
    rw [z] at q
    have e := reps_bls z h3
    subst e
    exact ⟨p, bs, rfl, SqL.of h2, Post.here rel q (.bl _)⟩
end
end Fx
set_option Elab.async false
set_option linter.all false
set_option autoImplicit false
set_option maxRecDepth 100000
/-! Fx, sorted, min, max: the order of data as the library tells it. -/
namespace Fx
open PySem PySem.Spec PySem.W
/-! ### data that can be compared -/
mutual
theorem D.alikeP : ∀ a b : D, D.cmp a b = true → alike a.toP b.toP = true
  | .int _, b, h => by cases b <;> first | cases h; done | simp [D.toP, alike]
  | .tup l, b, h => by
    cases b <;> first | cases h; done | skip
    simp only [D.toP, alike]
    exact D.alikePL l _ h
  | .non, b, h => by cases b <;> cases h
  | .bl _, b, h => by cases b <;> cases h
  | .str _, b, h => by cases b <;> cases h
  | .lst _, b, h => by cases b <;> cases h
  | .dct _, b, h => by cases b <;> cases h
  | .ins _ _, b, h => by cases b <;> cases h
theorem D.alikePL : ∀ as bs : List D, D.cmpL as bs = true → alikeAll (D.toPL as) (D.toPL bs) = true
  | [], _, _ => by simp [D.toPL, alikeAll]
  | _ :: _, [], _ => by simp [D.toPL, alikeAll]
  | a :: as, b :: bs, h => by
    have h' : (D.cmp a b && D.cmpL as bs) = true := h
    rw [Bool.and_eq_true] at h'
    simp only [D.toPL, alikeAll, D.alikeP a b h'.1, D.alikePL as bs h'.2, Bool.and_self]
end
mutual
theorem D.ltP : ∀ a b : D, D.plain a = true → D.plain b = true → D.cmp a b = true → dataLt a.toP b.toP = D.lt a b
  | .int i, b, _, _, h => by
    cases b <;> first | cases h; done | skip
    simp only [D.toP, D.lt]
    exact dataLt_int _ _
  | .tup l, b, p, q, h => by
    cases b <;> first | cases h; done | skip
    simp only [D.toP, D.lt]
    rw [dataLt_tuple]
    exact D.ltPL l _ p q h
  | .non, b, _, _, h => by cases b <;> cases h
  | .bl _, b, _, _, h => by cases b <;> cases h
  | .str _, b, _, _, h => by cases b <;> cases h
  | .lst _, b, _, _, h => by cases b <;> cases h
  | .dct _, b, _, _, h => by cases b <;> cases h
  | .ins _ _, b, _, _, h => by cases b <;> cases h
theorem D.ltPL : ∀ as bs : List D, D.plainL as = true → D.plainL bs = true → D.cmpL as bs = true → PyProof.Rows.lexLt PyProof.Rows.itemOrd (keyToksAll (D.toPL as)) (keyToksAll (D.toPL bs)) = D.ltL as bs
  | [], [], _, _, _ => by simp only [D.toPL, D.ltL]; exact PyProof.Rows.lex_irrefl _
  | [], b :: bs, _, _, _ => by
    simp only [D.toPL, D.ltL]
    rw [toks_all_cons]
    simp only [keyToksAll]
    rw [PyProof.Rows.lex_diff (O := PyProof.Rows.itemOrd) (by simp)]
    rfl
  | a :: as, [], _, _, _ => by
    simp only [D.toPL, D.ltL]
    rw [toks_all_cons]
    simp only [keyToksAll]
    rw [PyProof.Rows.lex_diff (O := PyProof.Rows.itemOrd) (by simp)]
    rfl
  | a :: as, b :: bs, p, q, h => by
    have h' : (D.cmp a b && D.cmpL as bs) = true := h
    have p' : (D.plain a && D.plainL as) = true := p
    have q' : (D.plain b && D.plainL bs) = true := q
    rw [Bool.and_eq_true] at h' p' q'
    simp only [D.toPL, D.ltL]
    rw [dataLt_cons (D.alikeP a b h'.1), D.eqvP a b p'.1 q'.1, D.ltP a b p'.1 q'.1 h'.1, D.ltPL as bs p'.2 q'.2 h'.2]
end
mutual
theorem D.toP_inj : ∀ a b : D, D.plain a = true → D.plain b = true → a.toP = b.toP → a = b
  | .int _, b, _, q, h => by cases b <;> first | (cases q; done) | simp_all [D.toP]
  | .bl _, b, _, q, h => by cases b <;> first | (cases q; done) | simp_all [D.toP]
  | .non, b, _, q, h => by cases b <;> first | (cases q; done) | simp_all [D.toP]
  | .str _, b, _, q, h => by cases b <;> first | (cases q; done) | simp_all [D.toP]
  | .tup l, b, p, q, h => by
    cases b <;> first | (cases q; done) | (simp [D.toP] at h; done) | skip
    simp only [D.toP, PyData.tuple.injEq] at h
    rw [D.toPL_inj l _ p q h]
  | .lst l, b, p, q, h => by
    cases b <;> first | (cases q; done) | (simp [D.toP] at h; done) | skip
    simp only [D.toP, PyData.list.injEq] at h
    rw [D.toPL_inj l _ p q h]
  | .dct _, _, p, _, _ => by cases p
  | .ins _ _, _, p, _, _ => by cases p
theorem D.toPL_inj : ∀ as bs : List D, D.plainL as = true → D.plainL bs = true → D.toPL as = D.toPL bs → as = bs
  | [], [], _, _, _ => rfl
  | [], _ :: _, _, _, h => by simp [D.toPL] at h
  | _ :: _, [], _, _, h => by simp [D.toPL] at h
  | a :: as, b :: bs, p, q, h => by
    have p' : (D.plain a && D.plainL as) = true := p
    have q' : (D.plain b && D.plainL bs) = true := q
    rw [Bool.and_eq_true] at p' q'
    simp only [D.toPL, List.cons.injEq] at h
    rw [D.toP_inj a b p'.1 q'.1 h.1, D.toPL_inj as bs p'.2 q'.2 h.2]
end
theorem allCmp_at {l : List D} (h : allCmp l = true) {a b : D} (ha : a ∈ l) (hb : b ∈ l) : D.cmp a b = true := by
  unfold allCmp at h
  rw [List.all_eq_true] at h
  have := h a ha
  rw [List.all_eq_true] at this
  exact this b hb
/-- least or equal, as the library sorts -/
abbrev leP (a b : D) : Bool := dataLe false D.toP a b
theorem leP_eq {a b : D} : leP a b = !dataLt b.toP a.toP := rfl
theorem leP_total : TotalLe leP := sortLe_total (PyProof.Rows.listOrd PyProof.Rows.itemOrd) false fun b : D => keyToks b.toP
theorem leP_lt {l : List D} (p : D.plainL l = true) (c : allCmp l = true) {a b : D} (ha : a ∈ l) (hb : b ∈ l) : leP a b = !D.lt b a := by
  rw [leP_eq, D.ltP b a (plainL_mem p _ hb) (plainL_mem p _ ha) (allCmp_at c hb ha)]
mutual
theorem D.cmp_comm : ∀ a b : D, D.cmp a b = D.cmp b a
  | .int _, b => by cases b <;> rfl
  | .tup l, b => by
    cases b <;> first | rfl | exact D.cmpL_comm l _
  | .non, b => by cases b <;> rfl
  | .bl _, b => by cases b <;> rfl
  | .str _, b => by cases b <;> rfl
  | .lst _, b => by cases b <;> rfl
  | .dct _, b => by cases b <;> rfl
  | .ins _ _, b => by cases b <;> rfl
theorem D.cmpL_comm : ∀ as bs : List D, D.cmpL as bs = D.cmpL bs as
  | [], [] => rfl
  | [], _ :: _ => rfl
  | _ :: _, [] => rfl
  | a :: as, b :: bs => by
    show (D.cmp a b && D.cmpL as bs) = (D.cmp b a && D.cmpL bs as)
    rw [D.cmp_comm a b, D.cmpL_comm as bs]
end
mutual
theorem D.eqv_refl : ∀ a : D, D.plain a = true → D.eqv a a = true
  | .non, _ => rfl
  | .bl b, _ => by simp [D.eqv]
  | .int i, _ => by simp [D.eqv]
  | .str x, _ => by simp [D.eqv]
  | .tup l, p => D.eqvL_refl l p
  | .lst l, p => D.eqvL_refl l p
  | .dct _, p => by cases p
  | .ins _ _, p => by cases p
theorem D.eqvL_refl : ∀ as : List D, D.plainL as = true → D.eqvL as as = true
  | [], _ => rfl
  | a :: as, p => by
    have p' : (D.plain a && D.plainL as) = true := p
    rw [Bool.and_eq_true] at p'
    show (D.eqv a a && D.eqvL as as) = true
    rw [D.eqv_refl a p'.1, D.eqvL_refl as p'.2]; rfl
end
mutual
theorem D.eqv_cmp : ∀ a b : D, D.cmp a b = true → D.eqv a b = true → a = b
  | .int i, b, h, e => by
    cases b <;> first | cases h; done | skip
    rw [eq_of_beq e]
  | .tup l, b, h, e => by
    cases b <;> first | cases h; done | skip
    rw [D.eqvL_cmp l _ h e]
  | .non, b, h, _ => by cases b <;> cases h
  | .bl _, b, h, _ => by cases b <;> cases h
  | .str _, b, h, _ => by cases b <;> cases h
  | .lst _, b, h, _ => by cases b <;> cases h
  | .dct _, b, h, _ => by cases b <;> cases h
  | .ins _ _, b, h, _ => by cases b <;> cases h
theorem D.eqvL_cmp : ∀ as bs : List D, D.cmpL as bs = true → D.eqvL as bs = true → as = bs
  | [], [], _, _ => rfl
  | [], b :: bs, _, h1 => by simp [D.eqvL] at h1
  | a :: as, [], _, h2 => by simp [D.eqvL] at h2
  | a :: as, b :: bs, h, e => by
    have h' : (D.cmp a b && D.cmpL as bs) = true := h
    have e' : (D.eqv a b && D.eqvL as bs) = true := e
    rw [Bool.and_eq_true] at h' e'
    rw [D.eqv_cmp a b h'.1 e'.1, D.eqvL_cmp as bs h'.2 e'.2]
end
mutual
theorem D.lt_tri : ∀ a b : D, D.plain a = true → D.cmp a b = true → D.lt a b = false → D.lt b a = false → a = b
  | .int i, b, _, h, h1, h2 => by
    cases b <;> first | cases h; done | skip
    simp only [D.lt, decide_eq_false_iff_not] at h1 h2
    congr 1; omega
  | .tup l, b, p, h, h1, h2 => by
    cases b <;> first | cases h; done | skip
    rw [D.ltL_tri l _ p h h1 h2]
  | .non, b, _, h, _, _ => by cases b <;> cases h
  | .bl _, b, _, h, _, _ => by cases b <;> cases h
  | .str _, b, _, h, _, _ => by cases b <;> cases h
  | .lst _, b, _, h, _, _ => by cases b <;> cases h
  | .dct _, b, _, h, _, _ => by cases b <;> cases h
  | .ins _ _, b, _, h, _, _ => by cases b <;> cases h
theorem D.ltL_tri : ∀ as bs : List D, D.plainL as = true → D.cmpL as bs = true → D.ltL as bs = false → D.ltL bs as = false → as = bs
  | [], [], _, _, _, _ => rfl
  | [], b :: bs, _, _, h1, _ => by simp [D.ltL] at h1
  | a :: as, [], _, _, _, h2 => by simp [D.ltL] at h2
  | a :: as, b :: bs, p, h, h1, h2 => by
    have h' : (D.cmp a b && D.cmpL as bs) = true := h
    have p' : (D.plain a && D.plainL as) = true := p
    rw [Bool.and_eq_true] at h' p'
    simp only [D.ltL] at h1 h2
    by_cases e1 : D.eqv a b = true
    · have e0 := D.eqv_cmp a b h'.1 e1
      subst e0
      rw [if_pos e1] at h1 h2
      rw [D.ltL_tri as bs p'.2 h'.2 h1 h2]
    · by_cases e2 : D.eqv b a = true
      · have e0 := D.eqv_cmp b a (by rw [D.cmp_comm]; exact h'.1) e2
        subst e0
        exact absurd e2 e1
      · rw [if_neg e1] at h1
        rw [if_neg e2] at h2
        have e0 := D.lt_tri a b p'.1 h'.1 h1 h2
        subst e0
        exact absurd (D.eqv_refl a p'.1) e1
end
/-! ### isort is THE sorted list -/
theorem insL_perm (d : D) : ∀ l : List D, (insL d l).Perm (d :: l)
  | [] => List.Perm.refl _
  | e :: l => by
    unfold insL
    split
    · exact ((insL_perm d l).cons e).trans (List.Perm.swap d e l)
    · exact List.Perm.refl _
theorem isort_perm : ∀ l : List D, (isort l).Perm l
  | [] => List.Perm.refl _
  | d :: l => (insL_perm d _).trans ((isort_perm l).cons d)
theorem mem_skip {d e x : D} {l : List D} (h : x ∈ d :: l) : x ∈ d :: e :: l := by
  rcases List.mem_cons.mp h with rfl | h
  · exact List.mem_cons_self
  · exact List.mem_cons_of_mem _ (List.mem_cons_of_mem _ h)
theorem insL_sorted {d : D} : ∀ {l : List D}, (d :: l).Pairwise (fun _ _ => True) → (∀ a ∈ d :: l, ∀ b ∈ d :: l, leP a b = !D.lt b a) → l.Pairwise (fun a b => leP a b = true) → (insL d l).Pairwise fun a b => leP a b = true
  | [], _, _, _ => List.pairwise_singleton _ _
  | e :: l, _, h, s => by
    unfold insL
    have s' := List.pairwise_cons.mp s
    have ed : leP e d = !D.lt d e := h e (by simp) d (by simp)
    have de : leP d e = !D.lt e d := h d (by simp) e (by simp)
    split
    · rename_i q
      refine List.pairwise_cons.mpr ⟨fun x hx => ?_, insL_sorted (List.pairwise_of_forall fun _ _ => trivial) (fun a ha b hb => h a (mem_skip ha) b (mem_skip hb)) s'.2⟩
      rcases List.mem_cons.mp ((insL_perm d l).mem_iff.mp hx) with rfl | hx
      · rcases leP_total.total e x with z | z
        · exact z
        · rw [de, q] at z; cases z
      · exact s'.1 x hx
    · rename_i q
      have z : leP d e = true := by rw [de]; simpa using q
      refine List.pairwise_cons.mpr ⟨fun x hx => ?_, s⟩
      rcases List.mem_cons.mp hx with rfl | hx
      · exact z
      · exact leP_total.trans _ _ _ z (s'.1 x hx)
theorem isort_sorted : ∀ {l : List D}, (∀ a ∈ l, ∀ b ∈ l, leP a b = !D.lt b a) → (isort l).Pairwise fun a b => leP a b = true
  | [], _ => List.Pairwise.nil
  | d :: l, h => by
    refine insL_sorted (List.pairwise_of_forall fun _ _ => trivial) (fun a ha b hb => h a ?_ b ?_) (isort_sorted fun a ha b hb => h a (List.mem_cons_of_mem _ ha) b (List.mem_cons_of_mem _ hb))
    · simp only [List.mem_cons] at ha ⊢
      exact ha.imp id fun z => (isort_perm l).mem_iff.mp z
    · simp only [List.mem_cons] at hb ⊢
      exact hb.imp id fun z => (isort_perm l).mem_iff.mp z
theorem sorted_uniq {r : D → D → Prop} : ∀ {l m : List D}, l.Perm m → (∀ a ∈ l, ∀ b ∈ l, r a b → r b a → a = b) → l.Pairwise r → m.Pairwise r → l = m
  | [], m, p, _, _, _ => (List.Perm.nil_eq p)
  | x :: l, [], p, _, _, _ => absurd p.length_eq (by simp)
  | x :: l, y :: m, p, an, sl, sm => by
    have e : x = y := by
      have hx := p.mem_iff.mp (List.mem_cons_self (a := x) (l := l))
      have hy := p.mem_iff.mpr (List.mem_cons_self (a := y) (l := m))
      rcases List.mem_cons.mp hx with e | hx
      · exact e
      · rcases List.mem_cons.mp hy with e | hy
        · exact e.symm
        · exact an x (by simp) y (by simp [hy]) ((List.pairwise_cons.mp sl).1 y hy) ((List.pairwise_cons.mp sm).1 x hx)
    subst e
    rw [sorted_uniq (List.Perm.cons_inv p) (fun a ha b hb => an a (List.mem_cons_of_mem _ ha) b (List.mem_cons_of_mem _ hb)) (List.pairwise_cons.mp sl).2 (List.pairwise_cons.mp sm).2]
theorem isort_eq {l : List D} (p : D.plainL l = true) (c : allCmp l = true) : l.mergeSort leP = isort l := by
  have pm := List.mergeSort_perm l leP
  refine sorted_uniq (r := fun a b => leP a b = true) (pm.trans (isort_perm l).symm) (fun a ha b hb h1 h2 => ?_) (sort_pairwise leP_total l) (isort_sorted fun a ha b hb => leP_lt p c ha hb)
  have ha' := pm.mem_iff.mp ha
  have hb' := pm.mem_iff.mp hb
  rw [leP_lt p c ha' hb'] at h1
  rw [leP_lt p c hb' ha'] at h2
  exact D.lt_tri a b (plainL_mem p _ ha') (allCmp_at c ha' hb') (by simpa using h2) (by simpa using h1)
end Fx
set_option Elab.async false
set_option linter.all false
set_option autoImplicit false
set_option maxRecDepth 100000
/-! Fx, rules 7: sum, sorted, min, max, tuple, list, int. -/
namespace Fx
open PySem PySem.Spec PyProof.Rows L2
/-! ### what the library's rules ask, over lists and tuples -/
section
variable {prog : Program} {w : World} {A : Around} {E : Value → Shared → Prop} {s : Shared} {l : Addr}
theorem tup_kept {h' : Heap} (hk : ∀ b o, b ∉ [s.heap.objs.size] → (s.heap.push { cls := .type "tuple_iterator", data := .fields #[.ref l, .int 0 0] }).get? b = some o → h'.get? b = some o) :
    ∀ b o, s.heap.get? b = some o → h'.get? b = some o := fun b o e => by
  refine hk b o (fun hm => ?_) (Heap.get?_push_of_some _ e)
  rcases List.mem_cons.mp hm with e1 | hm
  · exact absurd (e1 ▸ Heap.lt_size e) (Nat.lt_irrefl _)
  · cases hm
theorem iter_tup0 {items : Array Value} {Q : Value → Shared → Prop} (hl : s.heap.IsTuple l items)
    (h : ∀ s₂ : Shared, s₂ = { s with heap := s.heap.push { cls := .type "tuple_iterator", data := .fields #[.ref l, .int 0 0] } } →
      (s₂.heap.IsTupleIter s.heap.objs.size l 0 ∧ s₂.heap.IsTuple l items) → (∀ b ∈ [s.heap.objs.size, l], b < s₂.heap.objs.size) → l ≠ s.heap.objs.size → Q (.ref s.heap.objs.size) s₂) :
    wpAny (model prog w) A (pyIter (.ref l)) Q E s := by
  have hlt : l < s.heap.objs.size := by obtain ⟨_, e, _⟩ := hl; exact Heap.lt_size e
  refine wpAny_pyIter_tuple hl (h _ rfl ⟨⟨_, Heap.get?_push_size _ rfl, rfl, rfl⟩, hl.push _⟩ (fun b hb => ?_) (Nat.ne_of_lt hlt))
  show b < (s.heap.push _).objs.size
  rw [Heap.size_push]
  rcases List.mem_cons.mp hb with rfl | hb
  · exact Nat.lt_succ_self _
  · rcases List.mem_cons.mp hb with rfl | hb
    · exact Nat.lt_succ_of_lt hlt
    · cases hb
theorem sum_tup_raw {its : List Value} {ns : List Int} {Q : Value → Shared → Prop} (hh : A.handled = none) (hl : s.heap.IsTuple l its.toArray) (hi : IntsAre its ns)
    (h : ∀ h' tk t', (∀ b o, s.heap.get? b = some o → h'.get? b = some o) → Q (.int ns.sum t') { s with heap := h', toks := tk }) : wpAny (model prog w) A (call (.builtin "sum") [.ref l]) Q E s := by
  obtain ⟨xs, e⟩ := hi.allInts.items
  have hn : numsOf (intItems xs).toList = ns := by rw [← e]; exact hi.numsOf
  rw [nums_intItems] at hn
  rw [e] at hl
  refine call_sum_walkG (iter_tup0 hl fun s₂ e st hfp hlI => ?_)
  subst e
  refine ⟨_, _, _, _, _, _, numAt xs, rfl, Walks.tuple (A := A.in1) hh _ l hlI (intItems xs), st, hfp, (fun _ _ => intItems_at), fun h' tk t' hk => ?_⟩
  have := h h' tk t' (tup_kept hk)
  have e2 : preSum (numAt xs) (intItems xs).size = ns.sum := by
    rw [show (intItems xs).size = xs.size by simp [intItems], preSum_eq, List.take_of_length_le (by simp), hn]
  rw [e2]
  exact this
/-- the items of a tuple, collected -/
theorem collect_tup {vs : List Value} {Q : List Value → Shared → Prop} (hl : s.heap.IsTuple l vs.toArray)
    (h : Q vs { s with heap := (s.heap.push (seqObj "list" #[] 0)).update s.heap.objs.size (Obj.mapSeq (· ++ vs.toArray)) }) (hsz : vs.length ≤ sizeLine) :
    wpAny (model prog w) A (collect (.ref l)) Q E s := by
  obtain ⟨o, ho, hc, n, hd⟩ := id hl
  unfold collect
  refine wpAny_bind (wpAny_runValue (codeAny_builtin entry_proto_collect' ?_))
  show wpAny _ _ (do again (.builtin "list.__iadd__" ⟨[← newList [], .ref l], []⟩)) _ _ s
  refine wpAny_bind (wpAny_newList (wpAny_pure ⟨Code.quiet_builtin _ (by decide +kernel), codeAny_builtin entry_list_iadd' ?_⟩))
  show wpAny _ _ (Builtin.List.listExtendWith (.ref s.heap.objs.size) (.ref l) (.ref s.heap.objs.size)) _ _ { s with heap := s.heap.push (seqObj "list" #[] 0) }
  unfold Builtin.List.listExtendWith
  have ho' : (s.heap.push (seqObj "list" #[] 0)).get? l = some o := Heap.get?_push_of_some _ ho
  refine wpAny_bind (wpAny_typeOf (T := "tuple") ⟨o, ho', hc⟩ ?_)
  have ht : (Value.type "tuple" == Value.type "tuple") = true := by rfl
  rw [if_pos (by rw [ht]; simp)]
  refine wpAny_bind (listItems_at ho' hd ?_)
  refine wpAny_bind (listItems_at (xs := #[]) (n := 0) (Heap.get?_push_size _ rfl) rfl ?_)
  rw [if_neg (by simp)]
  refine wpAny_bind (listUpdate_at (xs := #[]) (n := 0) (Heap.get?_push_size _ rfl) rfl ?_ (Nat.zero_le _) (by show (#[] ++ vs.toArray).size ≤ sizeLine + 1; simp only [Array.size_append, List.size_toArray, List.length_nil]; omega))
  refine wpAny_pure ?_
  show wpAny (model prog w) A (do
      let o ← load s.heap.objs.size
      match o.data with
      | .seq xs _ => pure xs.toList
      | _ => unsupported "internal:collect") Q E { s with heap := (s.heap.push (seqObj "list" #[] 0)).update s.heap.objs.size (Obj.mapSeq (· ++ vs.toArray)) }
  refine wpAny_bind (wpAny_load (get?_update_seq (Heap.get?_push_size _ rfl) _) ?_)
  show wpAny _ _ (pure ((#[] : Array Value) ++ vs.toArray).toList) Q E _
  rw [show ((#[] : Array Value) ++ vs.toArray).toList = vs by simp]
  exact wpAny_pure h
theorem sorted_of_sortT {vs : List Value} {kw : List (PySem.Str × Value)} {Q : Value → Shared → Prop} (hl : s.heap.IsTuple l vs.toArray) (hL : vs.length ≤ sizeLine) (ha1 : argsOk "sorted" ⟨[.ref l], kw⟩) (ha2 : ∀ x, argsOk "list.sort" ⟨[.ref x], kw⟩)
    (body : ∀ E' : Value → Shared → Prop, wpAny (model prog w) A.in1.in1 (Builtin.«list.sort» ⟨[.ref (s.heap.objs.size + 1)], kw⟩) (fun f s' => f = .done (.ret .none) ∧ Q (.ref (s.heap.objs.size + 1)) s') E' { s with heap := PySem.W.copyHeap s.heap vs }) :
    wpAny (model prog w) A (call (.builtin "sorted") [.ref l] kw) Q E s := by
  refine call_function_entry_kw kind_sorted plain_sorted entry_sorted ha1 ?_
  unfold Builtin.«sorted»
  refine wpAny_bind (m := checkCount "sorted" 1 1 _) (wpAny_pure ?_)
  refine wpAny_bind (collect_tup hl ?_ hL)
  refine wpAny_bind (wpAny_newList ?_ hL)
  have hsz : ((s.heap.push (seqObj "list" #[] 0)).update s.heap.objs.size (Obj.mapSeq (· ++ vs.toArray))).objs.size = s.heap.objs.size + 1 := by
    rw [Heap.size_update, size_push']
  show wpAny _ _ _ _ _ { s with heap := PySem.W.copyHeap s.heap vs }
  rw [hsz]
  refine wpAny_bind (wpAny_holding (wpAny_call_entry_kw slot_list_sort ⟨_, PySem.W.copyHeap_at s.heap vs, rfl⟩ entry_list_sort ?body (ha2 _)))
  case body =>
    show wpAny (model prog w) A.in1.in1 (Builtin.«list.sort» ⟨[.ref (s.heap.objs.size + 1)], kw⟩) _ _ _
    refine wpAny_mono (body _) (fun f s' hf => ?_) fun _ _ e => e
    obtain ⟨rfl, hq⟩ := hf
    exact ⟨_, rfl, wpAny_pure ⟨_, rfl, hq⟩⟩
end

section
variable {S : Type} {C : CI} {HK : HandK S} {X : Cx} {W : WX}
/-! ### sum -/
def rSumX (K : PySem.W.Frag) : List V → Hp → VK → Prop := fun vs H Q => ∃ (a : Addr) (ns : List Int), vs = [V.ref a] ∧ (SqL K H a (ns.map V.int) ∨ SqT K H a (ns.map V.int)) ∧ Q (.int ns.sum) H
theorem cr_sumX (hc : X.calm = true) : CallR X (.builtin "sum") (rSumX X.K) := by
  intro pins s σ H vs us Q I r h
  obtain ⟨a, ns, rfl, hs, q⟩ := h
  rcases hs with hs | hs
  · exact cr_sum hc pins s σ H _ us Q I r ⟨a, ns, rfl, hs, q⟩
  · obtain ⟨its, rv, hl, _⟩ := I.tuple hs
    rw [Vals.ref1 r]
    exact sum_tup_raw (I.ok.hd hc) hl rv.ints fun h' tk t' hk => ⟨.int _, H, I.kept hk, ⟨_, rfl⟩, q⟩
theorem so_sum {K : PySem.W.Frag} : Op1 C HK W (rSumX K) dSum := fun F G H ρ s σ a x Q rel ra q => by
  have key : ∀ l, seqD a = some l → dSum a = ((intsOf l).map fun bs => Fx.D.int bs.sum) → rSumX K [x] H Q := fun l h h2 => by
    obtain ⟨p, xs, rfl, h3, h4⟩ := ra.seq (K := K) rel.le h
    rw [h2] at q
    cases z : intsOf l with
    | none => rw [z] at q; exact q.elim
    | some ns =>
      rw [z] at q
      have e := reps_ints z h4
      subst e
      exact ⟨p, ns, rfl, h3, Post.here rel q (.int _)⟩
  cases a <;> first | exact q.elim | exact key _ rfl rfl
/-! ### int, abs, max, min of two -/
theorem so_int : Op1 C HK W (fun xs H Q => (∃ i, xs = [.int i] ∧ Q (.int i) H) ∨ ∃ k, xs = [.bl k] ∧ Q (.int (if k then 1 else 0)) H) dInt := fun F G H ρ s σ a x Q rel ra q => by
  cases a <;> first | exact q.elim | skip
  · cases ra.rep rel.le; exact .inr ⟨_, rfl, q.here rel (.int _)⟩
  · cases ra.rep rel.le; exact .inl ⟨_, rfl, q.here rel (.int _)⟩
theorem so_abs : Op1 C HK W (fun xs H Q => ∃ i, xs = [.int i] ∧ Q (.int (if i < 0 then -i else i)) H) dAbs := fun F G H ρ s σ a x Q rel ra q => by
  cases a <;> first | exact q.elim | skip
  cases ra.rep rel.le; exact ⟨_, rfl, q.here rel (.int _)⟩
theorem so_max2 : Op1x C HK W (fun xs H Q => ∃ i j, xs = [.int i, .int j] ∧ Q (.int (if j > i then j else i)) H) dMax2 := fun F G H ρ s σ a b x y Q rel ra rb q => by
  cases a <;> first | exact q.elim | skip
  cases b <;> first | exact q.elim | skip
  cases ra.rep rel.le; cases rb.rep rel.le; exact ⟨_, _, rfl, q.here rel (.int _)⟩
theorem so_min2 : Op1x C HK W (fun xs H Q => ∃ i j, xs = [.int i, .int j] ∧ Q (.int (if j < i then j else i)) H) dMin2 := fun F G H ρ s σ a b x y Q rel ra rb q => by
  cases a <;> first | exact q.elim | skip
  cases b <;> first | exact q.elim | skip
  cases ra.rep rel.le; cases rb.rep rel.le; exact ⟨_, _, rfl, q.here rel (.int _)⟩
/-! ### tuple, list -/
theorem so_tuple {K : PySem.W.Frag} : Op1 C HK W (fun xs H Q => ∃ p ys, xs = [.ref p] ∧ ((SqL K H p ys ∧ ∀ l, H l = none → Q (.ref l) (upd H l (.tup ys))) ∨ (SqT K H p ys ∧ Q (.ref p) H))) dTuple := fun F G H ρ s σ a x Q rel ra q => by
  cases a <;> first | exact q.elim | skip
  · obtain ⟨p, xs, rfl, h2, h3⟩ := ra.tup
    exact ⟨p, xs, rfl, .inr ⟨SqT.of (rel.le _ _ h2), Post.here rel q (.tup h2 h3)⟩⟩
  · obtain ⟨p, xs, rfl, h2, h3⟩ := ra.lst rel.le
    refine ⟨p, xs, rfl, .inl ⟨SqL.of h2, fun l n => ?_⟩⟩
    have x := rel.newG (o := .tup xs) n
    exact q _ _ _ x (.tup upd_same (Reps.mono x.ext.sub _ _ h3))
theorem so_list {K : PySem.W.Frag} : Op1F C HK W (fun xs H Q => ∃ p ys, xs = [.ref p] ∧ (SqL K H p ys ∨ SqT K H p ys) ∧ ∀ l, H l = none → Q (.ref l) (upd H l (.lst ys))) dLs := fun F G0 H0 G H ρ s σ a x Q rel x0 ra q => by
  unfold dLs at q
  cases z : seqD a with
  | none => rw [z] at q; exact q.elim
  | some l =>
    rw [z] at q
    obtain ⟨p, xs, rfl, h3, h4⟩ := ra.seq (K := K) rel.le z
    exact ⟨p, xs, rfl, h3, fun b n => q _ _ _ (rel.new (o := .lst xs) n) (RRf.mk rel x0 n h4)⟩
/-! ### sorted -/
/-- sorted(x), x a list or a tuple of data -/
def rSortX (C : CI) (K : PySem.W.Frag) : List V → Hp → VK → Prop := fun vs H Q => ∃ (a : Addr) (l : List Fx.D) (xs : List V), vs = [V.ref a] ∧ (SqL K H a xs ∨ SqT K H a xs) ∧ Reps C H l xs ∧ sortable l = true ∧
  ∀ (ys : List V) (p : Addr), (∀ G, Reps C G l xs → Reps C G (isort l) ys) → H p = none → Q (.ref p) (upd H p (.lst ys))
theorem vals_each : ∀ {xs : List V} {us : List Value} {l : List Fx.D} {n : Nat}, Vals xs us → xs.length = l.length → PySem.W.EachIs (fun (v : Value) (b : Fx.D × V) => RelV b.2 v) us (l.zip xs)
  | [], _, [], _, h, _ => by cases h; exact .nil
  | x :: xs, _, d :: l, n, h, e => by cases h with | cons a b => exact .cons a (vals_each (n := n) b (by simpa using e))
  | [], _, _ :: _, _, _, e => by simp at e
  | _ :: _, _, [], _, _, e => by simp at e
theorem each_vals : ∀ {us : List Value} {zs : List (Fx.D × V)}, PySem.W.EachIs (fun (v : Value) (b : Fx.D × V) => RelV b.2 v) us zs → Vals (zs.map (·.2)) us
  | _, _, .nil => .nil
  | _, _, .cons a b => .cons a (each_vals b)
theorem reps_zip {G : Hp} : ∀ {l : List Fx.D} {xs : List V}, Reps C G l xs → ∀ z ∈ l.zip xs, Rep C G z.1 z.2
  | [], _, h, z, hz => by cases h; cases hz
  | d :: l, _, h, z, hz => by
    cases h with | cons a b =>
    rw [List.zip_cons_cons] at hz
    rcases List.mem_cons.mp hz with rfl | hz
    · exact a
    · exact reps_zip b z hz
theorem zip_reps {G : Hp} : ∀ {zs : List (Fx.D × V)}, (∀ z ∈ zs, Rep C G z.1 z.2) → Reps C G (zs.map (·.1)) (zs.map (·.2))
  | [], _ => .nil
  | z :: zs, h => .cons (h z (List.mem_cons_self ..)) (zip_reps fun y hy => h y (List.mem_cons_of_mem _ hy))
theorem cr_sortX (hu : X.A.units + 64 < cLine) : CallR X (.builtin "sorted") (rSortX C X.K) := by
  intro pins s σ H vs us Q I r h
  obtain ⟨a, l, xs, rfl, hs, rl, so, q⟩ := h
  rw [Vals.ref1 r]
  unfold sortable at so
  rw [Bool.and_eq_true, Bool.and_eq_true, Bool.or_eq_true] at so
  obtain ⟨⟨so1, so2⟩, so3⟩ := so
  obtain ⟨pl0, dl⟩ := D.fine_iff so1
  have pl : Fx.D.plainL l = true := pl0
  have dep : ∀ d ∈ l, d.depth ≤ 59 := fun d hd => by
    have h1 := depthL_mem hd
    have h2 : Fx.D.depth (.tup l) = Fx.D.depthL l + 1 := by simp [D.depth]
    omega
  have hlen : xs.length = l.length := (Reps.length rl).symm
  have gen : ∀ (its : List Value), Vals xs its → xs.length ≤ sizeLine → (∀ (κ : PyProof.Rows.KeyKind) (vs : List Value), vs = its → PySem.W.SortsAt X.prog X.w X.A.in1.in1 { s with heap := PySem.W.sortingHeap (PySem.W.copyHeap s.heap vs) (s.heap.objs.size + 1) vs } κ vs →
      EP X pins σ Q (.ref (s.heap.objs.size + 1)) { s with heap := sortedAll s.heap vs (PySem.W.sortVals κ false vs vs).toArray } → wpAny (model X.prog X.w) X.A (call (.builtin "sorted") [.ref a]) (EP X pins σ Q) X.xe s) → wpAny (model X.prog X.w) X.A (call (.builtin "sorted") [.ref a]) (EP X pins σ Q) X.xe s := fun its rv hz go => by
    have e0 := vals_each (n := 0) rv hlen
    have er : PySem.W.EachIs (fun (v : Value) (b : Fx.D × V) => ∃ as, Reads s.heap v b.1.toP as) its (l.zip xs) := by
      have e1 := PySem.W.each_mem e0
      refine e1.mono fun v b ⟨h1, h2⟩ => ?_
      have hb := reps_zip rl b h2
      exact Dp.reads I _ b.2 v (Rep.dp _ _ hb (plainL_mem pl _ (List.of_mem_zip (a := b.1) (b := b.2) h2).1)) h1
    have mem1 : ∀ b ∈ l.zip xs, b.1 ∈ l := fun b hb => (List.of_mem_zip (a := b.1) (b := b.2) hb).1
    have hal : PySem.W.AllAlike ((l.zip xs).map fun b => b.1.toP) := by
      intro d hd d' hd'
      obtain ⟨b, hb, rfl⟩ := List.mem_map.mp hd
      obtain ⟨b', hb', rfl⟩ := List.mem_map.mp hd'
      exact D.alikeP _ _ (allCmp_at so2 (mem1 b hb) (mem1 b' hb'))
    have hk : PySem.W.Sortable ((l.zip xs).map fun b => b.1.toP) := by
      rcases so3 with so3 | so3
      · refine .inr fun d hd => ?_
        obtain ⟨b, hb, rfl⟩ := List.mem_map.mp hd
        have := List.all_eq_true.mp so3 _ (mem1 b hb)
        cases hq : b.1 <;> rw [hq] at this <;> first | (cases this; done) | simp [D.toP]
      · refine .inl fun d hd => ?_
        obtain ⟨b, hb, rfl⟩ := List.mem_map.mp hd
        have := List.all_eq_true.mp so3 _ (mem1 b hb)
        cases hq : b.1 <;> rw [hq] at this <;> first | (cases this; done) | skip
        rename_i m
        cases m with
        | nil => cases this
        | cons x m => exact ⟨x.toP, D.toPL m, by simp [D.toP, D.toPL]⟩
    have er' : PySem.W.EachIs (fun (v : Value) (b : Fx.D × V) => ∃ as, Reads (PySem.W.sortingHeap (PySem.W.copyHeap s.heap its) (s.heap.objs.size + 1) its) v b.1.toP as) its (l.zip xs) := er.mono fun _ _ ⟨as, r⟩ => ⟨as, PyProof.Rows.Reads.keeps (fun _ _ => PySem.W.sorting_copy_old) r⟩
    have SA := PySem.W.SortsAt.data (prog := X.prog) (w := X.w) (A := X.A.in1.in1) (s := { s with heap := PySem.W.sortingHeap (PySem.W.copyHeap s.heap its) (s.heap.objs.size + 1) its }) (PySem.W.each_map (R := fun v d => ∃ as, Reads (PySem.W.sortingHeap (PySem.W.copyHeap s.heap its) (s.heap.objs.size + 1) its) v d as) (fun b : Fx.D × V => b.1.toP) er') hal hk (fun d hd => by
      obtain ⟨b, hb, rfl⟩ := List.mem_map.mp hd
      rw [D.dep]
      have := dep _ (mem1 b hb)
      show X.A.units + 1 + 1 + _ < cLine
      omega)
    refine go _ its rfl SA ?_
    have out := PySem.W.sortVals_data (h' := PySem.W.sortingHeap (PySem.W.copyHeap s.heap its) (s.heap.objs.size + 1) its) (enc := fun b : Fx.D × V => b.1.toP) false e0 er' hal
    generalize hO : PySem.W.sortVals (PySem.W.dataKind (PySem.W.sortingHeap (PySem.W.copyHeap s.heap its) (s.heap.objs.size + 1) its) ((l.zip xs).map fun b => b.1.toP)) false its its = O at out ⊢
    have ol : O.length = its.length := by rw [← hO]; exact PySem.W.sortVals_length false rfl
    have v := each_vals out
    obtain ⟨ep, he'⟩ := PyProof.Rows.sortedAll_at s.heap its O.toArray
    have zl : (((l.zip xs).mergeSort (PySem.W.dataLe false fun b : Fx.D × V => b.1.toP)).map (·.2)).length ≤ sizeLine := by
      rw [List.length_map, (List.mergeSort_perm _ _).length_eq, List.length_zip]
      have := rv.length
      omega
    refine ⟨.ref _, upd H (s.heap.objs.size + 1) (.lst _), I.laid (t' := s.toks) (fun _ _ => PyProof.Rows.sortedAll_old) (Nat.le_succ _) ⟨zl, O, ep, v, he'⟩, rfl, q _ _ (fun G rG => ?_) (I.hok.fresh (Nat.le_succ _))⟩
    have rz : ∀ z ∈ (l.zip xs).mergeSort (PySem.W.dataLe false fun b : Fx.D × V => b.1.toP), Rep C G z.1 z.2 := fun z hz => reps_zip rG z ((List.mergeSort_perm _ _).mem_iff.mp hz)
    have e2 := zip_reps rz
    have e3 : ((l.zip xs).mergeSort (PySem.W.dataLe false fun b : Fx.D × V => b.1.toP)).map (·.1) = isort l := by
      rw [← isort_eq pl so2]
      have := PySem.W.sort_maps (r := PySem.W.dataLe false fun b : Fx.D × V => b.1.toP) (s := leP) (l := l.zip xs) (fun b : Fx.D × V => b.1) (fun _ _ _ _ => rfl)
      rw [this, List.map_fst_zip (by omega)]
    rw [e3] at e2
    exact e2
  rcases hs with hs | hs
  · obtain ⟨its, rv, hl, hz⟩ := I.list hs
    exact gen its rv hz fun κ vs e S K => by
      subst e
      exact PySem.W.sorted_vals hl.isList S (by rw [← rv.length]; exact hz) K
  · obtain ⟨its, rv, hl, hz⟩ := I.tuple hs
    exact gen its rv hz fun κ vs e S K => by
      subst e
      exact sorted_of_sortT hl (by rw [← rv.length]; exact hz) (args_sorted1 _) (fun _ => args_list_sort _) fun _ => PySem.W.list_sort_vals (s := { s with heap := PySem.W.copyHeap s.heap vs }) (PySem.W.copyHeap_at s.heap vs) S (by rw [← rv.length]; exact hz) ⟨rfl, K⟩
theorem so_sorted {K : PySem.W.Frag} : Op1F C HK W (rSortX C K) dSorted := fun F G0 H0 G H ρ s σ a x Q rel x0 ra q => by
  unfold dSorted at q
  cases z : seqD a with
  | none => rw [z] at q; exact q.elim
  | some l =>
    rw [z] at q
    dsimp only [Option.bind] at q
    by_cases hb : (sortable l && Nat.ble l.length lim) = true
    · rw [if_pos hb] at q
      rw [Bool.and_eq_true] at hb
      obtain ⟨p, xs, rfl, h3, h4⟩ := ra.seq (K := K) rel.le z
      exact ⟨p, l, xs, rfl, h3, Reps.mono rel.le _ _ h4, hb.1, fun ys b f n => q _ _ _ (rel.new (o := .lst ys) n) (RRf.mk rel x0 n (f G h4))⟩
    · rw [if_neg hb] at q; exact q.elim
end
end Fx
set_option Elab.async false
set_option linter.all false
set_option autoImplicit false
set_option maxRecDepth 100000
/-! Fx, rules 8: min, max, repr, isinstance, places. -/
namespace Fx
open PySem PySem.Spec PyProof.Rows L2
theorem minL_mem : ∀ (l : List D) (m : D), minL m l ∈ m :: l
  | [], m => List.mem_cons_self
  | d :: l, m => by
    unfold minL
    have h := minL_mem l (if D.lt d m then d else m)
    rcases List.mem_cons.mp h with h | h
    · rw [h]; split
      · exact List.mem_cons_of_mem _ List.mem_cons_self
      · exact List.mem_cons_self
    · exact List.mem_cons_of_mem _ (List.mem_cons_of_mem _ h)
theorem maxL_mem : ∀ (l : List D) (m : D), maxL m l ∈ m :: l
  | [], m => List.mem_cons_self
  | d :: l, m => by
    unfold maxL
    have h := maxL_mem l (if D.lt m d then d else m)
    rcases List.mem_cons.mp h with h | h
    · rw [h]; split
      · exact List.mem_cons_of_mem _ List.mem_cons_self
      · exact List.mem_cons_self
    · exact List.mem_cons_of_mem _ (List.mem_cons_of_mem _ h)
theorem toPL_map : ∀ l : List D, D.toPL l = l.map D.toP
  | [] => rfl
  | d :: l => by simp only [D.toPL, List.map_cons, toPL_map l]
theorem minD_eq : ∀ (l : List D) (m : D), (∀ a ∈ m :: l, ∀ b ∈ m :: l, PySem.W.dataLt a.toP b.toP = D.lt a b) → PySem.W.minD m.toP (D.toPL l) = (minL m l).toP
  | [], m, _ => rfl
  | d :: l, m, h => by
    have e1 : PySem.W.minD m.toP (D.toPL (d :: l)) = PySem.W.minD (if PySem.W.dataLt d.toP m.toP then d.toP else m.toP) (D.toPL l) := by
      simp only [D.toPL]; rfl
    rw [e1, h d (by simp) m (by simp)]
    unfold minL
    cases q : D.lt d m with
    | true =>
      rw [if_pos rfl, if_pos rfl]
      exact minD_eq l d fun a ha b hb => h a (List.mem_cons_of_mem _ ha) b (List.mem_cons_of_mem _ hb)
    | false =>
      rw [if_neg Bool.false_ne_true, if_neg Bool.false_ne_true]
      exact minD_eq l m fun a ha b hb => h a (mem_skip ha) b (mem_skip hb)
theorem maxD_eq : ∀ (l : List D) (m : D), (∀ a ∈ m :: l, ∀ b ∈ m :: l, PySem.W.dataLt a.toP b.toP = D.lt a b) → PySem.W.maxD m.toP (D.toPL l) = (maxL m l).toP
  | [], m, _ => rfl
  | d :: l, m, h => by
    have e1 : PySem.W.maxD m.toP (D.toPL (d :: l)) = PySem.W.maxD (if PySem.W.dataLt m.toP d.toP then d.toP else m.toP) (D.toPL l) := by
      simp only [D.toPL]; rfl
    rw [e1, h m (by simp) d (by simp)]
    unfold maxL
    cases q : D.lt m d with
    | true =>
      rw [if_pos rfl, if_pos rfl]
      exact maxD_eq l d fun a ha b hb => h a (List.mem_cons_of_mem _ ha) b (List.mem_cons_of_mem _ hb)
    | false =>
      rw [if_neg Bool.false_ne_true, if_neg Bool.false_ne_true]
      exact maxD_eq l m fun a ha b hb => h a (mem_skip ha) b (mem_skip hb)
section
variable {S : Type} {C : CI} {HK : HandK S} {X : Cx} {W : WX} {e e2 e3 : Expr} {es : List Expr} {pos p : Pos}
/-- min(x), max(x) of a list or a tuple of data (f: minL or maxL) -/
def rMinX (C : CI) (K : PySem.W.Frag) (f : Fx.D → List Fx.D → Fx.D) : List V → Hp → VK → Prop := fun vs H Q => ∃ (a : Addr) (d : Fx.D) (l : List Fx.D) (xs : List V), vs = [V.ref a] ∧ (SqL K H a xs ∨ SqT K H a xs) ∧ Reps C H (d :: l) xs ∧ D.fine (.tup (d :: l)) = true ∧ allCmp (d :: l) = true ∧
  ∀ v : V, (∀ G, Reps C G (d :: l) xs → Rep C G (f d l) v) → Q v H
theorem minX_pre (hu : X.A.units + 64 < cLine) {pins : List (Addr × Obj)} {σ : L2.St} {H : Hp} {s : Shared} (I : L2.Inv X pins σ H s) {d : Fx.D} {l : List Fx.D} {xs : List V} {its : List Value} (rv : Vals xs its) (rl : Reps C H (d :: l) xs) (fi : D.fine (.tup (d :: l)) = true) (ac : allCmp (d :: l) = true) :
    (∃ as, ReadsAll s.heap its.toArray.toList (d.toP :: D.toPL l) as) ∧ PySem.W.AlikeAll (d.toP :: D.toPL l) ∧ X.A.units + 1 + PyData.depthAll (d.toP :: D.toPL l) < cLine ∧ (∀ a ∈ d :: l, ∀ b ∈ d :: l, PySem.W.dataLt a.toP b.toP = D.lt a b) ∧ Fx.D.plainL (d :: l) = true := by
  obtain ⟨pl0, dl⟩ := D.fine_iff fi
  have pl : Fx.D.plainL (d :: l) = true := pl0
  obtain ⟨as, r⟩ := Dp.readsAll I (D.toPL (d :: l)) xs its (Reps.dp _ _ rl pl) rv
  simp only [D.toPL] at r
  refine ⟨⟨as, by simpa using r⟩, ⟨fun x hx y hy => ?_, fun x hx => ?_⟩, ?_, fun a ha b hb => D.ltP a b (plainL_mem pl _ ha) (plainL_mem pl _ hb) (allCmp_at ac ha hb), pl⟩
  · have e : d.toP :: D.toPL l = (d :: l).map D.toP := by rw [toPL_map]; rfl
    rw [e] at hx hy
    obtain ⟨a, ha, rfl⟩ := List.mem_map.mp hx
    obtain ⟨b, hb, rfl⟩ := List.mem_map.mp hy
    exact D.alikeP _ _ (allCmp_at ac ha hb)
  · have e : d.toP :: D.toPL l = (d :: l).map D.toP := by rw [toPL_map]; rfl
    rw [e] at hx
    obtain ⟨a, ha, rfl⟩ := List.mem_map.mp hx
    have := allCmp_at ac ha ha
    cases a <;> first | (cases this; done) | simp [D.toP]
  · have e : PyData.depthAll (d.toP :: D.toPL l) = D.depthL (d :: l) := by rw [← D.depL]; simp only [D.toPL]
    rw [e]
    have h2 : Fx.D.depth (.tup (d :: l)) = Fx.D.depthL (d :: l) + 1 := by simp [D.depth]
    omega
theorem minX_fin {f : Fx.D → List Fx.D → Fx.D} (hf : ∀ d l, f d l ∈ d :: l) {pins : List (Addr × Obj)} {σ : L2.St} {H : Hp} {s : Shared} (I : L2.Inv X pins σ H s) {d : Fx.D} {l : List Fx.D} {xs : List V} {its : List Value} (rv : Vals xs its) (rl : Reps C H (d :: l) xs) (pl : Fx.D.plainL (d :: l) = true) (ac : allCmp (d :: l) = true) {Q : VK}
    (q : ∀ v : V, (∀ G, Reps C G (d :: l) xs → Rep C G (f d l) v) → Q v H) {i : Nat} {v : Value} {h' : Heap} {tk : Nat} {bs : List Addr} (hv : its.toArray[i]? = some v) (r : Reads h' v (f d l).toP bs) (hk : ∀ b o, s.heap.get? b = some o → h'.get? b = some o) : EP X pins σ Q v { s with heap := h', toks := tk } := by
  have hv' : its[i]? = some v := by simpa using hv
  have hi : i < its.length := (List.getElem?_eq_some_iff.mp hv').1
  have hx : i < xs.length := by have := rv.length; omega
  have hd : i < (d :: l).length := by rw [Reps.length rl]; exact hx
  have e0 : (d :: l)[i]? = some (d :: l)[i] := List.getElem?_eq_getElem hd
  obtain ⟨x, ex, rx⟩ := Reps.get rl e0
  obtain ⟨u, eu, ru⟩ := rv.get ex
  rw [hv'] at eu; cases eu
  have mi : (d :: l)[i] ∈ d :: l := List.getElem_mem hd
  obtain ⟨as, r1⟩ := Dp.reads I _ x v (Rep.dp _ _ rx (plainL_mem pl _ mi)) ru
  have eq := PySem.W.alike_unique _ _ _ _ _ (D.alikeP _ _ (allCmp_at ac mi (hf d l))) (PyProof.Rows.Reads.keeps hk r1) r
  have eq2 := D.toP_inj _ _ (plainL_mem pl _ mi) (plainL_mem pl _ (hf d l)) eq
  refine ⟨x, H, I.kept hk, ru, q x fun G rG => ?_⟩
  obtain ⟨x', ex', rx'⟩ := Reps.get rG e0
  rw [ex] at ex'; cases ex'
  rw [← eq2]; exact rx'
theorem cr_minX (hc : X.calm = true) (hu : X.A.units + 64 < cLine) : CallR X (.builtin "min") (rMinX C X.K minL) := by
  intro pins s σ H vs us Q I r h
  obtain ⟨a, d, l, xs, rfl, hs, rl, fi, ac, q⟩ := h
  rw [Vals.ref1 r]
  rcases hs with hs | hs
  · obtain ⟨its, rv, hl, hz⟩ := I.list hs
    obtain ⟨⟨as, h1⟩, h2, h3, h4, h5⟩ := minX_pre hu I rv rl fi ac
    refine PySem.W.min_list_data (I.ok.hd hc) hl.isList h1 h2 h3 fun i v h' tk bs hv r hk => ?_
    rw [minD_eq l d h4] at r
    exact minX_fin (fun d l => minL_mem l d) I rv rl h5 ac q hv r hk
  · obtain ⟨its, rv, hl, hz⟩ := I.tuple hs
    obtain ⟨⟨as, h1⟩, h2, h3, h4, h5⟩ := minX_pre hu I rv rl fi ac
    refine PySem.W.min_tuple_data (I.ok.hd hc) hl h1 h2 h3 fun i v h' tk bs hv r hk => ?_
    rw [minD_eq l d h4] at r
    exact minX_fin (fun d l => minL_mem l d) I rv rl h5 ac q hv r hk
theorem cr_maxX (hc : X.calm = true) (hu : X.A.units + 64 < cLine) : CallR X (.builtin "max") (rMinX C X.K maxL) := by
  intro pins s σ H vs us Q I r h
  obtain ⟨a, d, l, xs, rfl, hs, rl, fi, ac, q⟩ := h
  rw [Vals.ref1 r]
  rcases hs with hs | hs
  · obtain ⟨its, rv, hl, hz⟩ := I.list hs
    obtain ⟨⟨as, h1⟩, h2, h3, h4, h5⟩ := minX_pre hu I rv rl fi ac
    refine PySem.W.max_list_data (I.ok.hd hc) hl.isList h1 h2 h3 fun i v h' tk bs hv r hk => ?_
    rw [maxD_eq l d h4] at r
    exact minX_fin (fun d l => maxL_mem l d) I rv rl h5 ac q hv r hk
  · obtain ⟨its, rv, hl, hz⟩ := I.tuple hs
    obtain ⟨⟨as, h1⟩, h2, h3, h4, h5⟩ := minX_pre hu I rv rl fi ac
    refine PySem.W.max_tuple_data (I.ok.hd hc) hl h1 h2 h3 fun i v h' tk bs hv r hk => ?_
    rw [maxD_eq l d h4] at r
    exact minX_fin (fun d l => maxL_mem l d) I rv rl h5 ac q hv r hk
theorem so_minS {K : PySem.W.Frag} : Op1 C HK W (rMinX C K minL) dMinS := fun F G H ρ s σ a x Q rel ra q => by
  unfold dMinS at q
  cases z : seqD a with
  | none => rw [z] at q; exact q.elim
  | some l =>
    rw [z] at q
    cases l with
    | nil => exact q.elim
    | cons d l =>
      dsimp only [Option.bind] at q
      by_cases hb : (D.fine (.tup (d :: l)) && allCmp (d :: l)) = true
      · rw [if_pos hb] at q
        rw [Bool.and_eq_true] at hb
        obtain ⟨p, xs, rfl, h3, h4⟩ := ra.seq (K := K) rel.le z
        exact ⟨p, d, l, xs, rfl, h3, Reps.mono rel.le _ _ h4, hb.1, hb.2, fun v f => Post.here rel q (f G h4)⟩
      · rw [if_neg hb] at q; exact q.elim
theorem so_maxS {K : PySem.W.Frag} : Op1 C HK W (rMinX C K maxL) dMaxS := fun F G H ρ s σ a x Q rel ra q => by
  unfold dMaxS at q
  cases z : seqD a with
  | none => rw [z] at q; exact q.elim
  | some l =>
    rw [z] at q
    cases l with
    | nil => exact q.elim
    | cons d l =>
      dsimp only [Option.bind] at q
      by_cases hb : (D.fine (.tup (d :: l)) && allCmp (d :: l)) = true
      · rw [if_pos hb] at q
        rw [Bool.and_eq_true] at hb
        obtain ⟨p, xs, rfl, h3, h4⟩ := ra.seq (K := K) rel.le z
        exact ⟨p, d, l, xs, rfl, h3, Reps.mono rel.le _ _ h4, hb.1, hb.2, fun v f => Post.here rel q (f G h4)⟩
      · rw [if_neg hb] at q; exact q.elim
end
end Fx
set_option Elab.async false
set_option linter.all false
set_option autoImplicit false
set_option maxRecDepth 100000
/-! Fx, rules 9: places, slices, isinstance, repr, count. -/
namespace HTR
open PySem PySem.Spec PyProof.Rows HT
section
variable {prog : Program} {w : World} {A : Around} {E : Value → Shared → Prop} {s : Shared}
theorem places_rev (n : Nat) : Builtin.Slice.slicePlaces ((n : Int) - 1) (-1) (-1) = n := by
  unfold Builtin.Slice.slicePlaces
  have h1 : ¬ ((-1 : Int) > 0) := by omega
  simp only [h1, if_false]
  have e : (- -1 : Int) = 1 := by decide
  rw [e, Int.ediv_one]
  split <;> omega
theorem pick_rev (xs : Array Value) : ((List.range xs.size).filterMap fun (m : Nat) => xs[(((xs.size : Int) - 1) + (m : Int) * (-1)).toNat]?).toArray = xs.toList.reverse.toArray := by
  congr 1
  have e : ∀ m ∈ List.range xs.size, xs[(((xs.size : Int) - 1) + (m : Int) * (-1)).toNat]? = some (xs.toList.reverse.getD m .none) := fun m hm => by
    have hm := List.mem_range.mp hm
    have e1 : (((xs.size : Int) - 1) + (m : Int) * (-1)).toNat = xs.size - 1 - m := by omega
    rw [e1, List.getD_eq_getElem?_getD, List.getElem?_reverse (by simpa using hm)]
    simp only [Array.length_toList, Array.getElem?_toList]
    rw [Array.getElem?_eq_getElem (by omega)]
    rfl
  have fc : ∀ l : List Nat, (∀ m ∈ l, m ∈ List.range xs.size) → l.filterMap (fun (m : Nat) => xs[(((xs.size : Int) - 1) + (m : Int) * (-1)).toNat]?) = l.filterMap (fun m => some (xs.toList.reverse.getD m .none)) := fun l => by
    induction l with
    | nil => intro _; rfl
    | cons a l ih => intro h; rw [List.filterMap_cons, List.filterMap_cons, e a (h a (by simp)), ih fun m hm => h m (by simp [hm])]
  rw [fc _ fun _ h => h]
  apply List.ext_getElem?
  intro i
  by_cases hi : i < xs.size
  · rw [show (fun m => some (xs.toList.reverse.getD m Value.none)) = some ∘ (fun m => xs.toList.reverse.getD m Value.none) from rfl, List.filterMap_eq_map]
    rw [List.getElem?_map, List.getElem?_range hi]
    simp only [Option.map_some, List.getD_eq_getElem?_getD]
    rw [List.getElem?_eq_getElem (by simpa using hi)]
    rfl
  · rw [show (fun m => some (xs.toList.reverse.getD m Value.none)) = some ∘ (fun m => xs.toList.reverse.getD m Value.none) from rfl, List.filterMap_eq_map]
    rw [List.getElem?_eq_none (by simp; omega), List.getElem?_eq_none (by simp; omega)]
theorem sliceApplied_rev {sl : Addr} {vs : Value} {n : Nat} {Q : Int × Int × Nat → Shared → Prop} (hs : s.heap.IsSliceOf sl .none .none vs) (pv : IsPart vs (some (-1)))
    (h : Q ((n : Int) - 1, -1, n) s) : wpAny (model prog w) A (Builtin.Slice.sliceApplied (.ref sl) (pure (n : Int))) Q E s := by
  obtain ⟨os, hos, hcs, hds⟩ := id hs
  unfold Builtin.Slice.sliceApplied Builtin.Slice.sliceFields
  refine wpAny_bind (wpAny_bind (wpAny_field hos hds (x := .none) rfl (wpAny_bind (wpAny_field hos hds (x := .none) rfl (wpAny_bind (wpAny_field hos hds (x := vs) rfl (wpAny_pure ?_)))))))
  refine wpAny_bind (slicePart_ pv ?_)
  show wpAny _ _ (if ((-1 : Int) == 0) = true then _ else _) _ _ s
  rw [if_neg (by decide)]
  refine wpAny_bind (slicePart_none (wpAny_bind (slicePart_none (wpAny_bind (wpAny_pure ?_)))))
  show wpAny _ _ (match Builtin.Slice.sliceAdjust none none (-1) (n : Int) with | (lo, hi) => pure (lo, (-1 : Int), Builtin.Slice.slicePlaces lo hi (-1))) _ _ s
  have e : Builtin.Slice.sliceAdjust none none (-1) (n : Int) = ((n : Int) - 1, -1) := by
    unfold Builtin.Slice.sliceAdjust
    have h1 : ((-1 : Int) < 0) := by omega
    simp only [h1, if_true]
  rw [e]
  show wpAny _ _ (pure ((n : Int) - 1, (-1 : Int), Builtin.Slice.slicePlaces ((n : Int) - 1) (-1) (-1))) _ _ s
  rw [places_rev]
  exact wpAny_pure h
theorem getItem_tuple_rev {t sl : Addr} {items : Array Value} {vs : Value} {Q : Value → Shared → Prop} (ht : IsTup s.heap t items) (hs : s.heap.IsSliceOf sl .none .none vs) (pv : IsPart vs (some (-1)))
    (h : Q (.ref s.heap.objs.size) { s with heap := s.heap.push { cls := .type "tuple", data := .seq items.toList.reverse.toArray } })
    (hsz : items.size ≤ sizeLine) : wpAny (model prog w) A (getItem (.ref t) (.ref sl)) Q E s := by
  have htake : sizeOk (.seq items.toList.reverse.toArray) := by
    show items.toList.reverse.toArray.size ≤ sizeLine
    rw [List.size_toArray, List.length_reverse, Array.length_toList]
    exact hsz
  obtain ⟨os, hos, hcs, hds⟩ := id hs
  have hTs : s.TypeIs (.ref sl) "slice" := ⟨os, hos, hcs⟩
  unfold getItem
  try with_reducible refine wpAny_holding ?_
  first | refine wpAny_bind (wpAny_pure ?_) | skip
  refine wpAny_bind (wpAny_sequenceKey ht.typeIs (by decide) ?_)
  refine wpAny_bind (wpAny_callSpecial?_slot (name := PySem.Str.ofString "__getitem__") ht.typeIs PyProof.Rows.slot_tuple_getitem
    (wpAny_call_entry PyProof.Rows.slot_tuple_getitem ht.typeIs entry_tuple_getitem ?_ (args_tuple_getitem _ _)))
  show wpAny _ _ (Builtin.Tuple.tupleItemsOf (.ref t) >>= _) _ _ s
  refine wpAny_bind (tupleItemsOf_ ht ?_)
  refine wpAny_bind (wpAny_typeOf hTs ?_)
  rw [if_pos (by decide)]
  refine wpAny_bind (sliceApplied_rev hs pv ?_)
  have hno : ¬ (((items.size : Int) - 1 == 0 && (-1 : Int) == 1 && items.size == items.size) = true) := by simp
  show wpAny _ _ (if ((items.size : Int) - 1 == 0 && (-1 : Int) == 1 && items.size == items.size) = true then _ else _) _ _ s
  rw [if_neg hno, pick_rev]
  first
    | exact wpAny_bind (m := Builtin.Tuple.tupleExact _) (wpAny_newObj_type (wpAny_pure ⟨_, rfl, wpAny_pure h⟩) htake)
    | exact wpAny_bind (m := Builtin.Tuple.tupleExact _) (wpAny_newObj_type (wpAny_bind (wpAny_pure (wpAny_pure ⟨_, rfl, wpAny_pure h⟩))) htake)
    | exact wpAny_bind (wpAny_bind (m := Builtin.Tuple.tupleExact _) (wpAny_newObj_type (wpAny_pure (wpAny_pure ⟨_, rfl, wpAny_pure h⟩)) htake))
    | exact wpAny_bind (wpAny_bind (m := Builtin.Tuple.tupleExact _) (wpAny_newObj_type (wpAny_pure ⟨_, rfl, wpAny_pure h⟩) htake))
end
end HTR

namespace L2
open PySem PySem.Spec PyProof.Rows
section
variable {X : Cx}
def tRevT (K : PySem.W.Frag) (te : TE) : TE := fun σ H Q => te σ H fun x H1 => ∃ a xs, x = .ref a ∧ SqT K H1 a xs ∧ ∀ p, H1 p = none → Q (.ref p) (upd H1 p (.tup xs.reverse))
theorem pe_revT {e : Expr} {te : TE} {k : Nat} {p1 p2 p3 pos : Pos} (he : PE X e te) : PE X (.Subscript e (.Slice none none (some (.UnaryOp .USub (.Constant (.int 1) k p1) p2)) p3) pos) (tRevT X.K te) := by
  refine ⟨fun pins s σ H Q I h => ?_⟩
  refine Subscript_ (thn (he.run pins s σ H _ I h) fun v s1 ⟨x, H1, I1, r1, q1⟩ => ?_)
  obtain ⟨a, xs, ex, hx, q⟩ := q1
  subst ex
  cases r1
  have hst : PO X (some (.UnaryOp .USub (.Constant (.int 1) k p1) p2)) (tPart (tUn (rU fun i => .int (-i)) (tC (.int 1)))) := po_some (pe_un un_neg pe_int)
  refine wpAny_Slice (thn (po_none.run pins s1 σ H1 (fun o H2 => o = none ∧ H2 = H1) I1 ⟨rfl, rfl⟩) fun vl s2 ⟨l, H2, I2, pl, el, e2⟩ => ?_)
  subst el e2
  refine thn (po_none.run pins s2 σ H2 (fun o H3 => o = none ∧ H3 = H2) I2 ⟨rfl, rfl⟩) fun vu s3 ⟨u, H3, I3, pu, eu, e3⟩ => ?_
  subst eu e3
  refine thn (hst.run pins s3 σ H3 (fun o H4 => o = some (-1) ∧ H4 = H3) I3 ⟨1, rfl, -1, rfl, rfl, rfl⟩) fun vs s4 ⟨o, H4, I4, ps, eo, e4⟩ => ?_
  subst eo e4
  cases pl
  cases pu
  have I5 : Inv X pins σ H4 { s4 with heap := s4.heap.push { cls := .type "slice", data := .fields #[.none, .none, vs] } } := I4.kept (t' := s4.toks) fun b ob q => Heap.get?_push_of_some _ q
  obtain ⟨its, r, ht, hz⟩ := I5.tuple hx
  have hlen := r.length
  show wpAny (model X.prog X.w) X.A (subscriptTail e (.Slice none none (some (.UnaryOp .USub (.Constant (.int 1) k p1) p2)) p3) (.ref a) (.ref s4.heap.objs.size)) (EP X pins σ Q) X.xe { s4 with heap := s4.heap.push { cls := .type "slice", data := .fields #[.none, .none, vs] } }
  refine tail_any (ops := [.ref a, .ref s4.heap.objs.size]) ht.typeIs (PyProof.Rows.slot_tuple_getitem.lookup) ?_ (by with_unfolding_all rfl)
  refine HTR.getItem_tuple_rev ht (Heap.IsSliceOf.new _ .none .none vs) ps ?_ (by rw [List.size_toArray]; omega)
  refine ⟨.ref _, _, I5.laid (t' := s4.toks) (o := .tup xs.reverse) (fun b ob q => Heap.get?_push_of_some _ q) (Nat.le_refl _) ?_, rfl, q _ (I5.hok.fresh (Nat.le_refl _))⟩
  exact ⟨by rw [List.length_reverse]; exact hz, _, r.reverse, IsTup.new _ _⟩
end
end L2

namespace Fx
open PySem PySem.Spec PyProof.Rows L2
section
variable {S : Type} {C : CI} {HK : HandK S} {X : Cx} {W : WX} {e e2 e3 : Expr} {es : List Expr} {pos p p2 : Pos}
/-! ### x[i] -/
theorem ixD_at {α : Type} {xs : List α} {i : Int} {j : Nat} {v : α} (h : ixD xs.length i = some j) (e : xs[j]? = some v) : atI xs i = some v := by
  unfold atI
  have : ixN xs.length i = some j := by
    unfold ixD at h
    unfold ixN
    exact h
  rw [this]; exact e
theorem ev_ix {f g : E S} (hf : EB C HK X W e f) (hg : EB C HK X W e2 g) (hs : PlainIx e2) : EV C HK X W (.Subscript e e2 pos) (eBin dIx f g) :=
  PE.of (pe_ix (IxR.or ix_list ix_tup) hf hg hs) fun σ H Q ⟨F, G, ρ, s, rel, p⟩ => ⟨F, G, ρ, s, rel, by
    refine (Post.step (RR := RRb C F ρ σ H) rel p).imp' fun x H1 ⟨a, s1, G1, rel1, x1, r1, p1⟩ => ?_
    refine ⟨F, G1, ρ, s1, rel1, (Post.step (RR := RRb C F ρ σ H) rel1 p1).imp' fun y H2 ⟨b, s2, G2, rel2, x2, r2, p2⟩ => ?_⟩
    have r1' := r1.keep x2
    cases b with
    | int i =>
      cases r2.rep rel2.le
      cases a with
      | tup l =>
        obtain ⟨q, xs, rfl, h1, h2⟩ := r1'.tup
        simp only [dIx] at p2
        cases z : ixD l.length i with
        | none => rw [z] at p2; exact p2.elim
        | some j =>
          rw [z] at p2
          dsimp only [Option.bind] at p2
          cases z2 : l[j]? with
          | none => rw [z2] at p2; exact p2.elim
          | some d =>
            rw [z2] at p2
            obtain ⟨v, e1, e2⟩ := Reps.get h2 z2
            exact .inr ⟨q, xs, i, v, rfl, rfl, SqT.of (rel2.le _ _ h1), ixD_at (by rw [← Reps.length h2]; exact z) e1, Post.here rel2 p2 e2⟩
      | lst l =>
        obtain ⟨q, xs, rfl, h1, h2⟩ := r1'.lst rel2.le
        simp only [dIx] at p2
        cases z : ixD l.length i with
        | none => rw [z] at p2; exact p2.elim
        | some j =>
          rw [z] at p2
          dsimp only [Option.bind] at p2
          cases z2 : l[j]? with
          | none => rw [z2] at p2; exact p2.elim
          | some d =>
            rw [z2] at p2
            obtain ⟨v, e1, e2⟩ := Reps.get h2 z2
            exact .inl ⟨q, xs, i, v, rfl, rfl, SqL.of h1, ixD_at (by rw [← Reps.length h2]; exact z) e1, Post.here rel2 p2 e2⟩
      | _ => exact p2.elim
    | _ => cases a <;> exact p2.elim⟩
/-! ### slices -/
def RRo : Hp → Hp → Option Int → Option Int → Prop := fun _ _ a b => b = a
def tO (W : WX) (f : O S) : TO := fun σ H Q => ∃ F G ρ s, Rel C HK F G ρ s σ H ∧ Post C HK W F G H σ RRo (f ρ s) Q
abbrev OV (X : Cx) (W : WX) (e : Option Expr) (f : O S) : Prop := PO X e (tO (C := C) (HK := HK) W f)
theorem PO.of {o : Option Expr} {t t' : TO} (h : PO X o t') (w : ∀ σ H Q, t σ H Q → t' σ H Q) : PO X o t := ⟨fun pins s σ H Q I q => h.run pins s σ H Q I (w _ _ _ q)⟩
theorem ov_none : OV (C := C) (HK := HK) X W none (oNone (S := S)) := PO.of po_none fun σ H Q ⟨F, G, ρ, s, rel, p⟩ => p.here rel rfl
theorem ov_some {f : E S} (h : EB C HK X W e f) : OV (C := C) (HK := HK) X W (some e) (oSome f) := PO.of (po_some h) fun σ H Q ⟨F, G, ρ, s, rel, p⟩ => ⟨F, G, ρ, s, rel, (Post.step (RR := RRb C F ρ σ H) rel p).imp' fun x H1 ⟨a, s1, G1, rel1, x1, r1, p1⟩ => by
  cases a <;> first | exact p1.elim | skip
  cases r1.rep rel1.le
  exact ⟨_, rfl, p1.here rel1 rfl⟩⟩
theorem sIx_eq {n d : Nat} {o : Option Int} : HT.sIx n d o = sIx n d o := by cases o <;> rfl
theorem Reps.cut {G : Hp} {l : List Fx.D} {xs : List V} (r : Reps C G l xs) (lo hi : Option Int) : Reps C G (cutD l lo hi) (cutV xs lo hi) := by
  unfold cutD cutV
  rw [Reps.length r, sIx_eq, sIx_eq]
  exact Reps.take _ (Reps.drop _ r)
theorem ev_slT {lo hi : Option Expr} {f : E S} {g h : O S} (hf : EB C HK X W e f) (hg : OV (C := C) (HK := HK) X W lo g) (hh : OV (C := C) (HK := HK) X W hi h) : EV C HK X W (.Subscript e (.Slice lo hi none p2) pos) (eSlT f g h) :=
  PE.of (pe_slice sl_tupA hf hg hh) fun σ H Q ⟨F, G, ρ, s, rel, p⟩ => ⟨F, G, ρ, s, rel, by
    refine (Post.step (RR := RRb C F ρ σ H) rel p).imp' fun x H1 ⟨a, s1, G1, rel1, x1, r1, p1⟩ => ?_
    refine ⟨F, G1, ρ, s1, rel1, (Post.step (RR := RRo) rel1 p1).imp' fun y H2 ⟨b, s2, G2, rel2, x2, r2, p2⟩ => ?_⟩
    refine ⟨F, G2, ρ, s2, rel2, (Post.step (RR := RRo) rel2 p2).imp' fun z H3 ⟨c, s3, G3, rel3, x3, r3, p3⟩ => ?_⟩
    cases r2
    cases r3
    have r1' := (r1.keep x2).keep x3
    cases a <;> first | exact p3.elim | skip
    obtain ⟨q, xs, rfl, h1, h2⟩ := r1'.tup
    refine ⟨q, xs, rfl, SqT.of (rel3.le _ _ h1), fun hw => ?_, fun _ b n => ?_⟩
    · refine Post.here rel3 p3 (.tup h1 ?_)
      have := Reps.cut h2 y z
      have e : cutV xs y z = xs := by
        unfold cutV
        rw [hw.1, hw.2, List.drop_zero, Nat.sub_zero, List.take_length]
      rw [e] at this; exact this
    · have x := rel3.newG (o := .tup (cutV xs y z)) n
      exact p3 _ _ _ x (.tup upd_same (Reps.mono x.ext.sub _ _ (Reps.cut h2 y z)))⟩
theorem ef_slL {lo hi : Option Expr} {f : E S} {g h : O S} (hf : EB C HK X W e f) (hg : OV (C := C) (HK := HK) X W lo g) (hh : OV (C := C) (HK := HK) X W hi h) : EF C HK X W (.Subscript e (.Slice lo hi none p2) pos) (fSlL f g h) :=
  PE.of (pe_slice sl_list hf hg hh) fun σ H Q ⟨F, G, ρ, s, rel, p⟩ => ⟨F, G, ρ, s, rel, by
    refine (Post.step (RR := RRb C F ρ σ H) rel p).imp' fun x H1 ⟨a, s1, G1, rel1, x1, r1, p1⟩ => ?_
    refine ⟨F, G1, ρ, s1, rel1, (Post.step (RR := RRo) rel1 p1).imp' fun y H2 ⟨b, s2, G2, rel2, x2, r2, p2⟩ => ?_⟩
    refine ⟨F, G2, ρ, s2, rel2, (Post.step (RR := RRo) rel2 p2).imp' fun z H3 ⟨c, s3, G3, rel3, x3, r3, p3⟩ => ?_⟩
    cases r2
    cases r3
    have r1' := (r1.keep x2).keep x3
    cases a <;> first | exact p3.elim | skip
    obtain ⟨q, xs, rfl, h1, h2⟩ := r1'.lst rel3.le
    exact ⟨q, xs, rfl, SqL.of h1, fun b n => p3 _ _ _ (rel3.new (o := .lst (cutV xs y z)) n) (RRf.mk rel3 ((x1.trans x2).trans x3) n (Reps.cut h2 y z))⟩⟩
/-! ### t[::-1] of a tuple -/
theorem ev_revT {f : E S} {k : Nat} {p1 p3 p4 : Pos} (hf : EB C HK X W e f) : EV C HK X W (.Subscript e (.Slice none none (some (.UnaryOp .USub (.Constant (.int 1) k p1) p2)) p3) pos) (eUn dRevT f) :=
  PE.of (pe_revT hf) fun σ H Q ⟨F, G, ρ, s, rel, p⟩ => ⟨F, G, ρ, s, rel, by
    refine (Post.step (RR := RRb C F ρ σ H) rel p).imp' fun x H1 ⟨a, s1, G1, rel1, x1, r1, p1⟩ => ?_
    cases a with
    | tup l =>
      obtain ⟨q, xs, rfl, h1, h2⟩ := r1.tup
      refine ⟨q, xs, rfl, SqT.of (rel1.le _ _ h1), fun b n => ?_⟩
      have x := rel1.newG (o := .tup xs.reverse) n
      exact p1 _ _ _ x (.tup upd_same (Reps.mono x.ext.sub _ _ (Reps.rev h2)))
    | _ => exact p1.elim⟩
/-! ### l + m, l * n of lists -/
theorem ef_cat {f g : E S} (hf : EB C HK X W e f) (hg : EB C HK X W e2 g) : EF C HK X W (.BinOp e .Add e2 pos) (fCat f g) :=
  PE.of (pe_op op_cat hf hg) fun σ H Q ⟨F, G, ρ, s, rel, p⟩ => ⟨F, G, ρ, s, rel, by
    refine (Post.step (RR := RRb C F ρ σ H) rel p).imp' fun x H1 ⟨a, s1, G1, rel1, x1, r1, p1⟩ => ?_
    refine ⟨F, G1, ρ, s1, rel1, (Post.step (RR := RRb C F ρ σ H) rel1 p1).imp' fun y H2 ⟨b, s2, G2, rel2, x2, r2, p2⟩ => ?_⟩
    have r1' := r1.keep x2
    cases a with
    | lst l =>
      cases b with
      | lst m =>
        obtain ⟨a, xs, rfl, a1, a2⟩ := r1'.lst rel2.le
        obtain ⟨b, ys, rfl, b1, b2⟩ := r2.lst rel2.le
        dsimp only at p2
        by_cases hl : Nat.ble (l.length + m.length) lim = true
        · rw [if_pos hl] at p2
          have hz := lim_line hl
          rw [Reps.length a2, Reps.length b2] at hz
          exact ⟨a, b, xs, ys, rfl, rfl, a1, b1, hz, fun q n => p2 _ _ _ (rel2.new (o := .lst (xs ++ ys)) n) (RRf.mk rel2 (x1.trans x2) n (Reps.append a2 b2))⟩
        · rw [if_neg hl] at p2; exact p2.elim
      | _ => exact p2.elim
    | _ => cases b <;> exact p2.elim⟩
theorem Reps.rep {G : Hp} {l : List Fx.D} {xs : List V} (r : Reps C G l xs) : ∀ n : Nat, Reps C G (List.replicate n l).flatten (List.replicate n xs).flatten
  | 0 => by simp; exact .nil
  | n + 1 => by
    simp only [List.replicate_succ, List.flatten_cons]
    exact Reps.append r (Reps.rep r n)
theorem ef_rep {f g : E S} (hf : EB C HK X W e f) (hg : EB C HK X W e2 g) : EF C HK X W (.BinOp e .Mult e2 pos) (fRep f g) :=
  PE.of (pe_op op_rep hf hg) fun σ H Q ⟨F, G, ρ, s, rel, p⟩ => ⟨F, G, ρ, s, rel, by
    refine (Post.step (RR := RRb C F ρ σ H) rel p).imp' fun x H1 ⟨a, s1, G1, rel1, x1, r1, p1⟩ => ?_
    refine ⟨F, G1, ρ, s1, rel1, (Post.step (RR := RRb C F ρ σ H) rel1 p1).imp' fun y H2 ⟨b, s2, G2, rel2, x2, r2, p2⟩ => ?_⟩
    have r1' := r1.keep x2
    cases a with
    | lst l =>
      cases b with
      | int k =>
        obtain ⟨a, xs, rfl, a1, a2⟩ := r1'.lst rel2.le
        cases r2.rep rel2.le
        dsimp only at p2
        by_cases hl : (small k && Nat.ble (l.length * k.toNat) lim && decide (k < 1000000) && decide (-1000000 < k)) = true
        · rw [if_pos hl] at p2
          rw [Bool.and_eq_true, Bool.and_eq_true, Bool.and_eq_true, decide_eq_true_eq, decide_eq_true_eq] at hl
          have hz := lim_line hl.1.1.2
          rw [Reps.length a2] at hz
          exact ⟨a, k, xs, rfl, rfl, a1, by omega, by omega, hz, fun q n => p2 _ _ _ (rel2.new (o := .lst _) n) (RRf.mk rel2 (x1.trans x2) n (Reps.rep a2 _))⟩
        · rw [if_neg hl] at p2; exact p2.elim
      | _ => exact p2.elim
    | _ => cases b <;> exact p2.elim⟩
/-! ### repr(x) == repr(y) of whole numbers -/
theorem ev_repI {f g : E S} {x : PySem.Str} {q q2 q3 q4 : Pos} (hg1 : Gl X x) (hm : X.mg x = none) (hv : bootBuiltins x = some (.builtin "repr")) (hf : EB C HK X W e f) (hg : EB C HK X W e2 g) (hn : x ≠ "__name__" := by decide) (hdb : (x == ("__debug__" : PySem.Str)) = false := by decide)
    (he : starEach [e] X.env = (false, eval e X.env) :: starEach [] X.env := by rfl) (hpl : (backTo q3 (starEach [] X.env)).any (·.1) = false := by rfl) (he2 : starEach [e2] X.env = (false, eval e2 X.env) :: starEach [] X.env := by rfl) (hpl2 : (backTo q4 (starEach [] X.env)).any (·.1) = false := by rfl) :
    EV C HK X W (.Compare (.Call (.Name x q) [e] [] q3) [.Eq] [.Call (.Name x q2) [e2] [] q4] pos) (eRepI f g) :=
  PE.of (pe_cmpR op_eq (pe_callB SkE.call_repr_int hg1 hm hv (pa_cons hf pa_nil he) hn hdb he hpl) (pe_callB SkE.call_repr_int hg1 hm hv (pa_cons hg pa_nil he2) hn hdb he2 hpl2) (nomark _)) fun σ H Q ⟨F, G, ρ, s, rel, p⟩ => ⟨F, G, ρ, s, rel, by
    refine (Post.step (RR := RRb C F ρ σ H) rel p).imp' fun x H1 ⟨a, s1, G1, rel1, x1, r1, p1⟩ => ?_
    cases a with
    | int i =>
      cases r1.rep rel1.le
      dsimp only at p1
      by_cases hi : decide (i.natAbs < 2 ^ 64) = true
      · rw [if_pos hi] at p1
        have hi' := of_decide_eq_true hi
        have hl : i.natAbs.log2 < 1920 := by
          by_cases h0 : i.natAbs = 0
          · rw [h0]; decide
          · have := (Nat.log2_lt h0).mpr hi'
            omega
        refine ⟨i, rfl, hl, F, G1, ρ, s1, rel1, (Post.step (RR := RRb C F ρ σ H) rel1 p1).imp' fun y H2 ⟨b, s2, G2, rel2, x2, r2, p2⟩ => ?_⟩
        cases b with
        | int j =>
          cases r2.rep rel2.le
          dsimp only at p2
          by_cases hij : decide (i = j) = true
          · rw [if_pos hij] at p2
            obtain rfl := of_decide_eq_true hij
            refine ⟨i, rfl, hl, rfl, ?_⟩
            rw [decide_eq_true rfl]
            exact Post.here rel2 p2 (.bl _)
          · rw [if_neg hij] at p2; exact p2.elim
        | _ => exact p2.elim
      · rw [if_neg hi] at p1; exact p1.elim
    | _ => exact p1.elim⟩
end
end Fx
set_option Elab.async false
set_option linter.all false
set_option autoImplicit false
set_option maxRecDepth 100000
/-! Fx, rules 10: isinstance, count. -/
namespace Fx
open PySem PySem.Spec PyProof.Rows L2
section
variable {S : Type} {C : CI} {HK : HandK S} {X : Cx} {W : WX} {e e2 e3 : Expr} {es : List Expr} {pos p p2 : Pos}
def Ty.nm : Ty → String
  | .int => "int"
  | .bool => "bool"
  | .tuple => "tuple"
  | .list => "list"
  | .str => "str"
  | .dict => "dict"
/-- an own class, as isinstance asks of it -/
structure ClsT (K : PySem.W.Frag) (cl : Addr) : Prop where
  cls : Cls K cl
  ha : PySem.W.findIn K (.ref cl) "__class__" = some (some (.builtin "object.__class__"))
  hn : PySem.W.specialIn K (.builtin "object.__class__") "__get__" = some (some (.builtin "getset_descriptor.__get__"))
  htk : PySem.W.takesIn K (.builtin "object.__class__") = some true
  hm : PySem.W.mroIn K cl (.type "object") = some true
/-- the class of a datum -/
def tyOf (C : CI) : Fx.D → Option Value
  | .non => some (.type "NoneType")
  | .bl _ => some (.type "bool")
  | .int _ => some (.type "int")
  | .str _ => some (.type "str")
  | .tup _ => some (.type "tuple")
  | .lst _ => some (.type "list")
  | .dct _ => some (.type "dict")
  | .ins c _ => (C.cA c).map Value.ref
theorem kit_rep {pins : List (Addr × Obj)} {σ : L2.St} {H : Hp} {s : Shared} (I : L2.Inv X pins σ H s) (hI : ∀ c cl, C.cA c = some cl → ClsT X.K cl) {d : Fx.D} {v : V} {u t : Value} (r : Rep C H d v) (ru : RelV v u) (ht : tyOf C d = some t) :
    ∃ P : Heap → Prop, PySem.W.KitX X.K u t P ∧ P s.heap ∧ u ≠ .builtin "__main__.__loader__#opaque" := by
  cases r with
  | non => cases ht; cases ru; exact ⟨_, PySem.W.kitx_none, True.intro, fun z => nomatch z⟩
  | bl b => cases ht; cases ru; exact ⟨_, PySem.W.kitx_bool, True.intro, fun z => nomatch z⟩
  | int i => cases ht; obtain ⟨t, rfl⟩ := ru; exact ⟨_, PySem.W.kitx_int, True.intro, fun z => nomatch z⟩
  | str x => cases ht; obtain ⟨t, rfl⟩ := ru; exact ⟨_, PySem.W.kitx_str, True.intro, fun z => nomatch z⟩
  | tup a b => cases ht; cases ru; obtain ⟨its, rv, ⟨o, h1, h2, _⟩, _⟩ := I.tuple (SqT.of a); exact ⟨_, PySem.W.kitx_tuple, ⟨o, h1, h2⟩, fun z => nomatch z⟩
  | lst a b => cases ht; cases ru; obtain ⟨its, rv, ⟨o, n, h1, h2, _⟩, _⟩ := I.list (SqL.of a); exact ⟨_, PySem.W.kitx_list, ⟨o, h1, h2⟩, fun z => nomatch z⟩
  | dct a k b =>
    cases ht; cases ru
    have x := I.hok _ _ a
    obtain ⟨⟨_, o, h1, h2, _⟩, _⟩ := x
    exact ⟨_, PySem.W.kitx_dict, ⟨o, h1, h2.1⟩, fun z => nomatch z⟩
  | ins a b c d =>
    cases ru
    rename_i aa cl dx cn fs vs
    have e : t = .ref cl := by
      simp only [tyOf, a, Option.map_some, Option.some.injEq] at ht
      exact ht.symm
    subst e
    have h := hI _ _ a
    obtain ⟨mA, O, _⟩ := ins_get I.hok b
    obtain ⟨od, J, _⟩ := O.look
    exact ⟨_, PySem.W.kitx_own (h.cls.get _) h.cls.hd h.ha h.hn h.htk h.hm, J, fun z => nomatch z⟩
/-- isinstance(x, c): the answer as the library tells it -/
def rIsD (C : CI) (K : PySem.W.Frag) (c : V) (u : Value) (f : Fx.D → Bool) : List V → Hp → VK → Prop := fun xs H Q => ∃ (x : V) (d : Fx.D) (t : Value), xs = [x, c] ∧ Rep C H d x ∧ tyOf C d = some t ∧ PySem.W.kitOne K t u = some (f d) ∧ Q (.bl (f d)) H
theorem call_isD (hI : ∀ c cl, C.cA c = some cl → ClsT X.K cl) {c : V} {u : Value} {f : Fx.D → Bool} (k : ClsV c u) : CallR X (.builtin "isinstance") (rIsD C X.K c u f) := by
  intro pins s σ H xs us Q I r h
  obtain ⟨x, d, t, rfl, rd, ty, e, q⟩ := h
  obtain ⟨u1, u2, rfl, r1, r2⟩ := vals2 r
  have e2 := k.eq r2
  subst e2
  obtain ⟨P, Z, p, hx⟩ := kit_rep I hI rd r1 ty
  exact PySem.W.kia_one Z I.kIn p e hx fun tk => ⟨.bl (f d), H, I.tok tk, rfl, q⟩
/-- what tells of each datum -/
def KitF (C : CI) (K : PySem.W.Frag) (u : Value) (f : Fx.D → Bool) : Prop := ∀ d t, tyOf C d = some t → PySem.W.kitOne K t u = some (f d)
theorem kb {a b : String} {t : Ty} {d d' : Fx.D} (h : kitB a b = some (D.isTy t d)) (e : D.isTy t d' = D.isTy t d) : kitB a b = some (D.isTy t d') := by rw [e]; exact h
theorem kitF_ty {K : PySem.W.Frag} (t : Ty) (hI : ∀ c cl, C.cA c = some cl → PySem.W.kitOne K (.ref cl) (.type t.nm) = some false) : KitF C K (.type t.nm) (D.isTy t) := fun d tt h => by
  cases d with
  | ins c fs =>
    cases q : C.cA c with
    | none => simp [tyOf, q] at h
    | some cl =>
      simp only [tyOf, q, Option.map_some, Option.some.injEq] at h
      subst h
      exact hI c cl q
  | non => cases h; cases t <;> exact kit_ty (kb (d := .non) (by decide +kernel) rfl)
  | bl _ => cases h; cases t <;> exact kit_ty (kb (d := .bl true) (by decide +kernel) rfl)
  | int _ => cases h; cases t <;> exact kit_ty (kb (d := .int 0) (by decide +kernel) rfl)
  | str _ => cases h; cases t <;> exact kit_ty (kb (d := .str []) (by decide +kernel) rfl)
  | tup _ => cases h; cases t <;> exact kit_ty (kb (d := .tup []) (by decide +kernel) rfl)
  | lst _ => cases h; cases t <;> exact kit_ty (kb (d := .lst []) (by decide +kernel) rfl)
  | dct _ => cases h; cases t <;> exact kit_ty (kb (d := .dct []) (by decide +kernel) rfl)
theorem ev_isX {x : PySem.Str} {c : V} {u : Value} {f : Fx.D → Bool} {g : E S} (hI : ∀ c cl, C.cA c = some cl → ClsT X.K cl) (hc : PE X e2 (tC c)) (k : ClsV c u) (kf : KitF C X.K u f) (hg : Gl X x) (hm : X.mg x = none) (hv : bootBuiltins x = some (.builtin "isinstance")) (hf : EB C HK X W e g)
    (hn : x ≠ "__name__" := by decide) (hdb : (x == ("__debug__" : PySem.Str)) = false := by decide)
    (he : starEach [e, e2] X.env = (false, eval e X.env) :: starEach [e2] X.env := by rfl) (he2 : starEach [e2] X.env = (false, eval e2 X.env) :: starEach [] X.env := by rfl) (hpl : (backTo pos (starEach [e2] X.env)).any (·.1) = false := by rfl) :
    EV C HK X W (.Call (.Name x p) [e, e2] [] pos) (eUn (fun d => some (.bl (f d))) g) :=
  PE.of (pe_callB (call_isD hI (f := f) k) hg hm hv (pa_cons hf (pa_cons hc pa_nil he2) he) hn hdb he hpl) fun σ H Q ⟨F, G, ρ, s, rel, p⟩ => ⟨F, G, ρ, s, rel, (Post.step (RR := RRb C F ρ σ H) rel p).imp' fun x H1 ⟨a, s1, G1, rel1, x1, r1, p1⟩ => by
    have rr := r1.rep rel1.le
    have ty : ∃ t, tyOf C a = some t := by
      cases rr with
      | ins h _ _ _ => exact ⟨_, by simp only [tyOf, h]; rfl⟩
      | non => exact ⟨_, rfl⟩
      | bl _ => exact ⟨_, rfl⟩
      | int _ => exact ⟨_, rfl⟩
      | str _ => exact ⟨_, rfl⟩
      | tup _ _ => exact ⟨_, rfl⟩
      | lst _ _ => exact ⟨_, rfl⟩
      | dct _ _ _ => exact ⟨_, rfl⟩
    obtain ⟨t, ht⟩ := ty
    exact ⟨x, a, t, rfl, rr, ht, kf a t ht, p1.here rel1 (.bl _)⟩⟩

/-! ### l.count(x) of a list -/
def rCountL (K : PySem.W.Frag) : V → List V → Hp → VK → Prop := fun x xs H Q => ∃ (a : Addr) (y : V) (d : PyData) (ds : List PyData), x = V.ref a ∧ xs = [y] ∧ Dp K H (V.ref a) (.list ds) ∧ Dp K H y d ∧
  SeqAt.shaped (.list ds) = true ∧ SeqAt.shaped d = true ∧ Q (.int ((ds.countP fun z => PyData.eqv z d : Nat) : Int)) H
theorem mt_countL (hu : X.A.units + 65 < cLine) : MtR X "list.count" (rCountL X.K) := by
  intro pins s σ H x xs v us Q I rx rxs h
  obtain ⟨a, y, d, ds, rfl, rfl, hl, hy, sl, sd, q⟩ := h
  cases rx
  cases rxs with
  | cons ry rt =>
    rename_i uy ut
    cases rt
    obtain ⟨bs, r1⟩ := Dp.reads I d y uy hy ry
    have hxs : PyData.canLayAll0 ds = true := SeqAt.canLay_of_shaped sl
    have hroom : X.A.units + 1 + min (PyData.depthAll ds) d.depth < cLine := room_in_shaped sd hu
    cases hl with
    | lst hs ha =>
      obtain ⟨its, rv, ⟨⟨cls, dd, data, sls⟩, n, ho, hc, hdn, hdt⟩, hlen⟩ := I.list hs
      simp only at hc hdt
      subst hc hdt
      obtain ⟨as, h4⟩ := Dp.readsAll I ds _ its ha rv
      have hmap : its.map (SeqAt.readOf s.heap) = ds := SeqAt.readsAll_map ds its as hxs h4
      refine call_meets PySem.F.slot_list_count ⟨_, ho, rfl⟩ PySem.F.entry_list_count (PySem.F.args_list_count_2 _ _)
        (SeqAt.list_countAt a its.toArray n dd sls uy (fun u => PyData.eqv (SeqAt.readOf s.heap u) d)) ⟨ho, SeqAt.items_eqAt (vs := its.toArray) (show ReadsAll s.heap its.toArray.toList ds as from h4) r1 hxs (SeqAt.canLay_of_shaped sd) hroom, ?_⟩
      have e : its.toArray.toList.countP (fun u => PyData.eqv (SeqAt.readOf s.heap u) d) = ds.countP fun z => PyData.eqv z d := by
        rw [← hmap, List.countP_map]; rfl
      rw [e]
      exact ⟨.int _, H, I.tok _, ⟨_, rfl⟩, q⟩
theorem countP_toPL {a : Fx.D} (pa : Fx.D.plain a = true) : ∀ {l : List Fx.D}, Fx.D.plainL l = true → (D.toPL l).countP (fun z => PyData.eqv z a.toP) = l.countP fun z => D.eqv z a
  | [], _ => by simp [D.toPL]
  | d :: ds, p => by
    have p' : (Fx.D.plain d && Fx.D.plainL ds) = true := p
    rw [Bool.and_eq_true] at p'
    simp only [D.toPL, List.countP_cons, D.eqvP d a p'.1 pa, countP_toPL pa p'.2]
theorem ev_countL {pa : PlainAttrs "list"} {name : PySem.Str} {apos cpos : Pos} {f g : E S} (slot : Slot "list" name "list.count") (hu : X.A.units + 65 < cLine) (hf : EB C HK X W e f) (hg : EB C HK X W e2 g)
    (hbase : attributeBase e name X.env (eval e X.env) = eval e X.env := by rfl)
    (hfew : ((backTo cpos (starEach [e2] X.env)).all (fun x => !x.1) && (backToKw cpos (keywordEach [] X.env)).all (fun x => x.1.isSome)
      && decide ([e2].length + ([] : List Keyword).length + (if ([] : List Keyword).isEmpty then 0 else 1) < 30)) = true := by rfl)
    (hline : (apos.endLine == cpos.line) = true := by rfl) (hs : starEach [e2] X.env = (false, eval e2 X.env) :: starEach [] X.env := by rfl) (hplain : (backTo cpos (starEach [] X.env)).any (·.1) = false := by rfl) :
    EV C HK X W (.Call (.Attribute e name apos) [e2] [] cpos) (eMl dCountL f g) :=
  PE.of (pe_bm pa slot rfl (mt_countL hu) hf (pa_cons hg pa_nil hs) hbase hfew hline hs hplain) fun σ H Q ⟨F, G, ρ, s, rel, p⟩ => ⟨F, G, ρ, s, rel, by
    refine (Post.step (RR := RRb C F ρ σ H) rel p).imp' fun x H1 ⟨a, s1, G1, rel1, x1, r1, p1⟩ => ?_
    cases a with
    | lst l =>
      obtain ⟨q, xs, rfl, h1, h2⟩ := r1.lst rel1.le
      refine ⟨.inl ⟨rfl, xs, SqL.of h1⟩, F, G1, ρ, s1, rel1, (Post.step (RR := RRb C F ρ σ H) rel1 p1).imp' fun y H2 ⟨b, s2, G2, rel2, x2, r2, p2⟩ => ?_⟩
      have r1' := r1.keep x2
      simp only [dCountL] at p2
      by_cases hb : (D.fine (.lst l) && D.fine b) = true
      · rw [if_pos hb] at p2
        rw [Bool.and_eq_true] at hb
        obtain ⟨pa, _⟩ := D.fine_iff hb.1
        obtain ⟨pb, _⟩ := D.fine_iff hb.2
        refine ⟨q, y, b.toP, D.toPL l, rfl, rfl, Rep.dp _ _ (r1'.rep rel2.le) pa, Rep.dp _ _ (r2.rep rel2.le) pb, D.shaped hb.1, D.shaped hb.2, ?_⟩
        rw [countP_toPL pb pa]
        exact Post.here rel2 p2 (.int _)
      · rw [if_neg hb] at p2; exact p2.elim
    | _ => exact p1.elim⟩
end
end Fx
set_option Elab.async false
set_option linter.all false
set_option autoImplicit false
set_option maxRecDepth 100000
/-! Fx, rules 11: dicts. -/
namespace Fx
open PySem PySem.Spec PyProof.Rows L2
/-! ### keys -/
mutual
def D.toK : D → NestedKey
  | .non => .none
  | .bl b => .num (if b = true then 1 else 0)
  | .int i => .num i
  | .str x => .text ⟨x.toArray⟩
  | .tup l => .tup (D.toKL l)
  | _ => .none
def D.toKL : List D → List NestedKey
  | [] => []
  | d :: ds => D.toK d :: D.toKL ds
end
mutual
theorem D.eqvK : ∀ a b : D, D.kp a = true → D.kp b = true → D.eqv a b = NestedKey.beq a.toK b.toK
  | .non, b, _, q => by cases b <;> first | (cases q; done) | simp [D.toK, NestedKey.beq, D.eqv]
  | .bl x, b, _, q => by cases b <;> first | (cases q; done) | (simp [D.toK, NestedKey.beq, D.eqv]; done) | (rename_i y; cases x <;> cases y <;> simp [D.toK, NestedKey.beq, D.eqv]; done) | (simp [D.toK, NestedKey.beq, D.eqv]; rfl)
  | .int x, b, _, q => by cases b <;> first | (cases q; done) | (simp [D.toK, NestedKey.beq, D.eqv]; done) | (simp [D.toK, NestedKey.beq, D.eqv]; rfl)
  | .str x, b, _, q => by
    cases b <;> first | (cases q; done) | (simp [D.toK, NestedKey.beq, D.eqv]; done) | skip
    rename_i y
    simp only [D.toK, NestedKey.beq, D.eqv]
    by_cases h : x = y
    · subst h; simp
    · rw [decide_eq_false fun e => h (by simpa using congrArg (fun z => z.cps.toList) e)]
      simpa using h
  | .tup l, b, p, q => by
    cases b <;> first | (cases q; done) | (simp [D.toK, NestedKey.beq, D.eqv]; done) | skip
    simp only [D.toK, NestedKey.beq, D.eqv]
    exact D.eqvKL l _ p q
  | .lst _, _, p, _ => by cases p
  | .dct _, _, p, _ => by cases p
  | .ins _ _, _, p, _ => by cases p
theorem D.eqvKL : ∀ as bs : List D, D.kpL as = true → D.kpL bs = true → D.eqvL as bs = NestedKey.beqAll (D.toKL as) (D.toKL bs)
  | [], [], _, _ => rfl
  | [], _ :: _, _, _ => by simp [D.toKL, NestedKey.beqAll, D.eqvL]
  | _ :: _, [], _, _ => by simp [D.toKL, NestedKey.beqAll, D.eqvL]
  | a :: as, b :: bs, p, q => by
    have p' : (D.kp a && D.kpL as) = true := p
    have q' : (D.kp b && D.kpL bs) = true := q
    rw [Bool.and_eq_true] at p' q'
    simp only [D.toKL, NestedKey.beqAll, D.eqvL, D.eqvK a b p'.1 q'.1, D.eqvKL as bs p'.2 q'.2]
end
mutual
theorem D.depK : ∀ d : D, d.toK.depth ≤ d.depth
  | .non => by simp [D.toK, NestedKey.depth]
  | .bl _ => by simp [D.toK, NestedKey.depth]
  | .int _ => by simp [D.toK, NestedKey.depth]
  | .str _ => by simp [D.toK, NestedKey.depth]
  | .tup l => by simp only [D.toK, NestedKey.depth, D.depth]; have := D.depKL l; omega
  | .lst l => by simp [D.toK, NestedKey.depth]
  | .dct _ => by simp [D.toK, NestedKey.depth]
  | .ins _ _ => by simp [D.toK, NestedKey.depth]
theorem D.depKL : ∀ ds : List D, NestedKey.depthAll (D.toKL ds) ≤ D.depthL ds
  | [] => by simp [D.toKL, NestedKey.depthAll]
  | d :: ds => by simp only [D.toKL, NestedKey.depthAll, D.depthL]; have := D.depK d; have := D.depKL ds; omega
end
theorem isTK_kp {d : D} (h : isTK d = true) : D.kp d = true ∧ d.toK.depth ≤ 8 := by
  cases d with
  | tup l =>
    have h' : (D.kpL l && Nat.ble (D.depthL l + 1) 8) = true := h
    rw [Bool.and_eq_true] at h'
    refine ⟨h'.1, ?_⟩
    have := Nat.le_of_ble_eq_true h'.2
    have := D.depKL l
    simp only [D.toK, NestedKey.depth]
    omega
  | _ => cases h
theorem isLK_kp {d : D} (h : isLK d = true) : D.kp d = true := by cases d <;> first | rfl | cases h
section
variable {C : CI} {X : Cx} {pins : List (Addr × Obj)} {σ : L2.St} {H : Hp} {s : Shared}
mutual
/-- a datum that is a key is one in the heap -/
theorem nest_of (I : L2.Inv X pins σ H s) : ∀ (d : D) (v : V) (u : Value), Rep C H d v → RelV v u → D.kp d = true → NestedIs s.heap d.toK u
  | .non, _, _, r, ru, _ => by cases r; cases ru; exact .none
  | .bl b, _, _, r, ru, _ => by cases r; cases ru; exact .bool rfl
  | .int i, _, _, r, ru, _ => by cases r; obtain ⟨t, rfl⟩ := ru; exact .int _ _
  | .str x, _, _, r, ru, _ => by cases r; obtain ⟨t, rfl⟩ := ru; exact .text _ _
  | .tup l, _, _, r, ru, k => by
    cases r with | tup a b =>
    cases ru
    obtain ⟨its, rv, ⟨o, h1, h2, n, h3⟩, _⟩ := I.tuple (SqT.of a)
    exact .tup h1 h2 h3 (by simpa using nest_all I l _ its b rv k)
  | .lst _, _, _, _, _, k => by cases k
  | .dct _, _, _, _, _, k => by cases k
  | .ins _ _, _, _, _, _, k => by cases k
theorem nest_all (I : L2.Inv X pins σ H s) : ∀ (ds : List D) (vs : List V) (us : List Value), Reps C H ds vs → Vals vs us → D.kpL ds = true → NestedAll s.heap (D.toKL ds) us
  | [], _, _, r, ru, _ => by cases r; cases ru; exact .nil
  | d :: ds, _, _, r, ru, k => by
    have k' : (D.kp d && D.kpL ds) = true := k
    rw [Bool.and_eq_true] at k'
    cases r with | cons a b =>
    cases ru with | cons a' b' =>
    exact .cons (nest_of I d _ _ a a' k'.1) (nest_all I ds _ _ b b' k'.2)
end
/-- the entries, as the library's dicts of tuple keys ask of them -/
def kvsOf : List (D × D) → List DictEntry → List (NestedKey × Value)
  | (k, _) :: l, e :: es => (k.toK, e.val) :: kvsOf l es
  | _, _ => []
def adr : Value → Addr
  | .ref a => a
  | _ => 0
def xsOf : List (D × D) → List DictEntry → List (NestedKey × Addr × Value)
  | (k, _) :: l, e :: es => (k.toK, adr e.key, e.val) :: xsOf l es
  | _, _ => []
theorem xs_pairs : ∀ (l : List (D × D)) (es : List DictEntry), pairsH (xsOf l es) = kvsOf l es
  | [], _ => by simp [xsOf, kvsOf, pairsH]
  | _ :: _, [] => by simp [xsOf, kvsOf, pairsH]
  | (k, d) :: l, e :: es => by
    have := xs_pairs l es
    simp only [pairsH] at this ⊢
    simp [xsOf, kvsOf, this]
theorem xs_keys {G : Hp} : ∀ {l : List (D × D)} {es : List DictEntry}, RepE0 C G l es → (xsOf l es).map (·.1) = l.map fun p => p.1.toK
  | [], _, r => by cases r; rfl
  | (k, d) :: l, _, r => by cases r with | cons _ _ _ _ _ b => simp [xsOf, xs_keys b]
theorem xs_entries (P : Program) (hs : ∀ d, C.hs d = d.toK.hash X.w) {G : Hp} : ∀ {l : List (D × D)} {es : List DictEntry}, RepE0 C G l es → (∀ p ∈ l, isTK p.1 = true) → es = (xsOf l es).map (entryOfKey (nestedKind P X.w))
  | [], _, r, _ => by cases r; rfl
  | (k, d) :: l, _, r, h => by
    cases r with | cons a b c e f g =>
    rename_i kv dv en es
    have hk := h (k, d) (by simp)
    cases k with
    | tup m =>
      cases a with | tup a1 a2 =>
      have ek : en.key = .ref _ := b
      simp only [xsOf, List.map_cons]
      rw [← xs_entries P hs g fun p hp => h p (by simp [hp])]
      congr 1
      obtain ⟨h1, h2, h3⟩ := en
      simp only at ek c
      subst ek c
      simp only [entryOfKey, adr, hs]
      rfl
    | _ => cases hk
theorem xs_is (P : Program) {G : Hp} (I : L2.Inv X pins σ H s) (sub : Sub G H) : ∀ {l : List (D × D)} {es : List DictEntry}, RepE0 C G l es → (∀ p ∈ l, isTK p.1 = true) → ∀ x ∈ xsOf l es, (nestedKind P X.w).is s.heap x.1 x.2.1
  | [], _, r, _, x, hx => by cases r; cases hx
  | (k, d) :: l, _, r, h, x, hx => by
    cases r with | cons a b c e f g =>
    rename_i kv dv en es
    have hk := h (k, d) (by simp)
    simp only [xsOf] at hx
    rcases List.mem_cons.mp hx with rfl | hx
    · have n := nest_of I k kv en.key (Rep.mono sub _ _ a) b (isTK_kp hk).1
      cases k with
      | tup m =>
        cases a with | tup a1 a2 =>
        have ek : en.key = .ref _ := b
        rw [ek] at n
        refine ⟨?_, (isTK_kp hk).2⟩
        show NestedIs s.heap _ (.ref (adr en.key))
        rw [ek]
        exact n
      | _ => cases hk
    · exact xs_is P I sub g (fun p hp => h p (by simp [hp])) x hx
theorem keys_nodup : ∀ {l : List (D × D)}, (∀ p ∈ l, D.kp p.1 = true) → l.Pairwise (fun p q => D.eqv p.1 q.1 = false) → (l.map fun p => p.1.toK).Nodup
  | [], _, _ => by simp
  | p :: l, h, w => by
    rw [List.map_cons, List.nodup_cons]
    have w' := List.pairwise_cons.mp w
    refine ⟨fun hm => ?_, keys_nodup (fun q hq => h q (by simp [hq])) w'.2⟩
    obtain ⟨q, hq, e⟩ := List.mem_map.mp hm
    have h1 := w'.1 q hq
    rw [D.eqvK _ _ (h p (by simp)) (h q (by simp [hq])), e, NestedKey.beq_self] at h1
    cases h1
/-- a dict of tuple keys -/
theorem keyed_of (hs : ∀ d, C.hs d = d.toK.hash X.w) {G : Hp} (I : L2.Inv X pins σ H s) (sub : Sub G H) {a : Addr} {l : List (D × D)} {ee : List DictEntry × Nat} (ha : H a = some (dicO a ee)) (r : RepE C G l ee) (hk : ∀ p ∈ l, isTK p.1 = true) :
    (a == sysModules) = false ∧ s.heap.DictKeyed (nestedKind X.prog X.w) a (kvsOf l ee.1) := by
  obtain ⟨⟨h1, o, ho, hx, hd⟩, _⟩ := I.hok _ _ ha
  refine ⟨h1, xsOf l ee.1, ⟨o, ee.1.toArray, ee.2, ho, hx, hd, ?_, xs_is X.prog I sub r.2 hk, ?_⟩, xs_pairs l ee.1⟩
  · simpa using xs_entries X.prog hs r.2 hk
  · rw [xs_keys r.2]
    exact keys_nodup (fun p hp => (isTK_kp (hk p hp)).1) r.1.2
theorem look_of {G : Hp} {k : D} (hk : D.kp k = true) : ∀ {l : List (D × D)} {es : List DictEntry}, RepE0 C G l es → (∀ p ∈ l, D.kp p.1 = true) →
    (∀ d, lookD k l = some d → ∃ v u, valueAt (kvsOf l es) k.toK = some u ∧ RelV v u ∧ Rep C G d v) ∧ (lookD k l = none → valueAt (kvsOf l es) k.toK = none)
  | [], _, r, _ => by
    cases r
    exact ⟨fun d h => (by cases h), fun _ => rfl⟩
  | (a, d) :: l, _, r, h => by
    cases r with | cons r1 b c e f g =>
    rename_i kv dv en es
    have eq : D.eqv a k = decide (a.toK = k.toK) := by rw [NestedKey.decide_eq]; exact D.eqvK _ _ (h (a, d) (by simp)) hk
    obtain ⟨ih1, ih2⟩ := look_of (G := G) hk g fun p hp => h p (by simp [hp])
    unfold lookD
    simp only [kvsOf]
    by_cases q : a.toK = k.toK
    · rw [eq, decide_eq_true q, if_pos rfl]
      have : valueAt ((a.toK, en.val) :: kvsOf l es) k.toK = some en.val := by simp [valueAt, q]
      rw [this]
      exact ⟨fun d' hd => by cases hd; exact ⟨dv, en.val, rfl, f, e⟩, fun hn => by cases hn⟩
    · rw [eq, decide_eq_false q, if_neg Bool.false_ne_true]
      have : valueAt ((a.toK, en.val) :: kvsOf l es) k.toK = valueAt (kvsOf l es) k.toK := by simp [valueAt, q]
      rw [this]
      exact ⟨ih1, ih2⟩
end

section
variable {S : Type} {C : CI} {HK : HandK S} {X : Cx} {W : WX} {e e2 e3 tg : Expr} {es : List Expr} {pos p p2 : Pos}
/-! ### d[k] -/
def rIxK (C : CI) : R2 := fun x y H Q => ∃ (a : Addr) (G : Hp) (l : List (Fx.D × Fx.D)) (ee : List DictEntry × Nat) (k d : Fx.D), x = .ref a ∧ Sub G H ∧ H a = some (dicO a ee) ∧ RepE C G l ee ∧ (∀ p ∈ l, isTK p.1 = true) ∧ Rep C H k y ∧ isTK k = true ∧ lookD k l = some d ∧ ∀ v, Rep C G d v → Q v H
theorem ix_key (hs : ∀ d, C.hs d = d.toK.hash X.w) (hu : X.A.units + 64 < cLine) : IxR X (rIxK C) := by
  intro value slice pins s σ H x y v u Q I rx ry h hsub
  obtain ⟨a, G, l, ee, k, d, rfl, sub, ha, r, hk, rk, tk, lk, q⟩ := h
  obtain rfl : v = Value.ref a := rx
  obtain ⟨hsys, hm⟩ := keyed_of hs I sub ha r hk
  have n := nest_of I k y u rk ry (isTK_kp tk).1
  obtain ⟨v0, u0, e1, e2, e3⟩ := (look_of (G := G) (isTK_kp tk).1 r.2 fun p hp => (isTK_kp (hk p hp)).1).1 d lk
  cases k with
  | tup m =>
    cases rk with | tup a1 a2 =>
    obtain rfl : u = Value.ref _ := ry
    exact tail_any hm.typeIs slot_dict_getitem.lookup (getItem_keyed (knd := nestedKind X.prog X.w) (show X.A.in1.units + 8 < cLine by show X.A.units + 1 + 8 < cLine; omega) ⟨n, (isTK_kp tk).2⟩ hm e1 ⟨v0, H, I.tok _, e2, q v0 e3⟩) hsub
  | _ => cases tk
theorem mem_lookD {k d : Fx.D} : ∀ {l : List (Fx.D × Fx.D)}, lookD k l = some d → ∃ a, (a, d) ∈ l ∧ D.eqv a k = true
  | [], h => by cases h
  | (a, e) :: l, h => by
    unfold lookD at h
    by_cases q : D.eqv a k = true
    · rw [if_pos q] at h; cases h; exact ⟨a, by simp, q⟩
    · rw [if_neg q] at h
      obtain ⟨b, h1, h2⟩ := mem_lookD h
      exact ⟨b, by simp [h1], h2⟩
theorem isTK_LK {d : Fx.D} (h : isTK d = true) (h' : isLK d = true) : False := by cases d <;> first | cases h | cases h'
theorem kfit_all {l : List (Fx.D × Fx.D)} {k : Fx.D} (h : KOk l) (f : kfit l k = true) (t : isTK k = true) : ∀ p ∈ l, isTK p.1 = true := by
  rcases h.1 with h1 | h1
  · exact fun p hp => List.all_eq_true.mp h1 p hp
  · cases l with
    | nil => exact fun p hp => by cases hp
    | cons z l =>
      exfalso
      have h2 := List.all_eq_true.mp h1 z (by simp)
      have f' : ((isTK z.1 && isTK k) || (isLK z.1 && isLK k)) = true := f
      rw [Bool.or_eq_true, Bool.and_eq_true, Bool.and_eq_true] at f'
      rcases f' with f' | f'
      · exact isTK_LK f'.1 h2
      · exact isTK_LK t f'.2
/-- x[i], of lists, tuples, dicts whose keys are tuples -/
def dIx3 (a b : Fx.D) : Option Fx.D := match a with
  | .dct l => if kfit l b && isTK b then lookD b l else none
  | _ => dIx a b
theorem ev_ix2 {f g : E S} (hsh : ∀ d, C.hs d = d.toK.hash X.w) (hu : X.A.units + 64 < cLine) (hf : EB C HK X W e f) (hg : EB C HK X W e2 g) (hs : PlainIx e2) : EV C HK X W (.Subscript e e2 pos) (eBin dIx3 f g) :=
  PE.of (pe_ix (IxR.or (IxR.or ix_list ix_tup) (ix_key hsh hu)) hf hg hs) fun σ H Q ⟨F, G, ρ, s, rel, p⟩ => ⟨F, G, ρ, s, rel, by
    refine (Post.step (RR := RRb C F ρ σ H) rel p).imp' fun x H1 ⟨a, s1, G1, rel1, x1, r1, p1⟩ => ?_
    refine ⟨F, G1, ρ, s1, rel1, (Post.step (RR := RRb C F ρ σ H) rel1 p1).imp' fun y H2 ⟨b, s2, G2, rel2, x2, r2, p2⟩ => ?_⟩
    have r1' := r1.keep x2
    cases a with
    | tup l =>
      cases b with
      | int i =>
        cases r2.rep rel2.le
        obtain ⟨q, xs, rfl, h1, h2⟩ := r1'.tup
        simp only [dIx3, dIx] at p2
        cases z : ixD l.length i with
        | none => rw [z] at p2; exact p2.elim
        | some j =>
          rw [z] at p2
          dsimp only [Option.bind] at p2
          cases z2 : l[j]? with
          | none => rw [z2] at p2; exact p2.elim
          | some d =>
            rw [z2] at p2
            obtain ⟨v, e1, e2⟩ := Reps.get h2 z2
            exact .inl (.inr ⟨q, xs, i, v, rfl, rfl, SqT.of (rel2.le _ _ h1), ixD_at (by rw [← Reps.length h2]; exact z) e1, Post.here rel2 p2 e2⟩)
      | _ => exact p2.elim
    | lst l =>
      cases b with
      | int i =>
        cases r2.rep rel2.le
        obtain ⟨q, xs, rfl, h1, h2⟩ := r1'.lst rel2.le
        simp only [dIx3, dIx] at p2
        cases z : ixD l.length i with
        | none => rw [z] at p2; exact p2.elim
        | some j =>
          rw [z] at p2
          dsimp only [Option.bind] at p2
          cases z2 : l[j]? with
          | none => rw [z2] at p2; exact p2.elim
          | some d =>
            rw [z2] at p2
            obtain ⟨v, e1, e2⟩ := Reps.get h2 z2
            exact .inl (.inl ⟨q, xs, i, v, rfl, rfl, SqL.of h1, ixD_at (by rw [← Reps.length h2]; exact z) e1, Post.here rel2 p2 e2⟩)
      | _ => exact p2.elim
    | dct l =>
      simp only [dIx3] at p2
      by_cases hb : (kfit l b && isTK b) = true
      · rw [if_pos hb] at p2
        rw [Bool.and_eq_true] at hb
        obtain ⟨q, ee, rfl, h1, h2⟩ := r1'.dct rel2.le
        cases z : lookD b l with
        | none => rw [z] at p2; exact p2.elim
        | some d =>
          rw [z] at p2
          exact .inr ⟨q, G2, l, ee, b, d, rfl, rel2.le, h1, h2, kfit_all h2.1 hb.1 hb.2, r2.rep rel2.le, hb.2, z, fun v hv => Post.here rel2 p2 hv⟩
      · rw [if_neg hb] at p2; exact p2.elim
    | _ => cases b <;> exact p2.elim⟩
/-! ### a dict is walked: its keys -/
/-- the walk over the keys vs of the dict at d -/
def Itq (d : Addr) (ee : List DictEntry × Nat) (vs : List V) : It :=
  ⟨fun i H => H d = some (dicO d ee) ∧ i < vs.length, fun i H x H' => H' = H ∧ vs[i]? = some x, fun i H => H d = some (dicO d ee) ∧ vs.length ≤ i⟩
theorem raw_of {pins : List (Addr × Obj)} {σ : L2.St} {H : Hp} {s : Shared} (I : L2.Inv X pins σ H s) {d : Addr} {ee : List DictEntry × Nat} (h : H d = some (dicO d ee)) : (d == sysModules) = false ∧ s.heap.DictRaw d ee.1.toArray ee.2 := by
  obtain ⟨⟨h1, h2⟩, _⟩ := I.hok _ _ h
  exact ⟨h1, h2⟩
theorem turn_rawkeys {P : Program} {w : World} {K : PySem.W.Frag} {d : Addr} {ee : List DictEntry × Nat} {vs : List V} (it : Addr) (hv : Vals vs (ee.1.map (·.key))) : Turn P w K tg (Itq d ee vs) [it] it (fun i h => h.IsKeyIter it d i ee.1.toArray.size ee.2) where
  mem := by simp
  obj := fun i h st b hb => by
    have e : b = it := by simpa using hb
    subst e
    obtain ⟨oi, e, c, dd⟩ := st
    exact ⟨oi, e, fun v z => by rw [dd] at z; cases z⟩
  keep := fun i h h' st k => st.at fun oi e => k it (by simp) oi e
  item := by
    intro X hP hw hK hc i pins s σ H E I hf st hg
    subst hP hw hK
    obtain ⟨hd, hi⟩ := hg
    obtain ⟨f0, f1, f2, f3, f4, f5⟩ := hf it (by simp)
    obtain ⟨hsys, raw⟩ := raw_of I hd
    have hl := hv.length
    rw [List.length_map] at hl
    have hi2 : i < ee.1.toArray.size := by simpa [← hl] using hi
    obtain ⟨x, hx⟩ : ∃ x, vs[i]? = some x := ⟨vs[i], List.getElem?_eq_getElem hi⟩
    obtain ⟨u, hu, ru⟩ := hv.get hx
    have eu : ee.1.toArray[i].key = u := by
      rw [List.getElem?_map] at hu
      have h1 : ee.1[i]? = some ee.1[i] := List.getElem?_eq_getElem (by simpa using hi2)
      rw [h1] at hu
      simpa using hu
    refine wpAny_pyNext_keys_item_raw st raw hi2 fun h' st' sb => ?_
    rw [eu]
    have I1 : L2.Inv X pins σ H { s with heap := h' } := I.turned (t' := s.toks) (fun b ob hb e => (sb.2 b hb).trans e) f0 f1 f3 f4 f5
    obtain ⟨oi, e, c, dd⟩ := id st'
    exact ⟨u, rfl, go_of (s := { s with heap := h' }) e c dd (by decide) ⟨x, H, I1, ru, ⟨rfl, hx⟩, st', fun b hb => (hf b hb).1⟩⟩
  done := by
    intro X hP hw hK hc i pins s σ H E I hf st hg
    subst hP hw hK
    obtain ⟨hd, hi⟩ := hg
    obtain ⟨f0, f1, f2, f3, f4, f5⟩ := hf it (by simp)
    obtain ⟨hsys, raw⟩ := raw_of I hd
    have hl := hv.length
    rw [List.length_map] at hl
    exact wpAny_pyNext_keys_end_raw (I.ok.hd hc) st raw (by simp only [List.size_toArray]; omega) fun h' eb => ⟨rfl, I.turned (t' := s.toks) (fun b ob hb e => eb b ob hb e) f0 f1 f3 f4 f5⟩
  self := fun A i s Q E st h => by
    refine wpAny_pyIter_slot st.typeIs F.slot_dict_keyiterator_iter (wpAny_call_entry F.slot_dict_keyiterator_iter st.typeIs F.entry_dict_keyiterator_iter ?_ (F.args_dict_keyiterator_iter_1 _))
    show wpAny _ _ (ret (.ref it)) _ _ s
    exact wpAny_pure ⟨_, rfl, "dict_keyiterator", _, st.typeIs, F.slot_dict_keyiterator_next.lookup, h⟩
theorem keys_reps {G : Hp} : ∀ {l : List (Fx.D × Fx.D)} {es : List DictEntry}, RepE0 C G l es → ∃ vs, Vals vs (es.map (·.key)) ∧ Reps C G (l.map (·.1)) vs
  | [], _, r => by cases r; exact ⟨[], .nil, .nil⟩
  | (k, d) :: l, _, r => by
    cases r with | cons a b c e f g =>
    obtain ⟨vs, h1, h2⟩ := keys_reps g
    exact ⟨_ :: vs, .cons b h1, .cons a h2⟩
def iSeq2 (K : PySem.W.Frag) (tl : TE) : TI := fun σ H R => tl σ H fun x H1 => ∃ a, x = .ref a ∧ (((∃ xs, SqL K H1 a xs) ∧ R (Itl K a) H1) ∨ ((∃ xs, SqT K H1 a xs) ∧ R (Itt K a) H1) ∨ ∃ ee vs, H1 a = some (dicO a ee) ∧ Vals vs (ee.1.map (·.key)) ∧ R (Itq a ee vs) H1)
theorem pi_seq2 {l : Expr} {tl : TE} (hl : PE X l tl) : PI X tg l (iSeq2 X.K tl) := by
  refine ⟨fun pins s σ H R I h => ?_⟩
  refine thn (hl.run pins s σ H _ I h) fun v s1 ⟨x, H1, I1, r1, q1⟩ => ?_
  obtain ⟨a, e, q⟩ := q1
  subst e
  cases r1
  have fp : ∀ b ∈ [s1.heap.objs.size], FpOk X pins H1 b := fun b hb => by
    have e : b = s1.heap.objs.size := by simpa using hb
    subst e
    exact I1.fpOk (Nat.le_refl _) (I1.hok.fresh (Nat.le_refl _))
  rcases q with ⟨⟨xs, hq⟩, q⟩ | ⟨⟨xs, hq⟩, q⟩ | ⟨ee, vs, hd, hv, q⟩
  · obtain ⟨its, rv, p, hz⟩ := I1.list hq
    refine wpAny_pyIter_list p.isList ?_
    exact ⟨s1.heap.objs.size, [s1.heap.objs.size], _, _, H1, rfl, I1.kept (t' := s1.toks) fun b o e => Heap.get?_push_of_some _ e, turn_list a _, ⟨_, Heap.get?_push_size _ rfl, rfl, rfl⟩, fp, q⟩
  · obtain ⟨its, rv, p, hz⟩ := I1.tuple hq
    refine wpAny_pyIter_tuple (show s1.heap.IsTuple a its.toArray from p) ?_
    exact ⟨s1.heap.objs.size, [s1.heap.objs.size], _, _, H1, rfl, I1.kept (t' := s1.toks) fun b o e => Heap.get?_push_of_some _ e, turn_tuple a _, ⟨_, Heap.get?_push_size _ rfl, rfl, rfl⟩, fp, q⟩
  · obtain ⟨hsys, raw⟩ := raw_of I1 hd
    refine wpAny_pyIter_dict_raw hsys raw ?_
    exact ⟨s1.heap.objs.size, [s1.heap.objs.size], _, _, H1, rfl, I1.kept (t' := s1.toks) fun b o e => Heap.get?_push_of_some _ e, turn_rawkeys _ hv, ⟨_, Heap.get?_push_size _ rfl, rfl, rfl⟩, fp, q⟩
theorem itok_dct {F : Fix} {G0 H0 : Hp} {a : Addr} {ee : List DictEntry × Nat} {l : List Fx.D} {vs : List V} (e : G0 a = some (dicO a ee)) (r : Reps C G0 l vs) : ItOk C HK F (Itq a ee vs) l G0 H0 := fun i G ρ s σ H rel sub => by
  have h : H a = some (dicO a ee) := rel.le _ _ (sub _ _ e)
  have r' := Reps.mono sub _ _ r
  refine ⟨fun d q => ?_, fun q => ⟨h, by rw [← Reps.length r]; exact q⟩⟩
  obtain ⟨v, q1, q2⟩ := Reps.get r' q
  refine ⟨⟨h, (List.getElem?_eq_some_iff.mp q1).1⟩, fun x H3 ⟨z1, z2⟩ => ?_⟩
  subst z1
  rw [q1] at z2; cases z2
  exact ⟨G, Nxt.refl rel, q2⟩
theorem itokB_dct {F : Fix} {G0 H0 : Hp} {a : Addr} {ee : List DictEntry × Nat} {l : List Fx.D} {vs : List V} (e : H0 a = some (dicO a ee)) (n : a ∉ F.HA) (r : Reps C G0 l vs) : ItOkB C HK F (Itq a ee vs) l G0 H0 := fun i G ρ s σ H rel x => by
  have h : H a = some (dicO a ee) := x.kp _ _ e n
  have r' := Reps.mono x.sub _ _ r
  refine ⟨fun d q => ?_, fun q => ⟨h, by rw [← Reps.length r]; exact q⟩⟩
  obtain ⟨v, q1, q2⟩ := Reps.get r' q
  refine ⟨⟨h, (List.getElem?_eq_some_iff.mp q1).1⟩, fun x H3 ⟨z1, z2⟩ => ?_⟩
  subst z1
  rw [q1] at z2; cases z2
  exact ⟨G, Nxt.refl rel, q2⟩
theorem iv_seq2 {f : E S} (h : EV C HK X W e f) : IV C HK X W tg e (wSeq2 f) :=
  PI.of (pi_seq2 h) fun σ H R' ⟨F, G, ρ, s, rel, p⟩ => ⟨F, G, ρ, s, rel, (Post.step (RR := RRe C F ρ σ H) rel p).imp' fun v H1 ⟨d, s1, G1, rel1, x1, r, p1⟩ => by
    cases d with
    | tup _ =>
      cases r with | @tup a _ vs r1 r2 =>
      exact ⟨a, rfl, .inr (.inl ⟨⟨vs, SqT.of (x1.le _ _ r1)⟩, p1.here rel1 (itok_tup r1 r2)⟩)⟩
    | lst _ =>
      cases r with | @lst a _ vs r1 r2 =>
      exact ⟨a, rfl, .inl ⟨⟨vs, SqL.of (x1.le _ _ r1)⟩, p1.here rel1 (itok_list r1 r2)⟩⟩
    | dct _ =>
      cases r with | @dct a _ ee r1 k r2 =>
      obtain ⟨vs, h1, h2⟩ := keys_reps r2
      exact ⟨a, rfl, .inr (.inr ⟨ee, vs, x1.le _ _ r1, h1, p1.here rel1 (itok_dct r1 h2)⟩)⟩
    | _ => exact p1.elim⟩
theorem ib_seq2 {f : E S} (h : EB C HK X W e f) : IB C HK X W tg e (wSeq2 f) :=
  PI.of (pi_seq2 h) fun σ H R' ⟨F, G, ρ, s, rel, p⟩ => ⟨F, G, ρ, s, rel, (Post.step (RR := RRb C F ρ σ H) rel p).imp' fun v H1 ⟨d, s1, G1, rel1, x1, r, p1⟩ => by
    cases d with
    | tup _ =>
      obtain ⟨a, vs, rfl, r1, r2⟩ := r.tup
      exact ⟨a, rfl, .inr (.inl ⟨⟨vs, SqT.of (x1.le _ _ r1)⟩, p1.here rel1 (itok_tup r1 r2).b⟩)⟩
    | lst _ =>
      rcases r with r | ⟨a, l, vs, e0, e1, e2, e3, e4⟩ | ⟨a, l, es, e0, _⟩
      · cases r with | @lst a _ vs r1 r2 =>
        exact ⟨a, rfl, .inl ⟨⟨vs, SqL.of (x1.le _ _ r1)⟩, p1.here rel1 (itok_list r1 r2).b⟩⟩
      · cases e0
        exact ⟨a, e1, .inl ⟨⟨vs, SqL.of e2⟩, p1.here rel1 (itokB_list e2 e3 e4)⟩⟩
      · cases e0
    | dct _ =>
      rcases r with r | ⟨a, l, vs, e0, _⟩ | ⟨a, l, ee, e0, e1, e2, e3, e4⟩
      · cases r with | @dct a _ ee r1 k r2 =>
        obtain ⟨vs, h1, h2⟩ := keys_reps r2
        exact ⟨a, rfl, .inr (.inr ⟨ee, vs, x1.le _ _ r1, h1, p1.here rel1 (itok_dct r1 h2).b⟩)⟩
      · cases e0
      · cases e0
        obtain ⟨vs, h1, h2⟩ := keys_reps e4.2
        exact ⟨a, e1, .inr (.inr ⟨ee, vs, e2, h1, p1.here rel1 (itokB_dct e2 e3 h2)⟩)⟩
    | _ => exact p1.elim⟩
end
end Fx
set_option Elab.async false
set_option linter.all false
set_option autoImplicit false
set_option maxRecDepth 100000
/-! Fx: dict(zip(x, y)) over lists and tuples, mixed. -/
namespace Fx.Zp
open PySem PySem.Spec PyProof.Rows
section
variable {prog : Program} {w : World} {A : Around} {E : Value → Shared → Prop} {s : Shared} {z TI TO i1 i2 T : Addr} {fp1 fp2 : List Addr} {n1 n2 i : Nat} {P1 P2 : Nat → Value → Prop} {St1 St2 : Nat → Heap → Prop} {f : Bool} {oT : Obj}
/-- 'next' of a zip whose last tuple is still out -/
theorem item_held {Q : Value → Shared → Prop} (S : ZipSep2 z TI TO i1 i2 fp1 fp2) (D1 : Draws prog w A i1 fp1 n1 P1 St1) (D2 : Draws prog w A i2 fp2 n2 P2 St2)
    (hz : IsZipHeld s.heap z TI TO T f) (hT : s.heap.get? T = some oT) (hTI : IsTupOf2 s.heap TI (.ref i1) (.ref i2)) (st1 : St1 i s.heap) (st2 : St2 i s.heap) (lt1 : i < n1) (lt2 : i < n2)
    (hQ : ∀ x1 x2 h' tk, P1 i x1 → P2 i x2 → IsZipHeld h' z TI TO T true → St1 (i + 1) h' → St2 (i + 1) h' → IsTupOf2 h' s.heap.objs.size x1 x2 → (∀ c o, c ≠ z → c ≠ i1 → c ≠ i2 → s.heap.get? c = some o → h'.get? c = some o) → Q (.ref s.heap.objs.size) { s with heap := h', toks := tk }) :
    wpAny (model prog w) A (Builtin.«zip.__next__» ⟨[.ref z], []⟩) (fun fin s' => ∃ v, fin = .done (.ret v) ∧ Q v s') E s := by
  obtain ⟨hp, g, d, tk0, os⟩ := s
  show wpAny _ _ (field (.ref z) 2 >>= _) _ _ _
  refine wpAny_bind (wpAny_field hz rfl (x := .bool false) rfl ?_)
  show wpAny _ _ (field (.ref z) 3 >>= _) _ _ _
  refine wpAny_bind (wpAny_field hz rfl (x := .ref TI) rfl ?_)
  refine wpAny_bind (wpAny_seqItems hTI rfl ?_)
  refine wpAny_bind (m := Builtin.SmallTypes.ownedTupleIsFree (.ref z)) (wpAny_tupleHeld_zip hz hT fun g0 hz0 hs0 => ?_)
  replace hs0 : Heap.SameBut z hp g0 := hs0
  simp only [Bool.false_eq_true, if_false]
  refine wpAny_bind ?_
  rw [← Array.forIn_toList]
  simp only [List.forIn_cons, List.forIn_nil]
  refine wpAny_bind (wpAny_bind (wpAny_holding ?_))
  refine wpAny_bind (m := Builtin.SmallTypes.nextOf (.ref i1)) (D1.item i ⟨g0, g, d, tk0, os⟩ _ _ lt1 (D1.over st1 hs0 S.zf1) fun x1 p1 tk1 hx1 sn1 hp1 => wpAny_pure ?_)
  replace hp1 : Heap.SameBut i1 g0 p1 := hp1
  refine wpAny_pure ?_
  refine wpAny_bind (wpAny_bind (wpAny_holding ?_))
  refine wpAny_bind (m := Builtin.SmallTypes.nextOf (.ref i2)) (D2.item i ⟨p1, g, d, tk1, os⟩ _ _ lt2 (D2.over (D2.over st2 hs0 S.zf2) hp1 S.sep1_2) fun x2 p2 tk2 hx2 sn2 hp2 => wpAny_pure ?_)
  replace hp2 : Heap.SameBut i2 p1 p2 := hp2
  refine wpAny_pure (wpAny_pure ?_)
  refine wpAny_bind (m := newTuple [x1, x2]) (wpAny_newTuple ?_)
  have sz : p2.objs.size = hp.objs.size := by rw [hp2.1, hp1.1, hs0.1]
  have kk : ∀ c o, c ≠ z → c ≠ i1 → c ≠ i2 → hp.get? c = some o → p2.get? c = some o := fun c o cz c1 c2 e => hp2.extBut _ _ c2 (hp1.extBut _ _ c1 (hs0.extBut _ _ cz e))
  have zz : IsZipHeld p2 z TI TO T true := hp2.extBut _ _ S.zi2 (hp1.extBut _ _ S.zi1 hz0)
  have j1 : St1 (i + 1) p2 := D1.over sn1 hp2 S.sep2_1
  have tt : IsTupOf2 (p2.push { cls := .type "tuple", data := .seq #[x1, x2] }) p2.objs.size x1 x2 := Heap.get?_push_size _ rfl
  refine wpAny_pure ⟨_, rfl, ?_⟩
  show Q (.ref p2.objs.size) _
  rw [sz] at tt ⊢
  have fr := fun (c : Addr) (o : Obj) (e : p2.get? c = some o) => Heap.get?_push_of_some (h := p2) ({ cls := .type "tuple", data := .seq #[x1, x2] } : Obj) e
  exact hQ x1 x2 _ tk2 hx1 hx2 (fr _ _ zz) (D1.frame _ _ _ j1 fun b _ o e => fr b o e) (D2.frame _ _ _ sn2 fun b _ o e => fr b o e) tt fun c o cz c1 c2 e => fr c o (kk c o cz c1 c2 e)
theorem end_held {Q : Fin → Shared → Prop} (S : ZipSep2 z TI TO i1 i2 fp1 fp2) (D1 : Draws prog w A i1 fp1 n1 P1 St1) (D2 : Draws prog w A i2 fp2 n2 P2 St2)
    (hz : IsZipHeld s.heap z TI TO T f) (hT : s.heap.get? T = some oT) (hTI : IsTupOf2 s.heap TI (.ref i1) (.ref i2)) (st1 : St1 i s.heap) (st2 : St2 i s.heap) (hend : i = n1 ∨ (i < n1 ∧ i = n2))
    (hE : ∀ h' tk e, (∀ c o, c ≠ z → c ≠ i1 → c ≠ i2 → s.heap.get? c = some o → h'.get? c = some o) → (∃ o, h'.get? e = some o ∧ o.cls = .type "StopIteration") → E (.ref e) { s with heap := h', toks := tk }) :
    wpAny (model prog w) A (Builtin.«zip.__next__» ⟨[.ref z], []⟩) Q E s := by
  obtain ⟨hp, g, d, tk0, os⟩ := s
  show wpAny _ _ (field (.ref z) 2 >>= _) _ _ _
  refine wpAny_bind (wpAny_field hz rfl (x := .bool false) rfl ?_)
  show wpAny _ _ (field (.ref z) 3 >>= _) _ _ _
  refine wpAny_bind (wpAny_field hz rfl (x := .ref TI) rfl ?_)
  refine wpAny_bind (wpAny_seqItems hTI rfl ?_)
  refine wpAny_bind (m := Builtin.SmallTypes.ownedTupleIsFree (.ref z)) (wpAny_tupleHeld_zip hz hT fun g0 hz0 hs0 => ?_)
  replace hs0 : Heap.SameBut z hp g0 := hs0
  simp only [Bool.false_eq_true, if_false]
  refine wpAny_bind ?_
  rw [← Array.forIn_toList]
  simp only [List.forIn_cons, List.forIn_nil]
  refine wpAny_bind (wpAny_bind (wpAny_holding ?_))
  rcases hend with rfl | ⟨lt1, rfl⟩
  · refine wpAny_bind (m := Builtin.SmallTypes.nextOf (.ref i1)) (D1.done ⟨g0, g, d, tk0, os⟩ _ _ (D1.over st1 hs0 S.zf1) fun q e hq he => ?_)
    replace hq : Heap.ExtBut i1 g0 q := hq
    exact hE q tk0 e (fun c o cz c1 _ x => hq _ _ c1 (hs0.extBut _ _ cz x)) he
  · refine wpAny_bind (m := Builtin.SmallTypes.nextOf (.ref i1)) (D1.item i ⟨g0, g, d, tk0, os⟩ _ _ lt1 (D1.over st1 hs0 S.zf1) fun x1 p1 tk1 hx1 sn1 hp1 => wpAny_pure ?_)
    replace hp1 : Heap.SameBut i1 g0 p1 := hp1
    refine wpAny_pure ?_
    refine wpAny_bind (wpAny_bind (wpAny_holding ?_))
    refine wpAny_bind (m := Builtin.SmallTypes.nextOf (.ref i2)) (D2.done ⟨p1, g, d, tk1, os⟩ _ _ (D2.over (D2.over st2 hs0 S.zf2) hp1 S.sep1_2) fun q e hq he => ?_)
    replace hq : Heap.ExtBut i2 p1 q := hq
    exact hE q tk1 e (fun c o cz c1 c2 x => hq _ _ c2 (hp1.extBut _ _ c1 (hs0.extBut _ _ cz x))) he
end
section
variable {prog : Program} {w : World}
theorem PairArg.zipD {z TI TO i1 i2 : Addr} {fp1 fp2 : List Addr} {n1 n2 : Nat} {P1 P2 : Nat → Value → Prop} {St1 St2 : Nat → Heap → Prop} (S : ZipSep2 z TI TO i1 i2 fp1 fp2) (D1 : ∀ A : Around, A.handled = none → Draws prog w A i1 fp1 n1 P1 St1) (D2 : ∀ A : Around, A.handled = none → Draws prog w A i2 fp2 n2 P2 St2)
    (th : ∀ h i, St1 i h → St2 i h → ∀ b ∈ fp1 ++ fp2, ∃ o, h.get? b = some o) :
    PairArg prog w "zip" z ([z, TI, TO] ++ (fp1 ++ fp2)) [z, TO, i1, i2] (min n1 n2) (fun i k v => P1 i k ∧ P2 i v)
      (fun h => IsZip h z TI TO .none ∧ IsTupOf2 h TI (.ref i1) (.ref i2) ∧ (∃ a b, IsTupOf2 h TO a b) ∧ St1 0 h ∧ St2 0 h) where
  type := fun s ok => ⟨_, ok.1, rfl⟩
  notDict := by decide
  keep := fun h h' ok hk => by
    obtain ⟨hz, hTI, ⟨a, b, hTO⟩, h1, h2⟩ := ok
    exact ⟨hk _ _ hz, hk _ _ hTI, ⟨a, b, hk _ _ hTO⟩, (D1 {} rfl).frame _ _ _ h1 fun b _ o e => hk _ o e, (D2 {} rfl).frame _ _ _ h2 fun b _ o e => hk _ o e⟩
  there := fun h ok b hb => by
    obtain ⟨hz, hTI, ⟨a, c, hTO⟩, h1, h2⟩ := ok
    rcases List.mem_append.mp hb with hb | hb
    · simp only [List.mem_cons, List.not_mem_nil, or_false] at hb
      rcases hb with rfl | rfl | rfl
      · exact ⟨_, hz⟩
      · exact ⟨_, hTI⟩
      · exact ⟨_, hTO⟩
    · exact th h 0 h1 h2 b hb
  sub := fun b hb => by
    simp only [List.mem_cons, List.not_mem_nil, or_false] at hb
    rcases hb with rfl | rfl | rfl | rfl
    · simp
    · simp
    · exact List.mem_append_right _ (List.mem_append_left _ S.mem1)
    · exact List.mem_append_right _ (List.mem_append_right _ S.mem2)
  noKeys := fun A s Q E hA ok h => getAttrOr_miss_zip ok.1 rfl rfl rfl zip_no_keys (by decide +kernel) hA h
  iter := fun A s d Q E hA ok hd hdf h => by
    obtain ⟨hz, hTI, ⟨a, b, hTO⟩, h1, h2⟩ := ok
    have dz : d ≠ z := fun e => hdf (by simp [e])
    have dTI : d ≠ TI := fun e => hdf (by simp [e])
    have dTO : d ≠ TO := fun e => hdf (by simp [e])
    have d1 : d ∉ fp1 := fun e => hdf (by simp [e])
    have d2 : d ∉ fp2 := fun e => hdf (by simp [e])
    have di1 : d ≠ i1 := fun e => d1 (e ▸ S.mem1)
    have di2 : d ≠ i2 := fun e => d2 (e ▸ S.mem2)
    refine wpAny_pyIter_zip hz (h z [z, TO, i1, i2] (fun i h => IsTupOf2 h TI (.ref i1) (.ref i2) ∧ St1 i h ∧ St2 i h ∧
      ((IsZip h z TI TO .none ∧ ∃ a b, IsTupOf2 h TO a b) ∨ ∃ T f oT, IsZipHeld h z TI TO T f ∧ h.get? T = some oT ∧ T ≠ z ∧ T ≠ i1 ∧ T ≠ i2 ∧ T ≠ d)) s.heap s.toks ?_
      ⟨hTI, h1, h2, .inl ⟨hz, a, b, hTO⟩⟩ (fun _ _ e => e) fun b hb => .inl hb)
    exact {
      off := fun hm => by
        simp only [List.mem_cons, List.not_mem_nil, or_false] at hm
        rcases hm with e | e | e | e
        · exact dz e
        · exact dTO e
        · exact di1 e
        · exact di2 e
      frame := fun i ha hb st hk => by
        obtain ⟨hTI, h1, h2, hz⟩ := st
        refine ⟨hk _ _ (Ne.symm dTI) hTI, (D1 {} rfl).frame _ _ _ h1 fun b hb o e => hk _ o (fun q => d1 (q ▸ hb)) e, (D2 {} rfl).frame _ _ _ h2 fun b hb o e => hk _ o (fun q => d2 (q ▸ hb)) e, ?_⟩
        rcases hz with ⟨hz, a, b, hTO⟩ | ⟨T, f, oT, hz, hT, r1, r2, r3, r4⟩
        · exact .inl ⟨hk _ _ (Ne.symm dz) hz, a, b, hk _ _ (Ne.symm dTO) hTO⟩
        · exact .inr ⟨T, f, oT, hk _ _ (Ne.symm dz) hz, hk _ _ r4 hT, r1, r2, r3, r4⟩
      item := fun i sa Qa Ea hi st hds hQ => by
        obtain ⟨hTI, h1, h2, hz⟩ := st
        have l1 : i < n1 := Nat.lt_of_lt_of_le hi (Nat.min_le_left ..)
        have l2 : i < n2 := Nat.lt_of_lt_of_le hi (Nat.min_le_right ..)
        have lt : ∀ {c o}, sa.heap.get? c = some o → sa.heap.objs.size ≠ c := fun e => Nat.ne_of_gt (Heap.lt_size e)
        have e1 : sa.heap.objs.size ≠ i1 := let ⟨_, e⟩ := (D1 {} rfl).live _ _ h1; lt e
        have e2 : sa.heap.objs.size ≠ i2 := let ⟨_, e⟩ := (D2 {} rfl).live _ _ h2; lt e
        have off : ∀ {c : Addr}, c ∉ [z, TO, i1, i2] → c ≠ z ∧ c ≠ TO ∧ c ≠ i1 ∧ c ≠ i2 := fun hc => ⟨fun x => hc (by simp [x]), fun x => hc (by simp [x]), fun x => hc (by simp [x]), fun x => hc (by simp [x])⟩
        rcases hz with ⟨hz, a, b, hTO⟩ | ⟨T, f, oT, hz, hT, r1, r2, r3, r4⟩
        · refine wpAny_pyNext_zipD2_item S (D1 _ hA) (D2 _ hA) hz hTI hTO h1 h2 l1 l2 fun x1 x2 h' tk y1 y2 a1 a2 a3 a4 a5 a6 hk => ?_
          refine hQ sa.heap.objs.size x1 x2 h' tk ⟨y1, y2⟩ (.inl ⟨_, a5, rfl, _, rfl⟩) ⟨hk _ _ S.TIz S.TITO S.TIi1 S.TIi2 hTI, a3, a4, .inr ⟨sa.heap.objs.size, false, _, a1, a5, lt hz, e1, e2, Nat.ne_of_gt hds⟩⟩ fun c o hc e => ?_
          obtain ⟨c1, c2, c3, c4⟩ := off hc
          exact hk c o c1 c2 c3 c4 e
        · have hTy : sa.TypeIs (.ref z) "zip" := ⟨_, hz, rfl⟩
          unfold pyNext
          refine wpAny_bind (wpAny_attempt (wpAny_callSpecial?_slot (name := PySem.Str.ofString "__next__") hTy F.slot_zip_next
            (wpAny_call_entry F.slot_zip_next hTy F.entry_zip_next (item_held S (D1 _ hA) (D2 _ hA) hz hT hTI h1 h2 l1 l2 fun x1 x2 h' tk y1 y2 a1 a3 a4 a5 hk => wpAny_pure ?_) (F.args_zip_next_1 _))))
          refine hQ sa.heap.objs.size x1 x2 h' tk ⟨y1, y2⟩ (.inl ⟨_, a5, rfl, _, rfl⟩) ⟨hk _ _ S.TIz S.TIi1 S.TIi2 hTI, a3, a4, .inr ⟨T, true, oT, a1, hk _ _ r1 r2 r3 hT, r1, r2, r3, r4⟩⟩ fun c o hc e => ?_
          obtain ⟨c1, c2, c3, c4⟩ := off hc
          exact hk c o c1 c3 c4 e
      done := fun sa Qa Ea st hQ => by
        obtain ⟨hTI, h1, h2, hz⟩ := st
        have off : ∀ {c : Addr}, c ∉ [z, TO, i1, i2] → c ≠ z ∧ c ≠ TO ∧ c ≠ i1 ∧ c ≠ i2 := fun hc => ⟨fun x => hc (by simp [x]), fun x => hc (by simp [x]), fun x => hc (by simp [x]), fun x => hc (by simp [x])⟩
        rcases hz with ⟨hz, a, b, hTO⟩ | ⟨T, f, oT, hz, hT, r1, r2, r3, r4⟩
        · refine wpAny_pyNext_zipD2_end S (D1 _ hA) (D2 _ hA) hz hTI hTO h1 h2 (Nat.min_le_left ..) (Nat.min_le_right ..) (by omega) fun h' tk hk => hQ h' tk fun c o hc e => ?_
          obtain ⟨c1, c2, c3, c4⟩ := off hc
          exact hk c o c1 c2 c3 c4 e
        · have hTy : sa.TypeIs (.ref z) "zip" := ⟨_, hz, rfl⟩
          unfold pyNext
          refine wpAny_bind (wpAny_attempt (wpAny_callSpecial?_slot (name := PySem.Str.ofString "__next__") hTy F.slot_zip_next
            (wpAny_call_entry F.slot_zip_next hTy F.entry_zip_next (end_held S (D1 _ hA) (D2 _ hA) hz hT hTI h1 h2 (by omega) fun h' tk e hk he => ?_) (F.args_zip_next_1 _))))
          obtain ⟨o, ho, hc⟩ := he
          refine wpAny_bind (wpAny_isInstance (T := "StopIteration") (b := true) ⟨o, ho, hc⟩ isSubtype_stop ?_)
          refine wpAny_pure (hQ h' tk fun c o hc e => ?_)
          obtain ⟨c1, c2, c3, c4⟩ := off hc
          exact hk c o c1 c3 c4 e }
end
end Fx.Zp
set_option Elab.async false
set_option linter.all false
set_option autoImplicit false
set_option maxRecDepth 100000
/-! Fx, rules 12: dict(zip(x, y)). -/
namespace Fx
open PySem PySem.Spec PyProof.Rows L2
/-! ### the entries, one by one -/
abbrev XE := NestedKey × Addr × Value
/-- the entries xs are the data l -/
inductive RX (C : CI) (G : Hp) : List (D × D) → List XE → Prop
  | nil : RX C G [] []
  | cons {k d : D} {a : Addr} {v : V} {u : Value} {l : List (D × D)} {xs : List XE} : Rep C G k (.ref a) → RelV v u → Rep C G d v → RX C G l xs → RX C G ((k, d) :: l) ((k.toK, a, u) :: xs)
def insX (k : NestedKey) (a : Addr) (u : Value) : List XE → List XE
  | [] => [(k, a, u)]
  | x :: xs => if x.1 = k then (x.1, x.2.1, u) :: xs else x :: insX k a u xs
theorem putAt_none {k : NestedKey} {u : Value} : ∀ {xs : List XE}, k ∉ xs.map (·.1) → xs.map (putAt k u) = xs
  | [], _ => rfl
  | x :: xs, h => by
    simp only [List.map_cons, List.mem_cons, not_or] at h ⊢
    rw [putAt_none h.2]
    unfold putAt
    rw [if_neg fun e => h.1 e.symm]
theorem insX_eq {k : NestedKey} {a : Addr} {u : Value} : ∀ {xs : List XE}, (xs.map (·.1)).Nodup → storedH xs k a u = insX k a u xs
  | [], _ => by simp [storedH, atKey, insX]
  | x :: xs, h => by
    simp only [List.map_cons, List.nodup_cons] at h
    have ih := insX_eq (k := k) (a := a) (u := u) h.2
    unfold insX
    by_cases e : x.1 = k
    · have h1 : (atKey (x :: xs) k).isSome = true := by simp [atKey, e]
      rw [if_pos e]
      unfold storedH
      rw [if_pos h1, List.map_cons, putAt_none (by rw [← e]; exact h.1)]
      unfold putAt
      rw [if_pos e]
    · have h1 : atKey (x :: xs) k = atKey xs k := by simp [atKey, e]
      rw [if_neg e, ← ih]
      unfold storedH
      rw [h1]
      split
      · rw [List.map_cons]
        congr 1
        unfold putAt
        rw [if_neg e]
      · rfl
theorem insX_keys {k : NestedKey} {a : Addr} {u : Value} : ∀ {xs : List XE} {k' : NestedKey}, k' ∈ (insX k a u xs).map (·.1) → k' = k ∨ k' ∈ xs.map (·.1)
  | [], _, h => by simp [insX] at h; exact .inl h
  | x :: xs, k', h => by
    unfold insX at h
    by_cases e : x.1 = k
    · rw [if_pos e] at h
      exact .inr (by simpa using h)
    · rw [if_neg e] at h
      simp only [List.map_cons, List.mem_cons] at h ⊢
      rcases h with h | h
      · exact .inr (.inl h)
      · rcases insX_keys h with h | h
        · exact .inl h
        · exact .inr (.inr h)
theorem insX_nodup {k : NestedKey} {a : Addr} {u : Value} : ∀ {xs : List XE}, (xs.map (·.1)).Nodup → ((insX k a u xs).map (·.1)).Nodup
  | [], _ => by simp [insX]
  | x :: xs, h => by
    have h' := List.nodup_cons.mp (by simpa using h : (x.1 :: xs.map (·.1)).Nodup)
    unfold insX
    by_cases e : x.1 = k
    · rw [if_pos e]; simpa using h
    · rw [if_neg e, List.map_cons, List.nodup_cons]
      refine ⟨fun hm => ?_, insX_nodup h'.2⟩
      rcases insX_keys hm with q | q
      · exact e q
      · exact h'.1 q
theorem rx_put {C : CI} {G : Hp} {k d : D} {a : Addr} {v : V} {u : Value} (tk : isTK k = true) (rk : Rep C G k (.ref a)) (ru : RelV v u) (rd : Rep C G d v) : ∀ {l : List (D × D)} {xs : List XE}, (∀ p ∈ l, isTK p.1 = true) → RX C G l xs → RX C G (putD k d l) (insX k.toK a u xs)
  | [], _, _, r => by cases r; exact .cons rk ru rd .nil
  | (k', d') :: l, _, h, r => by
    cases r with | cons r1 r2 r3 r4 =>
    unfold putD insX
    have eq : D.eqv k' k = decide (k'.toK = k.toK) := by rw [NestedKey.decide_eq]; exact D.eqvK _ _ (isTK_kp (h (k', d') (by simp))).1 (isTK_kp tk).1
    by_cases q : k'.toK = k.toK
    · rw [eq, decide_eq_true q, if_pos rfl, if_pos q]
      exact .cons r1 ru rd r4
    · rw [eq, decide_eq_false q, if_neg Bool.false_ne_true, if_neg q]
      exact .cons r1 r2 r3 (rx_put tk rk ru rd (fun p hp => h p (by simp [hp])) r4)
theorem putD_keys {k d : D} : ∀ {l : List (D × D)} {p : D × D}, p ∈ putD k d l → p.1 = k ∨ ∃ q ∈ l, q.1 = p.1
  | [], p, h => by simp [putD] at h; exact .inl (by rw [h])
  | (k', d') :: l, p, h => by
    unfold putD at h
    by_cases e : D.eqv k' k = true
    · rw [if_pos e] at h
      rcases List.mem_cons.mp h with rfl | h
      · exact .inr ⟨(k', d'), by simp, rfl⟩
      · exact .inr ⟨p, by simp [h], rfl⟩
    · rw [if_neg e] at h
      rcases List.mem_cons.mp h with rfl | h
      · exact .inr ⟨(k', d'), by simp, rfl⟩
      · rcases putD_keys h with h | ⟨q, h1, h2⟩
        · exact .inl h
        · exact .inr ⟨q, by simp [h1], h2⟩
theorem putD_apart {k d : D} : ∀ {l : List (D × D)}, l.Pairwise (fun p q => D.eqv p.1 q.1 = false) → (putD k d l).Pairwise (fun p q => D.eqv p.1 q.1 = false)
  | [], _ => List.pairwise_singleton _ _
  | (k', d') :: l, h => by
    have h' := List.pairwise_cons.mp h
    unfold putD
    by_cases e : D.eqv k' k = true
    · rw [if_pos e]
      exact List.pairwise_cons.mpr ⟨fun q hq => h'.1 q hq, h'.2⟩
    · rw [if_neg e]
      refine List.pairwise_cons.mpr ⟨fun q hq => ?_, putD_apart h'.2⟩
      rcases putD_keys hq with h1 | ⟨q', h1, h2⟩
      · rw [h1]; simpa using e
      · rw [← h2]; exact h'.1 q' h1
theorem rx_entries {C : CI} {P : Program} {w : World} (hs : ∀ d, C.hs d = d.toK.hash w) {G : Hp} : ∀ {l : List (D × D)} {xs : List XE}, RX C G l xs → RepE0 C G l (xs.map (entryOfKey (nestedKind P w)))
  | [], _, r => by cases r; exact .nil
  | (k, d) :: l, _, r => by
    cases r with | cons r1 r2 r3 r4 =>
    exact .cons r1 rfl (by rw [hs]; rfl) r3 r2 (rx_entries hs r4)
/-! ### all the pairs -/
def psOf : List D → List Value → List Value → List XE
  | d :: l, a :: us, u :: ws => (d.toK, adr a, u) :: psOf l us ws
  | _, _, _ => []
theorem psOf_len : ∀ {l : List D} {us ws : List Value}, l.length = us.length → (psOf l us ws).length = min us.length ws.length
  | [], [], _, _ => by simp [psOf]
  | d :: l, a :: us, [], _ => by simp [psOf]
  | d :: l, a :: us, u :: ws, h => by
    have := psOf_len (l := l) (us := us) (ws := ws) (by simpa using h)
    simp only [psOf, List.length_cons, this]
    omega
theorem psOf_get : ∀ {l : List D} {us ws : List Value} {i : Nat} {a u : Value}, l.length = us.length → us[i]? = some a → ws[i]? = some u → ∃ d, l[i]? = some d ∧ (psOf l us ws)[i]? = some (d.toK, adr a, u)
  | [], [], _, _, _, _, _, h, _ => by simp at h
  | d :: l, a :: us, [], i, _, _, _, _, h => by simp at h
  | d :: l, a :: us, u :: ws, 0, _, _, _, h1, h2 => by
    simp at h1 h2
    subst h1 h2
    exact ⟨d, rfl, rfl⟩
  | d :: l, a :: us, u :: ws, i + 1, _, _, h, h1, h2 => by
    obtain ⟨d', e1, e2⟩ := psOf_get (l := l) (us := us) (ws := ws) (i := i) (by simpa using h) (by simpa using h1) (by simpa using h2)
    exact ⟨d', by simpa using e1, by simpa [psOf] using e2⟩
theorem zip_rx {C : CI} {G : Hp} : ∀ {l m : List D} {xs ys : List V} {us ws : List Value} {acc : List (D × D)} {ax : List XE}, Reps C G l xs → Reps C G m ys → Vals xs us → Vals ys ws → (∀ d ∈ l, isTK d = true) → (∀ p ∈ acc, isTK p.1 = true) → (ax.map (·.1)).Nodup → acc.Pairwise (fun p q => D.eqv p.1 q.1 = false) → RX C G acc ax →
    RX C G ((l.zip m).foldl (fun acc p => putD p.1 p.2 acc) acc) (storedAllH ax (psOf l us ws)) ∧ (∀ p ∈ (l.zip m).foldl (fun acc p => putD p.1 p.2 acc) acc, isTK p.1 = true) ∧ ((l.zip m).foldl (fun acc p => putD p.1 p.2 acc) acc).Pairwise (fun p q => D.eqv p.1 q.1 = false)
  | [], _, _, _, _, _, acc, ax, r1, _, v1, _, _, ha, hn, hp, r => by
    cases r1; cases v1
    exact ⟨by simpa [storedAllH, psOf] using r, by simpa using ha, by simpa using hp⟩
  | d :: l, [], _, _, _, _, acc, ax, r1, r2, v1, v2, _, ha, hn, hp, r => by
    cases r2; cases v2
    refine ⟨?_, by simpa using ha, by simpa using hp⟩
    cases r1; cases v1
    simpa [storedAllH, psOf] using r
  | d :: l, e :: m, _, _, _, _, acc, ax, r1, r2, v1, v2, ht, ha, hn, hp, r => by
    cases r1 with | cons a1 b1 =>
    cases r2 with | cons a2 b2 =>
    cases v1 with | @cons _ ub _ us c1 d1 =>
    cases v2 with | @cons _ wb _ ws c2 d2 =>
    have tk := ht d (by simp)
    have es : storedAllH ax (psOf (d :: l) (ub :: us) (wb :: ws)) = storedAllH (insX d.toK (adr ub) wb ax) (psOf l us ws) := by
      unfold storedAllH
      simp only [psOf, List.foldl_cons]
      rw [insX_eq hn]
    rw [es]
    simp only [List.zip_cons_cons, List.foldl_cons]
    refine zip_rx b1 b2 d1 d2 (fun x hx => ht x (by simp [hx])) (fun p hp => ?_) (insX_nodup hn) (putD_apart hp) (rx_put tk ?_ c2 a2 ha r)
    · rcases putD_keys hp with h | ⟨q, h1, h2⟩
      · rw [h]; exact tk
      · rw [← h2]; exact ha q h1
    · cases d with
      | tup t =>
        cases a1 with | tup q1 q2 =>
        obtain rfl := (show _ = Value.ref _ from c1)
        exact .tup q1 q2
      | _ => cases tk
section
variable {S : Type} {C : CI} {HK : HandK S} {X : Cx} {W : WX} {e e2 e3 tg : Expr} {es : List Expr} {pos p p2 p3 p4 : Pos}
/-- a list or a tuple, as zip takes it -/
theorem seq_begins {pins : List (Addr × Obj)} {σ : L2.St} {H : Hp} {s : Shared} (I : L2.Inv X pins σ H s) {a : Addr} {xs : List V} (h : SqL X.K H a xs ∨ SqT X.K H a xs) :
    ∃ (us : List Value) (o : Obj) (HB : Heap → Prop), Vals xs us ∧ xs.length ≤ sizeLine ∧ Begins (.ref a) o HB ∧ HB s.heap ∧ (∃ ob, s.heap.get? a = some ob) ∧
      ∀ (h' : Heap) (it : Addr), a ≠ it → h'.get? it = some o → HB h' → ∃ St : Nat → Heap → Prop, St 0 h' ∧ (∀ g i, St i g → (∃ o, g.get? it = some o) ∧ ∃ o, g.get? a = some o) ∧ ∀ A : Around, A.handled = none → Draws X.prog X.w A it [it, a] us.length (fun i v => us[i]? = some v) St := by
  rcases h with h | h
  · obtain ⟨its, rv, p, hz⟩ := I.list h
    have q := p.isList
    refine ⟨its, _, _, rv, hz, begins_list a its.toArray, q, (let ⟨o, h1, _⟩ := q; ⟨o, h1⟩), fun h' it ne ho hb => ⟨fun i h => h.IsListIter it a i ∧ h.IsList a its.toArray, ⟨⟨_, ho, rfl, rfl⟩, hb⟩, fun g i ⟨⟨o1, k1, _⟩, ⟨o2, k2, _⟩⟩ => ⟨⟨o1, k1⟩, ⟨o2, k2⟩⟩, fun A hA => ?_⟩⟩
    have := Draws.list (prog := X.prog) (w := X.w) hA it a ne its.toArray
    simpa using this
  · obtain ⟨its, rv, p, hz⟩ := I.tuple h
    refine ⟨its, _, _, rv, hz, begins_tuple a its.toArray, p, (let ⟨o, h1, _⟩ := p; ⟨o, h1⟩), fun h' it ne ho hb => ⟨fun i h => h.IsTupleIter it a i ∧ h.IsTuple a its.toArray, ⟨⟨_, ho, rfl, rfl⟩, hb⟩, fun g i ⟨⟨o1, k1, _⟩, ⟨o2, k2, _⟩⟩ => ⟨⟨o1, k1⟩, ⟨o2, k2⟩⟩, fun A hA => ?_⟩⟩
    have := Draws.tuple (prog := X.prog) (w := X.w) hA it a ne its.toArray
    simpa using this

theorem ne_ad {a b : Nat} (h : a < b ∨ b < a) : (a : Addr) ≠ (b : Addr) := fun e => by
  have e' : (a : Nat) = b := e
  omega
theorem sepN {n a b : Nat} (la : a < n) (lb : b < n) : ZipSep2 (n + 4) (n + 2) (n + 3) n (n + 1) [n, a] [n + 1, b] := by
  constructor <;> (try simp only [List.mem_cons, List.not_mem_nil, or_false, not_or, true_or])
  · exact ne_ad (by omega)
  · exact ne_ad (by omega)
  · exact ne_ad (by omega)
  · exact ne_ad (by omega)
  · exact ⟨ne_ad (by omega), ne_ad (by omega)⟩
  · exact ⟨ne_ad (by omega), ne_ad (by omega)⟩
  · exact ne_ad (by omega)
  · exact ⟨ne_ad (by omega), ne_ad (by omega)⟩
  · exact ⟨ne_ad (by omega), ne_ad (by omega)⟩
  · exact ⟨ne_ad (by omega), ne_ad (by omega)⟩
  · exact ⟨ne_ad (by omega), ne_ad (by omega)⟩
def tDZ (C : CI) (K : PySem.W.Frag) (ta : TA) : TE := fun σ H Q => ta σ H fun vs H1 => ∃ (a b : Addr) (l m : List Fx.D) (xs ys : List V), vs = [.ref a, .ref b] ∧ (SqL K H1 a xs ∨ SqT K H1 a xs) ∧ (SqL K H1 b ys ∨ SqT K H1 b ys) ∧ Reps C H1 l xs ∧ Reps C H1 m ys ∧ (∀ d ∈ l, isTK d = true) ∧
  ∀ (q : Addr) (ee : List DictEntry × Nat), H1 q = none → (∀ G, Reps C G l xs → Reps C G m ys → RepE C G (zipD l m) ee) → Q (.ref q) (upd H1 q (dicO q ee))
theorem pe_dzip (hsh : ∀ d, C.hs d = d.toK.hash X.w) (hc : X.calm = true) (hu : X.A.units + 64 < cLine) (hg : Gl X "dict") (hm : X.mg "dict" = none) (hg2 : Gl X "zip") (hm2 : X.mg "zip" = none) {ta : TA} (ha : PA X [e, e2] ta)
    (hs : starEach [e, e2] X.env = (false, eval e X.env) :: starEach [e2] X.env := by rfl) (hpl : (backTo p2 (starEach [e2] X.env)).any (·.1) = false := by rfl)
    (hs0 : starEach [.Call (.Name "zip" p) [e, e2] [] p2] X.env = (false, eval (.Call (.Name "zip" p) [e, e2] [] p2) X.env) :: starEach [] X.env := by rfl) :
    PE X (.Call (.Name "dict" p3) [.Call (.Name "zip" p) [e, e2] [] p2] [] p4) (tDZ C X.K ta) := by
  refine ⟨fun pins s σ H Q I h => ?_⟩
  refine Call_ (ld_blt I hg hm PyProof.Rows.boot_dict ?_)
  refine PyProof.Rows.callWith_type1 (PyProof.Rows.args_cons ?_ hs0) hs0 rfl
  refine Call_ (ld_blt I hg2 hm2 PyProof.Rows.boot_zip (PyProof.Rows.callWith_type1 (thn (ha.run p2 pins s σ H _ I h) fun us s1 ⟨vs, H1, I1, r1, q1⟩ => ?_) hs hpl))
  obtain ⟨a, b, l, m, xs, ys, rfl, sa, sb, rl, rm, tk, q⟩ := q1
  obtain ⟨u1, u2, rfl, ra, rb⟩ := vals2 r1
  obtain rfl : u1 = Value.ref a := ra
  obtain rfl : u2 = Value.ref b := rb
  obtain ⟨ua, oa, HA, va, za, Ba, hBa, ⟨ob1, ea⟩, Fa⟩ := seq_begins I1 sa
  obtain ⟨ub, obb, HB, vb, zb, Bb, hBb, ⟨ob2, eb⟩, Fb⟩ := seq_begins I1 sb
  have la := Heap.lt_size ea
  have lb := Heap.lt_size eb
  refine zip_begins2 Ba Bb hBa hBb fun h' hz hTI hTO h1 h2 hsz hk => ?_
  refine PyProof.Rows.args_nil ?_
  obtain ⟨Sa, sa0, live1, Da⟩ := Fa h' s1.heap.objs.size (ne_ad (.inl la)) h1 (Ba.keeps _ _ hBa hk)
  obtain ⟨Sb, sb0, live2, Db⟩ := Fb h' (s1.heap.objs.size + 1) (ne_ad (.inl (Nat.lt_succ_of_lt lb))) h2 (Bb.keeps _ _ hBb hk)
  have I2 : L2.Inv X pins σ H1 { s1 with heap := h' } := I1.kept (t' := s1.toks) hk
  have sep : ZipSep2 (s1.heap.objs.size + 4) (s1.heap.objs.size + 2) (s1.heap.objs.size + 3) s1.heap.objs.size (s1.heap.objs.size + 1) [s1.heap.objs.size, a] [s1.heap.objs.size + 1, b] := sepN la lb
  have PA0 := Zp.PairArg.zipD (prog := X.prog) (w := X.w) sep Da Db (fun g i st1 st2 c hc => by
    obtain ⟨x1, x2⟩ := live1 g i st1
    obtain ⟨x3, x4⟩ := live2 g i st2
    simp only [List.cons_append, List.nil_append, List.mem_cons, List.not_mem_nil, or_false] at hc
    rcases hc with rfl | rfl | rfl | rfl
    · exact x1
    · exact x2
    · exact x3
    · exact x4)
  have ll : l.length = ua.length := by rw [Reps.length rl, va.length]
  have zx := fun (G : Hp) (g1 : Reps C G l xs) (g2 : Reps C G m ys) => zip_rx (acc := []) (ax := []) g1 g2 va vb tk (by simp) (by simp) List.Pairwise.nil .nil
  refine call_dict_pairsH (knd := nestedKind X.prog X.w) (ps := psOf l ua ub) PA0 (I2.ok.hd hc) (show X.A.units + 1 + 1 + 8 < cLine by omega) ⟨hz, hTI, ⟨_, _, hTO⟩, sa0, sb0⟩ ⟨psOf_len ll, fun i key v ⟨g1, g2⟩ => ?_⟩ (fun g hg x hx => ?_) (by rw [← va.length]; omega) fun g tk' hd hkp => ?_
  · obtain ⟨d, d1, d2⟩ := psOf_get ll g1 g2
    obtain ⟨x, ex, rx⟩ := Reps.get rl d1
    have tkd := tk d (List.mem_of_getElem? d1)
    obtain ⟨u', eu, ru⟩ := va.get ex
    rw [g1] at eu; cases eu
    cases d with
    | tup t =>
      cases rx with | tup q1 q2 =>
      obtain rfl : key = Value.ref _ := ru
      exact ⟨_, _, d2, rfl⟩
    | _ => cases tkd
  · -- the keys' tuples stay
    have : ∀ {l : List Fx.D} {xs : List V} {ua ub : List Value}, Reps C H1 l xs → Vals xs ua → (∀ d ∈ l, isTK d = true) → ∀ x ∈ psOf l ua ub, (nestedKind X.prog X.w).is s1.heap x.1 x.2.1 := by
      intro l
      induction l with
      | nil => intro xs ua ub r v _ x hx; cases r; cases v; simp [psOf] at hx
      | cons d l ih =>
        intro xs ua ub r v t x hx
        cases r with | cons r1 r2 =>
        cases v with | @cons _ u0 _ us v1 v2 =>
        cases ub with
        | nil => simp [psOf] at hx
        | cons w0 ws =>
          simp only [psOf] at hx
          rcases List.mem_cons.mp hx with rfl | hx
          · have td := t d (by simp)
            have n := nest_of I1 d _ u0 r1 v1 (isTK_kp td).1
            cases d with
            | tup t0 =>
              cases r1 with | tup q1 q2 =>
              obtain rfl : u0 = Value.ref _ := v1
              exact ⟨n, (isTK_kp td).2⟩
            | _ => cases td
          · exact ih r2 v2 (fun y hy => t y (by simp [hy])) x hx
    have n := this rl va tk x hx
    refine ⟨NestedIs.at (fun b0 o vs n e0 d0 => ?_) _ _ n.1, n.2⟩
    have lt0 : (b0 : Nat) < s1.heap.objs.size := Heap.lt_size e0
    refine hg b0 o (ne_ad (.inl (by rw [hsz]; exact Nat.lt_of_lt_of_le lt0 (Nat.le_add_right _ _)))) (fun q => ?_) (hk b0 o e0)
    simp only [List.mem_cons, List.not_mem_nil, or_false] at q
    rcases q with q | q | q | q
    · exact ne_ad (.inl (Nat.lt_of_lt_of_le lt0 (Nat.le_add_right _ _))) q
    · exact ne_ad (.inl (Nat.lt_of_lt_of_le lt0 (Nat.le_add_right _ _))) q
    · exact ne_ad (.inl lt0) q
    · exact ne_ad (.inl (Nat.lt_of_lt_of_le lt0 (Nat.le_add_right _ _))) q
  · obtain ⟨o, es, ep, ho, hx, hdd, he, his, hnd⟩ := hd
    have kept : ∀ b o, s1.heap.get? b = some o → g.get? b = some o := fun b0 o e0 => by
      have lt0 : (b0 : Nat) < s1.heap.objs.size := Heap.lt_size e0
      refine hkp b0 o (fun q => ?_) (hk b0 o e0)
      simp only [List.mem_cons, List.not_mem_nil, or_false] at q
      rcases q with q | q | q | q
      · exact ne_ad (.inl (Nat.lt_of_lt_of_le lt0 (Nat.le_add_right _ _))) q
      · exact ne_ad (.inl (Nat.lt_of_lt_of_le lt0 (Nat.le_add_right _ _))) q
      · exact ne_ad (.inl lt0) q
      · exact ne_ad (.inl (Nat.lt_of_lt_of_le lt0 (Nat.le_add_right _ _))) q
    have big : s1.heap.objs.size ≤ h'.objs.size := by rw [hsz]; exact Nat.le_add_right _ _
    have hn : H1 h'.objs.size = none := I1.hok.fresh big
    have nsys : ((h'.objs.size : Addr) == sysModules) = false := beq_eq_false_iff_ne.mpr (Nat.ne_of_gt (Nat.lt_of_lt_of_le I1.big big))
    have raw : g.DictRaw h'.objs.size es.toList.toArray ep := ⟨o, ho, hx, by simpa using hdd⟩
    refine ⟨.ref h'.objs.size, upd H1 h'.objs.size (dicO h'.objs.size (es.toList, ep)), I1.laid (t' := tk') kept big ⟨⟨nsys, raw⟩, ⟨o, ho⟩, fun g1 g2 r e => ⟨r.1, r.2.at e⟩⟩, rfl, q h'.objs.size (es.toList, ep) hn fun G g1 g2 => ?_⟩
    obtain ⟨z1, z2, z3⟩ := zx G g1 g2
    refine ⟨⟨.inl (List.all_eq_true.mpr fun p hp => z2 p hp), z3⟩, ?_⟩
    have := rx_entries (P := X.prog) hsh z1
    rw [← he] at this
    exact this
/-- dict(zip(x, y)) -/
theorem ev_dzip {f g : E S} (hsh : ∀ d, C.hs d = d.toK.hash X.w) (hc : X.calm = true) (hu : X.A.units + 64 < cLine) (hg : Gl X "dict") (hm : X.mg "dict" = none) (hg2 : Gl X "zip") (hm2 : X.mg "zip" = none) (hf : EB C HK X W e f) (hf2 : EB C HK X W e2 g)
    (hs : starEach [e, e2] X.env = (false, eval e X.env) :: starEach [e2] X.env := by rfl) (hs2 : starEach [e2] X.env = (false, eval e2 X.env) :: starEach [] X.env := by rfl) (hpl : (backTo p2 (starEach [e2] X.env)).any (·.1) = false := by rfl)
    (hs0 : starEach [.Call (.Name "zip" p) [e, e2] [] p2] X.env = (false, eval (.Call (.Name "zip" p) [e, e2] [] p2) X.env) :: starEach [] X.env := by rfl) :
    EV C HK X W (.Call (.Name "dict" p3) [.Call (.Name "zip" p) [e, e2] [] p2] [] p4) (eDZip f g) :=
  PE.of (pe_dzip hsh hc hu hg hm hg2 hm2 (pa_cons hf (pa_cons hf2 pa_nil hs2) hs) hs hpl hs0) fun σ H Q ⟨F, G, ρ, s, rel, p⟩ => ⟨F, G, ρ, s, rel, by
    refine (Post.step (RR := RRb C F ρ σ H) rel p).imp' fun x H1 ⟨a, s1, G1, rel1, x1, r1, p1⟩ => ?_
    refine ⟨F, G1, ρ, s1, rel1, (Post.step (RR := RRb C F ρ σ H) rel1 p1).imp' fun y H2 ⟨b, s2, G2, rel2, x2, r2, p2⟩ => ?_⟩
    have r1' := r1.keep x2
    cases za : seqD a with
    | none => rw [za] at p2; exact p2.elim
    | some l =>
      cases zb : seqD b with
      | none => rw [za, zb] at p2; exact p2.elim
      | some m =>
        rw [za, zb] at p2
        dsimp only at p2
        by_cases hb : (l.all isTK && Nat.ble l.length lim && Nat.ble m.length lim) = true
        · rw [if_pos hb] at p2
          rw [Bool.and_eq_true, Bool.and_eq_true] at hb
          obtain ⟨q1, xs, rfl, a1, a2⟩ := r1'.seq (K := X.K) rel2.le za
          obtain ⟨q2, ys, rfl, b1, b2⟩ := r2.seq (K := X.K) rel2.le zb
          refine ⟨q1, q2, l, m, xs, ys, rfl, a1, b1, Reps.mono rel2.le _ _ a2, Reps.mono rel2.le _ _ b2, fun d hd => List.all_eq_true.mp hb.1.1 d hd, fun q ee n r => ?_⟩
          have x := rel2.newG (o := dicO q ee) n
          exact p2 _ _ _ x (.dctE upd_same (RepE.mono x.ext.sub _ _ (r G2 a2 b2)))
        · rw [if_neg hb] at p2; exact p2.elim⟩
end
end Fx
set_option Elab.async false
set_option linter.all false
set_option autoImplicit false
set_option maxRecDepth 100000
/-! Fx, rules 13: {}, {k: v}. -/
namespace Fx
open PySem PySem.Spec PyProof.Rows L2
section
variable {S : Type} {C : CI} {HK : HandK S} {X : Cx} {W : WX} {e e2 e3 tg : Expr} {es : List Expr} {pos p p2 p3 p4 : Pos}
theorem dic_empty {P : Program} {w : World} {H : Hp} (h : Heap) (hb : sysModules < h.objs.size) : ObjOk P w H (h.push { cls := .type "dict", data := .dict #[] }) h.objs.size (dicO h.objs.size ([], 0)) :=
  ⟨⟨beq_eq_false_iff_ne.mpr (Nat.ne_of_gt hb), ⟨_, Heap.get?_push_size _ rfl, ⟨rfl, rfl, rfl⟩, rfl⟩⟩, ⟨_, Heap.get?_push_size _ rfl⟩, fun g1 g2 r e => ⟨r.1, r.2.at e⟩⟩
def tD0 : TE := fun _ H Q => ∀ p, H p = none → Q (.ref p) (upd H p (dicO p ([], 0)))
theorem pe_d0 : PE X (.Dict [] [] pos) tD0 := ⟨fun pins s σ H Q I h =>
  wpAny_Dict_empty ⟨.ref s.heap.objs.size, _, I.laid (a := s.heap.objs.size) (o := dicO s.heap.objs.size ([], 0)) (t' := s.toks) (fun _ _ q => Heap.get?_push_of_some _ q) (Nat.le_refl _) (dic_empty s.heap I.big), rfl, h _ (I.hok.fresh (Nat.le_refl _))⟩⟩
theorem repE_nil {G : Hp} : RepE C G [] ([], 0) := ⟨⟨.inl rfl, List.Pairwise.nil⟩, .nil⟩
theorem ev_d0 : EV C HK X W (.Dict [] [] pos) (eC (.dct [])) := PE.of pe_d0 fun σ H Q ⟨F, G, ρ, s, rel, p⟩ q n => by
  have x := rel.newG (o := dicO q ([], 0)) n
  exact p _ _ _ x (.dctE upd_same repE_nil)
/-- what is left to be shown behind the pair of {k: v} -/
def aft (C : CI) (Q : VK) (p : Addr) (x y : V) (H2 : Hp) : Prop := H2 p = some (dicO p ([], 0)) ∧ ∃ (k d : Fx.D), isIS k = true ∧ Rep C H2 k x ∧ ∀ ee, (∀ G, Rep C G k x → Rep C G d y → RepE C G [(k, d)] ee) → Q (.ref p) (upd H2 p (dicO p ee))
def tD1 (C : CI) (tk tv : TE) : TE := fun σ H Q => ∀ p, H p = none → tk σ (upd H p (dicO p ([], 0))) fun x H1 => tv σ H1 fun y H2 => aft C Q p x y H2
def aftL (C : CI) (Q : VK) (p : Addr) : List (V × V) → Hp → Prop
  | [(x, y)], H2 => aft C Q p x y H2
  | _, _ => False
def D.toKy : D → Key
  | .int i => .inl i
  | .str x => .inr ⟨x.toArray⟩
  | _ => .inl 0
theorem kV_toKy {G : Hp} {d : D} {v : V} (h : isIS d = true) (r : Rep C G d v) : v = kV d.toKy := by
  cases d with
  | int i => cases r; rfl
  | str x => cases r; rfl
  | _ => cases h
theorem rep_kV {G : Hp} {d : D} (h : isIS d = true) : Rep C G d (kV d.toKy) := by
  cases d with
  | int i => exact .int i
  | str x => exact .str x
  | _ => cases h
theorem hash_toKy {w : World} {d : D} (h : isIS d = true) : keyH w d.toKy = d.toK.hash w := by
  cases d with
  | int i => rfl
  | str x => rfl
  | _ => cases h
theorem isIS_LK {d : D} (h : isIS d = true) : isLK d = true := by cases d <;> first | rfl | cases h
theorem pe_d1 (hsh : ∀ d, C.hs d = d.toK.hash X.w) {tk tv : TE} (hk : PE X e tk) (hv : PE X e2 tv) : PE X (.Dict [some e] [e2] pos) (tD1 C tk tv) := by
  refine ⟨fun pins s σ H Q I q => ?_⟩
  have hn := I.hok.fresh (Nat.le_refl s.heap.objs.size)
  have I1 := I.laid (a := s.heap.objs.size) (o := dicO s.heap.objs.size ([], 0)) (h' := s.heap.push { cls := .type "dict", data := .dict #[] }) (t' := s.toks) (fun _ _ q => Heap.get?_push_of_some _ q) (Nat.le_refl _) (dic_empty s.heap I.big)
  have pp : PPs X pos [some e] [e2] [(tk, tv)] := pps_cons hk hv pps_nil
  refine wpAny_Dict_walk (knd := mixKind X.prog X.w) rfl rfl (by simp) (by simp) (thn (pp.run pins _ σ _ (aftL C Q s.heap.objs.size) I1 (q _ hn)) fun ws s2 ⟨ps, H2, I2, rel, q2⟩ => ?_)
  cases rel with
  | nil => exact q2.elim
  | @cons xy uw r0 ws0 r1 r2 =>
    cases r2 with
    | cons _ _ => exact q2.elim
    | nil =>
      obtain ⟨x, y⟩ := xy
      obtain ⟨u, w0⟩ := uw
      obtain ⟨hd, k, d, lk, rk, q3⟩ := q2
      obtain ⟨hsys, raw⟩ := raw_of I2 hd
      have ek := kV_toKy lk rk
      subst ek
      refine ⟨[(k.toKy, w0)], ⟨kV_is r1.1, rfl, trivial⟩, ?_, fun h' dd hs => ?_⟩
      · obtain ⟨o, ho, hx, hdt⟩ := raw
        exact ⟨o, #[], 0, ho, hx, hdt, fun e he => (by simp at he), .nil, List.nodup_nil⟩
      · have e1 : merged [] [(k.toKy, w0)] = [(k.toKy, w0)] := rfl
        rw [e1] at dd
        obtain ⟨o, es, ep, ho, hx, hdt, ko, pr, nd⟩ := dd
        have raw2 : h'.DictRaw s.heap.objs.size es.toList.toArray ep := ⟨o, ho, hx, by simpa using hdt⟩
        refine ⟨.ref s.heap.objs.size, upd H2 s.heap.objs.size (dicO s.heap.objs.size (es.toList, ep)), d_write I2 (by rw [hd]; exact True.intro) hs ⟨o, ho⟩ ⟨⟨hsys, raw2⟩, ⟨o, ho⟩, fun g1 g2 r e => ⟨r.1, r.2.at e⟩⟩, rfl, q3 (es.toList, ep) fun G g1 g2 => ?_⟩
        refine ⟨⟨.inr ?_, List.pairwise_singleton _ _⟩, ?_⟩
        · simp [isIS_LK lk]
        · show RepE0 C G [(k, d)] es.toList
          have mem : ∀ e ∈ es.toList, e ∈ es := fun e h => by simpa using h
          generalize es.toList = el at pr mem
          cases pr with
          | @cons e kv es' kvs' p1 p2 p3 =>
            cases p3
            have p1' : keyIs k.toKy e.key = true := p1
            obtain ⟨k', c1, c2⟩ := ko e (mem e (by simp))
            have ee : k' = k.toKy := (mixKind X.prog X.w).inj _ _ _ c1 p1
            subst ee
            refine .cons (rep_kV lk) (relV_key p1') ?_ g2 (by rw [p2]; exact r1.2) .nil
            rw [c2, hsh]
            exact hash_toKy lk
/-- a step that keeps what was known ahead of all -/
theorem Post.stepB {α β γ δ : Type} {F : Fix} {ρ : Env} {s : S} {σ : L2.St} {G0 H0 G H : Hp} {RR : Hp → Hp → α → β → Prop} {RR' : Hp → Hp → γ → δ → Prop} {r : R S α} {k : α → S → R S γ} {Q : δ → Hp → Prop} (x0 : Ext F.HA G0 H0 G H) (rel : Rel C HK F G ρ s σ H) (p : Post C HK W F G0 H0 σ RR' (r.bind k) Q) :
    Post C HK W F G H σ RR r (fun b H1 => ∃ a s1 G1, Rel C HK F G1 ρ s1 σ H1 ∧ Ext F.HA G H G1 H1 ∧ RR G1 H1 a b ∧ Post C HK W F G0 H0 σ RR' (k a s1) Q) := by
  cases r with
  | ok a s1 => exact fun b H1 G1 n q => ⟨a, s1, G1, rel.ext n, n.ext, q, p⟩
  | exc e s1 => exact fun cls dd H' G' n q => p cls dd H' G' ⟨x0.trans n.ext, n.hand⟩ q
  | bad => exact p.elim
theorem ev_d1 {f g : E S} (hsh : ∀ d, C.hs d = d.toK.hash X.w) (hf : EV C HK X W e f) (hg : EV C HK X W e2 g) : EV C HK X W (.Dict [some e] [e2] pos) (eD1 f g) :=
  PE.of (pe_d1 hsh hf hg) fun σ H Q ⟨F, G, ρ, s, rel, p⟩ q n => by
    have x0 := rel.new (o := dicO q ([], 0)) n
    have rel0 := rel.ext x0
    obtain ⟨hq0, hqA, hqG⟩ := rel.h0 n
    refine ⟨F, G, ρ, s, rel0, ?_⟩
    refine (Post.stepB (RR := RRe C F ρ σ H) x0.ext rel0 p).imp' fun x H1 ⟨k, s1, G1, rel1, x1, r1, p1⟩ => ?_
    refine ⟨F, G1, ρ, s1, rel1, (Post.stepB (RR := RRe C F ρ σ H) (x0.ext.trans x1) rel1 p1).imp' fun y H2 ⟨d, s2, G2, rel2, x2, r2, p2⟩ => ?_⟩
    have eq2 : H2 q = some (dicO q ([], 0)) := x2.kp _ _ (x1.kp _ _ upd_same hqA) hqA
    by_cases hk : isIS k = true
    · rw [if_pos hk] at p2
      have gn : G2 q = none := by
        cases w : G2 q with
        | none => rfl
        | some o =>
          rcases x2.new q o w with z | z
          · rcases x1.new q o z with z | z
            · rw [hqG] at z; cases z
            · rw [upd_same] at z; cases z
          · rw [x1.kp _ _ upd_same hqA] at z; cases z
      have r1' := Rep.mono x2.sub _ _ r1
      refine ⟨eq2, k, d, hk, Rep.mono rel2.le _ _ r1', fun ee re => ?_⟩
      have sub : Sub G2 (upd G2 q (dicO q ee)) := fun b u z => by rw [upd_ne (ne_of_none z gn)]; exact z
      have mv := re G2 r1' r2
      have x02 := (x0.ext.trans x1).trans x2
      refine p2 _ (upd H2 q (dicO q ee)) (upd G2 q (dicO q ee)) ⟨⟨x02.sub.trans sub, fun b u z => ?_, fun b u z m => ?_, fun b u z => ?_, fun b u z => ?_⟩, ?_⟩ (.dctE upd_same (RepE.mono sub _ _ mv))
      · by_cases hb : b = q
        · subst hb; exact .inr n
        · rw [upd_ne hb] at z; exact x02.new b u z
      · rw [upd_ne (ne_of_none z n)]; exact x02.kp b u z m
      · by_cases hb : b = q
        · subst hb; exact hqA
        · rw [upd_ne hb] at z; exact x02.off b u z
      · by_cases hb : b = q
        · subst hb; rw [upd_same] at z; rw [upd_same]; exact z
        · rw [upd_ne hb] at z; rw [upd_ne hb]; exact x02.le b u z
      · refine HK.loc _ _ _ _ rel2.hand (fun a ha => upd_ne fun z => hqA (z ▸ ha)) fun a qq e => ?_
        by_cases hb : a = q
        · subst hb
          rw [eq2] at e
          exact absurd (Option.some.inj e) (dicO_code _ _ _)
        · rw [upd_ne hb]; exact e
    · rw [if_neg hk] at p2; exact p2.elim
end
end Fx
set_option Elab.async false
set_option linter.all false
set_option autoImplicit false
set_option maxRecDepth 100000
/-! Fx, rules 14: raise, instances. -/
namespace L2
open PySem PySem.Spec PyProof.Rows
section
variable {X : Cx} {C : Addr} {bmB : List Value} {B newId initId : String}
/-- Y() -/
theorem pmk_none {x : PySem.Str} {p pos : Pos} (F : ExcBaseFacts B newId initId bmB) (q : PySem.W.excIn X.K C bmB newId = true) (gC : X.mg x = some (.ref C)) (kC : PySem.W.keepIn X.K (.ref C) = true) (r : Raises X (.ref C)) (hg : Gl X x)
    (hdb : (x == ("__debug__" : PySem.Str)) = false := by decide) : PMk X (.Call (.Name x p) [] [] pos) (fun _ H Q => Q (.ref C) none H) := by
  intro pins s σ H Q I h
  refine wpAny_Call_Name_kw (ld_glob I hg gC ?_ hdb)
  refine PySem.W.callWith_K0 I.kIn kC ?_
  show wpAny _ _ (call (.ref C) []) _ _ _
  obtain ⟨bm, N, nm, qn, bs, hdct, sn, sub, ab, col, dd, k0, k1, k2, k3, k5, mN, hC, hN, hni, T⟩ := exc_obj I.kIn q
  refine wpAny_call_exc_subT F T hC hN hni (fun h' e hm => ?_) (by show 0 ≤ sizeLine; exact Nat.zero_le _)
  exact mk_of I hm r h (I.hok.gone hm.new)
end
section
variable {X : Cx} {CX : CXT} {k : Nat} {f C : Addr} {fd : FuncData} {ps : List PySem.Str} {sp : Sp} {E : St → XK} {x : PySem.Str} {p pos : Pos} {e : Expr} {es : List Expr} {t : TA}
theorem run_mkS {pins : List (Addr × Obj)} {σ : L2.St} {H : Hp} {s : Shared} {Q : VK} {us : List Value} {vs : List V} (M : Mk X.K C f) (F : FnOk X.prog X.w X.K X.mg X.base CX k f fd ps sp) (hr : Room (k + 1) X.A) (hb : Binds X.K fd ps []) (hx : PassesAt CX X σ (E σ)) (I : Inv X pins σ H s) (r : Vals vs us)
    (h : ∀ x dx, H x = none → H dx = none → dx ≠ x → sp (.ref x :: vs) (upd (upd H dx (.own x)) x (.ins C dx [])) (fun v H2 => v = .non ∧ Q (.ref x) H2) (E σ)) :
    wpAny (model X.prog X.w) X.A (call (.ref C) us) (EP X pins σ Q) X.xe s := by
  have hq := h (s.heap.objs.size + 1) s.heap.objs.size (I.hok.fresh (Nat.le_succ _)) (I.hok.fresh (Nat.le_refl _)) (Nat.ne_of_lt (Nat.lt_succ_self _))
  have I2 := Inv.made (C := C) I
  have r2 : Vals (V.ref (s.heap.objs.size + 1) :: vs) (Value.ref (s.heap.objs.size + 1) :: us) := .cons rfl r
  have hl : (Value.ref (s.heap.objs.size + 1) :: us).length = ps.length := by rw [← r2.length]; exact F.len _ _ _ _ hq
  have hbb := hb _ (Value.ref (s.heap.objs.size + 1) :: us) I2.kIn (by rw [List.append_nil]; exact hl)
  rw [List.append_nil] at hbb
  refine wpAny_call (make_map (f := f) I.kIn M.makes M.init (beq_iff_eq.mp M.fn) (codeAny_mono (F.run _ X.stack _ _ _ _ _ _ (E σ) (hr.make C us []) (I2.env0.make C us []) hbb r2 hq) fun r s' hq' => ?_))
  cases r with
  | error e => exact hx pins _ _ e s' I2 hq'
  | ok fl =>
    cases fl with
    | ret u =>
      obtain ⟨v, H', I3, rv, ev, q3⟩ := I2.after hq'
      subst ev
      exact ⟨rv, ⟨V.ref (s.heap.objs.size + 1), H', I3, rfl, q3⟩⟩
    | next => exact False.elim hq'
    | brk => exact False.elim hq'
    | cont => exact False.elim hq'
def tMkS (C : Addr) (sp : Sp) (E : St → XK) (t : TA) : TE := fun σ H Q => t σ H fun vs H1 => ∀ x dx, H1 x = none → H1 dx = none → dx ≠ x →
  sp (.ref x :: vs) (upd (upd H1 dx (.own x)) x (.ins C dx [])) (fun v H2 => v = .non ∧ Q (.ref x) H2) (E σ)
theorem pe_mkS (M : Mk X.K C f) (F : FnOk X.prog X.w X.K X.mg X.base CX k f fd ps sp) (hr : Room (k + 1) X.A) (hg : Gl X x) (hm : X.mg x = some (.ref C)) (hb : Binds X.K fd ps []) (hx : ∀ σ, PassesAt CX X σ (E σ))
    (ha : PA X (e :: es) t) (hdb : (x == ("__debug__" : PySem.Str)) = false := by decide) (he : starEach (e :: es) X.env = (false, eval e X.env) :: starEach es X.env := by rfl) (hpl : (backTo pos (starEach es X.env)).any (·.1) = false := by rfl) :
    PE X (.Call (.Name x p) (e :: es) [] pos) (tMkS C sp E t) := by
  refine ⟨fun pins s σ H Q I h => ?_⟩
  refine wpAny_Call_Name_kw (ld_glob I hg hm ?_ hdb)
  refine PySem.W.callWith_K (h₀ := X.base) I.ok.mod.kin M.kp (thn (ha.run pos pins s σ H _ I h) fun us s1 ⟨vs, H1, I1, r, q⟩ => ⟨I1.kIn, ?_⟩) he hpl
  exact run_mkS M F hr hb (hx σ) I1 r q
end
end L2
namespace Fx
open PySem PySem.Spec PyProof.Rows L2
section
variable {S : Type} {C : CI} {HK : HandK S} {X : Cx} {W : WX} {e e2 e3 tg : Expr} {es : List Expr} {pos p p2 p3 p4 : Pos}
/-! ### raise Y() -/
/-- an own exception class without an __init__ of its own -/
structure ExC (X : Cx) (C : CI) (x : PySem.Str) (c : Nat) : Prop where
  ex : ∃ (cl : Addr) (B newId initId : String) (bmB : List Value), C.xA c = some cl ∧ ExcBaseFacts B newId initId bmB ∧ PySem.W.excIn X.K cl bmB newId = true ∧ X.mg x = some (.ref cl) ∧ PySem.W.keepIn X.K (.ref cl) = true ∧ Raises X (.ref cl)
theorem sv_raise0 {x : PySem.Str} {c : Nat} (hc : X.calm = true) (tk : Takes X W) (ec : ExC X C x c) (hg : Gl X x) (hdb : (x == ("__debug__" : PySem.Str)) = false := by decide) : SV C HK X W (.Raise (some (.Call (.Name x p) [] [] p2)) none pos) (gRaise c) := by
  obtain ⟨cl, B, nI, iI, bm, h1, h2, h3, h4, h5, h6⟩ := ec.ex
  exact PS.of (ps_raise hc tk (pmk_none h2 h3 h4 h5 h6 hg hdb)) fun N σ H ⟨F, G, ρ, s, rel, p⟩ => p (.ref cl) none σ H G rel Sub.refl ⟨cl, h1, rfl, rfl⟩
/-! ### raise Y(e), Y with an __init__ that keeps e -/
/-- self.f = e, in an exception's __init__ -/
def spX (K : PySem.W.Frag) (fl : PySem.Str) : Sp := fun vs H Q E => ∃ a Cc y, vs = [.ref a, y] ∧ H a = some (exo a Cc none) ∧ OexC K Cc ∧ PySem.W.findIn K (.ref Cc) fl = some none ∧ ∀ dx, H dx = none → dx ≠ a → Q .non (upd (upd H dx (exd dx [(fl, y)])) a (exo a Cc (some dx)))
theorem exinit_ok {P : Program} {w : World} {K : PySem.W.Frag} {mg : PySem.Str → Option Value} {base : Heap} {x qual : PySem.Str} {st : Stmt} {f : Addr} {fd : FuncData} {N ps : List PySem.Str} {k : Nat} {fl : PySem.Str} (Fu : L2.Fun K x qual st f fd) (Sc : FnScope N ps (defScope st)) (hp : ps.length = 2) (hn : N.length = 2)
    (hbody : ∀ (cdv : Value) (A : Around) (outer : List PySem.Env) (s : Shared) (H : Hp) (E : XK), PSs (defCx P w K mg base N qual (defScope st) f cdv A outer s H E) (defBody st) (tOst K fl (tVar 0) (tVar 1))) :
    FnOk P w K mg base (L2.CX P w) (k + 1) f fd ps (spX K fl) := by
  refine Fu.okX Sc (fun vs H Q E ⟨a, Cc, y, e, _⟩ => by rw [e, hp]; rfl) fun cdv A outer s H vs Q E hr ⟨a, Cc, y, e0, ea, T, hno, q⟩ => ⟨_, hbody cdv A outer s H E, ?_⟩
  subst e0
  refine ⟨y, start_get rfl, .ref a, start_get rfl, a, Cc, rfl, T, hno, .inl ⟨ea, fun dx n ne => q dx n ne⟩⟩
/-- an own exception class whose __init__ keeps its one argument as fl -/
structure ExC1 (X : Cx) (C : CI) (x : PySem.Str) (c k : Nat) : Prop where
  ex : ∃ (cl fI : Addr) (fl : PySem.Str) (fd : FuncData) (ps : List PySem.Str), C.xA c = some cl ∧ C.fN c = [fl] ∧ OexC X.K cl ∧ PySem.W.findIn X.K (.ref cl) "__init__" = some (some (.ref fI)) ∧ PySem.W.typeIn X.K (.ref fI) = some (.type "function") ∧ PySem.W.findIn X.K (.ref cl) fl = some none ∧
    FnOk X.prog X.w X.K X.mg X.base (L2.CX X.prog X.w) k fI fd ps (spX X.K fl) ∧ L2.Binds X.K fd ps [] ∧ X.mg x = some (.ref cl)
theorem sv_raise1 {x : PySem.Str} {c k : Nat} {f : E S} (hc : X.calm = true) (tk : Takes X W) (hr : Room (k + 1) X.A) (ec : ExC1 X C x c k) (hg : Gl X x) (hf : EV C HK X W e f) (hdb : (x == ("__debug__" : PySem.Str)) = false := by decide)
    (he : starEach [e] X.env = (false, eval e X.env) :: starEach [] X.env := by rfl) (hpl : (backTo p2 (starEach [] X.env)).any (·.1) = false := by rfl) : SV C HK X W (.Raise (some (.Call (.Name x p) [e] [] p2)) none pos) (gRaise1 c f) := by
  obtain ⟨cl, fI, fl, fd, ps, h1, h2, h3, h4, h5, h6, h7, h8, h9⟩ := ec.ex
  refine PS.of (ps_raise hc tk (pmk_oex (dvs := []) h3 h4 h5 h7 hr h8 .nil (passes_call tk fun _ _ _ _ h => h.elim) hg h9 (pa_cons hf pa_nil he) hdb he hpl)) fun N σ H ⟨F, G, ρ, s, rel, p⟩ => ⟨F, G, ρ, s, rel, ?_⟩
  refine (PostS.expr rel p).imp' fun v H1 ⟨d, s1, G1, rel1, r1, p1⟩ => ⟨by simp, fun a n => ?_⟩
  refine ⟨a, cl, v, rfl, upd_same, h3, h6, fun dx ndx ne => ⟨rfl, dx, [(fl, v)], ?_, ?_, ?_, ?_⟩⟩
  · rw [upd_same]
  · rw [upd_ne ne, upd_same]
  · rw [upd_ne ne] at ndx; exact ndx
  · have ndx' : H1 dx = none := by rw [upd_ne ne] at ndx; exact ndx
    have eH : upd (L2.del (upd (upd (upd H1 a (exo a cl none)) dx (exd dx [(fl, v)])) a (exo a cl (some dx))) a) dx (.xd [(fl, v)]) = upd H1 dx (.xd [(fl, v)]) := by
      funext b
      by_cases hb : b = dx
      · rw [hb, upd_same, upd_same]
      · rw [upd_ne hb, upd_ne hb]
        by_cases ha : b = a
        · rw [ha, L2.del_same, n]
        · rw [L2.del_ne ha, upd_ne ha, upd_ne hb, upd_ne ha]
    rw [eH]
    have x := rel1.newG (o := .xd [(fl, v)]) ndx'
    have rel2 := rel1.ext x
    refine p1 (.ref cl) (some dx) σ _ _ rel2 x.ext.sub ⟨cl, h1, rfl, dx, v, rfl, ?_, ?_, Rep.mono x.ext.sub _ _ r1⟩
    · rw [h2, upd_same]; rfl
    · rw [h2]; rfl
end
end Fx
set_option Elab.async false
set_option linter.all false
set_option autoImplicit false
set_option maxRecDepth 100000
/-! Fx, rules 15: fields, instances that are made. -/
namespace Fx
open PySem PySem.Spec PyProof.Rows L2
section
variable {S : Type} {C : CI} {HK : HandK S} {X : Cx} {W : WX} {e e2 e3 tg : Expr} {es : List Expr} {pos p p2 p3 p4 : Pos}
theorem zip_look {f : PySem.Str} : ∀ {ns : List PySem.Str} {vs : List V} {j : Nat} {v : V}, ns.Nodup → ns[j]? = some f → vs[j]? = some v → (ns.zip vs).lookup f = some v
  | [], _, _, _, _, h, _ => by simp at h
  | _ :: _, [], _, _, _, _, h => by simp at h
  | n :: ns, u :: vs, 0, v, _, h1, h2 => by
    simp at h1 h2
    subst h1 h2
    simp [List.lookup]
  | n :: ns, u :: vs, j + 1, v, hn, h1, h2 => by
    have hn' := List.nodup_cons.mp hn
    have h1' : ns[j]? = some f := by simpa using h1
    have ne : f ≠ n := fun e => hn'.1 (e ▸ List.mem_of_getElem? h1')
    have ih := zip_look hn'.2 h1' (show vs[j]? = some v by simpa using h2)
    have hb : (f == n) = false := by simpa using ne
    simp [List.lookup, hb, ih]
theorem put_zip {f : PySem.Str} {y : V} : ∀ {ns : List PySem.Str} {vs : List V} {k : Nat}, ns.Nodup → vs.length = k → ns[k]? = some f → putF f y ((ns.take k).zip vs) = (ns.take (k + 1)).zip (vs ++ [y])
  | [], _, _, _, _, h => by simp at h
  | n :: ns, [], k, _, h0, h1 => by
    simp at h0
    subst h0
    simp at h1
    subst h1
    simp [putF]
  | n :: ns, u :: vs, k, hn, h0, h1 => by
    cases k with
    | zero => simp at h0
    | succ k =>
      have hn' := List.nodup_cons.mp hn
      have h1' : ns[k]? = some f := by simpa using h1
      have ne : n ≠ f := fun e => hn'.1 (e ▸ List.mem_of_getElem? h1')
      have ih := put_zip (y := y) (vs := vs) (k := k) hn'.2 (by simpa using h0) h1'
      simp only [List.take_succ_cons, List.zip_cons_cons, List.cons_append]
      unfold putF
      rw [if_neg ne, ih]
/-- a class whose instances are made: its facts -/
structure ClsF (X : Cx) (C : CI) (c : Nat) : Prop where
  ex : ∃ cl, C.cA c = some cl ∧ Cls X.K cl ∧ (C.fN c).Nodup ∧ (C.fN c).length ≤ 900 ∧ ∀ f ∈ C.fN c, NoAttr X.K cl f
theorem ev_fld {f : PySem.Str} {g : E S} {tb : Nat → Option Nat} (hg : EB C HK X W e g) (ht : ∀ c j, tb c = some j → ClsF X C c ∧ (C.fN c)[j]? = some f) (hb : attributeBase e f X.env (eval e X.env) = eval e X.env := by rfl) : EV C HK X W (.Attribute e f pos) (eFld tb g) :=
  PE.of (pe_fld hg hb) fun σ H Q ⟨F, G, ρ, s, rel, p⟩ => ⟨F, G, ρ, s, rel, (Post.step (RR := RRb C F ρ σ H) rel p).imp' fun x H1 ⟨a, s1, G1, rel1, x1, r1, p1⟩ => by
    cases a with
    | ins c fs =>
      dsimp only at p1
      cases z : tb c with
      | none => rw [z] at p1; exact p1.elim
      | some j =>
        rw [z] at p1
        dsimp only [Option.bind] at p1
        cases z2 : fs[j]? with
        | none => rw [z2] at p1; exact p1.elim
        | some d =>
          rw [z2] at p1
          obtain ⟨⟨cl, h1, h2, h3, h4, h5⟩, h6⟩ := ht c j z
          rcases r1 with r1 | ⟨_, _, _, e0, _⟩ | ⟨_, _, _, e0, _⟩
          · cases r1 with
            | @ins aa cl' dx _ _ vs q1 q2 q3 q4 =>
              rw [h1] at q1; cases q1
              obtain ⟨v, e1, e2⟩ := Reps.get q3 z2
              exact ⟨_, _, _, _, v, rfl, rel1.le _ _ q2, h2, h5 f (List.mem_of_getElem? h6), zip_look h3 h6 e1, Post.here rel1 p1 e2⟩
          · cases e0
          · cases e0
    | _ => exact p1.elim⟩
theorem ev_slf {i j c : Nat} {x f : PySem.Str} {p0 : Pos} (hv : PE X (.Name x p0) (tVar i)) (hc : ClsF X C c) (hf : (C.fN c)[j]? = some f) (hb : attributeBase (.Name x p0) f X.env (eval (.Name x p0) X.env) = eval (.Name x p0) X.env := by rfl) : EV C HK X W (.Attribute (.Name x p0) f pos) (eSlf i c j) :=
  PE.of (pe_fld hv hb) fun σ H Q ⟨F, G, ρ, s, rel, p⟩ => by
    unfold eSlf at p
    cases q : ρ[i]? with
    | none => rw [q] at p; exact p.elim
    | some lv =>
      rw [q] at p
      cases lv with
      | slf c' fs =>
        dsimp only at p
        by_cases hcc : Nat.beq c' c = true
        · rw [if_pos hcc] at p
          obtain rfl := Nat.eq_of_beq_eq_true hcc
          cases z2 : fs[j]? with
          | none => rw [z2] at p; exact p.elim
          | some d =>
            rw [z2] at p
            obtain ⟨a, w, e1, e2, e3, _⟩ := rel.slot i _ q
            obtain ⟨cl, h1, h2, h3, h4, h5⟩ := hc.ex
            obtain ⟨r1, r2, r3⟩ := e3
            rw [h1] at r1; cases r1
            obtain ⟨v, k1, k2⟩ := Reps.get r2 z2
            have hj : j < fs.length := (List.getElem?_eq_some_iff.mp z2).1
            refine ⟨_, e1, a, _, _, _, v, rfl, e2, h2, h5 f (List.mem_of_getElem? hf), zip_look (h3.sublist (List.take_sublist _ _)) (j := j) ?_ k1, Post.here rel p k2⟩
            rw [List.getElem?_take_of_lt hj]; exact hf
        · rw [if_neg hcc] at p; exact p.elim
      | _ => exact p.elim
/-- self.f = e -/
theorem sv_self {i j c : Nat} {x f : PySem.Str} {p0 pos' : Pos} {g : E S} (hv : PE X (.Name x p0) (tVar i)) (hg : EV C HK X W e g) (hc : ClsF X C c) (hf : (C.fN c)[j]? = some f) (hs : swapsWith e (some (.Attribute (.Name x p0) f pos')) pos.line X.env = pure false := by rfl) :
    SV C HK X W (.Assign [.Attribute (.Name x p0) f pos'] e pos) (gSelf i c j g) :=
  PS.of (ps_fld hv hg hs) fun N σ H ⟨F, G, ρ, s, rel, p⟩ => by
    unfold gSelf at p
    cases q : ρ[i]? with
    | none => rw [q] at p; exact p.elim
    | some lv =>
      rw [q] at p
      cases lv with
      | slf c' fs =>
        dsimp only at p
        by_cases hcc : (Nat.beq c' c && Nat.beq fs.length j) = true
        · rw [if_pos hcc] at p
          rw [Bool.and_eq_true] at hcc
          obtain rfl := Nat.eq_of_beq_eq_true hcc.1
          obtain rfl := Nat.eq_of_beq_eq_true hcc.2
          refine ⟨F, G, ρ, s, rel, (PostS.expr rel p).imp' fun v H1 ⟨d, s1, G1, rel1, r1, p1⟩ => ?_⟩
          obtain ⟨a, w, e1, e2, e3, e4, e5, e6, e7⟩ := rel1.slot i _ q
          obtain ⟨cl, h1, h2, h3, h4, h5⟩ := hc.ex
          obtain ⟨b1, b2, b3⟩ := e3
          rw [h1] at b1; cases b1
          have hl : w.2.2.length = fs.length := (Reps.length b2).symm
          have hlt : fs.length < (C.fN c').length := (List.getElem?_eq_some_iff.mp hf).1
          have e2' : H1 a = some (.ins w.1 w.2.1 (((C.fN c').take fs.length).zip w.2.2)) := e2
          refine ⟨_, e1, a, w.1, w.2.1, ((C.fN c').take fs.length).zip w.2.2, rfl, e2', h2, h5 f (List.mem_of_getElem? hf), ?_, ?_⟩
          · rw [List.length_zip, List.length_take]; omega
          · rw [put_zip h3 hl hf]
            have up := rel1.updOwn (i := i) (lv := .slf c' (fs ++ [d])) (a := a) (o := insO C c' (fs.length + 1) (w.1, w.2.1, w.2.2 ++ [v])) ⟨⟨_, q, rfl⟩, e1⟩ e4 e5 e6 rfl
              ⟨a, (w.1, w.2.1, w.2.2 ++ [v]), rfl, by rw [List.length_append]; exact upd_same, ⟨h1, Reps.append b2 (.cons r1 .nil), by rw [List.length_append]; exact hlt⟩, e4, e5, e6, e7⟩
            exact p1 σ _ G1 up Sub.refl
        · rw [if_neg hcc] at p; exact p.elim
      | _ => exact p.elim
end
/-! ### an __init__, and the call of its class -/
def SpI (C : CI) (c : Nat) (m : List D → Unit → R Unit D) : Sp := fun vs H Q E => ∃ (G : Hp) (ds : List D) (a dx cl : Addr) (H1 : Hp) (r : List V), vs = .ref a :: r ∧ C.cA c = some cl ∧ H1 a = none ∧ H1 dx = none ∧ dx ≠ a ∧ H = upd (upd H1 dx (.own a)) a (.ins cl dx []) ∧ Reps C G ds r ∧ Sub G H1 ∧
  Post C noHand (fun cls d _ H' => E cls d H') { HA := [], H0 := H1, G0 := G } G H1 [] (fun G' _ d v => v = .non ∧ Rep C G' d (.ref a)) (m ds ()) Q
section
variable {C : CI} {P : Program} {w : World} {K : PySem.W.Frag} {mg : PySem.Str → Option Value} {base : Heap}
theorem PostS.endI_ {G H1 : Hp} {E : XK} {Q : VK} {r : RS Unit} {a : Addr} {c nf : Nat} (hn : (C.fN c).length = nf) (p : Post C noHand (fun cls d _ H' => E cls d H') { HA := [], H0 := H1, G0 := G } G H1 [] (fun G' _ d v => v = .non ∧ Rep C G' d (.ref a)) (endI c nf r) Q) :
    PostS C noHand (fun cls d _ H' => E cls d H') { HA := [], H0 := H1, G0 := G, sa := some a } G { nx := fun _ H' => Q .non H', rt := Q } r := by
  have nx : ∀ {G' : Hp} {ρ : Env} {s : Unit} {σ : L2.St} {H' : Hp}, Rel C noHand { HA := [], H0 := H1, G0 := G, sa := some a } G' ρ s σ H' → Nxt noHand [] G H1 s G' H' := fun r => ⟨⟨r.g0, r.gnew, r.fr, r.off, r.le⟩, r.hand⟩
  cases r with
  | nx ρ s =>
    intro σ' H' G' rel _
    unfold endI at p
    dsimp only at p
    unfold slfOf at p
    cases q : ρ[0]? with
    | none => rw [q] at p; exact p.elim
    | some lv =>
      rw [q] at p
      cases lv with
      | slf c' fs =>
        dsimp only at p
        by_cases hcc : (Nat.beq c' c && Nat.beq fs.length nf) = true
        · rw [if_pos hcc] at p
          rw [Bool.and_eq_true] at hcc
          obtain rfl := Nat.eq_of_beq_eq_true hcc.1
          have hl := Nat.eq_of_beq_eq_true hcc.2
          obtain ⟨b, ww, e1, e2, e3, e4, e5, e6, e7⟩ := rel.slot 0 _ q
          have e7' : a = b := Option.some.inj e7
          subst e7'
          obtain ⟨b1, b2, b3⟩ := e3
          have n := nx rel
          have sub : Sub G' (upd G' a (insO C c' fs.length ww)) := fun b u z => by rw [upd_ne (ne_of_none z e4)]; exact z
          refine p .non H' (upd G' a (insO C c' fs.length ww)) ⟨⟨n.ext.sub.trans sub, fun b u z => ?_, n.ext.kp, fun _ _ _ => by simp, fun b u z => ?_⟩, n.hand⟩ ⟨rfl, ?_⟩
          · by_cases hb : b = a
            · subst hb; exact .inr e5
            · rw [upd_ne hb] at z; exact n.ext.new b u z
          · by_cases hb : b = a
            · subst hb; rw [upd_same] at z; cases z; exact e2
            · rw [upd_ne hb] at z; exact n.ext.le b u z
          · refine .ins (vs := ww.2.2) b1 (dx := ww.2.1) ?_ (Reps.mono sub _ _ b2) (by rw [← Reps.length b2, hl, hn])
            rw [upd_same]
            unfold insO
            rw [hl, ← hn, List.take_length]
        · rw [if_neg hcc] at p; exact p.elim
      | _ => exact p.elim
  | rt d s => exact p.elim
  | exc x ρ s => exact fun cls dd σ' H' G' rel _ r => p cls dd H' G' (nx rel) r
  | bk ρ s => exact p.elim
  | ct ρ s => exact p.elim
  | bad => exact p.elim
/-- THE RULE for an __init__ -/
theorem def_okI {x qual : PySem.Str} {st : Stmt} {f : Addr} {fd : FuncData} {N ps : List PySem.Str} {np n c nf k : Nat} {g : Gs Unit} (Fu : L2.Fun K x qual st f fd) (Sc : FnScope N ps (defScope st)) (hp : ps.length = np) (hn : N.length = n) (hf : (C.fN c).length = nf)
    (hbody : ∀ (cdv : Value) (A : Around) (outer : List PySem.Env) (s : Shared) (H : Hp) (E : XK), Room k (A.deeper (envOfC qual (defScope st) s.heap.objs.size f cdv)) → SVs C noHand (defCx P w K mg base N qual (defScope st) f cdv A outer s H E) (WD E) (defBody st) g) :
    FnOk P w K mg base (L2.CX P w) (k + 1) f fd ps (SpI C c (runI np n c nf g)) := by
  have hpn : ps.length ≤ N.length := by have := congrArg List.length Sc.pre; rw [List.length_take] at this; omega
  refine Fu.okX Sc (fun vs H Q E ⟨G, ds, a, dx, cl, H1, r0, e0, _, _, _, _, _, r, _, p⟩ => ?_) fun cdv A outer s H vs Q E hr ⟨G, ds, a, dx, cl, H1, r0, e0, hcl, na, nd, ne, eH, r, le, p⟩ => ⟨_, hbody cdv A outer s H E hr, ?_⟩
  · unfold runI at p
    by_cases h : ds.length + 1 = np
    · rw [e0, List.length_cons, ← Reps.length r, h, hp]
    · rw [if_neg h] at p; exact p.elim
  · unfold runI at p
    by_cases h : ds.length + 1 = np
    · rw [if_pos h] at p
      have hl : vs.length = np := by rw [e0, List.length_cons, ← Reps.length r, h]
      have at_ : ∀ (i : Nat) (lv : LV), (LV.slf c [] :: (ds.map LV.val ++ List.replicate (n - np) LV.un))[i]? = some lv → lv = .un ∨ (i = 0 ∧ lv = .slf c []) ∨ ∃ j d, i = j + 1 ∧ ds[j]? = some d ∧ lv = .val d := fun i lv e => by
        cases i with
        | zero => rw [List.getElem?_cons_zero] at e; cases e; exact .inr (.inl ⟨rfl, rfl⟩)
        | succ i =>
          rw [List.getElem?_cons_succ] at e
          rcases env_at e with rfl | e
          · exact .inl rfl
          · rw [List.getElem?_map] at e
            cases q : ds[i]? with
            | none => rw [q] at e; cases e
            | some d => rw [q] at e; cases e; exact .inr (.inr ⟨i, d, rfl, q, rfl⟩)
      have hne : ∀ b o, H1 b = some o → b ≠ a ∧ b ≠ dx := fun b o z => ⟨fun e => (by rw [e, na] at z; cases z), fun e => (by rw [e, nd] at z; cases z)⟩
      subst eH
      refine ⟨{ HA := [], H0 := H1, G0 := G, sa := some a }, G, _, (), ⟨?_, fun i lv e => ?_, fun i j b w1 w2 => ?_, fun b o z => ?_, fun _ _ _ => by simp, Sub.refl, fun _ _ e => .inl e, fun b o z _ => ?_, rfl⟩, PostS.endI_ hf p⟩
      · rw [start_len (by omega), List.length_cons, List.length_append, List.length_map, List.length_replicate]; omega
      · rcases at_ i lv e with rfl | ⟨rfl, rfl⟩ | ⟨j, d, rfl, q, rfl⟩
        · trivial
        · refine ⟨a, (cl, dx, []), start_get (by rw [e0]; rfl), ?_, ⟨hcl, .nil, Nat.zero_le _⟩, ?_, na, by simp, rfl⟩
          · rw [upd_same]; simp [insO]
          · cases q : G a with
            | none => rfl
            | some o => have := le a o q; rw [na] at this; cases this
        · obtain ⟨v, e1, e2⟩ := Reps.get r q
          exact ⟨v, start_get (by rw [e0, List.getElem?_cons_succ]; exact e1), e2⟩
      · obtain ⟨⟨lv, e1, e2⟩, _⟩ := w1
        obtain ⟨⟨lv', e1', e2'⟩, _⟩ := w2
        rcases at_ i lv e1 with rfl | ⟨rfl, rfl⟩ | ⟨_, _, rfl, _, rfl⟩
        · cases e2
        · rcases at_ j lv' e1' with rfl | ⟨rfl, rfl⟩ | ⟨_, _, rfl, _, rfl⟩
          · cases e2'
          · rfl
          · cases e2'
        · cases e2
      · have z' := le b o z
        rw [upd_ne (hne b o z').1, upd_ne (hne b o z').2]; exact z'
      · rw [upd_ne (hne b o z).1, upd_ne (hne b o z).2]; exact z
    · rw [if_neg h] at p; exact p.elim
/-- a class that may be called by its name -/
structure CalI (C : CI) (P : Program) (w : World) (K : PySem.W.Frag) (mg : PySem.Str → Option Value) (base : Heap) (k : Nat) (x : PySem.Str) (c : Nat) (m : List D → Unit → R Unit D) : Prop where
  ex : ∃ (cl f : Addr) (fd : FuncData) (ps : List PySem.Str), C.cA c = some cl ∧ Mk K cl f ∧ FnOk P w K mg base (L2.CX P w) k f fd ps (SpI C c m) ∧ mg x = some (.ref cl) ∧ L2.Binds K fd ps []
end
section
variable {S : Type} {C : CI} {HK : HandK S} {X : Cx} {W : WX} {e : Expr} {es : List Expr} {pos p : Pos}
theorem ev_make {m : List D → Unit → R Unit D} {g : As S} {x : PySem.Str} {k c : Nat} (cc : CalI C X.prog X.w X.K X.mg X.base k x c m) (hr : Room (k + 1) X.A) (tk : Takes X W) (hg : Gl X x) (ha : AV C HK X W (e :: es) g)
    (hdb : (x == ("__debug__" : PySem.Str)) = false := by decide) (he : starEach (e :: es) X.env = (false, eval e X.env) :: starEach es X.env := by rfl) (hpl : (backTo pos (starEach es X.env)).any (·.1) = false := by rfl) :
    EV C HK X W (.Call (.Name x p) (e :: es) [] pos) (eCallP m g) := by
  obtain ⟨cl, f, fd, ps, h1, h2, h3, h4, h5⟩ := cc.ex
  refine PE.of (pe_mkS (E := WE W) h2 h3 hr hg h4 h5 (fun σ => passAt tk σ) ha hdb he hpl) fun σ H Q ⟨F, G, ρ, s, rel, p⟩ => ⟨F, G, ρ, s, rel, (Post.step (RR := RRa C F ρ σ H) rel p).imp' fun vs H1 ⟨ds, s1, G1, rel1, x1, r, p1⟩ a dx na nd ne => ?_⟩
  refine ⟨G1, ds, a, dx, cl, H1, vs, rfl, h1, na, nd, ne, rfl, r, rel1.le, ?_⟩
  cases q : m ds () with
  | ok d u => rw [q] at p1; exact fun v H' G' n ⟨ev, r⟩ => ⟨ev, p1 (.ref a) H' G' (Nxt.pure rel1 n) r⟩
  | exc y u => rw [q] at p1; exact fun cls dd H' G' n r => p1 cls dd H' G' (Nxt.pure rel1 n) r
  | bad => rw [q] at p1; exact p1.elim
end
end Fx
set_option Elab.async false
set_option linter.all false
set_option autoImplicit false
set_option maxRecDepth 100000
/-! Fx, rules 16: try. -/
namespace Fx
open PySem PySem.Spec PyProof.Rows L2
section
variable {S : Type} {C : CI} {HK : HandK S} {X : Cx} {W : WX} {e e2 e3 tg : Expr} {es : List Expr} {pos p p2 p3 p4 : Pos}
/-- in the suite that holds the exception at a -/
abbrev HKx (HK : HandK S) (a : Addr) (cls : Value) (dd : Option Addr) : HandK S := { HK with ea := { HK.ea with x := some (a, cls, dd) } }
theorem Nxt.x {HA : List Addr} {G H G' H' : Hp} {s : S} {a : Addr} {cls : Value} {dd : Option Addr} (n : Nxt (HKx HK a cls dd) HA G H s G' H') : Nxt HK HA G H s G' H' := ⟨n.ext, n.hand⟩
theorem Rel.unX {F : Fix} {G H : Hp} {ρ : Env} {s : S} {σ : L2.St} {a : Addr} {cls : Value} {dd : Option Addr} (hea : HK.ea.x = none) (r : Rel C (HKx HK a cls dd) F G ρ s σ H) : Rel C HK F G ρ s σ H where
  len := r.len
  slot := fun i lv e => by
    have z := r.slot i lv e
    cases lv with
    | exn x => intro a cls dd q; rw [hea] at q; cases q
    | _ => exact z
  sep := r.sep
  le := r.le
  off := r.off
  g0 := r.g0
  gnew := r.gnew
  fr := r.fr
  hand := r.hand
theorem clrX_at {ρ : Env} {j : Nat} {lv : LV} (h : (clrX ρ)[j]? = some lv) : lv = .un ∨ ((∀ x, lv ≠ .exn x) ∧ ρ[j]? = some lv) := by
  unfold clrX at h
  rw [List.getElem?_map] at h
  cases q : ρ[j]? with
  | none => rw [q] at h; cases h
  | some l =>
    rw [q] at h
    cases l with
    | exn x => cases h; exact .inl rfl
    | un => cases h; exact .inr ⟨fun _ z => (by cases z), rfl⟩
    | val d => cases h; exact .inr ⟨fun _ z => (by cases z), rfl⟩
    | own d => cases h; exact .inr ⟨fun _ z => (by cases z), rfl⟩
    | ownd d => cases h; exact .inr ⟨fun _ z => (by cases z), rfl⟩
    | slf _ d => cases h; exact .inr ⟨fun _ z => (by cases z), rfl⟩
    | hnd => cases h; exact .inr ⟨fun _ z => (by cases z), rfl⟩
    | fnn => cases h; exact .inr ⟨fun _ z => (by cases z), rfl⟩
theorem Rel.toX {F : Fix} {G H : Hp} {ρ : Env} {s : S} {σ : L2.St} {i : Nat} {x : Exn} {a : Addr} {cls : Value} {dd : Option Addr} (r : Rel C HK F G ρ s σ H) (hx : ExnIs C x cls dd G) : Rel C (HKx HK a cls dd) F G ((clrX ρ).set i (.exn x)) s (σ.set i (some (.ref a))) H where
  len := by rw [List.length_set, List.length_set, r.len]; unfold clrX; rw [List.length_map]
  slot := fun j lv e => by
    rcases set_at e with ⟨rfl, rfl⟩ | ⟨ne, e⟩
    · intro a' cls' dd' q
      cases q
      have hj : j < σ.length := by
        have := (List.getElem?_eq_some_iff.mp e).1
        rw [List.length_set] at this
        unfold clrX at this
        rw [List.length_map] at this
        rw [r.len]; exact this
      exact ⟨List.getElem?_set_self hj, hx⟩
    · rw [List.getElem?_set_ne (Ne.symm ne)]
      rcases clrX_at e with rfl | ⟨nx, e⟩
      · trivial
      · have z := r.slot j lv e
        cases lv with
        | exn x => exact absurd rfl (nx x)
        | _ => exact z
  sep := fun j k b ⟨⟨l1, e1, o1⟩, f1⟩ ⟨⟨l2, e2, o2⟩, f2⟩ => by
    rcases set_at e1 with ⟨rfl, rfl⟩ | ⟨n1, e1⟩
    · cases o1
    · rcases set_at e2 with ⟨rfl, rfl⟩ | ⟨n2, e2⟩
      · cases o2
      · rw [List.getElem?_set_ne (Ne.symm n1)] at f1
        rw [List.getElem?_set_ne (Ne.symm n2)] at f2
        rcases clrX_at e1 with rfl | ⟨_, e1⟩
        · cases o1
        · rcases clrX_at e2 with rfl | ⟨_, e2⟩
          · cases o2
          · exact r.sep j k b ⟨⟨l1, e1, o1⟩, f1⟩ ⟨⟨l2, e2, o2⟩, f2⟩
  le := r.le
  off := r.off
  g0 := r.g0
  gnew := r.gnew
  fr := r.fr
  hand := r.hand
/-- a slot is forgotten -/
theorem Rel.drop {F : Fix} {G H : Hp} {ρ : Env} {s : S} {σ : L2.St} {i : Nat} {y : Option V} (r : Rel C HK F G ρ s σ H) : Rel C HK F G (ρ.set i .un) s (σ.set i y) H where
  len := by rw [List.length_set, List.length_set, r.len]
  slot := fun j lv e => by
    rcases set_at e with ⟨rfl, rfl⟩ | ⟨ne, e⟩
    · trivial
    · rw [List.getElem?_set_ne (Ne.symm ne)]; exact r.slot j lv e
  sep := fun j k b ⟨⟨l1, e1, o1⟩, f1⟩ ⟨⟨l2, e2, o2⟩, f2⟩ => by
    rcases set_at e1 with ⟨rfl, rfl⟩ | ⟨n1, e1⟩
    · cases o1
    · rcases set_at e2 with ⟨rfl, rfl⟩ | ⟨n2, e2⟩
      · cases o2
      · rw [List.getElem?_set_ne (Ne.symm n1)] at f1
        rw [List.getElem?_set_ne (Ne.symm n2)] at f2
        exact r.sep j k b ⟨⟨l1, e1, o1⟩, f1⟩ ⟨⟨l2, e2, o2⟩, f2⟩
  le := r.le
  off := r.off
  g0 := r.g0
  gnew := r.gnew
  fr := r.fr
  hand := r.hand
theorem sv_tryAs {i : Nat} {x n : PySem.Str} {cv : Value} {cs : Nat → Option Bool} {body suite : List Stmt} {b₀ : Stmt} {np pos' : Pos} {g h : Gs S} (hea : HK.ea.x = none) (hs : X.stack = X.env :: X.outer) (hf : X.env.frame = some X.env.locals) (hN : X.N.Nodup) (hi : X.N[i]? = some n) (hln : X.env.kindOf n = some .local) (hc : Names X x cv) (tk : Takes X W)
    (hcs : ∀ c cl b, C.xA c = some cl → cs c = some b → PySem.W.exmOne X.K (.ref cl) cv = some b)
    (hb : ∀ (W : WX) (pn : List (Addr × Obj)) (xe : Value → Shared → Prop), Takes (X.tr pn xe) W → PassesOwn (model X.prog X.w) X.A X.env xe → SVs C HK (X.tr pn xe) W body g)
    (hsu : ∀ (a : Addr) (oe : Obj) (cls : Value) (d : Option Addr) (pn : List (Addr × Obj)), Zc cls d oe → (∃ vs, oe.data = .fields vs) → SVs C (HKx HK a cls d) (X.suite a ((a, oe) :: pn)) W0 (b₀ :: suite) h) :
    SV C HK X W (.Try body [.ExceptHandler (some (.Name x np)) (some n) (b₀ :: suite) pos'] [] [] pos) (gTryAs cs i g h) :=
  PS.of (ps_try_as hs hf hN hi hln hc tk hb hsu) fun N σ H ⟨F, G, ρ, s, rel, p⟩ => ⟨F, G, ρ, s, rel, by
    unfold gTryAs at p
    cases q : g ρ s with
    | nx ρ' s' => rw [q] at p; exact p
    | rt d s' => rw [q] at p; exact p
    | bk ρ' s' => rw [q] at p; exact p
    | ct ρ' s' => rw [q] at p; exact p
    | bad => rw [q] at p; exact p
    | exc x ρ' s' =>
      rw [q] at p
      dsimp only at p
      intro cls dd σ' H' G' rel' sub ex
      obtain ⟨cl, h1, h2, h3⟩ := id ex
      cases qb : cs x.c with
      | none => rw [qb] at p; exact p.elim
      | some b =>
        rw [qb] at p
        refine ⟨b, by rw [h2]; exact hcs _ _ _ h1 qb, fun hb1 a na => ?_, fun hb1 => ?_⟩
        · subst hb1
          dsimp only at p
          refine ⟨F, G', _, s', rel'.toX (i := i) ex, ?_⟩
          have p' := PostS.later p sub
          cases q2 : h ((clrX ρ').set i (.exn x)) s' with
          | nx ρ2 s2 => rw [q2] at p'; exact fun σ2 H2 G2 r2 u2 => p' _ H2 G2 (r2.unX hea).drop u2
          | rt d s2 => rw [q2] at p'; exact fun v ρ2 σ2 H2 G2 r2 u2 r => p' v ρ2 σ2 H2 G2 (r2.unX hea) u2 r
          | bk ρ2 s2 => rw [q2] at p'; exact fun σ2 H2 G2 r2 u2 => p' _ H2 G2 (r2.unX hea).drop u2
          | ct ρ2 s2 => rw [q2] at p'; exact fun σ2 H2 G2 r2 u2 => p' _ H2 G2 (r2.unX hea).drop u2
          | exc y ρ2 s2 => rw [q2] at p'; exact p'.elim
          | bad => rw [q2] at p'; exact p'.elim
        · subst hb1
          dsimp only at p
          exact p cls dd σ' H' G' rel' sub ex⟩
/-! ### isinstance(e, C) of the caught exception -/
/-- an own exception class, as isinstance asks of it -/
structure ExT (K : PySem.W.Frag) (cl : Addr) : Prop where
  ci : (PySem.W.clsIn K cl).isSome = true
  ga : PySem.W.findIn K (.ref cl) "__getattribute__" = some (some (.builtin "BaseException.__getattribute__"))
  gt : ∃ gt, PySem.W.findIn K (.ref cl) "__getattr__" = some gt
  sb : PySem.W.subIn K (.ref cl) (.type "BaseException") = some true
  ha : PySem.W.findIn K (.ref cl) "__class__" = some (some (.builtin "object.__class__"))
  hn : PySem.W.specialIn K (.builtin "object.__class__") "__get__" = some (some (.builtin "getset_descriptor.__get__"))
  ht : PySem.W.takesIn K (.builtin "object.__class__") = some true
  hm : PySem.W.mroIn K cl (.type "object") = some true
def rIsX (K : PySem.W.Frag) (a : Addr) (cls : Value) (dd : Option Addr) (c : V) (cv : Value) : List V → Hp → VK → Prop := fun xs H Q => ∃ (b : Bool) (cl : Addr), xs = [.ref a, c] ∧ cls = .ref cl ∧ ExT K cl ∧ (∀ d, dd = some d → ∃ fs, H d = some (.xd fs)) ∧ PySem.W.kitOne K (.ref cl) cv = some b ∧ Q (.bl b) H
theorem call_isX {a : Addr} {oe : Obj} {cls : Value} {dd : Option Addr} {pn : List (Addr × Obj)} {c : V} {cv : Value} (k : ClsV c cv) (hz : Zc cls dd oe) (hf : ∃ vs, oe.data = .fields vs) : CallR (X.suite a ((a, oe) :: pn)) (.builtin "isinstance") (rIsX X.K a cls dd c cv) := by
  intro pins s σ H xs us Q I r h
  obtain ⟨b, cl, rfl, rfl, T, hd, e, q⟩ := h
  obtain ⟨u1, u2, rfl, r1, r2⟩ := vals2 r
  obtain rfl : u1 = Value.ref a := r1
  have e2 := k.eq r2
  subst e2
  obtain ⟨hget, _⟩ := I.pin (a, oe) (List.mem_append.mpr (.inl List.mem_cons_self))
  obtain ⟨vs, hv⟩ := hf
  obtain ⟨gt, hgt⟩ := T.gt
  have J : ∃ od, PySem.W.InstAt s.heap a oe cl od := by
    cases dd with
    | none => exact ⟨none, hget, hz.1, by unfold PySem.W.notCls; rw [hv] <;> rfl, by rw [hz.2]; trivial⟩
    | some d =>
      obtain ⟨fs, ed⟩ := hd d rfl
      have hx : ObjOk X.prog X.w H s.heap d (.xd fs) := I.hok d _ ed
      obtain ⟨mA, hns, hr⟩ := hx
      obtain ⟨od, ho, hl⟩ := lookIn_ns hns
      exact ⟨some od, hget, hz.1, by unfold PySem.W.notCls; rw [hv] <;> rfl, by rw [hz.2]; exact ho⟩
  obtain ⟨od, J⟩ := J
  exact PySem.W.kia_one (PySem.W.kitx_exc (od := od) T.ci T.ga hgt T.sb T.ha T.hn T.ht T.hm) I.kIn J e (fun z => nomatch z) fun tk => ⟨.bl b, H, I.kept (t' := tk) fun _ _ z => z, rfl, q⟩
theorem ev_isE {i : Nat} {y x : PySem.Str} {a : Addr} {oe : Obj} {cls : Value} {dd : Option Addr} {pn : List (Addr × Obj)} {c : V} {cv : Value} {f : Nat → Option Bool} {q1 : Pos} (hz : Zc cls dd oe) (hfl : ∃ vs, oe.data = .fields vs) (k : ClsV c cv) (hT : ∀ c cl b, C.xA c = some cl → f c = some b → ExT X.K cl ∧ PySem.W.kitOne X.K (.ref cl) cv = some b)
    (hv : PE (X.suite a ((a, oe) :: pn)) (.Name y q1) (tVar i)) (hc : PE (X.suite a ((a, oe) :: pn)) e2 (tC c)) (hg : Gl (X.suite a ((a, oe) :: pn)) x) (hm : X.mg x = none) (hvb : bootBuiltins x = some (.builtin "isinstance"))
    (hn : x ≠ "__name__" := by decide) (hdb : (x == ("__debug__" : PySem.Str)) = false := by decide)
    (he : starEach [.Name y q1, e2] X.env = (false, eval (.Name y q1) X.env) :: starEach [e2] X.env := by rfl) (he2 : starEach [e2] X.env = (false, eval e2 X.env) :: starEach [] X.env := by rfl) (hpl : (backTo pos (starEach [e2] X.env)).any (·.1) = false := by rfl) :
    EV C (HKx HK a cls dd) (X.suite a ((a, oe) :: pn)) W (.Call (.Name x p) [.Name y q1, e2] [] pos) (eIsE i f) :=
  PE.of (pe_callB (call_isX (X := X) (pn := pn) k hz hfl) hg hm hvb (pa_cons hv (pa_cons hc pa_nil he2) he) hn hdb he hpl) fun σ H Q ⟨F, G, ρ, s, rel, p⟩ => by
    unfold eIsE at p
    cases q : ρ[i]? with
    | none => rw [q] at p; exact p.elim
    | some lv =>
      rw [q] at p
      cases lv with
      | exn x =>
        dsimp only at p
        cases z : f x.c with
        | none => rw [z] at p; exact p.elim
        | some b =>
          rw [z] at p
          obtain ⟨e1, ⟨cl, h1, h2, h3⟩⟩ := rel.slot i _ q a cls dd rfl
          obtain ⟨T, ko⟩ := hT _ _ _ h1 z
          refine ⟨_, e1, b, cl, rfl, h2, T, fun d hd => ?_, ko, Post.here rel p (.bl _)⟩
          cases ga : x.arg with
          | none => rw [ga] at h3; rw [h3] at hd; cases hd
          | some d0 =>
            rw [ga] at h3
            obtain ⟨a', v, w1, w2, _⟩ := h3
            rw [w1] at hd; cases hd
            exact ⟨_, rel.le _ _ w2⟩
      | _ => exact p.elim
/-- e.f of the caught exception -/
theorem ev_argE {i c : Nat} {y fl : PySem.Str} {a : Addr} {oe : Obj} {cls : Value} {dd : Option Addr} {pn : List (Addr × Obj)} {q1 : Pos} {cl0 : Addr} (hz : Zc cls dd oe) (hfl : ∃ vs, oe.data = .fields vs) (hA : C.xA c = some cl0) (hT : XfC X.K cl0) (hno : PySem.W.findIn X.K (.ref cl0) fl = some none) (hN : C.fN c = [fl])
    (hv : PE (X.suite a ((a, oe) :: pn)) (.Name y q1) (tVar i)) (hb : attributeBase (.Name y q1) fl X.env (eval (.Name y q1) X.env) = eval (.Name y q1) X.env := by rfl) :
    EV C (HKx HK a cls dd) (X.suite a ((a, oe) :: pn)) W (.Attribute (.Name y q1) fl pos) (eArgE i c) :=
  PE.of (pe_xf hT hno hz hfl hv hb) fun σ H Q ⟨F, G, ρ, s, rel, p⟩ => by
    unfold eArgE at p
    cases q : ρ[i]? with
    | none => rw [q] at p; exact p.elim
    | some lv =>
      rw [q] at p
      cases lv with
      | exn x =>
        dsimp only at p
        by_cases hcc : Nat.beq x.c c = true
        · rw [if_pos hcc] at p
          have hcx := Nat.eq_of_beq_eq_true hcc
          obtain ⟨e1, ⟨cl, h1, h2, h3⟩⟩ := rel.slot i _ q a cls dd rfl
          rw [hcx, hA] at h1; cases h1
          cases ga : x.arg with
          | none => rw [ga] at p; exact p.elim
          | some d0 =>
            rw [ga] at h3 p
            obtain ⟨a', v, w1, w2, w3, w4⟩ := h3
            refine ⟨_, e1, rfl, h2, a', _, v, w1, rel.le _ _ w2, ?_, Post.here rel p w4⟩
            rw [hcx, hN]
            simp [List.lookup]
        · rw [if_neg hcc] at p; exact p.elim
      | _ => exact p.elim
end
end Fx
set_option Elab.async false
set_option linter.all false
set_option autoImplicit false
set_option maxRecDepth 100000
set_option maxHeartbeats 2000000
/-! Fx, rules 17: lambdas handed to a def that calls them. -/
namespace Fx
open PySem PySem.Spec PyProof.Rows L2 LamX
/-! ### the lambda is made: only its table's object changes -/
def ExtP (P : Addr) (H H' : Hp) : Prop := ∀ b o, H b = some o → b ≠ P → H' b = some o
section
variable {X : Cx} {pins : List (Addr × Obj)} {σ : L2.St} {H HZ : Hp} {s s1 : Shared}
theorem lam_make3 {T : List (Addr × PySem.Str)} {c P : Addr} {params : Arguments} {body : Expr} {scope : Scope} {pos : Pos} {E : Value → Shared → Prop} {Q : Value → Shared → Prop} (I : L2.Inv X pins σ H s) (TB : TabB X.base X.mg c P) (hcode : X.env.code = .ref c)
    (hm : (P, X.env.qual ++ "<lambda>") ∈ T) (hu : ∀ p ∈ T, p.1 = P → p.2 = X.env.qual ++ "<lambda>") (hT : Tabs T H) (hdef : defaultsOf params X.env = ([], [])) (hfree : ∀ y ∈ scope.names, y.2 = .free → ∃ c, X.env.cells.lookup y.1 = some c)
    (h : ∀ (f c' : Addr) (pm ctv : Value) (H1 : Hp) (s' : Shared), L2.Inv X pins σ H1 s' → ExtP P H H1 → Tabs T H1 →
      s'.heap.get? f = some (PySem.W.kla_obj "<lambda>" (X.env.qual ++ "<lambda>") params body scope (cloFrom X.env.cells scope.names []) pm c' ctv) → H1 f = none → f ∉ frs X.stack → H1 c' = some (CodeO c' (X.env.qual ++ "<lambda>")) → Q (.ref f) s') :
    wpAny (model X.prog X.w) X.A (eval (.Lambda params body scope pos) X.env) Q E s := by
  obtain ⟨ps, hP, ht, ha⟩ := hT _ hm
  refine PySem.W.kla_eval hdef ?_
  have bP : s.heap.BuiltinsAt X.mg P := TB.bm.keeps I.bk
  have hP' : s.heap.get? P = some { cls := .none, data := .fields ps } := I.hok P _ hP
  have nofr : ∀ f, s.heap.objs.size ≤ f → f ∉ frs X.stack := fun f hf z => by
    rcases List.mem_cons.mp (I.stkSub _ z) with e | e
    · have h1 := I.lt
      rw [← e] at h1
      exact Nat.lt_irrefl _ (Nat.lt_of_lt_of_le h1 hf)
    · exact I.nofs hf e
  cases hc : codeAmong pos ps.toList with
  | none =>
    refine PySem.W.kla_makeFunction (mg := X.mg) (c := c) (P := P) (ps := ps) (closure_ok hfree) I.ok.glob (I.mod.glob.keeps I.bk) hcode (TB.code.keeps I.bk) hP' ht hc TB.gP bP fun c' ctv h' tk hx hge hlt hrec htb => ?_
    obtain ⟨c2, oc, vs, t, e2, hoc, hd, hv⟩ := hrec
    cases e2
    have hsz : s.heap.objs.size ≤ h'.objs.size := Nat.le_trans hge (Nat.le_of_lt hlt)
    have nC : H c' = none := I.hok.fresh hge
    have I1 := inv_table (t' := tk) (more := #[rawInt pos.line, rawInt pos.col, .ref c']) (h' := h'.push (PySem.W.kla_obj "<lambda>" (X.env.qual ++ "<lambda>") params body scope (cloFrom X.env.cells scope.names []) ((X.mg "__name__").getD .none) c' ctv)) I hP
      (fun b o hb e => Heap.get?_push_of_some _ (hx b o hb e)) (Heap.get?_push_of_some _ htb) hge ⟨oc, vs, t, Heap.get?_push_of_some _ hoc, hd, hv⟩
    have hE : ExtP P H (upd (upd H P (.tbl (ps ++ #[rawInt pos.line, rawInt pos.col, .ref c']))) c' (CodeO c' (X.env.qual ++ "<lambda>"))) := fun b o e n => by
      rw [upd_ne (ne_of_none e nC), upd_ne n]
      exact e
    have cne : ∀ c0, H c0 = some (CodeO c0 (X.env.qual ++ "<lambda>")) → c0 ≠ P := fun c0 e z => by
      rw [z, hP] at e; cases e
    have eL : (ps ++ #[rawInt pos.line, rawInt pos.col, .ref c']).toList = ps.toList ++ [rawInt pos.line, rawInt pos.col, .ref c'] := by simp
    refine h h'.objs.size c' ((X.mg "__name__").getD .none) ctv _ _ I1 hE (fun p hp => ?_) (Heap.get?_push_size _ rfl) ?_ (nofr _ hsz) upd_same
    · by_cases hb : p.1 = P
      · rw [hu p hp hb, hb]
        refine ⟨_, by rw [upd_ne (ne_of_none hP nC), upd_same], by rw [eL]; exact PySem.TriplesOk_snoc _ _ _ _ ht, fun p' cv hcv => ?_⟩
        rw [eL] at hcv
        rcases among_app _ ht hcv with z | z
        · obtain ⟨c0, e1, e2⟩ := ha p' cv z
          exact ⟨c0, e1, hE _ _ e2 (cne _ e2)⟩
        · exact ⟨c', z, upd_same⟩
      · obtain ⟨ps', a1, a2, a3⟩ := hT p hp
        refine ⟨ps', by rw [upd_ne (ne_of_none a1 nC), upd_ne hb]; exact a1, a2, fun p' cv hcv => ?_⟩
        obtain ⟨c0, e1, e2⟩ := a3 p' cv hcv
        refine ⟨c0, e1, hE _ _ e2 fun z => ?_⟩
        rw [z, hP] at e2; cases e2
    · have n1 : h'.objs.size ≠ c' := Nat.ne_of_gt hlt
      have n2 : h'.objs.size ≠ P := Nat.ne_of_gt (Nat.lt_of_lt_of_le (Heap.lt_size hP') hsz)
      rw [upd_ne n1, upd_ne n2]
      exact I.hok.fresh hsz
  | some cv =>
    obtain ⟨c', e, hco⟩ := ha pos cv hc
    subst e
    refine PySem.W.kla_makeFunctionHit (mg := X.mg) (c := c) (P := P) (ps := ps) (closure_ok hfree) I.ok.glob (I.mod.glob.keeps I.bk) hcode (TB.code.keeps I.bk) hP' ht hc bP fun ctv h' tk hx hsz => ?_
    have I1 : L2.Inv X pins σ H { s with heap := h'.push (PySem.W.kla_obj "<lambda>" (X.env.qual ++ "<lambda>") params body scope (cloFrom X.env.cells scope.names []) ((X.mg "__name__").getD .none) c' ctv), toks := tk } := I.kept fun b o e => Heap.get?_push_of_some _ (hx b o e)
    exact h h'.objs.size c' ((X.mg "__name__").getD .none) ctv H _ I1 (fun _ _ e _ => e) hT (Heap.get?_push_size _ rfl) (I.hok.fresh hsz) (nofr _ hsz) hco
/-- x(), in the def that got the lambda: Z is that def's context, entered at s -/
theorem pe_act3 {CXg : CXT} {Eg : XK} {Ng : List PySem.Str} {qg : PySem.Str} {sg : Scope} {g f c' : Addr} {cdg pm ctv : Value} {params : Arguments} {body : Expr} {scope : Scope} {k i : Nat} {a : PySem.Str} {pn : List (Addr × Obj)} {xe : Value → Shared → Prop} {W : WX} {t : XK → TE} {p1 p2 : Pos}
    (I : L2.Inv X pins σ H s) (L : LamS X.env.scope scope) (hf : s.heap.get? f = some (PySem.W.kla_obj "<lambda>" (X.env.qual ++ "<lambda>") params body scope (cloFrom X.env.cells scope.names []) pm c' ctv)) (hfn : H f = none) (hfr : f ∉ frs X.stack)
    (hbind : bindArgs (PySem.W.kla_fn "<lambda>" (X.env.qual ++ "<lambda>") params body scope (cloFrom X.env.cells scope.names []) pm (.ref c') ctv) ⟨[], []⟩ = pure [])
    (tk : Takes ((cxOf CXg X.prog X.w X.K X.mg X.base Ng qg sg g cdg X.A X.stack s H Eg).tr pn xe) W) (hr : Room (k + 1) (X.A.deeper (envOfC qg sg s.heap.objs.size g cdg)))
    (hbody : ∀ (A : Around) (outer : List PySem.Env) (s : Shared) (H : Hp) (E : XK), Room k (A.deeper (lamEnv X scope s.heap.objs.size f c')) → PE (lamCx X A outer s H E scope f c') body (t E))
    (hN : Ng[i]? = some a) (hv : Vis sg a) (hd : (a == ("__debug__" : PySem.Str)) = false := by decide) (hcd : (a == ("__classdict__" : PySem.Str)) = false := by decide) :
    PE ((cxOf CXg X.prog X.w X.K X.mg X.base Ng qg sg g cdg X.A X.stack s H Eg).tr pn xe) (.Call (.Name a p1) [] [] p2)
      (fun σZ HZ Q => σZ[i]? = some (some (.ref f)) ∧ HZ c' = some (CodeO c' (X.env.qual ++ "<lambda>")) ∧ t (WE W σZ) σ HZ Q) := by
  refine ⟨fun pinsZ sZ σZ HZ Q IZ h => ?_⟩
  obtain ⟨hs, hc, ht⟩ := h
  refine wpAny_Call_Name_kw (thn ((pe_var (pos := p1) (i := i) hN hv hd hcd).run pinsZ sZ σZ HZ (fun v H1 => v = .ref f ∧ H1 = HZ) IZ ⟨.ref f, hs, rfl, rfl⟩) fun u s1 ⟨v, H1, I1, r1, q1⟩ => ?_)
  obtain ⟨ev, eH⟩ := q1
  subst ev
  rw [eH] at I1
  obtain rfl : u = Value.ref f := r1
  have of1 : s1.heap.get? f = some (PySem.W.kla_obj "<lambda>" (X.env.qual ++ "<lambda>") params body scope (cloFrom X.env.cells scope.names []) pm c' ctv) := I1.base.keep f _ hf hfn hfr (fun z => nomatch (show f ∈ ([] : List Addr) from z))
  refine PySem.W.callWith_F0 ⟨_, _, _, _, of1⟩ ?_
  have un : Un (frs X.stack) [] H HZ s.heap s1.heap := I1.base
  obtain ⟨⟨oc, vs, tt, hoc, hdc, hvc⟩, _, _⟩ := I1.hok c' _ hc
  have rc : codeAny (model X.prog X.w) (X.A.deeper (envOfC qg sg s.heap.objs.size g cdg)) (.call (.ref f) ⟨[], []⟩) (CR (L2.CX X.prog X.w) (envOfC qg sg s.heap.objs.size g cdg :: X.stack) X.prog X.w HZ s1 Q (WE W σZ)) s1 := by
    refine PySem.W.kla_callFunE hr.depth of1 rfl L.co L.gen rfl ⟨c', oc, vs, tt, rfl, hoc, hdc, hvc⟩ ?_
    rw [hbind]
    refine wpAny_pure (wpAny_newFunctionEnv (fun y hy => (L.own y hy).2) (fun y hy => absurd hy (by simp)) (fun h₁ hns hsb => ⟨I1.nolimit.fresh _ hsb, ?_⟩) L.kind)
    show codeAny _ _ (.expr body (lamEnv X scope s1.heap.objs.size f c')) _ _
    have kp : ∀ b o, s1.heap.get? b = some o → h₁.get? b = some o := fun b o e => hsb.extBut b o (Nat.ne_of_lt (Heap.lt_size e)) (Heap.get?_push_of_some _ e)
    have J : L2.Inv (lamCx X (X.A.deeper (envOfC qg sg s.heap.objs.size g cdg)) (envOfC qg sg s.heap.objs.size g cdg :: X.stack) s1 HZ (WE W σZ) scope f c') [] σ HZ { s1 with heap := h₁, toks := s1.toks + ([] : List (PySem.Str × Value)).length } :=
      lam_start2 I L I1.env0 hr.hd un hns kp
    refine PySem.W.kla_codeExpr (wpAny_mono ((hbody _ _ s1 HZ (WE W σZ) (hr.deeper _)).run [] _ _ HZ Q J ht) (fun v s' hq => ?_) fun e s' hq => hq)
    obtain ⟨w', H', J', rv, q⟩ := hq
    exact ⟨w', H', J'.os, J'.bare, J'.base, J'.hok, rv, q⟩
  have hx := passAt tk σZ
  refine wpAny_call (codeAny_mono rc fun r s' hq => ?_)
  cases r with
  | error e => exact hx pinsZ HZ s1 e s' I1 hq
  | ok fl =>
    cases fl with
    | ret u => exact I1.after hq
    | next => exact False.elim hq
    | brk => exact False.elim hq
    | cont => exact False.elim hq
end
abbrev Zc0 (X : Cx) (Ng : List PySem.Str) (x : PySem.Str) (sg : Scope) (g : Addr) (cdg : Value) (s : Shared) (H : Hp) : Cx := cxOf C8.CX0 X.prog X.w X.K X.mg X.base Ng x sg g cdg X.A X.stack s H C8.E0
/-- the def that calls what it got: a calls it; TT: what it makes of the lambda's reading -/
def GivesTo3 (X : Cx) (k : Nat) (Ng : List PySem.Str) (x : PySem.Str) (sg : Scope) (g : Addr) (cdg : Value) (bg : List Stmt) (a : PySem.Str) (q : PySem.Str) (TT : (XK → Hp → VK → Prop) → Hp → VK → Prop) : Prop :=
  ∀ (f c' : Addr) (s : Shared) (H : Hp) (Q : VK) (tl : XK → Hp → VK → Prop), Room k (Zc0 X Ng x sg g cdg s H).A →
    (∀ (W : WX) (pn : List (Addr × Obj)) (xe : Value → Shared → Prop) (p1 p2 : Pos), Takes ((Zc0 X Ng x sg g cdg s H).tr pn xe) W →
      PE ((Zc0 X Ng x sg g cdg s H).tr pn xe) (.Call (.Name a p1) [] [] p2) (fun σZ HZ Q => σZ[0]? = some (some (.ref f)) ∧ HZ c' = some (CodeO c' q) ∧ tl (WE W σZ) HZ Q)) →
    H c' = some (CodeO c' q) → TT tl H Q →
    ∃ t, PSs (Zc0 X Ng x sg g cdg s H).nox bg t ∧ t { nx := fun _ H' => Q .non H', rt := Q } (L2.start Ng [.ref f]) H
def tLam3 (T : List (Addr × PySem.Str)) (P : Addr) (TT : (XK → Hp → VK → Prop) → Hp → VK → Prop) (t : XK → TE) : TE := fun σ H Q => Tabs T H ∧ ∀ H1, ExtP P H H1 → Tabs T H1 → TT (fun E H' Q' => t E σ H' Q') H1 Q
/-- a def that calls what it gets, as it lies -/
structure GivF (K : PySem.W.Frag) (mg : PySem.Str → Option Value) (x : PySem.Str) (g : Addr) (Ng : List PySem.Str) (sg : Scope) (bg : List Stmt) (cdg : Value) (a : PySem.Str) : Prop where
  mg_ : mg x = some (.ref g)
  keep : PySem.W.keepIn K (.ref g) = true
  lk : ∃ (pg : Arguments) (dV kV doc pm ct oc : Value) (an od : Option Addr) (osl : Array (Option Value)), K.lookup g = some ⟨oc, od, .func (PySem.W.fnOf x x pg bg sg dV kV doc pm an cdg ct), osl⟩ ∧ L2.Binds K (PySem.W.fnOf x x pg bg sg dV kV doc pm an cdg ct) [a] []
  code : PySem.W.codeIn K cdg x = true
  sc : FnScope Ng [a] sg
  n0 : Ng[0]? = some a
  va : Vis sg a
section
variable {X : Cx}
/-- x(lambda: body) -/
theorem pe_lamcall3 {T : List (Addr × PySem.Str)} {TT : (XK → Hp → VK → Prop) → Hp → VK → Prop} {x a : PySem.Str} {g c P : Addr} {k : Nat} {bg : List Stmt} {sg : Scope} {cdg : Value} {Ng : List PySem.Str}
    {params : Arguments} {body : Expr} {scope : Scope} {t : XK → TE} {p lpos pos : Pos} (hg : Gl X x) (gf : GivF X.K X.mg x g Ng sg bg cdg a)
    (hG : GivesTo3 X (k + 1) Ng x sg g cdg bg a (X.env.qual ++ "<lambda>") TT)
    (TB : TabB X.base X.mg c P) (hcode : X.env.code = .ref c) (hmT : (P, X.env.qual ++ "<lambda>") ∈ T) (hu : ∀ p ∈ T, p.1 = P → p.2 = X.env.qual ++ "<lambda>") (hr : Room (k + 2) X.A) (L : LamS X.env.scope scope) (hdef : defaultsOf params X.env = ([], []))
    (hbind : ∀ (q : PySem.Str) (cl : List (PySem.Str × Addr)) (pm cv ctv : Value), bindArgs (PySem.W.kla_fn "<lambda>" q params body scope cl pm cv ctv) ⟨[], []⟩ = pure [])
    (hbody : ∀ (A : Around) (outer : List PySem.Env) (s : Shared) (H : Hp) (E : XK) (f c' : Addr), Room k (A.deeper (lamEnv X scope s.heap.objs.size f c')) → PE (lamCx X A outer s H E scope f c') body (t E))
    (hdb : (x == ("__debug__" : PySem.Str)) = false := by decide) (hd : (a == ("__debug__" : PySem.Str)) = false := by decide) (hcd : (a == ("__classdict__" : PySem.Str)) = false := by decide) :
    PE X (.Call (.Name x p) [.Lambda params body scope lpos] [] pos) (tLam3 T P TT t) := by
  obtain ⟨pg, dV, kV, doc, pm, ct, oc, an, od, osl, lk, hb⟩ := gf.lk
  refine ⟨fun pins s σ H Q I h => ?_⟩
  obtain ⟨hT, h⟩ := h
  refine wpAny_Call_Name_kw (ld_glob I hg gf.mg_ ?_ hdb)
  refine PySem.W.callWith_K (h₀ := X.base) I.ok.mod.kin gf.keep ?_ (by rfl) (by rfl)
  show wpAny _ _ (spliced ((false, eval (.Lambda params body scope lpos) X.env) :: backTo pos (starEach [] X.env))) _ _ s
  refine Calls.spliced_cons (lam_make3 I TB hcode hmT hu hT hdef (L.has I.ok) fun f c' pm' ctv H1 s' I1 eN T1 hf hfn hfr hco => ?_)
  refine Calls.spliced_nil ⟨I1.kIn, ?_⟩
  have rc : codeAny (model X.prog X.w) X.A (.call (.ref g) ⟨[.ref f], []⟩) (CR C8.CX0 X.stack X.prog X.w H1 s' Q C8.E0) s' := by
    refine run_ofS (N := Ng) (ps := [a]) (us := [.ref f]) (vs := [.ref f]) lk gf.code gf.sc hr I1.env0 (hb s' [.ref f] I1.kIn rfl) (.cons rfl .nil) rfl fun hr' => ?_
    obtain ⟨t', ht', hq'⟩ := hG f c' s' H1 Q (fun E H' Q' => t E σ H' Q') hr' (fun W pn xe p1 p2 tk => pe_act3 (i := 0) I1 L hf hfn hfr (hbind _ _ _ _ _) tk hr' (fun A outer s H E hr2 => hbody A outer s H E f c' hr2) gf.n0 gf.va hd hcd) hco (h H1 eN T1)
    exact ⟨t', ht'.nox, hq'⟩
  refine wpAny_call (codeAny_mono rc fun r s2 hq => ?_)
  cases r with
  | error e => exact (show False from hq).elim
  | ok fl =>
    cases fl with
    | ret u => exact I1.after hq
    | next => exact False.elim hq
    | brk => exact False.elim hq
    | cont => exact False.elim hq
end
end Fx
set_option Elab.async false
set_option linter.all false
set_option autoImplicit false
set_option maxRecDepth 100000
set_option maxHeartbeats 2000000
/-! Fx, rules 18: x(lambda: f). -/
namespace Fx
open PySem PySem.Spec PyProof.Rows L2 LamX
section
variable {S : Type} {C : CI} {HK : HandK S} {X : Cx} {W : WX}
/-- a hand that holds the code objects' tables -/
structure TabK (T : List (Addr × PySem.Str)) (HK : HandK S) : Prop where
  tab : ∀ s HA H, HK.at_ s HA H → Tabs T H ∧ ∀ p ∈ T, p.1 ∈ HA
  up : ∀ s HA H H', HK.at_ s HA H → (∀ a ∈ HA, a ∉ T.map (·.1) → H' a = H a) → Tabs T H' → HK.at_ s HA H'
  nc : ∀ s HA H c q, HK.at_ s HA H → H c = some (CodeO c q) → c ∉ HA
/-- in a def that got what it calls -/
abbrev HKt (HK : HandK S) (f : Addr) (HA : List Addr) (H G : Hp) : HandK S := { HK with ea := { f := some (f, HA, H, G) } }
theorem TabK.nxt {T : List (Addr × PySem.Str)} {P : Addr} (tk : TabK T HK) (hP : P ∈ T.map (·.1)) {F : Fix} {G H H1 : Hp} {ρ : Env} {s : S} {σ : L2.St} (rel : Rel C HK F G ρ s σ H) (x : ExtP P H H1) (t1 : Tabs T H1) : Nxt HK F.HA G H s G H1 := by
  have hPA : P ∈ F.HA := by
    obtain ⟨p, hp, e⟩ := List.mem_map.mp hP
    rw [← e]; exact (tk.tab _ _ _ rel.hand).2 p hp
  refine ⟨⟨Sub.refl, fun _ _ h => .inl h, fun a o e n => x a o e fun z => n (z ▸ hPA), rel.off, fun a o e => x a o (rel.le a o e) fun z => rel.off a o e (z ▸ hPA)⟩, tk.up _ _ _ _ rel.hand (fun a ha n => ?_) t1⟩
  obtain ⟨o, e⟩ := HK.trk _ _ _ rel.hand a ha
  rw [e]
  exact x a o e fun z => n (z ▸ hP)
/-- what a def makes of what it calls -/
def TTm (C : CI) (HK : HandK S) (m : (S → R S D) → S → R S D) : (XK → Hp → VK → Prop) → Hp → VK → Prop := fun tl H Q =>
  ∃ (HA : List Addr) (G : Hp) (s : S) (th : S → R S D), Sub G H ∧ (∀ a o, G a = some o → a ∉ HA) ∧ HK.at_ s HA H ∧
    (∀ (s' : S) (G' H' : Hp) (E : XK) (Q' : VK), Nxt HK HA G H s' G' H' → Post C HK (fun cls d _ H => E cls d H) { HA := HA, H0 := H, G0 := G } G' H' [] (fun G'' _ d v => Rep C G'' d v) (th s') Q' → tl E H' Q') ∧
    Post C HK (fun _ _ _ _ => False) { HA := HA, H0 := H, G0 := G } G H [] (fun G' _ d v => Rep C G' d v) (m th s) Q
/-- THE RULE for a def that calls what it gets -/
theorem gives_of {k n : Nat} {Ng : List PySem.Str} {x a q : PySem.Str} {sg : Scope} {g : Addr} {cdg : Value} {bg : List Stmt} {gb : (S → R S D) → Gs S} (hn : Ng.length = n) (hn0 : 0 < n) (hnc : ∀ s HA H c q, HK.at_ s HA H → H c = some (CodeO c q) → c ∉ HA)
    (hbody : ∀ (f : Addr) (s : Shared) (H : Hp) (HA : List Addr) (G : Hp) (th : S → R S D), Room k (Zc0 X Ng x sg g cdg s H).A →
      (∀ (W : WX) (pn : List (Addr × Obj)) (xe : Value → Shared → Prop) (p1 p2 : Pos), Takes ((Zc0 X Ng x sg g cdg s H).tr pn xe) W → EV C (HKt HK f HA H G) ((Zc0 X Ng x sg g cdg s H).tr pn xe) W (.Call (.Name a p1) [] [] p2) (eThunk 0 th)) →
      SVs C (HKt HK f HA H G) (Zc0 X Ng x sg g cdg s H).nox W0 bg (gb th)) :
    GivesTo3 X k Ng x sg g cdg bg a q (TTm C HK (runT n gb)) := by
  intro f c' s H Q tl hr act hc ⟨HA, G, s0, th, le, off, hand, hth, p⟩
  have hcA := hnc _ _ _ _ _ hand hc
  refine ⟨_, hbody f s H HA G th hr fun W pn xe p1 p2 tk => ?_, { HA := HA, H0 := H, G0 := G }, G, LV.fnn :: List.replicate (n - 1) LV.un, s0, ⟨?_, fun i lv e => ?_, fun i j b w1 w2 => ?_, le, off, Sub.refl, fun _ _ e => .inl e, fun _ _ e _ => e, hand⟩, ?_⟩
  · refine PE.of (act W pn xe p1 p2 tk) fun σ H' Q' ⟨F, G', ρ', s', rel, p⟩ => ?_
    unfold eThunk at p
    cases q0 : ρ'[0]? with
    | none => rw [q0] at p; exact p.elim
    | some lv =>
      rw [q0] at p
      cases lv with
      | fnn =>
        dsimp only at p
        obtain ⟨e1, e2, e3, e4⟩ := rel.slot 0 _ q0 f HA H G rfl
        refine ⟨e1, rel.fr _ _ (by rw [e3]; exact hc) (by rw [e2]; exact hcA), hth s' G' H' _ Q' ⟨⟨by rw [← e4]; exact rel.g0, by rw [← e3, ← e4]; exact rel.gnew, by rw [← e2, ← e3]; exact rel.fr, by rw [← e2]; exact rel.off, rel.le⟩, by rw [← e2]; exact rel.hand⟩ ?_⟩
        cases z : th s' with
        | ok d s2 => rw [z] at p; exact fun b H2 G2 n r => p b H2 G2 ⟨by rw [e2]; exact n.ext, by rw [e2]; exact n.hand⟩ r
        | exc y s2 => rw [z] at p; exact fun cls dd H2 G2 n r => p cls dd H2 G2 ⟨by rw [e2]; exact n.ext, by rw [e2]; exact n.hand⟩ r
        | bad => rw [z] at p; exact p.elim
      | _ => exact p.elim
  · rw [start_len (by rw [List.length_singleton]; omega), List.length_cons, List.length_replicate]; omega
  · cases i with
    | zero =>
      rw [List.getElem?_cons_zero] at e; cases e
      intro a' ha h0 g0 z
      cases z
      exact ⟨start_get rfl, rfl, rfl, rfl⟩
    | succ i =>
      rw [List.getElem?_cons_succ] at e
      have := List.mem_of_getElem? e
      rw [List.mem_replicate] at this
      rw [this.2]; trivial
  · obtain ⟨⟨lv, e1, e2⟩, _⟩ := w1
    exfalso
    cases i with
    | zero => rw [List.getElem?_cons_zero] at e1; cases e1; cases e2
    | succ i =>
      rw [List.getElem?_cons_succ] at e1
      have := List.mem_of_getElem? e1
      rw [List.mem_replicate] at this
      rw [this.2] at e2; cases e2
  · have p' : Post C (HKt HK f HA H G) (fun cls d _ H' => False) { HA := HA, H0 := H, G0 := G } G H [] (fun G' _ d v => Rep C G' d v) (endG (gb th (LV.fnn :: List.replicate (n - 1) LV.un) s0)) Q := by
      unfold runT at p
      cases z : endG (gb th (LV.fnn :: List.replicate (n - 1) LV.un) s0) with
      | ok d s2 => rw [z] at p; exact fun b H2 G2 n r => p b H2 G2 ⟨n.ext, n.hand⟩ r
      | exc y s2 => rw [z] at p; exact fun cls dd H2 G2 n r => p cls dd H2 G2 ⟨n.ext, n.hand⟩ r
      | bad => rw [z] at p; exact p.elim
    exact PostS.end_ (E := fun _ _ _ => False) p'
/-- x(lambda: f) -/
theorem ev_lam {T : List (Addr × PySem.Str)} {m : (S → R S D) → S → R S D} {x a : PySem.Str} {g c P : Addr} {k : Nat} {bg : List Stmt} {sg : Scope} {cdg : Value} {Ng : List PySem.Str} {params : Arguments} {body : Expr} {scope : Scope} {f : E S} {p lpos pos : Pos}
    (tk : TabK T HK) (hg : Gl X x) (gf : GivF X.K X.mg x g Ng sg bg cdg a) (hG : GivesTo3 X (k + 1) Ng x sg g cdg bg a (X.env.qual ++ "<lambda>") (TTm C HK m))
    (TB : TabB X.base X.mg c P) (hcode : X.env.code = .ref c) (hmT : (P, X.env.qual ++ "<lambda>") ∈ T) (hu : ∀ p ∈ T, p.1 = P → p.2 = X.env.qual ++ "<lambda>") (hr : Room (k + 2) X.A) (L : LamS X.env.scope scope) (hdef : defaultsOf params X.env = ([], []))
    (hbind : ∀ (q : PySem.Str) (cl : List (PySem.Str × Addr)) (pm cv ctv : Value), bindArgs (PySem.W.kla_fn "<lambda>" q params body scope cl pm cv ctv) ⟨[], []⟩ = pure [])
    (hbody : ∀ (A : Around) (outer : List PySem.Env) (s : Shared) (H : Hp) (E : XK) (fa c' : Addr), Room k (A.deeper (lamEnv X scope s.heap.objs.size fa c')) → EV C HK (lamCx X A outer s H E scope fa c') (WD E) body f)
    (hdb : (x == ("__debug__" : PySem.Str)) = false := by decide) (hd : (a == ("__debug__" : PySem.Str)) = false := by decide) (hcd : (a == ("__classdict__" : PySem.Str)) = false := by decide) :
    EV C HK X W (.Call (.Name x p) [.Lambda params body scope lpos] [] pos) (eLam m f) :=
  PE.of (pe_lamcall3 hg gf hG TB hcode hmT hu hr L hdef hbind hbody hdb hd hcd) fun σ H Q ⟨F, G, ρ, s, rel, p⟩ => by
    refine ⟨(tk.tab _ _ _ rel.hand).1, fun H1 x1 t1 => ?_⟩
    have n1 := tk.nxt (List.mem_map.mpr ⟨_, hmT, rfl⟩) rel x1 t1
    have rel1 := rel.ext n1
    refine ⟨F.HA, G, s, fun s' => f ρ s', rel1.le, rel1.off, rel1.hand, fun s' G' H' E Q' n2 p2 => ?_, ?_⟩
    · refine ⟨F, G', ρ, s', rel1.ext n2, ?_⟩
      dsimp only at p2
      cases z : f ρ s' with
      | ok d s2 => rw [z] at p2; exact p2
      | exc y s2 => rw [z] at p2; exact p2
      | bad => rw [z] at p2; exact p2.elim
    · unfold eLam at p
      cases z : m (fun s' => f ρ s') s with
      | ok d s2 => rw [z] at p; exact fun v H2 G2 n r => p v H2 G2 ⟨n1.ext.trans n.ext, n.hand⟩ r
      | exc y s2 => rw [z] at p; exact p.elim
      | bad => rw [z] at p; exact p.elim
/-! ### a def with lambdas, without a hand -/
/-- just the tables -/
def tabHand (T : List (Addr × PySem.Str)) : HandK Unit where
  at_ := fun _ HA H => HA = T.map (·.1) ∧ Tabs T H
  loc := fun _ HA H H' ⟨e, t⟩ h hc => ⟨e, fun p hp => by
    obtain ⟨ps, h1, h2, h3⟩ := t p hp
    have hm : p.1 ∈ HA := by rw [e]; exact List.mem_map.mpr ⟨p, hp, rfl⟩
    refine ⟨ps, by rw [h _ hm]; exact h1, h2, fun pos cv hcv => ?_⟩
    obtain ⟨c, e1, e2⟩ := h3 pos cv hcv
    exact ⟨c, e1, hc _ _ e2⟩⟩
  trk := fun _ HA H ⟨e, t⟩ a ha => by
    rw [e] at ha
    obtain ⟨p, hp, e⟩ := List.mem_map.mp ha
    obtain ⟨ps, h1, _⟩ := t p hp
    exact ⟨_, by rw [← e]; exact h1⟩
theorem tabK_tab (T : List (Addr × PySem.Str)) : TabK T (tabHand T) where
  tab := fun _ HA H ⟨e, t⟩ => ⟨t, fun p hp => by rw [e]; exact List.mem_map.mpr ⟨p, hp, rfl⟩⟩
  up := fun _ HA H H' ⟨e, _⟩ _ t => ⟨e, t⟩
  nc := fun _ HA H c q ⟨e, t⟩ z hc => by
    rw [e] at hc
    obtain ⟨p, hp, e⟩ := List.mem_map.mp hc
    obtain ⟨ps, h1, _⟩ := t p hp
    rw [e, z] at h1
    cases h1
theorem Nxt.tab {T : List (Addr × PySem.Str)} {F : Fix} {G H G' H' : Hp} {ρ : Env} {σ : L2.St} {s : S} (tk : TabK T HK) (rel : Rel C HK F G ρ s σ H) (n : Nxt (tabHand T) (T.map (·.1)) G H () G' H') : Nxt HK F.HA G H s G' H' := by
  obtain ⟨t, hT⟩ := tk.tab _ _ _ rel.hand
  have sub : ∀ a, a ∈ T.map (·.1) → a ∈ F.HA := fun a ha => by
    obtain ⟨p, hp, e⟩ := List.mem_map.mp ha
    rw [← e]; exact hT p hp
  refine ⟨⟨n.ext.sub, n.ext.new, fun a o e m => n.ext.kp a o e fun z => m (sub a z), fun a o e => ?_, n.ext.le⟩, tk.up _ _ _ _ rel.hand (fun a ha m => ?_) n.hand.2⟩
  · rcases n.ext.new a o e with h | h
    · exact rel.off a o h
    · exact (rel.h0 h).2.1
  · obtain ⟨o, e⟩ := HK.trk _ _ _ rel.hand a ha
    rw [e]; exact n.ext.kp a o e m
/-- a call of a def that has lambdas, but takes no hand -/
theorem ev_callT {T : List (Addr × PySem.Str)} {m : List D → Unit → R Unit D} {g : As S} {x : PySem.Str} {k : Nat} {p pos : Pos} {e : Expr} {es : List Expr} (tb : TabK T HK) (c : Cal X.prog X.w X.K X.mg X.base k x (SpM C (tabHand T) m)) (hr : Room k X.A) (tk : Takes X W) (hg : Gl X x) (ha : AV C HK X W (e :: es) g)
    (hdb : (x == ("__debug__" : PySem.Str)) = false := by decide) (he : starEach (e :: es) X.env = (false, eval e X.env) :: starEach es X.env := by rfl) (hpl : (backTo pos (starEach es X.env)).any (·.1) = false := by rfl) :
    EV C HK X W (.Call (.Name x p) (e :: es) [] pos) (eCallP m g) := by
  obtain ⟨f, fd, ps, h1, h2, h3, h4⟩ := c.ex
  refine PE.of (pe_callSD (E := WE W) h1 hr hg h2 h3 h4 .nil (fun σ => passAt tk σ) ha hdb he hpl) fun σ H Q ⟨F, G, ρ, s, rel, p⟩ => ⟨F, G, ρ, s, rel, (Post.step (RR := RRa C F ρ σ H) rel p).imp' fun vs H1 ⟨ds, s1, G1, rel1, x1, r, p1⟩ => ?_⟩
  obtain ⟨t1, hT⟩ := tb.tab _ _ _ rel1.hand
  refine ⟨T.map (·.1), G1, ds, (), by rw [List.append_nil]; exact r, rel1.le, fun a o e z => ?_, ⟨rfl, t1⟩, ?_⟩
  · obtain ⟨p, hp, ep⟩ := List.mem_map.mp z
    exact rel1.off a o e (by rw [← ep]; exact hT p hp)
  · cases q : m ds () with
    | ok d u => rw [q] at p1; exact fun v H' G' n r => p1 v H' G' (Nxt.tab tb rel1 n) r
    | exc y u => rw [q] at p1; exact fun cls dd H' G' n r => p1 cls dd H' G' (Nxt.tab tb rel1 n) r
    | bad => rw [q] at p1; exact p1.elim
end
end Fx
set_option Elab.async false
set_option linter.all false
set_option autoImplicit false
set_option maxRecDepth 100000
/-! Fx, rules 19: several targets. -/
namespace Fx
open PySem PySem.Spec PyProof.Rows L2
section
variable {S : Type} {C : CI} {HK : HandK S} {X : Cx} {W : WX} {e e2 e3 tg : Expr} {es : List Expr} {pos p p2 p3 p4 : Pos}
theorem PostS.exprS {F : Fix} {G H : Hp} {N : Ends} {ρ : Env} {s : S} {σ : L2.St} {r : R S Fx.D} {k : Fx.D → S → RS S} (rel : Rel C HK F G ρ s σ H) (p : PostS C HK W F G N (sEnd r ρ k)) :
    Post C HK W F G H σ (RRe C F ρ σ H) r (fun v H1 => ∃ d s1 G1, Rel C HK F G1 ρ s1 σ H1 ∧ Sub G G1 ∧ Rep C G1 d v ∧ PostS C HK W F G1 N (k d s1)) := by
  cases r with
  | ok a s1 => exact fun b H1 G1 n q => ⟨a, s1, G1, rel.ext n, n.ext.sub, q, p.later n.ext.sub⟩
  | exc e s1 => exact fun cls dd H' G' n r => p cls dd σ H' G' (rel.ext n) n.ext.sub r
  | bad => exact p.elim
theorem sv_asg {f : E S} {is : List Nat} {u : Tg} (h : EV C HK X W e f) (hg : GV C HK X tg is u) (hs : swapsWithSole [tg] e pos.line X.env = pure false := by rfl) (hw : swappedStores [tg] e X.env = pure none := by rfl)
    (h1 : (assignEach [tg] X.env).map (·.2) = [assign tg X.env] := by rfl) : SV C HK X W (.Assign [tg] e pos) (gTgt u f) :=
  PS.of (ps_asg h hg hs hw h1) fun N σ H ⟨F, G, ρ, s, rel, p⟩ => ⟨F, G, ρ, s, rel, (PostS.expr rel p).imp' fun v H1 ⟨d, s1, G1, rel1, r1, p1⟩ => ⟨F, G1, ρ, s1, d, rel1, r1, by
    cases q : u d ρ with
    | none => rw [q] at p1; exact p1.elim
    | some ρ' => rw [q] at p1; exact fun σ' rel' _ => p1 σ' H1 G1 rel' Sub.refl⟩⟩
theorem sv_par {i j : Nat} {x y : PySem.Str} {a b : Expr} {f g : E S} {px py pt : Pos} {kt k2 : Nat} {pt2 : Pos} (hf : EV C HK X W a f) (hg : EV C HK X W b g) (hc : X.calm = true) (hN : X.N.Nodup) (hi : X.N[i]? = some x) (hj : X.N[j]? = some y) (hij : i ≠ j)
    (hx : X.env.scope.names.lookup x = some .local) (hy : X.env.scope.names.lookup y = some .local)
    (hw : swappedStores [.Tuple [.Name x px, .Name y py] kt pt] (.Tuple [a, b] k2 pt2) X.env = pure (some [x, y]))
    (hs : swapsWithSole [.Tuple [.Name x px, .Name y py] kt pt] (.Tuple [a, b] k2 pt2) pos.line X.env = pure false := by rfl)
    (he : starEach [a, b] X.env = (false, eval a X.env) :: starEach [b] X.env := by rfl) (he2 : starEach [b] X.env = (false, eval b X.env) :: starEach [] X.env := by rfl) :
    SV C HK X W (.Assign [.Tuple [.Name x px, .Name y py] kt pt] (.Tuple [a, b] k2 pt2) pos) (gPar i j f g) :=
  PS.of (ps_par hc hN hi hj hij hx hy (pa_cons hf (pa_cons hg pa_nil he2) he) hw hs) fun N σ H ⟨F, G, ρ, s, rel, p⟩ => ⟨F, G, ρ, s, rel, (PostS.expr rel p).imp' fun v H1 ⟨d, s1, G1, rel1, r1, p1⟩ => ⟨F, G1, ρ, s1, rel1, (PostS.exprS rel1 p1).imp' fun w H2 ⟨d2, s2, G2, rel2, x2, r2, p2⟩ =>
    ⟨v, w, rfl, p2 _ H2 G2 ((rel2.setV (Rep.mono x2 _ _ r1)).setV r2) Sub.refl⟩⟩⟩
theorem sv_aug {i : Nat} {x : PySem.Str} {f : E S} {op : Operator} {o : Int → Int → Int} {pos' : Pos} (h : EV C HK X W e f) (ho : PIp X op (ipI o)) (hN : X.N.Nodup) (hi : X.N[i]? = some x) (hx : Loc X.env.scope x) (hf : X.fn x = true ∨ X.env.scope.names.lookup x = some .local := by first | exact .inl rfl | exact .inr rfl | assumption) :
    SV C HK X W (.AugAssign (.Name x pos') op e pos) (gAug i o f) :=
  PS.of (ps_aug hN hi hx h ho hf) fun N σ H ⟨F, G, ρ, s, rel, p⟩ => by
    unfold gAug at p
    cases q : ρ[i]? with
    | none => rw [q] at p; exact p.elim
    | some lv =>
      rw [q] at p
      cases lv with
      | val d =>
        cases d with
        | int a =>
          dsimp only at p
          obtain ⟨v, e1, r⟩ := rel.slot i _ q
          cases r
          refine ⟨_, e1, F, G, ρ, s, rel, (PostS.expr rel p).imp' fun v H1 ⟨d, s1, G1, rel1, r1, p1⟩ => ?_⟩
          cases d with
          | int b =>
            cases r1
            exact ⟨_, _, rfl, rfl, p1 _ H1 G1 (rel1.setV (.int _)) Sub.refl⟩
          | _ => exact p1.elim
        | _ => exact p.elim
      | _ => exact p.elim
end
end Fx
set_option Elab.async false
set_option linter.all false
set_option autoImplicit false
set_option maxRecDepth 100000
/-! Fx, the words that the printed walks use. -/
namespace Fx
open PySem PySem.Spec PyProof.Rows L2
section
variable {S : Type} {C : CI} {HK : HandK S} {X : Cx} {W : WX} {e e2 e3 tg : Expr} {es : List Expr} {pos p p2 p3 p4 : Pos} {f g h : E S}
/-- what every context has -/
structure GX (X : Cx) : Prop where
  calm : X.calm = true
  hu : X.A.units + 65 < cLine
theorem GX.hu4 (q : GX X) : X.A.units + 64 < cLine := by have := q.hu; omega
theorem GX.of {k : Nat} (hc : X.calm = true) (r : Room k X.A) : GX X := ⟨hc, by have := r.un; omega⟩
theorem opR_or {fop : Value → Value → Sem Value} {r r' : R2} (a : OpR X fop r) (b : OpR X fop r') : OpR X fop (fun x y H Q => r x y H Q ∨ r' x y H Q) := by
  intro pins s σ H x y v u Q I r1 r2 h
  rcases h with h | h
  · exact a pins s σ H x y v u Q I r1 r2 h
  · exact b pins s σ H x y v u Q I r1 r2 h
/-! arithmetic -/
theorem b_add (hf : EB C HK X W e f) (hg : EB C HK X W e2 g) : EV C HK X W (.BinOp e .Add e2 pos) (eBin dAdd f g) := eb_bin (opR_or op_add op_catA) so_add hf hg
theorem b_sub (hf : EB C HK X W e f) (hg : EB C HK X W e2 g) : EV C HK X W (.BinOp e .Sub e2 pos) (eBin dSub f g) := eb_bin op_sub so_sub hf hg
theorem b_mul (hf : EB C HK X W e f) (hg : EB C HK X W e2 g) : EV C HK X W (.BinOp e .Mult e2 pos) (eBin dMul f g) := eb_bin op_mul so_mul hf hg
theorem b_fdiv (hf : EB C HK X W e f) (hg : EB C HK X W e2 g) : EV C HK X W (.BinOp e .FloorDiv e2 pos) (eBin dFdiv f g) := eb_bin op_fdiv so_fdiv hf hg
theorem b_mod (hf : EB C HK X W e f) (hg : EB C HK X W e2 g) : EV C HK X W (.BinOp e .Mod e2 pos) (eBin dMod f g) := eb_bin op_mod so_mod hf hg
theorem b_pow (hf : EB C HK X W e f) (hg : EB C HK X W e2 g) : EV C HK X W (.BinOp e .Pow e2 pos) (eBin dPow f g) := eb_bin op_pow so_pow hf hg
theorem b_shl (hf : EB C HK X W e f) (hg : EB C HK X W e2 g) : EV C HK X W (.BinOp e .LShift e2 pos) (eBin dShl f g) := eb_bin op_shl so_shl hf hg
/-! comparisons, as values and as tests -/
theorem c_eq (q : GX X) (hf : EB C HK X W e f) (hg : EB C HK X W e2 g) : EV C HK X W (.Compare e [.Eq] [e2] pos) (eBin dEq f g) := ev_cmp (op_eqD q.hu4) so_eq hf hg (nomark _)
theorem c_ne (q : GX X) (hf : EB C HK X W e f) (hg : EB C HK X W e2 g) : EV C HK X W (.Compare e [.NotEq] [e2] pos) (eBin dNe f g) := ev_cmp (op_neD q.hu4) so_ne hf hg (nomark _)
theorem c_lt (q : GX X) (hf : EB C HK X W e f) (hg : EB C HK X W e2 g) : EV C HK X W (.Compare e [.Lt] [e2] pos) (eBin dLt f g) := ev_cmp (op_ltX q.hu4) so_lt hf hg (nomark _)
theorem c_gt (hf : EB C HK X W e f) (hg : EB C HK X W e2 g) : EV C HK X W (.Compare e [.Gt] [e2] pos) (eBin dGt f g) := ev_cmp op_gt so_gt hf hg (nomark _)
theorem c_le (hf : EB C HK X W e f) (hg : EB C HK X W e2 g) : EV C HK X W (.Compare e [.LtE] [e2] pos) (eBin dLe f g) := ev_cmp op_le so_le hf hg (nomark _)
theorem c_ge (hf : EB C HK X W e f) (hg : EB C HK X W e2 g) : EV C HK X W (.Compare e [.GtE] [e2] pos) (eBin dGe f g) := ev_cmp op_ge so_ge hf hg (nomark _)
theorem c_in (q : GX X) (hf : EB C HK X W e f) (hg : EB C HK X W e2 g) (hm : behindInMarks .In e2 = false := by with_unfolding_all rfl) : EV C HK X W (.Compare e [.In] [e2] pos) (eBin dIn f g) := ev_cmp (op_inX q.hu) so_in hf hg hm
theorem c_ni (q : GX X) (hf : EB C HK X W e f) (hg : EB C HK X W e2 g) (hm : behindInMarks .NotIn e2 = false := by with_unfolding_all rfl) : EV C HK X W (.Compare e [.NotIn] [e2] pos) (eBin dNotIn f g) := ev_cmp (op_notInX q.hu) so_notIn hf hg hm
theorem t_eq (q : GX X) (hf : EB C HK X W e f) (hg : EB C HK X W e2 g) : TV C HK X W (.Compare e [.Eq] [e2] pos) (tVal (eBin dEq f g)) := tv_cmp (op_eqD q.hu4) so_eq hf hg (nomark _)
theorem t_ne (q : GX X) (hf : EB C HK X W e f) (hg : EB C HK X W e2 g) : TV C HK X W (.Compare e [.NotEq] [e2] pos) (tVal (eBin dNe f g)) := tv_cmp (op_neD q.hu4) so_ne hf hg (nomark _)
theorem t_lt (q : GX X) (hf : EB C HK X W e f) (hg : EB C HK X W e2 g) : TV C HK X W (.Compare e [.Lt] [e2] pos) (tVal (eBin dLt f g)) := tv_cmp (op_ltX q.hu4) so_lt hf hg (nomark _)
theorem t_gt (hf : EB C HK X W e f) (hg : EB C HK X W e2 g) : TV C HK X W (.Compare e [.Gt] [e2] pos) (tVal (eBin dGt f g)) := tv_cmp op_gt so_gt hf hg (nomark _)
theorem t_le (hf : EB C HK X W e f) (hg : EB C HK X W e2 g) : TV C HK X W (.Compare e [.LtE] [e2] pos) (tVal (eBin dLe f g)) := tv_cmp op_le so_le hf hg (nomark _)
theorem t_ge (hf : EB C HK X W e f) (hg : EB C HK X W e2 g) : TV C HK X W (.Compare e [.GtE] [e2] pos) (tVal (eBin dGe f g)) := tv_cmp op_ge so_ge hf hg (nomark _)
theorem t_in (q : GX X) (hf : EB C HK X W e f) (hg : EB C HK X W e2 g) (hm : behindInMarks .In e2 = false := by with_unfolding_all rfl) : TV C HK X W (.Compare e [.In] [e2] pos) (tVal (eBin dIn f g)) := tv_cmp (op_inX q.hu) so_in hf hg hm
theorem t_ni (q : GX X) (hf : EB C HK X W e f) (hg : EB C HK X W e2 g) (hm : behindInMarks .NotIn e2 = false := by with_unfolding_all rfl) : TV C HK X W (.Compare e [.NotIn] [e2] pos) (tVal (eBin dNotIn f g)) := tv_cmp (op_notInX q.hu) so_notIn hf hg hm
theorem c_lele (hf : EB C HK X W e f) (hg : EB C HK X W e2 g) (hh : EB C HK X W e3 h) (hm : lastMarks [CmpOp.LtE, CmpOp.LtE] [e2, e3] = false := by rfl) : EV C HK X W (.Compare e [.LtE, .LtE] [e2, e3] pos) (eChain dLe dLe f g h) := ev_chain op_le so_le op_le so_le hf hg hh hm
theorem c_lelt (q : GX X) (hf : EB C HK X W e f) (hg : EB C HK X W e2 g) (hh : EB C HK X W e3 h) (hm : lastMarks [CmpOp.LtE, CmpOp.Lt] [e2, e3] = false := by rfl) : EV C HK X W (.Compare e [.LtE, .Lt] [e2, e3] pos) (eChain dLe dLt f g h) := ev_chain op_le so_le (op_ltX q.hu4) so_lt hf hg hh hm
/-! builtins -/
theorem f_len (hm : X.mg "len" = none) (hf : EB C HK X W e f) (hg : Gl X "len" := by rfl) (he : starEach [e] X.env = (false, eval e X.env) :: starEach [] X.env := by rfl) (hpl : (backTo pos (starEach [] X.env)).any (·.1) = false := by rfl) : EV C HK X W (.Call (.Name "len" p) [e] [] pos) (eUn dLen f) :=
  ev_blt call_len_seq so_len hg hm boot_len hf (by decide) (by decide) he hpl
theorem f_any (q : GX X) (hm : X.mg "any" = none) (hf : EB C HK X W e f) (hg : Gl X "any" := by rfl) (he : starEach [e] X.env = (false, eval e X.env) :: starEach [] X.env := by rfl) (hpl : (backTo pos (starEach [] X.env)).any (·.1) = false := by rfl) : EV C HK X W (.Call (.Name "any" p) [e] [] pos) (eUn dAny f) :=
  ev_blt (cr_any q.calm) so_any hg hm (by kernel_rfl) hf (by decide) (by decide) he hpl
theorem f_all (q : GX X) (hm : X.mg "all" = none) (hf : EB C HK X W e f) (hg : Gl X "all" := by rfl) (he : starEach [e] X.env = (false, eval e X.env) :: starEach [] X.env := by rfl) (hpl : (backTo pos (starEach [] X.env)).any (·.1) = false := by rfl) : EV C HK X W (.Call (.Name "all" p) [e] [] pos) (eUn dAll f) :=
  ev_blt (cr_all q.calm) so_all hg hm (by kernel_rfl) hf (by decide) (by decide) he hpl
theorem f_sum (q : GX X) (hm : X.mg "sum" = none) (hf : EB C HK X W e f) (hg : Gl X "sum" := by rfl) (he : starEach [e] X.env = (false, eval e X.env) :: starEach [] X.env := by rfl) (hpl : (backTo pos (starEach [] X.env)).any (·.1) = false := by rfl) : EV C HK X W (.Call (.Name "sum" p) [e] [] pos) (eUn dSum f) :=
  ev_blt (cr_sumX q.calm) so_sum hg hm (by kernel_rfl) hf (by decide) (by decide) he hpl
theorem f_min (q : GX X) (hm : X.mg "min" = none) (hf : EB C HK X W e f) (hg : Gl X "min" := by rfl) (he : starEach [e] X.env = (false, eval e X.env) :: starEach [] X.env := by rfl) (hpl : (backTo pos (starEach [] X.env)).any (·.1) = false := by rfl) : EV C HK X W (.Call (.Name "min" p) [e] [] pos) (eUn dMinS f) :=
  ev_blt (cr_minX q.calm q.hu4) so_minS hg hm (by kernel_rfl) hf (by decide) (by decide) he hpl
theorem f_max (q : GX X) (hm : X.mg "max" = none) (hf : EB C HK X W e f) (hg : Gl X "max" := by rfl) (he : starEach [e] X.env = (false, eval e X.env) :: starEach [] X.env := by rfl) (hpl : (backTo pos (starEach [] X.env)).any (·.1) = false := by rfl) : EV C HK X W (.Call (.Name "max" p) [e] [] pos) (eUn dMaxS f) :=
  ev_blt (cr_maxX q.calm q.hu4) so_maxS hg hm (by kernel_rfl) hf (by decide) (by decide) he hpl
theorem f_min2 (q : GX X) (hm : X.mg "min" = none) (hf : EB C HK X W e f) (hf2 : EB C HK X W e2 g) (hg : Gl X "min" := by rfl) (he : starEach [e, e2] X.env = (false, eval e X.env) :: starEach [e2] X.env := by rfl) (he2 : starEach [e2] X.env = (false, eval e2 X.env) :: starEach [] X.env := by rfl) (hpl : (backTo pos (starEach [e2] X.env)).any (·.1) = false := by rfl) : EV C HK X W (.Call (.Name "min" p) [e, e2] [] pos) (eBin dMin2 f g) :=
  ev_blt2 (call_min2 q.calm) so_min2 hg hm (by kernel_rfl) hf hf2 (by decide) (by decide) he he2 hpl
theorem f_max2 (q : GX X) (hm : X.mg "max" = none) (hf : EB C HK X W e f) (hf2 : EB C HK X W e2 g) (hg : Gl X "max" := by rfl) (he : starEach [e, e2] X.env = (false, eval e X.env) :: starEach [e2] X.env := by rfl) (he2 : starEach [e2] X.env = (false, eval e2 X.env) :: starEach [] X.env := by rfl) (hpl : (backTo pos (starEach [e2] X.env)).any (·.1) = false := by rfl) : EV C HK X W (.Call (.Name "max" p) [e, e2] [] pos) (eBin dMax2 f g) :=
  ev_blt2 (call_max2 q.calm) so_max2 hg hm (by kernel_rfl) hf hf2 (by decide) (by decide) he he2 hpl
theorem f_abs (hm : X.mg "abs" = none) (hf : EB C HK X W e f) (hg : Gl X "abs" := by rfl) (he : starEach [e] X.env = (false, eval e X.env) :: starEach [] X.env := by rfl) (hpl : (backTo pos (starEach [] X.env)).any (·.1) = false := by rfl) : EV C HK X W (.Call (.Name "abs" p) [e] [] pos) (eUn dAbs f) :=
  ev_blt call_abs so_abs hg hm (by kernel_rfl) hf (by decide) (by decide) he hpl
theorem f_int (hm : X.mg "int" = none) (hf : EB C HK X W e f) (hg : Gl X "int" := by rfl) (he : starEach [e] X.env = (false, eval e X.env) :: starEach [] X.env := by rfl) (hpl : (backTo pos (starEach [] X.env)).any (·.1) = false := by rfl) : EV C HK X W (.Call (.Name "int" p) [e] [] pos) (eUn dInt f) :=
  ev_bty call_int1 so_int hg hm (by kernel_rfl) hf (by decide) (by decide) he hpl
theorem f_tuple (hm : X.mg "tuple" = none) (hf : EB C HK X W e f) (hg : Gl X "tuple" := by rfl) (he : starEach [e] X.env = (false, eval e X.env) :: starEach [] X.env := by rfl) (hpl : (backTo pos (starEach [] X.env)).any (·.1) = false := by rfl) : EV C HK X W (.Call (.Name "tuple" p) [e] [] pos) (eUn dTuple f) :=
  ev_bty call_tuple_of so_tuple hg hm (by kernel_rfl) hf (by decide) (by decide) he hpl
theorem f_list (hm : X.mg "list" = none) (hf : EB C HK X W e f) (hg : Gl X "list" := by rfl) (he : starEach [e] X.env = (false, eval e X.env) :: starEach [] X.env := by rfl) (hpl : (backTo pos (starEach [] X.env)).any (·.1) = false := by rfl) : EF C HK X W (.Call (.Name "list" p) [e] [] pos) (fUn dLs f) :=
  ef_bty call_list_of so_list hg hm (by kernel_rfl) hf (by decide) (by decide) he hpl
theorem f_sorted (q : GX X) (hm : X.mg "sorted" = none) (hf : EB C HK X W e f) (hg : Gl X "sorted" := by rfl) (he : starEach [e] X.env = (false, eval e X.env) :: starEach [] X.env := by rfl) (hpl : (backTo pos (starEach [] X.env)).any (·.1) = false := by rfl) : EF C HK X W (.Call (.Name "sorted" p) [e] [] pos) (fUn dSorted f) :=
  ef_blt (cr_sortX q.hu4) so_sorted hg hm (by kernel_rfl) hf (by decide) (by decide) he hpl
/-! x[::-1], x.count(y) -/
theorem v_rev {k : Nat} {p1 : Pos} (hf : EB C HK X W e f) : EV C HK X W (.Subscript e (.Slice none none (some (.UnaryOp .USub (.Constant (.int 1) k p1) p2)) p3) pos) (eUn dRevT f) := ev_revT (p4 := pos) hf
theorem v_count {apos cpos : Pos} (q : GX X) (hf : EB C HK X W e f) (hg : EB C HK X W e2 g)
    (hbase : attributeBase e "count" X.env (eval e X.env) = eval e X.env := by rfl)
    (hfew : ((backTo cpos (starEach [e2] X.env)).all (fun x => !x.1) && (backToKw cpos (keywordEach [] X.env)).all (fun x => x.1.isSome)
      && decide ([e2].length + ([] : List Keyword).length + (if ([] : List Keyword).isEmpty then 0 else 1) < 30)) = true := by rfl)
    (hline : (apos.endLine == cpos.line) = true := by rfl) (hs : starEach [e2] X.env = (false, eval e2 X.env) :: starEach [] X.env := by rfl) (hplain : (backTo cpos (starEach [] X.env)).any (·.1) = false := by rfl) :
    EV C HK X W (.Call (.Attribute e "count" apos) [e2] [] cpos) (eMl dCountL f g) := ev_countL (pa := PySem.F.plainAttrs_list) PySem.F.slot_list_count q.hu hf hg hbase hfew hline hs hplain
theorem v_rep {q1 q2 q3 q4 : Pos} (hm : X.mg "repr" = none) (hf : EB C HK X W e f) (hg : EB C HK X W e2 g) (hg1 : Gl X "repr" := by rfl)
    (he : starEach [e] X.env = (false, eval e X.env) :: starEach [] X.env := by rfl) (he2 : starEach [e2] X.env = (false, eval e2 X.env) :: starEach [] X.env := by rfl) :
    EV C HK X W (.Compare (.Call (.Name "repr" q1) [e] [] q2) [.Eq] [.Call (.Name "repr" q3) [e2] [] q4] pos) (eRepI f g) := ev_repI hg1 hm (by kernel_rfl) hf hg (he := he) (he2 := he2)
/-! contexts, the text's globals -/
theorem GX.blk (q : GX X) {s : Shared} {H : Hp} {scope : Scope} {ce : PySem.Env} {fp : List Addr} : GX (X.blk s H scope ce fp) := ⟨q.calm, q.hu⟩
theorem GX.tr (q : GX X) {pn : List (Addr × Obj)} {xe : Value → Shared → Prop} : GX (X.tr pn xe) := ⟨q.calm, q.hu⟩
theorem ev_gint {x : PySem.Str} {i : Int} (hm : ∃ t, X.mg x = some (.int i t)) (hg : Gl X x := by rfl) (hd : (x == ("__debug__" : PySem.Str)) = false := by decide) : EV C HK X W (.Name x pos) (eC (.int i)) := by
  obtain ⟨t, hm⟩ := hm
  exact ev_glob (v := .int i) hg hm ⟨t, rfl⟩ (fun _ => .int _) hd
theorem ev_gstr {x z : PySem.Str} {y : List Nat} (hm : ∃ t, X.mg x = some (.str z t)) (hz : z = ⟨y.toArray⟩) (hg : Gl X x := by rfl) (hd : (x == ("__debug__" : PySem.Str)) = false := by decide) : EV C HK X W (.Name x pos) (eC (.str y)) := by
  obtain ⟨t, hm⟩ := hm
  exact ev_glob (v := .str z) hg hm ⟨t, rfl⟩ (fun _ => by rw [hz]; exact .str _) hd
/-! classes, isinstance -/
structure ClsAll (C : CI) (K : PySem.W.Frag) : Prop where
  t : ∀ c cl, C.cA c = some cl → ClsT K cl
  b : ∀ (ty : Ty) c cl, C.cA c = some cl → PySem.W.kitOne K (.ref cl) (.type ty.nm) = some false
theorem f_isT (ty : Ty) {x : PySem.Str} (ca : ClsAll C X.K) (hm : X.mg "isinstance" = none) (hx : X.mg x = none) (hf : EB C HK X W e f) (hv : bootBuiltins x = some (.type ty.nm)) (hn : x ≠ "__name__") (hd : (x == ("__debug__" : PySem.Str)) = false) (hgx : Gl X x) (hg : Gl X "isinstance")
    (he : starEach [e, .Name x p2] X.env = (false, eval e X.env) :: starEach [.Name x p2] X.env) (he2 : starEach [.Name x p2] X.env = (false, eval (.Name x p2) X.env) :: starEach [] X.env) (hpl : (backTo pos (starEach [.Name x p2] X.env)).any (·.1) = false) :
    EV C HK X W (.Call (.Name "isinstance" p) [e, .Name x p2] [] pos) (eUn (dIsTy ty) f) :=
  ev_isX ca.t (pe_bltn (v := .ty ty.nm) hgx hx hv rfl hn hd) (.ty ty.nm) (kitF_ty ty (ca.b ty)) hg hm (by kernel_rfl) hf (by decide) (by decide) he he2 hpl
theorem f_is_int (ca : ClsAll C X.K) (hm : X.mg "isinstance" = none) (hx : X.mg "int" = none) (hf : EB C HK X W e f) (hgx : Gl X "int" := by rfl) (hg : Gl X "isinstance" := by rfl) (he : starEach [e, .Name "int" p2] X.env = (false, eval e X.env) :: starEach [.Name "int" p2] X.env := by rfl) (he2 : starEach [.Name "int" p2] X.env = (false, eval (.Name "int" p2) X.env) :: starEach [] X.env := by rfl) (hpl : (backTo pos (starEach [.Name "int" p2] X.env)).any (·.1) = false := by rfl) : EV C HK X W (.Call (.Name "isinstance" p) [e, .Name "int" p2] [] pos) (eUn (dIsTy .int) f) := f_isT .int ca hm hx hf (by kernel_rfl) (by decide) (by decide) hgx hg he he2 hpl
theorem f_is_bool (ca : ClsAll C X.K) (hm : X.mg "isinstance" = none) (hx : X.mg "bool" = none) (hf : EB C HK X W e f) (hgx : Gl X "bool" := by rfl) (hg : Gl X "isinstance" := by rfl) (he : starEach [e, .Name "bool" p2] X.env = (false, eval e X.env) :: starEach [.Name "bool" p2] X.env := by rfl) (he2 : starEach [.Name "bool" p2] X.env = (false, eval (.Name "bool" p2) X.env) :: starEach [] X.env := by rfl) (hpl : (backTo pos (starEach [.Name "bool" p2] X.env)).any (·.1) = false := by rfl) : EV C HK X W (.Call (.Name "isinstance" p) [e, .Name "bool" p2] [] pos) (eUn (dIsTy .bool) f) := f_isT .bool ca hm hx hf (by kernel_rfl) (by decide) (by decide) hgx hg he he2 hpl
theorem f_is_tuple (ca : ClsAll C X.K) (hm : X.mg "isinstance" = none) (hx : X.mg "tuple" = none) (hf : EB C HK X W e f) (hgx : Gl X "tuple" := by rfl) (hg : Gl X "isinstance" := by rfl) (he : starEach [e, .Name "tuple" p2] X.env = (false, eval e X.env) :: starEach [.Name "tuple" p2] X.env := by rfl) (he2 : starEach [.Name "tuple" p2] X.env = (false, eval (.Name "tuple" p2) X.env) :: starEach [] X.env := by rfl) (hpl : (backTo pos (starEach [.Name "tuple" p2] X.env)).any (·.1) = false := by rfl) : EV C HK X W (.Call (.Name "isinstance" p) [e, .Name "tuple" p2] [] pos) (eUn (dIsTy .tuple) f) := f_isT .tuple ca hm hx hf (by kernel_rfl) (by decide) (by decide) hgx hg he he2 hpl
theorem f_is_list (ca : ClsAll C X.K) (hm : X.mg "isinstance" = none) (hx : X.mg "list" = none) (hf : EB C HK X W e f) (hgx : Gl X "list" := by rfl) (hg : Gl X "isinstance" := by rfl) (he : starEach [e, .Name "list" p2] X.env = (false, eval e X.env) :: starEach [.Name "list" p2] X.env := by rfl) (he2 : starEach [.Name "list" p2] X.env = (false, eval (.Name "list" p2) X.env) :: starEach [] X.env := by rfl) (hpl : (backTo pos (starEach [.Name "list" p2] X.env)).any (·.1) = false := by rfl) : EV C HK X W (.Call (.Name "isinstance" p) [e, .Name "list" p2] [] pos) (eUn (dIsTy .list) f) := f_isT .list ca hm hx hf (by kernel_rfl) (by decide) (by decide) hgx hg he he2 hpl
theorem f_is_str (ca : ClsAll C X.K) (hm : X.mg "isinstance" = none) (hx : X.mg "str" = none) (hf : EB C HK X W e f) (hgx : Gl X "str" := by rfl) (hg : Gl X "isinstance" := by rfl) (he : starEach [e, .Name "str" p2] X.env = (false, eval e X.env) :: starEach [.Name "str" p2] X.env := by rfl) (he2 : starEach [.Name "str" p2] X.env = (false, eval (.Name "str" p2) X.env) :: starEach [] X.env := by rfl) (hpl : (backTo pos (starEach [.Name "str" p2] X.env)).any (·.1) = false := by rfl) : EV C HK X W (.Call (.Name "isinstance" p) [e, .Name "str" p2] [] pos) (eUn (dIsTy .str) f) := f_isT .str ca hm hx hf (by kernel_rfl) (by decide) (by decide) hgx hg he he2 hpl
theorem f_is_dict (ca : ClsAll C X.K) (hm : X.mg "isinstance" = none) (hx : X.mg "dict" = none) (hf : EB C HK X W e f) (hgx : Gl X "dict" := by rfl) (hg : Gl X "isinstance" := by rfl) (he : starEach [e, .Name "dict" p2] X.env = (false, eval e X.env) :: starEach [.Name "dict" p2] X.env := by rfl) (he2 : starEach [.Name "dict" p2] X.env = (false, eval (.Name "dict" p2) X.env) :: starEach [] X.env := by rfl) (hpl : (backTo pos (starEach [.Name "dict" p2] X.env)).any (·.1) = false := by rfl) : EV C HK X W (.Call (.Name "isinstance" p) [e, .Name "dict" p2] [] pos) (eUn (dIsTy .dict) f) := f_isT .dict ca hm hx hf (by kernel_rfl) (by decide) (by decide) hgx hg he he2 hpl
end
/-! defs as the head tells them -/
structure DF (K : PySem.W.Frag) (mg : PySem.Str → Option Value) (x : PySem.Str) (st : Stmt) (ps : List PySem.Str) : Prop where
  ex : ∃ f fd, L2.Fun K x x st f fd ∧ mg x = some (.ref f) ∧ L2.Binds K fd ps []
theorem cal_of {P : Program} {w : World} {K : PySem.W.Frag} {mg : PySem.Str → Option Value} {base : Heap} {k : Nat} {x : PySem.Str} {st : Stmt} {ps : List PySem.Str} {sp : Sp} (d : DF K mg x st ps) (ok : ∀ f fd, L2.Fun K x x st f fd → FnOk P w K mg base (L2.CX P w) k f fd ps sp) : Cal P w K mg base k x sp := by
  obtain ⟨f, fd, h1, h2, h3⟩ := d.ex
  exact ⟨f, fd, ps, ok f fd h1, h2, h1.kp, h3⟩
end Fx
set_option Elab.async false
set_option linter.all false
set_option autoImplicit false
set_option maxRecDepth 100000
/-! Fx, the law's hand: a list of the cells, a place, what is left of a great one, a mix, a count. -/
namespace Fx
open PySem PySem.Spec PyProof.Rows L2 LamX
structure Hd where
  cells : List Int
  at_ : Int
  left : Int
  mix : Int
  cnt : Int
def Hd.get (h : Hd) : Nat → Option Int
  | 1 => some h.at_
  | 2 => some h.left
  | 3 => some h.mix
  | 4 => some h.cnt
  | _ => none
def Hd.put (h : Hd) (j : Nat) (z : Int) : Option Hd := match j with
  | 1 => some { h with at_ := z }
  | 2 => some { h with left := z }
  | 3 => some { h with mix := z }
  | 4 => some { h with cnt := z }
  | _ => none
def Hd.row (h : Hd) (ca : Addr) : List V := [.ref ca, .int h.at_, .int h.left, .int h.mix, .int h.cnt]
def handAt (T : List (Addr × PySem.Str)) (s : Hd) (HA : List Addr) (H : Hp) : Prop :=
  ∃ ha ca, HA = ha :: ca :: T.map (·.1) ∧ ha ≠ ca ∧ ha ∉ T.map (·.1) ∧ ca ∉ T.map (·.1) ∧ H ha = some (.lst (s.row ca)) ∧ H ca = some (.lst (s.cells.map V.int)) ∧ Tabs T H
def handK (T : List (Addr × PySem.Str)) : HandK Hd where
  at_ := handAt T
  loc := fun s HA H H' ⟨ha, ca, e, n1, n2, n3, h1, h2, t⟩ h hc => ⟨ha, ca, e, n1, n2, n3, by rw [h ha (by rw [e]; simp)]; exact h1, by rw [h ca (by rw [e]; simp)]; exact h2, fun p hp => by
    obtain ⟨ps, h1, h2, h3⟩ := t p hp
    have hm : p.1 ∈ HA := by rw [e]; exact List.mem_cons_of_mem _ (List.mem_cons_of_mem _ (List.mem_map.mpr ⟨p, hp, rfl⟩))
    refine ⟨ps, by rw [h _ hm]; exact h1, h2, fun pos cv hcv => ?_⟩
    obtain ⟨c, e1, e2⟩ := h3 pos cv hcv
    exact ⟨c, e1, hc _ _ e2⟩⟩
  trk := fun s HA H ⟨ha, ca, e, n1, n2, n3, h1, h2, t⟩ a hm => by
    rw [e] at hm
    rcases List.mem_cons.mp hm with rfl | hm
    · exact ⟨_, h1⟩
    · rcases List.mem_cons.mp hm with rfl | hm
      · exact ⟨_, h2⟩
      · obtain ⟨p, hp, e⟩ := List.mem_map.mp hm
        obtain ⟨ps, h1, _⟩ := t p hp
        exact ⟨_, by rw [← e]; exact h1⟩
theorem tabK_hand (T : List (Addr × PySem.Str)) : TabK T (handK T) where
  tab := fun s HA H ⟨ha, ca, e, _, _, _, _, _, t⟩ => ⟨t, fun p hp => by rw [e]; exact List.mem_cons_of_mem _ (List.mem_cons_of_mem _ (List.mem_map.mpr ⟨p, hp, rfl⟩))⟩
  up := fun s HA H H' ⟨ha, ca, e, n1, n2, n3, h1, h2, _⟩ k t => ⟨ha, ca, e, n1, n2, n3, by rw [k ha (by rw [e]; simp) n2]; exact h1, by rw [k ca (by rw [e]; simp) n3]; exact h2, t⟩
  nc := fun s HA H c q ⟨ha, ca, e, n1, n2, n3, h1, h2, t⟩ z hc => by
    rw [e] at hc
    rcases List.mem_cons.mp hc with rfl | hc
    · rw [z] at h1; cases h1
    · rcases List.mem_cons.mp hc with rfl | hc
      · rw [z] at h2; cases h2
      · obtain ⟨p, hp, e⟩ := List.mem_map.mp hc
        obtain ⟨ps, h1, _⟩ := t p hp
        rw [e, z] at h1
        cases h1
def eHg (i j : Nat) : E Hd := fun ρ s => match ρ[i]? with
  | some .hnd => R.opt ((s.get j).map D.int) s
  | _ => .bad
def eHlen (i : Nat) : E Hd := fun ρ s => match ρ[i]? with
  | some .hnd => .ok (.int s.cells.length) s
  | _ => .bad
def eHcell (i : Nat) (f : E Hd) : E Hd := fun ρ s => match ρ[i]? with
  | some .hnd => (f ρ s).bind fun d s => match d with
    | .int z => R.opt (((ixD s.cells.length z).bind fun j => s.cells[j]?).map D.int) s
    | _ => .bad
  | _ => .bad
def gHput (i j : Nat) (f : E Hd) : Gs Hd := fun ρ s => match ρ[i]? with
  | some .hnd => sEnd (f ρ s) ρ fun d s => match d with
    | .int z => (match s.put j z with
      | some s' => .nx ρ s'
      | none => .bad)
    | _ => .bad
  | _ => .bad
section
variable {T : List (Addr × PySem.Str)} {C : CI} {X : Cx} {W : WX} {e e2 e3 tg : Expr} {es : List Expr} {pos p p1 p2 p3 p4 : Pos} {f g h : E Hd} {i : Nat} {x : PySem.Str}
theorem ev_hg {j k : Nat} (hv : PE X (.Name x p1) (tVar i)) (hp : PlainIx (.Constant (.int j) k p2)) : EV C (handK T) X W (.Subscript (.Name x p1) (.Constant (.int j) k p2) pos) (eHg i j) :=
  PE.of (pe_ix ix_list hv pe_int hp) fun σ H Q ⟨F, G, ρ, s, rel, p⟩ => by
    unfold eHg at p
    cases q : ρ[i]? with
    | none => rw [q] at p; exact p.elim
    | some lv =>
      rw [q] at p
      cases lv with
      | hnd =>
        dsimp only at p
        obtain ⟨a, e1, e2⟩ := rel.slot i _ q
        obtain ⟨ha, ca, e, n1, n2, n3, h1, h2, t⟩ := rel.hand
        rw [e] at e2
        cases e2
        cases z : s.get j with
        | none => rw [z] at p; exact p.elim
        | some v =>
          rw [z] at p
          have hj : atI (s.row ca) (j : Int) = some (.int v) := by
            match j, z with
            | 1, z => cases z; rfl
            | 2, z => cases z; rfl
            | 3, z => cases z; rfl
            | 4, z => cases z; rfl
          exact ⟨_, e1, a, _, j, _, rfl, rfl, SqL.of h1, hj, Post.here rel p (.int _)⟩
      | _ => exact p.elim
theorem pe_hcells {k : Nat} (hv : PE X (.Name x p1) (tVar i)) (hp : PlainIx (.Constant (.int 0) k p2)) : PE X (.Subscript (.Name x p1) (.Constant (.int 0) k p2) pos) (tOp (rIxL X.K) (tVar i) (tC (.int 0))) := pe_ix ix_list hv pe_int hp
/-- len(hand[0]) -/
theorem ev_hlen {k : Nat} {p5 : Pos} (hv : PE X (.Name x p1) (tVar i)) (hm : X.mg "len" = none) (hp : PlainIx (.Constant (.int 0) k p2)) (hg : Gl X "len" := by rfl)
    (he : starEach [.Subscript (.Name x p1) (.Constant (.int 0) k p2) p3] X.env = (false, eval (.Subscript (.Name x p1) (.Constant (.int 0) k p2) p3) X.env) :: starEach [] X.env := by rfl) (hpl : (backTo p5 (starEach [] X.env)).any (·.1) = false := by rfl) :
    EV C (handK T) X W (.Call (.Name "len" p4) [.Subscript (.Name x p1) (.Constant (.int 0) k p2) p3] [] p5) (eHlen i) :=
  PE.of (pe_callB call_len_seq hg hm boot_len (pa_cons (pe_hcells hv hp) pa_nil he) (by decide) (by decide) he hpl) fun σ H Q ⟨F, G, ρ, s, rel, p⟩ => by
    unfold eHlen at p
    cases q : ρ[i]? with
    | none => rw [q] at p; exact p.elim
    | some lv =>
      rw [q] at p
      cases lv with
      | hnd =>
        dsimp only at p
        obtain ⟨a, e1, e2⟩ := rel.slot i _ q
        obtain ⟨ha, ca, e, n1, n2, n3, h1, h2, t⟩ := rel.hand
        rw [e] at e2
        cases e2
        refine ⟨_, e1, a, _, 0, _, rfl, rfl, SqL.of h1, rfl, ca, _, rfl, .inl (SqL.of h2), ?_⟩
        rw [List.length_map]
        exact Post.here rel p (.int _)
      | _ => exact p.elim
/-- hand[0][e] -/
theorem ev_hcell {k : Nat} (hv : PE X (.Name x p1) (tVar i)) (hp : PlainIx (.Constant (.int 0) k p2)) (hf : EV C (handK T) X W e f) (hp2 : PlainIx e) :
    EV C (handK T) X W (.Subscript (.Subscript (.Name x p1) (.Constant (.int 0) k p2) p3) e pos) (eHcell i f) :=
  PE.of (pe_ix ix_list (pe_hcells hv hp) hf hp2) fun σ H Q ⟨F, G, ρ, s, rel, p⟩ => by
    unfold eHcell at p
    cases q : ρ[i]? with
    | none => rw [q] at p; exact p.elim
    | some lv =>
      rw [q] at p
      cases lv with
      | hnd =>
        dsimp only at p
        obtain ⟨a, e1, e2⟩ := rel.slot i _ q
        obtain ⟨ha, ca, e, n1, n2, n3, h1, h2, t⟩ := rel.hand
        rw [e] at e2
        cases e2
        refine ⟨_, e1, a, _, 0, _, rfl, rfl, SqL.of h1, rfl, F, G, ρ, s, rel, (Post.step (RR := RRe C F ρ σ H) rel p).imp' fun v H1 ⟨d, s1, G1, rel1, x1, r1, p1⟩ => ?_⟩
        cases d with
        | int z =>
          cases r1
          dsimp only at p1
          obtain ⟨ha', ca', e', n1', n2', n3', h1', h2', t'⟩ := rel1.hand
          have hc : ca' = ca := by
            rw [e] at e'
            exact (List.cons.inj (List.cons.inj e').2).1.symm
          subst hc
          cases z1 : ixD s1.cells.length z with
          | none => rw [z1] at p1; exact p1.elim
          | some j =>
            rw [z1] at p1
            dsimp only [Option.bind] at p1
            cases z2 : s1.cells[j]? with
            | none => rw [z2] at p1; exact p1.elim
            | some c =>
              rw [z2] at p1
              exact ⟨ca', _, z, _, rfl, rfl, SqL.of h2', ixD_at (by rw [List.length_map]; exact z1) (by rw [List.getElem?_map, z2]; rfl), Post.here rel1 p1 (.int _)⟩
        | _ => exact p1.elim
      | _ => exact p.elim
/-- hand[j] = e -/
theorem sv_hput {j k : Nat} (hv : PE X (.Name x p1) (tVar i)) (hf : EV C (handK T) X W e f)
    (hs : swapsWithSole [.Subscript (.Name x p1) (.Constant (.int j) k p2) p3] e pos.line X.env = pure false := by rfl) (hw : swappedStores [.Subscript (.Name x p1) (.Constant (.int j) k p2) p3] e X.env = pure none := by rfl)
    (h1 : (assignEach [.Subscript (.Name x p1) (.Constant (.int j) k p2) p3] X.env).map (·.2) = [assign (.Subscript (.Name x p1) (.Constant (.int j) k p2) p3) X.env] := by rfl)
    (ha : ∀ v, assign (.Subscript (.Name x p1) (.Constant (.int j) k p2) p3) X.env v = (do
      let ov ← holding [v] (eval (.Name x p1) X.env)
      let iv ← holding [v, ov] (eval (.Constant (.int j) k p2) X.env)
      standAt p3
      holding [v, ov, iv] (setItem ov iv v)
      release [v, ov, iv] []) := by intro _; rfl) :
    SV C (handK T) X W (.Assign [.Subscript (.Name x p1) (.Constant (.int j) k p2) p3] e pos) (gHput i j f) :=
  PS.of (ps_asg hf (pg_sub hv pe_int set_list ha) hs hw h1) fun N σ H ⟨F, G, ρ, s, rel, p⟩ => by
    unfold gHput at p
    cases q : ρ[i]? with
    | none => rw [q] at p; exact p.elim
    | some lv =>
      rw [q] at p
      cases lv with
      | hnd =>
        dsimp only at p
        obtain ⟨a, e1, e2⟩ := rel.slot i _ q
        refine ⟨F, G, ρ, s, rel, (PostS.expr rel p).imp' fun v H1 ⟨d, s1, G1, rel1, r1, p1⟩ => ?_⟩
        cases d with
        | int z =>
          cases r1
          dsimp only at p1
          cases z1 : s1.put j z with
          | none => rw [z1] at p1; exact p1.elim
          | some s2 =>
            rw [z1] at p1
            obtain ⟨ha', ca', e', n1', n2', n3', h1', h2', t'⟩ := rel1.hand
            rw [e'] at e2
            cases e2
            have hj : ixN (s1.row ca').length (j : Int) = some j ∧ (s1.row ca').set j (.int z) = s2.row ca' ∧ s2.cells = s1.cells := by
              match j, z1 with
              | 1, z1 => cases z1; exact ⟨rfl, rfl, rfl⟩
              | 2, z1 => cases z1; exact ⟨rfl, rfl, rfl⟩
              | 3, z1 => cases z1; exact ⟨rfl, rfl, rfl⟩
              | 4, z1 => cases z1; exact ⟨rfl, rfl, rfl⟩
            have hne : ∀ b u, H1 b = some u → b ∉ F.HA → b ≠ a := fun b u _ n z => n (by rw [z, e']; exact List.mem_cons_self ..)
            refine ⟨_, e1, a, _, j, j, rfl, rfl, h1', hj.1, ?_⟩
            rw [hj.2.1]
            refine p1 σ _ G1 ⟨rel1.len, fun i' lv' e0 => ?_, rel1.sep, fun b u z => ?_, rel1.off, rel1.g0, rel1.gnew, fun b u z m => ?_, ⟨a, ca', e', n1', n2', n3', upd_same, ?_, ?_⟩⟩ Sub.refl
            · have y := rel1.slot i' lv' e0
              cases lv' with
              | un => trivial
              | exn _ => exact y
              | val d => exact y
              | own l =>
                obtain ⟨b, vs, q1, q2, q3, q4, q5, q6⟩ := y
                exact ⟨b, vs, q1, by rw [upd_ne (hne _ _ q2 q6)]; exact q2, q3, q4, q5, q6⟩
              | ownd l =>
                obtain ⟨b, vs, q1, q2, q3, q4, q5, q6⟩ := y
                exact ⟨b, vs, q1, by rw [upd_ne (hne _ _ q2 q6)]; exact q2, q3, q4, q5, q6⟩
              | slf c fs =>
                obtain ⟨b, vs, q1, q2, q3, q4, q5, q6⟩ := y
                exact ⟨b, vs, q1, by rw [upd_ne (hne _ _ q2 q6.1)]; exact q2, q3, q4, q5, q6⟩
              | hnd => exact y
              | fnn => exact y
            · have w := rel1.le b u z
              rw [upd_ne (hne _ _ w (rel1.off b u z))]; exact w
            · have w := rel1.fr b u z m
              rw [upd_ne (hne _ _ w m)]; exact w
            · rw [upd_ne (Ne.symm n1'), hj.2.2]; exact h2'
            · intro p hp
              obtain ⟨ps, w1, w2, w3⟩ := t' p hp
              refine ⟨ps, by rw [upd_ne (fun z => n2' (by rw [← z]; exact List.mem_map.mpr ⟨p, hp, rfl⟩))]; exact w1, w2, fun pos cv hcv => ?_⟩
              obtain ⟨c, y1, y2⟩ := w3 pos cv hcv
              refine ⟨c, y1, ?_⟩
              rw [upd_ne (fun z => by rw [z, h1'] at y2; cases y2)]; exact y2
        | _ => exact p1.elim
      | _ => exact p.elim
end
end Fx
set_option Elab.async false
set_option linter.all false
set_option autoImplicit false
set_option maxRecDepth 100000
set_option maxHeartbeats 1000000
/-! Fx: a comprehension with two fors. -/
namespace Fx
open PySem PySem.Spec PyProof.Rows L2
section
variable {S : Type}
def lc2L (tg : Tg) (t : T S) (w1 : As S) (own1 : List Nat) (tg1 : Tg) (t1 : T S) (f : E S) (ρ : Env) : List D → List D → S → R S (List D)
  | [], acc, s => .ok acc s
  | d :: ds, acc, s => match tg d ρ with
    | none => .bad
    | some ρ1 => match t ρ1 s with
      | .ok true s => (match w1 ρ1 s with
        | .ok l s => (match lcL tg1 t1 f (wipeE ρ1 own1) l acc s with
          | .ok acc s => lc2L tg t w1 own1 tg1 t1 f ρ ds acc s
          | _ => .bad)
        | _ => .bad)
      | .ok false s => lc2L tg t w1 own1 tg1 t1 f ρ ds acc s
      | _ => .bad
def fLc2 (w : As S) (own : List Nat) (tg : Tg) (t : T S) (w1 : As S) (own1 : List Nat) (tg1 : Tg) (t1 : T S) (f : E S) : As S := fun ρ s => (w ρ s).bind fun l s => lc2L tg t w1 own1 tg1 t1 f (wipeE ρ own) l [] s
/-- a target stores values only -/
def TgOk (u : Tg) (is : List Nat) : Prop := ∀ d ρ ρ', u d ρ = some ρ' → ∀ (j : Nat) (lv : LV), ρ'[j]? = some lv → lv.isOwn = true → j ∉ is ∧ ρ[j]? = some lv
theorem tgok_n (i : Nat) : TgOk (tgN i) [i] := fun d ρ ρ' h j lv e o => by
  cases h
  rcases set_at e with ⟨rfl, rfl⟩ | ⟨ne, e⟩
  · cases o
  · exact ⟨by simpa using ne, e⟩
end
section
variable {S : Type} {C : CI} {HK : HandK S} {X : Cx} {W : WX} {e e2 e3 tg tg1 it1 : Expr} {pos : Pos}
theorem lc2_read {F : Fix} {G H : Hp} {ρ : Env} {s : S} {σ : L2.St} {Q : VK} {w w1 : As S} {own is own1 is1 : List Nat} {u u1 : Tg} {t t1 : T S} {f : E S} (rel : Rel C HK F G ρ s σ H) (sub : ∀ j ∈ is, j ∈ own) (sub1 : ∀ j ∈ is1, j ∈ own1) (ok : TgOk u is) (p : Post C HK W F G H σ (RRf C F ρ σ H) (fLc2 w own u t w1 own1 u1 t1 f ρ s) Q) :
    tLc2 (tIB C HK W w) (tG C HK is u) (tT C HK W0 t) (tIV C HK W0 w1) (tG C HK is1 u1) (tT C HK W0 t1) (tE C HK W0 f) own own1 σ H Q := by
  refine ⟨F, G, ρ, s, rel, (Post.step (RR := RRj C HK F ρ σ H) rel p).imp' fun J H1 ⟨l, s1, G1, rel1, x1, it, p1⟩ D hD => ?_⟩
  obtain ⟨hD0, hDA, hDG⟩ := rel1.h0 hD
  have noD : ∀ i, ¬ OwnAt ρ σ i D := fun i ⟨⟨lv, e1, e2⟩, e3⟩ => by
    have z := rel1.slot i lv e1
    cases lv with
    | own l =>
      obtain ⟨a, vs, q1, q2, _⟩ := z
      rw [e3] at q1; cases q1
      rw [hD] at q2; cases q2
    | ownd l =>
      obtain ⟨a, vs, q1, q2, _⟩ := z
      rw [e3] at q1; cases q1
      rw [hD] at q2; cases q2
    | slf c fs =>
      obtain ⟨a, vs, q1, q2, _⟩ := z
      rw [e3] at q1; cases q1
      rw [hD] at q2; cases q2
    | _ => cases e2
  have noDw : ∀ i, ¬ OwnAt (wipeE ρ own) (wipe σ own) i D := fun i ⟨⟨lv, e1, e2⟩, e3⟩ => by
    have hj : i < ρ.length := by
      have := (List.getElem?_eq_some_iff.mp e1).1
      rwa [wipeE_length] at this
    rw [wipeE_get hj] at e1
    by_cases hm : i ∈ own
    · rw [if_pos hm] at e1; cases e1; cases e2
    · rw [if_neg hm] at e1
      rw [wipe_get (by rw [rel1.len]; exact hj), if_neg hm] at e3
      exact noD i ⟨⟨lv, e1, e2⟩, e3⟩
  have noG : ∀ {Ga Ha Gb Hb : Hp}, Ext F.HA Ga Ha Gb Hb → ∀ {o : HO}, Ha D = some o → Ga D = none → Gb D = none := fun {Ga Ha Gb Hb} x {o} h g => by
    cases q : Gb D with
    | none => rfl
    | some o =>
      rcases x.new D o q with z | z
      · rw [g] at z; cases z
      · rw [h] at z; cases z
  refine ⟨fun i m H' => m = l.length - i ∧ i ≤ l.length ∧ ∃ Gi si acc vs, Rel C HK F Gi (wipeE ρ own) si (wipe σ own) H' ∧ Ext F.HA G1 H1 Gi H' ∧ H' D = some (.lst vs) ∧ Reps C Gi acc vs ∧ Gi D = none ∧
    Post C HK W F G1 H1 σ (RRf C F ρ σ H) (lc2L u t w1 own1 u1 t1 f (wipeE ρ own) (l.drop i) acc si) Q, ⟨l.length, rfl, Nat.zero_le _, G1, s1, [], [], ?_⟩, ?_⟩
  · have n0 := rel1.new (o := .lst []) hD
    refine ⟨(rel1.ext n0).wiped own, n0.ext, upd_same, .nil, hDG, ?_⟩
    rw [List.drop_zero]; exact p1
  · rintro i m H2 ⟨rfl, hi, Gi, si, acc, vs, reli, xi, eD, rv, gD, pi⟩
    obtain ⟨go, stop⟩ := it i Gi (wipeE ρ own) si (wipe σ own) H2 reli xi
    by_cases hl : i < l.length
    · right
      have ed : l.drop i = l[i] :: l.drop (i + 1) := List.drop_eq_getElem_cons hl
      have eg : l[i]? = some l[i] := List.getElem?_eq_getElem hl
      obtain ⟨g1, g2⟩ := go _ eg
      rw [ed] at pi
      unfold lc2L at pi
      refine ⟨g1, fun H' => ∃ Gi si acc vs, Rel C HK F Gi (wipeE ρ own) si (wipe σ own) H' ∧ Ext F.HA G1 H1 Gi H' ∧ H' D = some (.lst vs) ∧ Reps C Gi acc vs ∧ Gi D = none ∧
        Post C HK W F G1 H1 σ (RRf C F ρ σ H) (lc2L u t w1 own1 u1 t1 f (wipeE ρ own) (l.drop (i + 1)) acc si) Q, fun H' h => ⟨l.length - (i + 1), by omega, rfl, by omega, h⟩, ?_⟩
      intro x H3 y
      obtain ⟨G3, n3, r3⟩ := g2 x H3 y
      have rel3 := reli.ext n3
      have x3 := xi.trans n3.ext
      have eD3 := n3.ext.kp _ _ eD hDA
      have gD3 : G3 D = none := noG n3.ext eD gD
      refine ⟨F, G3, wipeE ρ own, _, _, rel3, r3, ?_⟩
      cases q : u l[i] (wipeE ρ own) with
      | none => rw [q] at pi; exact pi.elim
      | some ρ1 =>
        rw [q] at pi
        dsimp only at pi ⊢
        intro σ2 rel4 hw
        have l2 : σ2.length = (wipe σ own).length := by have := congrArg List.length hw; rwa [wipe_length, wipe_length] at this
        have hw2 : wipe σ2 own = wipe σ own := (wipe_mono l2 hw sub).trans wipe_wipe
        -- D is nobody's in the inner frame
        have noD1 : ∀ j, ¬ OwnAt ρ1 σ2 j D := fun j ⟨⟨lv, e1, o1⟩, e3⟩ => by
          obtain ⟨hm, e0⟩ := ok _ _ _ q j lv e1 o1
          refine noDw j ⟨⟨lv, e0, o1⟩, ?_⟩
          have hj : j < σ2.length := (List.getElem?_eq_some_iff.mp e3).1
          have := congrArg (fun l => l[j]?) hw
          rw [wipe_get hj, wipe_get (by rw [← l2]; exact hj), if_neg hm, if_neg hm] at this
          rw [← this]; exact e3
        have noD1w : ∀ j, ¬ OwnAt (wipeE ρ1 own1) (wipe σ2 own1) j D := fun j ⟨⟨lv, e1, o1⟩, e3⟩ => by
          have hj : j < ρ1.length := by
            have := (List.getElem?_eq_some_iff.mp e1).1
            rwa [wipeE_length] at this
          rw [wipeE_get hj] at e1
          by_cases hm : j ∈ own1
          · rw [if_pos hm] at e1; cases e1; cases o1
          · rw [if_neg hm] at e1
            rw [wipe_get (by rw [rel4.len]; exact hj), if_neg hm] at e3
            exact noD1 j ⟨⟨lv, e1, o1⟩, e3⟩
        refine ⟨hw2, F, G3, ρ1, _, rel4, ?_⟩
        cases q2 : t ρ1 si with
        | exc _ _ => rw [q2] at pi; exact pi.elim
        | bad => rw [q2] at pi; exact pi.elim
        | ok b s4 =>
          rw [q2] at pi
          intro c H4 G4 n4 rr
          cases rr
          have rel5 := rel4.ext n4
          have relw := rel3.ext n4
          have x4 := x3.trans n4.ext
          have eD4 := n4.ext.kp _ _ eD3 hDA
          have gD4 : G4 D = none := noG n4.ext eD3 gD3
          have rv4 := Reps.mono (n3.ext.sub.trans n4.ext.sub) _ _ rv
          cases b with
          | false => exact (if_neg Bool.false_ne_true).mpr ⟨G4, s4, acc, vs, relw, x4, eD4, rv4, gD4, pi⟩
          | true =>
            refine (if_pos rfl).mpr ⟨F, G4, ρ1, s4, rel5, ?_⟩
            dsimp only at pi
            cases q3 : w1 ρ1 s4 with
            | exc _ _ => rw [q3] at pi; exact pi.elim
            | bad => rw [q3] at pi; exact pi.elim
            | ok l1 s5 =>
              rw [q3] at pi
              dsimp only at pi
              intro J1 H5 G5 n5 it1
              have rel6 := rel5.ext n5
              have relw6 := relw.ext n5
              have x5 := x4.trans n5.ext
              have eD5 := n5.ext.kp _ _ eD4 hDA
              have gD5 : G5 D = none := noG n5.ext eD4 gD4
              have rv5 := Reps.mono n5.ext.sub _ _ rv4
              refine ⟨fun j k H' => k = l1.length - j ∧ j ≤ l1.length ∧ ∃ Gi si acc vs, Rel C HK F Gi (wipeE ρ own) si (wipe σ own) H' ∧ Rel C HK F Gi (wipeE ρ1 own1) si (wipe σ2 own1) H' ∧ Ext F.HA G1 H1 Gi H' ∧ Sub G5 Gi ∧ H' D = some (.lst vs) ∧ Reps C Gi acc vs ∧ Gi D = none ∧
                Post C HK W F G1 H1 σ (RRf C F ρ σ H) (match lcL u1 t1 f (wipeE ρ1 own1) (l1.drop j) acc si with
                  | .ok acc s => lc2L u t w1 own1 u1 t1 f (wipeE ρ own) (l.drop (i + 1)) acc s
                  | _ => .bad) Q, ⟨l1.length, rfl, Nat.zero_le _, G5, s5, acc, vs, relw6, rel6.wiped own1, x5, Sub.refl, eD5, rv5, gD5, by rw [List.drop_zero]; exact pi⟩, ?_⟩
              rintro j k H6 ⟨rfl, hj, Gj, sj, acc6, vs6, rw6, ri6, xj, xj5, eD6, rv6, gD6, pj⟩
              obtain ⟨go1, stop1⟩ := it1 j Gj (wipeE ρ1 own1) sj (wipe σ2 own1) H6 ri6 xj5
              by_cases hl1 : j < l1.length
              · right
                have ed1 : l1.drop j = l1[j] :: l1.drop (j + 1) := List.drop_eq_getElem_cons hl1
                have eg1 : l1[j]? = some l1[j] := List.getElem?_eq_getElem hl1
                obtain ⟨g1', g2'⟩ := go1 _ eg1
                rw [ed1] at pj
                unfold lcL at pj
                refine ⟨g1', fun H' => ∃ Gi si acc vs, Rel C HK F Gi (wipeE ρ own) si (wipe σ own) H' ∧ Rel C HK F Gi (wipeE ρ1 own1) si (wipe σ2 own1) H' ∧ Ext F.HA G1 H1 Gi H' ∧ Sub G5 Gi ∧ H' D = some (.lst vs) ∧ Reps C Gi acc vs ∧ Gi D = none ∧
                  Post C HK W F G1 H1 σ (RRf C F ρ σ H) (match lcL u1 t1 f (wipeE ρ1 own1) (l1.drop (j + 1)) acc si with
                    | .ok acc s => lc2L u t w1 own1 u1 t1 f (wipeE ρ own) (l.drop (i + 1)) acc s
                    | _ => .bad) Q, fun H' h => ⟨l1.length - (j + 1), by omega, rfl, by omega, h⟩, ?_⟩
                intro x7 H7 y7
                obtain ⟨G7, n7, r7⟩ := g2' x7 H7 y7
                have ri7 := ri6.ext n7
                have rw7 := rw6.ext n7
                have xx7 := xj.trans n7.ext
                have xx75 := xj5.trans n7.ext.sub
                have eD7 := n7.ext.kp _ _ eD6 hDA
                have gD7 : G7 D = none := noG n7.ext eD6 gD6
                refine ⟨F, G7, wipeE ρ1 own1, _, _, ri7, r7, ?_⟩
                cases q7 : u1 l1[j] (wipeE ρ1 own1) with
                | none => rw [q7] at pj; exact pj.elim
                | some ρ2 =>
                  rw [q7] at pj
                  dsimp only at pj ⊢
                  intro σ3 rel8 hw3
                  have hw4 : wipe σ3 own1 = wipe σ2 own1 := by
                    have l3 : σ3.length = (wipe σ2 own1).length := by have := congrArg List.length hw3; rwa [wipe_length, wipe_length] at this
                    exact (wipe_mono l3 hw3 sub1).trans wipe_wipe
                  refine ⟨hw4, F, G7, ρ2, _, rel8, ?_⟩
                  cases q8 : t1 ρ2 sj with
                  | exc _ _ => rw [q8] at pj; exact pj.elim
                  | bad => rw [q8] at pj; exact pj.elim
                  | ok b s8 =>
                    rw [q8] at pj
                    intro c H8 G8 n8 rr
                    cases rr
                    have rel9 := rel8.ext n8
                    have ri8 := ri7.ext n8
                    have rw8 := rw7.ext n8
                    have xx8 := xx7.trans n8.ext
                    have xx85 := xx75.trans n8.ext.sub
                    have eD8 := n8.ext.kp _ _ eD7 hDA
                    have gD8 : G8 D = none := noG n8.ext eD7 gD7
                    have rv8 := Reps.mono (n7.ext.sub.trans n8.ext.sub) _ _ rv6
                    cases b with
                    | false => exact (if_neg Bool.false_ne_true).mpr ⟨G8, s8, acc6, vs6, rw8, ri8, xx8, xx85, eD8, rv8, gD8, pj⟩
                    | true =>
                      refine (if_pos rfl).mpr ⟨F, G8, ρ2, s8, rel9, ?_⟩
                      dsimp only at pj
                      cases q9 : f ρ2 s8 with
                      | exc _ _ => rw [q9] at pj; exact pj.elim
                      | bad => rw [q9] at pj; exact pj.elim
                      | ok d s9 =>
                        rw [q9] at pj
                        dsimp only at pj
                        intro v H9 G9 n9 r9
                        have ri9 := ri8.ext n9
                        have rw9 := rw8.ext n9
                        have xx9 := xx8.trans n9.ext
                        have xx95 := xx85.trans n9.ext.sub
                        have eD9 := n9.ext.kp _ _ eD8 hDA
                        have gD9 : G9 D = none := noG n9.ext eD8 gD8
                        by_cases hz : Nat.blt acc6.length lim = true
                        · rw [if_pos hz] at pj
                          have rv9 := Reps.mono n9.ext.sub _ _ rv8
                          have nk : ∀ q, H9 D ≠ some (LamX.CodeO D q) := fun q z => by rw [eD9] at z; cases z
                          refine ⟨vs6, eD9, ?_, G9, s9, acc6 ++ [d], vs6 ++ [v], rw9.updFree gD9 hD0 hDA noDw nk, ri9.updFree gD9 hD0 hDA noD1w nk, ?_, xx95, upd_same, Reps.append rv9 (.cons r9 .nil), gD9, pj⟩
                          · rw [← Reps.length rv9, sizeLine_eq]
                            exact Nat.le_of_ble_eq_true hz
                          · refine ⟨xx9.sub, xx9.new, fun a o e n => ?_, xx9.off, fun a o e => ?_⟩
                            · rw [upd_ne (ne_of_none e hD)]; exact xx9.kp a o e n
                            · rw [upd_ne (ne_of_none e gD9)]; exact xx9.le a o e
                        · rw [if_neg hz] at pj; exact pj.elim
              · left
                have ed1 : l1.drop j = [] := List.drop_eq_nil_of_le (by omega)
                rw [ed1] at pj
                exact ⟨stop1 (by omega), Gj, sj, acc6, vs6, rw6, xj, eD6, rv6, gD6, pj⟩
    · left
      have ed : l.drop i = [] := List.drop_eq_nil_of_le (by omega)
      rw [ed] at pi
      refine ⟨stop (by omega), pi _ H2 Gi ⟨xi, reli.hand⟩ ⟨D, vs, rfl, x1.back hD hDA, eD, rv, gD, hD0, hDA, noD⟩⟩
abbrev IVb (C : CI) (HK : HandK S) (X : Cx) (scope : Scope) (tg e : Expr) (f : As S) : Prop := ∀ (s : Shared) (H : Hp) (Cc : Addr) (cl : List (PySem.Str × Addr)) (fp : List Addr), PI (X.blk s H scope (compEnvC scope cl Cc X.env) fp) tg e (tIV C HK W0 f)
theorem ef_lc2 {scope : Scope} {own : List (PySem.Str × Nat)} {own1 : List Nat} {w w1 : As S} {is is1 : List Nat} {u u1 : Tg} {ifs ifs1 : List Expr} {t t1 : T S} {f : E S} (hc : X.calm = true) (hN : X.N.Nodup) (hi : IB C HK X W tg e2 w) (ok : BlkOk X.N X.env.scope scope own) (hv : ∀ i ∈ own1, i ∈ own.map (·.2))
    (hg : GVb C HK X scope tg is u) (ht : TVb C HK X scope ifs t) (hi1 : IVb C HK X scope tg1 it1 w1) (hg1 : GVb C HK X scope tg1 is1 u1) (ht1 : TVb C HK X scope ifs1 t1) (he : EVb C HK X scope e f) (sub : ∀ j ∈ is, j ∈ own.map (·.2)) (sub1 : ∀ j ∈ is1, j ∈ own1) (hok : TgOk u is)
    (hs : ∀ x, foldedSetIterable e2 X.env x = pure x := by intro _; rfl) (hs1 : ∀ env x, foldedSetIterable it1 env x = pure x := by intro _ _; rfl) :
    EF C HK X W (.ListComp e [⟨tg, e2, ifs, 0⟩, ⟨tg1, it1, ifs1, 0⟩] scope pos) (fLc2 w (own.map (·.2)) u t w1 own1 u1 t1 f) :=
  PE.of (pe_lc2 hc hN hi ok hv hg ht hi1 hg1 ht1 he hs hs1) fun σ H Q ⟨F, G, ρ, s, rel, p⟩ => lc2_read rel sub sub1 hok p
/-- name = [..], the list kept for good -/
theorem sv_setLc2V {i : Nat} {y : PySem.Str} {py spos : Pos} {scope : Scope} {own : List (PySem.Str × Nat)} {own1 : List Nat} {w w1 : As S} {is is1 : List Nat} {u u1 : Tg} {ifs ifs1 : List Expr} {t t1 : T S} {f : E S} (hc : X.calm = true) (hN : X.N.Nodup) (hy : X.N[i]? = some y) (hyl : X.env.scope.names.lookup y = some .local)
    (hsw : swapsWith (.ListComp e [⟨tg, e2, ifs, 0⟩, ⟨tg1, it1, ifs1, 0⟩] scope pos) (some (.Name y py)) spos.line X.env = pure true) (hi : IB C HK X W tg e2 w) (ok : BlkOk X.N X.env.scope scope own) (hv : ∀ i ∈ own1, i ∈ own.map (·.2))
    (hg : GVb C HK X scope tg is u) (ht : TVb C HK X scope ifs t) (hi1 : IVb C HK X scope tg1 it1 w1) (hg1 : GVb C HK X scope tg1 is1 u1) (ht1 : TVb C HK X scope ifs1 t1) (he : EVb C HK X scope e f) (sub : ∀ j ∈ is, j ∈ own.map (·.2)) (sub1 : ∀ j ∈ is1, j ∈ own1) (hok : TgOk u is)
    (hs : ∀ x, foldedSetIterable e2 X.env x = pure x := by intro _; rfl) (hs1 : ∀ env x, foldedSetIterable it1 env x = pure x := by intro _ _; rfl) :
    SV C HK X W (.Assign [.Name y py] (.ListComp e [⟨tg, e2, ifs, 0⟩, ⟨tg1, it1, ifs1, 0⟩] scope pos) spos) (gSet i (eOf (fLc2 w (own.map (·.2)) u t w1 own1 u1 t1 f))) :=
  PS.of (ps_setLc2 hc hN hy hyl hsw hi ok hv hg ht hi1 hg1 ht1 he hs hs1) fun N σ H ⟨F, G, ρ, s, rel, p⟩ => lc2_read rel sub sub1 hok (PostS.exprO rel p)
end
end Fx
set_option Elab.async false
set_option linter.all false
set_option autoImplicit false
set_option maxRecDepth 100000
/-! Fx, rules 20: defs whose code object is known (they hold lambdas). -/
namespace Fx
open PySem PySem.Spec PyProof.Rows L2 LamX
section
variable {S : Type} {C : CI} {HK : HandK S} {P : Program} {w : World} {K : PySem.W.Frag} {mg : PySem.Str → Option Value} {base : Heap}
theorem okXc {x qual : PySem.Str} {st : Stmt} {f : Addr} {fd : FuncData} {N ps : List PySem.Str} {k : Nat} {sp : Sp} (F : L2.Fun K x qual st f fd) (Sc : FnScope N ps (defScope st)) (len : ∀ vs H Q E, sp vs H Q E → vs.length = ps.length)
    (hbody : ∀ (cdv : Value), fd.code = cdv → ∀ (A : Around) (outer : List PySem.Env) (s : Shared) (H : Hp) (vs : List V) (Q : VK) (E : XK), Room k (A.deeper (envOfC qual (defScope st) s.heap.objs.size f cdv)) → sp vs H Q E →
      ∃ t, PSs (cxOf (L2.CX P w) P w K mg base N qual (defScope st) f cdv A outer s H E) (defBody st) t ∧ t { nx := fun _ H' => Q .non H', rt := Q } (L2.start N vs) H) : FnOk P w K mg base (L2.CX P w) (k + 1) f fd ps sp := by
  obtain ⟨oc, od, kV, doc, pm, an, cdv, ct, osl, rfl, lk, hcd⟩ := F.ex
  exact fn_of lk hcd Sc len fun A outer s H vs Q E hr hsp => hbody cdv rfl A outer s H vs Q E hr hsp
/-- THE RULE for a def, its code object told -/
theorem def_okc {x qual : PySem.Str} {st : Stmt} {f : Addr} {fd : FuncData} {N ps : List PySem.Str} {np n k : Nat} {g : Gs S} (Fu : L2.Fun K x qual st f fd) (Sc : FnScope N ps (defScope st)) (hp : ps.length = np) (hn : N.length = n)
    (hbody : ∀ (cdv : Value), fd.code = cdv → ∀ (A : Around) (outer : List PySem.Env) (s : Shared) (H : Hp) (E : XK), Room k (A.deeper (envOfC qual (defScope st) s.heap.objs.size f cdv)) → SVs C HK (defCx P w K mg base N qual (defScope st) f cdv A outer s H E) (WD E) (defBody st) g) :
    FnOk P w K mg base (L2.CX P w) (k + 1) f fd ps (SpM C HK (runG np n g)) := by
  have hpn : ps.length ≤ N.length := by have := congrArg List.length Sc.pre; rw [List.length_take] at this; omega
  refine okXc Fu Sc (fun vs H Q E ⟨HA, G, ds, s, r, _, _, _, p⟩ => ?_) fun cdv hcd A outer s H vs Q E hr ⟨HA, G, ds, s0, r, le, off, hand, p⟩ => ⟨_, hbody cdv hcd A outer s H E hr, ?_⟩
  · unfold runG at p
    by_cases h : ds.length = np
    · rw [← Reps.length r, h, hp]
    · rw [if_neg h] at p; exact p.elim
  · unfold runG at p
    by_cases h : ds.length = np
    · rw [if_pos h] at p
      have hl : vs.length = np := by rw [← Reps.length r, h]
      refine ⟨{ HA := HA, H0 := H, G0 := G }, G, _, s0, ⟨?_, fun i lv e => ?_, fun i j a ⟨⟨lv, e1, e2⟩, _⟩ _ => ?_, le, off, Sub.refl, fun _ _ e => .inl e, fun _ _ e _ => e, hand⟩, PostS.end_ p⟩
      · rw [start_len (by omega), List.length_append, List.length_map, List.length_replicate]; omega
      · rcases env_at e with rfl | e
        · trivial
        · rw [List.getElem?_map] at e
          cases q : ds[i]? with
          | none => rw [q] at e; cases e
          | some d =>
            rw [q] at e
            cases e
            obtain ⟨v, e1, e2⟩ := Reps.get r q
            exact ⟨v, start_get e1, e2⟩
      · exfalso
        rcases env_at e1 with rfl | e1
        · cases e2
        · rw [List.getElem?_map] at e1
          cases q : ds[i]? with
          | none => rw [q] at e1; cases e1
          | some d => rw [q] at e1; cases e1; cases e2
    · rw [if_neg h] at p; exact p.elim
/-- .. as the head tells it -/
structure DFc (K : PySem.W.Frag) (mg : PySem.Str → Option Value) (x : PySem.Str) (st : Stmt) (ps : List PySem.Str) (c : Addr) : Prop where
  ex : ∃ f fd, L2.Fun K x x st f fd ∧ mg x = some (.ref f) ∧ L2.Binds K fd ps [] ∧ fd.code = .ref c
theorem cal_ofc {k : Nat} {x : PySem.Str} {st : Stmt} {ps : List PySem.Str} {c : Addr} {sp : Sp} (d : DFc K mg x st ps c) (ok : ∀ f fd, L2.Fun K x x st f fd → fd.code = .ref c → FnOk P w K mg base (L2.CX P w) k f fd ps sp) : Cal P w K mg base k x sp := by
  obtain ⟨f, fd, h1, h2, h3, h4⟩ := d.ex
  exact ⟨f, fd, ps, ok f fd h1 h4, h2, h1.kp, h3⟩
end
/-! lambdas, in short -/
section
variable {S : Type} {C : CI} {HK : HandK S} {X : Cx} {W : WX}
theorem takes_lam {A : Around} {outer : List PySem.Env} {s : Shared} {H : Hp} {E : XK} {scope : Scope} {f c' : Addr} : Takes (lamCx X A outer s H E scope f c') (WD E) := takes_of rfl rfl rfl rfl
theorem takes_Z {N : List PySem.Str} {x : PySem.Str} {sg : Scope} {g : Addr} {cdg : Value} {s : Shared} {H : Hp} : Takes (Zc0 X N x sg g cdg s H).nox W0 := LamX.takes0
end
end Fx
set_option Elab.async false
set_option linter.all false
set_option autoImplicit false
set_option maxRecDepth 100000
/-! Fx, the script: what _law_hand(script) reads. -/
namespace Fx
/-- script[:63] -/
def fScr (ns : List Int) : As Unit := fun ρ s => match ρ[(0 : Nat)]? with
  | some .fnn => .ok (cutD (ns.map D.int) none (some 63)) s
  | _ => .bad
def runS (n : Nat) (g : List Int → Gs Unit) (ns : List Int) (s : Unit) : R Unit D := endG (g ns (LV.fnn :: List.replicate (n - 1) LV.un) s)
end Fx
namespace Fx
open PySem PySem.Spec PyProof.Rows L2
abbrev scrK (a : Addr) (H G : Hp) : HandK Unit := { noHand with ea := { f := some (a, [], H, G) } }
def SpS (C : CI) (K : PySem.W.Frag) (m : List Int → Unit → R Unit D) : Sp := fun vs H Q E => ∃ (a : Addr) (ns : List Int), vs = [.ref a] ∧ SqL K H a (ns.map V.int) ∧
  Post C noHand (fun cls d _ H' => E cls d H') { HA := [], H0 := H, G0 := fun _ => none } (fun _ => none) H [] (fun G' _ d v => Rep C G' d v) (m ns ()) Q
section
variable {C : CI} {X : Cx} {W : WX} {pos p1 p2 p3 : Pos} {x : PySem.Str}
theorem reps_int {G : Hp} : ∀ {ns : List Int}, Reps C G (ns.map Fx.D.int) (ns.map V.int) := ints_reps
theorem ef_scr {a : Addr} {H0 G0 : Hp} {ns : List Int} {k : Nat} (hS : SqL X.K H0 a (ns.map V.int)) (hv : PE X (.Name x p1) (tVar 0)) :
    EF C (scrK a H0 G0) X W (.Subscript (.Name x p1) (.Slice none (some (.Constant (.int 63) k p3)) none p2) pos) (fScr ns) :=
  PE.of (pe_slice sl_list hv po_none (po_some pe_int)) fun σ H Q ⟨F, G, ρ, s, rel, p⟩ => by
    unfold fScr at p
    cases q : ρ[0]? with
    | none => rw [q] at p; exact p.elim
    | some lv =>
      rw [q] at p
      cases lv with
      | fnn =>
        dsimp only at p
        obtain ⟨e1, e2, e3, e4⟩ := rel.slot 0 _ q a [] H0 G0 rfl
        have hS' : SqL X.K H a (ns.map V.int) := by
          rcases hS with (h | ⟨o, h⟩) | h
          · exact .inl (.inl (rel.fr _ _ (by rw [e3]; exact h) (by rw [e2]; simp)))
          · exact .inl (.inr ⟨o, rel.fr _ _ (by rw [e3]; exact h) (by rw [e2]; simp)⟩)
          · exact .inr h
        refine ⟨_, e1, _, rfl, a, _, rfl, hS', fun b n => ?_⟩
        exact p _ _ _ (rel.new (o := .lst (cutV (ns.map V.int) none (some 63))) n) (RRf.mk rel (Ext.refl rel) n (Reps.cut reps_int none (some 63)))
      | _ => exact p.elim
end
section
variable {C : CI} {P : Program} {w : World} {K : PySem.W.Frag} {mg : PySem.Str → Option Value} {base : Heap}
theorem def_okS {x qual : PySem.Str} {st : Stmt} {f : Addr} {fd : FuncData} {N ps : List PySem.Str} {n k : Nat} {g : List Int → Gs Unit} (Fu : L2.Fun K x qual st f fd) (Sc : FnScope N ps (defScope st)) (hp : ps.length = 1) (hn : N.length = n)
    (hbody : ∀ (a : Addr) (ns : List Int) (cdv : Value) (A : Around) (outer : List PySem.Env) (s : Shared) (H : Hp) (E : XK), SqL K H a (ns.map V.int) → Room k (A.deeper (envOfC qual (defScope st) s.heap.objs.size f cdv)) → SVs C (scrK a H (fun _ => none)) (defCx P w K mg base N qual (defScope st) f cdv A outer s H E) (WD E) (defBody st) (g ns)) :
    FnOk P w K mg base (L2.CX P w) (k + 1) f fd ps (SpS C K (runS n g)) := by
  have hpn : ps.length ≤ N.length := by have := congrArg List.length Sc.pre; rw [List.length_take] at this; omega
  refine Fu.okX Sc (fun vs H Q E ⟨a, ns, e, _⟩ => by rw [e, hp]; rfl) fun cdv A outer s H vs Q E hr ⟨a, ns, e, hS, p⟩ => ⟨_, hbody a ns cdv A outer s H E hS hr, ?_⟩
  subst e
  refine ⟨{ HA := [], H0 := H, G0 := fun _ => none }, fun _ => none, LV.fnn :: List.replicate (n - 1) LV.un, (), ⟨?_, fun i lv e => ?_, fun i j b w1 w2 => ?_, (fun _ _ e => by cases e), (fun _ _ e => by cases e), Sub.refl, fun _ _ e => .inl e, fun _ _ e _ => e, rfl⟩, ?_⟩
  · rw [start_len (by rw [List.length_singleton]; omega), List.length_cons, List.length_replicate]; omega
  · cases i with
    | zero =>
      rw [List.getElem?_cons_zero] at e; cases e
      intro a' ha h0 g0 z
      cases z
      exact ⟨start_get rfl, rfl, rfl, rfl⟩
    | succ i =>
      rw [List.getElem?_cons_succ] at e
      have := List.mem_of_getElem? e
      rw [List.mem_replicate] at this
      rw [this.2]; trivial
  · obtain ⟨⟨lv, e1, e2⟩, _⟩ := w1
    exfalso
    cases i with
    | zero => rw [List.getElem?_cons_zero] at e1; cases e1; cases e2
    | succ i =>
      rw [List.getElem?_cons_succ] at e1
      have := List.mem_of_getElem? e1
      rw [List.mem_replicate] at this
      rw [this.2] at e2; cases e2
  · have p' : Post C (scrK a H (fun _ => none)) (fun cls d _ H' => E cls d H') { HA := [], H0 := H, G0 := fun _ => none } (fun _ => none) H [] (fun G' _ d v => Rep C G' d v) (endG (g ns (LV.fnn :: List.replicate (n - 1) LV.un) ())) Q := by
      unfold runS at p
      cases z : endG (g ns (LV.fnn :: List.replicate (n - 1) LV.un) ()) with
      | ok d s2 => rw [z] at p; exact fun b H2 G2 n r => p b H2 G2 ⟨n.ext, n.hand⟩ r
      | exc y s2 => rw [z] at p; exact fun cls dd H2 G2 n r => p cls dd H2 G2 ⟨n.ext, n.hand⟩ r
      | bad => rw [z] at p; exact p.elim
    exact PostS.end_ p'
end
end Fx
set_option Elab.async false
set_option linter.all false
set_option autoImplicit false
set_option maxRecDepth 100000
/-! Fx, the law: its first statement makes the hand. -/
namespace Fx
open PySem PySem.Spec PyProof.Rows L2 LamX
def Hd.enc (h : Hd) : D := .lst [.lst (h.cells.map .int), .int h.at_, .int h.left, .int h.mix, .int h.cnt]
/-- the law's answer is True -/
def LawT (mh : List Int → Unit → R Unit D) (n : Nat) (g : Gs Hd) (ns : List Int) : Prop :=
  ∃ h s, mh ns () = .ok h.enc () ∧ endG (g (LV.un :: LV.hnd :: List.replicate (n - 2) LV.un) h) = .ok (.bl true) s
/-- what the law promises -/
def SpLaw (K : PySem.W.Frag) (T : List (Addr × PySem.Str)) (okn : List Int → Prop) : Sp := fun vs H Q _ => ∃ (a : Addr) (ns : List Int), vs = [.ref a] ∧ SqL K H a (ns.map V.int) ∧ (∀ p ∈ T, H p.1 = some (.tbl #[])) ∧ okn ns ∧ ∀ H', Q (.bl true) H'
def tHand (C : CI) (K : PySem.W.Frag) (mh : List Int → Unit → R Unit D) (E : L2.St → XK) : TS := tAsg (tCallSD (SpS C K mh) [] E (tCons (tVar 0) tNil)) (gName 1)
section
variable {C : CI} {X : Cx} {W : WX} {pos pos2 p p1 p2 : Pos} {x y z : PySem.Str}
/-- hand = _law_hand(script) -/
theorem ps_hand {mh : List Int → Unit → R Unit D} {k : Nat} (c : Cal X.prog X.w X.K X.mg X.base k x (SpS C X.K mh)) (hr : Room k X.A) (tk : Takes X W) (hg : Gl X x) (hv : PE X (.Name y p1) (tVar 0)) (hN : X.N.Nodup) (hi : X.N[1]? = some z) (hx : Loc X.env.scope z)
    (hf : X.fn z = true ∨ X.env.scope.names.lookup z = some .local) (hdb : (x == ("__debug__" : PySem.Str)) = false := by decide) (he : starEach [.Name y p1] X.env = (false, eval (.Name y p1) X.env) :: starEach [] X.env := by rfl) (hpl : (backTo pos (starEach [] X.env)).any (·.1) = false := by rfl)
    (hs : swapsWith (.Call (.Name x p) [.Name y p1] [] pos) (some (.Name z p2)) pos2.line X.env = pure false := by rfl) :
    PS X (.Assign [.Name z p2] (.Call (.Name x p) [.Name y p1] [] pos) pos2) (tHand C X.K mh (WE W)) := by
  obtain ⟨f, fd, ps, h1, h2, h3, h4⟩ := c.ex
  exact ps_set hN hi hx (pe_callSD (E := WE W) h1 hr hg h2 h3 h4 .nil (fun σ => passAt tk σ) (pa_cons hv pa_nil he) hdb he hpl) hs hf
end
theorem repl_un {n i : Nat} {lv : LV} (e : (List.replicate n LV.un)[i]? = some lv) : lv = .un := by
  have := List.mem_of_getElem? e
  rw [List.mem_replicate] at this
  exact this.2
/-- the hand, as it was made -/
theorem hand_made {C : CI} {T : List (Addr × PySem.Str)} {G H : Hp} {h : Hd} {b : V} (r : Rep C G h.enc b) (le : Sub G H) (ht : ∀ p ∈ T, H p.1 = some (.tbl #[])) : ∃ ha ca, b = .ref ha ∧ handAt T h (ha :: ca :: T.map (·.1)) H := by
  unfold Hd.enc at r
  cases r with
  | lst e q =>
    rename_i ha xs
    cases q with
    | cons q0 q =>
      cases q0 with
      | lst e0 q0 =>
        rename_i ca ys
        cases q with
        | cons q1 q =>
          cases q1
          cases q with
          | cons q2 q =>
            cases q2
            cases q with
            | cons q3 q =>
              cases q3
              cases q with
              | cons q4 q =>
                cases q4
                cases q
                have ey : ys = h.cells.map V.int := by
                  clear e e0
                  generalize h.cells = l at q0
                  induction l generalizing ys with
                  | nil => cases q0; rfl
                  | cons i l ih =>
                    cases q0 with
                    | cons a b =>
                      cases a
                      rw [List.map_cons, ih b]
                subst ey
                have e' := le _ _ e
                have e0' := le _ _ e0
                refine ⟨ha, ca, rfl, ha, ca, rfl, fun z => ?_, fun z => ?_, fun z => ?_, e', e0', fun p hp => TabS.nil (ht p hp)⟩
                · rw [← z, e'] at e0'
                  have e1 := congrArg (fun o : Option HO => match o with | some (.lst l) => l.head? | _ => none) e0'
                  dsimp only [List.head?] at e1
                  cases hc : h.cells with
                  | nil => rw [hc] at e1; cases e1
                  | cons c l => rw [hc] at e1; cases e1
                · obtain ⟨p, hp, e⟩ := List.mem_map.mp z
                  have := ht p hp
                  rw [e, e'] at this; cases this
                · obtain ⟨p, hp, e⟩ := List.mem_map.mp z
                  have := ht p hp
                  rw [e, e0'] at this; cases this
section
variable {C : CI} {P : Program} {w : World} {K : PySem.W.Frag} {mg : PySem.Str → Option Value} {base : Heap}
/-- THE RULE for the law -/
theorem law_okc {T : List (Addr × PySem.Str)} {okn : List Int → Prop} {mh : List Int → Unit → R Unit D} {x qual : PySem.Str} {st s1 : Stmt} {rest : List Stmt} {f : Addr} {fd : FuncData} {N ps : List PySem.Str} {n k : Nat} {g : Gs Hd} (Fu : L2.Fun K x qual st f fd) (Sc : FnScope N ps (defScope st)) (hp : ps.length = 1) (hn : N.length = n) (h2 : 2 ≤ n)
    (hb : defBody st = s1 :: rest)
    (hbody : ∀ (cdv : Value), fd.code = cdv → ∀ (A : Around) (outer : List PySem.Env) (s : Shared) (H : Hp) (E : XK), Room k (A.deeper (envOfC qual (defScope st) s.heap.objs.size f cdv)) →
      PS (defCx P w K mg base N qual (defScope st) f cdv A outer s H E) s1 (tHand C K mh (WE (WD E))) ∧ SVs C (handK T) (defCx P w K mg base N qual (defScope st) f cdv A outer s H E) (WD E) rest g)
    (plain : ∀ ns, okn ns → LawT mh n g ns) : FnOk P w K mg base (L2.CX P w) (k + 1) f fd ps (SpLaw K T okn) := by
  have hpn : ps.length ≤ N.length := by have := congrArg List.length Sc.pre; rw [List.length_take] at this; omega
  refine okXc Fu Sc (fun vs H Q E ⟨a, ns, e, _⟩ => by rw [e, hp]; rfl) fun cdv hcd A outer s H vs Q E hr ⟨a, ns, e, hS, ht, okk, hQ⟩ => ?_
  obtain ⟨b1, b2⟩ := hbody cdv hcd A outer s H E hr
  subst e
  refine ⟨_, by rw [hb]; exact pss_cons b1 b2, ?_⟩
  obtain ⟨h, s', e1, e2⟩ := plain ns okk
  refine ⟨_, start_get rfl, a, ns, rfl, hS, ?_⟩
  rw [e1]
  intro b H' G' n1 r1
  have ht' : ∀ p ∈ T, H' p.1 = some (.tbl #[]) := fun p hp => n1.ext.kp _ _ (ht p hp) (by simp)
  obtain ⟨ha, ca, rfl, hand⟩ := hand_made r1 n1.ext.le ht'
  have lenS : (L2.start N [V.ref a]).length = n := by rw [start_len (by rw [List.length_singleton]; omega), hn]
  refine ⟨{ HA := ha :: ca :: T.map (·.1), H0 := H', G0 := fun _ => none }, fun _ => none, LV.un :: LV.hnd :: List.replicate (n - 2) LV.un, h, ⟨?_, fun i lv e => ?_, fun i j b w1 w2 => ?_, (fun _ _ e => by cases e), (fun _ _ e => by cases e), Sub.refl, fun _ _ e => .inl e, fun _ _ e _ => e, hand⟩, ?_⟩
  · rw [List.length_set, lenS, List.length_cons, List.length_cons, List.length_replicate]; omega
  · match i with
    | 0 => rw [List.getElem?_cons_zero] at e; cases e; trivial
    | 1 =>
      rw [List.getElem?_cons_succ, List.getElem?_cons_zero] at e; cases e
      exact ⟨ha, by rw [List.getElem?_set_self (by rw [lenS]; omega)], rfl⟩
    | i + 2 =>
      rw [List.getElem?_cons_succ, List.getElem?_cons_succ] at e
      rw [repl_un e]; trivial
  · obtain ⟨⟨lv, e1, e2⟩, _⟩ := w1
    exfalso
    match i with
    | 0 => rw [List.getElem?_cons_zero] at e1; cases e1; cases e2
    | 1 => rw [List.getElem?_cons_succ, List.getElem?_cons_zero] at e1; cases e1; cases e2
    | i + 2 =>
      rw [List.getElem?_cons_succ, List.getElem?_cons_succ] at e1
      rw [repl_un e1] at e2; cases e2
  · cases q : g (LV.un :: LV.hnd :: List.replicate (n - 2) LV.un) h with
    | rt d s2 =>
      rw [q] at e2
      cases e2
      intro v ρ' σ' H2 G2 _ _ rv
      cases rv
      exact hQ H2
    | nx ρ' s2 => rw [q] at e2; cases e2
    | _ => rw [q] at e2; cases e2
end
end Fx
namespace Fx
open PySem PySem.Spec PyProof.Rows L2 LamX
theorem hu_of {T : List (Addr × PySem.Str)} (nd : (T.map (·.1)).Nodup) {P : Addr} {q : PySem.Str} (hm : (P, q) ∈ T) : ∀ p ∈ T, p.1 = P → p.2 = q := by
  induction T with
  | nil => cases hm
  | cons t T ih =>
    rw [List.map_cons, List.nodup_cons] at nd
    intro p hp e
    rcases List.mem_cons.mp hp with hp | hp
    · rcases List.mem_cons.mp hm with h | h
      · rw [hp, ← h]
      · have hx : t.1 ∈ T.map (·.1) := by
          rw [← hp, e]
          exact List.mem_map.mpr ⟨_, h, rfl⟩
        exact absurd hx nd.1
    · rcases List.mem_cons.mp hm with h | h
      · have hx : t.1 ∈ T.map (·.1) := by
          rw [← h, ← e]
          exact List.mem_map.mpr ⟨_, hp, rfl⟩
        exact absurd hx nd.1
      · exact ih nd.2 h p hp e
section
variable {S : Type} {C : CI} {HK : HandK S} {P : Program} {w : World} {K : PySem.W.Frag} {mg : PySem.Str → Option Value} {base : Heap}
/-- THE RULE for a def with the hand, its code object told -/
theorem def_okHc {x qual : PySem.Str} {st : Stmt} {f : Addr} {fd : FuncData} {N ps : List PySem.Str} {np n k : Nat} {g : Gs S} (Fu : L2.Fun K x qual st f fd) (Sc : FnScope N ps (defScope st)) (hp : ps.length = np) (hn : N.length = n)
    (hbody : ∀ (cdv : Value), fd.code = cdv → ∀ (A : Around) (outer : List PySem.Env) (s : Shared) (H : Hp) (E : XK), Room k (A.deeper (envOfC qual (defScope st) s.heap.objs.size f cdv)) → SVs C HK (defCx P w K mg base N qual (defScope st) f cdv A outer s H E) (WD E) (defBody st) g) :
    FnOk P w K mg base (L2.CX P w) (k + 1) f fd ps (SpH C HK (runH np n g)) := by
  have hpn : ps.length ≤ N.length := by have := congrArg List.length Sc.pre; rw [List.length_take] at this; omega
  refine okXc Fu Sc (fun vs H Q E ⟨HA, G, ds, s, ha, r0, e0, _, r, _, _, _, p⟩ => ?_) fun cdv hcd A outer s H vs Q E hr ⟨HA, G, ds, s0, ha, r0, e0, eh, r, le, off, hand, p⟩ => ⟨_, hbody cdv hcd A outer s H E hr, ?_⟩
  · unfold runH at p
    by_cases h : ds.length + 1 = np
    · rw [e0, List.length_cons, ← Reps.length r, h, hp]
    · rw [if_neg h] at p; exact p.elim
  · unfold runH at p
    by_cases h : ds.length + 1 = np
    · rw [if_pos h] at p
      have hl : vs.length = np := by rw [e0, List.length_cons, ← Reps.length r, h]
      have at_ : ∀ (i : Nat) (lv : LV), (LV.hnd :: (ds.map LV.val ++ List.replicate (n - np) LV.un))[i]? = some lv → lv = .un ∨ (i = 0 ∧ lv = .hnd) ∨ ∃ j d, i = j + 1 ∧ ds[j]? = some d ∧ lv = .val d := fun i lv e => by
        cases i with
        | zero => rw [List.getElem?_cons_zero] at e; cases e; exact .inr (.inl ⟨rfl, rfl⟩)
        | succ i =>
          rw [List.getElem?_cons_succ] at e
          rcases env_at e with rfl | e
          · exact .inl rfl
          · rw [List.getElem?_map] at e
            cases q : ds[i]? with
            | none => rw [q] at e; cases e
            | some d => rw [q] at e; cases e; exact .inr (.inr ⟨i, d, rfl, q, rfl⟩)
      refine ⟨{ HA := HA, H0 := H, G0 := G }, G, _, s0, ⟨?_, fun i lv e => ?_, fun i j a ⟨⟨lv, e1, e2⟩, _⟩ _ => ?_, le, off, Sub.refl, fun _ _ e => .inl e, fun _ _ e _ => e, hand⟩, PostS.end_ p⟩
      · rw [start_len (by omega), List.length_cons, List.length_append, List.length_map, List.length_replicate]; omega
      · rcases at_ i lv e with rfl | ⟨rfl, rfl⟩ | ⟨j, d, rfl, q, rfl⟩
        · trivial
        · exact ⟨ha, start_get (by rw [e0]; rfl), eh⟩
        · obtain ⟨v, e1, e2⟩ := Reps.get r q
          exact ⟨v, start_get (by rw [e0, List.getElem?_cons_succ]; exact e1), e2⟩
      · exfalso
        rcases at_ i lv e1 with rfl | ⟨rfl, rfl⟩ | ⟨j, d, rfl, q, rfl⟩ <;> cases e2
    · rw [if_neg h] at p; exact p.elim
end
end Fx
set_option Elab.async false
set_option linter.all false
set_option autoImplicit false
set_option maxRecDepth 100000
/-! Fx, the head: checks of what stands behind the top, and what follows from them. -/
namespace Fx
open PySem PySem.Spec PyProof.Rows L2 LamX He
/-- the text's classes: by their names in order, each with its fields -/
def ciOf (K : PySem.W.Frag) (w : World) (cs : List (PySem.Str × List PySem.Str)) (ins : List Nat) : CI where
  cA := fun c => if ins.contains c then (cs[c]?).map fun p => ga K p.1 else none
  xA := fun c => if ins.contains c then none else (cs[c]?).map fun p => ga K p.1
  fN := fun c => match cs[c]? with | some p => p.2 | none => []
  hs := fun d => d.toK.hash w
def eqOO (a b : Option (Option Value)) : Bool := decide (a = b)
/-- a class whose instances isinstance is asked of -/
def clsTB (K : PySem.W.Frag) (x : PySem.Str) : Bool :=
  (Fa.cls x).ok K && eqO (PySem.W.findIn K (.ref (ga K x)) "__class__") (some (some (.builtin "object.__class__"))) && eqO (PySem.W.specialIn K (.builtin "object.__class__") "__get__") (some (some (.builtin "getset_descriptor.__get__"))) &&
  decide (PySem.W.takesIn K (.builtin "object.__class__") = some true) && decide (PySem.W.mroIn K (ga K x) (.type "object") = some true)
theorem clsT_of {K : PySem.W.Frag} {x : PySem.Str} (h : clsTB K x = true) : ClsT K (ga K x) := by
  unfold clsTB at h
  simp only [Bool.and_eq_true, decide_eq_true_eq] at h
  obtain ⟨⟨⟨⟨h1, h2⟩, h3⟩, h4⟩, h5⟩ := h
  exact ⟨cls_ok h1, eqO_ok h2, eqO_ok h3, h4, h5⟩
def tyAll : List Ty := [.int, .bool, .tuple, .list, .str, .dict]
theorem mem_tyAll (t : Ty) : t ∈ tyAll := by cases t <;> simp [tyAll]
def noTyB (K : PySem.W.Frag) (x : PySem.Str) : Bool := tyAll.all fun t => decide (PySem.W.kitOne K (.ref (ga K x)) (.type t.nm) = some false)
def extB (K : PySem.W.Frag) (x : PySem.Str) : Bool :=
  (PySem.W.clsIn K (ga K x)).isSome && eqO (PySem.W.findIn K (.ref (ga K x)) "__getattribute__") (some (some (.builtin "BaseException.__getattribute__"))) && (PySem.W.findIn K (.ref (ga K x)) "__getattr__").isSome &&
  decide (PySem.W.subIn K (.ref (ga K x)) (.type "BaseException") = some true) && eqO (PySem.W.findIn K (.ref (ga K x)) "__class__") (some (some (.builtin "object.__class__"))) &&
  eqO (PySem.W.specialIn K (.builtin "object.__class__") "__get__") (some (some (.builtin "getset_descriptor.__get__"))) && decide (PySem.W.takesIn K (.builtin "object.__class__") = some true) && decide (PySem.W.mroIn K (ga K x) (.type "object") = some true)
theorem ext_of {K : PySem.W.Frag} {x : PySem.Str} (h : extB K x = true) : ExT K (ga K x) := by
  unfold extB at h
  simp only [Bool.and_eq_true, decide_eq_true_eq] at h
  obtain ⟨⟨⟨⟨⟨⟨⟨h1, h2⟩, h3⟩, h4⟩, h5⟩, h6⟩, h7⟩, h8⟩ := h
  exact ⟨h1, eqO_ok h2, Option.isSome_iff_exists.mp h3, h4, eqO_ok h5, eqO_ok h6, h7, h8⟩
/-- an exception class with an own __init__ -/
def oexB (K : PySem.W.Frag) (C : Addr) : Bool := match K.lookup C with
  | some ⟨.type "type", _, .cls cd, sl⟩ => (match cd.mro, sl.toList with
    | .ref C' :: bm, [_, _, _, _, some (.builtin n), _] => C' == C && n == "ValueError.__new__" && !cd.hasDel && cd.hasDict && PySem.HandSPX.refsVE bm
    | _, _ => false)
  | _ => false
def oexAB (K : PySem.W.Frag) (x : PySem.Str) : Bool :=
  oexB K (ga K x) && eqO (PySem.W.findIn K (.ref (ga K x)) "__setattr__") (some (some (.builtin "object.__setattr__"))) && decide (PySem.W.subIn K (.ref (ga K x)) (.type "BaseException") = some true) &&
  decide (PySem.W.typeIn K (.ref (ga K x)) = some (.type "type")) && PySem.W.keepIn K (.ref (ga K x))
theorem oex_of {K : PySem.W.Frag} {x : PySem.Str} (h : oexAB K x = true) : OexC K (ga K x) := by
  unfold oexAB at h
  simp only [Bool.and_eq_true, decide_eq_true_eq] at h
  obtain ⟨⟨⟨⟨h1, h2⟩, h3⟩, h4⟩, h5⟩ := h
  refine ⟨?_, eqO_ok h2, h3, h4, h5⟩
  generalize ga K x = C at h1
  unfold oexB at h1
  split at h1
  · rename_i dd cd sl ho
    split at h1
    · rename_i C' bm k0 k1 k2 k3 n k5 hm hs
      simp only [Bool.and_eq_true, beq_iff_eq, Bool.not_eq_true'] at h1
      obtain ⟨⟨⟨⟨rfl, rfl⟩, hdel⟩, hd⟩, ht⟩ := h1
      obtain ⟨nm, bs, mro, ns, qn, hd', sn, sub, ab, col, del⟩ := cd
      dsimp only at hm hdel hd
      subst hm hdel hd
      have hsl : sl = #[k0, k1, k2, k3, some (.builtin "ValueError.__new__"), k5] := by
        obtain ⟨l⟩ := sl
        simp only at hs
        rw [hs]
      subst hsl
      exact ⟨nm, qn, ns, bs, bm, sn, sub, ab, col, dd, k0, k1, k2, k3, k5, ho, ht⟩
    · cases h1
  · cases h1
/-- exception classes told apart by except, isinstance -/
def tabB2 (f : PySem.Str → Option Bool → Bool) (cs : List (PySem.Str × List PySem.Str)) (tab : List (Option Bool)) : Bool := (cs.zip tab).all fun p => f p.1.1 p.2
theorem tabB2_of {f : PySem.Str → Option Bool → Bool} {cs : List (PySem.Str × List PySem.Str)} {tab : List (Option Bool)} (h : tabB2 f cs tab = true) {c : Nat} {p : PySem.Str × List PySem.Str} {b : Bool} (h1 : cs[c]? = some p) (h2 : tab.getD c none = some b) : f p.1 (some b) = true := by
  unfold tabB2 at h
  rw [List.all_eq_true] at h
  have h3 : tab[c]? = some (some b) := by
    rw [List.getD_eq_getElem?_getD] at h2
    cases q : tab[c]? with
    | none => rw [q] at h2; cases h2
    | some z => rw [q] at h2; simp only [Option.getD_some] at h2; rw [h2]
  have h4 : (cs.zip tab)[c]? = some (p, some b) := by
    rw [List.getElem?_zip_eq_some]
    exact ⟨h1, h3⟩
  exact h _ (List.mem_of_getElem? h4)
def exmTB (K : PySem.W.Frag) (A : PySem.Str) (x : PySem.Str) : Option Bool → Bool
  | none => true
  | some b => decide (PySem.W.exmOne K (.ref (ga K x)) (.ref (ga K A)) = some b)
def kitTB (K : PySem.W.Frag) (v : Value) (x : PySem.Str) : Option Bool → Bool
  | none => true
  | some b => extB K x && decide (PySem.W.kitOne K (.ref (ga K x)) v = some b)
def clsAllB (K : PySem.W.Frag) (cs : List (PySem.Str × List PySem.Str)) (ins : List Nat) : Bool := ins.all fun c => match cs[c]? with | some p => clsTB K p.1 && noTyB K p.1 | none => true
section
variable {K : PySem.W.Frag} {w : World} {cs : List (PySem.Str × List PySem.Str)} {ins : List Nat}
theorem cA_some {c : Nat} {cl : Addr} (h : (ciOf K w cs ins).cA c = some cl) : c ∈ ins ∧ ∃ p, cs[c]? = some p ∧ cl = ga K p.1 := by
  have h' : (if ins.contains c then (cs[c]?).map (fun p => ga K p.1) else none) = some cl := h
  by_cases z : ins.contains c = true
  · rw [if_pos z] at h'
    cases q : cs[c]? with
    | none => rw [q] at h'; cases h'
    | some p => rw [q] at h'; cases h'; exact ⟨by simpa using z, p, rfl, rfl⟩
  · rw [if_neg z] at h'; cases h'
theorem xA_some {c : Nat} {cl : Addr} (h : (ciOf K w cs ins).xA c = some cl) : ∃ p, cs[c]? = some p ∧ cl = ga K p.1 := by
  have h' : (if ins.contains c then none else (cs[c]?).map (fun p => ga K p.1)) = some cl := h
  by_cases z : ins.contains c = true
  · rw [if_pos z] at h'; cases h'
  · rw [if_neg z] at h'
    cases q : cs[c]? with
    | none => rw [q] at h'; cases h'
    | some p => rw [q] at h'; cases h'; exact ⟨p, rfl, rfl⟩
theorem clsAll_of (h : clsAllB K cs ins = true) : ClsAll (ciOf K w cs ins) K := by
  unfold clsAllB at h
  rw [List.all_eq_true] at h
  constructor
  · intro c cl e
    obtain ⟨e0, p, e1, rfl⟩ := cA_some e
    have := h c e0
    rw [e1] at this
    dsimp only at this
    rw [Bool.and_eq_true] at this
    exact clsT_of this.1
  · intro ty c cl e
    obtain ⟨e0, p, e1, rfl⟩ := cA_some e
    have := h c e0
    rw [e1] at this
    dsimp only at this
    rw [Bool.and_eq_true] at this
    have h2 := this.2
    unfold noTyB at h2
    rw [List.all_eq_true] at h2
    exact of_decide_eq_true (h2 ty (mem_tyAll ty))
theorem exm_tab {A : PySem.Str} {tab : List (Option Bool)} {csf : Nat → Option Bool} (hf : csf = fun c => tab.getD c none) (h : tabB2 (exmTB K A) cs tab = true) : ∀ c cl2 b, (ciOf K w cs ins).xA c = some cl2 → csf c = some b → PySem.W.exmOne K (.ref cl2) (.ref (ga K A)) = some b := fun c cl2 b e1 e2 => by
  obtain ⟨p, e3, rfl⟩ := xA_some e1
  rw [hf] at e2
  exact of_decide_eq_true (tabB2_of h e3 e2)
theorem kit_tab {v : Value} {tab : List (Option Bool)} {csf : Nat → Option Bool} (hf : csf = fun c => tab.getD c none) (h : tabB2 (kitTB K v) cs tab = true) : ∀ c cl2 b, (ciOf K w cs ins).xA c = some cl2 → csf c = some b → ExT K cl2 ∧ PySem.W.kitOne K (.ref cl2) v = some b := fun c cl2 b e1 e2 => by
  obtain ⟨p, e3, rfl⟩ := xA_some e1
  rw [hf] at e2
  have := tabB2_of h e3 e2
  unfold kitTB at this
  rw [Bool.and_eq_true] at this
  exact ⟨ext_of this.1, of_decide_eq_true this.2⟩
theorem clsF_of {X : Cx} {c : Nat} {p : PySem.Str × List PySem.Str} (hX : X.K = K) (e : cs[c]? = some p) (hi : ins.contains c = true) (h : (Fa.cls p.1).ok K = true) (hn : p.2.Nodup) (hl : p.2.length ≤ 900) (hf : (p.2.all fun f => eqO (PySem.W.findIn K (.ref (ga K p.1)) f) (some none)) = true) : ClsF X (ciOf K w cs ins) c := by
  have ef : (ciOf K w cs ins).fN c = p.2 := by unfold ciOf; dsimp only; rw [e]
  refine ⟨⟨ga K p.1, by unfold ciOf; dsimp only; rw [if_pos hi, e]; rfl, by rw [hX]; exact cls_ok h, by rw [ef]; exact hn, by rw [ef]; exact hl, fun f hf' => ?_⟩⟩
  rw [ef] at hf'
  rw [List.all_eq_true] at hf
  rw [hX]
  exact eqO_ok (hf f hf')
theorem exc_of {X : Cx} {mg : PySem.Str → Option Value} {c : Nat} {p : PySem.Str × List PySem.Str} (hX : X.K = K) (hmg : X.mg = mg) (e : cs[c]? = some p) (hi : ins.contains c = false) (hm : mg p.1 = some (.ref (ga K p.1))) (h : (Fa.exc p.1).ok K = true) : ExC X (ciOf K w cs ins) p.1 c := by
  obtain ⟨h1, h2, h3, h4⟩ := exc_ok h
  subst hX
  exact ⟨ga X.K p.1, "ValueError", "ValueError.__new__", "ValueError.__init__", veBase, by unfold ciOf; dsimp only; rw [if_neg (by rw [hi]; decide), e]; rfl, PySem.F.excBase_ValueError, h1, by rw [hmg]; exact hm, h2, raises_own h3 h4⟩
end
theorem ex_at {l : List Bool} (h : l.all id = true) {b : Bool} (i : Nat) (e : l[i]? = some b) : b = true := List.all_eq_true.mp h b (List.mem_of_getElem? e)
/-- an own __init__'s field -/
structure DFa (K : PySem.W.Frag) (d : DefD) (st : Stmt) (q : PySem.Str) : Prop where
  fn : ∃ fd, L2.Fun K d.name q st (fAd K d.at_) fd
/-- a def's facts, as the hook tells them -/
theorem fun_of {K : PySem.W.Frag} {x qual : PySem.Str} {st : Stmt} {f : Addr} {fd : FuncData} (F : FunD K x qual (defArgs st) (defBody st) (defScope st) [] [] f fd) : L2.Fun K x qual st f fd := by
  obtain ⟨oc, od, dV, kV, doc, pm, an, cdv, ct, osl, e, lk, hc, hd, hk⟩ := F.ex
  have hdV : dV = .none := by
    rcases hd with h | h
    · exact h.2
    · exact absurd rfl h.1
  subst hdV
  exact ⟨⟨oc, od, kV, doc, pm, an, cdv, ct, osl, e, lk, hc⟩, F.kp⟩
section
variable {K : PySem.W.Frag} {mg : PySem.Str → Option Value} {x : PySem.Str} {st : Stmt} {ps : List PySem.Str}
theorem df_of {fd : FuncData} (F : FunD K x x (defArgs st) (defBody st) (defScope st) [] [] (ga K x) fd) (hm : mg x = some (.ref (ga K x))) (hb : L2.Binds K fd ps []) : DF K mg x st ps := ⟨⟨_, fd, fun_of F, hm, hb⟩⟩
theorem fd_code {f : Addr} {fd : FuncData} {q : PySem.Str} {p : He.Defn} (F : L2.Fun K x q st f fd) (hf : f = fAd K p) : fd.code = .ref (codeOf K p) := by
  obtain ⟨oc, od, kV, doc, pm, an, cdv, ct, osl, e, lk, hc⟩ := F.ex
  obtain ⟨c, hcd⟩ := codeIn_ref hc
  have hcode : fd.code = .ref c := by rw [e]; exact hcd
  rw [hcode, codeOf_eq (by rw [← hf]; exact lk) hcode]
theorem dfc_of {fd : FuncData} (F : FunD K x x (defArgs st) (defBody st) (defScope st) [] [] (ga K x) fd) (hm : mg x = some (.ref (ga K x))) (hb : L2.Binds K fd ps []) : DFc K mg x st ps (codeOf K (x, none)) := ⟨⟨_, fd, fun_of F, hm, hb, fd_code (p := (x, none)) (fun_of F) rfl⟩⟩
theorem giv_of {fd : FuncData} {N : List PySem.Str} {a : PySem.Str} (F : FunD K x x (defArgs st) (defBody st) (defScope st) [] [] (ga K x) fd) (hm : mg x = some (.ref (ga K x))) (hb : L2.Binds K fd [a] []) (sc : FnScope N [a] (defScope st)) (n0 : N[0]? = some a) (va : Vis (defScope st) a) : ∃ g cdg, GivF K mg x g N (defScope st) (defBody st) cdg a := by
  obtain ⟨oc, od, dV, kV, doc, pm, an, cdv, ct, osl, e, lk, hc, hd, hk⟩ := F.ex
  subst e
  exact ⟨_, cdv, hm, F.kp, ⟨_, _, _, _, _, _, _, _, _, _, lk, hb⟩, hc, sc, n0, va⟩
end
end Fx
set_option Elab.async false
set_option linter.all false
set_option autoImplicit false
set_option maxRecDepth 100000
/-! Fx, plain: what follows from a result, construct by construct. -/
namespace Fx
section
variable {S α β : Type}
def R.satD (r : R S α) (Q : α → S → Prop) : Prop := match r with
  | .ok a s => Q a s
  | _ => False
/-- the result is a value, of which Q holds (a structure: whnf stops here) -/
structure R.sat (r : R S α) (Q : α → S → Prop) : Prop where
  h : R.satD r Q
structure Aft (S : Type) where
  nx : Env → S → Prop := fun _ _ => False
  rt : D → S → Prop := fun _ _ => False
  bk : Env → S → Prop := fun _ _ => False
  ct : Env → S → Prop := fun _ _ => False
  ex : Exn → Env → S → Prop := fun _ _ _ => False
def RS.satD (r : RS S) (P : Aft S) : Prop := match r with
  | .nx ρ s => P.nx ρ s
  | .rt d s => P.rt d s
  | .bk ρ s => P.bk ρ s
  | .ct ρ s => P.ct ρ s
  | .exc x ρ s => P.ex x ρ s
  | .bad => False
structure RS.sat (r : RS S) (P : Aft S) : Prop where
  h : RS.satD r P
theorem R.sat_ex {r : R S α} {Q : α → S → Prop} (h : r.sat Q) : ∃ a s, r = .ok a s ∧ Q a s := by
  cases r with
  | ok a s => exact ⟨a, s, rfl, h.h⟩
  | exc _ _ => exact h.h.elim
  | bad => exact h.h.elim
theorem R.sat_ok {r : R S α} {a : α} {s : S} {Q : α → S → Prop} (e : r = .ok a s) (h : Q a s) : r.sat Q := by rw [e]; exact ⟨h⟩
theorem R.sat.mono {r : R S α} {Q Q' : α → S → Prop} (h : r.sat Q) (w : ∀ a s, Q a s → Q' a s) : r.sat Q' := by
  obtain ⟨a, s, e, h⟩ := R.sat_ex h
  exact R.sat_ok e (w _ _ h)
theorem R.sat_bind {r : R S α} {k : α → S → R S β} {Q : β → S → Prop} (h : r.sat fun a s => (k a s).sat Q) : (r.bind k).sat Q := by
  obtain ⟨a, s, e, h⟩ := R.sat_ex h
  rw [e]; exact h
variable {ρ : Env} {s : S} {Q : D → S → Prop} {QL : List D → S → Prop} {QB : Bool → S → Prop} {P : Aft S} {N : Env → S → Prop} {RT : D → S → Prop} {B C : Env → S → Prop} {X : Exn → Env → S → Prop} {f g h : E S} {t u : T S} {as : As S} {i : Nat} {d : D}
/-! expressions -/
theorem v_c (h : Q d s) : (eC d ρ s).sat Q := ⟨h⟩
theorem v_var (e : ρ[i]? = some (.val d)) (h : Q d s) : (eVar i ρ s).sat Q := by unfold eVar; rw [e]; exact ⟨h⟩
theorem v_bvar (e : ρ[i]? = some (.val d)) (h : Q d s) : (bVar i ρ s).sat Q := by unfold bVar; rw [e]; exact ⟨h⟩
theorem v_bown {l : List D} (e : ρ[i]? = some (.own l)) (h : Q (.lst l) s) : (bVar i ρ s).sat Q := by unfold bVar; rw [e]; exact ⟨h⟩
theorem v_bownd {l : List (D × D)} (e : ρ[i]? = some (.ownd l)) (h : Q (.dct l) s) : (bVar i ρ s).sat Q := by unfold bVar; rw [e]; exact ⟨h⟩
theorem v_bin {op : D → D → Option D} (h : (f ρ s).sat fun a s => (g ρ s).sat fun b s => ∃ c, op a b = some c ∧ Q c s) : (eBin op f g ρ s).sat Q :=
  R.sat_bind (h.mono fun a s h => R.sat_bind (h.mono fun b s ⟨c, e, h⟩ => by rw [e]; exact ⟨h⟩))
theorem v_ml {op : D → D → Option D} (h : (f ρ s).sat fun a s => ∃ l, a = .lst l ∧ (g ρ s).sat fun b s => ∃ c, op (.lst l) b = some c ∧ Q c s) : (eMl op f g ρ s).sat Q :=
  R.sat_bind (h.mono fun a s ⟨l, e, h⟩ => by subst e; exact R.sat_bind (h.mono fun b s ⟨c, e, h⟩ => by rw [e]; exact ⟨h⟩))
theorem v_un {op : D → Option D} (h : (f ρ s).sat fun a s => ∃ c, op a = some c ∧ Q c s) : (eUn op f ρ s).sat Q := R.sat_bind (h.mono fun a s ⟨c, e, h⟩ => by rw [e]; exact ⟨h⟩)
theorem v_nil (h : QL [] s) : (aNil ρ s).sat QL := ⟨h⟩
theorem v_cons (h : (f ρ s).sat fun a s => (as ρ s).sat fun l s => QL (a :: l) s) : (aCons f as ρ s).sat QL := R.sat_bind (h.mono fun _ _ h => R.sat_bind (h.mono fun _ _ h => ⟨h⟩))
theorem v_tup (h : (as ρ s).sat fun l s => l.length ≤ lim ∧ Q (.tup l) s) : (eTup as ρ s).sat Q := R.sat_bind (h.mono fun l s ⟨e, h⟩ => by
  rw [show Nat.ble l.length lim = true from Nat.ble_eq_true_of_le e]; exact ⟨h⟩)
theorem v_flst (h : (as ρ s).sat fun l s => l.length ≤ lim ∧ QL l s) : (fLst as ρ s).sat QL := R.sat_bind (h.mono fun l s ⟨e, h⟩ => by
  rw [show Nat.ble l.length lim = true from Nat.ble_eq_true_of_le e]; exact ⟨h⟩)
theorem v_of (h : (as ρ s).sat fun l s => Q (.lst l) s) : (eOf as ρ s).sat Q := R.sat_bind (h.mono fun _ _ h => ⟨h⟩)
theorem v_if (h : (t ρ s).sat fun b s => (if b then f ρ s else g ρ s).sat Q) : (eIf t f g ρ s).sat Q := R.sat_bind h
theorem v_and (h : (f ρ s).sat fun a s => (a = .bl true ∧ (g ρ s).sat Q) ∨ (a = .bl false ∧ Q (.bl false) s)) : (eAnd f g ρ s).sat Q := R.sat_bind (h.mono fun a s h => by
  rcases h with ⟨rfl, h⟩ | ⟨rfl, h⟩ <;> first | exact h | exact ⟨h⟩)
theorem v_or (h : (f ρ s).sat fun a s => (a = .bl true ∧ Q (.bl true) s) ∨ (a = .bl false ∧ (g ρ s).sat Q)) : (eOr f g ρ s).sat Q := R.sat_bind (h.mono fun a s h => by
  rcases h with ⟨rfl, h⟩ | ⟨rfl, h⟩ <;> first | exact h | exact ⟨h⟩)
theorem v_callP {m : List D → Unit → R Unit D} (h : (as ρ s).sat fun l s => (m l ()).sat fun d _ => Q d s) : (eCallP m as ρ s).sat Q := R.sat_bind (h.mono fun l s h => by
  obtain ⟨d, _, e, h⟩ := (R.sat_ex h)
  rw [e]; exact ⟨h⟩)
theorem v_callH {m : List D → S → R S D} (e : ρ[i]? = some .hnd) (h : (as ρ s).sat fun l s => (m l s).sat Q) : (eCallH i m as ρ s).sat Q := by
  unfold eCallH; rw [e]; exact R.sat_bind h
theorem v_lam {m : (S → R S D) → S → R S D} (h : (m (fun s' => f ρ s') s).sat Q) : (eLam m f ρ s).sat Q := by
  unfold eLam
  obtain ⟨d, s', e, h⟩ := (R.sat_ex h)
  rw [e]; exact ⟨h⟩
theorem v_andb (h : (f ρ s).sat fun a s => ∃ b, a = .bl b ∧ if b then (g ρ s).sat Q else Q (.bl false) s) : (eAnd f g ρ s).sat Q := v_and (h.mono fun a s ⟨b, e, h⟩ => by
  cases b
  · exact .inr ⟨e, h⟩
  · exact .inl ⟨e, h⟩)
theorem v_orb (h : (f ρ s).sat fun a s => ∃ b, a = .bl b ∧ if b then Q (.bl true) s else (g ρ s).sat Q) : (eOr f g ρ s).sat Q := v_or (h.mono fun a s ⟨b, e, h⟩ => by
  cases b
  · exact .inr ⟨e, h⟩
  · exact .inl ⟨e, h⟩)
theorem v_chain {k : E S} {op op' : D → D → Option D} (h : (f ρ s).sat fun a s => (g ρ s).sat fun b s => ∃ c, op a b = some c ∧ ∃ x, c = .bl x ∧ if x then (k ρ s).sat (fun e s => ∃ c, op' b e = some c ∧ Q c s) else Q (.bl false) s) : (eChain op op' f g k ρ s).sat Q :=
  R.sat_bind (h.mono fun a s h => R.sat_bind (h.mono fun b s ⟨c, e1, x, e2, h3⟩ => by
    subst e2
    rw [e1]
    cases x
    · exact ⟨h3⟩
    · have h4 : (k ρ s).sat fun e s => ∃ c, op' b e = some c ∧ Q c s := h3
      show ((k ρ _).bind fun e s => R.opt (op' b e) s).sat Q
      exact R.sat_bind (h4.mono fun e s ⟨c, e4, h4⟩ => by rw [e4]; exact ⟨h4⟩)))
/-! tests -/
theorem v_tval (h : (f ρ s).sat fun a s => ∃ b, a = .bl b ∧ QB b s) : (tVal f ρ s).sat QB := R.sat_bind (h.mono fun a s ⟨b, e, h⟩ => by subst e; exact ⟨h⟩)
theorem v_ttru (h : (f ρ s).sat fun a s => ∃ b, dTruth a = some b ∧ QB b s) : (tTru f ρ s).sat QB := R.sat_bind (h.mono fun a s ⟨b, e, h⟩ => by rw [e]; exact ⟨h⟩)
theorem v_tnot (h : (t ρ s).sat fun b s => QB (!b) s) : (tNot' t ρ s).sat QB := R.sat_bind (h.mono fun _ _ h => ⟨h⟩)
theorem v_tand (h : (t ρ s).sat fun b s => if b then (u ρ s).sat QB else QB false s) : (tAnd' t u ρ s).sat QB := R.sat_bind (h.mono fun b s h => by
  cases b <;> first | exact h | exact ⟨h⟩)
theorem v_tor (h : (t ρ s).sat fun b s => if b then QB true s else (u ρ s).sat QB) : (tOr' t u ρ s).sat QB := R.sat_bind (h.mono fun b s h => by
  cases b <;> first | exact h | exact ⟨h⟩)
theorem v_tyes (h : QB true s) : (tYes' ρ s).sat QB := ⟨h⟩
/-! statements -/
theorem RS.sat_sEnd {r : R S D} {k : D → S → RS S} (h : r.sat fun d s => (k d s).sat P) : (sEnd r ρ k).sat P := by
  obtain ⟨a, s, e, h⟩ := R.sat_ex h
  rw [e]; exact h
theorem w_seq {g h : Gs S} (w : (g ρ s).sat ⟨fun ρ' s' => (h ρ' s').sat ⟨N, RT, B, C, X⟩, RT, B, C, X⟩) : (gSeq g h ρ s).sat ⟨N, RT, B, C, X⟩ := by
  unfold gSeq
  cases q : g ρ s <;> rw [q] at w <;> first | exact w.h | exact ⟨w.h⟩
theorem w_nx {r : RS S} {ρ' : Env} {s' : S} (e : r = .nx ρ' s') (h : N ρ' s') : r.sat ⟨N, RT, B, C, X⟩ := by rw [e]; exact ⟨h⟩
theorem w_next (h : N ρ s) : (gNext ρ s).sat ⟨N, RT, B, C, X⟩ := ⟨h⟩
theorem w_break (h : B ρ s) : (gBreak ρ s).sat ⟨N, RT, B, C, X⟩ := ⟨h⟩
theorem w_cont (h : C ρ s) : (gCont ρ s).sat ⟨N, RT, B, C, X⟩ := ⟨h⟩
theorem w_if {g h : Gs S} (w : (t ρ s).sat fun b s => (if b then g ρ s else h ρ s).sat ⟨N, RT, B, C, X⟩) : (gIf t g h ρ s).sat ⟨N, RT, B, C, X⟩ := by
  unfold gIf
  obtain ⟨b, s', e, w⟩ := (R.sat_ex w)
  rw [e]; exact w
theorem w_ret (h : (f ρ s).sat fun d s => RT d s) : (gRet f ρ s).sat ⟨N, RT, B, C, X⟩ := RS.sat_sEnd (h.mono fun _ _ h => ⟨h⟩)
theorem w_set (h : (f ρ s).sat fun d s => N (ρ.set i (.val d)) s) : (gSet i f ρ s).sat ⟨N, RT, B, C, X⟩ := RS.sat_sEnd (h.mono fun _ _ h => ⟨h⟩)
theorem w_setF (h : (as ρ s).sat fun l s => N (ρ.set i (.own l)) s) : (gSetF i as ρ s).sat ⟨N, RT, B, C, X⟩ := by
  unfold gSetF
  obtain ⟨l, s', e, w⟩ := (R.sat_ex h)
  rw [e]; exact ⟨w⟩
theorem w_drop (h : (f ρ s).sat fun _ s => N ρ s) : (gDrop f ρ s).sat ⟨N, RT, B, C, X⟩ := RS.sat_sEnd (h.mono fun _ _ h => ⟨h⟩)
theorem w_frz {g : Gs S} {l : List D} (e : ρ[i]? = some (.own l)) (h : (g (ρ.set i (.val (.lst l))) s).sat ⟨N, RT, B, C, X⟩) : (gFrz i g ρ s).sat ⟨N, RT, B, C, X⟩ := by unfold gFrz; rw [e]; exact h
theorem w_app {l : List D} (e : ρ[i]? = some (.own l)) (h : (f ρ s).sat fun d s => l.length < lim ∧ N (ρ.set i (.own (l ++ [d]))) s) : (gApp i f ρ s).sat ⟨N, RT, B, C, X⟩ := by
  unfold gApp; rw [e]
  exact RS.sat_sEnd (h.mono fun d s ⟨e, h⟩ => by rw [show Nat.blt l.length lim = true from Nat.ble_eq_true_of_le e]; exact ⟨h⟩)
theorem w_ext {l : List D} (e : ρ[i]? = some (.own l)) (h : (as ρ s).sat fun m s => l.length + m.length ≤ lim ∧ N (ρ.set i (.own (l ++ m))) s) : (gExt i as ρ s).sat ⟨N, RT, B, C, X⟩ := by
  unfold gExt; rw [e]
  obtain ⟨m, s', e, e2, w⟩ := (R.sat_ex h)
  dsimp only
  rw [e]; dsimp only
  rw [show Nat.ble (l.length + m.length) lim = true from Nat.ble_eq_true_of_le e2]; exact ⟨w⟩
theorem w_tgt {u : Tg} (h : (f ρ s).sat fun d s => ∃ ρ', u d ρ = some ρ' ∧ N ρ' s) : (gTgt u f ρ s).sat ⟨N, RT, B, C, X⟩ := RS.sat_sEnd (h.mono fun d s ⟨ρ', e, h⟩ => by rw [e]; exact ⟨h⟩)
theorem w_par {j : Nat} (h : (f ρ s).sat fun a s => (g ρ s).sat fun b s => N ((ρ.set i (.val a)).set j (.val b)) s) : (gPar i j f g ρ s).sat ⟨N, RT, B, C, X⟩ := RS.sat_sEnd (h.mono fun a s h => RS.sat_sEnd (h.mono fun _ _ h => ⟨h⟩))
theorem w_aug {op : Int → Int → Int} {a : Int} (e : ρ[i]? = some (.val (.int a))) (h : (f ρ s).sat fun d s => ∃ b, d = .int b ∧ N (ρ.set i (.val (.int (op a b)))) s) : (gAug i op f ρ s).sat ⟨N, RT, B, C, X⟩ := by
  unfold gAug; rw [e]
  exact RS.sat_sEnd (h.mono fun d s ⟨b, e, h⟩ => by subst e; exact ⟨h⟩)
/-! walks -/
theorem v_range1 (h : (f ρ s).sat fun a s => ∃ j : Int, a = .int j ∧ okR j = true ∧ QL (rangeL 0 j.toNat) s) : (wRange1 f ρ s).sat QL := R.sat_bind (h.mono fun a s ⟨j, e, e2, h⟩ => by subst e; dsimp only; rw [e2]; exact ⟨h⟩)
theorem v_range2 (h : (f ρ s).sat fun a s => (g ρ s).sat fun b s => ∃ i j : Int, a = .int i ∧ b = .int j ∧ okR i = true ∧ okR j = true ∧ QL (rangeL i (j - i).toNat) s) : (wRange2 f g ρ s).sat QL :=
  R.sat_bind (h.mono fun a s h => R.sat_bind (h.mono fun b s ⟨i, j, e1, e2, e3, e4, h5⟩ => by rw [e1, e2]; dsimp only; rw [e3, e4]; exact ⟨h5⟩))
theorem v_seq2 (h : (f ρ s).sat fun a s => ∃ l, (a = .lst l ∨ a = .tup l ∨ ∃ m, a = .dct m ∧ l = m.map (·.1)) ∧ QL l s) : (wSeq2 f ρ s).sat QL := R.sat_bind (h.mono fun a s ⟨l, e, h⟩ => by
  rcases e with rfl | rfl | ⟨m, rfl, rfl⟩ <;> exact ⟨h⟩)
theorem v_cat (h : (f ρ s).sat fun a s => (g ρ s).sat fun b s => ∃ l m, a = .lst l ∧ b = .lst m ∧ l.length + m.length ≤ lim ∧ QL (l ++ m) s) : (fCat f g ρ s).sat QL :=
  R.sat_bind (h.mono fun a s h => R.sat_bind (h.mono fun b s ⟨l, m, e1, e2, e3, h5⟩ => by
    rw [e1, e2]; dsimp only; rw [show Nat.ble (l.length + m.length) lim = true from Nat.ble_eq_true_of_le e3]; exact ⟨h5⟩))
/-- for, by an invariant (of what is left) -/
theorem w_for {tg : Tg} {g : Gs S} (I : List D → Env → S → Prop) (h : (as ρ s).sat fun l s => I l ρ s)
    (step : ∀ d ds ρ s, I (d :: ds) ρ s → ∃ ρ1, tg d ρ = some ρ1 ∧ (g ρ1 s).sat ⟨I ds, RT, N, I ds, X⟩) (fin : ∀ ρ s, I [] ρ s → N ρ s) : (gFor as tg g ρ s).sat ⟨N, RT, B, C, X⟩ := by
  unfold gFor
  obtain ⟨l, s', e, hI⟩ := (R.sat_ex h)
  rw [e]; dsimp only
  clear e h
  induction l generalizing ρ s' with
  | nil => exact ⟨fin _ _ hI⟩
  | cons d ds ih =>
    obtain ⟨ρ1, e1, h1⟩ := step d ds ρ s' hI
    unfold forL
    rw [e1]; dsimp only
    cases q : g ρ1 s' with
    | nx ρ2 s2 => rw [q] at h1; exact ih _ h1.h
    | ct ρ2 s2 => rw [q] at h1; exact ih _ h1.h
    | bk ρ2 s2 => rw [q] at h1; exact ⟨h1.h⟩
    | rt d s2 => rw [q] at h1; exact ⟨h1.h⟩
    | exc x ρ2 s2 => rw [q] at h1; exact ⟨h1.h⟩
    | bad => rw [q] at h1; exact ⟨h1.h⟩
/-- a comprehension, by an invariant of (what is left, what was made) -/
theorem v_lc {w : As S} {own : List Nat} {tg : Tg} (I : List D → List D → S → Prop) (h : (w ρ s).sat fun l s => I l [] s)
    (step : ∀ d ds acc s, I (d :: ds) acc s → ∃ ρ1, tg d (wipeE ρ own) = some ρ1 ∧ (t ρ1 s).sat fun b s => if b then (f ρ1 s).sat fun y s => acc.length < lim ∧ I ds (acc ++ [y]) s else I ds acc s)
    (fin : ∀ acc s, I [] acc s → QL acc s) : (fLc w own tg t f ρ s).sat QL := by
  unfold fLc
  refine R.sat_bind (h.mono fun l s1 hI => ?_)
  generalize ([] : List D) = acc at hI
  induction l generalizing acc s1 with
  | nil => exact ⟨fin _ _ hI⟩
  | cons d ds ih =>
    obtain ⟨ρ1, e1, h1⟩ := step d ds acc s1 hI
    unfold lcL
    rw [e1]; dsimp only
    obtain ⟨b, s2, e2, h2⟩ := (R.sat_ex h1)
    rw [e2]
    cases b with
    | false => exact ih _ _ h2
    | true =>
      dsimp only
      obtain ⟨y, s3, e3, e4, h3⟩ := R.sat_ex h2
      rw [e3]; dsimp only
      rw [show Nat.blt acc.length lim = true from Nat.ble_eq_true_of_le e4]
      exact ih _ _ h3
/-- .. by a map -/
theorem v_lcmap {w : As S} {own : List Nat} {tg : Tg} {l : List D} (F : D → D) (h : w ρ s = .ok l s) (hl : l.length ≤ lim)
    (step : ∀ d ∈ l, ∃ ρ1, tg d (wipeE ρ own) = some ρ1 ∧ t ρ1 s = .ok true s ∧ f ρ1 s = .ok (F d) s) : fLc w own tg t f ρ s = .ok (l.map F) s := by
  unfold fLc
  rw [h]
  have key : ∀ (l acc : List D), (∀ d ∈ l, ∃ ρ1, tg d (wipeE ρ own) = some ρ1 ∧ t ρ1 s = .ok true s ∧ f ρ1 s = .ok (F d) s) → acc.length + l.length ≤ lim → lcL tg t f (wipeE ρ own) l acc s = .ok (acc ++ l.map F) s := by
    intro l
    induction l with
    | nil => intro acc _ _; rw [List.map_nil, List.append_nil]; rfl
    | cons d ds ih =>
      intro acc hs hl
      obtain ⟨ρ1, e1, e2, e3⟩ := hs d (List.mem_cons_self ..)
      rw [List.length_cons] at hl
      unfold lcL
      rw [e1]; dsimp only
      rw [e2]; dsimp only
      rw [e3]; dsimp only
      rw [show Nat.blt acc.length lim = true from Nat.ble_eq_true_of_le (by show acc.length + 1 ≤ lim; omega), if_pos rfl, ih _ (fun d hd => hs d (List.mem_cons_of_mem _ hd)) (by rw [List.length_append, List.length_singleton]; omega), List.append_assoc]
      rfl
  exact key l [] step (by simpa using hl)
/-- .. by a test and a map -/
theorem v_lcfil {w : As S} {own : List Nat} {tg : Tg} {l : List D} (Pd : D → Bool) (F : D → D) (h : w ρ s = .ok l s) (hl : l.length ≤ lim)
    (step : ∀ d ∈ l, ∃ ρ1, tg d (wipeE ρ own) = some ρ1 ∧ t ρ1 s = .ok (Pd d) s ∧ (Pd d = true → f ρ1 s = .ok (F d) s)) : fLc w own tg t f ρ s = .ok ((l.filter Pd).map F) s := by
  unfold fLc
  rw [h]
  have key : ∀ (l acc : List D), (∀ d ∈ l, ∃ ρ1, tg d (wipeE ρ own) = some ρ1 ∧ t ρ1 s = .ok (Pd d) s ∧ (Pd d = true → f ρ1 s = .ok (F d) s)) → acc.length + l.length ≤ lim → lcL tg t f (wipeE ρ own) l acc s = .ok (acc ++ (l.filter Pd).map F) s := by
    intro l
    induction l with
    | nil => intro acc _ _; rw [List.filter_nil, List.map_nil, List.append_nil]; rfl
    | cons d ds ih =>
      intro acc hs hl
      obtain ⟨ρ1, e1, e2, e3⟩ := hs d (List.mem_cons_self ..)
      rw [List.length_cons] at hl
      unfold lcL
      rw [e1]; dsimp only
      rw [e2]
      cases hp : Pd d with
      | false =>
        dsimp only
        rw [ih _ (fun d hd => hs d (List.mem_cons_of_mem _ hd)) (by omega), List.filter_cons_of_neg (by rw [hp]; decide)]
      | true =>
        dsimp only
        rw [e3 hp]; dsimp only
        rw [show Nat.blt acc.length lim = true from Nat.ble_eq_true_of_le (by show acc.length + 1 ≤ lim; omega), if_pos rfl, ih _ (fun d hd => hs d (List.mem_cons_of_mem _ hd)) (by rw [List.length_append, List.length_singleton]; omega), List.append_assoc, List.filter_cons_of_pos hp]
        rfl
  exact key l [] step (by simpa using hl)
theorem endG_sat {r : RS S} {Q : D → S → Prop} (h : r.sat ⟨fun _ s => Q .non s, Q, fun _ _ => False, fun _ _ => False, fun _ _ _ => False⟩) : (endG r).sat Q := by
  cases r <;> exact ⟨h.h⟩
end
theorem op_some {op : D → D → Option D} {a b c : D} {Q : D → Prop} (e : op a b = some c) (h : Q c) : ∃ c, op a b = some c ∧ Q c := ⟨c, e, h⟩
theorem un_some {op : D → Option D} {a c : D} {Q : D → Prop} (e : op a = some c) (h : Q c) : ∃ c, op a = some c ∧ Q c := ⟨c, e, h⟩
theorem bl_some {b : Bool} {Q : Bool → Prop} (h : Q b) : ∃ c, D.bl b = D.bl c ∧ Q c := ⟨b, rfl, h⟩
theorem len_ok {l : List D} {Q : Prop} (h : Nat.ble l.length lim = true) (w : Q) : l.length ≤ lim ∧ Q := ⟨Nat.le_of_ble_eq_true h, w⟩
theorem int_some {a : Int} {Q : Int → Prop} (h : Q a) : ∃ c, D.int a = D.int c ∧ Q c := ⟨a, rfl, h⟩
theorem hp_some {h : Hd} {j : Nat} {a : Int} {s' : Hd} {N : Hd → Prop} (e : h.put j a = some s') (w : N s') : ∃ z s', D.int a = D.int z ∧ h.put j z = some s' ∧ N s' := ⟨a, s', rfl, e, w⟩
/-! the hand -/
section
variable {ρ : Env} {s : Hd} {Q : D → Hd → Prop} {N : Env → Hd → Prop} {RT : D → Hd → Prop} {B C : Env → Hd → Prop} {X : Exn → Env → Hd → Prop} {f : E Hd} {i j : Nat}
theorem v_hg {z : Int} (e : ρ[i]? = some .hnd) (e2 : s.get j = some z) (h : Q (.int z) s) : (eHg i j ρ s).sat Q := by unfold eHg; rw [e]; dsimp only; rw [e2]; exact ⟨h⟩
theorem v_hlen (e : ρ[i]? = some .hnd) (h : Q (.int s.cells.length) s) : (eHlen i ρ s).sat Q := by unfold eHlen; rw [e]; exact ⟨h⟩
theorem v_hcell (e : ρ[i]? = some .hnd) (h : (f ρ s).sat fun d s => ∃ z j c, d = .int z ∧ ixD s.cells.length z = some j ∧ s.cells[j]? = some c ∧ Q (.int c) s) : (eHcell i f ρ s).sat Q := by
  unfold eHcell; rw [e]
  exact R.sat_bind (h.mono fun d s ⟨z, j, c, e1, e2, e3, h⟩ => by subst e1; dsimp only; rw [e2]; dsimp only [Option.bind]; rw [e3]; exact ⟨h⟩)
theorem w_hput (e : ρ[i]? = some .hnd) (h : (f ρ s).sat fun d s => ∃ z s', d = .int z ∧ s.put j z = some s' ∧ N ρ s') : (gHput i j f ρ s).sat ⟨N, RT, B, C, X⟩ := by
  unfold gHput; rw [e]
  exact RS.sat_sEnd (h.mono fun d s ⟨z, s', e1, e2, h⟩ => by subst e1; dsimp only; rw [e2]; exact ⟨h⟩)
theorem runH_sat {S : Type} {np n : Nat} {g : Gs S} {as : List D} {s : S} {Q : D → S → Prop} (e : as.length + 1 = np) (h : (g (LV.hnd :: (as.map LV.val ++ List.replicate (n - np) LV.un)) s).sat ⟨fun _ s => Q .non s, Q, fun _ _ => False, fun _ _ => False, fun _ _ _ => False⟩) : (runH np n g as s).sat Q := by
  unfold runH; rw [if_pos e]; exact endG_sat h
theorem runG_sat {S : Type} {np n : Nat} {g : Gs S} {as : List D} {s : S} {Q : D → S → Prop} (e : as.length = np) (h : (g (as.map LV.val ++ List.replicate (n - np) LV.un) s).sat ⟨fun _ s => Q .non s, Q, fun _ _ => False, fun _ _ => False, fun _ _ _ => False⟩) : (runG np n g as s).sat Q := by
  unfold runG; rw [if_pos e]; exact endG_sat h
end

/-! operations on whole numbers -/
section
variable {a b : Int}
theorem fine_int : D.fine (.int a) = true := by rfl
theorem o_eqI : dEq (.int a) (.int b) = some (.bl (decide (a = b))) := by
  unfold dEq; rw [fine_int, fine_int]; show some (D.bl (a == b)) = _
  rfl
theorem o_neI : dNe (.int a) (.int b) = some (.bl (decide (a ≠ b))) := by
  unfold dNe; rw [fine_int, fine_int]; show some (D.bl (!(a == b))) = _
  by_cases h : a = b <;> simp [h]
theorem o_ltI : dLt (.int a) (.int b) = some (.bl (decide (a < b))) := by
  unfold dLt; rw [fine_int, fine_int]; rfl
theorem o_gtI : dGt (.int a) (.int b) = some (.bl (decide (b < a))) := rfl
theorem o_leI : dLe (.int a) (.int b) = some (.bl (decide (a ≤ b))) := rfl
theorem o_geI : dGe (.int a) (.int b) = some (.bl (decide (b ≤ a))) := rfl
theorem o_addI : dAdd (.int a) (.int b) = some (.int (a + b)) := rfl
theorem o_subI : dSub (.int a) (.int b) = some (.int (a - b)) := rfl
theorem o_mulR (h : small b = true) : dMul (.int a) (.int b) = some (.int (a * b)) := by unfold dMul; dsimp only; rw [h, Bool.or_true, if_pos rfl]
theorem o_mulL (h : small a = true) : dMul (.int a) (.int b) = some (.int (a * b)) := by unfold dMul; dsimp only; rw [h, Bool.true_or, if_pos rfl]
theorem small_mod {x m : Int} (h : 0 < m) (h2 : m < 2 ^ 64) : small (x % m) = true := by
  unfold small
  have h3 := Int.emod_nonneg x (show m ≠ 0 by omega)
  have h4 := Int.emod_lt_of_pos x h
  rw [decide_eq_true (by omega), decide_eq_true (by omega)]; rfl
theorem o_modI (h : 0 < b) : dMod (.int a) (.int b) = some (.int (a % b)) := by unfold dMod; dsimp only; rw [decide_eq_true h, if_pos rfl]
theorem o_fdivI (h : 0 < b) (h2 : b < 1073741824) : dFdiv (.int a) (.int b) = some (.int (a / b)) := by unfold dFdiv; dsimp only; rw [decide_eq_true h, decide_eq_true h2]; rfl
theorem o_powI (h : (decide (0 ≤ b) && decide (b ≤ 1000000) && decide (a.natAbs < 2 ^ 64)) = true) : dPow (.int a) (.int b) = some (.int (a ^ b.toNat)) := by unfold dPow; dsimp only; rw [h, if_pos rfl]
theorem o_shlI (h : (decide (0 ≤ b) && decide (b ≤ 1000000) && decide (a.natAbs < 2 ^ 64)) = true) : dShl (.int a) (.int b) = some (.int (a * 2 ^ b.toNat)) := by unfold dShl; dsimp only; rw [h, if_pos rfl]
theorem o_intI : dInt (.int a) = some (.int a) := rfl
theorem o_negI : dNeg (.int a) = some (.int (-a)) := rfl
theorem o_notB {b : Bool} : dNot (.bl b) = some (.bl (!b)) := rfl
theorem o_lenT {l : List D} : dLen (.tup l) = some (.int l.length) := rfl
theorem o_lenL {l : List D} : dLen (.lst l) = some (.int l.length) := rfl
theorem ixD_of {n j : Nat} {i : Int} (h : i = (j : Int)) (hj : j < n) : ixD n i = some j := by
  subst h; unfold ixD; rw [if_pos (by omega), if_pos (by omega)]; rfl
theorem o_ixL {l : List D} {i : Int} {j : Nat} {d : D} (h : i = (j : Int)) (e : l[j]? = some d) : dIx (.lst l) (.int i) = some d := by
  have hj : j < l.length := (List.getElem?_eq_some_iff.mp e).1
  unfold dIx; dsimp only; rw [ixD_of h hj]; exact e
theorem o_ixT {l : List D} {i : Int} {j : Nat} {d : D} (h : i = (j : Int)) (e : l[j]? = some d) : dIx (.tup l) (.int i) = some d := by
  have hj : j < l.length := (List.getElem?_eq_some_iff.mp e).1
  unfold dIx; dsimp only; rw [ixD_of h hj]; exact e
theorem ite_dec {P : Prop} [Decidable P] {A B : Prop} (h1 : P → A) (h2 : ¬P → B) : if decide P = true then A else B := by
  by_cases h : P
  · rw [if_pos (decide_eq_true h)]; exact h1 h
  · rw [if_neg (by rw [decide_eq_false h]; decide)]; exact h2 h
theorem ite_ndec {P : Prop} [Decidable P] {A B : Prop} (h1 : ¬P → A) (h2 : P → B) : if (!decide P) = true then A else B := by
  by_cases h : P
  · rw [if_neg (by rw [decide_eq_true h]; decide)]; exact h2 h
  · rw [if_pos (by rw [decide_eq_false h]; rfl)]; exact h1 h
theorem sat_dec {S : Type} {P : Prop} [Decidable P] {r r' : RS S} {Q : Aft S} (h1 : P → r.sat Q) (h2 : ¬P → r'.sat Q) : (if decide P = true then r else r').sat Q := by
  by_cases h : P
  · rw [if_pos (decide_eq_true h)]; exact h1 h
  · rw [if_neg (by rw [decide_eq_false h]; decide)]; exact h2 h
theorem sat_ndec {S : Type} {P : Prop} [Decidable P] {r r' : RS S} {Q : Aft S} (h1 : ¬P → r.sat Q) (h2 : P → r'.sat Q) : (if (!decide P) = true then r else r').sat Q := by
  by_cases h : P
  · rw [if_neg (by rw [decide_eq_true h]; decide)]; exact h2 h
  · rw [if_pos (by rw [decide_eq_false h]; rfl)]; exact h1 h
theorem rsat_dec {S α : Type} {P : Prop} [Decidable P] {r r' : R S α} {Q : α → S → Prop} (h1 : P → r.sat Q) (h2 : ¬P → r'.sat Q) : (if decide P = true then r else r').sat Q := by
  by_cases h : P
  · rw [if_pos (decide_eq_true h)]; exact h1 h
  · rw [if_neg (by rw [decide_eq_false h]; decide)]; exact h2 h
theorem ite_nt {A B : Prop} (h : B) : if (!true) = true then A else B := h
theorem ite_nf {A B : Prop} (h : A) : if (!false) = true then A else B := h
theorem sat_nt {S : Type} {r r' : RS S} {Q : Aft S} (h : r'.sat Q) : (if (!true) = true then r else r').sat Q := h
theorem sat_nf {S : Type} {r r' : RS S} {Q : Aft S} (h : r.sat Q) : (if (!false) = true then r else r').sat Q := h
theorem rsat_nt {S α : Type} {r r' : R S α} {Q : α → S → Prop} (h : r'.sat Q) : (if (!true) = true then r else r').sat Q := h
theorem rsat_nf {S α : Type} {r r' : R S α} {Q : α → S → Prop} (h : r.sat Q) : (if (!false) = true then r else r').sat Q := h
theorem ite_t {A B : Prop} (h : A) : if true = true then A else B := h
theorem ite_f {A B : Prop} (h : B) : if false = true then A else B := h
theorem sat_t {S : Type} {r r' : RS S} {Q : Aft S} (h : r.sat Q) : (if true = true then r else r').sat Q := h
theorem sat_f {S : Type} {r r' : RS S} {Q : Aft S} (h : r'.sat Q) : (if false = true then r else r').sat Q := h
theorem rsat_t {S α : Type} {r r' : R S α} {Q : α → S → Prop} (h : r.sat Q) : (if true = true then r else r').sat Q := h
theorem rsat_f {S α : Type} {r r' : R S α} {Q : α → S → Prop} (h : r'.sat Q) : (if false = true then r else r').sat Q := h
end

/-- a draw's end -/
theorem draw_fin {many x : Int} {h' : Hd} {Q : D → Hd → Prop} (m0 : 0 < many) (a : 0 ≤ h'.at_) (w : ∀ (n : Nat) h', (n : Int) < many → 0 ≤ h'.at_ → Q (.int n) h') : Q (.int (x % many)) h' := by
  have h3 := Int.emod_nonneg x (show many ≠ 0 by omega)
  have h4 := Int.emod_lt_of_pos x m0
  have e : x % many = ((x % many).toNat : Int) := by omega
  rw [e]
  exact w _ _ (by omega) a
theorem cell_at {h : Hd} {Q : Int → Prop} (h0 : 0 ≤ h.at_) (h1 : h.at_ < h.cells.length) (w : ∀ c, Q c) : ∃ z j c, D.int h.at_ = .int z ∧ ixD h.cells.length z = some j ∧ h.cells[j]? = some c ∧ Q c := by
  have hj : h.at_.toNat < h.cells.length := by omega
  exact ⟨h.at_, h.at_.toNat, h.cells[h.at_.toNat], rfl, ixD_of (by omega) hj, List.getElem?_eq_getElem hj, w _⟩
/-! calls, by the number of arguments -/
section
variable {S : Type} {n : Nat} {g : Gs S} {s : S} {Q : D → S → Prop} {a b c d e f : D}
theorem runG0 (h : (g (List.replicate (n - 0) LV.un) s).sat ⟨fun _ s => Q .non s, Q, fun _ _ => False, fun _ _ => False, fun _ _ _ => False⟩) : (runG 0 n g [] s).sat Q := runG_sat (as := []) rfl h
theorem runH0 (h : (g (LV.hnd :: List.replicate (n - 1) LV.un) s).sat ⟨fun _ s => Q .non s, Q, fun _ _ => False, fun _ _ => False, fun _ _ _ => False⟩) : (runH 1 n g [] s).sat Q := runH_sat (as := []) rfl h
theorem runG1 (h : (g (LV.val a :: List.replicate (n - 1) LV.un) s).sat ⟨fun _ s => Q .non s, Q, fun _ _ => False, fun _ _ => False, fun _ _ _ => False⟩) : (runG 1 n g [a] s).sat Q := runG_sat (as := [a]) rfl h
theorem runH1 (h : (g (LV.hnd :: LV.val a :: List.replicate (n - 2) LV.un) s).sat ⟨fun _ s => Q .non s, Q, fun _ _ => False, fun _ _ => False, fun _ _ _ => False⟩) : (runH 2 n g [a] s).sat Q := runH_sat (as := [a]) rfl h
theorem runG2 (h : (g (LV.val a :: LV.val b :: List.replicate (n - 2) LV.un) s).sat ⟨fun _ s => Q .non s, Q, fun _ _ => False, fun _ _ => False, fun _ _ _ => False⟩) : (runG 2 n g [a, b] s).sat Q := runG_sat (as := [a, b]) rfl h
theorem runH2 (h : (g (LV.hnd :: LV.val a :: LV.val b :: List.replicate (n - 3) LV.un) s).sat ⟨fun _ s => Q .non s, Q, fun _ _ => False, fun _ _ => False, fun _ _ _ => False⟩) : (runH 3 n g [a, b] s).sat Q := runH_sat (as := [a, b]) rfl h
theorem runG3 (h : (g (LV.val a :: LV.val b :: LV.val c :: List.replicate (n - 3) LV.un) s).sat ⟨fun _ s => Q .non s, Q, fun _ _ => False, fun _ _ => False, fun _ _ _ => False⟩) : (runG 3 n g [a, b, c] s).sat Q := runG_sat (as := [a, b, c]) rfl h
theorem runH3 (h : (g (LV.hnd :: LV.val a :: LV.val b :: LV.val c :: List.replicate (n - 4) LV.un) s).sat ⟨fun _ s => Q .non s, Q, fun _ _ => False, fun _ _ => False, fun _ _ _ => False⟩) : (runH 4 n g [a, b, c] s).sat Q := runH_sat (as := [a, b, c]) rfl h
theorem runG4 (h : (g (LV.val a :: LV.val b :: LV.val c :: LV.val d :: List.replicate (n - 4) LV.un) s).sat ⟨fun _ s => Q .non s, Q, fun _ _ => False, fun _ _ => False, fun _ _ _ => False⟩) : (runG 4 n g [a, b, c, d] s).sat Q := runG_sat (as := [a, b, c, d]) rfl h
theorem runH4 (h : (g (LV.hnd :: LV.val a :: LV.val b :: LV.val c :: LV.val d :: List.replicate (n - 5) LV.un) s).sat ⟨fun _ s => Q .non s, Q, fun _ _ => False, fun _ _ => False, fun _ _ _ => False⟩) : (runH 5 n g [a, b, c, d] s).sat Q := runH_sat (as := [a, b, c, d]) rfl h
theorem runG5 (h : (g (LV.val a :: LV.val b :: LV.val c :: LV.val d :: LV.val e :: List.replicate (n - 5) LV.un) s).sat ⟨fun _ s => Q .non s, Q, fun _ _ => False, fun _ _ => False, fun _ _ _ => False⟩) : (runG 5 n g [a, b, c, d, e] s).sat Q := runG_sat (as := [a, b, c, d, e]) rfl h
theorem runH5 (h : (g (LV.hnd :: LV.val a :: LV.val b :: LV.val c :: LV.val d :: LV.val e :: List.replicate (n - 6) LV.un) s).sat ⟨fun _ s => Q .non s, Q, fun _ _ => False, fun _ _ => False, fun _ _ _ => False⟩) : (runH 6 n g [a, b, c, d, e] s).sat Q := runH_sat (as := [a, b, c, d, e]) rfl h
theorem runG6 (h : (g (LV.val a :: LV.val b :: LV.val c :: LV.val d :: LV.val e :: LV.val f :: List.replicate (n - 6) LV.un) s).sat ⟨fun _ s => Q .non s, Q, fun _ _ => False, fun _ _ => False, fun _ _ _ => False⟩) : (runG 6 n g [a, b, c, d, e, f] s).sat Q := runG_sat (as := [a, b, c, d, e, f]) rfl h
theorem runH6 (h : (g (LV.hnd :: LV.val a :: LV.val b :: LV.val c :: LV.val d :: LV.val e :: LV.val f :: List.replicate (n - 7) LV.un) s).sat ⟨fun _ s => Q .non s, Q, fun _ _ => False, fun _ _ => False, fun _ _ _ => False⟩) : (runH 7 n g [a, b, c, d, e, f] s).sat Q := runH_sat (as := [a, b, c, d, e, f]) rfl h
end

/-! checks at a def's start -/
section
variable {S : Type} {ρ : Env} {s : S} {m : List D → Unit → R Unit D} {as : As S} {l : List D} {h : Gs S} {c : Nat}
theorem e_callP {d : D} (e1 : as ρ s = .ok l s) (e2 : m l () = .ok d ()) : eCallP m as ρ s = .ok d s := by
  unfold eCallP; rw [e1]; show (match m l () with | .ok d _ => _ | .exc x _ => _ | .bad => _) = _; rw [e2]
theorem e_callPx {x : Exn} (e1 : as ρ s = .ok l s) (e2 : m l () = .exc x ()) : eCallP m as ρ s = .exc x s := by
  unfold eCallP; rw [e1]; show (match m l () with | .ok d _ => _ | .exc x _ => _ | .bad => _) = _; rw [e2]
theorem guard_no (e1 : as ρ s = .ok l s) (e2 : m l () = .ok (.bl false) ()) : gSeq (gIf (tNot' (tVal (eCallP m as))) (gRaise c) gNext) h ρ s = .exc ⟨c, none⟩ ρ s := by
  unfold gSeq gIf tNot' tVal; rw [e_callP e1 e2]; rfl
theorem guard_yes (e1 : as ρ s = .ok l s) (e2 : m l () = .ok (.bl true) ()) : gSeq (gIf (tNot' (tVal (eCallP m as))) (gRaise c) gNext) h ρ s = h ρ s := by
  unfold gSeq gIf tNot' tVal; rw [e_callP e1 e2]; rfl
theorem unit_eq {r : R Unit D} {d : D} (h : r.sat fun e _ => e = d) : r = .ok d () := by
  obtain ⟨e, s, h1, rfl⟩ := R.sat_ex h
  rw [h1]
end
end Fx
set_option Elab.async false
set_option linter.all false
set_option autoImplicit false
set_option maxRecDepth 100000
set_option maxHeartbeats 2000000
/-! Fx, plain: the ascending lots of so many things. -/
namespace Fx
abbrev tn (l : List Nat) : D := .tup (l.map fun (n : Nat) => D.int n)
abbrev dn (n : Nat) : D := .int n
/-- behind a lot's last thing -/
def beg (lot : List Nat) : Nat := match lot.getLast? with
  | some x => x + 1
  | none => 0
def grow (n : Nat) (lot : List Nat) : List (List Nat) := (List.range' (beg lot) (n - beg lot)).map fun x => lot ++ [x]
def lots (n : Nat) : Nat → List (List Nat)
  | 0 => [[]]
  | k + 1 => (lots n k).flatMap (grow n)
theorem lots_len {n : Nat} : ∀ {k : Nat} {lot : List Nat}, lot ∈ lots n k → lot.length = k
  | 0, lot, h => by rw [lots, List.mem_singleton] at h; rw [h]; rfl
  | k + 1, lot, h => by
    rw [lots, List.mem_flatMap] at h
    obtain ⟨l, h1, h2⟩ := h
    unfold grow at h2
    obtain ⟨x, _, rfl⟩ := List.mem_map.mp h2
    rw [List.length_append, lots_len h1]; rfl
theorem lots_lt {n : Nat} : ∀ {k : Nat} {lot : List Nat}, lot ∈ lots n k → ∀ x ∈ lot, x < n
  | 0, lot, h => by rw [lots, List.mem_singleton] at h; rw [h]; intro x hx; cases hx
  | k + 1, lot, h => by
    rw [lots, List.mem_flatMap] at h
    obtain ⟨l, h1, h2⟩ := h
    unfold grow at h2
    obtain ⟨y, hy, rfl⟩ := List.mem_map.mp h2
    rw [List.mem_range'_1] at hy
    intro x hx
    rcases List.mem_append.mp hx with hx | hx
    · exact lots_lt h1 x hx
    · rw [List.mem_singleton] at hx; omega
theorem beg_le {n : Nat} {lot : List Nat} (h : ∀ x ∈ lot, x < n) : beg lot ≤ n := by
  unfold beg
  cases q : lot.getLast? with
  | none => exact Nat.zero_le _
  | some x => exact h x (List.mem_of_getLast? q)
theorem e_range2 {S : Type} {f g : E S} {ρ : Env} {s : S} {i j : Int} (hf : f ρ s = .ok (.int i) s) (hg : g ρ s = .ok (.int j) s) (hi : okR i = true) (hj : okR j = true) : wRange2 f g ρ s = .ok (rangeL i (j - i).toNat) s := by
  unfold wRange2
  rw [hf]; show (g ρ s).bind _ = _
  rw [hg]; show (if (okR i && okR j) = true then _ else _) = _
  rw [hi, hj]; rfl
theorem rangeL_nat (a m : Nat) : rangeL (a : Int) m = (List.range' a m).map dn := by
  unfold rangeL
  rw [List.range'_eq_map_range, List.map_map]
  apply List.map_congr_left
  intro x _
  show D.int ((a : Int) + (x : Int)) = D.int ((a + x : Nat) : Int)
  rw [Int.natCast_add]
theorem rangeL_len (a : Int) (m : Nat) : (rangeL a m).length = m := by unfold rangeL; rw [List.length_map, List.length_range]
theorem okR_nat {n : Nat} (h : n < 2 ^ 62) : okR (n : Int) = true := by
  unfold okR
  rw [decide_eq_true (by omega), decide_eq_true (by omega)]; rfl
theorem o_addT {l m : List D} (h : l.length + m.length ≤ lim) : dAdd (.tup l) (.tup m) = some (.tup (l ++ m)) := by
  unfold dAdd; dsimp only; rw [show Nat.ble (l.length + m.length) lim = true from Nat.ble_eq_true_of_le h, if_pos rfl]
theorem o_ixLastT {l : List D} {d : D} : dIx (.tup (l ++ [d])) (.int (-1)) = some d := by
  unfold dIx ixD; dsimp only
  rw [if_neg (by decide), if_pos (by rw [List.length_append, List.length_singleton]; omega)]
  show (l ++ [d])[((-1 : Int) + ((l ++ [d]).length : Nat)).toNat]? = some d
  rw [List.length_append, List.length_singleton, show ((-1 : Int) + ((l.length + 1 : Nat) : Int)).toNat = l.length by omega, List.getElem?_append_right (Nat.le_refl _), Nat.sub_self]; rfl
theorem snoc_cases {α : Type} (l : List α) : l = [] ∨ ∃ l' x, l = l' ++ [x] := by
  rcases List.eq_nil_or_concat l with h | ⟨l', x, h⟩
  · exact .inl h
  · exact .inr ⟨l', x, by rw [h, List.concat_eq_append]⟩
theorem o_ixLastN {l : List Nat} {x : Nat} : dIx (tn (l ++ [x])) (.int (-1)) = some (dn x) := by
  show dIx (.tup _) _ = _
  rw [List.map_append]
  exact o_ixLastT
section
variable {S : Type}
def g_lots : Gs S :=
  (gSeq (gSet 2 (eOf (fLst (aCons (eTup aNil) aNil))))
  (gSeq (gFor (wRange1 (eVar 1)) (tgN 3) (gSeq (gSetF 4 (fLst aNil))
  (gSeq (gFor (wSeq2 (eVar 2)) (tgN 5) (gSeq (gSet 6 (eIf (tVal (eBin dGt (eUn dLen (bVar 5)) (eC (.int 0)))) (eBin dAdd (eBin dIx (bVar 5) (eUn dNeg (eC (.int 1)))) (eC (.int 1))) (eC (.int 0))))
  (gExt 4 (fLc (wRange2 (eVar 6) (eVar 0)) [7] (tgN 7) tYes' (eBin dAdd (bVar 5) (eTup (aCons (eVar 7) aNil)))))))
  (gFrz 4 (gSet 2 (eVar 4))))))
  (gRet (eVar 2))))
local macro_rules | `(tactic| fail) => `(tactic| with_reducible first
  | refine w_seq ?_ | refine w_set ?_ | refine w_if ?_ | refine w_ret ?_ | refine w_setF ?_ | refine w_drop ?_ | refine w_next ?_ | refine w_break ?_ | refine w_cont ?_ | refine w_tgt ?_ | refine w_par ?_ | refine w_aug (by with_unfolding_all rfl) ?_
  | refine w_hput (by with_unfolding_all rfl) ?_ | refine w_app (by with_unfolding_all rfl) ?_ | refine w_ext (by with_unfolding_all rfl) ?_ | refine w_frz (by with_unfolding_all rfl) ?_
  | refine v_c ?_ | refine v_var (by with_unfolding_all rfl) ?_ | refine v_bvar (by with_unfolding_all rfl) ?_ | refine v_bown (by with_unfolding_all rfl) ?_ | refine v_bin ?_ | refine v_un ?_ | refine v_ml ?_
  | refine v_nil ?_ | refine v_cons ?_ | refine v_tup ?_ | refine v_flst ?_ | refine v_of ?_ | refine v_if ?_ | refine v_callP ?_ | refine v_callH (by with_unfolding_all rfl) ?_ | refine v_lam ?_ | refine v_tval ?_ | refine v_ttru ?_ | refine v_tnot ?_ | refine v_tand ?_ | refine v_tor ?_ | refine v_tyes ?_
  | refine v_range1 ?_ | refine v_range2 ?_ | refine v_seq2 ?_ | refine v_cat ?_
  | refine v_hg (by with_unfolding_all rfl) (by with_unfolding_all rfl) ?_ | refine v_hlen (by with_unfolding_all rfl) ?_ | refine v_hcell (by with_unfolding_all rfl) ?_
  | refine bl_some ?_ | refine int_some ?_ | refine hp_some (by with_unfolding_all rfl) ?_
  | refine op_some o_eqI ?_ | refine op_some o_neI ?_ | refine op_some o_ltI ?_ | refine op_some o_gtI ?_ | refine op_some o_leI ?_ | refine op_some o_geI ?_ | refine op_some o_addI ?_ | refine op_some o_subI ?_
  | refine op_some (o_mulR (by with_unfolding_all decide)) ?_ | refine op_some (o_mulL (by first | with_unfolding_all decide | exact small_mod (by decide) (by decide))) ?_ | refine op_some (o_modI (by first | with_unfolding_all decide | omega)) ?_ | refine op_some (o_fdivI (by first | with_unfolding_all decide | omega) (by first | with_unfolding_all decide | omega)) ?_ | refine op_some (o_powI (by with_unfolding_all decide)) ?_
  | refine un_some o_intI ?_ | refine un_some o_negI ?_ | refine un_some o_notB ?_ | refine un_some o_lenT ?_ | refine un_some o_lenL ?_
  | refine ite_t ?_ | refine ite_f ?_ | refine sat_t ?_ | refine sat_f ?_ | refine rsat_t ?_ | refine rsat_f ?_ | refine ite_dec (fun _ => ?_) (fun _ => ?_) | refine ite_ndec (fun _ => ?_) (fun _ => ?_) | refine sat_dec (fun _ => ?_) (fun _ => ?_) | refine sat_ndec (fun _ => ?_) (fun _ => ?_) | refine rsat_dec (fun _ => ?_) (fun _ => ?_))
theorem flat_le {n : Nat} {done rest found : List (List Nat)} {B : Nat} (e : found = done ++ rest) (h : (found.flatMap (grow n)).length ≤ B) : (done.flatMap (grow n)).length ≤ B := by
  subst e
  rw [List.flatMap_append, List.length_append] at h
  omega
theorem lots_m {n k : Nat} {s : S} (hn : n < 2 ^ 62) (hk : k ≤ 1000) (hl : ∀ j ≤ k, (lots n j).length ≤ lim) : (runG 2 8 g_lots [.int n, .int k] s).sat fun d s' => d = .lst ((lots n k).map tn) ∧ s' = s := by
  refine runG2 ?_
  unfold g_lots
  repeat' fail
  refine ⟨by decide, ?_⟩
  repeat' fail
  refine ⟨by decide, ?_⟩
  repeat' fail
  refine w_for (fun l ρ s' => s' = s ∧ l.length ≤ k ∧ ∃ x3 x4 x5 x6 x7, ρ = [.val (.int n), .val (.int k), .val (.lst ((lots n (k - l.length)).map tn)), x3, x4, x5, x6, x7]) ?_ ?_ ?_
  · repeat' fail
    refine ⟨okR_nat (by omega), ?_⟩
    refine ⟨rfl, ?_, .un, .un, .un, .un, .un, ?_⟩
    · rw [rangeL_len]; omega
    · rw [rangeL_len, show k - (k : Int).toNat = 0 by omega]; rfl
  · rintro d ds ρ s' ⟨rfl, hd, x3, x4, x5, x6, x7, rfl⟩
    refine ⟨_, rfl, ?_⟩
    rw [List.length_cons] at hd
    rw [List.length_cons]
    generalize hj : k - (ds.length + 1) = j
    repeat' fail
    refine ⟨by decide, ?_⟩
    repeat' fail
    refine w_for (fun l ρ s2 => s2 = s' ∧ ∃ done rest x5 x6 x7, l = rest.map tn ∧ lots n j = done ++ rest ∧ ρ = [.val (.int n), .val (.int k), .val (.lst ((lots n j).map tn)), .val d, .own ((done.flatMap (grow n)).map tn), x5, x6, x7]) ?_ ?_ ?_
    · repeat' fail
      exact ⟨_, .inl rfl, rfl, [], lots n j, x5, x6, x7, rfl, rfl, rfl⟩
    · rintro d2 ds2 ρ s2 ⟨rfl, done, rest, x5, x6, x7, hl2, hf, rfl⟩
      cases rest with
      | nil => cases hl2
      | cons lot rest =>
        rw [List.map_cons] at hl2
        injection hl2 with e1 e2
        subst e1
        refine ⟨_, rfl, ?_⟩
        have hlen : lot.length = j := lots_len (n := n) (k := j) (by rw [hf]; simp)
        have hmem : lot ∈ lots n j := by rw [hf]; simp
        have hstep : (done.flatMap (grow n)).length + (grow n lot).length ≤ lim := by
          have h1 := hl (j + 1) (by omega)
          rw [lots, hf] at h1
          rw [List.flatMap_append, List.flatMap_cons, List.length_append, List.length_append] at h1
          omega
        have hfl : ∀ (b : Int), b = beg lot → fLc (wRange2 (eVar 6) (eVar 0)) [7] (tgN 7) tYes' (eBin dAdd (bVar 5) (eTup (aCons (eVar 7) aNil))) [.val (.int n), .val (.int k), .val (.lst ((lots n j).map tn)), .val d, .own ((done.flatMap (grow n)).map tn), .val (tn lot), .val (.int b), x7] s2 = .ok ((grow n lot).map tn) s2 := by
          rintro b rfl
          have em : List.map (fun d => match d with | .int i => .tup (lot.map (fun (n : Nat) => D.int n) ++ [.int i]) | _ => .non) ((List.range' (beg lot) (n - beg lot)).map dn) = (grow n lot).map tn := by
            unfold grow
            rw [List.map_map, List.map_map]
            apply List.map_congr_left
            intro x _
            show D.tup _ = D.tup _
            rw [List.map_append]; rfl
          rw [← em]
          refine v_lcmap (l := (List.range' (beg lot) (n - beg lot)).map dn) (fun d => match d with | .int i => .tup (lot.map (fun (n : Nat) => D.int n) ++ [.int i]) | _ => .non) ?_ ?_ ?_
          · rw [e_range2 (i := beg lot) (j := n) rfl rfl (okR_nat (by have := beg_le (lots_lt hmem); omega)) (okR_nat hn), rangeL_nat, show ((n : Int) - (beg lot : Int)).toNat = n - beg lot by omega]
          · rw [List.length_map, List.length_range']
            have : (grow n lot).length = n - beg lot := by unfold grow; rw [List.length_map, List.length_range']
            omega
          · intro d3 h3
            obtain ⟨x, _, rfl⟩ := List.mem_map.mp h3
            refine ⟨_, rfl, rfl, ?_⟩
            show R.opt (dAdd (tn lot) (.tup [dn x])) s2 = _
            unfold tn
            rw [o_addT (by rw [List.length_map, hlen, List.length_singleton]; have : k ≤ 1000 := hk; unfold lim; omega)]
            rfl
        have hfin : ∀ b : Int, (List.map tn (done.flatMap (grow n))).length + ((grow n lot).map tn).length ≤ lim ∧ s2 = s2 ∧ ∃ done' rest' y5 y6 y7, ds2 = rest'.map tn ∧ lots n j = done' ++ rest' ∧ [.val (.int n), .val (.int k), .val (.lst ((lots n j).map tn)), .val d, .own ((done.flatMap (grow n)).map tn ++ (grow n lot).map tn), .val (tn lot), .val (.int b), x7] = [LV.val (.int n), .val (.int k), .val (.lst ((lots n j).map tn)), .val d, .own ((done'.flatMap (grow n)).map tn), y5, y6, y7] := by
          intro b
          refine ⟨by rw [List.length_map, List.length_map]; exact hstep, rfl, done ++ [lot], rest, .val (tn lot), .val (.int b), x7, e2, by rw [hf]; simp, ?_⟩
          rw [← List.map_append, List.flatMap_append, List.flatMap_singleton]
        repeat' fail
        · rcases snoc_cases lot with rfl | ⟨l, x, rfl⟩
          · exact absurd (by assumption : (0 : Int) < _) (by simp)
          · refine op_some o_ixLastN ?_
            repeat' fail
            exact R.sat_ok (hfl _ (by unfold beg; simp)) (hfin _)
        · rcases snoc_cases lot with rfl | ⟨l, x, rfl⟩
          · exact R.sat_ok (hfl _ rfl) (hfin _)
          · rename_i hx
            exact absurd (by simp) hx
    · rintro ρ s2 ⟨rfl, done, rest, x5, x6, x7, hl2, hf, rfl⟩
      cases rest with
      | cons _ _ => cases hl2
      | nil =>
        rw [List.append_nil] at hf
        subst hf
        repeat' fail
        refine ⟨rfl, by omega, .val d, .val (.lst (((lots n j).flatMap (grow n)).map tn)), x5, x6, x7, ?_⟩
        have ej : k - ds.length = j + 1 := by omega
        rw [ej, lots]
        rfl
  · rintro ρ s2 ⟨rfl, _, x3, x4, x5, x6, x7, rfl⟩
    repeat' fail
    exact ⟨rfl, rfl⟩
end
end Fx
set_option Elab.async false
set_option linter.all false
set_option autoImplicit false
set_option maxRecDepth 100000
set_option maxHeartbeats 4000000
namespace K91
open PySem PySem.Spec PyProof.Rows L2 Fx
def top (i : Nat) : Stmt := PySem.Challenge.pw_signlots_k91_whole_counts_of_rank_two.main.body.getD i (.Pass ⟨0, 0, 0, 0⟩)
def clsAt (st : Stmt) (j : Nat) : Stmt := match st with
  | .ClassDef _ _ _ body _ _ _ _ _ _ _ => body.getD j (.Pass ⟨0, 0, 0, 0⟩)
  | _ => st
def cs_SideError (c : Nat) : Option Bool := ([some true, some true, some true, some true, none] : List (Option Bool)).getD c none
def is_BadSides (c : Nat) : Option Bool := ([some false, some false, some false, some true, none] : List (Option Bool)).getD c none
def is_NoNumber (c : Nat) : Option Bool := ([some false, some true, some false, some false, none] : List (Option Bool)).getD c none
def is_ValueError (c : Nat) : Option Bool := ([some true, some true, some true, some true, none] : List (Option Bool)).getD c none
def tb_signs (c : Nat) : Option Nat := ([none, none, none, none, some 3] : List (Option Nat)).getD c none
def TL (cT : Nat → Addr × Addr) : List (Addr × PySem.Str) := [((cT 0).2, ("_law_is_no_count" : PySem.Str) ++ ".<locals>." ++ "<lambda>"), ((cT 1).2, ("law" : PySem.Str) ++ ".<locals>." ++ "<lambda>")]
/-- what the text's globals are -/
structure Fr (cT : Nat → Addr × Addr) (C : CI) (P : Program) (w : World) (K : PySem.W.Frag) (mg : PySem.Str → Option Value) (base : Heap) : Prop where
  hsh : ∀ d, C.hs d = d.toK.hash w
  cls : ClsAll C K
  ValueError_ : mg "ValueError" = none
  abs_ : mg "abs" = none
  all_ : mg "all" = none
  any_ : mg "any" = none
  bool_ : mg "bool" = none
  dict_ : mg "dict" = none
  int_ : mg "int" = none
  isinstance_ : mg "isinstance" = none
  len_ : mg "len" = none
  min_ : mg "min" = none
  range_ : mg "range" = none
  repr_ : mg "repr" = none
  sorted_ : mg "sorted" = none
  sum_ : mg "sum" = none
  tuple_ : mg "tuple" = none
  zip_ : mg "zip" = none
  EXCHANGE_ : ∃ t, mg "EXCHANGE" = some (.str "exchange" t)
  MOST_COUNTED_ : ∃ t, mg "MOST_COUNTED" = some (.int 12 t)
  MOST_RANK_ : ∃ t, mg "MOST_RANK" = some (.int 4 t)
  MOST_THINGS_ : ∃ t, mg "MOST_THINGS" = some (.int 8 t)
  PICTURE_ : ∃ t, mg "PICTURE" = some (.str "picture" t)
  SIDES_ : ∃ t, mg "SIDES" = some (.str "sides" t)
  exf_BadSides : ∃ cl fI fd, C.xA 3 = some cl ∧ C.fN 3 = (["part"] : List PySem.Str) ∧ OexC K cl ∧ PySem.W.findIn K (.ref cl) "__init__" = some (some (.ref fI)) ∧ PySem.W.typeIn K (.ref fI) = some (.type "function") ∧ PySem.W.findIn K (.ref cl) "part" = some none ∧ L2.Fun K "__init__" "BadSides.__init__" (clsAt (top 4) 0) fI fd ∧ L2.Binds K fd ["self", "part"] [] ∧ mg "BadSides" = some (.ref cl)
  exc_NoNumber : ∀ X : Cx, X.K = K → X.mg = mg → ExC X C "NoNumber" 1
  excl_SideError : ∃ cl, C.xA 0 = some cl ∧ mg "SideError" = some (.ref cl) ∧ ∀ c cl2 b, C.xA c = some cl2 → cs_SideError c = some b → PySem.W.exmOne K (.ref cl2) (.ref cl) = some b
  iscl_BadSides : ∃ cl, C.xA 3 = some cl ∧ mg "BadSides" = some (.ref cl) ∧ ∀ c cl2 b, C.xA c = some cl2 → is_BadSides c = some b → ExT K cl2 ∧ PySem.W.kitOne K (.ref cl2) (.ref cl) = some b
  iscl_NoNumber : ∃ cl, C.xA 1 = some cl ∧ mg "NoNumber" = some (.ref cl) ∧ ∀ c cl2 b, C.xA c = some cl2 → is_NoNumber c = some b → ExT K cl2 ∧ PySem.W.kitOne K (.ref cl2) (.ref cl) = some b
  isT_ValueError : ∀ c cl2 b, C.xA c = some cl2 → is_ValueError c = some b → ExT K cl2 ∧ PySem.W.kitOne K (.ref cl2) (.type "ValueError") = some b
  clsF_Sides : ∀ X : Cx, X.K = K → ClsF X C 4
  fN_Sides : C.fN 4 = (["known", "many", "rank", "signs"] : List PySem.Str)
  mk_Sides : ∃ cl f fd, C.cA 4 = some cl ∧ Mk K cl f ∧ L2.Fun K "__init__" "Sides.__init__" (clsAt (top 28) 0) f fd ∧ mg "Sides" = some (.ref cl) ∧ L2.Binds K fd ["self", "many", "rank", "signs"] []
  d_is_integer : DF K mg "is_integer" (top 11) ["thing"]
  d_is_between : DF K mg "is_between" (top 12) ["thing", "low", "high"]
  d_are_signs : DF K mg "are_signs" (top 13) ["many", "thing"]
  d_lots_of : DF K mg "lots_of" (top 14) ["many", "size"]
  d_order_sign : DF K mg "order_sign" (top 15) ["things"]
  d_known_by : DF K mg "known_by" (top 16) ["many", "rank", "signs"]
  d_sign_in : DF K mg "sign_in" (top 17) ["known", "things"]
  d_base_lots : DF K mg "base_lots" (top 18) ["known"]
  d_put_for : DF K mg "put_for" (top 19) ["lot", "gone", "new"]
  d_is_stuck : DF K mg "is_stuck" (top 20) ["known", "one", "other", "thing"]
  d_first_exchange : DF K mg "first_exchange" (top 21) ["known"]
  d_products_at : DF K mg "products_at" (top 22) ["known", "lot", "four"]
  d_is_one_sided : DF K mg "is_one_sided" (top 23) ["products"]
  d_first_picture : DF K mg "first_picture" (top 24) ["many", "rank", "known"]
  d_is_table : DF K mg "is_table" (top 25) ["many", "rank", "signs"]
  d_told_against : DF K mg "told_against" (top 26) ["many", "rank", "known"]
  d_are_things : DF K mg "are_things" (top 27) ["many", "rank", "things"]
  d_partings_into : DF K mg "partings_into" (top 31) ["size", "groups"]
  d_ways_to_pick : DF K mg "ways_to_pick" (top 32) ["many", "size"]
  d_doubled : DF K mg "doubled" (top 34) ["times"]
  d_least_ring : DF K mg "least_ring" (top 36) ["way"]
  d__law_hand : DF K mg "_law_hand" (top 39) ["script"]
  d__law_draw : DF K mg "_law_draw" (top 40) ["hand", "many"]
  d__law_any : DF K mg "_law_any" (top 41) ["hand", "some"]
  d__law_same : DF K mg "_law_same" (top 42) ["one", "other"]
  d__law_odd : DF K mg "_law_odd" (top 43) ["hand"]
  d__law_lots : DF K mg "_law_lots" (top 44) ["many", "size"]
  d__law_into : DF K mg "_law_into" (top 45) ["many", "groups"]
  d__law_whole : DF K mg "_law_whole" (top 46) ["many"]
  d__law_rings : DF K mg "_law_rings" (top 49) ["many", "groups"]
  gf__law_is_refused : ∃ g cdg, GivF K mg "_law_is_refused" g ["call", "error"] (defScope (top 50)) (defBody (top 50)) cdg "call"
  d_many_of_two : DF K mg "many_of_two" (top 33) ["many"]
  d_rings_of : DF K mg "rings_of" (top 35) ["size", "groups"]
  d_two_alike : DF K mg "two_alike" (top 37) ["many", "groups"]
  d__law_is_let : DF K mg "_law_is_let" (top 48) ["many", "row"]
  d__law_is_no_count : DFc K mg "_law_is_no_count" (top 51) ["odd", "many", "none"] (cT 0).1
  d__law_tried : DF K mg "_law_tried" (top 47) ["many"]
  tb__law_is_no_count : LamX.TabB base mg (cT 0).1 (cT 0).2
  tb_law : LamX.TabB base mg (cT 1).1 (cT 1).2
  tn : ((TL cT).map (·.1)).Nodup
section
variable {cT : Nat → Addr × Addr} {C : CI} {P : Program} {w : World} {K : PySem.W.Frag} {mg : PySem.Str → Option Value} {base : Heap}
theorem ht_signs (fr : Fr cT C P w K mg base) {X : Cx} (hX : X.K = K) : ∀ c j, tb_signs c = some j → ClsF X C c ∧ (C.fN c)[j]? = some ("signs" : PySem.Str) := fun c j h => by
  unfold tb_signs at h
  rcases c with _ | c
  · cases h
  rcases c with _ | c
  · cases h
  rcases c with _ | c
  · cases h
  rcases c with _ | c
  · cases h
  rcases c with _ | c
  · cases h; exact ⟨fr.clsF_Sides X hX, by rw [fr.fN_Sides] <;> rfl⟩
  cases h
theorem sc_exc_BadSides : FnScope ["self", "part"] ["self", "part"] (defScope (clsAt (top 4) 0)) := ⟨by kernel_rfl, by kernel_rfl, by kernel_rfl, by decide +kernel, rfl, by decide +kernel, by decide +kernel⟩
theorem exc_BadSides (fr : Fr cT C P w K mg base) {X : Cx} (h1 : X.prog = P) (h2 : X.w = w) (h3 : X.K = K) (h4 : X.mg = mg) (h5 : X.base = base) : ExC1 X C "BadSides" 3 1 := by
  subst h1 h2 h3 h4 h5
  obtain ⟨cl, fI, fd, a1, a2, a3, a4, a5, a6, a7, a8, a9⟩ := fr.exf_BadSides
  exact ⟨cl, fI, _, fd, _, a1, a2, a3, a4, a5, a6, exinit_ok a7 sc_exc_BadSides rfl rfl fun cdv A outer s H E => pss_one (ps_ost (pv 0) (pv 1)), a8, a9⟩
def N_is_integer : List PySem.Str := ["thing"]
def g_is_integer : Gs Unit :=
  (gRet (eAnd (eUn (dIsTy .int) (bVar 0)) (eUn dNot (eUn (dIsTy .bool) (bVar 0)))))
def m_is_integer : List D → Unit → R Unit D := runG 1 1 g_is_integer
theorem sc_is_integer : FnScope N_is_integer ["thing"] (defScope (top 11)) := ⟨by kernel_rfl, by kernel_rfl, by kernel_rfl, by decide +kernel, rfl, by decide +kernel, by decide +kernel⟩
theorem ok_is_integer (fr : Fr cT C P w K mg base) : Cal P w K mg base 1 "is_integer" (SpM C noHand m_is_integer) := cal_of fr.d_is_integer fun f fd Fu => def_ok Fu sc_is_integer rfl rfl fun cdv A outer s H E hr => by
  have q : GX (defCx P w K mg base N_is_integer "is_integer" (defScope (top 11)) f cdv A outer s H E) := .of rfl hr
  exact (svs_one (sv_ret (ev_and (f_is_int fr.cls fr.isinstance_ fr.int_ (eb_var 0 (pv 0))) (ev_one (ev_not (f_is_bool fr.cls fr.isinstance_ fr.bool_ (eb_var 0 (pv 0))))))))
def N_is_between : List PySem.Str := ["thing", "low", "high"]
def g_is_between : Gs Unit :=
  (gRet (eAnd (eCallP m_is_integer (aCons (eVar 0) aNil)) (eChain dLe dLe (bVar 1) (bVar 0) (bVar 2))))
def m_is_between : List D → Unit → R Unit D := runG 3 3 g_is_between
theorem sc_is_between : FnScope N_is_between ["thing", "low", "high"] (defScope (top 12)) := ⟨by kernel_rfl, by kernel_rfl, by kernel_rfl, by decide +kernel, rfl, by decide +kernel, by decide +kernel⟩
theorem ok_is_between (fr : Fr cT C P w K mg base) : Cal P w K mg base 2 "is_between" (SpM C noHand m_is_between) := cal_of fr.d_is_between fun f fd Fu => def_ok Fu sc_is_between rfl rfl fun cdv A outer s H E hr => by
  have q : GX (defCx P w K mg base N_is_between "is_between" (defScope (top 12)) f cdv A outer s H E) := .of rfl hr
  have c_is_integer := ok_is_integer fr
  exact (svs_one (sv_ret (ev_and (ev_callP c_is_integer (hr.mono (by decide)) def_takes rfl (av_cons (ev_var 0 (pv 0)) av_nil)) (ev_one (c_lele (eb_var 1 (pv 1)) (eb_var 0 (pv 0)) (eb_var 2 (pv 2)))))))
def N_are_signs : List PySem.Str := ["many", "thing", "one"]
def g_are_signs : Gs Unit :=
  (gRet (eAnd (eUn (dIsTy .tuple) (bVar 1)) (eAnd (eBin dEq (eUn dLen (bVar 1)) (bVar 0)) (eUn dAll (eOf (fLc (wSeq2 (bVar 1)) [2] (tgN 2) tYes' (eCallP m_is_between (aCons (eVar 2) (aCons (eUn dNeg (eC (.int 1))) (aCons (eC (.int 1)) aNil))))))))))
def m_are_signs : List D → Unit → R Unit D := runG 2 3 g_are_signs
theorem sc_are_signs : FnScope N_are_signs ["many", "thing"] (defScope (top 13)) := ⟨by kernel_rfl, by kernel_rfl, by kernel_rfl, by decide +kernel, rfl, by decide +kernel, by decide +kernel⟩
theorem ok_are_signs (fr : Fr cT C P w K mg base) : Cal P w K mg base 3 "are_signs" (SpM C noHand m_are_signs) := cal_of fr.d_are_signs fun f fd Fu => def_ok Fu sc_are_signs rfl rfl fun cdv A outer s H E hr => by
  have q : GX (defCx P w K mg base N_are_signs "are_signs" (defScope (top 13)) f cdv A outer s H E) := .of rfl hr
  have c_is_between := ok_is_between fr
  exact (svs_one (sv_ret (ev_and (f_is_tuple fr.cls fr.isinstance_ fr.tuple_ (eb_var 1 (pv 1))) (ev_and (c_eq q (eb_of (f_len fr.len_ (eb_var 1 (pv 1)))) (eb_var 0 (pv 0))) (ev_one (f_all q fr.all_ (eb_of (ev_of (ef_lc (own := [("one", 2)]) rfl sc_are_signs.nd (ib_seq2 (eb_var 1 (pv 1))) (blkOk_by (by kernel_rfl)) (fun _ _ _ _ _ => (gv_name (pg_name sc_are_signs.nd rfl (by first | exact Or.inl rfl | exact Or.inr rfl)))) tvb_nil (fun _ _ _ _ _ => (ev_callP c_is_between (hr.mono (by decide)) LamX.takes0 rfl (av_cons (ev_var 2 (pv 2)) (av_cons (ev_neg ev_int) (av_cons ev_int av_nil))))) (by decide))))))))))
def N_lots_of : List PySem.Str := ["many", "size", "found", "turn", "longer", "lot", "first", "one"]
def g_lots_of : Gs Unit :=
  (gSeq (gSet 2 (eOf (fLst (aCons (eTup aNil) aNil))))
  (gSeq (gFor (wRange1 (eVar 1)) (tgN 3) (gSeq (gSetF 4 (fLst aNil))
  (gSeq (gFor (wSeq2 (eVar 2)) (tgN 5) (gSeq (gSet 6 (eIf (tVal (eBin dGt (eUn dLen (bVar 5)) (eC (.int 0)))) (eBin dAdd (eBin dIx (bVar 5) (eUn dNeg (eC (.int 1)))) (eC (.int 1))) (eC (.int 0))))
  (gExt 4 (fLc (wRange2 (eVar 6) (eVar 0)) [7] (tgN 7) tYes' (eBin dAdd (bVar 5) (eTup (aCons (eVar 7) aNil)))))))
  (gFrz 4 (gSet 2 (eVar 4))))))
  (gRet (eVar 2))))
def m_lots_of : List D → Unit → R Unit D := runG 2 8 g_lots_of
theorem sc_lots_of : FnScope N_lots_of ["many", "size"] (defScope (top 14)) := ⟨by kernel_rfl, by kernel_rfl, by kernel_rfl, by decide +kernel, rfl, by decide +kernel, by decide +kernel⟩
theorem ok_lots_of (fr : Fr cT C P w K mg base) : Cal P w K mg base 1 "lots_of" (SpM C noHand m_lots_of) := cal_of fr.d_lots_of fun f fd Fu => def_ok Fu sc_lots_of rfl rfl fun cdv A outer s H E hr => by
  have q : GX (defCx P w K mg base N_lots_of "lots_of" (defScope (top 14)) f cdv A outer s H E) := .of rfl hr
  exact (svs_cons (sv_set (ev_of (ef_lst (av_cons (ev_tup av_nil) av_nil))) sc_lots_of.nd rfl (by first | exact Or.inl rfl | exact Or.inr rfl))
    (svs_cons (sv_for def_passes rfl (iv_range1 rfl fr.range_ (ev_var 1 (pv 1))) (gv_name (pg_name sc_lots_of.nd rfl (by first | exact Or.inl rfl | exact Or.inr rfl))) (svs_cons (sv_setF (ef_lst av_nil) sc_lots_of.nd rfl (by first | exact Or.inl rfl | exact Or.inr rfl))
    (svs_cons (sv_for def_passes rfl (iv_seq2 (ev_var 2 (pv 2))) (gv_name (pg_name sc_lots_of.nd rfl (by first | exact Or.inl rfl | exact Or.inr rfl))) (svs_cons (sv_set (ev_if (t_gt (eb_of (f_len fr.len_ (eb_var 5 (pv 5)))) (eb_of ev_int)) (b_add (eb_of (ev_ix (eb_var 5 (pv 5)) (eb_of (ev_neg ev_int)) (fun _ _ => rfl))) (eb_of ev_int)) ev_int) sc_lots_of.nd rfl (by first | exact Or.inl rfl | exact Or.inr rfl))
    (svs_one (sv_ext (pv 4) (ef_lc (own := [("one", 7)]) rfl sc_lots_of.nd (ib_of (iv_range2 rfl fr.range_ (ev_var 6 (pv 6)) (ev_var 0 (pv 0)))) (blkOk_by (by kernel_rfl)) (fun _ _ _ _ _ => (gv_name (pg_name sc_lots_of.nd rfl (by first | exact Or.inl rfl | exact Or.inr rfl)))) tvb_nil (fun _ _ _ _ _ => (b_add (eb_var 5 (pv 5)) (eb_of (ev_tup (av_cons (ev_var 7 (pv 7)) av_nil))))) (by decide))))))
    (svs_one (sv_frz (i := 4) (sv_set (ev_var 4 (pv 4)) sc_lots_of.nd rfl (by first | exact Or.inl rfl | exact Or.inr rfl)))))))
    (svs_one (sv_ret (ev_var 2 (pv 2))))))
def N_order_sign : List PySem.Str := ["things", "sign", "at", "before"]
def g_order_sign : Gs Unit :=
  (gSeq (gSet 1 (eC (.int 1)))
  (gSeq (gFor (wRange1 (eUn dLen (bVar 0))) (tgN 2) (gFor (wRange1 (eVar 2)) (tgN 3) (gSeq (gIf (tVal (eBin dEq (eBin dIx (bVar 0) (bVar 3)) (eBin dIx (bVar 0) (bVar 2)))) (gRet (eC (.int 0))) gNext)
  (gIf (tVal (eBin dGt (eBin dIx (bVar 0) (bVar 3)) (eBin dIx (bVar 0) (bVar 2)))) (gSet 1 (eUn dNeg (eVar 1))) gNext))))
  (gRet (eVar 1))))
def m_order_sign : List D → Unit → R Unit D := runG 1 4 g_order_sign
theorem sc_order_sign : FnScope N_order_sign ["things"] (defScope (top 15)) := ⟨by kernel_rfl, by kernel_rfl, by kernel_rfl, by decide +kernel, rfl, by decide +kernel, by decide +kernel⟩
theorem ok_order_sign (fr : Fr cT C P w K mg base) : Cal P w K mg base 1 "order_sign" (SpM C noHand m_order_sign) := cal_of fr.d_order_sign fun f fd Fu => def_ok Fu sc_order_sign rfl rfl fun cdv A outer s H E hr => by
  have q : GX (defCx P w K mg base N_order_sign "order_sign" (defScope (top 15)) f cdv A outer s H E) := .of rfl hr
  exact (svs_cons (sv_set ev_int sc_order_sign.nd rfl (by first | exact Or.inl rfl | exact Or.inr rfl))
    (svs_cons (sv_for def_passes rfl (iv_range1 rfl fr.range_ (f_len fr.len_ (eb_var 0 (pv 0)))) (gv_name (pg_name sc_order_sign.nd rfl (by first | exact Or.inl rfl | exact Or.inr rfl))) (svs_one (sv_for def_passes rfl (iv_range1 rfl fr.range_ (ev_var 2 (pv 2))) (gv_name (pg_name sc_order_sign.nd rfl (by first | exact Or.inl rfl | exact Or.inr rfl))) (svs_cons (sv_if (t_eq q (eb_of (ev_ix (eb_var 0 (pv 0)) (eb_var 3 (pv 3)) (fun _ _ => rfl))) (eb_of (ev_ix (eb_var 0 (pv 0)) (eb_var 2 (pv 2)) (fun _ _ => rfl)))) (svs_one (sv_ret ev_int)) svs_nil)
    (svs_one (sv_if (t_gt (eb_of (ev_ix (eb_var 0 (pv 0)) (eb_var 3 (pv 3)) (fun _ _ => rfl))) (eb_of (ev_ix (eb_var 0 (pv 0)) (eb_var 2 (pv 2)) (fun _ _ => rfl)))) (svs_one (sv_set (ev_neg (ev_var 1 (pv 1))) sc_order_sign.nd rfl (by first | exact Or.inl rfl | exact Or.inr rfl))) svs_nil))))))
    (svs_one (sv_ret (ev_var 1 (pv 1))))))
def N_known_by : List PySem.Str := ["many", "rank", "signs"]
def g_known_by : Gs Unit :=
  (gRet (eDZip (eCallP m_lots_of (aCons (eVar 0) (aCons (eVar 1) aNil))) (bVar 2)))
def m_known_by : List D → Unit → R Unit D := runG 3 3 g_known_by
theorem sc_known_by : FnScope N_known_by ["many", "rank", "signs"] (defScope (top 16)) := ⟨by kernel_rfl, by kernel_rfl, by kernel_rfl, by decide +kernel, rfl, by decide +kernel, by decide +kernel⟩
theorem ok_known_by (fr : Fr cT C P w K mg base) : Cal P w K mg base 2 "known_by" (SpM C noHand m_known_by) := cal_of fr.d_known_by fun f fd Fu => def_ok Fu sc_known_by rfl rfl fun cdv A outer s H E hr => by
  have q : GX (defCx P w K mg base N_known_by "known_by" (defScope (top 16)) f cdv A outer s H E) := .of rfl hr
  have c_lots_of := ok_lots_of fr
  exact (svs_one (sv_ret (ev_dzip fr.hsh q.calm q.hu4 rfl fr.dict_ rfl fr.zip_ (eb_of (ev_callP c_lots_of (hr.mono (by decide)) def_takes rfl (av_cons (ev_var 0 (pv 0)) (av_cons (ev_var 1 (pv 1)) av_nil)))) (eb_var 2 (pv 2)))))
def N_sign_in : List PySem.Str := ["known", "things", "sign"]
def g_sign_in : Gs Unit :=
  (gSeq (gSet 2 (eCallP m_order_sign (aCons (eVar 1) aNil)))
  (gRet (eIf (tVal (eBin dNe (bVar 2) (eC (.int 0)))) (eBin dMul (bVar 2) (eBin dIx3 (bVar 0) (eUn dTuple (eOf (fUn dSorted (bVar 1)))))) (eC (.int 0)))))
def m_sign_in : List D → Unit → R Unit D := runG 2 3 g_sign_in
theorem sc_sign_in : FnScope N_sign_in ["known", "things"] (defScope (top 17)) := ⟨by kernel_rfl, by kernel_rfl, by kernel_rfl, by decide +kernel, rfl, by decide +kernel, by decide +kernel⟩
theorem ok_sign_in (fr : Fr cT C P w K mg base) : Cal P w K mg base 2 "sign_in" (SpM C noHand m_sign_in) := cal_of fr.d_sign_in fun f fd Fu => def_ok Fu sc_sign_in rfl rfl fun cdv A outer s H E hr => by
  have q : GX (defCx P w K mg base N_sign_in "sign_in" (defScope (top 17)) f cdv A outer s H E) := .of rfl hr
  have c_order_sign := ok_order_sign fr
  exact (svs_cons (sv_set (ev_callP c_order_sign (hr.mono (by decide)) def_takes rfl (av_cons (ev_var 1 (pv 1)) av_nil)) sc_sign_in.nd rfl (by first | exact Or.inl rfl | exact Or.inr rfl))
    (svs_one (sv_ret (ev_if (t_ne q (eb_var 2 (pv 2)) (eb_of ev_int)) (b_mul (eb_var 2 (pv 2)) (eb_of (ev_ix2 fr.hsh q.hu4 (eb_var 0 (pv 0)) (eb_of (f_tuple fr.tuple_ (eb_of (ev_of (f_sorted q fr.sorted_ (eb_var 1 (pv 1))))))) (fun _ _ => rfl)))) ev_int))))
def N_base_lots : List PySem.Str := ["known", "lot"]
def g_base_lots : Gs Unit :=
  (gRet (eOf (fLc (wSeq2 (bVar 0)) [1] (tgN 1) (tVal (eBin dNe (eBin dIx3 (bVar 0) (bVar 1)) (eC (.int 0)))) (eVar 1))))
def m_base_lots : List D → Unit → R Unit D := runG 1 2 g_base_lots
theorem sc_base_lots : FnScope N_base_lots ["known"] (defScope (top 18)) := ⟨by kernel_rfl, by kernel_rfl, by kernel_rfl, by decide +kernel, rfl, by decide +kernel, by decide +kernel⟩
theorem ok_base_lots (fr : Fr cT C P w K mg base) : Cal P w K mg base 1 "base_lots" (SpM C noHand m_base_lots) := cal_of fr.d_base_lots fun f fd Fu => def_ok Fu sc_base_lots rfl rfl fun cdv A outer s H E hr => by
  have q : GX (defCx P w K mg base N_base_lots "base_lots" (defScope (top 18)) f cdv A outer s H E) := .of rfl hr
  exact (svs_one (sv_ret (ev_of (ef_lc (own := [("lot", 1)]) rfl sc_base_lots.nd (ib_seq2 (eb_var 0 (pv 0))) (blkOk_by (by kernel_rfl)) (fun _ _ _ _ _ => (gv_name (pg_name sc_base_lots.nd rfl (by first | exact Or.inl rfl | exact Or.inr rfl)))) (tvb_one fun _ _ _ _ _ => (t_ne q.blk (eb_of (ev_ix2 fr.hsh q.blk.hu4 (eb_var 0 (pv 0)) (eb_var 1 (pv 1)) (fun _ _ => rfl))) (eb_of ev_int))) (fun _ _ _ _ _ => (ev_var 1 (pv 1))) (by decide)))))
def N_put_for : List PySem.Str := ["lot", "gone", "new", "one"]
def g_put_for : Gs Unit :=
  (gRet (eUn dTuple (eOf (fUn dSorted (eOf (fCat (eOf (fLc (wSeq2 (bVar 0)) [3] (tgN 3) (tVal (eBin dNe (bVar 3) (bVar 1))) (eVar 3))) (eOf (fLst (aCons (eVar 2) aNil)))))))))
def m_put_for : List D → Unit → R Unit D := runG 3 4 g_put_for
theorem sc_put_for : FnScope N_put_for ["lot", "gone", "new"] (defScope (top 19)) := ⟨by kernel_rfl, by kernel_rfl, by kernel_rfl, by decide +kernel, rfl, by decide +kernel, by decide +kernel⟩
theorem ok_put_for (fr : Fr cT C P w K mg base) : Cal P w K mg base 1 "put_for" (SpM C noHand m_put_for) := cal_of fr.d_put_for fun f fd Fu => def_ok Fu sc_put_for rfl rfl fun cdv A outer s H E hr => by
  have q : GX (defCx P w K mg base N_put_for "put_for" (defScope (top 19)) f cdv A outer s H E) := .of rfl hr
  exact (svs_one (sv_ret (f_tuple fr.tuple_ (eb_of (ev_of (f_sorted q fr.sorted_ (eb_of (ev_of (ef_cat (eb_of (ev_of (ef_lc (own := [("one", 3)]) rfl sc_put_for.nd (ib_seq2 (eb_var 0 (pv 0))) (blkOk_by (by kernel_rfl)) (fun _ _ _ _ _ => (gv_name (pg_name sc_put_for.nd rfl (by first | exact Or.inl rfl | exact Or.inr rfl)))) (tvb_one fun _ _ _ _ _ => (t_ne q.blk (eb_var 3 (pv 3)) (eb_var 1 (pv 1)))) (fun _ _ _ _ _ => (ev_var 3 (pv 3))) (by decide)))) (eb_of (ev_of (ef_lst (av_cons (ev_var 2 (pv 2)) av_nil)))))))))))))
def N_is_stuck : List PySem.Str := ["known", "one", "other", "thing", "new"]
def g_is_stuck : Gs Unit :=
  (gRet (eUn dNot (eUn dAny (eOf (fLc (wSeq2 (bVar 2)) [4] (tgN 4) (tVal (eBin dNotIn (bVar 4) (bVar 1))) (eBin dNe (eBin dIx3 (bVar 0) (eCallP m_put_for (aCons (eVar 1) (aCons (eVar 3) (aCons (eVar 4) aNil))))) (eC (.int 0))))))))
def m_is_stuck : List D → Unit → R Unit D := runG 4 5 g_is_stuck
theorem sc_is_stuck : FnScope N_is_stuck ["known", "one", "other", "thing"] (defScope (top 20)) := ⟨by kernel_rfl, by kernel_rfl, by kernel_rfl, by decide +kernel, rfl, by decide +kernel, by decide +kernel⟩
theorem ok_is_stuck (fr : Fr cT C P w K mg base) : Cal P w K mg base 2 "is_stuck" (SpM C noHand m_is_stuck) := cal_of fr.d_is_stuck fun f fd Fu => def_ok Fu sc_is_stuck rfl rfl fun cdv A outer s H E hr => by
  have q : GX (defCx P w K mg base N_is_stuck "is_stuck" (defScope (top 20)) f cdv A outer s H E) := .of rfl hr
  have c_put_for := ok_put_for fr
  exact (svs_one (sv_ret (ev_not (f_any q fr.any_ (eb_of (ev_of (ef_lc (own := [("new", 4)]) rfl sc_is_stuck.nd (ib_seq2 (eb_var 2 (pv 2))) (blkOk_by (by kernel_rfl)) (fun _ _ _ _ _ => (gv_name (pg_name sc_is_stuck.nd rfl (by first | exact Or.inl rfl | exact Or.inr rfl)))) (tvb_one fun _ _ _ _ _ => (t_ni q.blk (eb_var 4 (pv 4)) (eb_var 1 (pv 1)))) (fun _ _ _ _ _ => (c_ne q.blk (eb_of (ev_ix2 fr.hsh q.blk.hu4 (eb_var 0 (pv 0)) (eb_of (ev_callP c_put_for (hr.mono (by decide)) LamX.takes0 rfl (av_cons (ev_var 1 (pv 1)) (av_cons (ev_var 3 (pv 3)) (av_cons (ev_var 4 (pv 4)) av_nil))))) (fun _ _ => rfl))) (eb_of ev_int))) (by decide))))))))
def N_first_exchange : List PySem.Str := ["known", "lots", "one", "other", "thing"]
def g_first_exchange : Gs Unit :=
  (gSeq (gSet 1 (eCallP m_base_lots (aCons (eVar 0) aNil)))
  (gSeq (gFor (wSeq2 (eVar 1)) (tgN 2) (gFor (wSeq2 (eVar 1)) (tgN 3) (gFor (wSeq2 (eVar 2)) (tgN 4) (gIf (tAnd' (tVal (eBin dNotIn (bVar 4) (bVar 3))) (tVal (eCallP m_is_stuck (aCons (eVar 0) (aCons (eVar 2) (aCons (eVar 3) (aCons (eVar 4) aNil))))))) (gRet (eTup (aCons (eVar 2) (aCons (eVar 3) (aCons (eVar 4) aNil))))) gNext))))
  (gRet (eC .non))))
def m_first_exchange : List D → Unit → R Unit D := runG 1 5 g_first_exchange
theorem sc_first_exchange : FnScope N_first_exchange ["known"] (defScope (top 21)) := ⟨by kernel_rfl, by kernel_rfl, by kernel_rfl, by decide +kernel, rfl, by decide +kernel, by decide +kernel⟩
theorem ok_first_exchange (fr : Fr cT C P w K mg base) : Cal P w K mg base 3 "first_exchange" (SpM C noHand m_first_exchange) := cal_of fr.d_first_exchange fun f fd Fu => def_ok Fu sc_first_exchange rfl rfl fun cdv A outer s H E hr => by
  have q : GX (defCx P w K mg base N_first_exchange "first_exchange" (defScope (top 21)) f cdv A outer s H E) := .of rfl hr
  have c_base_lots := ok_base_lots fr
  have c_is_stuck := ok_is_stuck fr
  exact (svs_cons (sv_set (ev_callP c_base_lots (hr.mono (by decide)) def_takes rfl (av_cons (ev_var 0 (pv 0)) av_nil)) sc_first_exchange.nd rfl (by first | exact Or.inl rfl | exact Or.inr rfl))
    (svs_cons (sv_for def_passes rfl (iv_seq2 (ev_var 1 (pv 1))) (gv_name (pg_name sc_first_exchange.nd rfl (by first | exact Or.inl rfl | exact Or.inr rfl))) (svs_one (sv_for def_passes rfl (iv_seq2 (ev_var 1 (pv 1))) (gv_name (pg_name sc_first_exchange.nd rfl (by first | exact Or.inl rfl | exact Or.inr rfl))) (svs_one (sv_for def_passes rfl (iv_seq2 (ev_var 2 (pv 2))) (gv_name (pg_name sc_first_exchange.nd rfl (by first | exact Or.inl rfl | exact Or.inr rfl))) (svs_one (sv_if (tv_of (wv_and (t_ni q (eb_var 4 (pv 4)) (eb_var 3 (pv 3))) (wv_and1 (tv_val (ev_callP c_is_stuck (hr.mono (by decide)) def_takes rfl (av_cons (ev_var 0 (pv 0)) (av_cons (ev_var 2 (pv 2)) (av_cons (ev_var 3 (pv 3)) (av_cons (ev_var 4 (pv 4)) av_nil))))))))) (svs_one (sv_ret (ev_tup (av_cons (ev_var 2 (pv 2)) (av_cons (ev_var 3 (pv 3)) (av_cons (ev_var 4 (pv 4)) av_nil)))))) svs_nil)))))))
    (svs_one (sv_ret ev_non))))
def N_products_at : List PySem.Str := ["known", "lot", "four", "a", "b", "c", "d"]
def g_products_at : Gs Unit :=
  (gSeq (gTgt (tgT [(tgN 3), (tgN 4), (tgN 5), (tgN 6)]) (eVar 2))
  (gRet (eTup (aCons (eBin dMul (eCallP m_sign_in (aCons (eVar 0) (aCons (eBin dAdd (bVar 1) (eTup (aCons (eVar 3) (aCons (eVar 4) aNil)))) aNil))) (eCallP m_sign_in (aCons (eVar 0) (aCons (eBin dAdd (bVar 1) (eTup (aCons (eVar 5) (aCons (eVar 6) aNil)))) aNil)))) (aCons (eBin dMul (eUn dNeg (eCallP m_sign_in (aCons (eVar 0) (aCons (eBin dAdd (bVar 1) (eTup (aCons (eVar 3) (aCons (eVar 5) aNil)))) aNil)))) (eCallP m_sign_in (aCons (eVar 0) (aCons (eBin dAdd (bVar 1) (eTup (aCons (eVar 4) (aCons (eVar 6) aNil)))) aNil)))) (aCons (eBin dMul (eCallP m_sign_in (aCons (eVar 0) (aCons (eBin dAdd (bVar 1) (eTup (aCons (eVar 3) (aCons (eVar 6) aNil)))) aNil))) (eCallP m_sign_in (aCons (eVar 0) (aCons (eBin dAdd (bVar 1) (eTup (aCons (eVar 4) (aCons (eVar 5) aNil)))) aNil)))) aNil))))))
def m_products_at : List D → Unit → R Unit D := runG 3 7 g_products_at
theorem sc_products_at : FnScope N_products_at ["known", "lot", "four"] (defScope (top 22)) := ⟨by kernel_rfl, by kernel_rfl, by kernel_rfl, by decide +kernel, rfl, by decide +kernel, by decide +kernel⟩
theorem ok_products_at (fr : Fr cT C P w K mg base) : Cal P w K mg base 3 "products_at" (SpM C noHand m_products_at) := cal_of fr.d_products_at fun f fd Fu => def_ok Fu sc_products_at rfl rfl fun cdv A outer s H E hr => by
  have q : GX (defCx P w K mg base N_products_at "products_at" (defScope (top 22)) f cdv A outer s H E) := .of rfl hr
  have c_sign_in := ok_sign_in fr
  exact (svs_cons (sv_asg (ev_var 2 (pv 2)) (gv_tup rfl (gvs_cons (gv_name (pg_name sc_products_at.nd rfl (by first | exact Or.inl rfl | exact Or.inr rfl))) (gvs_cons (gv_name (pg_name sc_products_at.nd rfl (by first | exact Or.inl rfl | exact Or.inr rfl))) (gvs_cons (gv_name (pg_name sc_products_at.nd rfl (by first | exact Or.inl rfl | exact Or.inr rfl))) (gvs_cons (gv_name (pg_name sc_products_at.nd rfl (by first | exact Or.inl rfl | exact Or.inr rfl))) gvs_nil))))))
    (svs_one (sv_ret (ev_tup (av_cons (b_mul (eb_of (ev_callP c_sign_in (hr.mono (by decide)) def_takes rfl (av_cons (ev_var 0 (pv 0)) (av_cons (b_add (eb_var 1 (pv 1)) (eb_of (ev_tup (av_cons (ev_var 3 (pv 3)) (av_cons (ev_var 4 (pv 4)) av_nil))))) av_nil)))) (eb_of (ev_callP c_sign_in (hr.mono (by decide)) def_takes rfl (av_cons (ev_var 0 (pv 0)) (av_cons (b_add (eb_var 1 (pv 1)) (eb_of (ev_tup (av_cons (ev_var 5 (pv 5)) (av_cons (ev_var 6 (pv 6)) av_nil))))) av_nil))))) (av_cons (b_mul (eb_of (ev_neg (ev_callP c_sign_in (hr.mono (by decide)) def_takes rfl (av_cons (ev_var 0 (pv 0)) (av_cons (b_add (eb_var 1 (pv 1)) (eb_of (ev_tup (av_cons (ev_var 3 (pv 3)) (av_cons (ev_var 5 (pv 5)) av_nil))))) av_nil))))) (eb_of (ev_callP c_sign_in (hr.mono (by decide)) def_takes rfl (av_cons (ev_var 0 (pv 0)) (av_cons (b_add (eb_var 1 (pv 1)) (eb_of (ev_tup (av_cons (ev_var 4 (pv 4)) (av_cons (ev_var 6 (pv 6)) av_nil))))) av_nil))))) (av_cons (b_mul (eb_of (ev_callP c_sign_in (hr.mono (by decide)) def_takes rfl (av_cons (ev_var 0 (pv 0)) (av_cons (b_add (eb_var 1 (pv 1)) (eb_of (ev_tup (av_cons (ev_var 3 (pv 3)) (av_cons (ev_var 6 (pv 6)) av_nil))))) av_nil)))) (eb_of (ev_callP c_sign_in (hr.mono (by decide)) def_takes rfl (av_cons (ev_var 0 (pv 0)) (av_cons (b_add (eb_var 1 (pv 1)) (eb_of (ev_tup (av_cons (ev_var 4 (pv 4)) (av_cons (ev_var 5 (pv 5)) av_nil))))) av_nil))))) av_nil)))))))
def N_is_one_sided : List PySem.Str := ["products", "some", "product"]
def g_is_one_sided : Gs Unit :=
  (gSeq (gSet 1 (eOf (fLc (wSeq2 (bVar 0)) [2] (tgN 2) (tVal (eBin dNe (bVar 2) (eC (.int 0)))) (eVar 2))))
  (gRet (eAnd (eBin dGt (eUn dLen (bVar 1)) (eC (.int 0))) (eBin dEq (eMl dCountL (bVar 1) (eBin dIx (bVar 1) (eC (.int 0)))) (eUn dLen (bVar 1))))))
def m_is_one_sided : List D → Unit → R Unit D := runG 1 3 g_is_one_sided
theorem sc_is_one_sided : FnScope N_is_one_sided ["products"] (defScope (top 23)) := ⟨by kernel_rfl, by kernel_rfl, by kernel_rfl, by decide +kernel, rfl, by decide +kernel, by decide +kernel⟩
theorem ok_is_one_sided (fr : Fr cT C P w K mg base) : Cal P w K mg base 1 "is_one_sided" (SpM C noHand m_is_one_sided) := cal_of fr.d_is_one_sided fun f fd Fu => def_ok Fu sc_is_one_sided rfl rfl fun cdv A outer s H E hr => by
  have q : GX (defCx P w K mg base N_is_one_sided "is_one_sided" (defScope (top 23)) f cdv A outer s H E) := .of rfl hr
  exact (svs_cons (by first | exact (sv_setLcV (own := [("product", 2)]) rfl sc_is_one_sided.nd rfl rfl rfl (ib_seq2 (eb_var 0 (pv 0))) (blkOk_by (by kernel_rfl)) (fun _ _ _ _ _ => (gv_name (pg_name sc_is_one_sided.nd rfl (by first | exact Or.inl rfl | exact Or.inr rfl)))) (tvb_one fun _ _ _ _ _ => (t_ne q.blk (eb_var 2 (pv 2)) (eb_of ev_int))) (fun _ _ _ _ _ => (ev_var 2 (pv 2))) (by decide)) | exact (sv_set (ev_of (ef_lc (own := [("product", 2)]) rfl sc_is_one_sided.nd (ib_seq2 (eb_var 0 (pv 0))) (blkOk_by (by kernel_rfl)) (fun _ _ _ _ _ => (gv_name (pg_name sc_is_one_sided.nd rfl (by first | exact Or.inl rfl | exact Or.inr rfl)))) (tvb_one fun _ _ _ _ _ => (t_ne q.blk (eb_var 2 (pv 2)) (eb_of ev_int))) (fun _ _ _ _ _ => (ev_var 2 (pv 2))) (by decide))) sc_is_one_sided.nd rfl (by first | exact Or.inl rfl | exact Or.inr rfl)))
    (svs_one (sv_ret (ev_and (c_gt (eb_of (f_len fr.len_ (eb_var 1 (pv 1)))) (eb_of ev_int)) (ev_one (c_eq q (eb_of (v_count q (eb_var 1 (pv 1)) (eb_of (ev_ix (eb_var 1 (pv 1)) (eb_of ev_int) (fun _ _ => rfl))))) (eb_of (f_len fr.len_ (eb_var 1 (pv 1))))))))))
def N_first_picture : List PySem.Str := ["many", "rank", "known", "lot", "four", "one"]
def g_first_picture : Gs Unit :=
  (gSeq (gIf (tVal (eBin dLt (bVar 1) (eC (.int 2)))) (gRet (eC .non)) gNext)
  (gSeq (gFor (wSeq2 (eCallP m_lots_of (aCons (eVar 0) (aCons (eBin dSub (bVar 1) (eC (.int 2))) aNil)))) (tgN 3) (gFor (wSeq2 (eCallP m_lots_of (aCons (eVar 0) (aCons (eC (.int 4)) aNil)))) (tgN 4) (gIf (tAnd' (tNot' (tVal (eUn dAny (eOf (fLc (wSeq2 (bVar 4)) [5] (tgN 5) tYes' (eBin dIn (bVar 5) (bVar 3))))))) (tVal (eCallP m_is_one_sided (aCons (eCallP m_products_at (aCons (eVar 2) (aCons (eVar 3) (aCons (eVar 4) aNil)))) aNil)))) (gRet (eTup (aCons (eVar 3) (aCons (eVar 4) aNil)))) gNext)))
  (gRet (eC .non))))
def m_first_picture : List D → Unit → R Unit D := runG 3 6 g_first_picture
theorem sc_first_picture : FnScope N_first_picture ["many", "rank", "known"] (defScope (top 24)) := ⟨by kernel_rfl, by kernel_rfl, by kernel_rfl, by decide +kernel, rfl, by decide +kernel, by decide +kernel⟩
theorem ok_first_picture (fr : Fr cT C P w K mg base) : Cal P w K mg base 4 "first_picture" (SpM C noHand m_first_picture) := cal_of fr.d_first_picture fun f fd Fu => def_ok Fu sc_first_picture rfl rfl fun cdv A outer s H E hr => by
  have q : GX (defCx P w K mg base N_first_picture "first_picture" (defScope (top 24)) f cdv A outer s H E) := .of rfl hr
  have c_is_one_sided := ok_is_one_sided fr
  have c_lots_of := ok_lots_of fr
  have c_products_at := ok_products_at fr
  exact (svs_cons (sv_if (t_lt q (eb_var 1 (pv 1)) (eb_of ev_int)) (svs_one (sv_ret ev_non)) svs_nil)
    (svs_cons (sv_for def_passes rfl (iv_seq2 (ev_callP c_lots_of (hr.mono (by decide)) def_takes rfl (av_cons (ev_var 0 (pv 0)) (av_cons (b_sub (eb_var 1 (pv 1)) (eb_of ev_int)) av_nil)))) (gv_name (pg_name sc_first_picture.nd rfl (by first | exact Or.inl rfl | exact Or.inr rfl))) (svs_one (sv_for def_passes rfl (iv_seq2 (ev_callP c_lots_of (hr.mono (by decide)) def_takes rfl (av_cons (ev_var 0 (pv 0)) (av_cons ev_int av_nil)))) (gv_name (pg_name sc_first_picture.nd rfl (by first | exact Or.inl rfl | exact Or.inr rfl))) (svs_one (sv_if (tv_of (wv_and (tv_not (tv_val (f_any q fr.any_ (eb_of (ev_of (ef_lc (own := [("one", 5)]) rfl sc_first_picture.nd (ib_seq2 (eb_var 4 (pv 4))) (blkOk_by (by kernel_rfl)) (fun _ _ _ _ _ => (gv_name (pg_name sc_first_picture.nd rfl (by first | exact Or.inl rfl | exact Or.inr rfl)))) tvb_nil (fun _ _ _ _ _ => (c_in q.blk (eb_var 5 (pv 5)) (eb_var 3 (pv 3)))) (by decide))))))) (wv_and1 (tv_val (ev_callP c_is_one_sided (hr.mono (by decide)) def_takes rfl (av_cons (ev_callP c_products_at (hr.mono (by decide)) def_takes rfl (av_cons (ev_var 2 (pv 2)) (av_cons (ev_var 3 (pv 3)) (av_cons (ev_var 4 (pv 4)) av_nil)))) av_nil)))))) (svs_one (sv_ret (ev_tup (av_cons (ev_var 3 (pv 3)) (av_cons (ev_var 4 (pv 4)) av_nil))))) svs_nil)))))
    (svs_one (sv_ret ev_non))))
def N_is_table : List PySem.Str := ["many", "rank", "signs", "sign"]
def g_is_table : Gs Unit :=
  (gSeq (gIf (tOr' (tNot' (tVal (eUn (dIsTy .tuple) (bVar 2)))) (tVal (eBin dNe (eUn dLen (bVar 2)) (eUn dLen (eCallP m_lots_of (aCons (eVar 0) (aCons (eVar 1) aNil))))))) (gRet (eC (.bl false))) gNext)
  (gRet (eAnd (eCallP m_are_signs (aCons (eUn dLen (bVar 2)) (aCons (eVar 2) aNil))) (eUn dAny (eOf (fLc (wSeq2 (bVar 2)) [3] (tgN 3) tYes' (eBin dNe (bVar 3) (eC (.int 0)))))))))
def m_is_table : List D → Unit → R Unit D := runG 3 4 g_is_table
theorem sc_is_table : FnScope N_is_table ["many", "rank", "signs"] (defScope (top 25)) := ⟨by kernel_rfl, by kernel_rfl, by kernel_rfl, by decide +kernel, rfl, by decide +kernel, by decide +kernel⟩
theorem ok_is_table (fr : Fr cT C P w K mg base) : Cal P w K mg base 4 "is_table" (SpM C noHand m_is_table) := cal_of fr.d_is_table fun f fd Fu => def_ok Fu sc_is_table rfl rfl fun cdv A outer s H E hr => by
  have q : GX (defCx P w K mg base N_is_table "is_table" (defScope (top 25)) f cdv A outer s H E) := .of rfl hr
  have c_are_signs := ok_are_signs fr
  have c_lots_of := ok_lots_of fr
  exact (svs_cons (sv_if (tv_of (wv_or (tv_not (tv_val (f_is_tuple fr.cls fr.isinstance_ fr.tuple_ (eb_var 2 (pv 2))))) (wv_or1 (t_ne q (eb_of (f_len fr.len_ (eb_var 2 (pv 2)))) (eb_of (f_len fr.len_ (eb_of (ev_callP c_lots_of (hr.mono (by decide)) def_takes rfl (av_cons (ev_var 0 (pv 0)) (av_cons (ev_var 1 (pv 1)) av_nil)))))))))) (svs_one (sv_ret ev_bl)) svs_nil)
    (svs_one (sv_ret (ev_and (ev_callP c_are_signs (hr.mono (by decide)) def_takes rfl (av_cons (f_len fr.len_ (eb_var 2 (pv 2))) (av_cons (ev_var 2 (pv 2)) av_nil))) (ev_one (f_any q fr.any_ (eb_of (ev_of (ef_lc (own := [("sign", 3)]) rfl sc_is_table.nd (ib_seq2 (eb_var 2 (pv 2))) (blkOk_by (by kernel_rfl)) (fun _ _ _ _ _ => (gv_name (pg_name sc_is_table.nd rfl (by first | exact Or.inl rfl | exact Or.inr rfl)))) tvb_nil (fun _ _ _ _ _ => (c_ne q.blk (eb_var 3 (pv 3)) (eb_of ev_int))) (by decide))))))))))
def N_told_against : List PySem.Str := ["many", "rank", "known", "exchange", "picture"]
def g_told_against : Gs Unit :=
  (gSeq (gSet 3 (eCallP m_first_exchange (aCons (eVar 2) aNil)))
  (gSeq (gIf (tVal (eUn dNotN (bVar 3))) (gRet (eTup (aCons (eC (.str [101, 120, 99, 104, 97, 110, 103, 101])) (aCons (eVar 3) aNil)))) gNext)
  (gSeq (gSet 4 (eCallP m_first_picture (aCons (eVar 0) (aCons (eVar 1) (aCons (eVar 2) aNil)))))
  (gRet (eIf (tVal (eUn dIsN (bVar 4))) (eTup (aCons (eC (.str [115, 105, 100, 101, 115])) aNil)) (eTup (aCons (eC (.str [112, 105, 99, 116, 117, 114, 101])) (aCons (eVar 4) aNil))))))))
def m_told_against : List D → Unit → R Unit D := runG 3 5 g_told_against
theorem sc_told_against : FnScope N_told_against ["many", "rank", "known"] (defScope (top 26)) := ⟨by kernel_rfl, by kernel_rfl, by kernel_rfl, by decide +kernel, rfl, by decide +kernel, by decide +kernel⟩
theorem ok_told_against (fr : Fr cT C P w K mg base) : Cal P w K mg base 5 "told_against" (SpM C noHand m_told_against) := cal_of fr.d_told_against fun f fd Fu => def_ok Fu sc_told_against rfl rfl fun cdv A outer s H E hr => by
  have q : GX (defCx P w K mg base N_told_against "told_against" (defScope (top 26)) f cdv A outer s H E) := .of rfl hr
  have c_first_exchange := ok_first_exchange fr
  have c_first_picture := ok_first_picture fr
  exact (svs_cons (sv_set (ev_callP c_first_exchange (hr.mono (by decide)) def_takes rfl (av_cons (ev_var 2 (pv 2)) av_nil)) sc_told_against.nd rfl (by first | exact Or.inl rfl | exact Or.inr rfl))
    (svs_cons (sv_if (tv_notN (eb_var 3 (pv 3))) (svs_one (sv_ret (ev_tup (av_cons (ev_gstr fr.EXCHANGE_ (by decide +kernel)) (av_cons (ev_var 3 (pv 3)) av_nil))))) svs_nil)
    (svs_cons (sv_set (ev_callP c_first_picture (hr.mono (by decide)) def_takes rfl (av_cons (ev_var 0 (pv 0)) (av_cons (ev_var 1 (pv 1)) (av_cons (ev_var 2 (pv 2)) av_nil)))) sc_told_against.nd rfl (by first | exact Or.inl rfl | exact Or.inr rfl))
    (svs_one (sv_ret (ev_if (tv_isN (eb_var 4 (pv 4))) (ev_tup (av_cons (ev_gstr fr.SIDES_ (by decide +kernel)) av_nil)) (ev_tup (av_cons (ev_gstr fr.PICTURE_ (by decide +kernel)) (av_cons (ev_var 4 (pv 4)) av_nil)))))))))
def N_are_things : List PySem.Str := ["many", "rank", "things", "one"]
def g_are_things : Gs Unit :=
  (gSeq (gIf (tOr' (tNot' (tVal (eUn (dIsTy .tuple) (bVar 2)))) (tVal (eBin dNe (eUn dLen (bVar 2)) (bVar 1)))) (gRet (eC (.bl false))) gNext)
  (gRet (eUn dAll (eOf (fLc (wSeq2 (bVar 2)) [3] (tgN 3) tYes' (eCallP m_is_between (aCons (eVar 3) (aCons (eC (.int 0)) (aCons (eBin dSub (bVar 0) (eC (.int 1))) aNil)))))))))
def m_are_things : List D → Unit → R Unit D := runG 3 4 g_are_things
theorem sc_are_things : FnScope N_are_things ["many", "rank", "things"] (defScope (top 27)) := ⟨by kernel_rfl, by kernel_rfl, by kernel_rfl, by decide +kernel, rfl, by decide +kernel, by decide +kernel⟩
theorem ok_are_things (fr : Fr cT C P w K mg base) : Cal P w K mg base 3 "are_things" (SpM C noHand m_are_things) := cal_of fr.d_are_things fun f fd Fu => def_ok Fu sc_are_things rfl rfl fun cdv A outer s H E hr => by
  have q : GX (defCx P w K mg base N_are_things "are_things" (defScope (top 27)) f cdv A outer s H E) := .of rfl hr
  have c_is_between := ok_is_between fr
  exact (svs_cons (sv_if (tv_of (wv_or (tv_not (tv_val (f_is_tuple fr.cls fr.isinstance_ fr.tuple_ (eb_var 2 (pv 2))))) (wv_or1 (t_ne q (eb_of (f_len fr.len_ (eb_var 2 (pv 2)))) (eb_var 1 (pv 1)))))) (svs_one (sv_ret ev_bl)) svs_nil)
    (svs_one (sv_ret (f_all q fr.all_ (eb_of (ev_of (ef_lc (own := [("one", 3)]) rfl sc_are_things.nd (ib_seq2 (eb_var 2 (pv 2))) (blkOk_by (by kernel_rfl)) (fun _ _ _ _ _ => (gv_name (pg_name sc_are_things.nd rfl (by first | exact Or.inl rfl | exact Or.inr rfl)))) tvb_nil (fun _ _ _ _ _ => (ev_callP c_is_between (hr.mono (by decide)) LamX.takes0 rfl (av_cons (ev_var 3 (pv 3)) (av_cons ev_int (av_cons (b_sub (eb_var 0 (pv 0)) (eb_of ev_int)) av_nil))))) (by decide))))))))
def N_partings_into : List PySem.Str := ["size", "groups", "counts", "turn", "at"]
def g_partings_into : Gs Unit :=
  (gSeq (gIf (tVal (eBin dEq (bVar 1) (eC (.int 0)))) (gRet (eUn dInt (eBin dEq (bVar 0) (eC (.int 0))))) gNext)
  (gSeq (gSet 2 (eOf (fLc (wRange1 (eBin dAdd (bVar 1) (eC (.int 1)))) [4] (tgN 4) tYes' (eUn dInt (eBin dEq (bVar 4) (eC (.int 0)))))))
  (gSeq (gFor (wRange1 (eVar 0)) (tgN 3) (gSet 2 (eOf (fCat (eOf (fLst (aCons (eC (.int 0)) aNil))) (eOf (fLc (wRange2 (eC (.int 1)) (eBin dAdd (bVar 1) (eC (.int 1)))) [4] (tgN 4) tYes' (eBin dAdd (eBin dIx (bVar 2) (eBin dSub (bVar 4) (eC (.int 1)))) (eBin dMul (bVar 4) (eBin dIx (bVar 2) (bVar 4))))))))))
  (gRet (eBin dIx (bVar 2) (bVar 1))))))
def m_partings_into : List D → Unit → R Unit D := runG 2 5 g_partings_into
theorem sc_partings_into : FnScope N_partings_into ["size", "groups"] (defScope (top 31)) := ⟨by kernel_rfl, by kernel_rfl, by kernel_rfl, by decide +kernel, rfl, by decide +kernel, by decide +kernel⟩
theorem ok_partings_into (fr : Fr cT C P w K mg base) : Cal P w K mg base 1 "partings_into" (SpM C noHand m_partings_into) := cal_of fr.d_partings_into fun f fd Fu => def_ok Fu sc_partings_into rfl rfl fun cdv A outer s H E hr => by
  have q : GX (defCx P w K mg base N_partings_into "partings_into" (defScope (top 31)) f cdv A outer s H E) := .of rfl hr
  exact (svs_cons (sv_if (t_eq q (eb_var 1 (pv 1)) (eb_of ev_int)) (svs_one (sv_ret (f_int fr.int_ (eb_of (c_eq q (eb_var 0 (pv 0)) (eb_of ev_int)))))) svs_nil)
    (svs_cons (by first | exact (sv_setLcV (own := [("at", 4)]) rfl sc_partings_into.nd rfl rfl rfl (ib_of (iv_range1 rfl fr.range_ (b_add (eb_var 1 (pv 1)) (eb_of ev_int)))) (blkOk_by (by kernel_rfl)) (fun _ _ _ _ _ => (gv_name (pg_name sc_partings_into.nd rfl (by first | exact Or.inl rfl | exact Or.inr rfl)))) tvb_nil (fun _ _ _ _ _ => (f_int fr.int_ (eb_of (c_eq q.blk (eb_var 4 (pv 4)) (eb_of ev_int))))) (by decide)) | exact (sv_set (ev_of (ef_lc (own := [("at", 4)]) rfl sc_partings_into.nd (ib_of (iv_range1 rfl fr.range_ (b_add (eb_var 1 (pv 1)) (eb_of ev_int)))) (blkOk_by (by kernel_rfl)) (fun _ _ _ _ _ => (gv_name (pg_name sc_partings_into.nd rfl (by first | exact Or.inl rfl | exact Or.inr rfl)))) tvb_nil (fun _ _ _ _ _ => (f_int fr.int_ (eb_of (c_eq q.blk (eb_var 4 (pv 4)) (eb_of ev_int))))) (by decide))) sc_partings_into.nd rfl (by first | exact Or.inl rfl | exact Or.inr rfl)))
    (svs_cons (sv_for def_passes rfl (iv_range1 rfl fr.range_ (ev_var 0 (pv 0))) (gv_name (pg_name sc_partings_into.nd rfl (by first | exact Or.inl rfl | exact Or.inr rfl))) (svs_one (sv_set (ev_of (ef_cat (eb_of (ev_of (ef_lst (av_cons ev_int av_nil)))) (eb_of (ev_of (ef_lc (own := [("at", 4)]) rfl sc_partings_into.nd (ib_of (iv_range2 rfl fr.range_ ev_int (b_add (eb_var 1 (pv 1)) (eb_of ev_int)))) (blkOk_by (by kernel_rfl)) (fun _ _ _ _ _ => (gv_name (pg_name sc_partings_into.nd rfl (by first | exact Or.inl rfl | exact Or.inr rfl)))) tvb_nil (fun _ _ _ _ _ => (b_add (eb_of (ev_ix (eb_var 2 (pv 2)) (eb_of (b_sub (eb_var 4 (pv 4)) (eb_of ev_int))) (fun _ _ => rfl))) (eb_of (b_mul (eb_var 4 (pv 4)) (eb_of (ev_ix (eb_var 2 (pv 2)) (eb_var 4 (pv 4)) (fun _ _ => rfl))))))) (by decide)))))) sc_partings_into.nd rfl (by first | exact Or.inl rfl | exact Or.inr rfl))))
    (svs_one (sv_ret (ev_ix (eb_var 2 (pv 2)) (eb_var 1 (pv 1)) (fun _ _ => rfl)))))))
def N_ways_to_pick : List PySem.Str := ["many", "size", "found", "at"]
def g_ways_to_pick : Gs Unit :=
  (gSeq (gSet 2 (eC (.int 1)))
  (gSeq (gFor (wRange1 (eVar 1)) (tgN 3) (gSet 2 (eBin dFdiv (eBin dMul (bVar 2) (eBin dSub (bVar 0) (bVar 3))) (eBin dAdd (bVar 3) (eC (.int 1))))))
  (gRet (eVar 2))))
def m_ways_to_pick : List D → Unit → R Unit D := runG 2 4 g_ways_to_pick
theorem sc_ways_to_pick : FnScope N_ways_to_pick ["many", "size"] (defScope (top 32)) := ⟨by kernel_rfl, by kernel_rfl, by kernel_rfl, by decide +kernel, rfl, by decide +kernel, by decide +kernel⟩
theorem ok_ways_to_pick (fr : Fr cT C P w K mg base) : Cal P w K mg base 1 "ways_to_pick" (SpM C noHand m_ways_to_pick) := cal_of fr.d_ways_to_pick fun f fd Fu => def_ok Fu sc_ways_to_pick rfl rfl fun cdv A outer s H E hr => by
  have q : GX (defCx P w K mg base N_ways_to_pick "ways_to_pick" (defScope (top 32)) f cdv A outer s H E) := .of rfl hr
  exact (svs_cons (sv_set ev_int sc_ways_to_pick.nd rfl (by first | exact Or.inl rfl | exact Or.inr rfl))
    (svs_cons (sv_for def_passes rfl (iv_range1 rfl fr.range_ (ev_var 1 (pv 1))) (gv_name (pg_name sc_ways_to_pick.nd rfl (by first | exact Or.inl rfl | exact Or.inr rfl))) (svs_one (sv_set (b_fdiv (eb_of (b_mul (eb_var 2 (pv 2)) (eb_of (b_sub (eb_var 0 (pv 0)) (eb_var 3 (pv 3)))))) (eb_of (b_add (eb_var 3 (pv 3)) (eb_of ev_int)))) sc_ways_to_pick.nd rfl (by first | exact Or.inl rfl | exact Or.inr rfl))))
    (svs_one (sv_ret (ev_var 2 (pv 2))))))
def N_doubled : List PySem.Str := ["times", "found", "turn"]
def g_doubled : Gs Unit :=
  (gSeq (gSet 1 (eC (.int 1)))
  (gSeq (gFor (wRange1 (eVar 0)) (tgN 2) (gSet 1 (eBin dMul (bVar 1) (eC (.int 2)))))
  (gRet (eVar 1))))
def m_doubled : List D → Unit → R Unit D := runG 1 3 g_doubled
theorem sc_doubled : FnScope N_doubled ["times"] (defScope (top 34)) := ⟨by kernel_rfl, by kernel_rfl, by kernel_rfl, by decide +kernel, rfl, by decide +kernel, by decide +kernel⟩
theorem ok_doubled (fr : Fr cT C P w K mg base) : Cal P w K mg base 1 "doubled" (SpM C noHand m_doubled) := cal_of fr.d_doubled fun f fd Fu => def_ok Fu sc_doubled rfl rfl fun cdv A outer s H E hr => by
  have q : GX (defCx P w K mg base N_doubled "doubled" (defScope (top 34)) f cdv A outer s H E) := .of rfl hr
  exact (svs_cons (sv_set ev_int sc_doubled.nd rfl (by first | exact Or.inl rfl | exact Or.inr rfl))
    (svs_cons (sv_for def_passes rfl (iv_range1 rfl fr.range_ (ev_var 0 (pv 0))) (gv_name (pg_name sc_doubled.nd rfl (by first | exact Or.inl rfl | exact Or.inr rfl))) (svs_one (sv_set (b_mul (eb_var 1 (pv 1)) (eb_of ev_int)) sc_doubled.nd rfl (by first | exact Or.inl rfl | exact Or.inr rfl))))
    (svs_one (sv_ret (ev_var 1 (pv 1))))))
def N_least_ring : List PySem.Str := ["way", "some", "at", "turned"]
def g_least_ring : Gs Unit :=
  (gSeq (gSetF 1 (fLst aNil))
  (gSeq (gFor (wRange1 (eUn dLen (bVar 0))) (tgN 2) (gSeq (gSet 3 (eBin dAdd (eSlT (bVar 0) (oSome (bVar 2)) oNone) (eSlT (bVar 0) oNone (oSome (bVar 2)))))
  (gExt 1 (fLst (aCons (eVar 3) (aCons (eUn dRevT (bVar 3)) aNil))))))
  (gRet (eUn dMinS (bVar 1)))))
def m_least_ring : List D → Unit → R Unit D := runG 1 4 g_least_ring
theorem sc_least_ring : FnScope N_least_ring ["way"] (defScope (top 36)) := ⟨by kernel_rfl, by kernel_rfl, by kernel_rfl, by decide +kernel, rfl, by decide +kernel, by decide +kernel⟩
theorem ok_least_ring (fr : Fr cT C P w K mg base) : Cal P w K mg base 1 "least_ring" (SpM C noHand m_least_ring) := cal_of fr.d_least_ring fun f fd Fu => def_ok Fu sc_least_ring rfl rfl fun cdv A outer s H E hr => by
  have q : GX (defCx P w K mg base N_least_ring "least_ring" (defScope (top 36)) f cdv A outer s H E) := .of rfl hr
  exact (svs_cons (sv_setF (ef_lst av_nil) sc_least_ring.nd rfl (by first | exact Or.inl rfl | exact Or.inr rfl))
    (svs_cons (sv_for def_passes rfl (iv_range1 rfl fr.range_ (f_len fr.len_ (eb_var 0 (pv 0)))) (gv_name (pg_name sc_least_ring.nd rfl (by first | exact Or.inl rfl | exact Or.inr rfl))) (svs_cons (sv_set (b_add (eb_of (ev_slT (eb_var 0 (pv 0)) (ov_some (eb_var 2 (pv 2))) ov_none)) (eb_of (ev_slT (eb_var 0 (pv 0)) ov_none (ov_some (eb_var 2 (pv 2)))))) sc_least_ring.nd rfl (by first | exact Or.inl rfl | exact Or.inr rfl))
    (svs_one (sv_ext (pv 1) (ef_lst (av_cons (ev_var 3 (pv 3)) (av_cons (v_rev (eb_var 3 (pv 3))) av_nil)))))))
    (svs_one (sv_ret (f_min q fr.min_ (eb_var 1 (pv 1)))))))
def N__law_hand : List PySem.Str := ["script", "cell"]
def g__law_hand (ns : List Int) : Gs Unit :=
  (gRet (eOf (fLst (aCons (eOf (fLc (wSeq2 (eOf (fScr ns))) [1] (tgN 1) tYes' (eUn dAbs (eUn dInt (bVar 1))))) (aCons (eC (.int 0)) (aCons (eC (.int 0)) (aCons (eBin dAdd (eC (.int 281)) (eBin dMul (eC (.int 3)) (eUn dLen (eOf (fScr ns))))) (aCons (eC (.int 0)) aNil))))))))
def m__law_hand : List Int → Unit → R Unit D := runS 2 g__law_hand
theorem sc__law_hand : FnScope N__law_hand ["script"] (defScope (top 39)) := ⟨by kernel_rfl, by kernel_rfl, by kernel_rfl, by decide +kernel, rfl, by decide +kernel, by decide +kernel⟩
theorem ok__law_hand (fr : Fr cT C P w K mg base) : Cal P w K mg base 1 "_law_hand" (SpS C K m__law_hand) := cal_of fr.d__law_hand fun f fd Fu => def_okS Fu sc__law_hand rfl rfl fun a ns cdv A outer s H E hS hr => by
  have q : GX (defCx P w K mg base N__law_hand "_law_hand" (defScope (top 39)) f cdv A outer s H E) := .of rfl hr
  exact (svs_one (sv_ret (ev_of (ef_lst (av_cons (ev_of (ef_lc (own := [("cell", 1)]) rfl sc__law_hand.nd (ib_seq2 (eb_of (ev_of (ef_scr hS (pv 0))))) (blkOk_by (by kernel_rfl)) (fun _ _ _ _ _ => (gv_name (pg_name sc__law_hand.nd rfl (by first | exact Or.inl rfl | exact Or.inr rfl)))) tvb_nil (fun _ _ _ _ _ => (f_abs fr.abs_ (eb_of (f_int fr.int_ (eb_var 1 (pv 1)))))) (by decide))) (av_cons ev_int (av_cons ev_int (av_cons (b_add (eb_of ev_int) (eb_of (b_mul (eb_of ev_int) (eb_of (f_len fr.len_ (eb_of (ev_of (ef_scr hS (pv 0))))))))) (av_cons ev_int av_nil)))))))))
def N__law_draw : List PySem.Str := ["hand", "many", "number", "cell", "digit"]
def g__law_draw : Gs Hd :=
  (gSeq (gIf (tAnd' (tVal (eBin dEq (eHg 0 2) (eC (.int 0)))) (tVal (eBin dLt (eHg 0 1) (eHlen 0)))) (gSeq (gSet 3 (eHcell 0 (eHg 0 1)))
  (gSeq (gHput 0 1 (eBin dAdd (eHg 0 1) (eC (.int 1))))
  (gSeq (gHput 0 3 (eBin dMod (eUn dInt (eBin dAdd (eBin dAdd (eBin dMul (eHg 0 3) (eC (.int 69621))) (eBin dMul (bVar 3) (eC (.int 40692)))) (eC (.int 241)))) (eC (.int 2147483629))))
  (gIf (tVal (eBin dGe (bVar 3) (eBin dPow (eC (.int 10)) (eC (.int 18))))) (gHput 0 2 (eVar 3)) gNext)))) gNext)
  (gSeq (gIf (tVal (eBin dGt (eHg 0 2) (eC (.int 0)))) (gSeq (gSet 4 (eBin dMod (eUn dInt (eHg 0 2)) (bVar 1)))
  (gSeq (gHput 0 2 (eBin dFdiv (eHg 0 2) (bVar 1)))
  (gRet (eVar 4)))) gNext)
  (gSeq (gHput 0 4 (eBin dAdd (eHg 0 4) (eC (.int 1))))
  (gSeq (gSet 2 (eBin dMod (eUn dInt (eBin dMul (eUn dInt (eBin dAdd (eHg 0 3) (eBin dMul (eC (.int 7919)) (eHg 0 4)))) (eC (.int 48271)))) (eC (.int 2147483647))))
  (gSeq (gSet 2 (eBin dMod (eUn dInt (eBin dMul (bVar 2) (eBin dAdd (eBin dFdiv (bVar 2) (eC (.int 1009))) (eC (.int 69621))))) (eC (.int 2147483647))))
  (gSeq (gSet 2 (eBin dMod (eUn dInt (eBin dMul (bVar 2) (eBin dAdd (eBin dFdiv (bVar 2) (eC (.int 2003))) (eC (.int 40014))))) (eC (.int 2147483563))))
  (gRet (eBin dMod (eUn dInt (eBin dFdiv (bVar 2) (eC (.int 16)))) (bVar 1)))))))))
def m__law_draw : List D → Hd → R Hd D := runH 2 5 g__law_draw
theorem sc__law_draw : FnScope N__law_draw ["hand", "many"] (defScope (top 40)) := ⟨by kernel_rfl, by kernel_rfl, by kernel_rfl, by decide +kernel, rfl, by decide +kernel, by decide +kernel⟩
theorem ok__law_draw (fr : Fr cT C P w K mg base) : Cal P w K mg base 1 "_law_draw" (SpH C (handK (TL cT)) m__law_draw) := cal_of fr.d__law_draw fun f fd Fu => def_okH Fu sc__law_draw rfl rfl fun cdv A outer s H E hr => by
  have q : GX (defCx P w K mg base N__law_draw "_law_draw" (defScope (top 40)) f cdv A outer s H E) := .of rfl hr
  exact (svs_cons (sv_if (tv_of (wv_and (t_eq q (eb_of (ev_hg (j := 2) (pv 0) (fun _ _ => rfl))) (eb_of ev_int)) (wv_and1 (t_lt q (eb_of (ev_hg (j := 1) (pv 0) (fun _ _ => rfl))) (eb_of (ev_hlen (pv 0) fr.len_ (fun _ _ => rfl))))))) (svs_cons (sv_set (ev_hcell (pv 0) (fun _ _ => rfl) (ev_hg (j := 1) (pv 0) (fun _ _ => rfl)) (fun _ _ => rfl)) sc__law_draw.nd rfl (by first | exact Or.inl rfl | exact Or.inr rfl))
    (svs_cons (sv_hput (j := 1) (pv 0) (b_add (eb_of (ev_hg (j := 1) (pv 0) (fun _ _ => rfl))) (eb_of ev_int)))
    (svs_cons (sv_hput (j := 3) (pv 0) (b_mod (eb_of (f_int fr.int_ (eb_of (b_add (eb_of (b_add (eb_of (b_mul (eb_of (ev_hg (j := 3) (pv 0) (fun _ _ => rfl))) (eb_of ev_int))) (eb_of (b_mul (eb_var 3 (pv 3)) (eb_of ev_int))))) (eb_of ev_int))))) (eb_of ev_int)))
    (svs_one (sv_if (t_ge (eb_var 3 (pv 3)) (eb_of (b_pow (eb_of ev_int) (eb_of ev_int)))) (svs_one (sv_hput (j := 2) (pv 0) (ev_var 3 (pv 3)))) svs_nil))))) svs_nil)
    (svs_cons (sv_if (t_gt (eb_of (ev_hg (j := 2) (pv 0) (fun _ _ => rfl))) (eb_of ev_int)) (svs_cons (sv_set (b_mod (eb_of (f_int fr.int_ (eb_of (ev_hg (j := 2) (pv 0) (fun _ _ => rfl))))) (eb_var 1 (pv 1))) sc__law_draw.nd rfl (by first | exact Or.inl rfl | exact Or.inr rfl))
    (svs_cons (sv_hput (j := 2) (pv 0) (b_fdiv (eb_of (ev_hg (j := 2) (pv 0) (fun _ _ => rfl))) (eb_var 1 (pv 1))))
    (svs_one (sv_ret (ev_var 4 (pv 4)))))) svs_nil)
    (svs_cons (sv_hput (j := 4) (pv 0) (b_add (eb_of (ev_hg (j := 4) (pv 0) (fun _ _ => rfl))) (eb_of ev_int)))
    (svs_cons (sv_set (b_mod (eb_of (f_int fr.int_ (eb_of (b_mul (eb_of (f_int fr.int_ (eb_of (b_add (eb_of (ev_hg (j := 3) (pv 0) (fun _ _ => rfl))) (eb_of (b_mul (eb_of ev_int) (eb_of (ev_hg (j := 4) (pv 0) (fun _ _ => rfl))))))))) (eb_of ev_int))))) (eb_of ev_int)) sc__law_draw.nd rfl (by first | exact Or.inl rfl | exact Or.inr rfl))
    (svs_cons (sv_set (b_mod (eb_of (f_int fr.int_ (eb_of (b_mul (eb_var 2 (pv 2)) (eb_of (b_add (eb_of (b_fdiv (eb_var 2 (pv 2)) (eb_of ev_int))) (eb_of ev_int))))))) (eb_of ev_int)) sc__law_draw.nd rfl (by first | exact Or.inl rfl | exact Or.inr rfl))
    (svs_cons (sv_set (b_mod (eb_of (f_int fr.int_ (eb_of (b_mul (eb_var 2 (pv 2)) (eb_of (b_add (eb_of (b_fdiv (eb_var 2 (pv 2)) (eb_of ev_int))) (eb_of ev_int))))))) (eb_of ev_int)) sc__law_draw.nd rfl (by first | exact Or.inl rfl | exact Or.inr rfl))
    (svs_one (sv_ret (b_mod (eb_of (f_int fr.int_ (eb_of (b_fdiv (eb_var 2 (pv 2)) (eb_of ev_int))))) (eb_var 1 (pv 1)))))))))))
def N__law_any : List PySem.Str := ["hand", "some"]
def g__law_any : Gs Hd :=
  (gRet (eBin dIx (bVar 1) (eCallH 0 m__law_draw (aCons (eUn dLen (bVar 1)) aNil))))
def m__law_any : List D → Hd → R Hd D := runH 2 2 g__law_any
theorem sc__law_any : FnScope N__law_any ["hand", "some"] (defScope (top 41)) := ⟨by kernel_rfl, by kernel_rfl, by kernel_rfl, by decide +kernel, rfl, by decide +kernel, by decide +kernel⟩
theorem ok__law_any (fr : Fr cT C P w K mg base) : Cal P w K mg base 2 "_law_any" (SpH C (handK (TL cT)) m__law_any) := cal_of fr.d__law_any fun f fd Fu => def_okH Fu sc__law_any rfl rfl fun cdv A outer s H E hr => by
  have q : GX (defCx P w K mg base N__law_any "_law_any" (defScope (top 41)) f cdv A outer s H E) := .of rfl hr
  have c__law_draw := ok__law_draw fr
  exact (svs_one (sv_ret (ev_ix (eb_var 1 (pv 1)) (eb_of (ev_callH c__law_draw (hr.mono (by decide)) def_takes rfl (pv 0) (av_cons (f_len fr.len_ (eb_var 1 (pv 1))) av_nil))) (fun _ _ => rfl))))
def N__law_same : List PySem.Str := ["one", "other"]
def g__law_same : Gs Unit :=
  (gRet (eRepI (bVar 0) (bVar 1)))
def m__law_same : List D → Unit → R Unit D := runG 2 2 g__law_same
theorem sc__law_same : FnScope N__law_same ["one", "other"] (defScope (top 42)) := ⟨by kernel_rfl, by kernel_rfl, by kernel_rfl, by decide +kernel, rfl, by decide +kernel, by decide +kernel⟩
theorem ok__law_same (fr : Fr cT C P w K mg base) : Cal P w K mg base 1 "_law_same" (SpM C noHand m__law_same) := cal_of fr.d__law_same fun f fd Fu => def_ok Fu sc__law_same rfl rfl fun cdv A outer s H E hr => by
  have q : GX (defCx P w K mg base N__law_same "_law_same" (defScope (top 42)) f cdv A outer s H E) := .of rfl hr
  exact (svs_one (sv_ret (v_rep fr.repr_ (eb_var 0 (pv 0)) (eb_var 1 (pv 1)))))
def N__law_odd : List PySem.Str := ["hand", "deep", "turn"]
def g__law_odd : Gs Hd :=
  (gSeq (gSet 1 (eC .non))
  (gSeq (gFor (wRange1 (eBin dAdd (eC (.int 1)) (eCallH 0 m__law_draw (aCons (eC (.int 45)) aNil)))) (tgN 2) (gSet 1 (eBin dIx (eOf (fLst (aCons (eTup (aCons (eVar 1) aNil)) (aCons (eOf (fLst (aCons (eVar 1) aNil))) (aCons (eD1 (eC (.int 0)) (eVar 1)) aNil))))) (eCallH 0 m__law_draw (aCons (eC (.int 3)) aNil)))))
  (gRet (eCallH 0 m__law_any (aCons (eOf (fLst (aCons (eC .non) (aCons (eC (.bl true)) (aCons (eC (.bl false)) (aCons (eUn dNeg (eC (.int 1))) (aCons (eC (.str [])) (aCons (eC (.str [97, 110, 110])) (aCons (eOf (fLst aNil)) (aCons (eC (.dct [])) (aCons (eTup (aCons (eTup aNil) aNil)) (aCons (eTup (aCons (eC .non) aNil)) (aCons (eTup (aCons (eTup (aCons (eC (.int 0)) (aCons (eC (.int 0)) aNil))) aNil)) (aCons (eBin dPow (eC (.int 10)) (eC (.int 11))) (aCons (eVar 1) aNil))))))))))))))) aNil)))))
def m__law_odd : List D → Hd → R Hd D := runH 1 3 g__law_odd
theorem sc__law_odd : FnScope N__law_odd ["hand"] (defScope (top 43)) := ⟨by kernel_rfl, by kernel_rfl, by kernel_rfl, by decide +kernel, rfl, by decide +kernel, by decide +kernel⟩
theorem ok__law_odd (fr : Fr cT C P w K mg base) : Cal P w K mg base 3 "_law_odd" (SpH C (handK (TL cT)) m__law_odd) := cal_of fr.d__law_odd fun f fd Fu => def_okH Fu sc__law_odd rfl rfl fun cdv A outer s H E hr => by
  have q : GX (defCx P w K mg base N__law_odd "_law_odd" (defScope (top 43)) f cdv A outer s H E) := .of rfl hr
  have c__law_any := ok__law_any fr
  have c__law_draw := ok__law_draw fr
  exact (svs_cons (sv_set ev_non sc__law_odd.nd rfl (by first | exact Or.inl rfl | exact Or.inr rfl))
    (svs_cons (sv_for def_passes rfl (iv_range1 rfl fr.range_ (b_add (eb_of ev_int) (eb_of (ev_callH c__law_draw (hr.mono (by decide)) def_takes rfl (pv 0) (av_cons ev_int av_nil))))) (gv_name (pg_name sc__law_odd.nd rfl (by first | exact Or.inl rfl | exact Or.inr rfl))) (svs_one (sv_set (ev_ix (eb_of (ev_of (ef_lst (av_cons (ev_tup (av_cons (ev_var 1 (pv 1)) av_nil)) (av_cons (ev_of (ef_lst (av_cons (ev_var 1 (pv 1)) av_nil))) (av_cons (ev_d1 fr.hsh ev_int (ev_var 1 (pv 1))) av_nil)))))) (eb_of (ev_callH c__law_draw (hr.mono (by decide)) def_takes rfl (pv 0) (av_cons ev_int av_nil))) (fun _ _ => rfl)) sc__law_odd.nd rfl (by first | exact Or.inl rfl | exact Or.inr rfl))))
    (svs_one (sv_ret (ev_callH c__law_any (hr.mono (by decide)) def_takes rfl (pv 0) (av_cons (ev_of (ef_lst (av_cons ev_non (av_cons ev_bl (av_cons ev_bl (av_cons (ev_neg ev_int) (av_cons (ev_str (by decide +kernel)) (av_cons (ev_str (by decide +kernel)) (av_cons (ev_of (ef_lst av_nil)) (av_cons ev_d0 (av_cons (ev_tup (av_cons (ev_tup av_nil) av_nil)) (av_cons (ev_tup (av_cons ev_non av_nil)) (av_cons (ev_tup (av_cons (ev_tup (av_cons ev_int (av_cons ev_int av_nil))) av_nil)) (av_cons (b_pow (eb_of ev_int) (eb_of ev_int)) (av_cons (ev_var 1 (pv 1)) av_nil))))))))))))))) av_nil))))))
def N__law_lots : List PySem.Str := ["many", "size", "found", "turn", "longer", "lot", "begin", "thing"]
def g__law_lots : Gs Unit :=
  (gSeq (gSet 2 (eOf (fLst (aCons (eTup aNil) aNil))))
  (gSeq (gFor (wRange1 (eVar 1)) (tgN 3) (gSeq (gSetF 4 (fLst aNil))
  (gSeq (gFor (wSeq2 (eVar 2)) (tgN 5) (gSeq (gSet 6 (eIf (tVal (eBin dGt (eUn dLen (bVar 5)) (eC (.int 0)))) (eBin dAdd (eBin dIx (bVar 5) (eUn dNeg (eC (.int 1)))) (eC (.int 1))) (eC (.int 0))))
  (gExt 4 (fLc (wRange2 (eVar 6) (eVar 0)) [7] (tgN 7) tYes' (eBin dAdd (bVar 5) (eTup (aCons (eVar 7) aNil)))))))
  (gFrz 4 (gSet 2 (eVar 4))))))
  (gRet (eVar 2))))
def m__law_lots : List D → Unit → R Unit D := runG 2 8 g__law_lots
theorem sc__law_lots : FnScope N__law_lots ["many", "size"] (defScope (top 44)) := ⟨by kernel_rfl, by kernel_rfl, by kernel_rfl, by decide +kernel, rfl, by decide +kernel, by decide +kernel⟩
theorem ok__law_lots (fr : Fr cT C P w K mg base) : Cal P w K mg base 1 "_law_lots" (SpM C noHand m__law_lots) := cal_of fr.d__law_lots fun f fd Fu => def_ok Fu sc__law_lots rfl rfl fun cdv A outer s H E hr => by
  have q : GX (defCx P w K mg base N__law_lots "_law_lots" (defScope (top 44)) f cdv A outer s H E) := .of rfl hr
  exact (svs_cons (sv_set (ev_of (ef_lst (av_cons (ev_tup av_nil) av_nil))) sc__law_lots.nd rfl (by first | exact Or.inl rfl | exact Or.inr rfl))
    (svs_cons (sv_for def_passes rfl (iv_range1 rfl fr.range_ (ev_var 1 (pv 1))) (gv_name (pg_name sc__law_lots.nd rfl (by first | exact Or.inl rfl | exact Or.inr rfl))) (svs_cons (sv_setF (ef_lst av_nil) sc__law_lots.nd rfl (by first | exact Or.inl rfl | exact Or.inr rfl))
    (svs_cons (sv_for def_passes rfl (iv_seq2 (ev_var 2 (pv 2))) (gv_name (pg_name sc__law_lots.nd rfl (by first | exact Or.inl rfl | exact Or.inr rfl))) (svs_cons (sv_set (ev_if (t_gt (eb_of (f_len fr.len_ (eb_var 5 (pv 5)))) (eb_of ev_int)) (b_add (eb_of (ev_ix (eb_var 5 (pv 5)) (eb_of (ev_neg ev_int)) (fun _ _ => rfl))) (eb_of ev_int)) ev_int) sc__law_lots.nd rfl (by first | exact Or.inl rfl | exact Or.inr rfl))
    (svs_one (sv_ext (pv 4) (ef_lc (own := [("thing", 7)]) rfl sc__law_lots.nd (ib_of (iv_range2 rfl fr.range_ (ev_var 6 (pv 6)) (ev_var 0 (pv 0)))) (blkOk_by (by kernel_rfl)) (fun _ _ _ _ _ => (gv_name (pg_name sc__law_lots.nd rfl (by first | exact Or.inl rfl | exact Or.inr rfl)))) tvb_nil (fun _ _ _ _ _ => (b_add (eb_var 5 (pv 5)) (eb_of (ev_tup (av_cons (ev_var 7 (pv 7)) av_nil))))) (by decide))))))
    (svs_one (sv_frz (i := 4) (sv_set (ev_var 4 (pv 4)) sc__law_lots.nd rfl (by first | exact Or.inl rfl | exact Or.inr rfl)))))))
    (svs_one (sv_ret (ev_var 2 (pv 2))))))
def N__law_into : List PySem.Str := ["many", "groups", "rows", "thing", "at"]
def g__law_into : Gs Unit :=
  (gSeq (gSet 2 (eOf (fCat (eOf (fLst (aCons (eC (.int 1)) aNil))) (eOf (fRep (eOf (fLst (aCons (eC (.int 0)) aNil))) (bVar 1))))))
  (gSeq (gFor (wRange1 (eVar 0)) (tgN 3) (gSet 2 (eOf (fCat (eOf (fLst (aCons (eC (.int 0)) aNil))) (eOf (fLc (wRange2 (eC (.int 1)) (eBin dAdd (bVar 1) (eC (.int 1)))) [4] (tgN 4) tYes' (eBin dAdd (eBin dMul (bVar 4) (eBin dIx (bVar 2) (bVar 4))) (eBin dIx (bVar 2) (eBin dSub (bVar 4) (eC (.int 1)))))))))))
  (gRet (eBin dIx (bVar 2) (bVar 1)))))
def m__law_into : List D → Unit → R Unit D := runG 2 5 g__law_into
theorem sc__law_into : FnScope N__law_into ["many", "groups"] (defScope (top 45)) := ⟨by kernel_rfl, by kernel_rfl, by kernel_rfl, by decide +kernel, rfl, by decide +kernel, by decide +kernel⟩
theorem ok__law_into (fr : Fr cT C P w K mg base) : Cal P w K mg base 1 "_law_into" (SpM C noHand m__law_into) := cal_of fr.d__law_into fun f fd Fu => def_ok Fu sc__law_into rfl rfl fun cdv A outer s H E hr => by
  have q : GX (defCx P w K mg base N__law_into "_law_into" (defScope (top 45)) f cdv A outer s H E) := .of rfl hr
  exact (svs_cons (sv_set (ev_of (ef_cat (eb_of (ev_of (ef_lst (av_cons ev_int av_nil)))) (eb_of (ev_of (ef_rep (eb_of (ev_of (ef_lst (av_cons ev_int av_nil)))) (eb_var 1 (pv 1))))))) sc__law_into.nd rfl (by first | exact Or.inl rfl | exact Or.inr rfl))
    (svs_cons (sv_for def_passes rfl (iv_range1 rfl fr.range_ (ev_var 0 (pv 0))) (gv_name (pg_name sc__law_into.nd rfl (by first | exact Or.inl rfl | exact Or.inr rfl))) (svs_one (sv_set (ev_of (ef_cat (eb_of (ev_of (ef_lst (av_cons ev_int av_nil)))) (eb_of (ev_of (ef_lc (own := [("at", 4)]) rfl sc__law_into.nd (ib_of (iv_range2 rfl fr.range_ ev_int (b_add (eb_var 1 (pv 1)) (eb_of ev_int)))) (blkOk_by (by kernel_rfl)) (fun _ _ _ _ _ => (gv_name (pg_name sc__law_into.nd rfl (by first | exact Or.inl rfl | exact Or.inr rfl)))) tvb_nil (fun _ _ _ _ _ => (b_add (eb_of (b_mul (eb_var 4 (pv 4)) (eb_of (ev_ix (eb_var 2 (pv 2)) (eb_var 4 (pv 4)) (fun _ _ => rfl))))) (eb_of (ev_ix (eb_var 2 (pv 2)) (eb_of (b_sub (eb_var 4 (pv 4)) (eb_of ev_int))) (fun _ _ => rfl))))) (by decide)))))) sc__law_into.nd rfl (by first | exact Or.inl rfl | exact Or.inr rfl))))
    (svs_one (sv_ret (ev_ix (eb_var 2 (pv 2)) (eb_var 1 (pv 1)) (fun _ _ => rfl))))))
def N__law_whole : List PySem.Str := ["many", "found", "used", "groups", "some", "ways_here", "laid", "number"]
def g__law_whole : Gs Unit :=
  (gSeq (gSet 1 (eC (.int 0)))
  (gSeq (gFor (wRange2 (eC (.int 2)) (eBin dAdd (bVar 0) (eC (.int 1)))) (tgN 2) (gSeq (gPar 4 5 (eUn dLen (eCallP m__law_lots (aCons (eVar 0) (aCons (eVar 2) aNil)))) (eC (.int 0)))
  (gSeq (gFor (wRange2 (eC (.int 2)) (eBin dAdd (bVar 2) (eC (.int 1)))) (tgN 3) (gSeq (gSet 6 (eC (.int 1)))
  (gSeq (gFor (wRange2 (eC (.int 1)) (eVar 3)) (tgN 7) (gSet 6 (eBin dMul (bVar 6) (bVar 7))))
  (gSet 5 (eBin dAdd (bVar 5) (eBin dMul (eCallP m__law_into (aCons (eVar 2) (aCons (eVar 3) aNil))) (bVar 6)))))))
  (gSet 1 (eBin dAdd (bVar 1) (eBin dMul (eBin dMul (bVar 4) (bVar 5)) (eBin dShl (eC (.int 1)) (eBin dSub (bVar 2) (eC (.int 2))))))))))
  (gRet (eVar 1))))
def m__law_whole : List D → Unit → R Unit D := runG 1 8 g__law_whole
theorem sc__law_whole : FnScope N__law_whole ["many"] (defScope (top 46)) := ⟨by kernel_rfl, by kernel_rfl, by kernel_rfl, by decide +kernel, rfl, by decide +kernel, by decide +kernel⟩
theorem ok__law_whole (fr : Fr cT C P w K mg base) : Cal P w K mg base 2 "_law_whole" (SpM C noHand m__law_whole) := cal_of fr.d__law_whole fun f fd Fu => def_ok Fu sc__law_whole rfl rfl fun cdv A outer s H E hr => by
  have q : GX (defCx P w K mg base N__law_whole "_law_whole" (defScope (top 46)) f cdv A outer s H E) := .of rfl hr
  have c__law_into := ok__law_into fr
  have c__law_lots := ok__law_lots fr
  exact (svs_cons (sv_set ev_int sc__law_whole.nd rfl (by first | exact Or.inl rfl | exact Or.inr rfl))
    (svs_cons (sv_for def_passes rfl (iv_range2 rfl fr.range_ ev_int (b_add (eb_var 0 (pv 0)) (eb_of ev_int))) (gv_name (pg_name sc__law_whole.nd rfl (by first | exact Or.inl rfl | exact Or.inr rfl))) (svs_cons (sv_par (f_len fr.len_ (eb_of (ev_callP c__law_lots (hr.mono (by decide)) def_takes rfl (av_cons (ev_var 0 (pv 0)) (av_cons (ev_var 2 (pv 2)) av_nil))))) ev_int rfl sc__law_whole.nd rfl rfl (by decide) rfl rfl rfl)
    (svs_cons (sv_for def_passes rfl (iv_range2 rfl fr.range_ ev_int (b_add (eb_var 2 (pv 2)) (eb_of ev_int))) (gv_name (pg_name sc__law_whole.nd rfl (by first | exact Or.inl rfl | exact Or.inr rfl))) (svs_cons (sv_set ev_int sc__law_whole.nd rfl (by first | exact Or.inl rfl | exact Or.inr rfl))
    (svs_cons (sv_for def_passes rfl (iv_range2 rfl fr.range_ ev_int (ev_var 3 (pv 3))) (gv_name (pg_name sc__law_whole.nd rfl (by first | exact Or.inl rfl | exact Or.inr rfl))) (svs_one (sv_set (b_mul (eb_var 6 (pv 6)) (eb_var 7 (pv 7))) sc__law_whole.nd rfl (by first | exact Or.inl rfl | exact Or.inr rfl))))
    (svs_one (sv_set (b_add (eb_var 5 (pv 5)) (eb_of (b_mul (eb_of (ev_callP c__law_into (hr.mono (by decide)) def_takes rfl (av_cons (ev_var 2 (pv 2)) (av_cons (ev_var 3 (pv 3)) av_nil)))) (eb_var 6 (pv 6))))) sc__law_whole.nd rfl (by first | exact Or.inl rfl | exact Or.inr rfl))))))
    (svs_one (sv_set (b_add (eb_var 1 (pv 1)) (eb_of (b_mul (eb_of (b_mul (eb_var 4 (pv 4)) (eb_var 5 (pv 5)))) (eb_of (b_shl (eb_of ev_int) (eb_of (b_sub (eb_var 2 (pv 2)) (eb_of ev_int)))))))) sc__law_whole.nd rfl (by first | exact Or.inl rfl | exact Or.inr rfl))))))
    (svs_one (sv_ret (ev_var 1 (pv 1))))))
def N__law_rings : List PySem.Str := ["many", "groups", "rows", "number", "found", "row", "longer", "some", "at", "one"]
def g__law_rings : Gs Unit :=
  (gSeq (gSet 2 (eOf (fLst (aCons (eTup aNil) aNil))))
  (gSeq (gFor (wRange1 (eVar 1)) (tgN 3) (gSeq (gSetF 6 (fLst aNil))
  (gSeq (gFor (wSeq2 (eVar 2)) (tgN 5) (gExt 6 (fLc (wRange2 (eC (.int 1)) (eBin dAdd (eBin dSub (bVar 0) (eUn dSum (bVar 5))) (eC (.int 1)))) [9] (tgN 9) tYes' (eBin dAdd (bVar 5) (eTup (aCons (eVar 9) aNil))))))
  (gFrz 6 (gSet 2 (eVar 6))))))
  (gSeq (gSetF 4 (fLst aNil))
  (gSeq (gFor (wSeq2 (eVar 2)) (tgN 5) (gSeq (gSet 7 (eOf (fLc (wRange1 (eVar 1)) [8] (tgN 8) tYes' (eBin dAdd (eSlT (bVar 5) (oSome (bVar 8)) oNone) (eSlT (bVar 5) oNone (oSome (bVar 8)))))))
  (gIf (tVal (eBin dEq (bVar 5) (eUn dMinS (eOf (fCat (bVar 7) (eOf (fLc (wSeq2 (bVar 7)) [9] (tgN 9) tYes' (eUn dRevT (bVar 9))))))))) (gApp 4 (eVar 5)) gNext)))
  (gRet (eUn dLen (bVar 4)))))))
def m__law_rings : List D → Unit → R Unit D := runG 2 10 g__law_rings
theorem sc__law_rings : FnScope N__law_rings ["many", "groups"] (defScope (top 49)) := ⟨by kernel_rfl, by kernel_rfl, by kernel_rfl, by decide +kernel, rfl, by decide +kernel, by decide +kernel⟩
theorem ok__law_rings (fr : Fr cT C P w K mg base) : Cal P w K mg base 1 "_law_rings" (SpM C noHand m__law_rings) := cal_of fr.d__law_rings fun f fd Fu => def_ok Fu sc__law_rings rfl rfl fun cdv A outer s H E hr => by
  have q : GX (defCx P w K mg base N__law_rings "_law_rings" (defScope (top 49)) f cdv A outer s H E) := .of rfl hr
  exact (svs_cons (sv_set (ev_of (ef_lst (av_cons (ev_tup av_nil) av_nil))) sc__law_rings.nd rfl (by first | exact Or.inl rfl | exact Or.inr rfl))
    (svs_cons (sv_for def_passes rfl (iv_range1 rfl fr.range_ (ev_var 1 (pv 1))) (gv_name (pg_name sc__law_rings.nd rfl (by first | exact Or.inl rfl | exact Or.inr rfl))) (svs_cons (sv_setF (ef_lst av_nil) sc__law_rings.nd rfl (by first | exact Or.inl rfl | exact Or.inr rfl))
    (svs_cons (sv_for def_passes rfl (iv_seq2 (ev_var 2 (pv 2))) (gv_name (pg_name sc__law_rings.nd rfl (by first | exact Or.inl rfl | exact Or.inr rfl))) (svs_one (sv_ext (pv 6) (ef_lc (own := [("one", 9)]) rfl sc__law_rings.nd (ib_of (iv_range2 rfl fr.range_ ev_int (b_add (eb_of (b_sub (eb_var 0 (pv 0)) (eb_of (f_sum q fr.sum_ (eb_var 5 (pv 5)))))) (eb_of ev_int)))) (blkOk_by (by kernel_rfl)) (fun _ _ _ _ _ => (gv_name (pg_name sc__law_rings.nd rfl (by first | exact Or.inl rfl | exact Or.inr rfl)))) tvb_nil (fun _ _ _ _ _ => (b_add (eb_var 5 (pv 5)) (eb_of (ev_tup (av_cons (ev_var 9 (pv 9)) av_nil))))) (by decide)))))
    (svs_one (sv_frz (i := 6) (sv_set (ev_var 6 (pv 6)) sc__law_rings.nd rfl (by first | exact Or.inl rfl | exact Or.inr rfl)))))))
    (svs_cons (sv_setF (ef_lst av_nil) sc__law_rings.nd rfl (by first | exact Or.inl rfl | exact Or.inr rfl))
    (svs_cons (sv_for def_passes rfl (iv_seq2 (ev_var 2 (pv 2))) (gv_name (pg_name sc__law_rings.nd rfl (by first | exact Or.inl rfl | exact Or.inr rfl))) (svs_cons (by first | exact (sv_setLcV (own := [("at", 8)]) rfl sc__law_rings.nd rfl rfl rfl (ib_of (iv_range1 rfl fr.range_ (ev_var 1 (pv 1)))) (blkOk_by (by kernel_rfl)) (fun _ _ _ _ _ => (gv_name (pg_name sc__law_rings.nd rfl (by first | exact Or.inl rfl | exact Or.inr rfl)))) tvb_nil (fun _ _ _ _ _ => (b_add (eb_of (ev_slT (eb_var 5 (pv 5)) (ov_some (eb_var 8 (pv 8))) ov_none)) (eb_of (ev_slT (eb_var 5 (pv 5)) ov_none (ov_some (eb_var 8 (pv 8))))))) (by decide)) | exact (sv_set (ev_of (ef_lc (own := [("at", 8)]) rfl sc__law_rings.nd (ib_of (iv_range1 rfl fr.range_ (ev_var 1 (pv 1)))) (blkOk_by (by kernel_rfl)) (fun _ _ _ _ _ => (gv_name (pg_name sc__law_rings.nd rfl (by first | exact Or.inl rfl | exact Or.inr rfl)))) tvb_nil (fun _ _ _ _ _ => (b_add (eb_of (ev_slT (eb_var 5 (pv 5)) (ov_some (eb_var 8 (pv 8))) ov_none)) (eb_of (ev_slT (eb_var 5 (pv 5)) ov_none (ov_some (eb_var 8 (pv 8))))))) (by decide))) sc__law_rings.nd rfl (by first | exact Or.inl rfl | exact Or.inr rfl)))
    (svs_one (sv_if (t_eq q (eb_var 5 (pv 5)) (eb_of (f_min q fr.min_ (eb_of (ev_of (ef_cat (eb_var 7 (pv 7)) (eb_of (ev_of (ef_lc (own := [("one", 9)]) rfl sc__law_rings.nd (ib_seq2 (eb_var 7 (pv 7))) (blkOk_by (by kernel_rfl)) (fun _ _ _ _ _ => (gv_name (pg_name sc__law_rings.nd rfl (by first | exact Or.inl rfl | exact Or.inr rfl)))) tvb_nil (fun _ _ _ _ _ => (v_rev (eb_var 9 (pv 9)))) (by decide)))))))))) (svs_one (sv_app (pv 4) (ev_var 5 (pv 5)))) svs_nil))))
    (svs_one (sv_ret (f_len fr.len_ (eb_var 4 (pv 4)))))))))
def N__law_is_refused : List PySem.Str := ["call", "error"]
def g__law_is_refused {S : Type} (th : S → R S D) : Gs S :=
  (gSeq (gTryAs cs_SideError 1 (gDrop (eThunk 0 th))
    (gRet (eAnd (eIsE 1 is_NoNumber) (eIsE 1 is_ValueError))))
  (gRet (eC (.bl false))))
def m__law_is_refused {S : Type} : (S → R S D) → S → R S D := runT 2 g__law_is_refused
theorem sc__law_is_refused : FnScope N__law_is_refused ["call"] (defScope (top 50)) := ⟨by kernel_rfl, by kernel_rfl, by kernel_rfl, by decide +kernel, rfl, by decide +kernel, by decide +kernel⟩
theorem giv__law_is_refused (fr : Fr cT C P w K mg base) {S : Type} {HK : HandK S} {X : Cx} {g : Addr} {cdg : Value} {q : PySem.Str} {k0 : Nat} (h1 : X.prog = P) (h2 : X.w = w) (h3 : X.K = K) (h4 : X.mg = mg) (h5 : X.base = base) (hnc : ∀ s HA H c q, HK.at_ s HA H → H c = some (LamX.CodeO c q) → c ∉ HA) (hk : 0 ≤ k0) : GivesTo3 X k0 N__law_is_refused "_law_is_refused" (defScope (top 50)) g cdg (defBody (top 50)) "call" q (TTm C HK m__law_is_refused) := by
  subst h1 h2 h3 h4 h5
  refine gives_of rfl (by decide) hnc fun f s H HA G th hr act => ?_
  replace hr := hr.mono hk
  have q : GX (Zc0 X N__law_is_refused "_law_is_refused" (defScope (top 50)) g cdg s H).nox := .of rfl hr
  obtain ⟨_, _, mg_SideError, exm_SideError⟩ := fr.excl_SideError
  obtain ⟨_, _, mg_NoNumber, isT_NoNumber⟩ := fr.iscl_NoNumber
  exact (svs_cons (sv_tryAs (cs := cs_SideError) rfl rfl rfl sc__law_is_refused.nd rfl rfl ⟨rfl, by decide, .inl mg_SideError⟩ takes_Z exm_SideError (fun W pn xe tk' po' => (svs_one (sv_drop (act _ _ _ _ _ tk')))) (fun a oe cls d pn hz hfl => (svs_one (sv_ret (ev_and (ev_isE hz hfl (.own _) isT_NoNumber (pv 1) (pe_glob rfl mg_NoNumber rfl) rfl fr.isinstance_ (by kernel_rfl)) (ev_one (ev_isE hz hfl (.ty "ValueError") fr.isT_ValueError (pv 1) (pe_bltn (v := .ty "ValueError") rfl fr.ValueError_ (by kernel_rfl) rfl) rfl fr.isinstance_ (by kernel_rfl))))))))
    (svs_one (sv_ret ev_bl)))
def N_Sides_init : List PySem.Str := ["self", "many", "rank", "signs"]
def g_Sides_init : Gs Unit :=
  (gSeq (gIf (tNot' (tVal (eCallP m_is_between (aCons (eVar 1) (aCons (eC (.int 1)) (aCons (eC (.int 8)) aNil)))))) (gRaise1 3 (eC (.str [109, 97, 110, 121]))) gNext)
  (gSeq (gIf (tOr' (tNot' (tVal (eCallP m_is_between (aCons (eVar 2) (aCons (eC (.int 1)) (aCons (eC (.int 4)) aNil)))))) (tVal (eBin dGt (bVar 2) (bVar 1)))) (gRaise1 3 (eC (.str [114, 97, 110, 107]))) gNext)
  (gSeq (gIf (tNot' (tVal (eCallP m_is_table (aCons (eVar 1) (aCons (eVar 2) (aCons (eVar 3) aNil)))))) (gRaise1 3 (eC (.str [115, 105, 103, 110, 115]))) gNext)
  (gSeq (gSelf 0 4 0 (eCallP m_known_by (aCons (eVar 1) (aCons (eVar 2) (aCons (eVar 3) aNil)))))
  (gSeq (gIf (tVal (eBin dNe (eCallP m_told_against (aCons (eVar 1) (aCons (eVar 2) (aCons (eSlf 0 4 0) aNil)))) (eTup (aCons (eC (.str [115, 105, 100, 101, 115])) aNil)))) (gRaise1 3 (eC (.str [114, 117, 108, 101]))) gNext)
  (gSeq (gSelf 0 4 1 (eVar 1))
  (gSeq (gSelf 0 4 2 (eVar 2))
  (gSelf 0 4 3 (eVar 3)))))))))
def m_Sides_init : List D → Unit → R Unit D := runI 4 4 4 4 g_Sides_init
theorem sc_Sides_init : FnScope N_Sides_init ["self", "many", "rank", "signs"] (defScope (clsAt (top 28) 0)) := ⟨by kernel_rfl, by kernel_rfl, by kernel_rfl, by decide +kernel, rfl, by decide +kernel, by decide +kernel⟩
theorem mkc_Sides (fr : Fr cT C P w K mg base) : CalI C P w K mg base 6 "Sides" 4 m_Sides_init := by
  obtain ⟨cl, f, fd, h1, h2, Fu, h4, h5⟩ := fr.mk_Sides
  refine ⟨cl, f, fd, _, h1, h2, def_okI Fu sc_Sides_init rfl rfl (by rw [fr.fN_Sides] <;> rfl) fun cdv A outer s H E hr => ?_, h4, h5⟩
  have q : GX (defCx P w K mg base N_Sides_init "Sides.__init__" (defScope (clsAt (top 28) 0)) f cdv A outer s H E) := .of rfl hr
  have c_is_between := ok_is_between fr
  have c_is_table := ok_is_table fr
  have c_known_by := ok_known_by fr
  have c_told_against := ok_told_against fr
  exact (svs_cons (sv_if (tv_not (tv_val (ev_callP c_is_between (hr.mono (by decide)) def_takes rfl (av_cons (ev_var 1 (pv 1)) (av_cons ev_int (av_cons (ev_gint fr.MOST_THINGS_) av_nil)))))) (svs_one (sv_raise1 q.calm def_takes (hr.mono (by decide)) (exc_BadSides fr rfl rfl rfl rfl rfl) rfl (ev_str (by decide +kernel)))) svs_nil)
    (svs_cons (sv_if (tv_of (wv_or (tv_not (tv_val (ev_callP c_is_between (hr.mono (by decide)) def_takes rfl (av_cons (ev_var 2 (pv 2)) (av_cons ev_int (av_cons (ev_gint fr.MOST_RANK_) av_nil)))))) (wv_or1 (t_gt (eb_var 2 (pv 2)) (eb_var 1 (pv 1)))))) (svs_one (sv_raise1 q.calm def_takes (hr.mono (by decide)) (exc_BadSides fr rfl rfl rfl rfl rfl) rfl (ev_str (by decide +kernel)))) svs_nil)
    (svs_cons (sv_if (tv_not (tv_val (ev_callP c_is_table (hr.mono (by decide)) def_takes rfl (av_cons (ev_var 1 (pv 1)) (av_cons (ev_var 2 (pv 2)) (av_cons (ev_var 3 (pv 3)) av_nil)))))) (svs_one (sv_raise1 q.calm def_takes (hr.mono (by decide)) (exc_BadSides fr rfl rfl rfl rfl rfl) rfl (ev_str (by decide +kernel)))) svs_nil)
    (svs_cons (sv_self (pv 0) (ev_callP c_known_by (hr.mono (by decide)) def_takes rfl (av_cons (ev_var 1 (pv 1)) (av_cons (ev_var 2 (pv 2)) (av_cons (ev_var 3 (pv 3)) av_nil)))) (fr.clsF_Sides _ rfl) (by rw [fr.fN_Sides] <;> rfl))
    (svs_cons (sv_if (t_ne q (eb_of (ev_callP c_told_against (hr.mono (by decide)) def_takes rfl (av_cons (ev_var 1 (pv 1)) (av_cons (ev_var 2 (pv 2)) (av_cons (ev_slf (pv 0) (fr.clsF_Sides _ rfl) (by rw [fr.fN_Sides] <;> rfl)) av_nil))))) (eb_of (ev_tup (av_cons (ev_gstr fr.SIDES_ (by decide +kernel)) av_nil)))) (svs_one (sv_raise1 q.calm def_takes (hr.mono (by decide)) (exc_BadSides fr rfl rfl rfl rfl rfl) rfl (ev_str (by decide +kernel)))) svs_nil)
    (svs_cons (sv_self (pv 0) (ev_var 1 (pv 1)) (fr.clsF_Sides _ rfl) (by rw [fr.fN_Sides] <;> rfl))
    (svs_cons (sv_self (pv 0) (ev_var 2 (pv 2)) (fr.clsF_Sides _ rfl) (by rw [fr.fN_Sides] <;> rfl))
    (svs_one (sv_self (pv 0) (ev_var 3 (pv 3)) (fr.clsF_Sides _ rfl) (by rw [fr.fN_Sides] <;> rfl))))))))))
def N_many_of_two : List PySem.Str := ["many", "total", "size", "groups", "orders", "inner"]
def g_many_of_two : Gs Unit :=
  (gSeq (gIf (tNot' (tVal (eCallP m_is_between (aCons (eVar 0) (aCons (eC (.int 2)) (aCons (eC (.int 12)) aNil)))))) (gRaise 1) gNext)
  (gSeq (gSet 1 (eC (.int 0)))
  (gSeq (gFor (wRange2 (eC (.int 2)) (eBin dAdd (bVar 0) (eC (.int 1)))) (tgN 2) (gSeq (gTgt (tgT [(tgN 4), (tgN 5)]) (eTup (aCons (eC (.int 1)) (aCons (eC (.int 0)) aNil))))
  (gSeq (gFor (wRange2 (eC (.int 2)) (eBin dAdd (bVar 2) (eC (.int 1)))) (tgN 3) (gSeq (gSet 4 (eBin dMul (bVar 4) (eBin dSub (bVar 3) (eC (.int 1)))))
  (gAug 5 (fun i j => i + j) (eBin dMul (eCallP m_partings_into (aCons (eVar 2) (aCons (eVar 3) aNil))) (bVar 4)))))
  (gAug 1 (fun i j => i + j) (eBin dMul (eBin dMul (eCallP m_ways_to_pick (aCons (eVar 0) (aCons (eVar 2) aNil))) (bVar 5)) (eCallP m_doubled (aCons (eBin dSub (bVar 2) (eC (.int 2))) aNil)))))))
  (gRet (eVar 1)))))
def m_many_of_two : List D → Unit → R Unit D := runG 1 6 g_many_of_two
theorem sc_many_of_two : FnScope N_many_of_two ["many"] (defScope (top 33)) := ⟨by kernel_rfl, by kernel_rfl, by kernel_rfl, by decide +kernel, rfl, by decide +kernel, by decide +kernel⟩
theorem ok_many_of_two (fr : Fr cT C P w K mg base) : Cal P w K mg base 3 "many_of_two" (SpM C noHand m_many_of_two) := cal_of fr.d_many_of_two fun f fd Fu => def_ok Fu sc_many_of_two rfl rfl fun cdv A outer s H E hr => by
  have q : GX (defCx P w K mg base N_many_of_two "many_of_two" (defScope (top 33)) f cdv A outer s H E) := .of rfl hr
  have c_doubled := ok_doubled fr
  have c_is_between := ok_is_between fr
  have c_partings_into := ok_partings_into fr
  have c_ways_to_pick := ok_ways_to_pick fr
  exact (svs_cons (sv_if (tv_not (tv_val (ev_callP c_is_between (hr.mono (by decide)) def_takes rfl (av_cons (ev_var 0 (pv 0)) (av_cons ev_int (av_cons (ev_gint fr.MOST_COUNTED_) av_nil)))))) (svs_one (sv_raise0 q.calm def_takes (fr.exc_NoNumber _ rfl rfl) rfl)) svs_nil)
    (svs_cons (sv_set ev_int sc_many_of_two.nd rfl (by first | exact Or.inl rfl | exact Or.inr rfl))
    (svs_cons (sv_for def_passes rfl (iv_range2 rfl fr.range_ ev_int (b_add (eb_var 0 (pv 0)) (eb_of ev_int))) (gv_name (pg_name sc_many_of_two.nd rfl (by first | exact Or.inl rfl | exact Or.inr rfl))) (svs_cons (sv_asg (ev_tup (av_cons ev_int (av_cons ev_int av_nil))) (gv_tup rfl (gvs_cons (gv_name (pg_name sc_many_of_two.nd rfl (by first | exact Or.inl rfl | exact Or.inr rfl))) (gvs_cons (gv_name (pg_name sc_many_of_two.nd rfl (by first | exact Or.inl rfl | exact Or.inr rfl))) gvs_nil))))
    (svs_cons (sv_for def_passes rfl (iv_range2 rfl fr.range_ ev_int (b_add (eb_var 2 (pv 2)) (eb_of ev_int))) (gv_name (pg_name sc_many_of_two.nd rfl (by first | exact Or.inl rfl | exact Or.inr rfl))) (svs_cons (sv_set (b_mul (eb_var 4 (pv 4)) (eb_of (b_sub (eb_var 3 (pv 3)) (eb_of ev_int)))) sc_many_of_two.nd rfl (by first | exact Or.inl rfl | exact Or.inr rfl))
    (svs_one (sv_aug (b_mul (eb_of (ev_callP c_partings_into (hr.mono (by decide)) def_takes rfl (av_cons (ev_var 2 (pv 2)) (av_cons (ev_var 3 (pv 3)) av_nil)))) (eb_var 4 (pv 4))) ip_add sc_many_of_two.nd rfl (by first | exact Or.inl rfl | exact Or.inr rfl)))))
    (svs_one (sv_aug (b_mul (eb_of (b_mul (eb_of (ev_callP c_ways_to_pick (hr.mono (by decide)) def_takes rfl (av_cons (ev_var 0 (pv 0)) (av_cons (ev_var 2 (pv 2)) av_nil)))) (eb_var 5 (pv 5)))) (eb_of (ev_callP c_doubled (hr.mono (by decide)) def_takes rfl (av_cons (b_sub (eb_var 2 (pv 2)) (eb_of ev_int)) av_nil)))) ip_add sc_many_of_two.nd rfl (by first | exact Or.inl rfl | exact Or.inr rfl))))))
    (svs_one (sv_ret (ev_var 1 (pv 1)))))))
def N_rings_of : List PySem.Str := ["size", "groups", "found", "turn", "way", "number"]
def g_rings_of : Gs Unit :=
  (gSeq (gSet 2 (eOf (fLst (aCons (eTup aNil) aNil))))
  (gSeq (gFor (wRange1 (eVar 1)) (tgN 3) (gSet 2 (eOf (fLc2 (wSeq2 (bVar 2)) [4, 5] (tgN 4) tYes' (wRange2 (eC (.int 1)) (eBin dAdd (eBin dSub (bVar 0) (eUn dSum (bVar 4))) (eC (.int 1)))) [5] (tgN 5) tYes' (eBin dAdd (bVar 4) (eTup (aCons (eVar 5) aNil)))))))
  (gRet (eOf (fLc (wSeq2 (bVar 2)) [4] (tgN 4) (tAnd' (tVal (eBin dEq (eUn dSum (bVar 4)) (bVar 0))) (tVal (eBin dEq (bVar 4) (eCallP m_least_ring (aCons (eVar 4) aNil))))) (eVar 4))))))
def m_rings_of : List D → Unit → R Unit D := runG 2 6 g_rings_of
theorem sc_rings_of : FnScope N_rings_of ["size", "groups"] (defScope (top 35)) := ⟨by kernel_rfl, by kernel_rfl, by kernel_rfl, by decide +kernel, rfl, by decide +kernel, by decide +kernel⟩
theorem ok_rings_of (fr : Fr cT C P w K mg base) : Cal P w K mg base 2 "rings_of" (SpM C noHand m_rings_of) := cal_of fr.d_rings_of fun f fd Fu => def_ok Fu sc_rings_of rfl rfl fun cdv A outer s H E hr => by
  have q : GX (defCx P w K mg base N_rings_of "rings_of" (defScope (top 35)) f cdv A outer s H E) := .of rfl hr
  have c_least_ring := ok_least_ring fr
  exact (svs_cons (sv_set (ev_of (ef_lst (av_cons (ev_tup av_nil) av_nil))) sc_rings_of.nd rfl (by first | exact Or.inl rfl | exact Or.inr rfl))
    (svs_cons (sv_for def_passes rfl (iv_range1 rfl fr.range_ (ev_var 1 (pv 1))) (gv_name (pg_name sc_rings_of.nd rfl (by first | exact Or.inl rfl | exact Or.inr rfl))) (svs_one (by first | exact (sv_setLc2V (own := [("way", 4), ("number", 5)]) (own1 := [5]) rfl sc_rings_of.nd rfl rfl rfl (ib_seq2 (eb_var 2 (pv 2))) (blkOk_by (by kernel_rfl)) (by decide) (fun _ _ _ _ _ => (gv_name (pg_name sc_rings_of.nd rfl (by first | exact Or.inl rfl | exact Or.inr rfl)))) tvb_nil (fun _ _ _ _ _ => (iv_range2 rfl fr.range_ ev_int (b_add (eb_of (b_sub (eb_var 0 (pv 0)) (eb_of (f_sum q.blk fr.sum_ (eb_var 4 (pv 4)))))) (eb_of ev_int)))) (fun _ _ _ _ _ => (gv_name (pg_name sc_rings_of.nd rfl (by first | exact Or.inl rfl | exact Or.inr rfl)))) tvb_nil (fun _ _ _ _ _ => (b_add (eb_var 4 (pv 4)) (eb_of (ev_tup (av_cons (ev_var 5 (pv 5)) av_nil))))) (by decide) (by decide) (tgok_n _)) | exact (sv_set (ev_of (ef_lc2 (own := [("way", 4), ("number", 5)]) (own1 := [5]) rfl sc_rings_of.nd (ib_seq2 (eb_var 2 (pv 2))) (blkOk_by (by kernel_rfl)) (by decide) (fun _ _ _ _ _ => (gv_name (pg_name sc_rings_of.nd rfl (by first | exact Or.inl rfl | exact Or.inr rfl)))) tvb_nil (fun _ _ _ _ _ => (iv_range2 rfl fr.range_ ev_int (b_add (eb_of (b_sub (eb_var 0 (pv 0)) (eb_of (f_sum q.blk fr.sum_ (eb_var 4 (pv 4)))))) (eb_of ev_int)))) (fun _ _ _ _ _ => (gv_name (pg_name sc_rings_of.nd rfl (by first | exact Or.inl rfl | exact Or.inr rfl)))) tvb_nil (fun _ _ _ _ _ => (b_add (eb_var 4 (pv 4)) (eb_of (ev_tup (av_cons (ev_var 5 (pv 5)) av_nil))))) (by decide) (by decide) (tgok_n _))) sc_rings_of.nd rfl (by first | exact Or.inl rfl | exact Or.inr rfl)))))
    (svs_one (sv_ret (ev_of (ef_lc (own := [("way", 4)]) rfl sc_rings_of.nd (ib_seq2 (eb_var 2 (pv 2))) (blkOk_by (by kernel_rfl)) (fun _ _ _ _ _ => (gv_name (pg_name sc_rings_of.nd rfl (by first | exact Or.inl rfl | exact Or.inr rfl)))) (tvb_one fun _ _ _ _ _ => (tv_of (wv_and (t_eq q.blk (eb_of (f_sum q.blk fr.sum_ (eb_var 4 (pv 4)))) (eb_var 0 (pv 0))) (wv_and1 (t_eq q.blk (eb_var 4 (pv 4)) (eb_of (ev_callP c_least_ring (hr.mono (by decide)) LamX.takes0 rfl (av_cons (ev_var 4 (pv 4)) av_nil)))))))) (fun _ _ _ _ _ => (ev_var 4 (pv 4))) (by decide)))))))
def N_two_alike : List PySem.Str := ["many", "groups", "size"]
def g_two_alike : Gs Unit :=
  (gSeq (gIf (tNot' (tVal (eCallP m_is_between (aCons (eVar 0) (aCons (eC (.int 2)) (aCons (eC (.int 8)) aNil)))))) (gRaise 1) gNext)
  (gSeq (gIf (tNot' (tVal (eCallP m_is_between (aCons (eVar 1) (aCons (eC (.int 2)) (aCons (eVar 0) aNil)))))) (gRaise 1) gNext)
  (gRet (eUn dSum (eOf (fLc (wRange2 (eVar 1) (eBin dAdd (bVar 0) (eC (.int 1)))) [2] (tgN 2) tYes' (eUn dLen (eCallP m_rings_of (aCons (eVar 2) (aCons (eVar 1) aNil))))))))))
def m_two_alike : List D → Unit → R Unit D := runG 2 3 g_two_alike
theorem sc_two_alike : FnScope N_two_alike ["many", "groups"] (defScope (top 37)) := ⟨by kernel_rfl, by kernel_rfl, by kernel_rfl, by decide +kernel, rfl, by decide +kernel, by decide +kernel⟩
theorem ok_two_alike (fr : Fr cT C P w K mg base) : Cal P w K mg base 3 "two_alike" (SpM C noHand m_two_alike) := cal_of fr.d_two_alike fun f fd Fu => def_ok Fu sc_two_alike rfl rfl fun cdv A outer s H E hr => by
  have q : GX (defCx P w K mg base N_two_alike "two_alike" (defScope (top 37)) f cdv A outer s H E) := .of rfl hr
  have c_is_between := ok_is_between fr
  have c_rings_of := ok_rings_of fr
  exact (svs_cons (sv_if (tv_not (tv_val (ev_callP c_is_between (hr.mono (by decide)) def_takes rfl (av_cons (ev_var 0 (pv 0)) (av_cons ev_int (av_cons (ev_gint fr.MOST_THINGS_) av_nil)))))) (svs_one (sv_raise0 q.calm def_takes (fr.exc_NoNumber _ rfl rfl) rfl)) svs_nil)
    (svs_cons (sv_if (tv_not (tv_val (ev_callP c_is_between (hr.mono (by decide)) def_takes rfl (av_cons (ev_var 1 (pv 1)) (av_cons ev_int (av_cons (ev_var 0 (pv 0)) av_nil)))))) (svs_one (sv_raise0 q.calm def_takes (fr.exc_NoNumber _ rfl rfl) rfl)) svs_nil)
    (svs_one (sv_ret (f_sum q fr.sum_ (eb_of (ev_of (ef_lc (own := [("size", 2)]) rfl sc_two_alike.nd (ib_of (iv_range2 rfl fr.range_ (ev_var 1 (pv 1)) (b_add (eb_var 0 (pv 0)) (eb_of ev_int)))) (blkOk_by (by kernel_rfl)) (fun _ _ _ _ _ => (gv_name (pg_name sc_two_alike.nd rfl (by first | exact Or.inl rfl | exact Or.inr rfl)))) tvb_nil (fun _ _ _ _ _ => (f_len fr.len_ (eb_of (ev_callP c_rings_of (hr.mono (by decide)) LamX.takes0 rfl (av_cons (ev_var 2 (pv 2)) (av_cons (ev_var 1 (pv 1)) av_nil)))))) (by decide)))))))))
def N__law_is_let : List PySem.Str := ["many", "row", "error", "told"]
def g__law_is_let : Gs Unit :=
  (gSeq (gTryAs cs_SideError 2 (gSet 3 (eCallP m_Sides_init (aCons (eVar 0) (aCons (eC (.int 2)) (aCons (eVar 1) aNil)))))
    (gRet (eUn dNot (eIsE 2 is_BadSides))))
  (gRet (eBin dEq (eFld tb_signs (bVar 3)) (bVar 1))))
def m__law_is_let : List D → Unit → R Unit D := runG 2 4 g__law_is_let
theorem sc__law_is_let : FnScope N__law_is_let ["many", "row"] (defScope (top 48)) := ⟨by kernel_rfl, by kernel_rfl, by kernel_rfl, by decide +kernel, rfl, by decide +kernel, by decide +kernel⟩
theorem ok__law_is_let (fr : Fr cT C P w K mg base) : Cal P w K mg base 8 "_law_is_let" (SpM C noHand m__law_is_let) := cal_of fr.d__law_is_let fun f fd Fu => def_ok Fu sc__law_is_let rfl rfl fun cdv A outer s H E hr => by
  have q : GX (defCx P w K mg base N__law_is_let "_law_is_let" (defScope (top 48)) f cdv A outer s H E) := .of rfl hr
  obtain ⟨_, _, mg_SideError, exm_SideError⟩ := fr.excl_SideError
  obtain ⟨_, _, mg_BadSides, isT_BadSides⟩ := fr.iscl_BadSides
  have mk_Sides := mkc_Sides fr
  exact (svs_cons (sv_tryAs (cs := cs_SideError) rfl rfl rfl sc__law_is_let.nd rfl rfl ⟨rfl, by decide, .inl mg_SideError⟩ def_takes exm_SideError (fun W pn xe tk' po' => (svs_one (sv_set (ev_make mk_Sides (hr.mono (by decide)) tk' rfl (av_cons (ev_var 0 (pv 0)) (av_cons ev_int (av_cons (ev_var 1 (pv 1)) av_nil)))) sc__law_is_let.nd rfl (by first | exact Or.inl rfl | exact Or.inr rfl)))) (fun a oe cls d pn hz hfl => (svs_one (sv_ret (ev_not (ev_isE hz hfl (.own _) isT_BadSides (pv 2) (pe_glob rfl mg_BadSides rfl) rfl fr.isinstance_ (by kernel_rfl)))))))
    (svs_one (sv_ret (c_eq q (eb_of (ev_fld (eb_var 3 (pv 3)) (ht_signs fr rfl))) (eb_var 1 (pv 1))))))
def N__law_is_no_count : List PySem.Str := ["odd", "many", "none"]
def g__law_is_no_count : Gs Unit :=
  (gSeq (gIf (tNot' (tVal (eLam m__law_is_refused (eCallP m_two_alike (aCons (eVar 0) (aCons (eC (.int 2)) aNil)))))) (gRet (eC (.bl false))) gNext)
  (gRet (eLam m__law_is_refused (eCallP m_two_alike (aCons (eVar 1) (aCons (eVar 2) aNil))))))
def m__law_is_no_count : List D → Unit → R Unit D := runG 3 3 g__law_is_no_count
theorem sc__law_is_no_count : FnScope N__law_is_no_count ["odd", "many", "none"] (defScope (top 51)) := ⟨by kernel_rfl, by kernel_rfl, by kernel_rfl, by decide +kernel, rfl, by decide +kernel, by decide +kernel⟩
theorem ok__law_is_no_count (fr : Fr cT C P w K mg base) : Cal P w K mg base 6 "_law_is_no_count" (SpM C (tabHand (TL cT)) m__law_is_no_count) := cal_ofc fr.d__law_is_no_count fun f fd Fu hc => def_okc Fu sc__law_is_no_count rfl rfl fun cdv hcd A outer s H E hr => by
  have hcode : (defCx P w K mg base N__law_is_no_count "_law_is_no_count" (defScope (top 51)) f cdv A outer s H E).env.code = .ref (cT 0).1 := by rw [← hc, hcd] <;> rfl
  have q : GX (defCx P w K mg base N__law_is_no_count "_law_is_no_count" (defScope (top 51)) f cdv A outer s H E) := .of rfl hr
  obtain ⟨_, _, gf__law_is_refused⟩ := fr.gf__law_is_refused
  have hlk__law_is_refused : 0 ≤ 3 + 1 := by decide
  have c_two_alike := ok_two_alike fr
  exact (svs_cons (sv_if (tv_not (tv_val (ev_lam (k := 3) (tabK_tab _) rfl gf__law_is_refused (giv__law_is_refused fr rfl rfl rfl rfl rfl (tabK_tab _).nc hlk__law_is_refused) fr.tb__law_is_no_count hcode (.head _) (hu_of fr.tn (.head _)) (hr.mono (by decide)) (LamX.lamS_by (by kernel_rfl)) rfl (fun _ _ _ _ _ => rfl) (fun A outer s H E fa c2 hr => (ev_callP c_two_alike (hr.mono (by decide)) takes_lam rfl (av_cons (ev_var 0 (pv 0)) (av_cons ev_int av_nil))))))) (svs_one (sv_ret ev_bl)) svs_nil)
    (svs_one (sv_ret (ev_lam (k := 3) (tabK_tab _) rfl gf__law_is_refused (giv__law_is_refused fr rfl rfl rfl rfl rfl (tabK_tab _).nc hlk__law_is_refused) fr.tb__law_is_no_count hcode (.head _) (hu_of fr.tn (.head _)) (hr.mono (by decide)) (LamX.lamS_by (by kernel_rfl)) rfl (fun _ _ _ _ _ => rfl) (fun A outer s H E fa c2 hr => (ev_callP c_two_alike (hr.mono (by decide)) takes_lam rfl (av_cons (ev_var 1 (pv 1)) (av_cons (ev_var 2 (pv 2)) av_nil))))))))
def N__law_tried : List PySem.Str := ["many", "tables_here", "lot", "row", "lots", "found", "longer", "some", "sign"]
def g__law_tried : Gs Unit :=
  (gSeq (gPar 4 5 (eCallP m__law_lots (aCons (eVar 0) (aCons (eC (.int 2)) aNil))) (eC (.int 0)))
  (gSeq (gSet 1 (eOf (fLst (aCons (eTup aNil) aNil))))
  (gSeq (gFor (wSeq2 (eVar 4)) (tgN 2) (gSeq (gSetF 6 (fLst aNil))
  (gSeq (gFor (wSeq2 (eVar 1)) (tgN 3) (gExt 6 (fLc (wSeq2 (eTup (aCons (eUn dNeg (eC (.int 1))) (aCons (eC (.int 0)) (aCons (eC (.int 1)) aNil))))) [8] (tgN 8) tYes' (eBin dAdd (bVar 3) (eTup (aCons (eVar 8) aNil))))))
  (gFrz 6 (gSet 1 (eVar 6))))))
  (gSeq (gFor (wSeq2 (eVar 1)) (tgN 3) (gSeq (gSet 7 (eOf (fLc (wSeq2 (bVar 3)) [8] (tgN 8) (tVal (eBin dNe (bVar 8) (eC (.int 0)))) (eVar 8))))
  (gIf (tAnd' (tVal (eBin dGt (eUn dLen (bVar 7)) (eC (.int 0)))) (tAnd' (tVal (eBin dEq (eBin dIx (bVar 7) (eC (.int 0))) (eC (.int 1)))) (tVal (eCallP m__law_is_let (aCons (eVar 0) (aCons (eVar 3) aNil)))))) (gSet 5 (eBin dAdd (bVar 5) (eC (.int 1)))) gNext)))
  (gRet (eVar 5))))))
def m__law_tried : List D → Unit → R Unit D := runG 1 9 g__law_tried
theorem sc__law_tried : FnScope N__law_tried ["many"] (defScope (top 47)) := ⟨by kernel_rfl, by kernel_rfl, by kernel_rfl, by decide +kernel, rfl, by decide +kernel, by decide +kernel⟩
theorem ok__law_tried (fr : Fr cT C P w K mg base) : Cal P w K mg base 9 "_law_tried" (SpM C noHand m__law_tried) := cal_of fr.d__law_tried fun f fd Fu => def_ok Fu sc__law_tried rfl rfl fun cdv A outer s H E hr => by
  have q : GX (defCx P w K mg base N__law_tried "_law_tried" (defScope (top 47)) f cdv A outer s H E) := .of rfl hr
  have c__law_is_let := ok__law_is_let fr
  have c__law_lots := ok__law_lots fr
  exact (svs_cons (sv_par (ev_callP c__law_lots (hr.mono (by decide)) def_takes rfl (av_cons (ev_var 0 (pv 0)) (av_cons ev_int av_nil))) ev_int rfl sc__law_tried.nd rfl rfl (by decide) rfl rfl rfl)
    (svs_cons (sv_set (ev_of (ef_lst (av_cons (ev_tup av_nil) av_nil))) sc__law_tried.nd rfl (by first | exact Or.inl rfl | exact Or.inr rfl))
    (svs_cons (sv_for def_passes rfl (iv_seq2 (ev_var 4 (pv 4))) (gv_name (pg_name sc__law_tried.nd rfl (by first | exact Or.inl rfl | exact Or.inr rfl))) (svs_cons (sv_setF (ef_lst av_nil) sc__law_tried.nd rfl (by first | exact Or.inl rfl | exact Or.inr rfl))
    (svs_cons (sv_for def_passes rfl (iv_seq2 (ev_var 1 (pv 1))) (gv_name (pg_name sc__law_tried.nd rfl (by first | exact Or.inl rfl | exact Or.inr rfl))) (svs_one (sv_ext (pv 6) (ef_lc (own := [("sign", 8)]) rfl sc__law_tried.nd (ib_seq2 (eb_of (ev_tup (av_cons (ev_neg ev_int) (av_cons ev_int (av_cons ev_int av_nil)))))) (blkOk_by (by kernel_rfl)) (fun _ _ _ _ _ => (gv_name (pg_name sc__law_tried.nd rfl (by first | exact Or.inl rfl | exact Or.inr rfl)))) tvb_nil (fun _ _ _ _ _ => (b_add (eb_var 3 (pv 3)) (eb_of (ev_tup (av_cons (ev_var 8 (pv 8)) av_nil))))) (by decide)))))
    (svs_one (sv_frz (i := 6) (sv_set (ev_var 6 (pv 6)) sc__law_tried.nd rfl (by first | exact Or.inl rfl | exact Or.inr rfl)))))))
    (svs_cons (sv_for def_passes rfl (iv_seq2 (ev_var 1 (pv 1))) (gv_name (pg_name sc__law_tried.nd rfl (by first | exact Or.inl rfl | exact Or.inr rfl))) (svs_cons (by first | exact (sv_setLcV (own := [("sign", 8)]) rfl sc__law_tried.nd rfl rfl rfl (ib_seq2 (eb_var 3 (pv 3))) (blkOk_by (by kernel_rfl)) (fun _ _ _ _ _ => (gv_name (pg_name sc__law_tried.nd rfl (by first | exact Or.inl rfl | exact Or.inr rfl)))) (tvb_one fun _ _ _ _ _ => (t_ne q.blk (eb_var 8 (pv 8)) (eb_of ev_int))) (fun _ _ _ _ _ => (ev_var 8 (pv 8))) (by decide)) | exact (sv_set (ev_of (ef_lc (own := [("sign", 8)]) rfl sc__law_tried.nd (ib_seq2 (eb_var 3 (pv 3))) (blkOk_by (by kernel_rfl)) (fun _ _ _ _ _ => (gv_name (pg_name sc__law_tried.nd rfl (by first | exact Or.inl rfl | exact Or.inr rfl)))) (tvb_one fun _ _ _ _ _ => (t_ne q.blk (eb_var 8 (pv 8)) (eb_of ev_int))) (fun _ _ _ _ _ => (ev_var 8 (pv 8))) (by decide))) sc__law_tried.nd rfl (by first | exact Or.inl rfl | exact Or.inr rfl)))
    (svs_one (sv_if (tv_of (wv_and (t_gt (eb_of (f_len fr.len_ (eb_var 7 (pv 7)))) (eb_of ev_int)) (wv_and (t_eq q (eb_of (ev_ix (eb_var 7 (pv 7)) (eb_of ev_int) (fun _ _ => rfl))) (eb_of ev_int)) (wv_and1 (tv_val (ev_callP c__law_is_let (hr.mono (by decide)) def_takes rfl (av_cons (ev_var 0 (pv 0)) (av_cons (ev_var 3 (pv 3)) av_nil)))))))) (svs_one (sv_set (b_add (eb_var 5 (pv 5)) (eb_of ev_int)) sc__law_tried.nd rfl (by first | exact Or.inl rfl | exact Or.inr rfl))) svs_nil))))
    (svs_one (sv_ret (ev_var 5 (pv 5))))))))
def N_law : List PySem.Str := ["script", "hand", "many", "few", "turn", "groups", "bad", "odd", "none", "again"]
def g_law : Gs Hd :=
  (gSeq (gIf (tVal (eBin dNe (eOf (fLc (wSeq2 (eTup (aCons (eC (.int 2)) (aCons (eC (.int 3)) aNil)))) [2] (tgN 2) tYes' (eCallP m_many_of_two (aCons (eVar 2) aNil)))) (eOf (fLst (aCons (eC (.int 1)) (aCons (eC (.int 13)) aNil)))))) (gRet (eC (.bl false))) gNext)
  (gSeq (gFor (wSeq2 (eOf (fCat (eOf (fLc (wRange1 (eC (.int 3))) [9] (tgN 9) tYes' (eBin dAdd (eC (.int 2)) (eCallH 1 m__law_draw (aCons (eC (.int 11)) aNil))))) (eOf (fLst (aCons (eC (.int 12)) aNil)))))) (tgN 2) (gIf (tNot' (tVal (eCallP m__law_same (aCons (eCallP m_many_of_two (aCons (eVar 2) aNil)) (aCons (eCallP m__law_whole (aCons (eVar 2) aNil)) aNil))))) (gRet (eC (.bl false))) gNext))
  (gSeq (gSet 3 (eCallH 1 m__law_any (aCons (eOf (fLst (aCons (eC (.int 2)) (aCons (eC (.int 3)) (aCons (eC (.int 3)) (aCons (eC (.int 3)) (aCons (eC (.int 4)) aNil))))))) aNil)))
  (gSeq (gIf (tVal (eBin dNe (eCallP m_many_of_two (aCons (eVar 3) aNil)) (eCallP m__law_tried (aCons (eVar 3) aNil)))) (gRet (eC (.bl false))) gNext)
  (gSeq (gFor (wRange1 (eC (.int 3))) (tgN 4) (gSeq (gSet 2 (eBin dAdd (eC (.int 2)) (eCallH 1 m__law_draw (aCons (eC (.int 7)) aNil))))
  (gSeq (gSet 5 (eBin dAdd (eC (.int 2)) (eCallH 1 m__law_draw (aCons (eBin dSub (bVar 2) (eC (.int 1))) aNil))))
  (gSeq (gIf (tNot' (tVal (eCallP m__law_same (aCons (eCallP m_two_alike (aCons (eVar 2) (aCons (eVar 5) aNil))) (aCons (eCallP m__law_rings (aCons (eVar 2) (aCons (eVar 5) aNil))) aNil))))) (gRet (eC (.bl false))) gNext)
  (gSeq (gSet 6 (eCallH 1 m__law_any (aCons (eOf (fLst (aCons (eC (.int 1)) (aCons (eC (.int 13)) (aCons (eC (.int 0)) (aCons (eUn dNeg (eC (.int 1))) (aCons (eC (.bl true)) (aCons (eC .non) (aCons (eC (.str [51])) (aCons (eTup (aCons (eC (.int 3)) aNil)) (aCons (eBin dPow (eC (.int 10)) (eC (.int 30))) (aCons (eCallH 1 m__law_odd aNil) aNil)))))))))))) aNil)))
  (gSeq (gSet 7 (eCallH 1 m__law_any (aCons (eOf (fLst (aCons (eC (.int 1)) (aCons (eC (.int 9)) (aCons (eC (.int 0)) (aCons (eUn dNeg (eC (.int 1))) (aCons (eC (.bl true)) (aCons (eC .non) (aCons (eC (.str [51])) (aCons (eTup (aCons (eC (.int 3)) aNil)) (aCons (eCallH 1 m__law_odd aNil) aNil))))))))))) aNil)))
  (gSeq (gSet 8 (eCallH 1 m__law_any (aCons (eOf (fLst (aCons (eC (.int 1)) (aCons (eBin dAdd (bVar 2) (eC (.int 1))) (aCons (eC (.int 0)) (aCons (eUn dNeg (eC (.int 1))) (aCons (eC .non) (aCons (eC (.bl true)) (aCons (eC (.str [50])) aNil))))))))) aNil)))
  (gIf (tOr' (tNot' (tVal (eLam m__law_is_refused (eCallP m_many_of_two (aCons (eVar 6) aNil))))) (tNot' (tVal (eCallP m__law_is_no_count (aCons (eVar 7) (aCons (eVar 2) (aCons (eVar 8) aNil))))))) (gRet (eC (.bl false))) gNext))))))))
  (gRet (eC (.bl true))))))))
theorem sc_law : FnScope N_law ["script"] (defScope (top 52)) := ⟨by kernel_rfl, by kernel_rfl, by kernel_rfl, by decide +kernel, rfl, by decide +kernel, by decide +kernel⟩
theorem ok_law (fr : Fr cT C P w K mg base) {f : Addr} {fd : FuncData} {okn : List Int → Prop} (Fu : L2.Fun K "law" "law" (top 52) f fd) (hc : fd.code = .ref (cT 1).1) (plain : ∀ ns, okn ns → LawT m__law_hand 10 g_law ns) : FnOk P w K mg base (L2.CX P w) 10 f fd ["script"] (SpLaw K (TL cT) okn) := law_okc Fu sc_law rfl rfl (by decide) rfl (fun cdv hcd A outer s H E hr => by
  have q : GX (defCx P w K mg base N_law "law" (defScope (top 52)) f cdv A outer s H E) := .of rfl hr
  have hcode : (defCx P w K mg base N_law "law" (defScope (top 52)) f cdv A outer s H E).env.code = .ref (cT 1).1 := by rw [← hc, hcd] <;> rfl
  obtain ⟨_, _, gf__law_is_refused⟩ := fr.gf__law_is_refused
  have hlk__law_is_refused : 0 ≤ 7 + 1 := by decide
  have c__law_any := ok__law_any fr
  have c__law_draw := ok__law_draw fr
  have c__law_is_no_count := ok__law_is_no_count fr
  have c__law_odd := ok__law_odd fr
  have c__law_rings := ok__law_rings fr
  have c__law_same := ok__law_same fr
  have c__law_tried := ok__law_tried fr
  have c__law_whole := ok__law_whole fr
  have c_many_of_two := ok_many_of_two fr
  have c_two_alike := ok_two_alike fr
  have c__law_hand := ok__law_hand fr
  refine ⟨ps_hand c__law_hand (hr.mono (by decide)) def_takes rfl (pv 0) sc_law.nd rfl (by first | exact Or.inl rfl | exact Or.inr rfl) (.inl rfl), ?_⟩
  exact (svs_cons (sv_if (t_ne q (eb_of (ev_of (ef_lc (own := [("many", 2)]) rfl sc_law.nd (ib_seq2 (eb_of (ev_tup (av_cons ev_int (av_cons ev_int av_nil))))) (blkOk_by (by kernel_rfl)) (fun _ _ _ _ _ => (gv_name (pg_name sc_law.nd rfl (by first | exact Or.inl rfl | exact Or.inr rfl)))) tvb_nil (fun _ _ _ _ _ => (ev_callP c_many_of_two (hr.mono (by decide)) LamX.takes0 rfl (av_cons (ev_var 2 (pv 2)) av_nil))) (by decide)))) (eb_of (ev_of (ef_lst (av_cons ev_int (av_cons ev_int av_nil)))))) (svs_one (sv_ret ev_bl)) svs_nil)
    (svs_cons (sv_for def_passes rfl (iv_seq2 (ev_of (ef_cat (eb_of (ev_of (ef_lc (own := [("again", 9)]) rfl sc_law.nd (ib_of (iv_range1 rfl fr.range_ ev_int)) (blkOk_by (by kernel_rfl)) (fun _ _ _ _ _ => (gv_name (pg_name sc_law.nd rfl (by first | exact Or.inl rfl | exact Or.inr rfl)))) tvb_nil (fun _ _ _ _ _ => (b_add (eb_of ev_int) (eb_of (ev_callH c__law_draw (hr.mono (by decide)) LamX.takes0 rfl (pv 1) (av_cons ev_int av_nil))))) (by decide)))) (eb_of (ev_of (ef_lst (av_cons ev_int av_nil))))))) (gv_name (pg_name sc_law.nd rfl (by first | exact Or.inl rfl | exact Or.inr rfl))) (svs_one (sv_if (tv_not (tv_val (ev_callP c__law_same (hr.mono (by decide)) def_takes rfl (av_cons (ev_callP c_many_of_two (hr.mono (by decide)) def_takes rfl (av_cons (ev_var 2 (pv 2)) av_nil)) (av_cons (ev_callP c__law_whole (hr.mono (by decide)) def_takes rfl (av_cons (ev_var 2 (pv 2)) av_nil)) av_nil))))) (svs_one (sv_ret ev_bl)) svs_nil)))
    (svs_cons (sv_set (ev_callH c__law_any (hr.mono (by decide)) def_takes rfl (pv 1) (av_cons (ev_of (ef_lst (av_cons ev_int (av_cons ev_int (av_cons ev_int (av_cons ev_int (av_cons ev_int av_nil))))))) av_nil)) sc_law.nd rfl (by first | exact Or.inl rfl | exact Or.inr rfl))
    (svs_cons (sv_if (t_ne q (eb_of (ev_callP c_many_of_two (hr.mono (by decide)) def_takes rfl (av_cons (ev_var 3 (pv 3)) av_nil))) (eb_of (ev_callP c__law_tried (hr.mono (by decide)) def_takes rfl (av_cons (ev_var 3 (pv 3)) av_nil)))) (svs_one (sv_ret ev_bl)) svs_nil)
    (svs_cons (sv_for def_passes rfl (iv_range1 rfl fr.range_ ev_int) (gv_name (pg_name sc_law.nd rfl (by first | exact Or.inl rfl | exact Or.inr rfl))) (svs_cons (sv_set (b_add (eb_of ev_int) (eb_of (ev_callH c__law_draw (hr.mono (by decide)) def_takes rfl (pv 1) (av_cons ev_int av_nil)))) sc_law.nd rfl (by first | exact Or.inl rfl | exact Or.inr rfl))
    (svs_cons (sv_set (b_add (eb_of ev_int) (eb_of (ev_callH c__law_draw (hr.mono (by decide)) def_takes rfl (pv 1) (av_cons (b_sub (eb_var 2 (pv 2)) (eb_of ev_int)) av_nil)))) sc_law.nd rfl (by first | exact Or.inl rfl | exact Or.inr rfl))
    (svs_cons (sv_if (tv_not (tv_val (ev_callP c__law_same (hr.mono (by decide)) def_takes rfl (av_cons (ev_callP c_two_alike (hr.mono (by decide)) def_takes rfl (av_cons (ev_var 2 (pv 2)) (av_cons (ev_var 5 (pv 5)) av_nil))) (av_cons (ev_callP c__law_rings (hr.mono (by decide)) def_takes rfl (av_cons (ev_var 2 (pv 2)) (av_cons (ev_var 5 (pv 5)) av_nil))) av_nil))))) (svs_one (sv_ret ev_bl)) svs_nil)
    (svs_cons (sv_set (ev_callH c__law_any (hr.mono (by decide)) def_takes rfl (pv 1) (av_cons (ev_of (ef_lst (av_cons ev_int (av_cons ev_int (av_cons ev_int (av_cons (ev_neg ev_int) (av_cons ev_bl (av_cons ev_non (av_cons (ev_str (by decide +kernel)) (av_cons (ev_tup (av_cons ev_int av_nil)) (av_cons (b_pow (eb_of ev_int) (eb_of ev_int)) (av_cons (ev_callH c__law_odd (hr.mono (by decide)) def_takes rfl (pv 1) av_nil) av_nil)))))))))))) av_nil)) sc_law.nd rfl (by first | exact Or.inl rfl | exact Or.inr rfl))
    (svs_cons (sv_set (ev_callH c__law_any (hr.mono (by decide)) def_takes rfl (pv 1) (av_cons (ev_of (ef_lst (av_cons ev_int (av_cons ev_int (av_cons ev_int (av_cons (ev_neg ev_int) (av_cons ev_bl (av_cons ev_non (av_cons (ev_str (by decide +kernel)) (av_cons (ev_tup (av_cons ev_int av_nil)) (av_cons (ev_callH c__law_odd (hr.mono (by decide)) def_takes rfl (pv 1) av_nil) av_nil))))))))))) av_nil)) sc_law.nd rfl (by first | exact Or.inl rfl | exact Or.inr rfl))
    (svs_cons (sv_set (ev_callH c__law_any (hr.mono (by decide)) def_takes rfl (pv 1) (av_cons (ev_of (ef_lst (av_cons ev_int (av_cons (b_add (eb_var 2 (pv 2)) (eb_of ev_int)) (av_cons ev_int (av_cons (ev_neg ev_int) (av_cons ev_non (av_cons ev_bl (av_cons (ev_str (by decide +kernel)) av_nil))))))))) av_nil)) sc_law.nd rfl (by first | exact Or.inl rfl | exact Or.inr rfl))
    (svs_one (sv_if (tv_of (wv_or (tv_not (tv_val (ev_lam (k := 7) (tabK_hand _) rfl gf__law_is_refused (giv__law_is_refused fr rfl rfl rfl rfl rfl (tabK_hand _).nc hlk__law_is_refused) fr.tb_law hcode (.tail _ (.head _)) (hu_of fr.tn (.tail _ (.head _))) (hr.mono (by decide)) (LamX.lamS_by (by kernel_rfl)) rfl (fun _ _ _ _ _ => rfl) (fun A outer s H E fa c2 hr => (ev_callP c_many_of_two (hr.mono (by decide)) takes_lam rfl (av_cons (ev_var 6 (pv 6)) av_nil)))))) (wv_or1 (tv_not (tv_val (ev_callT (tabK_hand _) c__law_is_no_count (hr.mono (by decide)) def_takes rfl (av_cons (ev_var 7 (pv 7)) (av_cons (ev_var 2 (pv 2)) (av_cons (ev_var 8 (pv 8)) av_nil))))))))) (svs_one (sv_ret ev_bl)) svs_nil)))))))))
    (svs_one (sv_ret ev_bl)))))))) plain
end
end K91
set_option Elab.async false
set_option linter.all false
set_option autoImplicit false
set_option maxRecDepth 100000
set_option maxHeartbeats 0
namespace K91
open PySem PySem.Spec PyProof.Rows L2 Fx LamX
def clsL : List (PySem.Str × List PySem.Str) := [("SideError", []),
  ("NoNumber", []),
  ("NoThings", []),
  ("BadSides", ["part"]),
  ("Sides", ["known", "many", "rank", "signs"])]
def insL : List Nat := [4]
def dd_exc_BadSides : He.DefD := ⟨("BadSides", some "__init__"), "__init__", "BadSides.__init__", defArgs (clsAt (top 4) 0), defBody (clsAt (top 4) 0), defScope (clsAt (top 4) 0), [], []⟩
def dd_mk_Sides : He.DefD := ⟨("Sides", some "__init__"), "__init__", "Sides.__init__", defArgs (clsAt (top 28) 0), defBody (clsAt (top 28) 0), defScope (clsAt (top 28) 0), [], []⟩
def dd_is_integer : He.DefD := ⟨("is_integer", none), "is_integer", "is_integer", defArgs (top 11), defBody (top 11), defScope (top 11), [], []⟩
def dd_is_between : He.DefD := ⟨("is_between", none), "is_between", "is_between", defArgs (top 12), defBody (top 12), defScope (top 12), [], []⟩
def dd_are_signs : He.DefD := ⟨("are_signs", none), "are_signs", "are_signs", defArgs (top 13), defBody (top 13), defScope (top 13), [], []⟩
def dd_lots_of : He.DefD := ⟨("lots_of", none), "lots_of", "lots_of", defArgs (top 14), defBody (top 14), defScope (top 14), [], []⟩
def dd_order_sign : He.DefD := ⟨("order_sign", none), "order_sign", "order_sign", defArgs (top 15), defBody (top 15), defScope (top 15), [], []⟩
def dd_known_by : He.DefD := ⟨("known_by", none), "known_by", "known_by", defArgs (top 16), defBody (top 16), defScope (top 16), [], []⟩
def dd_sign_in : He.DefD := ⟨("sign_in", none), "sign_in", "sign_in", defArgs (top 17), defBody (top 17), defScope (top 17), [], []⟩
def dd_base_lots : He.DefD := ⟨("base_lots", none), "base_lots", "base_lots", defArgs (top 18), defBody (top 18), defScope (top 18), [], []⟩
def dd_put_for : He.DefD := ⟨("put_for", none), "put_for", "put_for", defArgs (top 19), defBody (top 19), defScope (top 19), [], []⟩
def dd_is_stuck : He.DefD := ⟨("is_stuck", none), "is_stuck", "is_stuck", defArgs (top 20), defBody (top 20), defScope (top 20), [], []⟩
def dd_first_exchange : He.DefD := ⟨("first_exchange", none), "first_exchange", "first_exchange", defArgs (top 21), defBody (top 21), defScope (top 21), [], []⟩
def dd_products_at : He.DefD := ⟨("products_at", none), "products_at", "products_at", defArgs (top 22), defBody (top 22), defScope (top 22), [], []⟩
def dd_is_one_sided : He.DefD := ⟨("is_one_sided", none), "is_one_sided", "is_one_sided", defArgs (top 23), defBody (top 23), defScope (top 23), [], []⟩
def dd_first_picture : He.DefD := ⟨("first_picture", none), "first_picture", "first_picture", defArgs (top 24), defBody (top 24), defScope (top 24), [], []⟩
def dd_is_table : He.DefD := ⟨("is_table", none), "is_table", "is_table", defArgs (top 25), defBody (top 25), defScope (top 25), [], []⟩
def dd_told_against : He.DefD := ⟨("told_against", none), "told_against", "told_against", defArgs (top 26), defBody (top 26), defScope (top 26), [], []⟩
def dd_are_things : He.DefD := ⟨("are_things", none), "are_things", "are_things", defArgs (top 27), defBody (top 27), defScope (top 27), [], []⟩
def dd_partings_into : He.DefD := ⟨("partings_into", none), "partings_into", "partings_into", defArgs (top 31), defBody (top 31), defScope (top 31), [], []⟩
def dd_ways_to_pick : He.DefD := ⟨("ways_to_pick", none), "ways_to_pick", "ways_to_pick", defArgs (top 32), defBody (top 32), defScope (top 32), [], []⟩
def dd_doubled : He.DefD := ⟨("doubled", none), "doubled", "doubled", defArgs (top 34), defBody (top 34), defScope (top 34), [], []⟩
def dd_least_ring : He.DefD := ⟨("least_ring", none), "least_ring", "least_ring", defArgs (top 36), defBody (top 36), defScope (top 36), [], []⟩
def dd__law_hand : He.DefD := ⟨("_law_hand", none), "_law_hand", "_law_hand", defArgs (top 39), defBody (top 39), defScope (top 39), [], []⟩
def dd__law_draw : He.DefD := ⟨("_law_draw", none), "_law_draw", "_law_draw", defArgs (top 40), defBody (top 40), defScope (top 40), [], []⟩
def dd__law_any : He.DefD := ⟨("_law_any", none), "_law_any", "_law_any", defArgs (top 41), defBody (top 41), defScope (top 41), [], []⟩
def dd__law_same : He.DefD := ⟨("_law_same", none), "_law_same", "_law_same", defArgs (top 42), defBody (top 42), defScope (top 42), [], []⟩
def dd__law_odd : He.DefD := ⟨("_law_odd", none), "_law_odd", "_law_odd", defArgs (top 43), defBody (top 43), defScope (top 43), [], []⟩
def dd__law_lots : He.DefD := ⟨("_law_lots", none), "_law_lots", "_law_lots", defArgs (top 44), defBody (top 44), defScope (top 44), [], []⟩
def dd__law_into : He.DefD := ⟨("_law_into", none), "_law_into", "_law_into", defArgs (top 45), defBody (top 45), defScope (top 45), [], []⟩
def dd__law_whole : He.DefD := ⟨("_law_whole", none), "_law_whole", "_law_whole", defArgs (top 46), defBody (top 46), defScope (top 46), [], []⟩
def dd__law_rings : He.DefD := ⟨("_law_rings", none), "_law_rings", "_law_rings", defArgs (top 49), defBody (top 49), defScope (top 49), [], []⟩
def dd__law_is_refused : He.DefD := ⟨("_law_is_refused", none), "_law_is_refused", "_law_is_refused", defArgs (top 50), defBody (top 50), defScope (top 50), [], []⟩
def dd_many_of_two : He.DefD := ⟨("many_of_two", none), "many_of_two", "many_of_two", defArgs (top 33), defBody (top 33), defScope (top 33), [], []⟩
def dd_rings_of : He.DefD := ⟨("rings_of", none), "rings_of", "rings_of", defArgs (top 35), defBody (top 35), defScope (top 35), [], []⟩
def dd_two_alike : He.DefD := ⟨("two_alike", none), "two_alike", "two_alike", defArgs (top 37), defBody (top 37), defScope (top 37), [], []⟩
def dd__law_is_let : He.DefD := ⟨("_law_is_let", none), "_law_is_let", "_law_is_let", defArgs (top 48), defBody (top 48), defScope (top 48), [], []⟩
def dd__law_is_no_count : He.DefD := ⟨("_law_is_no_count", none), "_law_is_no_count", "_law_is_no_count", defArgs (top 51), defBody (top 51), defScope (top 51), [], []⟩
def dd__law_tried : He.DefD := ⟨("_law_tried", none), "_law_tried", "_law_tried", defArgs (top 47), defBody (top 47), defScope (top 47), [], []⟩
def dd_law : He.DefD := ⟨("law", none), "law", "law", defArgs (top 52), defBody (top 52), defScope (top 52), [], []⟩
def fnL : List He.DefD := [dd_exc_BadSides,
  dd_mk_Sides,
  dd_is_integer,
  dd_is_between,
  dd_are_signs,
  dd_lots_of,
  dd_order_sign,
  dd_known_by,
  dd_sign_in,
  dd_base_lots,
  dd_put_for,
  dd_is_stuck,
  dd_first_exchange,
  dd_products_at,
  dd_is_one_sided,
  dd_first_picture,
  dd_is_table,
  dd_told_against,
  dd_are_things,
  dd_partings_into,
  dd_ways_to_pick,
  dd_doubled,
  dd_least_ring,
  dd__law_hand,
  dd__law_draw,
  dd__law_any,
  dd__law_same,
  dd__law_odd,
  dd__law_lots,
  dd__law_into,
  dd__law_whole,
  dd__law_rings,
  dd__law_is_refused,
  dd_many_of_two,
  dd_rings_of,
  dd_two_alike,
  dd__law_is_let,
  dd__law_is_no_count,
  dd__law_tried,
  dd_law]
def faL : List He.Fa := [.free "ValueError",
  .free "abs",
  .free "all",
  .free "any",
  .free "bool",
  .free "dict",
  .free "int",
  .free "isinstance",
  .free "len",
  .free "min",
  .free "range",
  .free "repr",
  .free "sorted",
  .free "sum",
  .free "tuple",
  .free "zip",
  .str "EXCHANGE" "exchange",
  .int "MOST_COUNTED" 12,
  .int "MOST_RANK" 4,
  .int "MOST_THINGS" 8,
  .str "PICTURE" "picture",
  .str "SIDES" "sides",
  .glo "BadSides",
  .glo "NoNumber",
  .exc "NoNumber",
  .glo "SideError",
  .cls "Sides",
  .mkr "Sides",
  .glo "Sides",
  .glo "is_integer",
  .glo "is_between",
  .glo "are_signs",
  .glo "lots_of",
  .glo "order_sign",
  .glo "known_by",
  .glo "sign_in",
  .glo "base_lots",
  .glo "put_for",
  .glo "is_stuck",
  .glo "first_exchange",
  .glo "products_at",
  .glo "is_one_sided",
  .glo "first_picture",
  .glo "is_table",
  .glo "told_against",
  .glo "are_things",
  .glo "partings_into",
  .glo "ways_to_pick",
  .glo "doubled",
  .glo "least_ring",
  .glo "_law_hand",
  .glo "_law_draw",
  .glo "_law_any",
  .glo "_law_same",
  .glo "_law_odd",
  .glo "_law_lots",
  .glo "_law_into",
  .glo "_law_whole",
  .glo "_law_rings",
  .glo "_law_is_refused",
  .glo "many_of_two",
  .glo "rings_of",
  .glo "two_alike",
  .glo "_law_is_let",
  .glo "_law_is_no_count",
  .glo "_law_tried",
  .glo "law"]
def tfL : List He.Defn := [("_law_is_no_count", none),
  ("law", none)]
def cTL (K : PySem.W.Frag) (j : Nat) : Addr × Addr := He.cT K (tfL.getD j ("", none))
def exL (K : PySem.W.Frag) : List Bool := [clsAllB K clsL insL,
  oexAB K "BadSides",
  He.eqO (PySem.W.findIn K (.ref (He.ga K "BadSides")) "__init__") (some (some (.ref (He.ma K (He.ga K "BadSides") "__init__")))),
  decide (PySem.W.typeIn K (.ref (He.ma K (He.ga K "BadSides") "__init__")) = some (.type "function")),
  He.eqO (PySem.W.findIn K (.ref (He.ga K "BadSides")) "part") (some none),
  tabB2 (exmTB K "SideError") clsL ([some true, some true, some true, some true, none] : List (Option Bool)),
  tabB2 (kitTB K (.ref (He.ga K "BadSides"))) clsL ([some false, some false, some false, some true, none] : List (Option Bool)),
  tabB2 (kitTB K (.ref (He.ga K "NoNumber"))) clsL ([some false, some true, some false, some false, none] : List (Option Bool)),
  tabB2 (kitTB K (.type "ValueError")) clsL ([some true, some true, some true, some true, none] : List (Option Bool)),
  ((["known", "many", "rank", "signs"] : List PySem.Str).all fun f => He.eqO (PySem.W.findIn K (.ref (He.ga K "Sides")) f) (some none)),
  decide (((TL (cTL K)).map (·.1)).Nodup)]
theorem frOf {P : Program} {w : World} {K : PySem.W.Frag} {h base : Heap} {mg : PySem.Str → Option Value} (X : K.In h) (G : h.Ns mainGlobals mg) (c : He.SaysX faL fnL [] tfL (fun K => (exL K).all id) w h K) (TB : ∀ p ∈ tfL, TabB base mg (He.cT K p).1 (He.cT K p).2) : Fr (cTL K) (ciOf K w clsL insL) P w K mg base where
  hsh := fun _ => rfl
  cls := clsAll_of (ex_at c.more 0 rfl)
  ValueError_ := He.free_ok X G (c.t.d.fact 0 (f := .free "ValueError") rfl)
  abs_ := He.free_ok X G (c.t.d.fact 1 (f := .free "abs") rfl)
  all_ := He.free_ok X G (c.t.d.fact 2 (f := .free "all") rfl)
  any_ := He.free_ok X G (c.t.d.fact 3 (f := .free "any") rfl)
  bool_ := He.free_ok X G (c.t.d.fact 4 (f := .free "bool") rfl)
  dict_ := He.free_ok X G (c.t.d.fact 5 (f := .free "dict") rfl)
  int_ := He.free_ok X G (c.t.d.fact 6 (f := .free "int") rfl)
  isinstance_ := He.free_ok X G (c.t.d.fact 7 (f := .free "isinstance") rfl)
  len_ := He.free_ok X G (c.t.d.fact 8 (f := .free "len") rfl)
  min_ := He.free_ok X G (c.t.d.fact 9 (f := .free "min") rfl)
  range_ := He.free_ok X G (c.t.d.fact 10 (f := .free "range") rfl)
  repr_ := He.free_ok X G (c.t.d.fact 11 (f := .free "repr") rfl)
  sorted_ := He.free_ok X G (c.t.d.fact 12 (f := .free "sorted") rfl)
  sum_ := He.free_ok X G (c.t.d.fact 13 (f := .free "sum") rfl)
  tuple_ := He.free_ok X G (c.t.d.fact 14 (f := .free "tuple") rfl)
  zip_ := He.free_ok X G (c.t.d.fact 15 (f := .free "zip") rfl)
  EXCHANGE_ := He.str_ok X G (c.t.d.fact 16 (f := .str "EXCHANGE" "exchange") rfl)
  MOST_COUNTED_ := He.int_ok X G (c.t.d.fact 17 (f := .int "MOST_COUNTED" 12) rfl)
  MOST_RANK_ := He.int_ok X G (c.t.d.fact 18 (f := .int "MOST_RANK" 4) rfl)
  MOST_THINGS_ := He.int_ok X G (c.t.d.fact 19 (f := .int "MOST_THINGS" 8) rfl)
  PICTURE_ := He.str_ok X G (c.t.d.fact 20 (f := .str "PICTURE" "picture") rfl)
  SIDES_ := He.str_ok X G (c.t.d.fact 21 (f := .str "SIDES" "sides") rfl)
  exf_BadSides := by
    obtain ⟨fd, F⟩ := c.t.d.def_ 0 (d := dd_exc_BadSides) rfl
    exact ⟨_, _, fd, rfl, rfl, oex_of (ex_at c.more 1 rfl), He.eqO_ok (ex_at c.more 2 rfl), of_decide_eq_true (ex_at c.more 3 rfl), He.eqO_ok (ex_at c.more 4 rfl), fun_of F, (FunD.bindsN F fun _ _ _ _ _ _ us hl => match us, hl with | [_, _], _ => rfl), (He.glo_ok X G (c.t.d.fact 22 (f := .glo "BadSides") rfl))⟩
  exc_NoNumber := fun X0 h1 h2 => exc_of (p := ("NoNumber", [])) h1 h2 rfl rfl (He.glo_ok X G (c.t.d.fact 23 (f := .glo "NoNumber") rfl)) (c.t.d.fact 24 (f := .exc "NoNumber") rfl)
  excl_SideError := ⟨_, rfl, (He.glo_ok X G (c.t.d.fact 25 (f := .glo "SideError") rfl)), exm_tab (tab := ([some true, some true, some true, some true, none] : List (Option Bool))) rfl (ex_at c.more 5 rfl)⟩
  iscl_BadSides := ⟨_, rfl, (He.glo_ok X G (c.t.d.fact 22 (f := .glo "BadSides") rfl)), kit_tab (tab := ([some false, some false, some false, some true, none] : List (Option Bool))) rfl (ex_at c.more 6 rfl)⟩
  iscl_NoNumber := ⟨_, rfl, (He.glo_ok X G (c.t.d.fact 23 (f := .glo "NoNumber") rfl)), kit_tab (tab := ([some false, some true, some false, some false, none] : List (Option Bool))) rfl (ex_at c.more 7 rfl)⟩
  isT_ValueError := kit_tab (tab := ([some true, some true, some true, some true, none] : List (Option Bool))) rfl (ex_at c.more 8 rfl)
  clsF_Sides := fun X0 h1 => clsF_of (p := ("Sides", ["known", "many", "rank", "signs"])) h1 rfl rfl (c.t.d.fact 26 (f := .cls "Sides") rfl) (by decide +kernel) (by decide) (ex_at c.more 9 rfl)
  fN_Sides := rfl
  mk_Sides := by
    obtain ⟨fd, F⟩ := c.t.d.def_ 1 (d := dd_mk_Sides) rfl
    exact ⟨_, _, fd, rfl, He.mkr_ok (c.t.d.fact 27 (f := .mkr "Sides") rfl), fun_of F, (He.glo_ok X G (c.t.d.fact 28 (f := .glo "Sides") rfl)), (FunD.bindsN F fun _ _ _ _ _ _ us hl => match us, hl with | [_, _, _, _], _ => rfl)⟩
  d_is_integer := by
    obtain ⟨fd, F⟩ := c.t.d.def_ 2 (d := dd_is_integer) rfl
    exact df_of F (He.glo_ok X G (c.t.d.fact 29 (f := .glo "is_integer") rfl)) (FunD.bindsN F fun _ _ _ _ _ _ us hl => match us, hl with | [_], _ => rfl)
  d_is_between := by
    obtain ⟨fd, F⟩ := c.t.d.def_ 3 (d := dd_is_between) rfl
    exact df_of F (He.glo_ok X G (c.t.d.fact 30 (f := .glo "is_between") rfl)) (FunD.bindsN F fun _ _ _ _ _ _ us hl => match us, hl with | [_, _, _], _ => rfl)
  d_are_signs := by
    obtain ⟨fd, F⟩ := c.t.d.def_ 4 (d := dd_are_signs) rfl
    exact df_of F (He.glo_ok X G (c.t.d.fact 31 (f := .glo "are_signs") rfl)) (FunD.bindsN F fun _ _ _ _ _ _ us hl => match us, hl with | [_, _], _ => rfl)
  d_lots_of := by
    obtain ⟨fd, F⟩ := c.t.d.def_ 5 (d := dd_lots_of) rfl
    exact df_of F (He.glo_ok X G (c.t.d.fact 32 (f := .glo "lots_of") rfl)) (FunD.bindsN F fun _ _ _ _ _ _ us hl => match us, hl with | [_, _], _ => rfl)
  d_order_sign := by
    obtain ⟨fd, F⟩ := c.t.d.def_ 6 (d := dd_order_sign) rfl
    exact df_of F (He.glo_ok X G (c.t.d.fact 33 (f := .glo "order_sign") rfl)) (FunD.bindsN F fun _ _ _ _ _ _ us hl => match us, hl with | [_], _ => rfl)
  d_known_by := by
    obtain ⟨fd, F⟩ := c.t.d.def_ 7 (d := dd_known_by) rfl
    exact df_of F (He.glo_ok X G (c.t.d.fact 34 (f := .glo "known_by") rfl)) (FunD.bindsN F fun _ _ _ _ _ _ us hl => match us, hl with | [_, _, _], _ => rfl)
  d_sign_in := by
    obtain ⟨fd, F⟩ := c.t.d.def_ 8 (d := dd_sign_in) rfl
    exact df_of F (He.glo_ok X G (c.t.d.fact 35 (f := .glo "sign_in") rfl)) (FunD.bindsN F fun _ _ _ _ _ _ us hl => match us, hl with | [_, _], _ => rfl)
  d_base_lots := by
    obtain ⟨fd, F⟩ := c.t.d.def_ 9 (d := dd_base_lots) rfl
    exact df_of F (He.glo_ok X G (c.t.d.fact 36 (f := .glo "base_lots") rfl)) (FunD.bindsN F fun _ _ _ _ _ _ us hl => match us, hl with | [_], _ => rfl)
  d_put_for := by
    obtain ⟨fd, F⟩ := c.t.d.def_ 10 (d := dd_put_for) rfl
    exact df_of F (He.glo_ok X G (c.t.d.fact 37 (f := .glo "put_for") rfl)) (FunD.bindsN F fun _ _ _ _ _ _ us hl => match us, hl with | [_, _, _], _ => rfl)
  d_is_stuck := by
    obtain ⟨fd, F⟩ := c.t.d.def_ 11 (d := dd_is_stuck) rfl
    exact df_of F (He.glo_ok X G (c.t.d.fact 38 (f := .glo "is_stuck") rfl)) (FunD.bindsN F fun _ _ _ _ _ _ us hl => match us, hl with | [_, _, _, _], _ => rfl)
  d_first_exchange := by
    obtain ⟨fd, F⟩ := c.t.d.def_ 12 (d := dd_first_exchange) rfl
    exact df_of F (He.glo_ok X G (c.t.d.fact 39 (f := .glo "first_exchange") rfl)) (FunD.bindsN F fun _ _ _ _ _ _ us hl => match us, hl with | [_], _ => rfl)
  d_products_at := by
    obtain ⟨fd, F⟩ := c.t.d.def_ 13 (d := dd_products_at) rfl
    exact df_of F (He.glo_ok X G (c.t.d.fact 40 (f := .glo "products_at") rfl)) (FunD.bindsN F fun _ _ _ _ _ _ us hl => match us, hl with | [_, _, _], _ => rfl)
  d_is_one_sided := by
    obtain ⟨fd, F⟩ := c.t.d.def_ 14 (d := dd_is_one_sided) rfl
    exact df_of F (He.glo_ok X G (c.t.d.fact 41 (f := .glo "is_one_sided") rfl)) (FunD.bindsN F fun _ _ _ _ _ _ us hl => match us, hl with | [_], _ => rfl)
  d_first_picture := by
    obtain ⟨fd, F⟩ := c.t.d.def_ 15 (d := dd_first_picture) rfl
    exact df_of F (He.glo_ok X G (c.t.d.fact 42 (f := .glo "first_picture") rfl)) (FunD.bindsN F fun _ _ _ _ _ _ us hl => match us, hl with | [_, _, _], _ => rfl)
  d_is_table := by
    obtain ⟨fd, F⟩ := c.t.d.def_ 16 (d := dd_is_table) rfl
    exact df_of F (He.glo_ok X G (c.t.d.fact 43 (f := .glo "is_table") rfl)) (FunD.bindsN F fun _ _ _ _ _ _ us hl => match us, hl with | [_, _, _], _ => rfl)
  d_told_against := by
    obtain ⟨fd, F⟩ := c.t.d.def_ 17 (d := dd_told_against) rfl
    exact df_of F (He.glo_ok X G (c.t.d.fact 44 (f := .glo "told_against") rfl)) (FunD.bindsN F fun _ _ _ _ _ _ us hl => match us, hl with | [_, _, _], _ => rfl)
  d_are_things := by
    obtain ⟨fd, F⟩ := c.t.d.def_ 18 (d := dd_are_things) rfl
    exact df_of F (He.glo_ok X G (c.t.d.fact 45 (f := .glo "are_things") rfl)) (FunD.bindsN F fun _ _ _ _ _ _ us hl => match us, hl with | [_, _, _], _ => rfl)
  d_partings_into := by
    obtain ⟨fd, F⟩ := c.t.d.def_ 19 (d := dd_partings_into) rfl
    exact df_of F (He.glo_ok X G (c.t.d.fact 46 (f := .glo "partings_into") rfl)) (FunD.bindsN F fun _ _ _ _ _ _ us hl => match us, hl with | [_, _], _ => rfl)
  d_ways_to_pick := by
    obtain ⟨fd, F⟩ := c.t.d.def_ 20 (d := dd_ways_to_pick) rfl
    exact df_of F (He.glo_ok X G (c.t.d.fact 47 (f := .glo "ways_to_pick") rfl)) (FunD.bindsN F fun _ _ _ _ _ _ us hl => match us, hl with | [_, _], _ => rfl)
  d_doubled := by
    obtain ⟨fd, F⟩ := c.t.d.def_ 21 (d := dd_doubled) rfl
    exact df_of F (He.glo_ok X G (c.t.d.fact 48 (f := .glo "doubled") rfl)) (FunD.bindsN F fun _ _ _ _ _ _ us hl => match us, hl with | [_], _ => rfl)
  d_least_ring := by
    obtain ⟨fd, F⟩ := c.t.d.def_ 22 (d := dd_least_ring) rfl
    exact df_of F (He.glo_ok X G (c.t.d.fact 49 (f := .glo "least_ring") rfl)) (FunD.bindsN F fun _ _ _ _ _ _ us hl => match us, hl with | [_], _ => rfl)
  d__law_hand := by
    obtain ⟨fd, F⟩ := c.t.d.def_ 23 (d := dd__law_hand) rfl
    exact df_of F (He.glo_ok X G (c.t.d.fact 50 (f := .glo "_law_hand") rfl)) (FunD.bindsN F fun _ _ _ _ _ _ us hl => match us, hl with | [_], _ => rfl)
  d__law_draw := by
    obtain ⟨fd, F⟩ := c.t.d.def_ 24 (d := dd__law_draw) rfl
    exact df_of F (He.glo_ok X G (c.t.d.fact 51 (f := .glo "_law_draw") rfl)) (FunD.bindsN F fun _ _ _ _ _ _ us hl => match us, hl with | [_, _], _ => rfl)
  d__law_any := by
    obtain ⟨fd, F⟩ := c.t.d.def_ 25 (d := dd__law_any) rfl
    exact df_of F (He.glo_ok X G (c.t.d.fact 52 (f := .glo "_law_any") rfl)) (FunD.bindsN F fun _ _ _ _ _ _ us hl => match us, hl with | [_, _], _ => rfl)
  d__law_same := by
    obtain ⟨fd, F⟩ := c.t.d.def_ 26 (d := dd__law_same) rfl
    exact df_of F (He.glo_ok X G (c.t.d.fact 53 (f := .glo "_law_same") rfl)) (FunD.bindsN F fun _ _ _ _ _ _ us hl => match us, hl with | [_, _], _ => rfl)
  d__law_odd := by
    obtain ⟨fd, F⟩ := c.t.d.def_ 27 (d := dd__law_odd) rfl
    exact df_of F (He.glo_ok X G (c.t.d.fact 54 (f := .glo "_law_odd") rfl)) (FunD.bindsN F fun _ _ _ _ _ _ us hl => match us, hl with | [_], _ => rfl)
  d__law_lots := by
    obtain ⟨fd, F⟩ := c.t.d.def_ 28 (d := dd__law_lots) rfl
    exact df_of F (He.glo_ok X G (c.t.d.fact 55 (f := .glo "_law_lots") rfl)) (FunD.bindsN F fun _ _ _ _ _ _ us hl => match us, hl with | [_, _], _ => rfl)
  d__law_into := by
    obtain ⟨fd, F⟩ := c.t.d.def_ 29 (d := dd__law_into) rfl
    exact df_of F (He.glo_ok X G (c.t.d.fact 56 (f := .glo "_law_into") rfl)) (FunD.bindsN F fun _ _ _ _ _ _ us hl => match us, hl with | [_, _], _ => rfl)
  d__law_whole := by
    obtain ⟨fd, F⟩ := c.t.d.def_ 30 (d := dd__law_whole) rfl
    exact df_of F (He.glo_ok X G (c.t.d.fact 57 (f := .glo "_law_whole") rfl)) (FunD.bindsN F fun _ _ _ _ _ _ us hl => match us, hl with | [_], _ => rfl)
  d__law_rings := by
    obtain ⟨fd, F⟩ := c.t.d.def_ 31 (d := dd__law_rings) rfl
    exact df_of F (He.glo_ok X G (c.t.d.fact 58 (f := .glo "_law_rings") rfl)) (FunD.bindsN F fun _ _ _ _ _ _ us hl => match us, hl with | [_, _], _ => rfl)
  gf__law_is_refused := by
    obtain ⟨fd, F⟩ := c.t.d.def_ 32 (d := dd__law_is_refused) rfl
    exact giv_of F (He.glo_ok X G (c.t.d.fact 59 (f := .glo "_law_is_refused") rfl)) (FunD.bindsN F fun _ _ _ _ _ _ us hl => match us, hl with | [_], _ => rfl) sc__law_is_refused rfl (by first | exact .inl rfl | exact .inr (.inl rfl))
  d_many_of_two := by
    obtain ⟨fd, F⟩ := c.t.d.def_ 33 (d := dd_many_of_two) rfl
    exact df_of F (He.glo_ok X G (c.t.d.fact 60 (f := .glo "many_of_two") rfl)) (FunD.bindsN F fun _ _ _ _ _ _ us hl => match us, hl with | [_], _ => rfl)
  d_rings_of := by
    obtain ⟨fd, F⟩ := c.t.d.def_ 34 (d := dd_rings_of) rfl
    exact df_of F (He.glo_ok X G (c.t.d.fact 61 (f := .glo "rings_of") rfl)) (FunD.bindsN F fun _ _ _ _ _ _ us hl => match us, hl with | [_, _], _ => rfl)
  d_two_alike := by
    obtain ⟨fd, F⟩ := c.t.d.def_ 35 (d := dd_two_alike) rfl
    exact df_of F (He.glo_ok X G (c.t.d.fact 62 (f := .glo "two_alike") rfl)) (FunD.bindsN F fun _ _ _ _ _ _ us hl => match us, hl with | [_, _], _ => rfl)
  d__law_is_let := by
    obtain ⟨fd, F⟩ := c.t.d.def_ 36 (d := dd__law_is_let) rfl
    exact df_of F (He.glo_ok X G (c.t.d.fact 63 (f := .glo "_law_is_let") rfl)) (FunD.bindsN F fun _ _ _ _ _ _ us hl => match us, hl with | [_, _], _ => rfl)
  d__law_is_no_count := by
    obtain ⟨fd, F⟩ := c.t.d.def_ 37 (d := dd__law_is_no_count) rfl
    exact dfc_of F (He.glo_ok X G (c.t.d.fact 64 (f := .glo "_law_is_no_count") rfl)) (FunD.bindsN F fun _ _ _ _ _ _ us hl => match us, hl with | [_, _, _], _ => rfl)
  d__law_tried := by
    obtain ⟨fd, F⟩ := c.t.d.def_ 38 (d := dd__law_tried) rfl
    exact df_of F (He.glo_ok X G (c.t.d.fact 65 (f := .glo "_law_tried") rfl)) (FunD.bindsN F fun _ _ _ _ _ _ us hl => match us, hl with | [_], _ => rfl)
  tb__law_is_no_count := TB ("_law_is_no_count", none) (.head _)
  tb_law := TB ("law", none) (.tail _ (.head _))
  tn := of_decide_eq_true (ex_at c.more 10 rfl)
theorem tl_mem {K : PySem.W.Frag} {p : Addr × PySem.Str} (hp : p ∈ TL (cTL K)) : ∃ q, q ∈ tfL ∧ p.1 = (He.cT K q).2 := by
  unfold TL at hp
  simp only [List.mem_cons, List.not_mem_nil, or_false] at hp
  rcases hp with rfl | rfl
  · exact ⟨("_law_is_no_count", none), (.head _), rfl⟩
  · exact ⟨("law", none), (.tail _ (.head _)), rfl⟩
abbrev RWo : PySem.W.OpenRow := PySem.W.OpenLaw.row PySem.Challenge.rw_signlots_k91_whole_counts_of_rank_two
def names : List PySem.Str := (["SideError", "NoNumber", "NoThings", "BadSides", "MOST_THINGS", "MOST_RANK", "SIDES", "EXCHANGE", "PICTURE", "is_integer", "is_between", "are_signs", "lots_of", "order_sign", "known_by", "sign_in", "base_lots", "put_for", "is_stuck", "first_exchange", "products_at", "is_one_sided", "first_picture", "is_table", "told_against"] : List PySem.Str) ++ (["are_things", "Sides", "MOST_COUNTED", "partings_into", "ways_to_pick", "many_of_two", "doubled", "rings_of", "least_ring", "two_alike", "_law_hand", "_law_draw", "_law_any", "_law_same", "_law_odd", "_law_lots", "_law_into", "_law_whole", "_law_tried", "_law_is_let", "_law_rings", "_law_is_refused", "_law_is_no_count"] : List PySem.Str)
abbrev hk : PySem.W.Hook := He.hookX 8 faL fnL [] tfL (fun K => (exL K).all id)
def ob (s : PySem.W.SharedT) : He.AlX := He.obsX 8 faL fnL [] tfL (fun K => (exL K).all id) (HandSHeadRun.getT s)
theorem ob_eq (s : PySem.W.SharedT) : ob s = hk.obs s.abs := He.obsX_eq (HandSHeadRun.getT_eq s)
theorem run (w : World) : HandSHeadRun.RunEq RWo (PySem.W.view RWo.prog [52]) hk ob 100000 names w := by
  intro os
  kernel_rfl
/-- what is left: the law's answer, in plain Lean -/
theorem holds_of (plain : ∀ ns : List Int, ns.length ≤ 63 → LawT m__law_hand 10 g_law ns) : PySem.Challenge.rw_signlots_k91_whole_counts_of_rank_two.Holds := by
  w_on; o_law
  refine HandSHeadRun.head_any (r := PySem.W.OpenLaw.row PySem.Challenge.rw_signlots_k91_whole_counts_of_rank_two) (q := PySem.W.view (PySem.W.OpenLaw.row PySem.Challenge.rw_signlots_k91_whole_counts_of_rank_two).prog [52]) (H := hk) (ob := ob) (M := 100000) (loose := names) (d := HandSHeadRun.topDef (PySem.W.OpenLaw.row PySem.Challenge.rw_signlots_k91_whole_counts_of_rank_two).prog 52) (kwd := []) ob_eq
    (by kernel_rfl) (fun s => by kernel_rfl) run (by kernel_rfl) (by kernel_rfl) (by kernel_rfl) (by rfl) (by first | assumption | decide +kernel) (by decide +kernel) ⟨rfl, rfl, rfl, rfl, rfl, by decide +kernel⟩ ?hw ?hc
  case hw => w_witness2
  case hc =>
    refine LamX.walk_ofTsE (l := PySem.Challenge.rw_signlots_k91_whole_counts_of_rank_two) (n := 63) (k := 10) (x := "script") (CX := fun w => L2.CX (PySem.Challenge.rw_signlots_k91_whole_counts_of_rank_two).prog w) rfl (by decide) (by kernel_rfl) ⟨rfl, by decide, by decide⟩ ?F (fun _ _ _ _ _ ⟨_, _, _, _, _, _, _, _, _, _, _, _, z⟩ => z)
    intro w mg fa h Y G hmg0
    obtain ⟨K, KX, c⟩ := Y
    have hmg : mg ("law" : PySem.Str) = some (.ref fa) := by
      have e : (HandSHeadRun.topDef (PySem.W.OpenLaw.row PySem.Challenge.rw_signlots_k91_whole_counts_of_rank_two).prog 52).name = ("law" : PySem.Str) := by kernel_rfl
      rw [← e]
      exact hmg0
    obtain ⟨fd, F⟩ := c.t.d.def_ 39 (d := dd_law) rfl
    have e := hmg.symm.trans (He.glo_ok KX G (c.t.d.fact 66 (f := .glo "law") rfl))
    cases e
    have Fu : L2.Fun K "law" "law" (top 52) _ fd := fun_of F
    have b := FunD.bindsA (ps := ["script"]) F fun _ _ _ _ _ _ us hl => match us, hl with | [_], _ => rfl
    refine ⟨K, KX, fd, tfL.map (He.cT K), SpLaw K (TL (cTL K)) (fun ns => ns.length ≤ 63), fun p hp => ?_, fun p hp => ?_, fun p hp => ?_, fun s v => b s [v] rfl, fun H a ns hl _ ht hS => ⟨a, ns, rfl, hS, ?_, hl, fun _ => rfl⟩, fun base KB GB TB => ?_⟩
    · obtain ⟨q, hq, rfl⟩ := List.mem_map.mp hp
      exact c.empty q hq
    · obtain ⟨q, hq, rfl⟩ := List.mem_map.mp hp
      exact c.out q hq
    · obtain ⟨q, hq, rfl⟩ := List.mem_map.mp hp
      exact PySem.W.codeHd_of_K KX (c.hd q hq)
    · intro p hp
      obtain ⟨q, hq⟩ := tl_mem hp
      rw [hq.2]
      exact ht _ (List.mem_map.mpr ⟨q, hq.1, rfl⟩)
    · exact ok_law (frOf KX G c fun p hp => TB _ (List.mem_map.mpr ⟨p, hp, rfl⟩)) Fu (fd_code (p := ("law", none)) Fu rfl) plain
end K91
set_option Elab.async false
set_option linter.all false
set_option autoImplicit false
set_option maxRecDepth 100000
set_option maxHeartbeats 4000000
/-! k91, the plain law. -/
namespace K91
open Fx
local macro_rules | `(tactic| fail) => `(tactic| with_reducible first
  | refine w_seq ?_ | refine w_set ?_ | refine w_if ?_ | refine w_ret ?_ | refine w_setF ?_ | refine w_drop ?_ | refine w_next ?_ | refine w_break ?_ | refine w_cont ?_ | refine w_tgt ?_ | refine w_par ?_ | refine w_aug (by with_unfolding_all rfl) ?_
  | refine w_hput (by with_unfolding_all rfl) ?_ | refine w_app (by with_unfolding_all rfl) ?_ | refine w_ext (by with_unfolding_all rfl) ?_ | refine w_frz (by with_unfolding_all rfl) ?_
  | refine v_c ?_ | refine v_var (by with_unfolding_all rfl) ?_ | refine v_bvar (by with_unfolding_all rfl) ?_ | refine v_bown (by with_unfolding_all rfl) ?_ | refine v_bin ?_ | refine v_un ?_ | refine v_ml ?_
  | refine v_nil ?_ | refine v_cons ?_ | refine v_tup ?_ | refine v_flst ?_ | refine v_of ?_ | refine v_if ?_ | refine v_andb ?_ | refine v_orb ?_ | refine v_chain ?_ | refine v_callP ?_ | refine v_callH (by with_unfolding_all rfl) ?_ | refine v_lam ?_ | refine v_tval ?_ | refine v_ttru ?_ | refine v_tnot ?_ | refine v_tand ?_ | refine v_tor ?_ | refine v_tyes ?_
  | refine v_range1 ?_ | refine v_range2 ?_ | refine v_seq2 ?_ | refine v_cat ?_
  | refine v_hg (by with_unfolding_all rfl) (by with_unfolding_all rfl) ?_ | refine v_hlen (by with_unfolding_all rfl) ?_ | refine v_hcell (by with_unfolding_all rfl) ?_
  | refine bl_some ?_ | refine int_some ?_ | refine len_ok (by with_unfolding_all rfl) ?_ | refine hp_some (by with_unfolding_all rfl) ?_
  | refine op_some o_eqI ?_ | refine op_some o_neI ?_ | refine op_some o_ltI ?_ | refine op_some o_gtI ?_ | refine op_some o_leI ?_ | refine op_some o_geI ?_ | refine op_some o_addI ?_ | refine op_some o_subI ?_
  | refine op_some (o_mulR (by with_unfolding_all decide)) ?_ | refine op_some (o_mulL (by first | with_unfolding_all decide | exact small_mod (by decide) (by decide))) ?_ | refine op_some (o_modI (by first | with_unfolding_all decide | omega)) ?_ | refine op_some (o_fdivI (by first | with_unfolding_all decide | omega) (by first | with_unfolding_all decide | omega)) ?_ | refine op_some (o_powI (by with_unfolding_all decide)) ?_
  | refine un_some o_intI ?_ | refine un_some o_negI ?_ | refine un_some o_notB ?_ | refine un_some o_lenT ?_ | refine un_some o_lenL ?_
  | refine ite_nt ?_ | refine ite_nf ?_ | refine sat_nt ?_ | refine sat_nf ?_ | refine rsat_nt ?_ | refine rsat_nf ?_ | refine ite_t ?_ | refine ite_f ?_ | refine sat_t ?_ | refine sat_f ?_ | refine rsat_t ?_ | refine rsat_f ?_ | refine ite_dec (fun _ => ?_) (fun _ => ?_) | refine ite_ndec (fun _ => ?_) (fun _ => ?_) | refine sat_dec (fun _ => ?_) (fun _ => ?_) | refine sat_ndec (fun _ => ?_) (fun _ => ?_) | refine rsat_dec (fun _ => ?_) (fun _ => ?_))
/-! the hand -/
theorem hand_ok (ns : List Int) (h63 : ns.length ≤ 63) : ∃ h : Hd, 0 ≤ h.at_ ∧ m__law_hand ns () = .ok h.enc () := by
  have hc : cutD (ns.map D.int) none (some 63) = (ns.take 63).map D.int := by
    unfold cutD sIx
    show List.take (min 63 (ns.map D.int).length - 0) (List.drop 0 (ns.map D.int)) = _
    rw [List.drop_zero, Nat.sub_zero, List.map_take]
    rw [List.length_map, Nat.min_eq_right h63, List.take_of_length_le (by rw [List.length_map]; exact Nat.le_refl _), List.take_of_length_le (by rw [List.length_map]; exact h63)]
  have hl : (ns.take 63).length ≤ 63 := by rw [List.length_take]; exact Nat.min_le_left _ _
  refine ⟨⟨(ns.take 63).map fun i => if i < 0 then -i else i, 0, 0, 281 + 3 * ((ns.take 63).length : Int), 0⟩, Int.le_refl _, ?_⟩
  show endG (g__law_hand ns (LV.fnn :: List.replicate 1 LV.un) ()) = _
  refine unit_eq ?_
  · refine endG_sat ?_
    unfold g__law_hand
    repeat' fail
    have e0 : fScr ns (LV.fnn :: List.replicate 1 LV.un) () = .ok ((ns.take 63).map D.int) () := by
      show R.ok (cutD (ns.map D.int) none (some 63)) () = _
      rw [hc]
    refine R.sat_ok (v_lcmap (l := (ns.take 63).map D.int) (fun d => match d with | .int i => .int (if i < 0 then -i else i) | d => d) ?_ ?_ ?_) ?_
    · show ((fScr ns (LV.fnn :: List.replicate 1 LV.un) ()).bind _).bind _ = _
      rw [e0]; rfl
    · rw [List.length_map]; exact Nat.le_trans hl (by decide)
    · intro d hd
      obtain ⟨i, _, rfl⟩ := List.mem_map.mp hd
      exact ⟨_, rfl, rfl, rfl⟩
    · repeat' fail
      refine R.sat_ok e0 ?_
      repeat' fail
      unfold Hd.enc
      rw [List.length_map, List.map_map, List.map_map]
      rfl
theorem draw_sat {h : Hd} {many : Int} (h0 : 0 ≤ h.at_) (m0 : 0 < many) (m1 : many < 1073741824) {Q : D → Hd → Prop} (w : ∀ (n : Nat) h', (n : Int) < many → 0 ≤ h'.at_ → Q (.int n) h') : (m__law_draw [.int many] h).sat Q := by
  refine runH1 ?_
  unfold g__law_draw
  repeat' fail
  all_goals first | exact draw_fin m0 h0 w | skip
  · refine cell_at h0 (by assumption) fun c => ?_
    repeat' fail
    all_goals exact draw_fin m0 (by show 0 ≤ h.at_ + 1; omega) w
theorem any_sat {h : Hd} {l : List D} (h0 : 0 ≤ h.at_) (l0 : l ≠ []) (l1 : l.length < 1073741824) {Q : D → Hd → Prop} (w : ∀ d ∈ l, ∀ h', 0 ≤ h'.at_ → Q d h') : (m__law_any [.lst l] h).sat Q := by
  have hp : 0 < l.length := List.length_pos_iff.mpr l0
  refine runH1 ?_
  unfold g__law_any
  repeat' fail
  refine draw_sat h0 (by omega) (by omega) fun n h' hn h0' => ?_
  have hn' : n < l.length := by omega
  refine op_some (o_ixL (j := n) rfl (List.getElem?_eq_getElem hn')) ?_
  exact w _ (List.getElem_mem _) h' h0'
/-! things that are no count -/
def NI (d : D) : Prop := ∀ i, d = .int i → i = -1 ∨ i = 100000000000
theorem odd_sat {h : Hd} (h0 : 0 ≤ h.at_) {Q : D → Hd → Prop} (w : ∀ d, NI d → ∀ h', 0 ≤ h'.at_ → Q d h') : (m__law_odd [] h).sat Q := by
  refine runH0 ?_
  unfold g__law_odd
  repeat' fail
  refine w_for (fun _ ρ s => 0 ≤ s.at_ ∧ ∃ d x2, (∀ i, d ≠ .int i) ∧ ρ = [.hnd, .val d, x2]) ?_ ?_ ?_
  · repeat' fail
    refine draw_sat h0 (by decide) (by decide) fun n h' hn h0' => ?_
    repeat' fail
    refine ⟨?_, h0', .non, .un, fun i => by simp, rfl⟩
    rw [show (1 : Int) + (n : Int) = ((1 + n : Nat) : Int) by omega]
    exact okR_nat (by omega)
  · rintro d ds ρ s ⟨h0', e, x2, he, rfl⟩
    refine ⟨_, rfl, ?_⟩
    repeat' fail
    refine R.sat_ok (a := D.dct [(.int 0, e)]) rfl ?_
    repeat' fail
    refine draw_sat h0' (by decide) (by decide) fun n h' hn h0' => ?_
    have hn3 : n = 0 ∨ n = 1 ∨ n = 2 := by omega
    rcases hn3 with rfl | rfl | rfl
    · refine op_some (o_ixL (j := 0) rfl rfl) ?_
      exact ⟨h0', _, _, (by intro i z; cases z), rfl⟩
    · refine op_some (o_ixL (j := 1) rfl rfl) ?_
      exact ⟨h0', _, _, (by intro i z; cases z), rfl⟩
    · refine op_some (o_ixL (j := 2) rfl rfl) ?_
      exact ⟨h0', _, _, (by intro i z; cases z), rfl⟩
  · rintro ρ s ⟨h0', e, x2, he, rfl⟩
    repeat' fail
    refine any_sat h0' (by simp) (by show (13 : Nat) < _; decide) fun d hd h' h0' => w d ?_ h' h0'
    intro i hi
    subst hi
    simp only [List.mem_cons, List.not_mem_nil, or_false] at hd
    rcases hd with z | z | z | z | z | z | z | z | z | z | z | z | z
    all_goals first | (cases z; done) | (injection z with z; exact .inl z) | (injection z with z; exact .inr z) | exact absurd z.symm (he i)
theorem is_int_no (d : D) (h : ∀ i, d ≠ .int i) : m_is_integer [d] () = .ok (.bl false) () := by
  cases d with
  | int i => exact absurd rfl (h i)
  | _ => rfl
theorem is_int_yes (i : Int) : m_is_integer [.int i] () = .ok (.bl true) () := rfl
theorem is_between_int (i lo hi : Int) : m_is_between [.int i, .int lo, .int hi] () = .ok (.bl (decide (lo ≤ i ∧ i ≤ hi))) () := by
  refine unit_eq (runG3 ?_)
  unfold g_is_between
  repeat' fail
  refine R.sat_ok (is_int_yes i) ?_
  repeat' fail
  · rename_i h; simp [h]
  · rename_i h; simp [h]
theorem is_between_no (d : D) (lo hi : Int) (h : ∀ i, d = .int i → ¬(lo ≤ i ∧ i ≤ hi)) : m_is_between [d, .int lo, .int hi] () = .ok (.bl false) () := by
  by_cases hd : ∃ i, d = .int i
  · obtain ⟨i, rfl⟩ := hd
    rw [is_between_int, decide_eq_false (h i rfl)]
  · refine unit_eq (runG3 ?_)
    unfold g_is_between
    repeat' fail
    refine R.sat_ok (is_int_no d fun i e => hd ⟨i, e⟩) ?_
    repeat' fail
    rfl
theorem is_between_yes {i lo hi : Int} (h1 : lo ≤ i) (h2 : i ≤ hi) : m_is_between [.int i, .int lo, .int hi] () = .ok (.bl true) () := by
  rw [is_between_int, decide_eq_true ⟨h1, h2⟩]
theorem mot_no (d : D) (h : ∀ i, d = .int i → ¬(2 ≤ i ∧ i ≤ 12)) : m_many_of_two [d] () = .exc ⟨1, none⟩ () := by
  show endG (g_many_of_two [.val d, .un, .un, .un, .un, .un] ()) = _
  unfold g_many_of_two
  rw [guard_no (l := [d, .int 2, .int 12]) rfl (is_between_no d 2 12 h)]
  rfl
theorem al_no1 (d e : D) (h : ∀ i, d = .int i → ¬(2 ≤ i ∧ i ≤ 8)) : m_two_alike [d, e] () = .exc ⟨1, none⟩ () := by
  show endG (g_two_alike [.val d, .val e, .un] ()) = _
  unfold g_two_alike
  rw [guard_no (l := [d, .int 2, .int 8]) rfl (is_between_no d 2 8 h)]
  rfl
theorem al_no2 (n : Int) (e : D) (h1 : 2 ≤ n) (h2 : n ≤ 8) (h : ∀ i, e = .int i → ¬(2 ≤ i ∧ i ≤ n)) : m_two_alike [.int n, e] () = .exc ⟨1, none⟩ () := by
  show endG (g_two_alike [.val (.int n), .val e, .un] ()) = _
  unfold g_two_alike
  rw [guard_yes (l := [.int n, .int 2, .int 8]) rfl (is_between_yes h1 h2), guard_no (l := [e, .int 2, .int n]) rfl (is_between_no e 2 n h)]
  rfl
theorem refused {S : Type} {th : S → R S D} {s s' : S} (h : th s = .exc ⟨1, none⟩ s') : m__law_is_refused th s = .ok (.bl true) s' := by
  show endG (g__law_is_refused th [.fnn, .un] s) = _
  unfold g__law_is_refused gSeq gTryAs gDrop
  rw [show eThunk 0 th [.fnn, .un] s = .exc ⟨1, none⟩ s' from h]
  rfl
theorem no_count (odd : D) (n : Int) (none : D) (h0 : ∀ i, odd = .int i → ¬(2 ≤ i ∧ i ≤ 8)) (h1 : 2 ≤ n) (h2 : n ≤ 8) (h : ∀ i, none = .int i → ¬(2 ≤ i ∧ i ≤ n)) : m__law_is_no_count [odd, .int n, none] () = .ok (.bl true) () := by
  refine unit_eq (runG3 ?_)
  unfold g__law_is_no_count
  repeat' fail
  refine R.sat_ok (refused (s' := ()) (by exact e_callPx (l := [odd, .int 2]) (by rfl) (al_no1 odd _ h0))) ?_
  repeat' fail
  refine R.sat_ok (refused (s' := ()) (by exact e_callPx (l := [.int n, none]) (by rfl) (al_no2 n none h1 h2 h))) ?_
  rfl
def Wt : List Nat := [0, 0, 1, 5, 25, 149, 1081, 9365, 94585, 1091669, 14174521, 204495125, 3245265145]
def mots : List Nat := [0, 0, 1, 13, 146, 1802, 26163, 449655, 9009508, 206619604, 5338334885, 153408593057, 4853054439030]

/-! the sum -/
def Pt (n : Nat) : Nat → Nat
  | 0 => 0
  | u + 1 => if u < 2 then 0 else Pt n u + (lots n u).length * Wt.getD u 0 * 2 ^ (u - 2)
theorem Pt_ok : ([2, 3, 4, 5, 6, 7, 8, 9, 10, 11, 12].all fun n => decide (Pt n (n + 1) = mots.getD n 0)) = true := by decide +kernel
theorem lots_ok : ((List.range 13).all fun n => (List.range 13).all fun u => decide ((lots n u).length ≤ 1000)) = true := by decide +kernel
theorem inner (u : Nat) (h2 : 2 ≤ u) (h12 : u ≤ 12) (a b c d e f g : LV) : ∃ e' f' g', gFor (wRange2 (eC (.int 2)) (eBin dAdd (bVar 2) (eC (.int 1)))) (tgN 3) (gSeq (gSet 6 (eC (.int 1)))
  (gSeq (gFor (wRange2 (eC (.int 1)) (eVar 3)) (tgN 7) (gSet 6 (eBin dMul (bVar 6) (bVar 7))))
  (gSet 5 (eBin dAdd (bVar 5) (eBin dMul (eCallP m__law_into (aCons (eVar 2) (aCons (eVar 3) aNil))) (bVar 6)))))) [a, b, .val (.int u), c, d, .val (.int 0), e, f] () = .nx [a, b, .val (.int u), e', d, .val (.int (Wt.getD u 0 : Nat)), f', g'] () := by
  have hu : u = 2 ∨ u = 3 ∨ u = 4 ∨ u = 5 ∨ u = 6 ∨ u = 7 ∨ u = 8 ∨ u = 9 ∨ u = 10 ∨ u = 11 ∨ u = 12 := by omega
  rcases hu with rfl | rfl | rfl | rfl | rfl | rfl | rfl | rfl | rfl | rfl | rfl
  · exact ⟨.val (.int 2), .val (.int 1), .val (.int 1), by kernel_rfl⟩
  · exact ⟨.val (.int 3), .val (.int 2), .val (.int 2), by kernel_rfl⟩
  · exact ⟨.val (.int 4), .val (.int 6), .val (.int 3), by kernel_rfl⟩
  · exact ⟨.val (.int 5), .val (.int 24), .val (.int 4), by kernel_rfl⟩
  · exact ⟨.val (.int 6), .val (.int 120), .val (.int 5), by kernel_rfl⟩
  · exact ⟨.val (.int 7), .val (.int 720), .val (.int 6), by kernel_rfl⟩
  · exact ⟨.val (.int 8), .val (.int 5040), .val (.int 7), by kernel_rfl⟩
  · exact ⟨.val (.int 9), .val (.int 40320), .val (.int 8), by kernel_rfl⟩
  · exact ⟨.val (.int 10), .val (.int 362880), .val (.int 9), by kernel_rfl⟩
  · exact ⟨.val (.int 11), .val (.int 3628800), .val (.int 10), by kernel_rfl⟩
  · exact ⟨.val (.int 12), .val (.int 39916800), .val (.int 11), by kernel_rfl⟩

theorem rangeL_cons (a : Int) (m : Nat) : rangeL a (m + 1) = .int a :: rangeL (a + 1) m := by
  unfold rangeL
  rw [List.range_succ_eq_map, List.map_cons, List.map_map]
  congr 1
  · simp
  · apply List.map_congr_left
    intro x _
    show D.int (a + ((x + 1 : Nat) : Int)) = D.int (a + 1 + (x : Int))
    congr 1; omega
theorem whole_ok (n : Nat) (h2 : 2 ≤ n) (h12 : n ≤ 12) : m__law_whole [.int n] () = .ok (.int (mots.getD n 0 : Nat)) () := by
  have hlots : ∀ u, u ≤ 12 → (lots n u).length ≤ 1000 := fun u hu => by
    have h := lots_ok
    rw [List.all_eq_true] at h
    have h' := h n (by simp; omega)
    rw [List.all_eq_true] at h'
    exact of_decide_eq_true (h' u (by simp; omega))
  refine unit_eq (runG1 ?_)
  unfold g__law_whole
  repeat' fail
  refine w_for (fun l ρ _ => l.length + 2 ≤ n + 1 ∧ l = rangeL ((n + 1 - l.length : Nat) : Int) l.length ∧ ∃ x2 x3 x4 x5 x6 x7, ρ = [.val (.int n), .val (.int (Pt n (n + 1 - l.length) : Nat)), x2, x3, x4, x5, x6, x7]) ?_ ?_ ?_
  · repeat' fail
    refine ⟨2, (n : Int) + 1, rfl, rfl, by decide, by rw [show (n : Int) + 1 = ((n + 1 : Nat) : Int) by omega]; exact okR_nat (by omega), ?_, ?_, .un, .un, .un, .un, .un, .un, ?_⟩
    · rw [rangeL_len]; omega
    · rw [rangeL_len]
      rw [show ((n : Int) + 1 - 2).toNat = n - 1 by omega, show n + 1 - (n - 1) = 2 by omega]; rfl
    · rw [rangeL_len, show ((n : Int) + 1 - 2).toNat = n - 1 by omega, show n + 1 - (n - 1) = 2 by omega]; rfl
  · rintro d ds ρ s ⟨hd, hl, x2, x3, x4, x5, x6, x7, rfl⟩
    rw [List.length_cons] at hd hl ⊢
    rw [rangeL_cons] at hl
    injection hl with e1 e2
    subst e1
    generalize hu : n + 1 - (ds.length + 1) = u at *
    have u2 : 2 ≤ u := by omega
    have u12 : u ≤ 12 := by omega
    have hu' : n + 1 - ds.length = u + 1 := by omega
    refine ⟨_, rfl, ?_⟩
    repeat' fail
    refine R.sat.mono (show (m__law_lots [.int n, .int u] ()).sat _ from lots_m (by omega) (by omega) fun j hj => Nat.le_trans (hlots j (by omega)) (by decide)) ?_
    rintro _ _ ⟨rfl, _⟩
    repeat' fail
    rw [List.length_map]
    obtain ⟨e', f', g', hi⟩ := inner u u2 u12 (.val (.int n)) (.val (.int (Pt n u : Nat))) x3 (.val (.int ((lots n u).length : Nat))) x6 x7 .un
    refine w_nx hi ?_
    repeat' fail
    refine op_some (o_mulR (b := (Wt.getD u 0 : Nat)) (by
      have hu' : u = 2 ∨ u = 3 ∨ u = 4 ∨ u = 5 ∨ u = 6 ∨ u = 7 ∨ u = 8 ∨ u = 9 ∨ u = 10 ∨ u = 11 ∨ u = 12 := by omega
      rcases hu' with rfl | rfl | rfl | rfl | rfl | rfl | rfl | rfl | rfl | rfl | rfl <;> decide)) ?_
    repeat' fail
    refine op_some (o_shlI (by
      rw [decide_eq_true (by omega : (0 : Int) ≤ (u : Int) - 2), decide_eq_true (by omega : (u : Int) - 2 ≤ 1000000)]; decide)) ?_
    refine op_some (o_mulR (by
      have hu' : u = 2 ∨ u = 3 ∨ u = 4 ∨ u = 5 ∨ u = 6 ∨ u = 7 ∨ u = 8 ∨ u = 9 ∨ u = 10 ∨ u = 11 ∨ u = 12 := by omega
      rcases hu' with rfl | rfl | rfl | rfl | rfl | rfl | rfl | rfl | rfl | rfl | rfl <;> decide)) ?_
    repeat' fail
    refine ⟨by omega, by rw [hu']; exact e2, .val (.int u), e', .val (.int ((lots n u).length : Nat)), .val (.int (Wt.getD u 0 : Nat)), f', g', ?_⟩
    have hP : Pt n (n + 1 - ds.length) = Pt n u + (lots n u).length * Wt.getD u 0 * 2 ^ (u - 2) := by
      rw [hu', Pt, if_neg (by omega)]
    rw [hP]
    have hz : ((Pt n u : Nat) : Int) + ((lots n u).length : Nat) * (Wt.getD u 0 : Nat) * (1 * 2 ^ ((u : Int) - 2).toNat) = ((Pt n u + (lots n u).length * Wt.getD u 0 * 2 ^ (u - 2) : Nat) : Int) := by
      rw [show ((u : Int) - 2).toNat = u - 2 by omega, Int.one_mul, Int.natCast_add, Int.natCast_mul, Int.natCast_mul, Int.natCast_pow]; rfl
    rw [← hz]
    rfl
  · rintro ρ s ⟨_, _, x2, x3, x4, x5, x6, x7, rfl⟩
    repeat' fail
    have h := Pt_ok
    rw [List.all_eq_true] at h
    have h' := of_decide_eq_true (h n (by
      have hu' : n = 2 ∨ n = 3 ∨ n = 4 ∨ n = 5 ∨ n = 6 ∨ n = 7 ∨ n = 8 ∨ n = 9 ∨ n = 10 ∨ n = 11 ∨ n = 12 := by omega
      rcases hu' with rfl | rfl | rfl | rfl | rfl | rfl | rfl | rfl | rfl | rfl | rfl <;> decide))
    rw [← h']
    rfl
theorem mot_ok (n : Nat) (h2 : 2 ≤ n) (h12 : n ≤ 12) : m_many_of_two [.int n] () = .ok (.int (mots.getD n 0 : Nat)) () := by
  have hu' : n = 2 ∨ n = 3 ∨ n = 4 ∨ n = 5 ∨ n = 6 ∨ n = 7 ∨ n = 8 ∨ n = 9 ∨ n = 10 ∨ n = 11 ∨ n = 12 := by omega
  rcases hu' with rfl | rfl | rfl | rfl | rfl | rfl | rfl | rfl | rfl | rfl | rfl <;> kernel_rfl
theorem same_ok (i : Int) (h : i.natAbs < 2 ^ 64) : m__law_same [.int i, .int i] () = .ok (.bl true) () := by
  show endG (gRet (eRepI (bVar 0) (bVar 1)) [.val (.int i), .val (.int i)] ()) = _
  unfold gRet eRepI bVar R.bind
  dsimp only [List.getElem?_cons_zero, List.getElem?_cons_succ]
  rw [decide_eq_true h, decide_eq_true (rfl : i = i)]
  rfl
theorem mots_small (n : Nat) (h12 : n ≤ 12) : ((mots.getD n 0 : Nat) : Int).natAbs < 2 ^ 64 := by
  have : (List.range 13).all (fun n => decide (((mots.getD n 0 : Nat) : Int).natAbs < 2 ^ 64)) = true := by decide +kernel
  rw [List.all_eq_true] at this
  exact of_decide_eq_true (this n (by simp; omega))
def alB (n g : Nat) : Bool := match m_two_alike [.int n, .int g] (), m__law_rings [.int n, .int g] () with
  | .ok (.int a) _, .ok (.int b) _ => decide (a = b) && decide (a.natAbs < 2 ^ 64)
  | _, _ => false
theorem al_all : (([2, 3, 4, 5, 6, 7, 8] : List Nat).all fun n => (List.range' 2 (n - 1)).all fun g => alB n g) = true := by kernel_rfl
theorem al_ok (n g : Nat) (h2 : 2 ≤ n) (h8 : n ≤ 8) (g2 : 2 ≤ g) (gn : g ≤ n) : ∃ i : Int, i.natAbs < 2 ^ 64 ∧ m_two_alike [.int n, .int g] () = .ok (.int i) () ∧ m__law_rings [.int n, .int g] () = .ok (.int i) () := by
  have h := al_all
  rw [List.all_eq_true] at h
  have h' := h n (by
    have hu' : n = 2 ∨ n = 3 ∨ n = 4 ∨ n = 5 ∨ n = 6 ∨ n = 7 ∨ n = 8 := by omega
    rcases hu' with rfl | rfl | rfl | rfl | rfl | rfl | rfl <;> decide)
  rw [List.all_eq_true] at h'
  have h3 := h' g (by rw [List.mem_range'_1]; omega)
  unfold alB at h3
  split at h3
  · rename_i a _ b _ ea eb
    rw [Bool.and_eq_true, decide_eq_true_eq, decide_eq_true_eq] at h3
    refine ⟨a, h3.2, ea, ?_⟩
    rw [eb, h3.1]
  · cases h3
theorem tried2 : m__law_tried [.int (2 : Nat)] () = .ok (.int (1 : Nat)) () := by kernel_rfl
theorem tried3 : m__law_tried [.int (3 : Nat)] () = .ok (.int (13 : Nat)) () := by kernel_rfl
end K91
set_option Elab.async false
set_option linter.all false
set_option autoImplicit false
set_option maxRecDepth 100000
set_option maxHeartbeats 4000000
/-! k91, the tables of four things. -/
namespace K91
open Fx
/-- all rows of so many signs -/
def rowsD : Nat → List (List D)
  | 0 => [[]]
  | n + 1 => (rowsD n).flatMap fun r => [r ++ [.int (-1)], r ++ [.int 0], r ++ [.int 1]]
def rows4 : List D := (rowsD 6).map D.tup
/-- the first sign not 0 is 1, and the row is let -/
def letB (row : D) : Option Bool := match row with
  | .tup l => match intsOf l with
    | some is => if is.length ≤ 6 then (match is.filter (fun i => i != 0) with
      | 1 :: _ => (match m__law_is_let [.int 4, row] () with
        | .ok (.bl b) _ => some b
        | _ => none)
      | _ => some false) else none
    | none => none
  | _ => none
def cnt : List D → Option Nat
  | [] => some 0
  | d :: ds => match letB d, cnt ds with
    | some b, some n => some ((if b then 1 else 0) + n)
    | _, _ => none
theorem cnt_app : ∀ {l m : List D} {a b : Nat}, cnt l = some a → cnt m = some b → cnt (l ++ m) = some (a + b)
  | [], m, a, b, h1, h2 => by cases h1; rw [Nat.zero_add]; exact h2
  | d :: ds, m, a, b, h1, h2 => by
    unfold cnt at h1
    rw [List.cons_append]
    unfold cnt
    cases q : letB d with
    | none => rw [q] at h1; cases h1
    | some x =>
      rw [q] at h1
      cases q2 : cnt ds with
      | none => rw [q2] at h1; cases h1
      | some n =>
        rw [q2] at h1
        cases h1
        rw [cnt_app q2 h2]
        show some _ = some _
        congr 1; omega
def part (i : Nat) : List D := (rows4.drop (41 * i)).take 41
theorem part0 : cnt (part 0) = some 0 := by kernel_rfl
theorem part1 : cnt (part 1) = some 0 := by kernel_rfl
theorem part2 : cnt (part 2) = some 0 := by kernel_rfl
theorem part3 : cnt (part 3) = some 0 := by kernel_rfl
theorem part4 : cnt (part 4) = some 0 := by kernel_rfl
theorem part5 : cnt (part 5) = some 0 := by kernel_rfl
theorem part6 : cnt (part 6) = some 0 := by kernel_rfl
theorem part7 : cnt (part 7) = some 0 := by kernel_rfl
theorem part8 : cnt (part 8) = some 4 := by kernel_rfl
theorem part9 : cnt (part 9) = some 18 := by kernel_rfl
theorem part10 : cnt (part 10) = some 15 := by kernel_rfl
theorem part11 : cnt (part 11) = some 16 := by kernel_rfl
theorem part12 : cnt (part 12) = some 15 := by kernel_rfl
theorem part13 : cnt (part 13) = some 19 := by kernel_rfl
theorem part14 : cnt (part 14) = some 13 := by kernel_rfl
theorem part15 : cnt (part 15) = some 15 := by kernel_rfl
theorem part16 : cnt (part 16) = some 16 := by kernel_rfl
theorem part17 : cnt (part 17) = some 15 := by kernel_rfl
theorem parts4 : rows4 = part 0 ++ (part 1 ++ (part 2 ++ (part 3 ++ (part 4 ++ (part 5 ++ (part 6 ++ (part 7 ++ (part 8 ++ (part 9 ++ (part 10 ++ (part 11 ++ (part 12 ++ (part 13 ++ (part 14 ++ (part 15 ++ (part 16 ++ (part 17))))))))))))))))) := by kernel_rfl
theorem cnt4 : cnt rows4 = some 146 := by
  rw [parts4]
  exact (cnt_app part0 (cnt_app part1 (cnt_app part2 (cnt_app part3 (cnt_app part4 (cnt_app part5 (cnt_app part6 (cnt_app part7 (cnt_app part8 (cnt_app part9 (cnt_app part10 (cnt_app part11 (cnt_app part12 (cnt_app part13 (cnt_app part14 (cnt_app part15 (cnt_app part16 part17)))))))))))))))))
end K91
set_option Elab.async false
set_option linter.all false
set_option autoImplicit false
set_option maxRecDepth 100000
set_option maxHeartbeats 4000000
/-! k91, the law. -/
namespace K91
open Fx
local macro_rules | `(tactic| fail) => `(tactic| with_reducible first
  | refine w_seq ?_ | refine w_set ?_ | refine w_if ?_ | refine w_ret ?_ | refine w_setF ?_ | refine w_drop ?_ | refine w_next ?_ | refine w_break ?_ | refine w_cont ?_ | refine w_tgt ?_ | refine w_par ?_ | refine w_aug (by with_unfolding_all rfl) ?_
  | refine w_hput (by with_unfolding_all rfl) ?_ | refine w_app (by with_unfolding_all rfl) ?_ | refine w_ext (by with_unfolding_all rfl) ?_ | refine w_frz (by with_unfolding_all rfl) ?_
  | refine v_c ?_ | refine v_var (by with_unfolding_all rfl) ?_ | refine v_bvar (by with_unfolding_all rfl) ?_ | refine v_bown (by with_unfolding_all rfl) ?_ | refine v_bin ?_ | refine v_un ?_ | refine v_ml ?_
  | refine v_nil ?_ | refine v_cons ?_ | refine v_tup ?_ | refine v_flst ?_ | refine v_of ?_ | refine v_if ?_ | refine v_andb ?_ | refine v_orb ?_ | refine v_chain ?_ | refine v_callP ?_ | refine v_callH (by with_unfolding_all rfl) ?_ | refine v_lam ?_ | refine v_tval ?_ | refine v_ttru ?_ | refine v_tnot ?_ | refine v_tand ?_ | refine v_tor ?_ | refine v_tyes ?_
  | refine v_range1 ?_ | refine v_range2 ?_ | refine v_seq2 ?_ | refine v_cat ?_
  | refine v_hg (by with_unfolding_all rfl) (by with_unfolding_all rfl) ?_ | refine v_hlen (by with_unfolding_all rfl) ?_ | refine v_hcell (by with_unfolding_all rfl) ?_
  | refine bl_some ?_ | refine int_some ?_ | refine len_ok (by with_unfolding_all rfl) ?_ | refine hp_some (by with_unfolding_all rfl) ?_
  | refine op_some o_eqI ?_ | refine op_some o_neI ?_ | refine op_some o_ltI ?_ | refine op_some o_gtI ?_ | refine op_some o_leI ?_ | refine op_some o_geI ?_ | refine op_some o_addI ?_ | refine op_some o_subI ?_
  | refine op_some (o_mulR (by with_unfolding_all decide)) ?_ | refine op_some (o_mulL (by first | with_unfolding_all decide | exact small_mod (by decide) (by decide))) ?_ | refine op_some (o_modI (by first | with_unfolding_all decide | omega)) ?_ | refine op_some (o_fdivI (by first | with_unfolding_all decide | omega) (by first | with_unfolding_all decide | omega)) ?_ | refine op_some (o_powI (by with_unfolding_all decide)) ?_
  | refine un_some o_intI ?_ | refine un_some o_negI ?_ | refine un_some o_notB ?_ | refine un_some o_lenT ?_ | refine un_some o_lenL ?_
  | refine ite_nt ?_ | refine ite_nf ?_ | refine sat_nt ?_ | refine sat_nf ?_ | refine rsat_nt ?_ | refine rsat_nf ?_ | refine ite_t ?_ | refine ite_f ?_ | refine sat_t ?_ | refine sat_f ?_ | refine rsat_t ?_ | refine rsat_f ?_ | refine ite_dec (fun _ => ?_) (fun _ => ?_) | refine ite_ndec (fun _ => ?_) (fun _ => ?_) | refine sat_dec (fun _ => ?_) (fun _ => ?_) | refine sat_ndec (fun _ => ?_) (fun _ => ?_) | refine rsat_dec (fun _ => ?_) (fun _ => ?_))

theorem intsOf_map : ∀ {l : List D} {is : List Int}, intsOf l = some is → l = is.map D.int
  | [], is, h => by cases h; rfl
  | d :: l, is, h => by
    cases d with
    | int i =>
      unfold intsOf at h
      cases q : intsOf l with
      | none => rw [q] at h; cases h
      | some js => rw [q] at h; cases h; rw [List.map_cons, intsOf_map q]
    | _ => cases h
theorem tried4 : m__law_tried [.int (4 : Nat)] () = .ok (.int (146 : Nat)) () := by
  refine unit_eq (runG1 ?_)
  unfold g__law_tried
  refine w_seq (w_nx (ρ' := [.val (.int (4 : Nat)), .un, .un, .un, .val (.lst ((lots 4 2).map tn)), .val (.int 0), .un, .un, .un]) (s' := ()) (by kernel_rfl) ?_)
  refine w_seq (w_nx (ρ' := [.val (.int (4 : Nat)), .val (.lst [.tup []]), .un, .un, .val (.lst ((lots 4 2).map tn)), .val (.int 0), .un, .un, .un]) (s' := ()) (by kernel_rfl) ?_)
  refine w_seq (w_nx (ρ' := [.val (.int (4 : Nat)), .val (.lst rows4), .val (tn [2, 3]), .val (.tup [.int 1, .int 1, .int 1, .int 1, .int 1]), .val (.lst ((lots 4 2).map tn)), .val (.int 0), .val (.lst rows4), .un, .un]) (s' := ()) (by kernel_rfl) ?_)
  refine w_seq (w_for (fun l ρ _ => ∃ (v c : Nat) (x2 x3 x4 x6 x7 : LV), cnt l = some c ∧ v + c = 146 ∧ ρ = [.val (.int (4 : Nat)), .val (.lst rows4), x2, x3, x4, .val (.int (v : Nat)), x6, x7, .un]) ?_ ?_ ?_)
  · repeat' fail
    exact ⟨rows4, .inl rfl, 0, 146, _, _, _, _, _, cnt4, rfl, rfl⟩
  · rintro d ds ρ s ⟨v, c, x2, x3, x4, x6, x7, hc, hv, rfl⟩
    refine ⟨_, rfl, ?_⟩
    unfold cnt at hc
    cases hb : letB d with
    | none => rw [hb] at hc; cases hc
    | some b =>
    rw [hb] at hc
    cases hd : cnt ds with
    | none => rw [hd] at hc; cases hc
    | some c' =>
    rw [hd] at hc
    injection hc with hc
    unfold letB at hb
    split at hb
    · rename_i l
      split at hb
      · rename_i is his
        by_cases h6 : is.length ≤ 6
        · rw [if_pos h6] at hb
          have hl := intsOf_map his
          subst hl
          repeat' fail
          refine R.sat_ok (a := ((is.filter fun i => i != 0).map D.int)) (s := s) ?_ ?_
          · rw [show (is.filter fun i => i != 0).map D.int = ((is.map D.int).filter fun d => match d with | .int i => i != 0 | _ => false).map id from by
              rw [List.filter_map, List.map_map]; rfl]
            refine v_lcfil (l := is.map D.int) _ id rfl (by rw [List.length_map]; exact Nat.le_trans h6 (by decide)) fun e he => ?_
            obtain ⟨i, _, rfl⟩ := List.mem_map.mp he
            refine ⟨_, rfl, ?_, fun _ => rfl⟩
            show (R.opt (dNe (.int i) (.int 0)) s).bind _ = _
            rw [o_neI]
            show R.ok (decide (i ≠ 0)) s = .ok (i != 0) s
            congr 1
            by_cases h : i = 0 <;> simp [h]
          · generalize hf : (is.filter fun i => i != 0) = fs at hb ⊢
            cases fs with
            | nil =>
              injection hb with hb
              subst hb
              repeat' fail
              · exact absurd ‹(0 : Int) < _› (by simp)
              · (simp at hc; exact ⟨v, c', x2, _, x4, x6, _, rfl, by omega, rfl⟩)
            | cons i r =>
              repeat' fail
              rotate_left
              · exact absurd (by simp : (0 : Int) < (((i :: r).map D.int).length : Nat)) ‹_›
              refine op_some (o_ixL (j := 0) rfl rfl) ?_
              repeat' fail
              · rename_i h1
                subst h1
                cases hm : m__law_is_let [.int 4, .tup (is.map D.int)] () with
                | ok d1 u =>
                  rw [hm] at hb
                  cases d1 with
                  | bl b1 =>
                    injection hb with hb
                    subst hb
                    refine R.sat_ok rfl ?_
                    repeat' fail
                    cases b1 with
                    | false =>
                      repeat' fail
                      (simp at hc; exact ⟨v, c', x2, _, x4, x6, _, rfl, by omega, rfl⟩)
                    | true =>
                      repeat' fail
                      (simp at hc; exact ⟨v + 1, c', x2, _, x4, x6, _, rfl, by omega, rfl⟩)
                  | _ => cases hb
                | exc _ _ => rw [hm] at hb; cases hb
                | bad => rw [hm] at hb; cases hb
              · have hb' : b = false := by
                  have hi : i ≠ 1 := ‹_›
                  split at hb
                  · rename_i z; exact absurd (List.cons.inj z).1 hi
                  · cases hb; rfl
                subst hb'
                (simp at hc; exact ⟨v, c', x2, _, x4, x6, _, rfl, by omega, rfl⟩)
        · rw [if_neg h6] at hb; cases hb
      · cases hb
    · cases hb
  · rintro ρ s ⟨v, c, x2, x3, x4, x6, x7, hc, hv, rfl⟩
    cases hc
    repeat' fail
    rw [show v = 146 by omega]

theorem tried_ok (n : Nat) (h2 : 2 ≤ n) (h4 : n ≤ 4) : m__law_tried [.int n] () = .ok (.int (mots.getD n 0 : Nat)) () := by
  have hn : n = 2 ∨ n = 3 ∨ n = 4 := by omega
  rcases hn with rfl | rfl | rfl
  · exact tried2
  · exact tried3
  · exact tried4
/-- a lap of the law -/
theorem law_ok (h : Hd) (h0 : 0 ≤ h.at_) : (g_law (LV.un :: LV.hnd :: List.replicate 8 LV.un) h).sat ⟨fun _ _ => False, fun d _ => d = .bl true, fun _ _ => False, fun _ _ => False, fun _ _ _ => False⟩ := by
  unfold g_law
  refine w_seq (w_if ?_)
  refine R.sat_ok (a := false) (s := h) (by with_unfolding_all rfl) ?_
  repeat' fail
  refine w_for (fun l ρ s => 0 ≤ s.at_ ∧ (∀ d ∈ l, ∃ n : Nat, 2 ≤ n ∧ n ≤ 12 ∧ d = .int n) ∧ ∃ x2, ρ = [.un, .hnd, x2, .un, .un, .un, .un, .un, .un, .un]) ?_ ?_ ?_
  · repeat' fail
    refine v_lc (fun l acc s => 0 ≤ s.at_ ∧ l.length + acc.length = 3 ∧ ∀ d ∈ acc, ∃ n : Nat, 2 ≤ n ∧ n ≤ 12 ∧ d = .int n) ?_ ?_ ?_
    · repeat' fail
      exact ⟨by decide, h0, rfl, fun d hd => by cases hd⟩
    · rintro d ds acc s ⟨h0, hl, ha⟩
      refine ⟨_, rfl, ?_⟩
      repeat' fail
      refine draw_sat h0 (by decide) (by decide) fun n h' hn h0' => ?_
      repeat' fail
      rw [List.length_cons] at hl
      refine ⟨by unfold lim; omega, h0', by rw [List.length_append, List.length_singleton]; omega, fun e he => ?_⟩
      rcases List.mem_append.mp he with he | he
      · exact ha e he
      · rw [List.mem_singleton] at he
        exact ⟨2 + n, by omega, by omega, by rw [he]; congr 1⟩
    · rintro acc s ⟨h0, hl, ha⟩
      repeat' fail
      rw [List.length_nil, Nat.zero_add] at hl
      refine ⟨acc, [.int 12], rfl, rfl, by rw [hl]; decide, ?_⟩
      repeat' fail
      refine ⟨acc ++ [.int 12], .inl rfl, h0, fun e he => ?_, .un, rfl⟩
      rcases List.mem_append.mp he with he | he
      · exact ha e he
      · rw [List.mem_singleton] at he
        exact ⟨12, by omega, by omega, by rw [he]; rfl⟩
  · rintro d ds ρ s ⟨h0, hd, x2, rfl⟩
    obtain ⟨n, n2, n12, rfl⟩ := hd d (List.mem_cons_self ..)
    refine ⟨_, rfl, ?_⟩
    repeat' fail
    refine R.sat_ok (mot_ok n n2 n12) ?_
    repeat' fail
    refine R.sat_ok (whole_ok n n2 n12) ?_
    repeat' fail
    refine R.sat_ok (same_ok _ (mots_small n n12)) ?_
    repeat' fail
    exact ⟨h0, fun e he => hd e (List.mem_cons_of_mem _ he), _, rfl⟩
  · rintro ρ s ⟨h0, _, x2, rfl⟩
    repeat' fail
    refine any_sat h0 (by simp) (by show (5 : Nat) < _; decide) fun d hd h' h0 => ?_
    obtain ⟨n, n2, n4, rfl⟩ : ∃ n : Nat, 2 ≤ n ∧ n ≤ 4 ∧ d = .int n := by
      simp only [List.mem_cons, List.not_mem_nil, or_false] at hd
      rcases hd with rfl | rfl | rfl | rfl | rfl
      · exact ⟨2, by omega, by omega, rfl⟩
      · exact ⟨3, by omega, by omega, rfl⟩
      · exact ⟨3, by omega, by omega, rfl⟩
      · exact ⟨3, by omega, by omega, rfl⟩
      · exact ⟨4, by omega, by omega, rfl⟩
    repeat' fail
    refine R.sat_ok (mot_ok n n2 (by omega)) ?_
    repeat' fail
    refine R.sat_ok (tried_ok n n2 n4) ?_
    repeat' fail
    · exact absurd rfl ‹_ ≠ _›
    refine w_for (fun l ρ s => 0 ≤ s.at_ ∧ ∃ x2 x4 x5 x6 x7 x8, ρ = [.un, .hnd, x2, .val (.int n), x4, x5, x6, x7, x8, .un]) ?_ ?_ ?_
    · repeat' fail
      exact ⟨by decide, h0, _, _, _, _, _, _, rfl⟩
    · rintro d ds ρ s ⟨h0, x2, x4, x5, x6, x7, x8, rfl⟩
      refine ⟨_, rfl, ?_⟩
      repeat' fail
      refine draw_sat h0 (by decide) (by decide) fun a h1 ha h0 => ?_
      repeat' fail
      refine draw_sat h0 (by omega) (by omega) fun b h2 hb h0 => ?_
      repeat' fail
      obtain ⟨i, hi, e1, e2⟩ := al_ok (2 + a) (2 + b) (by omega) (by omega) (by omega) (by omega)
      rw [show (2 : Int) + (a : Int) = ((2 + a : Nat) : Int) by omega, show (2 : Int) + (b : Int) = ((2 + b : Nat) : Int) by omega]
      refine R.sat_ok e1 ?_
      repeat' fail
      refine R.sat_ok e2 ?_
      repeat' fail
      refine R.sat_ok (same_ok _ hi) ?_
      repeat' fail
      refine odd_sat h0 fun od hod h3 h0 => ?_
      repeat' fail
      refine any_sat h0 (by simp) (by show (10 : Nat) < _; decide) fun bad hbad h4 h0 => ?_
      repeat' fail
      refine odd_sat h0 fun od2 hod2 h5 h0 => ?_
      repeat' fail
      refine any_sat h0 (by simp) (by show (9 : Nat) < _; decide) fun odd hodd h6 h0 => ?_
      repeat' fail
      refine any_sat h0 (by simp) (by show (7 : Nat) < _; decide) fun none hnone h7 h0 => ?_
      repeat' fail
      have hb1 : ∀ i, bad = .int i → ¬(2 ≤ i ∧ i ≤ 12) := by
        rintro i rfl
        simp only [List.mem_cons, List.not_mem_nil, or_false] at hbad
        rcases hbad with z | z | z | z | z | z | z | z | z | z
        all_goals first | (cases z; done) | (injection z with z; rw [z]; decide) | (have := hod i z.symm; omega)
      have hb2 : ∀ i, odd = .int i → ¬(2 ≤ i ∧ i ≤ 8) := by
        rintro i rfl
        simp only [List.mem_cons, List.not_mem_nil, or_false] at hodd
        rcases hodd with z | z | z | z | z | z | z | z | z
        all_goals first | (cases z; done) | (injection z with z; rw [z]; decide) | (have := hod2 i z.symm; omega)
      have hb3 : ∀ i, none = .int i → ¬(2 ≤ i ∧ i ≤ ((2 + a : Nat) : Int)) := by
        rintro i rfl
        simp only [List.mem_cons, List.not_mem_nil, or_false] at hnone
        rcases hnone with z | z | z | z | z | z | z
        all_goals first | (cases z; done) | (injection z with z; omega)
      refine R.sat_ok (refused (s' := h7) (by exact e_callPx (l := [bad]) (by rfl) (mot_no bad hb1))) ?_
      repeat' fail
      refine R.sat_ok (no_count odd ((2 + a : Nat) : Int) none hb2 (by omega) (by omega) hb3) ?_
      repeat' fail
      exact ⟨h0, _, _, _, _, _, _, rfl⟩
    · rintro ρ s ⟨h0, x2, x4, x5, x6, x7, x8, rfl⟩
      repeat' fail
      rfl
theorem plain (ns : List Int) (h : ns.length ≤ 63) : LawT m__law_hand 10 g_law ns := by
  obtain ⟨hd, h0, e⟩ := hand_ok ns h
  have hs := law_ok hd h0
  obtain ⟨d, s, e1, rfl⟩ := R.sat_ex (endG_sat (Q := fun d _ => d = .bl true) (r := g_law (LV.un :: LV.hnd :: List.replicate 8 LV.un) hd) (by
    refine ⟨?_⟩
    have h2 := hs.h
    cases q : g_law (LV.un :: LV.hnd :: List.replicate 8 LV.un) hd with
    | rt d s => rw [q] at h2; exact h2
    | nx _ _ => rw [q] at h2; exact h2.elim
    | bk _ _ => rw [q] at h2; exact h2
    | ct _ _ => rw [q] at h2; exact h2
    | exc _ _ _ => rw [q] at h2; exact h2
    | bad => rw [q] at h2; exact h2))
  exact ⟨hd, s, e, e1⟩
end K91
theorem PySem.Challenge.cw_signlots_k91_whole_counts_of_rank_two_holds : PySem.Challenge.rw_signlots_k91_whole_counts_of_rank_two.Holds := by
  exact K91.holds_of K91.plain
