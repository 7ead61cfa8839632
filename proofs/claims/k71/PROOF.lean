import PyProof.Rows.All
import Wide.All
import OpenK.AllK
import Wide.FinOn
import HandS.ForMost
import HandS.Exc
import HandS.TryMany
import HandS.WordsExc
import HandS.TupAny
import HandS.TupMul
import HandS.Deep
import HandS.Flow
import HandS.Style
import HandS.Conv
import HandS.IsInst
import HandS.CallLocal
import HandS.TryOnly
import KE.DataEq
import KE.SortData
import HandS.Strs
import HandS.SortInts
import HandS.Codes
import HandS.Text
import HandS.Zip
import HandS.RaiseMore
import HandS.SetFor
import HandS.Property
import HandS.ClsMeth
import HandS.MakeKwOnly
import HandS.MakeKw
import HandS.More
import HandS.Ends
import HandS.Defaults
import HandS.Head0
import HandS.Head1
import HandS.Head2
import HandS.HeadEnd
import HandS.HeadHook1
import HandS.HeadHook2
import PyProof.ExcBaseAll.ValueError
import PySem.Challenge.RW_believedheld_k71_whole_rules_written_and
set_option Elab.async false
section
set_option Elab.async false
set_option linter.all false
set_option maxRecDepth 100000
/-! The core language: data, a store of lists and dicts, expressions, statements, what they answer. -/
namespace BH
open PySem

/-- a datum; lists, dicts, instances by their place in the store -/
inductive D where
  | non | bl (b : Bool) | int (i : Int) | str (s : Str) | tup (ds : List D)
  | ll (l : Nat) | dl (l : Nat) | ol (c : Nat) (l : Nat)
  | fn (f : Nat) | lsf (ds : List D)
  deriving Inhabited

mutual
def D.beq : D → D → Bool
  | .non, .non => true
  | .bl a, .bl b => a == b
  | .int a, .int b => decide (a = b)
  | .str a, .str b => decide (a = b)
  | .tup a, .tup b => D.beqL a b
  | .ll a, .ll b => decide (a = b)
  | .dl a, .dl b => decide (a = b)
  | .ol c a, .ol d b => decide (c = d) && decide (a = b)
  | .fn a, .fn b => decide (a = b)
  | .lsf a, .lsf b => D.beqL a b
  | _, _ => false
def D.beqL : List D → List D → Bool
  | [], [] => true
  | a :: as, b :: bs => D.beq a b && D.beqL as bs
  | _, _ => false
end
mutual
theorem D.beq_eq : ∀ a b : D, D.beq a b = true → a = b
  | .non, b, h => by cases b <;> simp_all [D.beq]
  | .bl _, b, h => by cases b <;> simp_all [D.beq]
  | .int _, b, h => by cases b <;> simp_all [D.beq]
  | .str _, b, h => by cases b <;> simp_all [D.beq]
  | .tup x, b, h => by
    cases b <;> simp only [D.beq] at h <;> try cases h
    rename_i y
    rw [D.beqL_eq x y h]
  | .ll _, b, h => by cases b <;> simp_all [D.beq]
  | .dl _, b, h => by cases b <;> simp_all [D.beq]
  | .ol _ _, b, h => by cases b <;> simp_all [D.beq]
  | .fn _, b, h => by cases b <;> simp_all [D.beq]
  | .lsf x, b, h => by
    cases b <;> simp only [D.beq] at h <;> try cases h
    rename_i y
    rw [D.beqL_eq x y h]
theorem D.beqL_eq : ∀ a b : List D, D.beqL a b = true → a = b
  | [], [], _ => rfl
  | [], _ :: _, h => by simp [D.beqL] at h
  | _ :: _, [], h => by simp [D.beqL] at h
  | x :: xs, y :: ys, h => by
    simp only [D.beqL, Bool.and_eq_true] at h
    rw [D.beq_eq x y h.1, D.beqL_eq xs ys h.2]
end
mutual
theorem D.beq_refl : ∀ a : D, D.beq a a = true
  | .non => by simp [D.beq]
  | .bl _ => by simp [D.beq]
  | .int _ => by simp [D.beq]
  | .str _ => by simp [D.beq]
  | .tup x => by simp [D.beq, D.beqL_refl x]
  | .ll _ => by simp [D.beq]
  | .dl _ => by simp [D.beq]
  | .ol _ _ => by simp [D.beq]
  | .fn _ => by simp [D.beq]
  | .lsf x => by simp [D.beq, D.beqL_refl x]
theorem D.beqL_refl : ∀ a : List D, D.beqL a a = true
  | [] => by simp [D.beqL]
  | x :: xs => by simp [D.beqL, D.beq_refl x, D.beqL_refl xs]
end

/-- an int or a text as a dict's key -/
abbrev Ky := Sum Int Str
/-- what stands at a place of the store -/
inductive MO where
  | lst (ds : List D)
  | dk (kvs : List (Ky × D))
  | ins (c : Nat) (fs : List (Str × D))
  deriving Inhabited
abbrev Store := List MO
abbrev Env := List (Option D)
/-- an exception: the number of its class, what its one field holds -/
structure Ex where
  c : Nat
  arg : Option D := none

/-- what an expression answers -/
inductive Out (α : Type) where
  | ok (a : α) (M : Store)
  | ex (e : Ex) (M : Store)
  | bad
def Out.bind {α β : Type} (x : Out α) (k : α → Store → Out β) : Out β :=
  match x with
  | .ok a M => k a M
  | .ex e M => .ex e M
  | .bad => .bad
theorem Out.bind_ok {α β : Type} (a : α) (M : Store) (k : α → Store → Out β) : (Out.ok a M).bind k = k a M := rfl
theorem Out.bind_ex {α β : Type} (e : Ex) (M : Store) (k : α → Store → Out β) : (Out.ex e M : Out α).bind k = .ex e M := rfl
theorem Out.bind_bad {α β : Type} (k : α → Store → Out β) : (Out.bad : Out α).bind k = .bad := rfl
/-- continuations by name (nothing is reckoned under a binder) -/
def Out.bindN {α β : Type} (x : Out α) (k : α → Store → Out β) : Out β := match x with
  | .ok a M => k a M
  | _ => .bad
theorem Out.bindN_ok {α β : Type} (a : α) (M : Store) (k : α → Store → Out β) : (Out.ok a M).bindN k = k a M := rfl
def k2 {α β γ : Type} (f : Store → Out β) (g : α → β → Store → Out γ) (a : α) (M : Store) : Out γ := (f M).bind (g a)
def kIf {α : Type} (f g : Store → Out α) (t : Bool) (M : Store) : Out α := match t with
  | true => f M
  | false => g M
theorem kIf_true {α : Type} (f g : Store → Out α) (M : Store) : kIf f g true M = f M := rfl
theorem kIf_false {α : Type} (f g : Store → Out α) (M : Store) : kIf f g false M = g M := rfl
def kOk {α β : Type} (f : α → β) (a : α) (M : Store) : Out β := .ok (f a) M
def kOk2 {α β γ : Type} (f : α → β → γ) (a : α) (b : β) (M : Store) : Out γ := .ok (f a b) M

/-! ### operations on data -/
def szl : Nat := 16777216

def mapO {α β : Type} (f : α → Option β) : List α → Option (List β)
  | [] => some []
  | a :: r => match f a, mapO f r with
    | some b, some bs => some (b :: bs)
    | _, _ => none
/-- a datum read as a whole -/
def res : Nat → Store → D → Option PyData
  | 0, _, _ => none
  | _ + 1, _, .non => some .none
  | _ + 1, _, .bl b => some (.bool b)
  | _ + 1, _, .int i => some (.int i)
  | _ + 1, _, .str s => some (.str s)
  | n + 1, M, .tup ds => (mapO (res n M) ds).map .tuple
  | n + 1, M, .ll l => match M[l]? with
    | some (.lst ds) => (mapO (res n M) ds).map .list
    | _ => none
  | _ + 1, _, _ => none
def shp (d : PyData) : Bool := SeqAt.shaped d
/-- a == b -/
def eqD (M : Store) (a b : D) : Option Bool :=
  match res 66 M a, res 66 M b with
  | some x, some y => if shp x && shp y then some (PyData.eqv x y) else none
  | _, _ => none
/-- a in xs -/
def inD (M : Store) (a b : D) : Option Bool :=
  match res 66 M a, res 66 M b with
  | some x, some (.tuple ys) => if shp x && shp (.tuple ys) then some (ys.any fun z => PyData.eqv z x) else none
  | some x, some (.list ys) => if shp x && shp (.list ys) then some (ys.any fun z => PyData.eqv z x) else none
  | _, _ => none

/-- truth -/
def tru (M : Store) : D → Option Bool
  | .non => some false
  | .bl b => some b
  | .int i => some (i != 0)
  | .str s => if s.length ≤ szl then some ((s.length : Int) != 0) else none
  | .tup ds => some (!ds.isEmpty)
  | .ll l => match M[l]? with
    | some (.lst ds) => some (!ds.isEmpty)
    | _ => none
  | _ => none

def outB (M : Store) : Option Bool → Out D
  | some b => .ok (.bl b) M
  | none => .bad
/-- a new object -/
def new (M : Store) (o : MO) (d : Nat → D) : Out D := .ok (d M.length) (M ++ [o])
def newL (M : Store) (ds : List D) : Out D := if ds.length ≤ szl then .ok (.ll M.length) (M ++ [.lst ds]) else .bad

def big (i : Int) : Bool := decide (-(2 ^ 64) < i) && decide (i < 2 ^ 64)
def binD (op : Operator) (a b : D) (M : Store) : Out D :=
  match op, a, b with
  | .Add, .int i, .int j => .ok (.int (i + j)) M
  | .Add, .str x, .str y => if x.length + y.length ≤ szl then .ok (.str (x ++ y)) M else .bad
  | .Add, .tup x, .tup y => if x.length + y.length ≤ szl then .ok (.tup (x ++ y)) M else .bad
  | .Add, .ll x, .ll y => match M[x]?, M[y]? with
    | some (.lst xs), some (.lst ys) => newL M (xs ++ ys)
    | _, _ => .bad
  | .Sub, .int i, .int j => .ok (.int (i - j)) M
  | .Mult, .int i, .int j => if big i || big j then .ok (.int (i * j)) M else .bad
  | .Mult, .ll x, .int k => match M[x]? with
    | some (.lst xs) => if 0 ≤ k ∧ k ≤ 1000 ∧ xs.length ≤ 1000 then newL M (List.replicate k.toNat xs).flatten else .bad
    | _ => .bad
  | .Mult, .tup xs, .int k => if xs ≠ [] ∧ 2 ≤ k ∧ k ≤ 1000 ∧ xs.length ≤ 1000 then .ok (.tup (List.replicate k.toNat xs).flatten) M else .bad
  | .FloorDiv, .int i, .int j => if 0 < j ∧ j < 1073741824 then .ok (.int (i / j)) M else .bad
  | .Mod, .int i, .int j => if 0 < j then .ok (.int (i % j)) M else .bad
  | .Pow, .int i, .int j => if 0 ≤ j ∧ j ≤ 1000000 ∧ i.natAbs < 2 ^ 64 then .ok (.int (i ^ j.toNat)) M else .bad
  | _, _, _ => .bad
def cmpI (p : Int → Int → Bool) (a b : D) (M : Store) : Out D :=
  match a, b with
  | .int i, .int j => .ok (.bl (p i j)) M
  | _, _ => .bad
def kyD : D → Option Ky
  | .int i => some (.inl i)
  | .str s => some (.inr s)
  | _ => none
def dKy : Ky → D
  | .inl i => .int i
  | .inr s => .str s
def valD {κ : Type} [DecidableEq κ] (kvs : List (κ × D)) (k : κ) : Option D := (kvs.find? fun kv => decide (kv.1 = k)).map (·.2)
def putD {κ : Type} [DecidableEq κ] (kvs : List (κ × D)) (k : κ) (v : D) : List (κ × D) :=
  if (kvs.any fun kv => decide (kv.1 = k)) = true then kvs.map (fun kv => if kv.1 = k then (kv.1, v) else kv) else kvs ++ [(k, v)]
def cmpD (op : CmpOp) (a b : D) (M : Store) : Out D :=
  match op with
  | .Lt => cmpI (fun i j => decide (i < j)) a b M
  | .LtE => cmpI (fun i j => decide (i ≤ j)) a b M
  | .Gt => cmpI (fun i j => decide (j < i)) a b M
  | .GtE => cmpI (fun i j => decide (j ≤ i)) a b M
  | .Eq => outB M (eqD M a b)
  | .NotEq => outB M ((eqD M a b).map (!·))
  | .In => outB M (inD M a b)
  | .NotIn => outB M ((inD M a b).map (!·))
  | .Is => match a, b with
    | .non, .non => .ok (.bl true) M
    | _, .non => .ok (.bl false) M
    | _, _ => .bad
  | .IsNot => match a, b with
    | .non, .non => .ok (.bl false) M
    | _, .non => .ok (.bl true) M
    | _, _ => .bad
/-- xs[i] -/
def subD (a i : D) (M : Store) : Out D :=
  match a, i with
  | .tup xs, .int i => match L2.atI xs i with
    | some v => .ok v M
    | none => .bad
  | .lsf xs, .int i => match L2.atI xs i with
    | some v => .ok v M
    | none => .bad
  | .ll l, .int i => match M[l]? with
    | some (.lst xs) => match L2.atI xs i with
      | some v => .ok v M
      | none => .bad
    | _ => .bad
  | .str z, .int i => if z.length ≤ szl then
      match L2.atI z.cps.toList i with
      | some c => .ok (.str ⟨#[c]⟩) M
      | none => .bad
    else .bad
  | _, _ => .bad
/-- xs[i] = v -/
def setD (a i v : D) (M : Store) : Out Unit :=
  match a, i with
  | .ll l, .int i => match M[l]? with
    | some (.lst xs) => match L2.ixN xs.length i with
      | some j => .ok () (M.set l (.lst (xs.set j v)))
      | none => .bad
    | _ => .bad
  | .dl l, i => match M[l]?, kyD i with
    | some (.dk kvs), some k => if kvs.length < szl then .ok () (M.set l (.dk (putD kvs k v))) else .bad
    | _, _ => .bad
  | _, _ => .bad
def cutD (xs : List D) (lo hi : Option Int) : List D := (xs.drop (HT.sIx xs.length 0 lo)).take (HT.sIx xs.length xs.length hi - HT.sIx xs.length 0 lo)
def slcD (a : D) (lo hi : Option Int) (M : Store) : Out D :=
  match a with
  | .tup xs => .ok (.tup (cutD xs lo hi)) M
  | .ll l => match M[l]? with
    | some (.lst xs) => newL M (cutD xs lo hi)
    | _ => .bad
  | .str z => if z.length ≤ szl then .ok (.str (Txt.slice z lo hi)) M else .bad
  | _ => .bad
/-- every second of the items from the second on -/
def oddsL {α : Type} : List α → List α
  | [] => []
  | [_] => []
  | _ :: b :: r => b :: oddsL r
/-- xs[a:c] = ys -/
def putSl (xs ys : List D) (a c : Nat) : List D := xs.take a ++ ys ++ xs.drop c

/-- the type of a datum, where it is a built-in one -/
def tyD : D → Option String
  | .non => some "NoneType"
  | .bl _ => some "bool"
  | .int _ => some "int"
  | .str _ => some "str"
  | .tup _ => some "tuple"
  | .ll _ => some "list"
  | .lsf _ => some "list"
  | .dl _ => some "dict"
  | _ => none
def isiD (T : String) (a : D) (M : Store) : Out D :=
  match tyD a with
  | some t => outB M (L2.kitB t T)
  | none => .bad

/-- built-in functions and types, called by name -/
inductive Bi where
  | len | max | min | int | bool | str | list | tuple | sorted | any | all
  deriving DecidableEq
/-- methods of built-in types -/
inductive Me where
  | append | index | pop | join | split | upper | get
  deriving DecidableEq

/-- strictly ascending ints of a list -/
def insI (i : Int) : List Int → List Int
  | [] => [i]
  | j :: r => if i < j then i :: j :: r else if i = j then j :: r else j :: insI i r
def setI (xs : List Int) : List Int := xs.foldr insI []
def intsD : List D → Option (List Int)
  | [] => some []
  | .int i :: r => (intsD r).map (i :: ·)
  | _ :: _ => none
def blsD : List D → Option (List Bool)
  | [] => some []
  | .bl i :: r => (blsD r).map (i :: ·)
  | _ :: _ => none
def strsD : List D → Option (List Str)
  | [] => some []
  | .str i :: r => (strsD r).map (i :: ·)
  | _ :: _ => none
def resL (M : Store) (ds : List D) : Option (List (PyData × D)) := mapO (fun d => (res 66 M d).map fun x => (x, d)) ds

def biD (b : Bi) (es : List D) (M : Store) : Out D :=
  match b, es with
  | .len, [.tup xs] => .ok (.int xs.length) M
  | .len, [.lsf xs] => .ok (.int xs.length) M
  | .len, [.str s] => if s.length ≤ szl then .ok (.int s.length) M else .bad
  | .len, [.ll l] => match M[l]? with
    | some (.lst xs) => .ok (.int xs.length) M
    | _ => .bad
  | .max, [.int i, .int j] => .ok (.int (if j > i then j else i)) M
  | .min, [.int i, .int j] => .ok (.int (if j < i then j else i)) M
  | .int, [.int i] => .ok (.int i) M
  | .int, [.bl b] => .ok (.int (if b then 1 else 0)) M
  | .bool, [.bl b] => .ok (.bl b) M
  | .str, [.int i] => if i.natAbs.log2 < 1920 then .ok (.str (toString i)) M else .bad
  | .str, [.str s] => .ok (.str s) M
  | .list, [.tup xs] => newL M xs
  | .list, [.ll l] => match M[l]? with
    | some (.lst xs) => newL M xs
    | _ => .bad
  | .list, [.dl l] => match M[l]? with
    | some (.dk kvs) => newL M (kvs.map fun kv => dKy kv.1)
    | _ => .bad
  | .tuple, [.ll l] => match M[l]? with
    | some (.lst xs) => .ok (.tup xs) M
    | _ => .bad
  | .tuple, [.tup xs] => .ok (.tup xs) M
  | .any, [.ll l] => match M[l]? with
    | some (.lst xs) => match blsD xs with
      | some bs => .ok (.bl (bs.any id)) M
      | none => .bad
    | _ => .bad
  | .all, [.ll l] => match M[l]? with
    | some (.lst xs) => match blsD xs with
      | some bs => .ok (.bl (bs.all id)) M
      | none => .bad
    | _ => .bad
  | _, _ => .bad
def meD (m : Me) (o : D) (es : List D) (M : Store) : Out D :=
  match m, o, es with
  | .append, .ll l, [d] => match M[l]? with
    | some (.lst xs) => if xs.length < szl then .ok .non (M.set l (.lst (xs ++ [d]))) else .bad
    | _ => .bad
  | .pop, .ll l, [] => match M[l]? with
    | some (.lst xs) => match xs[xs.length - 1]? with
      | some y => .ok y (M.set l (.lst xs.dropLast))
      | none => .bad
    | _ => .bad
  | .index, .ll l, [.int i] => match M[l]? with
    | some (.lst xs) => match intsD xs with
      | some ns => match ns.findIdx? (fun z => decide (z = i)) with
        | some j => .ok (.int j) M
        | none => .bad
      | none => .bad
    | _ => .bad
  | .join, .str s, [.ll l] => match M[l]? with
    | some (.lst xs) => match strsD xs with
      | some ys => if (ys.map (·.length)).sum + ys.length * s.length ≤ 16777216 then .ok (.str (Txt.join s ys)) M else .bad
      | none => .bad
    | _ => .bad
  | .split, .str a, [.str b] => if (b.length == 0) = false ∧ a.length + 2 ≤ szl then newL M ((Txt.split a b).map .str) else .bad
  | .upper, .str a, [] => if a.length ≤ 5592405 then .ok (.str (Txt.upper a)) M else .bad
  | .get, .dl l, [k, d] => match M[l]?, kyD k with
    | some (.dk kvs), some k => .ok ((valD kvs k).getD d) M
    | _, _ => .bad
  | _, _, _ => .bad

/-! ### the language -/
mutual
inductive CE where
  | var (i : Nat) | cst (d : D) | gcst (x : Str) (d : D)
  | neg (a : CE) | nt (a : CE)
  | bin (op : Operator) (a b : CE) | cmp (op : CmpOp) (a b : CE) | chn (op op' : CmpOp) (a b c : CE)
  | andv (a b : CE) | orv (a b : CE) | ife (c a b : CE)
  | tup (es : List CE) | lst (es : List CE) | dic (es : List CE)
  | sub (a i : CE) | slc (a lo hi : CE)
  | call (f : Nat) (es : List CE) | calv (i : Nat) (fs : List Nat) (es : List CE)
  | bi (b : Bi) (es : List CE) | me (m : Me) (o : CE) (es : List CE)
  | isi (a : CE) (T : String) | srs (a : CE) | srt (a : CE) | rev (a : CE) | odd (a : CE) | lrg (a b : CE) | cal0 (f : Nat)
  | mk (c f : Nat) (es : List CE) | mkv (i c f : Nat) (es : List CE) | prp (c f : Nat) (a : CE) | mth (c f : Nat) (o : CE) (es : List CE) | fld (c : Nat) (x : Str) (a : CE)
  | lc (elt : CE) (tg : CT) (it : CI) (ifs : List CE) (vs : List Nat)
inductive CT where
  | nm (i : Nat) | tup (ts : List CT) | sub (o i : CE) | slc (o lo hi : CE) | fld (c : Nat) (x : Str) (o : CE)
inductive CI where
  | ex (e : CE) | rng (a b : CE) | zip (a b : CE)
end
inductive CS where
  | exp (e : CE) | asg (t : CT) (e : CE) | par (is : List Nat) (es : List CE)
  | ret (e : CE) | retN | iff (c : CE) (a b : List CS)
  | for_ (t : CT) (it : CI) (body : List CS) | whl (c : CE) (body : List CS)
  | pas | brk | cnt | rai (c : Nat) | tri (body : List CS) (hs : List (Nat × CE))

/-- what is walked: written items, those of a list that must stay as it is -/
inductive Itm where
  | fix (ds : List D) | lis (l : Nat) (ds : List D) | prs (ps : List D) | lps (l : Nat) (ds ps : List D)
def Itm.ds : Itm → List D
  | .fix ds => ds
  | .lis _ ds => ds
  | .prs ps => ps
  | .lps _ _ ps => ps
def Itm.chk : Itm → Store → Bool
  | .fix _, _ => true
  | .lis l ds, M => match M[l]? with
    | some (.lst xs) => D.beqL xs ds
    | _ => false
  | .prs _, _ => true
  | .lps l ds _, M => match M[l]? with
    | some (.lst xs) => D.beqL xs ds
    | _ => false
def pairL (xs ys : List D) : List D := List.zipWith (fun a b => .tup [a, b]) xs ys
def zipD (a b : D) (M : Store) : Out Itm :=
  match a, b with
  | .tup xs, .tup ys => .ok (.prs (pairL xs ys)) M
  | .ll l, .tup ys => match M[l]? with
    | some (.lst xs) => .ok (.lps l xs (pairL xs ys)) M
    | _ => .bad
  | _, _ => .bad
def itmD (d : D) (M : Store) : Out Itm :=
  match d with
  | .tup ds => .ok (.fix ds) M
  | .ll l => match M[l]? with
    | some (.lst ds) => .ok (.lis l ds) M
    | _ => .bad
  | _ => .bad
def rngD (a b : D) (M : Store) : Out Itm :=
  match a, b with
  | .int i, .int j => if -(2 ^ 62) ≤ i ∧ i < 2 ^ 62 ∧ -(2 ^ 62) ≤ j ∧ j < 2 ^ 62 then .ok (.fix ((List.range (j - i).toNat).map fun (n : Nat) => D.int (i + n))) M else .bad
  | _, _ => .bad
def wipeD (σ : Env) : List Nat → Env
  | [] => σ
  | v :: vs => (wipeD σ vs).set v none
def truO (d : D) (M : Store) : Out Bool :=
  match tru M d with
  | some b => .ok b M
  | none => .bad
def negD (d : D) (M : Store) : Out D :=
  match d with
  | .int i => .ok (.int (-i)) M
  | _ => .bad
def kAnd (f : Store → Out D) (d : D) (M : Store) : Out D := match tru M d with
  | some true => f M
  | some false => .ok d M
  | none => .bad
def kOr (f : Store → Out D) (d : D) (M : Store) : Out D := match tru M d with
  | some true => .ok d M
  | some false => f M
  | none => .bad
def kAndT (f : Store → Out Bool) (t : Bool) (M : Store) : Out Bool := match t with
  | true => f M
  | false => .ok false M
def kOrT (f : Store → Out Bool) (t : Bool) (M : Store) : Out Bool := match t with
  | true => .ok true M
  | false => f M
/-- behind the first comparison of a chain -/
def kChn (op' : CmpOp) (f : Store → Out D) (b r : D) (M : Store) : Out D := match r with
  | .bl true => (f M).bind (cmpD op' b)
  | .bl false => .ok (.bl false) M
  | _ => .bad
def kChn1 (op op' : CmpOp) (f : Store → Out D) (a b : D) (M : Store) : Out D := (cmpD op a b M).bind (kChn op' f b)
/-- a slice's part: left out, or an int -/
def intO (no : Bool) (d : D) (M : Store) : Out (Option Int) := match no, d with
  | true, _ => .ok none M
  | false, .int i => .ok (some i) M
  | _, _ => .bad
def kSl2 (a : D) (lo hi : Option Int) (M : Store) : Out D := slcD a lo hi M
def kSl1 (no : Bool) (f : Store → Out D) (a : D) (lo : Option Int) (M : Store) : Out D := ((f M).bind (intO no)).bind (kSl2 a lo)
def kSl0 (no no' : Bool) (f g : Store → Out D) (a : D) (M : Store) : Out D := ((f M).bind (intO no)).bind (kSl1 no' g a)
def isNo : CE → Bool
  | .cst .non => true
  | _ => false
def srsD (a : D) (M : Store) : Out D := match a with
  | .ll l => match M[l]? with
    | some (.lst xs) => match intsD xs with
      | some ns => if ns.length < 64 then newL M ((setI ns).map .int) else .bad
      | none => .bad
    | _ => .bad
  | _ => .bad
/-- what sorted takes: alike items, all tuples of an item at least or none a tuple -/
def srtOk (xs : List PyData) : Bool :=
  (xs.all fun a => xs.all fun b => PySem.W.alike a b) && ((xs.all fun a => match a with
    | .tuple (_ :: _) => true
    | _ => false) || (xs.all fun a => match a with
    | .none => false
    | .tuple _ => false
    | _ => true)) && xs.all fun a => decide (a.depth ≤ 64)
def srtLe (a b : PyData × D) : Bool := !PySem.W.dataLt b.1 a.1
def srtD (a : D) (M : Store) : Out D := match a with
  | .ll l => match M[l]? with
    | some (.lst xs) => match resL M xs with
      | some ps => if srtOk (ps.map (·.1)) = true then newL M ((ps.mergeSort srtLe).map (·.2)) else .bad
      | none => .bad
    | _ => .bad
  | _ => .bad
/-- xs[::-1] -/
def revD (a : D) (M : Store) : Out D := match a with
  | .ll l => match M[l]? with
    | some (.lst xs) => newL M xs.reverse
    | _ => .bad
  | _ => .bad
/-- xs[1::2] -/
def oddD (a : D) (M : Store) : Out D := match a with
  | .ll l => match M[l]? with
    | some (.lst xs) => newL M (oddsL xs)
    | _ => .bad
  | _ => .bad
def kOk' {α : Type} (a : α) (M : Store) : Out α := .ok a M
def lrgD (a b : D) (M : Store) : Out D := match a, b with
  | .int i, .int j => if -(2 ^ 62) ≤ i ∧ i < 2 ^ 62 ∧ -(2 ^ 62) ≤ j ∧ j < 2 ^ 62 then newL M ((List.range (j - i).toNat).map fun (n : Nat) => D.int (i + n)) else .bad
  | _, _ => .bad
/-- k1, v1, k2, v2, .. -/
def pairsD : List D → Option (List (Ky × D))
  | [] => some []
  | k :: v :: r => match kyD k, pairsD r with
    | some k, some ps => some ((k, v) :: ps)
    | _, _ => none
  | _ => none
def mergeD (kvs more : List (Ky × D)) : List (Ky × D) := more.foldl (fun acc kv => putD acc kv.1 kv.2) kvs
def dicD (es : List D) (M : Store) : Out D := match pairsD es with
  | some ps => if ps.length ≤ 15 ∧ ps ≠ [] then .ok (.dl M.length) (M ++ [.dk (mergeD [] ps)]) else .bad
  | none => .bad
def kLst (ds : List D) (M : Store) : Out D := newL M ds
/-- the receiver's kind -/
def rcv : Me → D → Bool
  | .append, .ll _ => true
  | .index, .ll _ => true
  | .pop, .ll _ => true
  | .join, .str _ => true
  | .split, .str _ => true
  | .upper, .str _ => true
  | .get, .dl _ => true
  | _, _ => false
def kMe (m : Me) (f : Store → Out (List D)) (d : D) (M : Store) : Out D := match rcv m d with
  | true => (f M).bind (meD m d)
  | false => .bad
def kSet (σ : Env) (d a b : D) (M : Store) : Out Env := (setD a b d M).bind (kOk fun _ => σ)
/-- o[a:c] = d, another list -/
def setSl (o lo hi d : D) (M : Store) : Out Unit := match o, lo, hi, d with
  | .ll l, .int a, .int c, .ll k => match M[l]?, M[k]? with
    | some (.lst xs), some (.lst ys) => if l ≠ k ∧ 0 ≤ a ∧ a ≤ c ∧ a ≤ xs.length ∧ xs.length + ys.length ≤ szl then .ok () (M.set l (.lst (putSl xs ys a.toNat (min c.toNat xs.length)))) else .bad
    | _, _ => .bad
  | _, _, _, _ => .bad
def kSs2 (σ : Env) (d o a c : D) (M : Store) : Out Env := (setSl o a c d M).bind (kOk fun _ => σ)
def kSs1 (σ : Env) (d : D) (g : Store → Out D) (o a : D) (M : Store) : Out Env := (g M).bind (kSs2 σ d o a)
def kSs0 (σ : Env) (d : D) (f g : Store → Out D) (o : D) (M : Store) : Out Env := (f M).bind (kSs1 σ d g o)
def lcK3 (rest : List D → Store → Out D) (acc : List D) (d : D) (M : Store) : Out D := rest (acc ++ [d]) M
def lcK2 (eF : Env → Store → Out D) (rest : List D → Store → Out D) (acc : List D) (σ' : Env) (t : Bool) (M : Store) : Out D := match t with
  | true => (eF σ' M).bindN (lcK3 rest acc)
  | false => rest acc M
def lcK1 (ifF : Env → Store → Out Bool) (eF : Env → Store → Out D) (rest : List D → Store → Out D) (acc : List D) (σ' : Env) (M : Store) : Out D := (ifF σ' M).bindN (lcK2 eF rest acc σ')
def lcL (chk : Store → Bool) (tgF : D → Env → Store → Out Env) (ifF : Env → Store → Out Bool) (eF : Env → Store → Out D) (σ : Env) : List D → List D → Store → Out D
  | [], acc, M => if chk M = true then newL M acc else .bad
  | x :: xs, acc, M => if chk M = true then (tgF x σ M).bindN (lcK1 ifF eF (lcL chk tgF ifF eF σ xs) acc) else .bad
def kLc (tgF : D → Env → Store → Out Env) (ifF : Env → Store → Out Bool) (eF : Env → Store → Out D) (σ : Env) (it : Itm) (M : Store) : Out D := lcL it.chk tgF ifF eF σ it.ds [] M
def getV (σ : Env) (i : Nat) (M : Store) : Out D := match σ[i]? with
  | some (some d) => .ok d M
  | _ => .bad
/-- a call of what a name holds: one of the defs fs -/
def kCalv (m : Nat → List D → Store → Out D) (fs : List Nat) (ef : Store → Out (List D)) (d : D) (M : Store) : Out D := match d with
  | .fn f => if f ∈ fs then (ef M).bind (m f) else .bad
  | _ => .bad

/-! classes: a class as a value is the datum .fn of its number -/
def kMk2 (o d : D) (M : Store) : Out D := match d with
  | .non => .ok o M
  | _ => .bad
/-- a new instance of c, then its init f -/
def kMk (m : Nat → List D → Store → Out D) (c f : Nat) (xs : List D) (M : Store) : Out D := (m f (.ol c M.length :: xs) (M ++ [.ins c []])).bind (kMk2 (.ol c M.length))
/-- .. of what a name holds, the class c -/
def kMkv (m : Nat → List D → Store → Out D) (c f : Nat) (ef : Store → Out (List D)) (d : D) (M : Store) : Out D := match d with
  | .fn c' => if c' = c then (ef M).bind (kMk m c f) else .bad
  | _ => .bad
def kPrp (m : Nat → List D → Store → Out D) (c f : Nat) (d : D) (M : Store) : Out D := match d with
  | .ol c' l => if c' = c then (m f [.ol c' l] M).bindN kOk' else .bad
  | _ => .bad
def kCons (m : Nat → List D → Store → Out D) (f : Nat) (d : D) (xs : List D) (M : Store) : Out D := m f (d :: xs) M
def kMth (m : Nat → List D → Store → Out D) (c f : Nat) (ef : Store → Out (List D)) (d : D) (M : Store) : Out D := match d with
  | .ol c' l => if c' = c then (ef M).bind (kCons m f (.ol c' l)) else .bad
  | _ => .bad
def fldD (c : Nat) (x : Str) (d : D) (M : Store) : Out D := match d with
  | .ol c' l => if c' = c then (match M[l]? with
    | some (.ins _ fs) => match fs.lookup x with
      | some v => .ok v M
      | none => .bad
    | _ => .bad) else .bad
  | _ => .bad
def putFd (f : Str) (v : D) : List (Str × D) → List (Str × D)
  | [] => [(f, v)]
  | (g, x) :: r => if g = f then (g, v) :: r else (g, x) :: putFd f v r
def setF (c : Nat) (x : Str) (o d : D) (M : Store) : Out Unit := match o with
  | .ol c' l => match M[l]? with
    | some (.ins k fs) => if c' = c ∧ k = c ∧ fs.length < 1000 then .ok () (M.set l (.ins k (putFd x d fs))) else .bad
    | _ => .bad
  | _ => .bad
def kSetF (σ : Env) (c : Nat) (x : Str) (d o : D) (M : Store) : Out Env := (setF c x o d M).bind (kOk fun _ => σ)

section
variable (m : Nat → List D → Store → Out D)
mutual
def evE : CE → Env → Store → Out D
  | .var i, σ, M => getV σ i M
  | .cst d, _, M => .ok d M
  | .gcst _ d, _, M => .ok d M
  | .neg a, σ, M => (evE a σ M).bind negD
  | .nt a, σ, M => ((evE a σ M).bind truO).bind (kOk fun b => .bl (!b))
  | .bin op a b, σ, M => (evE a σ M).bind (k2 (evE b σ) (binD op))
  | .cmp op a b, σ, M => (evE a σ M).bind (k2 (evE b σ) (cmpD op))
  | .chn op op' a b c, σ, M => (evE a σ M).bind (k2 (evE b σ) (kChn1 op op' (evE c σ)))
  | .andv a b, σ, M => (evE a σ M).bind (kAnd (evE b σ))
  | .orv a b, σ, M => (evE a σ M).bind (kOr (evE b σ))
  | .ife c a b, σ, M => ((evE c σ M).bind truO).bind (kIf (evE a σ) (evE b σ))
  | .tup es, σ, M => (evEs es σ M).bind (kOk .tup)
  | .lst es, σ, M => (evEs es σ M).bind kLst
  | .dic es, σ, M => (evEs es σ M).bindN dicD
  | .sub a i, σ, M => (evE a σ M).bind (k2 (evE i σ) subD)
  | .slc a lo hi, σ, M => (evE a σ M).bind (kSl0 (isNo lo) (isNo hi) (evE lo σ) (evE hi σ))
  | .call f es, σ, M => (evEs es σ M).bind (m f)
  | .calv i fs es, σ, M => (getV σ i M).bind (kCalv m fs (evEs es σ))
  | .bi b es, σ, M => (evEs es σ M).bind (biD b)
  | .me mt o es, σ, M => (evE o σ M).bind (kMe mt (evEs es σ))
  | .isi a T, σ, M => (evE a σ M).bind (isiD T)
  | .srs a, σ, M => (evE a σ M).bind srsD
  | .srt a, σ, M => (evE a σ M).bind srtD
  | .rev a, σ, M => (evE a σ M).bind revD
  | .odd a, σ, M => (evE a σ M).bind oddD
  | .cal0 f, _, M => (m f [] M).bindN kOk'
  | .lrg a b, σ, M => (evE a σ M).bind (k2 (evE b σ) lrgD)
  | .mk c f es, σ, M => (evEs es σ M).bind (kMk m c f)
  | .mkv i c f es, σ, M => (getV σ i M).bind (kMkv m c f (evEs es σ))
  | .prp c f a, σ, M => (evE a σ M).bind (kPrp m c f)
  | .mth c f o es, σ, M => (evE o σ M).bind (kMth m c f (evEs es σ))
  | .fld c x a, σ, M => (evE a σ M).bind (fldD c x)
  | .lc elt tg it ifs vs, σ, M => (evI it σ M).bind (kLc (evG tg) (evIf ifs) (evE elt) (wipeD σ vs))
def evEs : List CE → Env → Store → Out (List D)
  | [], _, M => .ok [] M
  | e :: es, σ, M => (evE e σ M).bind (k2 (evEs es σ) (kOk2 .cons))
def evI : CI → Env → Store → Out Itm
  | .ex e, σ, M => (evE e σ M).bind itmD
  | .rng a b, σ, M => (evE a σ M).bind (k2 (evE b σ) rngD)
  | .zip a b, σ, M => (evE a σ M).bind (k2 (evE b σ) zipD)
def evIf : List CE → Env → Store → Out Bool
  | [], _, M => .ok true M
  | c :: cs, σ, M => ((evE c σ M).bind truO).bind (kAndT (evIf cs σ))
def evG : CT → D → Env → Store → Out Env
  | .nm i, d, σ, M => .ok (σ.set i (some d)) M
  | .tup ts, d, σ, M => match d with
    | .tup ds => if ds.length = ts.length then evGs ts ds σ M else .bad
    | .ll l => match M[l]? with
      | some (.lst ds) => if ds.length = ts.length then evGs ts ds σ M else .bad
      | _ => .bad
    | _ => .bad
  | .sub o i, d, σ, M => (evE o σ M).bind (k2 (evE i σ) (kSet σ d))
  | .fld c x o, d, σ, M => (evE o σ M).bind (kSetF σ c x d)
  | .slc o lo hi, d, σ, M => (evE o σ M).bind (kSs0 σ d (evE lo σ) (evE hi σ))
def evGs : List CT → List D → Env → Store → Out Env
  | [], ds, σ, M => match ds with
    | [] => .ok σ M
    | _ => .bad
  | t :: ts, ds, σ, M => match ds with
    | d :: ds => (evG t d σ M).bind (evGs ts ds)
    | [] => .bad
end
/-- as a test -/
def evT (c : CE) (σ : Env) (M : Store) : Out Bool := (evE m c σ M).bind truO
end

/-- what a statement ends with -/
inductive SO where
  | nx (σ : Env) (M : Store) | rt (d : D) (M : Store) | bk (σ : Env) (M : Store) | ct (σ : Env) (M : Store)
  | ex (e : Ex) (σ : Env) (M : Store) | bad
def SO.seq (x : SO) (k : Env → Store → SO) : SO := match x with
  | .nx σ M => k σ M
  | x => x
def Out.so {α : Type} (x : Out α) (σ : Env) (k : α → Store → SO) : SO := match x with
  | .ok a M => k a M
  | .ex e M => .ex e σ M
  | .bad => .bad
/-- .. where nothing may be raised -/
def Out.soN {α : Type} (x : Out α) (k : α → Store → SO) : SO := match x with
  | .ok a M => k a M
  | _ => .bad
theorem Out.soN_ok {α : Type} (a : α) (M : Store) (k : α → Store → SO) : (Out.ok a M).soN k = k a M := rfl
theorem SO.seq_nx (σ : Env) (M : Store) (k : Env → Store → SO) : (SO.nx σ M).seq k = k σ M := rfl
theorem SO.seq_rt (d : D) (M : Store) (k : Env → Store → SO) : (SO.rt d M).seq k = .rt d M := rfl
theorem SO.seq_bk (σ : Env) (M : Store) (k : Env → Store → SO) : (SO.bk σ M).seq k = .bk σ M := rfl
theorem SO.seq_ct (σ : Env) (M : Store) (k : Env → Store → SO) : (SO.ct σ M).seq k = .ct σ M := rfl
theorem SO.seq_ex (e : Ex) (σ : Env) (M : Store) (k : Env → Store → SO) : (SO.ex e σ M).seq k = .ex e σ M := rfl
theorem SO.seq_bad (k : Env → Store → SO) : SO.bad.seq k = .bad := rfl
theorem Out.so_ok {α : Type} (a : α) (M : Store) (σ : Env) (k : α → Store → SO) : (Out.ok a M).so σ k = k a M := rfl
theorem Out.so_ex {α : Type} (e : Ex) (M : Store) (σ : Env) (k : α → Store → SO) : (Out.ex e M : Out α).so σ k = .ex e σ M := rfl
theorem Out.so_bad {α : Type} (σ : Env) (k : α → Store → SO) : (Out.bad : Out α).so σ k = .bad := rfl
def sNx (σ : Env) (_ : D) (M : Store) : SO := .nx σ M
def sRt (d : D) (M : Store) : SO := .rt d M
def sIf (f g : Env → Store → SO) (σ : Env) (t : Bool) (M : Store) : SO := match t with
  | true => f σ M
  | false => g σ M
theorem sIf_true (f g : Env → Store → SO) (σ : Env) (M : Store) : sIf f g σ true M = f σ M := rfl
theorem sIf_false (f g : Env → Store → SO) (σ : Env) (M : Store) : sIf f g σ false M = g σ M := rfl
def sAsg (gF : D → Env → Store → Out Env) (σ : Env) (d : D) (M : Store) : SO := (gF d σ M).soN .nx
def setAll (σ : Env) : List Nat → List D → Env
  | i :: is, d :: ds => setAll (σ.set i (some d)) is ds
  | _, _ => σ
def sPar (is : List Nat) (σ : Env) (ds : List D) (M : Store) : SO := if is.length = ds.length then .nx (setAll σ is ds) M else .bad
/-- behind a turn of a loop -/
def SO.turn (x : SO) (k : Env → Store → SO) : SO := match x with
  | .nx σ M => k σ M
  | .ct σ M => k σ M
  | .bk σ M => .nx σ M
  | .rt d M => .rt d M
  | .ex e σ M => .ex e σ M
  | .bad => .bad
theorem SO.turn_nx (σ : Env) (M : Store) (k : Env → Store → SO) : (SO.nx σ M).turn k = k σ M := rfl
theorem SO.turn_ct (σ : Env) (M : Store) (k : Env → Store → SO) : (SO.ct σ M).turn k = k σ M := rfl
theorem SO.turn_bk (σ : Env) (M : Store) (k : Env → Store → SO) : (SO.bk σ M).turn k = .nx σ M := rfl
theorem SO.turn_rt (d : D) (M : Store) (k : Env → Store → SO) : (SO.rt d M).turn k = .rt d M := rfl
theorem SO.turn_ex (e : Ex) (σ : Env) (M : Store) (k : Env → Store → SO) : (SO.ex e σ M).turn k = .ex e σ M := rfl
theorem SO.turn_bad (k : Env → Store → SO) : SO.bad.turn k = .bad := rfl
def forK (bF : Env → Store → SO) (rest : Env → Store → SO) (σ : Env) (M : Store) : SO := (bF σ M).turn rest
def forL (chk : Store → Bool) (gF : D → Env → Store → Out Env) (bF : Env → Store → SO) : List D → Env → Store → SO
  | [], σ, M => if chk M = true then .nx σ M else .bad
  | x :: xs, σ, M => if chk M = true then (gF x σ M).soN (forK bF (forL chk gF bF xs)) else .bad
def sFor (gF : D → Env → Store → Out Env) (bF : Env → Store → SO) (σ : Env) (it : Itm) (M : Store) : SO := forL it.chk gF bF it.ds σ M
def whlK (bF : Env → Store → SO) (rest : Env → Store → SO) (σ : Env) (t : Bool) (M : Store) : SO := match t with
  | true => (bF σ M).turn rest
  | false => .nx σ M
def whlL (cF : Env → Store → Out Bool) (bF : Env → Store → SO) : Nat → Env → Store → SO
  | 0, _, _ => .bad
  | n + 1, σ, M => (cF σ M).so σ (whlK bF (whlL cF bF n) σ)
def fuel : Nat := 1000000000000
def SO.catch_ (x : SO) (h : Ex → Env → Store → SO) : SO := match x with
  | .ex e σ M => h e σ M
  | x => x

section
variable (m : Nat → List D → Store → Out D) (sup : Nat → Nat → Bool)
/-- the except clauses, each of which hands back a value -/
def evH : List (Nat × CE) → Ex → Env → Store → SO
  | [], e, σ, M => .ex e σ M
  | (c, b) :: hs, e, σ, M => if sup e.c c = true then (evE m b σ M).soN sRt else evH hs e σ M
mutual
def evS : CS → Env → Store → SO
  | .exp e, σ, M => (evE m e σ M).so σ (sNx σ)
  | .asg t e, σ, M => (evE m e σ M).so σ (sAsg (evG m t) σ)
  | .par is es, σ, M => (evEs m es σ M).so σ (sPar is σ)
  | .ret e, σ, M => (evE m e σ M).so σ sRt
  | .retN, _, M => .rt .non M
  | .iff c a b, σ, M => (evT m c σ M).so σ (sIf (evSs a) (evSs b) σ)
  | .for_ t it body, σ, M => (evI m it σ M).so σ (sFor (evG m t) (evSs body) σ)
  | .whl c body, σ, M => whlL (evT m c) (evSs body) fuel σ M
  | .pas, σ, M => .nx σ M
  | .brk, σ, M => .bk σ M
  | .cnt, σ, M => .ct σ M
  | .rai c, σ, M => .ex ⟨c, none⟩ σ M
  | .tri body hs, σ, M => (evSs body σ M).catch_ (evH m sup hs)
def evSs : List CS → Env → Store → SO
  | [], σ, M => .nx σ M
  | s :: ss, σ, M => (evS s σ M).seq (evSs ss)
end
end
/-- a def's body, from its arguments -/
def bodyO (x : SO) : Out D := match x with
  | .nx _ M => .ok .non M
  | .rt d M => .ok d M
  | .ex e _ M => .ex e M
  | _ => .bad
def startD (n : Nat) (ds : List D) : Env := ds.map some ++ List.replicate (n - ds.length) none
end BH
end

section
set_option Elab.async false
set_option linter.all false
set_option maxRecDepth 100000
/-! How data and the store stand in the layer's heap. -/
namespace BH
open PySem PySem.Spec L2

/-- where things stand: the written part, the defs, the classes, the exceptions' classes -/
structure Pm where
  K : PySem.W.Frag
  fa : Nat → Addr
  ca : Nat → Addr
  xa : Nat → Addr
  xp : Nat → Prop

/-- a list that never changes: locked, or of the written part -/
def FzL (K : PySem.W.Frag) (H : Hp) (a : Addr) (xs : List V) : Prop :=
  (∃ o, H a = some (.frz o (.lst xs))) ∨
    ∃ (o : Obj) (its : Array Value) (n : Nat), K.lookup a = some o ∧ o.cls = .type "list" ∧ o.dict = none ∧ o.data = .seq its n ∧ its.size ≤ sizeLine ∧ Vals xs its.toList
theorem FzL.sq {K : PySem.W.Frag} {H : Hp} {a : Addr} {xs : List V} (h : FzL K H a xs) : SqL K H a xs := by
  rcases h with ⟨o, h⟩ | h
  · exact .inl (.inr ⟨o, h⟩)
  · exact .inr h

mutual
inductive Rv (p : Pm) (H : Hp) (ρ : List Addr) : V → D → Prop
  | non : Rv p H ρ .non .non
  | bl (b : Bool) : Rv p H ρ (.bl b) (.bl b)
  | int (i : Int) : Rv p H ρ (.int i) (.int i)
  | str (s : Str) : Rv p H ρ (.str s) (.str s)
  | tup {a : Addr} {vs : List V} {ds : List D} : SqT p.K H a vs → RvL p H ρ vs ds → Rv p H ρ (.ref a) (.tup ds)
  | ll {a : Addr} {l : Nat} : ρ[l]? = some a → (∃ vs, H a = some (.lst vs)) → Rv p H ρ (.ref a) (.ll l)
  | dl {a : Addr} {l : Nat} : ρ[l]? = some a → (∃ kvs, H a = some (.dK kvs)) → Rv p H ρ (.ref a) (.dl l)
  | ol {a : Addr} {c l : Nat} : ρ[l]? = some a → (∃ dx fs, H a = some (.ins (p.ca c) dx fs)) → Rv p H ρ (.ref a) (.ol c l)
  | fn (f : Nat) : Rv p H ρ (.ref (p.fa f)) (.fn f)
  | lsf {a : Addr} {vs : List V} {ds : List D} : FzL p.K H a vs → RvL p H ρ vs ds → Rv p H ρ (.ref a) (.lsf ds)
inductive RvL (p : Pm) (H : Hp) (ρ : List Addr) : List V → List D → Prop
  | nil : RvL p H ρ [] []
  | cons {v : V} {vs : List V} {d : D} {ds : List D} : Rv p H ρ v d → RvL p H ρ vs ds → RvL p H ρ (v :: vs) (d :: ds)
end

/-- the heap has grown: tuples and locked things stay, lists stay lists .. -/
structure Ext (H H' : Hp) : Prop where
  tup : ∀ a vs, H a = some (.tup vs) → H' a = some (.tup vs)
  frz : ∀ a o u, H a = some (.frz o u) → H' a = some (.frz o u)
  lst : ∀ a vs, H a = some (.lst vs) → ∃ vs', H' a = some (.lst vs')
  dk : ∀ a kvs, H a = some (.dK kvs) → ∃ kvs', H' a = some (.dK kvs')
  ins : ∀ a C dx fs, H a = some (.ins C dx fs) → ∃ dx' fs', H' a = some (.ins C dx' fs')
  any : ∀ a o, H a = some o → ∃ o', H' a = some o'
theorem Ext.refl (H : Hp) : Ext H H := ⟨fun _ _ h => h, fun _ _ _ h => h, fun _ vs h => ⟨vs, h⟩, fun _ kvs h => ⟨kvs, h⟩, fun _ _ dx fs h => ⟨dx, fs, h⟩, fun _ o h => ⟨o, h⟩⟩
theorem Ext.trans {H H1 H2 : Hp} (a : Ext H H1) (b : Ext H1 H2) : Ext H H2 :=
  ⟨fun c vs h => b.tup c vs (a.tup c vs h), fun c o u h => b.frz c o u (a.frz c o u h),
   fun c vs h => let ⟨vs', h'⟩ := a.lst c vs h; b.lst c vs' h',
   fun c vs h => let ⟨vs', h'⟩ := a.dk c vs h; b.dk c vs' h',
   fun c C dx fs h => let ⟨dx', fs', h'⟩ := a.ins c C dx fs h; b.ins c C dx' fs' h',
   fun c o h => let ⟨o', h'⟩ := a.any c o h; b.any c o' h'⟩
theorem Ext.new {H : Hp} {q : Addr} {o : HO} (hq : H q = none) : Ext H (upd H q o) := by
  have ne : ∀ a u, H a = some u → a ≠ q := fun a u h e => by rw [e, hq] at h; cases h
  exact ⟨fun a vs h => by rw [upd_ne (ne a _ h)]; exact h, fun a o u h => by rw [upd_ne (ne a _ h)]; exact h,
    fun a vs h => ⟨vs, by rw [upd_ne (ne a _ h)]; exact h⟩, fun a vs h => ⟨vs, by rw [upd_ne (ne a _ h)]; exact h⟩,
    fun a C dx fs h => ⟨dx, fs, by rw [upd_ne (ne a _ h)]; exact h⟩, fun a o h => ⟨o, by rw [upd_ne (ne a _ h)]; exact h⟩⟩
theorem any_set {H : Hp} {q : Addr} {o : HO} : ∀ a u, H a = some u → ∃ u', upd H q o a = some u' := fun a u h => by
  by_cases e : a = q
  · subst e; exact ⟨o, upd_same⟩
  · exact ⟨u, by rw [upd_ne e]; exact h⟩
theorem Ext.setL {H : Hp} {q : Addr} {xs ys : List V} (hq : H q = some (.lst xs)) : Ext H (upd H q (.lst ys)) := by
  refine ⟨fun a vs h => ?_, fun a o u h => ?_, fun a vs h => ?_, fun a vs h => ?_, fun a C dx fs h => ?_, any_set⟩
  · rw [upd_ne (ne_of h hq (by intro z; cases z))]; exact h
  · rw [upd_ne (ne_of h hq (by intro z; cases z))]; exact h
  · by_cases e : a = q
    · subst e; exact ⟨ys, upd_same⟩
    · exact ⟨vs, by rw [upd_ne e]; exact h⟩
  · exact ⟨vs, by rw [upd_ne (ne_of h hq (by intro z; cases z))]; exact h⟩
  · exact ⟨dx, fs, by rw [upd_ne (ne_of h hq (by intro z; cases z))]; exact h⟩
theorem Ext.setK {H : Hp} {q : Addr} {xs ys : List (Key × V)} (hq : H q = some (.dK xs)) : Ext H (upd H q (.dK ys)) := by
  refine ⟨fun a vs h => ?_, fun a o u h => ?_, fun a vs h => ?_, fun a vs h => ?_, fun a C dx fs h => ?_, any_set⟩
  · rw [upd_ne (ne_of h hq (by intro z; cases z))]; exact h
  · rw [upd_ne (ne_of h hq (by intro z; cases z))]; exact h
  · exact ⟨vs, by rw [upd_ne (ne_of h hq (by intro z; cases z))]; exact h⟩
  · by_cases e : a = q
    · subst e; exact ⟨ys, upd_same⟩
    · exact ⟨vs, by rw [upd_ne e]; exact h⟩
  · exact ⟨dx, fs, by rw [upd_ne (ne_of h hq (by intro z; cases z))]; exact h⟩
theorem Ext.setI {H : Hp} {q C dx : Addr} {xs ys : List (Str × V)} (hq : H q = some (.ins C dx xs)) : Ext H (upd H q (.ins C dx ys)) := by
  refine ⟨fun a vs h => ?_, fun a o u h => ?_, fun a vs h => ?_, fun a vs h => ?_, fun a C' dx' fs h => ?_, any_set⟩
  · rw [upd_ne (ne_of h hq (by intro z; cases z))]; exact h
  · rw [upd_ne (ne_of h hq (by intro z; cases z))]; exact h
  · exact ⟨vs, by rw [upd_ne (ne_of h hq (by intro z; cases z))]; exact h⟩
  · exact ⟨vs, by rw [upd_ne (ne_of h hq (by intro z; cases z))]; exact h⟩
  · by_cases e : a = q
    · subst e; rw [hq] at h; cases h; exact ⟨dx, ys, upd_same⟩
    · exact ⟨dx', fs, by rw [upd_ne e]; exact h⟩
theorem Ext.sqt {K : PySem.W.Frag} {H H' : Hp} {a : Addr} {vs : List V} (e : Ext H H') (h : SqT K H a vs) : SqT K H' a vs := by
  rcases h with (h | ⟨o, h⟩) | h
  · exact .inl (.inl (e.tup _ _ h))
  · exact .inl (.inr ⟨o, e.frz _ _ _ h⟩)
  · exact .inr h
theorem Ext.fzl {K : PySem.W.Frag} {H H' : Hp} {a : Addr} {vs : List V} (e : Ext H H') (h : FzL K H a vs) : FzL K H' a vs := by
  rcases h with ⟨o, h⟩ | h
  · exact .inl ⟨o, e.frz _ _ _ h⟩
  · exact .inr h

/-- the places known before stay as they are -/
def Pre (ρ ρ' : List Addr) : Prop := ∃ t, ρ' = ρ ++ t
theorem Pre.refl (ρ : List Addr) : Pre ρ ρ := ⟨[], by simp⟩
theorem Pre.trans {ρ ρ1 ρ2 : List Addr} (a : Pre ρ ρ1) (b : Pre ρ1 ρ2) : Pre ρ ρ2 := by
  obtain ⟨t, rfl⟩ := a
  obtain ⟨u, rfl⟩ := b
  exact ⟨t ++ u, by simp⟩
theorem Pre.get {ρ ρ' : List Addr} (a : Pre ρ ρ') {l : Nat} {x : Addr} (h : ρ[l]? = some x) : ρ'[l]? = some x := by
  obtain ⟨t, rfl⟩ := a
  rw [List.getElem?_append_left (List.getElem?_eq_some_iff.mp h).1]
  exact h
theorem Pre.push (ρ : List Addr) (a : Addr) : Pre ρ (ρ ++ [a]) := ⟨[a], rfl⟩

/-- heap and places have grown; what was tracked, but at no place, is as it was -/
structure Gr (H : Hp) (ρ : List Addr) (H' : Hp) (ρ' : List Addr) : Prop where
  ext : Ext H H'
  new_ : ∃ t, ρ' = ρ ++ t ∧ ∀ a ∈ t, H a = none
  oth : ∀ a o, H a = some o → a ∉ ρ → H' a = some o
theorem Gr.pre {H H' : Hp} {ρ ρ' : List Addr} (g : Gr H ρ H' ρ') : Pre ρ ρ' := let ⟨t, h, _⟩ := g.new_; ⟨t, h⟩
theorem Gr.refl (H : Hp) (ρ : List Addr) : Gr H ρ H ρ := ⟨.refl H, ⟨[], by simp, by simp⟩, fun _ _ h _ => h⟩
theorem Gr.trans {H H1 H2 : Hp} {ρ ρ1 ρ2 : List Addr} (a : Gr H ρ H1 ρ1) (b : Gr H1 ρ1 H2 ρ2) : Gr H ρ H2 ρ2 := by
  obtain ⟨t, e1, n1⟩ := a.new_
  obtain ⟨u, e2, n2⟩ := b.new_
  refine ⟨a.ext.trans b.ext, ⟨t ++ u, by rw [e2, e1, List.append_assoc], fun c hc => ?_⟩, fun c o h hc => b.oth c o (a.oth c o h hc) ?_⟩
  · rcases List.mem_append.mp hc with h | h
    · exact n1 c h
    · cases q : H c with
      | none => rfl
      | some o =>
        obtain ⟨o', q'⟩ := a.ext.any c o q
        rw [n2 c h] at q'; cases q'
  · rw [e1, List.mem_append]
    rintro (z | z)
    · exact hc z
    · rw [n1 c z] at h; cases h
theorem Gr.new {H : Hp} {ρ : List Addr} {q : Addr} {o : HO} (hq : H q = none) : Gr H ρ (upd H q o) ρ :=
  ⟨.new hq, ⟨[], by simp, by simp⟩, fun a u h _ => by rw [upd_ne (fun e => by rw [e, hq] at h; cases h)]; exact h⟩
theorem Gr.push {H : Hp} {ρ : List Addr} {q : Addr} {o : HO} (hq : H q = none) : Gr H ρ (upd H q o) (ρ ++ [q]) :=
  ⟨.new hq, ⟨[q], rfl, fun a h => by rw [List.mem_singleton.mp h]; exact hq⟩, fun a u h _ => by rw [upd_ne (fun e => by rw [e, hq] at h; cases h)]; exact h⟩
theorem Gr.set {H : Hp} {ρ : List Addr} {q : Addr} {o : HO} {l : Nat} (hl : ρ[l]? = some q) (e : Ext H (upd H q o)) : Gr H ρ (upd H q o) ρ :=
  ⟨e, ⟨[], by simp, by simp⟩, fun a u h hn => by rw [upd_ne (fun z => hn (by rw [z]; exact List.mem_of_getElem? hl))]; exact h⟩

section
variable {p : Pm} {H H' : Hp} {ρ ρ' : List Addr}
mutual
theorem Rv.ext (e : Ext H H') (r : Pre ρ ρ') : ∀ (d : D) (v : V), Rv p H ρ v d → Rv p H' ρ' v d
  | .non, _, h => by cases h; exact .non
  | .bl _, _, h => by cases h; exact .bl _
  | .int _, _, h => by cases h; exact .int _
  | .str _, _, h => by cases h; exact .str _
  | .tup ds, _, h => by
    cases h with
    | tup h1 h2 => exact .tup (e.sqt h1) (RvL.ext e r ds _ h2)
  | .ll _, _, h => by
    cases h with
    | ll h1 h2 => obtain ⟨vs, h2⟩ := h2; exact .ll (r.get h1) (e.lst _ _ h2)
  | .dl _, _, h => by
    cases h with
    | dl h1 h2 => obtain ⟨vs, h2⟩ := h2; exact .dl (r.get h1) (e.dk _ _ h2)
  | .ol _ _, _, h => by
    cases h with
    | ol h1 h2 => obtain ⟨dx, fs, h2⟩ := h2; exact .ol (r.get h1) (e.ins _ _ _ _ h2)
  | .fn _, _, h => by cases h; exact .fn _
  | .lsf ds, _, h => by
    cases h with
    | lsf h1 h2 => exact .lsf (e.fzl h1) (RvL.ext e r ds _ h2)
theorem RvL.ext (e : Ext H H') (r : Pre ρ ρ') : ∀ (ds : List D) (vs : List V), RvL p H ρ vs ds → RvL p H' ρ' vs ds
  | [], _, h => by cases h; exact .nil
  | d :: ds, _, h => by
    cases h with
    | cons h1 h2 => exact .cons (Rv.ext e r d _ h1) (RvL.ext e r ds _ h2)
end
theorem RvL.length : ∀ {vs : List V} {ds : List D}, RvL p H ρ vs ds → vs.length = ds.length
  | _, _, .nil => rfl
  | _, _, .cons _ t => by simp [RvL.length t]
theorem RvL.get : ∀ {vs : List V} {ds : List D} {i : Nat} {d : D}, RvL p H ρ vs ds → ds[i]? = some d → ∃ v, vs[i]? = some v ∧ Rv p H ρ v d
  | _, _, _, _, .nil, e => by simp at e
  | _, _, 0, _, .cons r _, e => by simp at e; subst e; exact ⟨_, rfl, r⟩
  | _, _, i + 1, d, .cons _ t, e => by
    obtain ⟨u, h1, h2⟩ := RvL.get (i := i) (d := d) t (by simpa using e)
    exact ⟨u, by simpa using h1, h2⟩
theorem RvL.getV : ∀ {vs : List V} {ds : List D} {i : Nat} {v : V}, RvL p H ρ vs ds → vs[i]? = some v → ∃ d, ds[i]? = some d ∧ Rv p H ρ v d
  | _, _, _, _, .nil, e => by simp at e
  | _, _, 0, _, .cons r _, e => by simp at e; subst e; exact ⟨_, rfl, r⟩
  | _, _, i + 1, d, .cons _ t, e => by
    obtain ⟨u, h1, h2⟩ := RvL.getV (i := i) (v := d) t (by simpa using e)
    exact ⟨u, by simpa using h1, h2⟩
theorem RvL.append : ∀ {vs ws : List V} {ds es : List D}, RvL p H ρ vs ds → RvL p H ρ ws es → RvL p H ρ (vs ++ ws) (ds ++ es)
  | _, _, _, _, .nil, s => s
  | _, _, _, _, .cons r t, s => .cons r (RvL.append t s)
theorem RvL.reverse : ∀ {vs : List V} {ds : List D}, RvL p H ρ vs ds → RvL p H ρ vs.reverse ds.reverse
  | [], [], _ => .nil
  | v :: vs, d :: ds, .cons r t => by rw [List.reverse_cons, List.reverse_cons]; exact (RvL.reverse t).append (.cons r .nil)
theorem RvL.take : ∀ {vs : List V} {ds : List D} (n : Nat), RvL p H ρ vs ds → RvL p H ρ (vs.take n) (ds.take n)
  | _, _, 0, _ => .nil
  | _, _, _ + 1, .nil => .nil
  | _, _, n + 1, .cons r t => .cons r (RvL.take n t)
theorem RvL.drop : ∀ {vs : List V} {ds : List D} (n : Nat), RvL p H ρ vs ds → RvL p H ρ (vs.drop n) (ds.drop n)
  | _, _, 0, r => r
  | _, _, _ + 1, .nil => .nil
  | _, _, n + 1, .cons _ t => RvL.drop n t
theorem RvL.set {v : V} {d : D} (r : Rv p H ρ v d) : ∀ {vs : List V} {ds : List D} (i : Nat), RvL p H ρ vs ds → RvL p H ρ (vs.set i v) (ds.set i d)
  | _, _, _, .nil => .nil
  | _, _, 0, .cons _ t => .cons r t
  | _, _, i + 1, .cons q t => .cons q (RvL.set r i t)
theorem RvL.dropLast : ∀ {vs : List V} {ds : List D}, RvL p H ρ vs ds → RvL p H ρ vs.dropLast ds.dropLast
  | _, _, .nil => .nil
  | _, _, .cons _ .nil => .nil
  | _, _, .cons r (.cons r2 t) => .cons r (RvL.dropLast (.cons r2 t))
theorem RvL.flat : ∀ {vss : List (List V)} {dss : List (List D)}, PySem.Paired (RvL p H ρ) vss dss → RvL p H ρ vss.flatten dss.flatten
  | _, _, .nil => .nil
  | _, _, .cons r t => RvL.append r (RvL.flat t)
theorem RvL.rep {vs : List V} {ds : List D} (r : RvL p H ρ vs ds) : ∀ n : Nat, RvL p H ρ (List.replicate n vs).flatten (List.replicate n ds).flatten
  | 0 => .nil
  | n + 1 => by
    rw [List.replicate_succ, List.replicate_succ, List.flatten_cons, List.flatten_cons]
    exact r.append (RvL.rep r n)

theorem Rv.gr {d : D} {v : V} (h : Rv p H ρ v d) (g : Gr H ρ H' ρ') : Rv p H' ρ' v d := Rv.ext g.ext g.pre d v h
theorem RvL.gr {d : List D} {v : List V} (h : RvL p H ρ v d) (g : Gr H ρ H' ρ') : RvL p H' ρ' v d := RvL.ext g.ext g.pre d v h
/-- what stands at a place of the store -/
def RMO (p : Pm) (H : Hp) (ρ : List Addr) (a : Addr) : MO → Prop
  | .lst ds => ∃ vs, H a = some (.lst vs) ∧ RvL p H ρ vs ds
  | .dk kvs => ∃ kv, H a = some (.dK kv) ∧ PySem.Paired (fun (x : Key × V) (y : Ky × D) => x.1 = y.1 ∧ Rv p H ρ x.2 y.2) kv kvs
  | .ins c fs => ∃ dx fv, H a = some (.ins (p.ca c) dx fv) ∧ PySem.Paired (fun (x : Str × V) (y : Str × D) => x.1 = y.1 ∧ Rv p H ρ x.2 y.2) fv fs
structure RSt (p : Pm) (H : Hp) (ρ : List Addr) (M : Store) : Prop where
  len : ρ.length = M.length
  nd : ρ.Nodup
  at_ : ∀ (l : Nat) (mo : MO), M[l]? = some mo → ∃ a, ρ[l]? = some a ∧ RMO p H ρ a mo
theorem RMO.some {a : Addr} {mo : MO} (h : RMO p H ρ a mo) : ∃ o, H a = some o := by
  cases mo with
  | lst ds => obtain ⟨_, h, _⟩ := h; exact ⟨_, h⟩
  | dk ds => obtain ⟨_, h, _⟩ := h; exact ⟨_, h⟩
  | ins c fs => obtain ⟨_, _, h, _⟩ := h; exact ⟨_, h⟩
theorem pairedMono {α β : Type} {F G : α → β → Prop} : ∀ {l₁ : List α} {l₂ : List β}, PySem.Paired F l₁ l₂ → (∀ a b, F a b → G a b) → PySem.Paired G l₁ l₂
  | _, _, .nil, _ => .nil
  | _, _, .cons r t, f => .cons (f _ _ r) (pairedMono t f)
/-- what is as it was, in a heap that has grown -/
theorem RMO.ext {a : Addr} {mo : MO} (e : Ext H H') (r : Pre ρ ρ') (h : RMO p H ρ a mo) (hs : H' a = H a) : RMO p H' ρ' a mo := by
  cases mo with
  | lst ds => obtain ⟨vs, h, q⟩ := h; exact ⟨vs, hs.trans h, RvL.ext e r _ _ q⟩
  | dk ds => obtain ⟨vs, h, q⟩ := h; exact ⟨vs, hs.trans h, pairedMono q fun x y z => ⟨z.1, Rv.ext e r _ _ z.2⟩⟩
  | ins c fs => obtain ⟨dx, vs, h, q⟩ := h; exact ⟨dx, vs, hs.trans h, pairedMono q fun x y z => ⟨z.1, Rv.ext e r _ _ z.2⟩⟩
theorem RSt.get {M : Store} (s : RSt p H ρ M) {l : Nat} {a : Addr} {mo : MO} (h : ρ[l]? = some a) (hm : M[l]? = some mo) : RMO p H ρ a mo := by
  obtain ⟨b, hb, r⟩ := s.at_ l mo hm
  rw [h] at hb; cases hb; exact r
theorem RSt.free {M : Store} (s : RSt p H ρ M) {q : Addr} (hq : H q = none) : q ∉ ρ := fun hm => by
  obtain ⟨l, hl⟩ := List.getElem?_of_mem hm
  have hlt : l < M.length := by rw [← s.len]; exact (List.getElem?_eq_some_iff.mp hl).1
  obtain ⟨o, h⟩ := (s.get hl (List.getElem?_eq_getElem hlt)).some
  rw [hq] at h; cases h
theorem RSt.grow {M : Store} (s : RSt p H ρ M) {q : Addr} {o : HO} (hq : H q = none) : RSt p (upd H q o) ρ M := by
  refine ⟨s.len, s.nd, fun l mo h => ?_⟩
  obtain ⟨a, ha, r⟩ := s.at_ l mo h
  obtain ⟨u, hu⟩ := r.some
  exact ⟨a, ha, r.ext (.new hq) (.refl _) (upd_ne (fun e => by rw [e, hq] at hu; cases hu))⟩
theorem RSt.push {M : Store} (s : RSt p H ρ M) {q : Addr} {o : HO} {mo : MO} (hq : H q = none) (hm : RMO p (upd H q o) (ρ ++ [q]) q mo) : RSt p (upd H q o) (ρ ++ [q]) (M ++ [mo]) := by
  refine ⟨by simp [s.len], ?_, fun l mo' h => ?_⟩
  · rw [List.nodup_append]
    refine ⟨s.nd, by simp, fun a ha b hb => ?_⟩
    have : b = q := by simpa using hb
    subst this
    intro e
    subst e
    exact s.free hq ha
  · by_cases hl : l < M.length
    · rw [List.getElem?_append_left hl] at h
      obtain ⟨a, ha, r⟩ := s.at_ l mo' h
      obtain ⟨u, hu⟩ := r.some
      exact ⟨a, (Pre.push ρ q).get ha, r.ext (.new hq) (.push _ _) (upd_ne (fun e => by rw [e, hq] at hu; cases hu))⟩
    · have hl2 : l < (M ++ [mo]).length := (List.getElem?_eq_some_iff.mp h).1
      have hle : l = M.length := by simp at hl2; omega
      subst hle
      rw [List.getElem?_append_right (Nat.le_refl _)] at h
      simp at h
      subst h
      refine ⟨q, ?_, hm⟩
      rw [← s.len, List.getElem?_append_right (Nat.le_refl _)]
      simp
/-- an object of the store is changed -/
theorem RSt.upd {M : Store} (s : RSt p H ρ M) {l : Nat} {q : Addr} {o : HO} {mo : MO} (hq : ρ[l]? = some q) (e : Ext H (L2.upd H q o)) (hm : RMO p (L2.upd H q o) ρ q mo) : RSt p (L2.upd H q o) ρ (M.set l mo) := by
  refine ⟨by simp [s.len], s.nd, fun k mo' h => ?_⟩
  by_cases hk : k = l
  · subst hk
    have hlt : k < M.length := by rw [← s.len]; exact (List.getElem?_eq_some_iff.mp hq).1
    rw [List.getElem?_set_self hlt] at h
    cases h
    exact ⟨q, hq, hm⟩
  · rw [List.getElem?_set_ne (Ne.symm hk)] at h
    obtain ⟨a, ha, r⟩ := s.at_ k mo' h
    refine ⟨a, ha, r.ext e (.refl _) (upd_ne fun z => ?_)⟩
    subst z
    obtain ⟨h1, e1⟩ := List.getElem?_eq_some_iff.mp ha
    obtain ⟨h2, e2⟩ := List.getElem?_eq_some_iff.mp hq
    exact hk ((List.getElem_inj s.nd).mp (e1.trans e2.symm))
end

/-- an exception: its class, its own dict -/
def Rx (p : Pm) (H : Hp) (ρ : List Addr) (cls : Value) (dd : Option Addr) (e : Ex) : Prop :=
  (p.xp e.c ∧ cls = .ref (p.xa e.c)) ∧ match e.arg with
    | none => dd = none
    | some d => ∃ a v, dd = some a ∧ H a = some (.xd [("limit", v)]) ∧ Rv p H ρ v d

/-- what is wanted behind an answer -/
def post {α β : Type} (R : Hp → List Addr → β → α → Prop) (p : Pm) (H : Hp) (ρ : List Addr) (o : Out α) (Q : β → Hp → Prop) (E : XK) : Prop :=
  match o with
  | .ok a M => ∀ b H' ρ', RSt p H' ρ' M → Gr H ρ H' ρ' → R H' ρ' b a → Q b H'
  | .ex e M => ∀ cls dd H' ρ', RSt p H' ρ' M → Gr H ρ H' ρ' → Rx p H' ρ' cls dd e → E cls dd H'
  | .bad => False
abbrev RD (p : Pm) : Hp → List Addr → V → D → Prop := fun H ρ v d => Rv p H ρ v d
abbrev RDs (p : Pm) : Hp → List Addr → List V → List D → Prop := fun H ρ v d => RvL p H ρ v d
abbrev RB : Hp → List Addr → Bool → Bool → Prop := fun _ _ a b => a = b
section
variable {α β γ δ : Type} {R : Hp → List Addr → β → α → Prop} {R' : Hp → List Addr → δ → γ → Prop} {p : Pm} {H H1 : Hp} {ρ ρ1 : List Addr} {o : Out α} {k : α → Store → Out γ} {Q Q' : β → Hp → Prop} {Q2 : δ → Hp → Prop} {E E' : XK}
theorem post.mono (h : post R p H ρ o Q E) (f : ∀ b H', Q b H' → Q' b H') : post R p H ρ o Q' E := by
  cases o with
  | ok a M => exact fun b H' ρ' s g q => f _ _ (h b H' ρ' s g q)
  | ex e M => exact h
  | bad => exact h
theorem post.later (h : post R p H ρ o Q E) (g : Gr H ρ H1 ρ1) : post R p H1 ρ1 o Q E := by
  cases o with
  | ok a M => exact fun b H' ρ' s g' q => h b H' ρ' s (g.trans g') q
  | ex x M => exact fun c d H' ρ' s g' q => h c d H' ρ' s (g.trans g') q
  | bad => exact h
theorem post.bind (h : post R' p H ρ (o.bind k) Q2 E) : post R p H ρ o (fun b H1 => ∃ ρ1 M1 a, RSt p H1 ρ1 M1 ∧ Gr H ρ H1 ρ1 ∧ R H1 ρ1 b a ∧ post R' p H1 ρ1 (k a M1) Q2 E) E := by
  cases o with
  | ok a M => exact fun b H1 ρ1 s g q => ⟨ρ1, M, a, s, g, q, post.later (o := k a M) h g⟩
  | ex x M => exact h
  | bad => exact h
end

/-- the slots -/
structure RSl (p : Pm) (H : Hp) (ρ : List Addr) (σ : St) (ds : Env) : Prop where
  len : ds.length = σ.length
  at_ : ∀ (i : Nat) (d : D), ds[i]? = some (some d) → ∃ v, σ[i]? = some (some v) ∧ Rv p H ρ v d
theorem RSl.ext {p : Pm} {H H' : Hp} {ρ ρ' : List Addr} {σ : St} {ds : Env} (s : RSl p H ρ σ ds) (e : Ext H H') (r : Pre ρ ρ') : RSl p H' ρ' σ ds :=
  ⟨s.len, fun i d h => let ⟨v, h1, h2⟩ := s.at_ i d h; ⟨v, h1, Rv.ext e r _ _ h2⟩⟩
theorem RSl.gr {p : Pm} {H H' : Hp} {ρ ρ' : List Addr} {σ : St} {ds : Env} (s : RSl p H ρ σ ds) (g : Gr H ρ H' ρ') : RSl p H' ρ' σ ds := s.ext g.ext g.pre
theorem RSl.set {p : Pm} {H : Hp} {ρ : List Addr} {σ : St} {ds : Env} (s : RSl p H ρ σ ds) (i : Nat) {v : V} {d : D} (r : Rv p H ρ v d) : RSl p H ρ (σ.set i (some v)) (ds.set i (some d)) := by
  refine ⟨by simp [s.len], fun j e h => ?_⟩
  by_cases hj : j = i
  · subst hj
    have hlt : j < ds.length := by
      have := (List.getElem?_eq_some_iff.mp h).1
      simpa using this
    rw [List.getElem?_set_self hlt] at h
    cases h
    exact ⟨v, List.getElem?_set_self (by rw [← s.len]; exact hlt), r⟩
  · rw [List.getElem?_set_ne (Ne.symm hj)] at h
    obtain ⟨w, h1, h2⟩ := s.at_ j e h
    exact ⟨w, by rw [List.getElem?_set_ne (Ne.symm hj)]; exact h1, h2⟩
theorem RSl.wipe1 {p : Pm} {H : Hp} {ρ : List Addr} {σ : St} {ds : Env} (s : RSl p H ρ σ ds) (i : Nat) : RSl p H ρ (σ.set i none) (ds.set i none) := by
  refine ⟨by simp [s.len], fun j e h => ?_⟩
  by_cases hj : j = i
  · subst hj
    have hlt : j < ds.length := by
      have := (List.getElem?_eq_some_iff.mp h).1
      simpa using this
    rw [List.getElem?_set_self hlt] at h
    cases h
  · rw [List.getElem?_set_ne (Ne.symm hj)] at h
    obtain ⟨w, h1, h2⟩ := s.at_ j e h
    exact ⟨w, by rw [List.getElem?_set_ne (Ne.symm hj)]; exact h1, h2⟩
theorem RSl.wipe {p : Pm} {H : Hp} {ρ : List Addr} : ∀ {vs : List Nat} {σ : St} {ds : Env}, RSl p H ρ σ ds → RSl p H ρ (L2.wipe σ vs) (wipeD ds vs)
  | [], _, _, s => s
  | i :: r, _, _, s => (RSl.wipe (vs := r) s).wipe1 i
/-- readings -/
def rE (p : Pm) (W : WX) (f : Env → Store → Out D) : TE := fun σ H Q => ∃ ρ M ds, RSl p H ρ σ ds ∧ RSt p H ρ M ∧ post (RD p) p H ρ (f ds M) Q (WE W σ)
def rT (p : Pm) (W : WX) (f : Env → Store → Out Bool) : TT := fun σ H Q => ∃ ρ M ds, RSl p H ρ σ ds ∧ RSt p H ρ M ∧ post RB p H ρ (f ds M) Q (WE W σ)
def rA (p : Pm) (W : WX) (f : Env → Store → Out (List D)) : TA := fun σ H Q => ∃ ρ M ds, RSl p H ρ σ ds ∧ RSt p H ρ M ∧ post (RDs p) p H ρ (f ds M) Q (WE W σ)
/-- a def's promise from what it answers -/
def spM (p : Pm) (n : Nat) (f : List D → Store → Out D) : Sp := fun vs H Q E => ∃ ρ M ds, vs.length = n ∧ RvL p H ρ vs ds ∧ RSt p H ρ M ∧ post (RD p) p H ρ (f ds M) Q E
end BH
end

section
set_option Elab.async false
set_option linter.all false
set_option maxRecDepth 100000
set_option maxHeartbeats 1000000
/-! The operations on data are those of the model. -/
namespace BH
open PySem PySem.Spec L2

section
variable {p : Pm} {H : Hp} {ρ : List Addr} {M : Store}
theorem post.ok {β : Type} {α : Type} {R : Hp → List Addr → β → α → Prop} {a : α} {b : β} {Q : β → Hp → Prop} {E : XK} (h : post R p H ρ (.ok a M) Q E) (s : RSt p H ρ M) (r : R H ρ b a) : Q b H :=
  h b H ρ s (.refl _ _) r
theorem szl_eq : szl = sizeLine := by rw [sizeLine_eq]; rfl
theorem newL_ok {vs : List V} {ds : List D} {Q : VK} {E : XK} (s : RSt p H ρ M) (r : RvL p H ρ vs ds) (h : post (RD p) p H ρ (newL M ds) Q E) :
    vs.length ≤ sizeLine ∧ ∀ q, H q = none → Q (.ref q) (upd H q (.lst vs)) := by
  unfold newL at h
  by_cases hz : ds.length ≤ szl
  · rw [if_pos hz] at h
    refine ⟨by rw [r.length, ← szl_eq]; exact hz, fun q hq => ?_⟩
    have e : Ext H (upd H q (.lst vs)) := .new hq
    refine h _ _ (ρ ++ [q]) (s.push hq ⟨vs, upd_same, RvL.ext e (.push _ _) _ _ r⟩) (.push hq) (.ll ?_ ⟨vs, upd_same⟩)
    rw [← s.len, List.getElem?_append_right (Nat.le_refl _)]
    simp
  · rw [if_neg hz] at h
    exact h.elim
theorem lst_of {l : Nat} {ds : List D} {v : V} (s : RSt p H ρ M) (r : Rv p H ρ v (.ll l)) (h : M[l]? = some (.lst ds)) : ∃ a vs, v = .ref a ∧ ρ[l]? = some a ∧ H a = some (.lst vs) ∧ RvL p H ρ vs ds := by
  cases r with
  | ll h1 h2 =>
    obtain ⟨vs, h3, h4⟩ := s.get h1 h
    exact ⟨_, vs, rfl, h1, h3, h4⟩
theorem dk_of {l : Nat} {ds : List (Ky × D)} {v : V} (s : RSt p H ρ M) (r : Rv p H ρ v (.dl l)) (h : M[l]? = some (.dk ds)) : ∃ a vs, v = .ref a ∧ ρ[l]? = some a ∧ H a = some (.dK vs) ∧
    PySem.Paired (fun (x : Key × V) (y : Ky × D) => x.1 = y.1 ∧ Rv p H ρ x.2 y.2) vs ds := by
  cases r with
  | dl h1 h2 =>
    obtain ⟨vs, h3, h4⟩ := s.get h1 h
    exact ⟨_, vs, rfl, h1, h3, h4⟩
theorem setL_ok {l : Nat} {a : Addr} {xs vs : List V} {ds : List D} {v : V} {d : D} {Q : VK} {E : XK} (s : RSt p H ρ M) (h1 : ρ[l]? = some a) (h2 : H a = some (.lst xs)) (r : RvL p H ρ vs ds)
    (rv : ∀ H', Ext H H' → Rv p H' ρ v d) (h : post (RD p) p H ρ (.ok d (M.set l (.lst ds))) Q E) : Q v (upd H a (.lst vs)) := by
  have e : Ext H (upd H a (.lst vs)) := .setL h2
  exact h _ _ ρ (s.upd h1 e ⟨vs, upd_same, RvL.ext e (.refl _) _ _ r⟩) (.set h1 e) (rv _ e)

/-! ### data read as a whole -/
mutual
theorem res_dp (s : RSt p H ρ M) : ∀ (n : Nat) (d : D) (v : V) (x : PyData), res n M d = some x → Rv p H ρ v d → Dp p.K H v x
  | 0, _, _, _, h, _ => by simp [res] at h
  | n + 1, .non, _, _, h, r => by cases r; simp only [res, Option.some.injEq] at h; subst h; exact .non
  | n + 1, .bl b, _, _, h, r => by cases r; simp only [res, Option.some.injEq] at h; subst h; exact .bl b
  | n + 1, .int b, _, _, h, r => by cases r; simp only [res, Option.some.injEq] at h; subst h; exact .int b
  | n + 1, .str b, _, _, h, r => by cases r; simp only [res, Option.some.injEq] at h; subst h; exact .str b
  | n + 1, .tup ds, _, _, h, r => by
    cases r with
    | tup h1 h2 =>
      simp only [res] at h
      cases e : mapO (res n M) ds with
      | none => rw [e] at h; cases h
      | some xs =>
        rw [e] at h
        cases h
        exact .tup h1 (res_all s n ds _ xs e h2)
  | n + 1, .ll l, _, _, h, r => by
    simp only [res] at h
    cases e : M[l]? with
    | none => rw [e] at h; cases h
    | some mo =>
      rw [e] at h
      cases mo with
      | lst ds =>
        obtain ⟨a, vs, rfl, h1, h2, h3⟩ := lst_of s r e
        simp only at h
        cases e2 : mapO (res n M) ds with
        | none => rw [e2] at h; cases h
        | some xs =>
          rw [e2] at h
          cases h
          exact .lst (.of h2) (res_all s n ds _ xs e2 h3)
      | dk _ => cases h
      | ins _ _ => cases h
  | n + 1, .dl _, _, _, h, _ => by simp [res] at h
  | n + 1, .ol _ _, _, _, h, _ => by simp [res] at h
  | n + 1, .fn _, _, _, h, _ => by simp [res] at h
  | n + 1, .lsf _, _, _, h, _ => by simp [res] at h
theorem res_all (s : RSt p H ρ M) : ∀ (n : Nat) (ds : List D) (vs : List V) (xs : List PyData), mapO (res n M) ds = some xs → RvL p H ρ vs ds → DpAll p.K H vs xs
  | _, [], _, _, h, r => by cases r; simp only [mapO, Option.some.injEq] at h; subst h; exact .nil
  | n, d :: ds, _, _, h, r => by
    cases r with
    | cons r1 r2 =>
      simp only [mapO] at h
      split at h
      · rename_i y ys e1 e2
        cases h
        exact .cons (res_dp s n d _ y e1 r1) (res_all s n ds _ ys e2 r2)
      · cases h
end
theorem outB_ok {o : Option Bool} {Q : VK} {E : XK} (s : RSt p H ρ M) (h : post (RD p) p H ρ (outB M o) Q E) : ∃ b, o = some b ∧ Q (.bl b) H := by
  cases o with
  | none => exact h.elim
  | some b => exact ⟨b, rfl, post.ok (a := D.bl b) h s (.bl b)⟩
theorem eqD_ok {a b : D} {c : Bool} (h : eqD M a b = some c) : ∃ x y, res 66 M a = some x ∧ res 66 M b = some y ∧ SeqAt.shaped x = true ∧ SeqAt.shaped y = true ∧ c = PyData.eqv x y := by
  unfold eqD at h
  split at h
  · rename_i x y e1 e2
    by_cases hs : (shp x && shp y) = true
    · rw [if_pos hs] at h
      cases h
      obtain ⟨h1, h2⟩ := Bool.and_eq_true_iff.mp hs
      exact ⟨x, y, e1, e2, h1, h2, rfl⟩
    · rw [if_neg hs] at h; cases h
  · cases h

/-! ### operators -/
def rOp (p : Pm) (E : XK) (f : D → D → Store → Out D) : R2 := fun x y H Q => ∃ ρ M d1 d2, RSt p H ρ M ∧ Rv p H ρ x d1 ∧ Rv p H ρ y d2 ∧ post (RD p) p H ρ (f d1 d2 M) Q E
end

section
variable {X : Cx} {p : Pm} {E : XK}
theorem big_ok {i j : Int} (h : (big i || big j) = true) : CMul i j := by
  rcases Bool.or_eq_true_iff.mp h with h | h
  · obtain ⟨h1, h2⟩ := Bool.and_eq_true_iff.mp h
    exact .inl ⟨of_decide_eq_true h1, of_decide_eq_true h2⟩
  · obtain ⟨h1, h2⟩ := Bool.and_eq_true_iff.mp h
    exact .inr ⟨of_decide_eq_true h1, of_decide_eq_true h2⟩
theorem rvl_nil {H : Hp} {ρ : List Addr} {ds : List D} (r : RvL p H ρ [] ds) : ds = [] := by cases r; rfl
theorem rvl_nil' {H : Hp} {ρ : List Addr} {vs : List V} (r : RvL p H ρ vs []) : vs = [] := by cases r; rfl
theorem op_bin (hK : X.K = p.K) (op : Operator) : OpR X (binaryOp op) (rOp p E (binD op)) := by
  intro pins s σ H x y v u Q I rx ry h
  obtain ⟨ρ, M, d1, d2, st, r1, r2, h⟩ := h
  unfold binD at h
  split at h
  next i j =>
    cases r1; cases r2
    exact op_add pins s σ H _ _ v u Q I rx ry ⟨i, j, rfl, rfl, post.ok (a := D.int (i + j)) h st (.int _)⟩
  next a b =>
    cases r1; cases r2
    by_cases hz : a.length + b.length ≤ szl
    · rw [if_pos hz] at h
      exact op_add_str pins s σ H _ _ v u Q I rx ry ⟨a, b, rfl, rfl, by rw [← szl_eq]; exact hz, post.ok (a := D.str (a ++ b)) h st (.str _)⟩
    · rw [if_neg hz] at h; exact h.elim
  next a b =>
    by_cases hz : a.length + b.length ≤ szl
    · rw [if_pos hz] at h
      cases r1 with
      | tup h1 l1 =>
        cases r2 with
        | tup h2 l2 =>
          rename_i a1 vs a2 ws
          refine op_catA pins s σ H _ _ v u Q I rx ry ⟨a1, a2, vs, ws, rfl, rfl, by rw [hK]; exact h1, by rw [hK]; exact h2, by rw [l1.length, l2.length, ← szl_eq]; exact hz, fun e => ?_, fun _ e => ?_, fun _ _ q hq => ?_⟩
          · subst e
            have := rvl_nil l1
            subst this
            exact post.ok (a := D.tup b) h st (.tup h2 l2)
          · subst e
            have := rvl_nil l2
            subst this
            rw [List.append_nil] at h
            exact post.ok (a := D.tup a) h st (.tup h1 l1)
          · have e : Ext H (upd H q (.tup (vs ++ ws))) := .new hq
            exact h _ _ ρ (st.grow hq) (.new hq) (.tup (.of upd_same) (RvL.ext e (.refl _) _ _ (l1.append l2)))
    · rw [if_neg hz] at h; exact h.elim
  next a b =>
    split at h
    next xs ys e1 e2 =>
      obtain ⟨a1, vs, rfl, g1, g2, g3⟩ := lst_of st r1 e1
      obtain ⟨a2, ws, rfl, k1, k2, k3⟩ := lst_of st r2 e2
      obtain ⟨hz, hq⟩ := newL_ok st (g3.append k3) h
      exact op_cat pins s σ H _ _ v u Q I rx ry ⟨a1, a2, vs, ws, rfl, rfl, g2, k2, by rw [← List.length_append]; exact hz, hq⟩
    next => exact h.elim
  next i j =>
    cases r1; cases r2
    exact op_sub pins s σ H _ _ v u Q I rx ry ⟨i, j, rfl, rfl, post.ok (a := D.int (i - j)) h st (.int _)⟩
  next i j =>
    cases r1; cases r2
    by_cases hz : (big i || big j) = true
    · rw [if_pos hz] at h
      exact op_mul pins s σ H _ _ v u Q I rx ry ⟨i, j, rfl, rfl, big_ok hz, post.ok (a := D.int (i * j)) h st (.int _)⟩
    · rw [if_neg hz] at h; exact h.elim
  next a k =>
    split at h
    next xs e1 =>
      obtain ⟨a1, vs, rfl, g1, g2, g3⟩ := lst_of st r1 e1
      cases r2
      by_cases hz : 0 ≤ k ∧ k ≤ 1000 ∧ xs.length ≤ 1000
      · rw [if_pos hz] at h
        obtain ⟨_, hq⟩ := newL_ok st (g3.rep k.toNat) h
        have hl := g3.length
        refine op_rep pins s σ H _ _ v u Q I rx ry ⟨a1, k, vs, rfl, rfl, g2, by omega, by omega, ?_, hq⟩
        have h1 : k.toNat ≤ 1000 := by omega
        have h2 : vs.length ≤ 1000 := by omega
        have := Nat.mul_le_mul h2 h1
        rw [sizeLine_eq]; omega
      · rw [if_neg hz] at h; exact h.elim
    next => exact h.elim
  next xs k =>
    by_cases hz : xs ≠ [] ∧ 2 ≤ k ∧ k ≤ 1000 ∧ xs.length ≤ 1000
    · rw [if_pos hz] at h
      cases r2
      cases r1 with
      | tup h1 l1 =>
        rename_i a1 vs
        refine op_repT pins s σ H _ _ v u Q I rx ry ⟨a1, k, vs, rfl, rfl, by rw [hK]; exact h1, fun e => hz.1 (by subst e; exact rvl_nil l1), hz.2.1, hz.2.2.1, by rw [l1.length]; exact hz.2.2.2, fun q hq => ?_⟩
        have e : Ext H (upd H q (.tup (List.replicate k.toNat vs).flatten)) := .new hq
        exact h _ _ ρ (st.grow hq) (.new hq) (.tup (.of upd_same) (RvL.ext e (.refl _) _ _ (l1.rep k.toNat)))
    · rw [if_neg hz] at h; exact h.elim
  next i j =>
    cases r1; cases r2
    by_cases hz : 0 < j ∧ j < 1073741824
    · rw [if_pos hz] at h
      exact op_fdiv pins s σ H _ _ v u Q I rx ry ⟨i, j, rfl, rfl, hz, post.ok (a := D.int (i / j)) h st (.int _)⟩
    · rw [if_neg hz] at h; exact h.elim
  next i j =>
    cases r1; cases r2
    by_cases hz : 0 < j
    · rw [if_pos hz] at h
      exact op_mod pins s σ H _ _ v u Q I rx ry ⟨i, j, rfl, rfl, hz, post.ok (a := D.int (i % j)) h st (.int _)⟩
    · rw [if_neg hz] at h; exact h.elim
  next i j =>
    cases r1; cases r2
    by_cases hz : 0 ≤ j ∧ j ≤ 1000000 ∧ i.natAbs < 2 ^ 64
    · rw [if_pos hz] at h
      exact op_pow pins s σ H _ _ v u Q I rx ry ⟨i, j, rfl, rfl, hz, post.ok (a := D.int (i ^ j.toNat)) h st (.int _)⟩
    · rw [if_neg hz] at h; exact h.elim
  next => exact h.elim

theorem cmpI_ok {q : Int → Int → Bool} {f : Value → Value → Sem Value} (ho : OpR X f (rI0 fun i j => .bl (q i j))) : OpR X f (rOp p E (cmpI q)) := by
  intro pins s σ H x y v u Q I rx ry h
  obtain ⟨ρ, M, d1, d2, st, r1, r2, h⟩ := h
  unfold cmpI at h
  split at h
  · rename_i i j
    cases r1; cases r2
    exact ho pins s σ H _ _ v u Q I rx ry ⟨i, j, rfl, rfl, post.ok (a := D.bl (q i j)) h st (.bl _)⟩
  · exact h.elim
theorem shp_plain {d : PyData} (h : SeqAt.shaped d = true) : d.plain = true := PyData.plain_of_canLay0 d (SeqAt.canLay_of_shaped h)
theorem room_in {A : Around} {d : PyData} {n : Nat} (h : SeqAt.shaped d = true) (hu : A.units + 65 < cLine) : A.units + 1 + min n d.depth < cLine := by
  have h1 := SeqAt.depth_of_shaped h
  omega
theorem op_inT (hu : X.A.units + 65 < cLine) : OpR X (compareOp .In) (fun x y H Q => ∃ d ys, Dp X.K H x d ∧ Dp X.K H y (.tuple ys) ∧ SeqAt.shaped d = true ∧ SeqAt.shaped (.tuple ys) = true ∧ Q (.bl (ys.any fun z => PyData.eqv z d)) H) := by
  intro pins s σ H x y v u Q I rx ry h
  obtain ⟨d, ys, hd, hy, s1, s2, q⟩ := h
  obtain ⟨as, r1⟩ := Dp.reads I d x v hd rx
  obtain ⟨bs, r2⟩ := Dp.reads I (.tuple ys) y u hy ry
  have p2 := shp_plain s2
  exact SeqAt.in_tuple_data r2 r1 (by simpa [PyData.plain] using p2) (shp_plain s1) (room_in s1 hu) ⟨.bl _, H, I, rfl, q⟩
theorem op_notInT (hu : X.A.units + 65 < cLine) : OpR X (compareOp .NotIn) (fun x y H Q => ∃ d ys, Dp X.K H x d ∧ Dp X.K H y (.tuple ys) ∧ SeqAt.shaped d = true ∧ SeqAt.shaped (.tuple ys) = true ∧ Q (.bl (!ys.any fun z => PyData.eqv z d)) H) := by
  intro pins s σ H x y v u Q I rx ry h
  obtain ⟨d, ys, hd, hy, s1, s2, q⟩ := h
  obtain ⟨as, r1⟩ := Dp.reads I d x v hd rx
  obtain ⟨bs, r2⟩ := Dp.reads I (.tuple ys) y u hy ry
  have p2 := shp_plain s2
  exact SeqAt.notIn_tuple_data r2 r1 (by simpa [PyData.plain] using p2) (shp_plain s1) (room_in s1 hu) ⟨.bl _, H, I, rfl, q⟩
theorem inD_ok {M : Store} {a b : D} {c : Bool} (h : inD M a b = some c) : ∃ x ys, res 66 M a = some x ∧ SeqAt.shaped x = true ∧ c = (ys.any fun z => PyData.eqv z x) ∧
    ((res 66 M b = some (.tuple ys) ∧ SeqAt.shaped (.tuple ys) = true) ∨ (res 66 M b = some (.list ys) ∧ SeqAt.shaped (.list ys) = true)) := by
  unfold inD at h
  split at h
  next x ys e1 e2 =>
    by_cases hs : (shp x && shp (.tuple ys)) = true
    · rw [if_pos hs] at h
      cases h
      obtain ⟨h1, h2⟩ := Bool.and_eq_true_iff.mp hs
      exact ⟨x, ys, e1, h1, rfl, .inl ⟨e2, h2⟩⟩
    · rw [if_neg hs] at h; cases h
  next x ys e1 e2 =>
    by_cases hs : (shp x && shp (.list ys)) = true
    · rw [if_pos hs] at h
      cases h
      obtain ⟨h1, h2⟩ := Bool.and_eq_true_iff.mp hs
      exact ⟨x, ys, e1, h1, rfl, .inr ⟨e2, h2⟩⟩
    · rw [if_neg hs] at h; cases h
  next => cases h
theorem rv_non {H : Hp} {ρ : List Addr} {x : V} {d : D} (r : Rv p H ρ x d) (h : d ≠ .non) : decide (x = .non) = false := by
  cases r <;> first
    | exact absurd rfl h
    | exact decide_eq_false (fun z => by cases z)
theorem op_cmp (hK : X.K = p.K) (hu : X.A.units + 65 < cLine) (op : CmpOp) : OpR X (compareOp op) (rOp p E (cmpD op)) := by
  cases op with
  | Lt => exact cmpI_ok op_lt
  | LtE => exact cmpI_ok op_le
  | Gt => exact cmpI_ok op_gt
  | GtE => exact cmpI_ok op_ge
  | Eq =>
    intro pins s σ H x y v u Q I rx ry h
    obtain ⟨ρ, M, d1, d2, st, r1, r2, h⟩ := h
    obtain ⟨b, e, q⟩ := outB_ok st h
    obtain ⟨x1, y1, e1, e2, s1, s2, rfl⟩ := eqD_ok e
    exact op_eqD (by omega) pins s σ H x y v u Q I rx ry ⟨x1, y1, by rw [hK]; exact res_dp st _ _ _ _ e1 r1, by rw [hK]; exact res_dp st _ _ _ _ e2 r2, s1, s2, q⟩
  | NotEq =>
    intro pins s σ H x y v u Q I rx ry h
    obtain ⟨ρ, M, d1, d2, st, r1, r2, h⟩ := h
    obtain ⟨b, e, q⟩ := outB_ok st h
    obtain ⟨c, e3, rfl⟩ := Option.map_eq_some_iff.mp e
    obtain ⟨x1, y1, e1, e2, s1, s2, rfl⟩ := eqD_ok e3
    exact op_neD (by omega) pins s σ H x y v u Q I rx ry ⟨x1, y1, by rw [hK]; exact res_dp st _ _ _ _ e1 r1, by rw [hK]; exact res_dp st _ _ _ _ e2 r2, s1, s2, q⟩
  | In =>
    intro pins s σ H x y v u Q I rx ry h
    obtain ⟨ρ, M, d1, d2, st, r1, r2, h⟩ := h
    obtain ⟨b, e, q⟩ := outB_ok st h
    obtain ⟨x1, ys, e1, s1, rfl, ⟨e2, s2⟩ | ⟨e2, s2⟩⟩ := inD_ok e
    · exact op_inT hu pins s σ H x y v u Q I rx ry ⟨x1, ys, by rw [hK]; exact res_dp st _ _ _ _ e1 r1, by rw [hK]; exact res_dp st _ _ _ _ e2 r2, s1, s2, q⟩
    · exact op_inD hu pins s σ H x y v u Q I rx ry ⟨x1, ys, by rw [hK]; exact res_dp st _ _ _ _ e1 r1, by rw [hK]; exact res_dp st _ _ _ _ e2 r2, s1, s2, q⟩
  | NotIn =>
    intro pins s σ H x y v u Q I rx ry h
    obtain ⟨ρ, M, d1, d2, st, r1, r2, h⟩ := h
    obtain ⟨b, e, q⟩ := outB_ok st h
    obtain ⟨c, e3, rfl⟩ := Option.map_eq_some_iff.mp e
    obtain ⟨x1, ys, e1, s1, rfl, ⟨e2, s2⟩ | ⟨e2, s2⟩⟩ := inD_ok e3
    · exact op_notInT hu pins s σ H x y v u Q I rx ry ⟨x1, ys, by rw [hK]; exact res_dp st _ _ _ _ e1 r1, by rw [hK]; exact res_dp st _ _ _ _ e2 r2, s1, s2, q⟩
    · exact op_notInD hu pins s σ H x y v u Q I rx ry ⟨x1, ys, by rw [hK]; exact res_dp st _ _ _ _ e1 r1, by rw [hK]; exact res_dp st _ _ _ _ e2 r2, s1, s2, q⟩
  | Is =>
    intro pins s σ H x y v u Q I rx ry h
    obtain ⟨ρ, M, d1, d2, st, r1, r2, h⟩ := h
    simp only [cmpD] at h
    split at h
    next =>
      cases r1; cases r2
      exact op_isN pins s σ H _ _ v u Q I rx ry ⟨rfl, post.ok (a := D.bl true) h st (.bl _)⟩
    next hn =>
      cases r2
      exact op_isN pins s σ H _ _ v u Q I rx ry ⟨rfl, by rw [rv_non r1 hn]; exact post.ok (a := D.bl false) h st (.bl _)⟩
    next => exact h.elim
  | IsNot =>
    intro pins s σ H x y v u Q I rx ry h
    obtain ⟨ρ, M, d1, d2, st, r1, r2, h⟩ := h
    simp only [cmpD] at h
    split at h
    next =>
      cases r1; cases r2
      exact op_notN pins s σ H _ _ v u Q I rx ry ⟨rfl, post.ok (a := D.bl false) h st (.bl _)⟩
    next hn =>
      cases r2
      exact op_notN pins s σ H _ _ v u Q I rx ry ⟨rfl, by rw [rv_non r1 hn]; exact post.ok (a := D.bl true) h st (.bl _)⟩
    next => exact h.elim

/-! ### truth, minus -/
theorem tru_of {H : Hp} {ρ : List Addr} {M : Store} {x : V} {d : D} {k : Bool} (hK : X.K = p.K) (st : RSt p H ρ M) (r : Rv p H ρ x d) (h : tru M d = some k) : TruV X.K x H k := by
  unfold tru at h
  split at h
  next => cases r; cases h; exact rfl
  next b => cases r; cases h; exact rfl
  next i => cases r; cases h; exact rfl
  next z =>
    cases r
    by_cases hz : z.length ≤ szl
    · rw [if_pos hz] at h
      cases h
      exact ⟨by rw [← szl_eq]; exact hz, rfl⟩
    · rw [if_neg hz] at h; cases h
  next ds =>
    cases h
    cases r with
    | tup h1 h2 =>
      rename_i a vs
      refine .inr (.inl ⟨vs, by rw [hK]; exact h1, ?_⟩)
      have := h2.length
      cases vs <;> cases ds <;> first | rfl | (simp at this)
  next l =>
    split at h
    next ds e =>
      cases h
      obtain ⟨a, vs, rfl, h1, h2, h3⟩ := lst_of st r e
      refine .inl ⟨vs, .of h2, ?_⟩
      have := h3.length
      cases vs <;> cases ds <;> first | rfl | (simp at this)
    next => cases h
  next => cases h
theorem un_neg' : UnR X (unaryOp .USub) (fun x H Q => ∃ ρ M d, RSt p H ρ M ∧ Rv p H ρ x d ∧ post (RD p) p H ρ (negD d M) Q E) := by
  intro pins s σ H x v Q I rx h
  obtain ⟨ρ, M, d, st, r, h⟩ := h
  unfold negD at h
  split at h
  next i =>
    cases r
    exact un_neg pins s σ H _ v Q I rx ⟨i, rfl, post.ok (a := D.int (-i)) h st (.int _)⟩
  next => exact h.elim
end
end BH
end

section
set_option Elab.async false
set_option linter.all false
set_option maxRecDepth 100000
set_option maxHeartbeats 1000000
namespace BH
open PySem PySem.Spec L2
section
variable {X : Cx} {p : Pm} {E : XK}

theorem tru_ok' (hK : X.K = p.K) : TruR X (fun x H Q => ∃ ρ M d, RSt p H ρ M ∧ Rv p H ρ x d ∧ post RB p H ρ (truO d M) Q E) := by
  intro pins s σ H x v Q I rx h
  obtain ⟨ρ, M, d, st, r, h⟩ := h
  unfold truO at h
  split at h
  next b e => exact tru_ok pins s σ H x v Q I rx ⟨b, tru_of hK st r e, post.ok (a := b) (R := RB) h st rfl⟩
  next => exact h.elim

/-! ### xs[i] -/
theorem atI_len {α β : Type} {xs : List α} {ys : List β} {i : Int} {v : α} (hl : ys.length = xs.length) (h : atI xs i = some v) : ∃ j : Nat, ixN xs.length i = some j ∧ ixN ys.length i = some j ∧ xs[j]? = some v := by
  unfold atI at h
  cases e : ixN xs.length i with
  | none => rw [e] at h; cases h
  | some j => rw [e] at h; exact ⟨j, rfl, by rw [hl, e], h⟩
theorem atI_rv {H : Hp} {ρ : List Addr} {vs : List V} {ds : List D} {i : Int} {d : D} (r : RvL p H ρ vs ds) (h : atI ds i = some d) : ∃ v, atI vs i = some v ∧ Rv p H ρ v d := by
  obtain ⟨j, e1, e2, e3⟩ := atI_len r.length h
  obtain ⟨v, h1, h2⟩ := r.get e3
  exact ⟨v, by unfold atI; rw [e2]; exact h1, h2⟩
theorem ix_sub (hK : X.K = p.K) : IxR X (rOp p E subD) := by
  intro value slice pins s σ H x y v u Q I rx ry h hs
  obtain ⟨ρ, M, d1, d2, st, r1, r2, h⟩ := h
  unfold subD at h
  split at h
  next xs i =>
    split at h
    next d e =>
      cases r2
      cases r1 with
      | tup h1 l1 =>
        rename_i a vs
        obtain ⟨w, e1, rw1⟩ := atI_rv l1 e
        exact ix_tup value slice pins s σ H _ _ v u Q I rx ry ⟨a, vs, i, w, rfl, rfl, by rw [hK]; exact h1, e1, post.ok h st rw1⟩ hs
    next => exact h.elim
  next xs i =>
    split at h
    next d e =>
      cases r2
      cases r1 with
      | lsf h1 l1 =>
        rename_i a vs
        obtain ⟨w, e1, rw1⟩ := atI_rv l1 e
        exact ix_list value slice pins s σ H _ _ v u Q I rx ry ⟨a, vs, i, w, rfl, rfl, by rw [hK]; exact h1.sq, e1, post.ok h st rw1⟩ hs
    next => exact h.elim
  next l i =>
    split at h
    next xs e0 =>
      split at h
      next d e =>
        cases r2
        obtain ⟨a, vs, rfl, g1, g2, g3⟩ := lst_of st r1 e0
        obtain ⟨w, e1, rw1⟩ := atI_rv g3 e
        exact ix_list value slice pins s σ H _ _ v u Q I rx ry ⟨a, vs, i, w, rfl, rfl, .of g2, e1, post.ok h st rw1⟩ hs
      next => exact h.elim
    next => exact h.elim
  next z i =>
    by_cases hz : z.length ≤ szl
    · rw [if_pos hz] at h
      split at h
      next c e =>
        cases r1; cases r2
        exact ix_str value slice pins s σ H _ _ v u Q I rx ry ⟨z, i, c, rfl, rfl, by rw [← szl_eq]; exact hz, e, post.ok h st (.str _)⟩ hs
      next => exact h.elim
    · rw [if_neg hz] at h; exact h.elim
  next => exact h.elim

/-! ### xs[lo:hi] -/
theorem cut_rv {H : Hp} {ρ : List Addr} {vs : List V} {ds : List D} (lo hi : Option Int) (r : RvL p H ρ vs ds) : RvL p H ρ (cutV vs lo hi) (cutD ds lo hi) := by
  unfold cutV cutD
  rw [r.length]
  exact (r.drop _).take _
def rSlD (p : Pm) (E : XK) : V → Option Int → Option Int → Hp → VK → Prop := fun x lo hi H Q => ∃ ρ M d, RSt p H ρ M ∧ Rv p H ρ x d ∧ post (RD p) p H ρ (slcD d lo hi M) Q E
theorem sl_sub (hK : X.K = p.K) : SlR X (rSlD p E) := by
  intro pins s σ H x v vl vu lo hi sl Q I rx hs pl pu h
  obtain ⟨ρ, M, d, st, r, h⟩ := h
  unfold slcD at h
  split at h
  next xs =>
    cases r with
    | tup h1 l1 =>
      rename_i a vs
      refine sl_tupA pins s σ H _ v vl vu lo hi sl Q I rx hs pl pu ⟨a, vs, rfl, by rw [hK]; exact h1, fun hw => ?_, fun hw q hq => ?_⟩
      · have e : cutD xs lo hi = xs := by
          unfold cutD
          have hl := l1.length
          rw [← hl, hw.1, hw.2]
          simp [hl]
        rw [e] at h
        exact post.ok h st (.tup h1 l1)
      · have e : Ext H (upd H q (.tup (cutV vs lo hi))) := .new hq
        exact h _ _ ρ (st.grow hq) (.new hq) (.tup (.of upd_same) (RvL.ext e (.refl _) _ _ (cut_rv lo hi l1)))
  next l =>
    split at h
    next xs e0 =>
      obtain ⟨a, vs, rfl, g1, g2, g3⟩ := lst_of st r e0
      obtain ⟨_, hq⟩ := newL_ok st (cut_rv lo hi g3) h
      exact sl_list pins s σ H _ v vl vu lo hi sl Q I rx hs pl pu ⟨a, vs, rfl, .of g2, hq⟩
    next => exact h.elim
  next z =>
    by_cases hz : z.length ≤ szl
    · rw [if_pos hz] at h
      cases r
      exact C8.sl_txt pins s σ H _ v vl vu lo hi sl Q I rx hs pl pu ⟨z, rfl, by rw [← szl_eq]; exact hz, post.ok h st (.str _)⟩
    · rw [if_neg hz] at h; exact h.elim
  next => exact h.elim

/-! ### xs[i] = v -/
def rSet (p : Pm) (E : XK) : V → V → V → Hp → (Hp → Prop) → Prop := fun o i v H Q => ∃ ρ M d1 d2 d3, RSt p H ρ M ∧ Rv p H ρ o d1 ∧ Rv p H ρ i d2 ∧ Rv p H ρ v d3 ∧
  post (fun _ _ (_ : Unit) (_ : Unit) => True) p H ρ (setD d1 d2 d3 M) (fun _ H' => Q H') E
theorem ky_of {H : Hp} {ρ : List Addr} {x : V} {d : D} {k : Ky} (r : Rv p H ρ x d) (h : kyD d = some k) : x = kV k := by
  cases r <;> simp only [kyD, Option.some.injEq] at h <;> first
    | (subst h; rfl)
    | cases h
theorem pk_any {H : Hp} {ρ : List Addr} {k : Ky} : ∀ {kv : List (Key × V)} {kd : List (Ky × D)}, PySem.Paired (fun (x : Key × V) (y : Ky × D) => x.1 = y.1 ∧ Rv p H ρ x.2 y.2) kv kd →
    (kv.any fun z => decide (z.1 = k)) = kd.any fun z => decide (z.1 = k)
  | _, _, .nil => rfl
  | _, _, .cons r t => by rw [List.any_cons, List.any_cons, pk_any t, r.1]
theorem pk_len {α β : Type} {F : α → β → Prop} : ∀ {l : List α} {m : List β}, PySem.Paired F l m → l.length = m.length
  | _, _, .nil => rfl
  | _, _, .cons _ t => by simp [pk_len t]
theorem pk_app {α β : Type} {F : α → β → Prop} : ∀ {l l2 : List α} {m m2 : List β}, PySem.Paired F l m → PySem.Paired F l2 m2 → PySem.Paired F (l ++ l2) (m ++ m2)
  | _, _, _, _, .nil, s => s
  | _, _, _, _, .cons r t, s => .cons r (pk_app t s)
theorem pk_put {H : Hp} {ρ : List Addr} {k : Ky} {v : V} {d : D} {kv : List (Key × V)} {kd : List (Ky × D)} (rv : Rv p H ρ v d) (r : PySem.Paired (fun (x : Key × V) (y : Ky × D) => x.1 = y.1 ∧ Rv p H ρ x.2 y.2) kv kd) :
    PySem.Paired (fun (x : Key × V) (y : Ky × D) => x.1 = y.1 ∧ Rv p H ρ x.2 y.2) (putK kv k v) (putD kd k d) := by
  unfold putK putD
  rw [pk_any r]
  by_cases hb : (kd.any fun z => decide (z.1 = k)) = true
  · rw [if_pos hb, if_pos hb]
    clear hb
    induction r with
    | nil => exact .nil
    | cons h t ih =>
      rw [List.map_cons, List.map_cons]
      refine .cons ?_ ih
      rename_i a b l1 l2
      by_cases e : b.1 = k
      · rw [if_pos (h.1.trans e), if_pos e]; exact ⟨h.1, rv⟩
      · rw [if_neg (fun z => e (h.1.symm.trans z)), if_neg e]; exact h
  · rw [if_neg hb, if_neg hb]
    exact pk_app r (.cons ⟨rfl, rv⟩ .nil)
theorem set_sub (hu : X.A.units + 65 < cLine) : PSet X (rSet p E) := by
  intro pins s σ H o i v ov iv u Q I ro ri rv h
  obtain ⟨ρ, M, d1, d2, d3, st, r1, r2, r3, h⟩ := h
  unfold setD at h
  split at h
  next l k =>
    split at h
    next xs e0 =>
      split at h
      next j ej =>
        cases r2
        obtain ⟨a, vs, rfl, g1, g2, g3⟩ := lst_of st r1 e0
        refine set_list pins s σ H _ _ v ov iv u Q I ro ri rv ⟨a, vs, k, j, rfl, rfl, g2, by rw [g3.length]; exact ej, ?_⟩
        have e : Ext H (upd H a (.lst (vs.set j v))) := .setL g2
        exact h () _ ρ (st.upd g1 e ⟨_, upd_same, RvL.ext e (.refl _) _ _ (g3.set r3 j)⟩) (.set g1 e) trivial
      next => exact h.elim
    next => exact h.elim
  next l i2 hne =>
    split at h
    next kvs k e0 ek =>
      by_cases hz : kvs.length < szl
      · rw [if_pos hz] at h
        obtain ⟨a, kv, rfl, g1, g2, g3⟩ := dk_of st r1 e0
        have ei := ky_of r2 ek
        subst ei
        obtain rfl : ov = Value.ref a := ro
        refine d_setItem (by omega) I (DPut.k (k := k) (v := v) g2 (by rw [pk_len g3, ← szl_eq]; exact hz)) ri rv fun s1 I1 => ⟨_, I1, ?_⟩
        have e : Ext H (upd H a (.dK (putK kv k v))) := .setK g2
        exact h () _ ρ (st.upd g1 e ⟨_, upd_same, pairedMono (pk_put r3 g3) fun x y z => ⟨z.1, Rv.ext e (.refl _) _ _ z.2⟩⟩) (.set g1 e) trivial
      · rw [if_neg hz] at h; exact h.elim
    next => exact h.elim
  next => exact h.elim

/-! ### built-in functions -/
def rBi (p : Pm) (E : XK) (f : List D → Store → Out D) : List V → Hp → VK → Prop := fun xs H Q => ∃ ρ M ds, RSt p H ρ M ∧ RvL p H ρ xs ds ∧ post (RD p) p H ρ (f ds M) Q E
theorem rv1 {H : Hp} {ρ : List Addr} {xs : List V} {d : D} (r : RvL p H ρ xs [d]) : ∃ x, xs = [x] ∧ Rv p H ρ x d := by
  cases r with
  | cons r1 r2 => cases r2; exact ⟨_, rfl, r1⟩
theorem rv2 {H : Hp} {ρ : List Addr} {xs : List V} {d e : D} (r : RvL p H ρ xs [d, e]) : ∃ x y, xs = [x, y] ∧ Rv p H ρ x d ∧ Rv p H ρ y e := by
  cases r with
  | cons r1 r2 =>
    cases r2 with
    | cons r3 r4 => cases r4; exact ⟨_, _, rfl, r1, r3⟩
theorem rv0 {H : Hp} {ρ : List Addr} {xs : List V} (r : RvL p H ρ xs []) : xs = [] := rvl_nil' r
theorem bls_rv {H : Hp} {ρ : List Addr} : ∀ {ds : List D} {vs : List V} {bs : List Bool}, blsD ds = some bs → RvL p H ρ vs ds → vs = bs.map V.bl
  | [], _, _, h, r => by
    cases r
    simp only [blsD, Option.some.injEq] at h
    subst h; rfl
  | .bl b :: ds, _, _, h, r => by
    simp only [blsD] at h
    obtain ⟨cs, h1, rfl⟩ := Option.map_eq_some_iff.mp h
    cases r with
    | cons r1 r2 =>
      cases r1
      rw [bls_rv h1 r2]; rfl
  | .non :: _, _, _, h, _ => by simp [blsD] at h
  | .int _ :: _, _, _, h, _ => by simp [blsD] at h
  | .str _ :: _, _, _, h, _ => by simp [blsD] at h
  | .tup _ :: _, _, _, h, _ => by simp [blsD] at h
  | .ll _ :: _, _, _, h, _ => by simp [blsD] at h
  | .dl _ :: _, _, _, h, _ => by simp [blsD] at h
  | .ol _ _ :: _, _, _, h, _ => by simp [blsD] at h
  | .fn _ :: _, _, _, h, _ => by simp [blsD] at h
  | .lsf _ :: _, _, _, h, _ => by simp [blsD] at h
theorem ints_rv {H : Hp} {ρ : List Addr} : ∀ {ds : List D} {vs : List V} {bs : List Int}, intsD ds = some bs → RvL p H ρ vs ds → vs = bs.map V.int
  | [], _, _, h, r => by
    cases r
    simp only [intsD, Option.some.injEq] at h
    subst h; rfl
  | .int b :: ds, _, _, h, r => by
    simp only [intsD] at h
    obtain ⟨cs, h1, rfl⟩ := Option.map_eq_some_iff.mp h
    cases r with
    | cons r1 r2 =>
      cases r1
      rw [ints_rv h1 r2]; rfl
  | .non :: _, _, _, h, _ => by simp [intsD] at h
  | .bl _ :: _, _, _, h, _ => by simp [intsD] at h
  | .str _ :: _, _, _, h, _ => by simp [intsD] at h
  | .tup _ :: _, _, _, h, _ => by simp [intsD] at h
  | .ll _ :: _, _, _, h, _ => by simp [intsD] at h
  | .dl _ :: _, _, _, h, _ => by simp [intsD] at h
  | .ol _ _ :: _, _, _, h, _ => by simp [intsD] at h
  | .fn _ :: _, _, _, h, _ => by simp [intsD] at h
  | .lsf _ :: _, _, _, h, _ => by simp [intsD] at h
theorem int_rvs {H : Hp} {ρ : List Addr} : ∀ ns : List Int, RvL p H ρ (ns.map V.int) (ns.map D.int)
  | [] => .nil
  | n :: ns => .cons (.int n) (int_rvs ns)
theorem ky_rvs {H : Hp} {ρ : List Addr} : ∀ {kv : List (Key × V)} {kd : List (Ky × D)}, PySem.Paired (fun (x : Key × V) (y : Ky × D) => x.1 = y.1 ∧ Rv p H ρ x.2 y.2) kv kd → RvL p H ρ (kv.map fun z => kV z.1) (kd.map fun z => dKy z.1)
  | _, _, .nil => .nil
  | _, _, .cons (a := a) (b := b) r t => by
    rw [List.map_cons, List.map_cons]
    refine .cons ?_ (ky_rvs t)
    rw [r.1]
    cases b.1 with
    | inl i => exact .int i
    | inr s => exact .str s
/-- which built-in a name is -/
def Bi.fn : Bi → Option String
  | .len => some "len" | .max => some "max" | .min => some "min" | .sorted => some "sorted" | .any => some "any" | .all => some "all"
  | _ => none
def Bi.ty : Bi → Option String
  | .int => some "int" | .bool => some "bool" | .str => some "str" | .list => some "list" | .tuple => some "tuple"
  | _ => none
theorem bi_fn (hK : X.K = p.K) (hc : X.calm = true) (b : Bi) (T : String) (hT : b.fn = some T) : CallR X (.builtin T) (rBi p E (biD b)) := by
  intro pins s σ H xs us Q I rx h
  obtain ⟨ρ, M, ds, st, r, h⟩ := h
  unfold biD at h
  split at h
  next xs1 =>
    cases hT
    obtain ⟨x, rfl, r1⟩ := rv1 r
    cases r1 with
    | tup h1 l1 => exact call_len pins s σ H _ us Q I rx ⟨_, _, rfl, .inr ⟨_, by rw [hK]; exact h1, rfl⟩, by rw [l1.length]; exact post.ok (a := D.int xs1.length) h st (.int _)⟩
  next xs1 =>
    cases hT
    obtain ⟨x, rfl, r1⟩ := rv1 r
    cases r1 with
    | lsf h1 l1 => exact call_len pins s σ H _ us Q I rx ⟨_, _, rfl, .inl ⟨_, by rw [hK]; exact h1.sq, rfl⟩, by rw [l1.length]; exact post.ok (a := D.int xs1.length) h st (.int _)⟩
  next z =>
    cases hT
    obtain ⟨x, rfl, r1⟩ := rv1 r
    cases r1
    by_cases hz : z.length ≤ szl
    · rw [if_pos hz] at h
      exact call_len pins s σ H _ us Q I rx ⟨_, _, rfl, ⟨by rw [← szl_eq]; exact hz, rfl⟩, post.ok (a := D.int z.length) h st (.int _)⟩
    · rw [if_neg hz] at h; exact h.elim
  next l =>
    cases hT
    obtain ⟨x, rfl, r1⟩ := rv1 r
    split at h
    next xs1 e0 =>
      obtain ⟨a, vs, rfl, g1, g2, g3⟩ := lst_of st r1 e0
      exact call_len pins s σ H _ us Q I rx ⟨_, _, rfl, .inl ⟨_, .of g2, rfl⟩, by rw [g3.length]; exact post.ok (a := D.int xs1.length) h st (.int _)⟩
    next => exact h.elim
  next i j =>
    cases hT
    obtain ⟨x, y, rfl, r1, r2⟩ := rv2 r
    cases r1; cases r2
    exact call_max2 hc pins s σ H _ us Q I rx ⟨i, j, rfl, post.ok (a := D.int (if j > i then j else i)) h st (.int _)⟩
  next i j =>
    cases hT
    obtain ⟨x, y, rfl, r1, r2⟩ := rv2 r
    cases r1; cases r2
    exact call_min2 hc pins s σ H _ us Q I rx ⟨i, j, rfl, post.ok (a := D.int (if j < i then j else i)) h st (.int _)⟩
  next => cases hT
  next => cases hT
  next => cases hT
  next => cases hT
  next => cases hT
  next => cases hT
  next => cases hT
  next => cases hT
  next => cases hT
  next => cases hT
  next l =>
    cases hT
    obtain ⟨x, rfl, r1⟩ := rv1 r
    split at h
    next xs1 e0 =>
      split at h
      next bs e1 =>
        obtain ⟨a, vs, rfl, g1, g2, g3⟩ := lst_of st r1 e0
        have := bls_rv e1 g3
        subst this
        exact cr_any hc pins s σ H _ us Q I rx ⟨a, bs, rfl, .of g2, post.ok (a := D.bl (bs.any id)) h st (.bl _)⟩
      next => exact h.elim
    next => exact h.elim
  next l =>
    cases hT
    obtain ⟨x, rfl, r1⟩ := rv1 r
    split at h
    next xs1 e0 =>
      split at h
      next bs e1 =>
        obtain ⟨a, vs, rfl, g1, g2, g3⟩ := lst_of st r1 e0
        have := bls_rv e1 g3
        subst this
        exact cr_all hc pins s σ H _ us Q I rx ⟨a, bs, rfl, .of g2, post.ok (a := D.bl (bs.all id)) h st (.bl _)⟩
      next => exact h.elim
    next => exact h.elim
  next => exact h.elim
theorem bi_ty (hK : X.K = p.K) (hc : X.calm = true) (b : Bi) (T : String) (hT : b.ty = some T) : CallR X (.type T) (rBi p E (biD b)) := by
  intro pins s σ H xs us Q I rx h
  obtain ⟨ρ, M, ds, st, r, h⟩ := h
  unfold biD at h
  split at h
  next => cases hT
  next => cases hT
  next => cases hT
  next => cases hT
  next => cases hT
  next => cases hT
  next i =>
    cases hT
    obtain ⟨x, rfl, r1⟩ := rv1 r
    cases r1
    exact call_int1 pins s σ H _ us Q I rx (.inl ⟨i, rfl, post.ok (a := D.int i) h st (.int _)⟩)
  next b =>
    cases hT
    obtain ⟨x, rfl, r1⟩ := rv1 r
    cases r1
    exact call_int1 pins s σ H _ us Q I rx (.inr ⟨b, rfl, post.ok (a := D.int (if b then 1 else 0)) h st (.int _)⟩)
  next b =>
    cases hT
    obtain ⟨x, rfl, r1⟩ := rv1 r
    cases r1
    exact call_bool1 pins s σ H _ us Q I rx (.inr ⟨b, rfl, post.ok (a := D.bl b) h st (.bl _)⟩)
  next i =>
    cases hT
    obtain ⟨x, rfl, r1⟩ := rv1 r
    cases r1
    by_cases hz : i.natAbs.log2 < 1920
    · rw [if_pos hz] at h
      exact call_str_int pins s σ H _ us Q I rx ⟨i, rfl, hz, post.ok (a := D.str (toString i)) h st (.str _)⟩
    · rw [if_neg hz] at h; exact h.elim
  next z =>
    cases hT
    obtain ⟨x, rfl, r1⟩ := rv1 r
    cases r1
    exact SkE.call_str_str pins s σ H _ us Q I rx ⟨z, rfl, post.ok (a := D.str z) h st (.str _)⟩
  next xs1 =>
    cases hT
    obtain ⟨x, rfl, r1⟩ := rv1 r
    cases r1 with
    | tup h1 l1 =>
      obtain ⟨_, hq⟩ := newL_ok st l1 h
      exact call_list_of pins s σ H _ us Q I rx ⟨_, _, rfl, .inr (by rw [hK]; exact h1), hq⟩
  next l =>
    cases hT
    obtain ⟨x, rfl, r1⟩ := rv1 r
    split at h
    next xs1 e0 =>
      obtain ⟨a, vs, rfl, g1, g2, g3⟩ := lst_of st r1 e0
      obtain ⟨_, hq⟩ := newL_ok st g3 h
      exact call_list_of pins s σ H _ us Q I rx ⟨_, _, rfl, .inl (.of g2), hq⟩
    next => exact h.elim
  next l =>
    cases hT
    obtain ⟨x, rfl, r1⟩ := rv1 r
    split at h
    next kvs e0 =>
      obtain ⟨a, kv, rfl, g1, g2, g3⟩ := dk_of st r1 e0
      obtain ⟨_, hq⟩ := newL_ok st (ky_rvs g3) h
      exact call_list_dK hc pins s σ H _ us Q I rx ⟨_, _, rfl, g2, hq⟩
    next => exact h.elim
  next l =>
    cases hT
    obtain ⟨x, rfl, r1⟩ := rv1 r
    split at h
    next xs1 e0 =>
      obtain ⟨a, vs, rfl, g1, g2, g3⟩ := lst_of st r1 e0
      refine call_tuple_of pins s σ H _ us Q I rx ⟨_, _, rfl, .inl ⟨.of g2, fun q hq => ?_⟩⟩
      have e : Ext H (upd H q (.tup vs)) := .new hq
      exact h _ _ ρ (st.grow hq) (.new hq) (.tup (.of upd_same) (RvL.ext e (.refl _) _ _ g3))
    next => exact h.elim
  next xs1 =>
    cases hT
    obtain ⟨x, rfl, r1⟩ := rv1 r
    cases r1 with
    | tup h1 l1 => exact call_tuple_of pins s σ H _ us Q I rx ⟨_, _, rfl, .inr ⟨by rw [hK]; exact h1, post.ok (a := D.tup xs1) h st (.tup h1 l1)⟩⟩
  next => cases hT
  next => cases hT
  next => exact h.elim
end
end BH
end

section
set_option Elab.async false
set_option linter.all false
set_option maxRecDepth 100000
set_option maxHeartbeats 1000000
/-! From the model's syntax to the core language. -/
namespace BH
open PySem PySem.Spec L2

structure Gam where
  fns : List (Str × (Nat × Nat))
  cns : List (Str × D)
  exs : List (Str × Nat)
  blt : List Str
  /-- fields by name: the class -/
  fld : List (Str × Nat) := []
  /-- properties by name: the class, the getter -/
  prp : List (Str × (Nat × Nat)) := []
  /-- classmethods by class and name: the class, the def, how many values behind the class -/
  clm : List ((Str × Str) × (Nat × (Nat × Nat))) := []
  /-- makers by their keywords: the class, the def, how many values ahead of these -/
  ini : List (List Str × (Nat × (Nat × Nat))) := []

def bind1 {α β : Type} (a : Option α) (f : α → β) : Option β := match a with
  | some x => some (f x)
  | none => none
def bind2 {α β γ : Type} (a : Option α) (b : Option β) (f : α → β → γ) : Option γ := match a, b with
  | some x, some y => some (f x y)
  | _, _ => none
def bind3 {α β γ δ : Type} (a : Option α) (b : Option β) (c : Option γ) (f : α → β → γ → δ) : Option δ := match a, b, c with
  | some x, some y, some z => some (f x y z)
  | _, _, _ => none
def guard_ {α : Type} (c : Bool) (x : Option α) : Option α := match c with
  | true => x
  | false => none
theorem bind1_eq {α β : Type} {a : Option α} {f : α → β} {c : β} (h : bind1 a f = some c) : ∃ x, a = some x ∧ c = f x := by
  unfold bind1 at h; split at h
  · cases h; exact ⟨_, rfl, rfl⟩
  · cases h
theorem bind2_eq {α β γ : Type} {a : Option α} {b : Option β} {f : α → β → γ} {c : γ} (h : bind2 a b f = some c) : ∃ x y, a = some x ∧ b = some y ∧ c = f x y := by
  unfold bind2 at h; split at h
  · cases h; exact ⟨_, _, rfl, rfl, rfl⟩
  · cases h
theorem bind3_eq {α β γ δ : Type} {a : Option α} {b : Option β} {c : Option γ} {f : α → β → γ → δ} {d : δ} (h : bind3 a b c f = some d) : ∃ x y z, a = some x ∧ b = some y ∧ c = some z ∧ d = f x y z := by
  unfold bind3 at h; split at h
  · cases h; exact ⟨_, _, _, rfl, rfl, rfl, rfl⟩
  · cases h
theorem guard_eq {α : Type} {c : Bool} {x : Option α} {y : α} (h : guard_ c x = some y) : c = true ∧ x = some y := by
  unfold guard_ at h; split at h
  · exact ⟨rfl, h⟩
  · cases h

/-- the first place of a name, the last -/
def ixOf (x : Str) : List Str → Option Nat
  | [] => none
  | y :: r => if y = x then some 0 else bind1 (ixOf x r) (· + 1)
def lastOf {β : Type} (x : Str) : List (Str × β) → Option β
  | [] => none
  | y :: r => match lastOf x r with
    | some i => some i
    | none => if y.1 = x then some y.2 else none
theorem ixOf_ok {x : Str} : ∀ {l : List Str} {i : Nat}, ixOf x l = some i → l[i]? = some x
  | [], _, h => by cases h
  | y :: r, i, h => by
    unfold ixOf at h
    by_cases e : y = x
    · rw [if_pos e] at h; cases h; subst e; rfl
    · rw [if_neg e] at h
      obtain ⟨j, hj, rfl⟩ := bind1_eq h
      simpa using ixOf_ok hj
theorem lastOf_ok {β : Type} {x : Str} : ∀ {l : List (Str × β)} {i : β}, lastOf x l = some i → (x, i) ∈ l
  | [], _, h => by cases h
  | y :: r, i, h => by
    unfold lastOf at h
    split at h
    next j hj => cases h; exact List.mem_cons_of_mem _ (lastOf_ok hj)
    next =>
      by_cases e : y.1 = x
      · rw [if_pos e] at h; cases h; subst e; exact List.mem_cons_self
      · rw [if_neg e] at h; cases h

def visB (sc : Scope) (x : Str) : Bool := match sc.names.lookup x with
  | some .local => true | some .cell => true | some .free => true | _ => false
def locB (sc : Scope) (x : Str) : Bool := match sc.names.lookup x with
  | some .local => true | some .cell => true | _ => false
def glB (sc : Scope) (x : Str) : Bool := match sc.names.lookup x with
  | some .globalImplicit => true | _ => false
theorem visB_ok {sc : Scope} {x : Str} (h : visB sc x = true) : Vis sc x := by
  unfold visB at h
  split at h
  · exact .inl (by assumption)
  · exact .inr (.inl (by assumption))
  · exact .inr (.inr (by assumption))
  · cases h
theorem locB_ok {sc : Scope} {x : Str} (h : locB sc x = true) : Loc sc x := by
  unfold locB at h
  split at h
  · exact .inl (by assumption)
  · exact .inr (by assumption)
  · cases h
theorem glB_ok {sc : Scope} {x : Str} (h : glB sc x = true) : sc.names.lookup x = some .globalImplicit := by
  unfold glB at h
  split at h
  · assumption
  · cases h
/-- an ordinary name -/
def ord_ (x : Str) : Bool := !(x == ("__debug__" : Str)) && (!(x == ("__classdict__" : Str)) && decide (x ≠ "__name__"))
theorem ord_ok {x : Str} (h : ord_ x = true) : (x == ("__debug__" : Str)) = false ∧ (x == ("__classdict__" : Str)) = false ∧ x ≠ "__name__" := by
  unfold ord_ at h
  obtain ⟨h1, h2⟩ := Bool.and_eq_true_iff.mp h
  obtain ⟨h2, h3⟩ := Bool.and_eq_true_iff.mp h2
  exact ⟨by simpa using h1, by simpa using h2, of_decide_eq_true h3⟩

/-! ### forms -/
def isStar : Expr → Bool
  | .Starred _ _ => true
  | _ => false
def notSlice : Expr → Bool
  | .Slice _ _ _ _ => false
  | _ => true
def notComp : Expr → Bool
  | .ListComp _ _ _ _ => false | .SetComp _ _ _ _ => false | .DictComp _ _ _ _ _ => false
  | _ => true
def notSet : Expr → Bool
  | .Set _ _ _ => false
  | _ => true
def notCall0 : Expr → Bool
  | .Call (.Name _ _) [] [] _ => false
  | _ => true
def plainTest : Expr → Bool
  | .UnaryOp .Not _ _ => false | .BoolOp _ _ _ => false | .IfExp _ _ _ _ => false | .Compare _ _ _ _ => false
  | _ => true
/-- a test, its depth bounded -/
def tstB : Nat → Expr → Bool
  | 0, _ => false
  | n + 1, e => match e with
    | .UnaryOp .Not a _ => tstB n a
    | .BoolOp _ es _ => es.all (tstB n)
    | .IfExp c a b _ => tstB n c && (tstB n a && tstB n b)
    | _ => true
def notTuple : Expr → Bool
  | .Tuple _ _ _ => false
  | .List _ _ => false
  | _ => true
section
variable {env : PySem.Env}
theorem star_cons {e : Expr} {es : List Expr} (h : isStar e = false) : starEach (e :: es) env = (false, eval e env) :: starEach es env := by
  cases e <;> first | rfl | (simp [isStar] at h)
theorem star_none : ∀ {es : List Expr} {pos : Pos}, (es.all fun e => !isStar e) = true → (backTo pos (starEach es env)).any (·.1) = false
  | [], _, _ => rfl
  | e :: es, pos, h => by
    rw [List.all_cons, Bool.and_eq_true_iff] at h
    rw [star_cons (by simpa using h.1)]
    have ih := star_none (es := es) (pos := pos) h.2
    show ((false, _) :: backTo pos (starEach es env)).any (·.1) = false
    rw [List.any_cons, ih]
    rfl
theorem star_all : ∀ {es : List Expr} {pos : Pos}, (es.all fun e => !isStar e) = true → (backTo pos (starEach es env)).all (fun x => !x.1) = true
  | [], _, _ => rfl
  | e :: es, pos, h => by
    rw [List.all_cons, Bool.and_eq_true_iff] at h
    rw [star_cons (by simpa using h.1)]
    have ih := star_all (es := es) (pos := pos) h.2
    show ((false, _) :: backTo pos (starEach es env)).all (fun x => !x.1) = true
    rw [List.all_cons, ih]
    rfl
theorem slice_ok {e : Expr} (h : notSlice e = true) : ∀ o i, subscripted e false o i = operate [o, i] (getItem o i) := by
  intro o i
  cases e <;> first | rfl | (simp [notSlice] at h)
theorem swaps_ok {e : Expr} {t : Option Expr} {l : Nat} (h : notComp e = true) : swapsWith e t l env = pure false := by
  cases e <;> first | rfl | (simp [notComp] at h)
theorem swapsS_ok {e : Expr} {ts : List Expr} {l : Nat} (h : notComp e = true) : swapsWithSole ts e l env = pure false := by
  cases ts with
  | nil => rfl
  | cons t r => cases r with
    | nil => exact swaps_ok h
    | cons _ _ => rfl
theorem set_ok {e : Expr} (h : notSet e = true) : ∀ x, foldedSetIterable e env x = pure x := by
  intro x
  cases e <;> first | rfl | (simp [notSet] at h)
theorem base_ok {e : Expr} {a : Str} {w : Sem Value} (h : notCall0 e = true) : attributeBase e a env w = w := by
  cases e <;> try rfl
  rename_i f args kws pos
  cases f <;> try rfl
  cases args <;> try rfl
  cases kws <;> try rfl
  simp [notCall0] at h
theorem test_ok {e : Expr} (h : plainTest e = true) : ∀ whole, isTrue e env whole = (do let v ← whole; standAt e.pos; holding [v] (truthy v)) := by
  intro w
  cases e <;> first | rfl | (simp [plainTest] at h) | skip
  rename_i op a pos
  cases op <;> first | rfl | (simp [plainTest] at h)
theorem store_none {t e : Expr} (h : notTuple e = true) : swappedStores [t] e env = pure none := by
  cases e <;> first
    | exact Bool.noConfusion h
    | (cases t <;> rfl)
theorem store_none2 {t e : Expr} (h : notTuple t = true) : swappedStores [t] e env = pure none := by
  cases t <;> first
    | exact Bool.noConfusion h
    | (cases e <;> rfl)
end
def nmsOf (kd : Str → Option NameKind) (line : Nat) (ts : List Expr) : List Str := ts.filterMap fun
  | .Name id pos => if kd id == some .local && pos.line == line then some id else none
  | _ => none
def starAny (vs : List Expr) : Bool := vs.any fun | .Starred .. => true | _ => false
/-- how a display's items are stored -/
def swp (kd : Str → Option NameKind) (ts vs : List Expr) : Option (Option (List Str)) :=
  if (!(ts.length == 2 || ts.length == 3) || vs.length != ts.length) = true then some none else
  if starAny vs = true then some none else
  let names := nmsOf kd ((ts.head?.map (·.pos.line)).getD 0) ts
  if (names.length != ts.length || names.eraseDups.length != names.length) = true then some none else
  if vs.all (foldedForSure 8) = true then some none else
  if vs.all (constantsAlone 8) = true then none else some (some names)
theorem swp_ok {env : PySem.Env} {ts vs : List Expr} {k1 k2 : Nat} {p1 p2 : Pos} {r : Option (List Str)} (hb : env.blockKind = .function) (h : swp env.kindOf ts vs = some r) :
    swappedStores [.Tuple ts k1 p1] (.Tuple vs k2 p2) env = pure r := by
  unfold swp at h
  unfold swappedStores
  have hb' : (env.blockKind != ScopeKind.function) = false := by rw [hb]; rfl
  simp only [hb', Bool.or_false]
  show (if (!(ts.length == 2 || ts.length == 3) || vs.length != ts.length) = true then _ else _) = _
  by_cases c1 : (!(ts.length == 2 || ts.length == 3) || vs.length != ts.length) = true
  · rw [if_pos c1] at h ⊢; cases h; rfl
  · rw [if_neg c1] at h ⊢
    by_cases c2 : starAny vs = true
    · rw [if_pos c2] at h
      show (if starAny vs = true then _ else _) = _
      rw [if_pos c2]; cases h; rfl
    · rw [if_neg c2] at h
      show (if starAny vs = true then _ else _) = _
      rw [if_neg c2]
      dsimp only at h
      generalize hn : nmsOf env.kindOf ((ts.head?.map (·.pos.line)).getD 0) ts = names at h
      show (if ((nmsOf env.kindOf ((ts.head?.map (·.pos.line)).getD 0) ts).length != ts.length ||
        (nmsOf env.kindOf ((ts.head?.map (·.pos.line)).getD 0) ts).eraseDups.length != (nmsOf env.kindOf ((ts.head?.map (·.pos.line)).getD 0) ts).length) = true then _ else _) = _
      have e : (nmsOf env.kindOf ((ts.head?.map (·.pos.line)).getD 0) ts) = names := hn
      by_cases c3 : (names.length != ts.length || names.eraseDups.length != names.length) = true
      · rw [if_pos c3] at h; cases h
        rw [if_pos (by rw [e]; exact c3)]
      · rw [if_neg c3] at h
        rw [if_neg (by rw [e]; exact c3)]
        by_cases c4 : vs.all (foldedForSure 8) = true
        · rw [if_pos c4] at h ⊢; cases h; rfl
        · rw [if_neg c4] at h ⊢
          by_cases c5 : vs.all (constantsAlone 8) = true
          · rw [if_pos c5] at h; cases h
          · rw [if_neg c5] at h ⊢
            cases h
            show pure (some (nmsOf env.kindOf ((ts.head?.map (·.pos.line)).getD 0) ts)) = _
            rw [e]

/-! ### the compiler -/
def biOf (x : Str) : Option Bi :=
  if x = "len" then some .len else if x = "max" then some .max else if x = "min" then some .min else if x = "int" then some .int
  else if x = "bool" then some .bool else if x = "list" then some .list else if x = "tuple" then some .tuple
  else if x = "any" then some .any else if x = "all" then some .all else if x = "str" then some .str else none
def meOf (x : Str) : Option Me :=
  if x = "append" then some .append else if x = "index" then some .index else if x = "pop" then some .pop
  else if x = "join" then some .join else if x = "split" then some .split else if x = "upper" then some .upper else if x = "get" then some .get else none
def tyOf (x : Str) : Option String :=
  if x = "int" then some "int" else if x = "bool" then some "bool" else if x = "str" then some "str" else if x = "tuple" then some "tuple"
  else if x = "list" then some "list" else none
/-- a built-in's name: not the def's own, free in the module -/
def isBlt (Γ : Gam) (sc : Scope) (x : Str) : Bool := glB sc x && (ord_ x && decide (x ∈ Γ.blt))
def cNm (Γ : Gam) (N : List Str) (sc : Scope) (x : Str) : Option CE :=
  guard_ (ord_ x) (
  if visB sc x = true then bind1 (ixOf x N) .var
  else guard_ (glB sc x) (match Γ.cns.lookup x with
    | some d => some (.gcst x d)
    | none => bind1 (lastOf x Γ.fns) fun i => .gcst x (.fn i.1)))
def cAll {α : Type} (f : Expr → Option α) : List Expr → Option (List α)
  | [] => some []
  | e :: es => guard_ (!isStar e) (bind2 (f e) (cAll f es) .cons)
/-- the items of a dict's display, key by key -/
def cPairs (f : Expr → Option CE) : List (Option Expr) → List Expr → Option (List CE)
  | [], [] => some []
  | some k :: ks, v :: vs => bind3 (f k) (f v) (cPairs f ks vs) fun a b r => a :: b :: r
  | _, _ => none
def cSlice (f : Expr → Option CE) : Option Expr → Option CE
  | none => some (.cst .non)
  | some e => match f e with
    | some c => guard_ (!isNo c) (some c)
    | none => none
def isTupE : Expr → Bool
  | .Tuple _ _ _ => true
  | _ => false
def cIt (Γ : Gam) (f : Expr → Option CE) (sc : Scope) (tg e : Expr) : Option CI :=
  match e with
  | .Call (.Name x _) [a] [] _ => if x = "range" then guard_ (isBlt Γ sc x && !isStar a) (bind1 (f a) (.rng (.cst (.int 0)))) else bind1 (f e) .ex
  | .Call (.Name x _) [a, b] [] _ => if x = "range" then guard_ (isBlt Γ sc x && (!isStar a && !isStar b)) (bind2 (f a) (f b) .rng)
    else if x = "zip" then guard_ (isTupE tg && (isBlt Γ sc x && (!isStar a && !isStar b))) (bind2 (f a) (f b) .zip) else bind1 (f e) .ex
  | _ => guard_ (notSet e) (bind1 (f e) .ex)
/-- a comprehension's own names, by their places -/
def ownOf (N : List Str) : List (Str × NameKind) → List (Str × Nat)
  | [] => []
  | (x, k) :: r => match k, ixOf x N with
    | .local, some i => (x, i) :: ownOf N r
    | .cell, some i => (x, i) :: ownOf N r
    | _, _ => ownOf N r
def cT (N : List Str) (sc : Scope) (f : Expr → Option CE) : Nat → Expr → Option CT
  | 0, _ => none
  | n + 1, e => match e with
    | .Name x _ => guard_ (locB sc x) (bind1 (ixOf x N) .nm)
    | .Tuple es _ _ => bind1 (cAll (cT N sc f n) es) .tup
    | .Subscript o (.Slice (some lo) (some hi) none _) _ => bind3 (f o) (f lo) (f hi) .slc
    | .Subscript o i _ => guard_ (notSlice i) (bind2 (f o) (f i) .sub)
    | _ => none
def slotsT : CT → List Nat
  | .nm i => [i]
  | .tup ts => slotsL ts
  | .sub _ _ => []
  | .slc _ _ _ => []
  | .fld _ _ _ => []
where slotsL : List CT → List Nat
  | [] => []
  | t :: ts => slotsT t ++ slotsL ts
def cIsi (Γ : Gam) (f : Expr → Option CE) (sc : Scope) (a : Expr) : List Expr → Option CE
  | [.Name T _] => guard_ (isBlt Γ sc T && !isStar a) (bind2 (f a) (tyOf T) .isi)
  | _ => none
def isSetC : Expr → Bool
  | .Call (.Name y _) [_] [] _ => decide (y = "set")
  | _ => false
def cSet1 (Γ : Gam) (f : Expr → Option CE) (sc : Scope) : Expr → Option CE
  | .Call (.Name y _) [b] [] _ => guard_ (decide (y = "set") && (isBlt Γ sc y && !isStar b)) (bind1 (f b) .srs)
  | _ => none
def cSrt (Γ : Gam) (f : Expr → Option CE) (sc : Scope) (a : Expr) : List Expr → Option CE
  | [] => if isSetC a = true then cSet1 Γ f sc a else guard_ (!isStar a) (bind1 (f a) .srt)
  | _ => none
def cLrg (Γ : Gam) (f : Expr → Option CE) (sc : Scope) : Expr → List Expr → Option CE
  | .Call (.Name y _) [b] [] _, [] => if y = "range" then guard_ (isBlt Γ sc y && !isStar b) (bind1 (f b) (.lrg (.cst (.int 0)))) else none
  | .Call (.Name y _) [b, c] [] _, [] => if y = "range" then guard_ (isBlt Γ sc y && (!isStar b && !isStar c)) (bind2 (f b) (f c) .lrg) else none
  | _, _ => none
def isRg : Expr → Bool
  | .Call (.Name y _) _ _ _ => decide (y = "range")
  | _ => false
/-- a call of a built-in function -/
def cBi (Γ : Gam) (f : Expr → Option CE) (sc : Scope) (x : Str) (a : Expr) (es : List Expr) : Option CE :=
  if x = "isinstance" then cIsi Γ f sc a es
  else if x = "sorted" then cSrt Γ f sc a es
  else if x = "list" ∧ isRg a = true then cLrg Γ f sc a es
  else bind2 (biOf x) (cAll f (a :: es)) .bi
def cCl (Γ : Gam) (f : Expr → Option CE) (sc : Scope) (x : Str) (a : Expr) (es : List Expr) : Option CE :=
  match lastOf x Γ.fns with
  | some g => guard_ (decide (g.2 = es.length + 1)) (bind1 (cAll f (a :: es)) (.call g.1))
  | none => guard_ (decide (x ∈ Γ.blt)) (cBi Γ f sc x a es)
/-- the names of a call's keywords, all of them named -/
def kwN : List Keyword → Option (List Str)
  | [] => some []
  | k :: r => match k.arg with
    | some x => bind1 (kwN r) (x :: ·)
    | none => none
def kwE (ks : List Keyword) : List Expr := ks.map (·.value)
/-- a class named, its classmethod -/
def clmOf (Γ : Gam) (sc : Scope) (mm : Str) : Expr → Option (Str × (Nat × (Nat × Nat)))
  | .Name x _ => guard_ (glB sc x && ord_ x) (bind1 (Γ.clm.lookup (x, mm)) fun g => (x, g))
  | _ => none
/-- o.x -/
def cAttr (Γ : Gam) (x : Str) (o : CE) : Option CE :=
  match Γ.prp.lookup x with
  | some g => some (.prp g.1 g.2 o)
  | none => bind1 (Γ.fld.lookup x) fun c => .fld c x o
/-- cls(e, .., k = v, ..) -/
def cMkv (Γ : Gam) (N : List Str) (x : Str) (n : Nat) (ks : List Str) (cs : List CE) : Option CE :=
  match ixOf x N, Γ.ini.lookup ks with
  | some i, some g => guard_ (decide (g.2.2 = n)) (some (.mkv i g.1 g.2.1 cs))
  | _, _ => none
/-- the defs of so many parameters -/
def arF (Γ : Gam) (n : Nat) : List Nat := (Γ.fns.filter fun e => decide (e.2.2 = n)).map fun e => e.2.1
def cE (Γ : Gam) (N : List Str) : Nat → Scope → Expr → Option CE
  | 0, _, _ => none
  | n + 1, sc, e => match e with
    | .Name x _ => cNm Γ N sc x
    | .Constant .none _ _ => some (.cst .non)
    | .Constant (.bool b) _ _ => some (.cst (.bl b))
    | .Constant (.int i) _ _ => some (.cst (.int i))
    | .Constant (.str s) _ _ => some (.cst (.str s))
    | .UnaryOp .Not a _ => bind1 (cE Γ N n sc a) .nt
    | .UnaryOp .USub a _ => bind1 (cE Γ N n sc a) .neg
    | .BinOp a op b _ => bind2 (cE Γ N n sc a) (cE Γ N n sc b) (.bin op)
    | .BoolOp _ [a] _ => cE Γ N n sc a
    | .BoolOp .And (a :: b :: r) pos => bind2 (cE Γ N n sc a) (cE Γ N n sc (.BoolOp .And (b :: r) pos)) .andv
    | .BoolOp .Or (a :: b :: r) pos => bind2 (cE Γ N n sc a) (cE Γ N n sc (.BoolOp .Or (b :: r) pos)) .orv
    | .Compare a [op] [b] _ => guard_ (!behindInMarks op b) (bind2 (cE Γ N n sc a) (cE Γ N n sc b) (.cmp op))
    | .Compare a [op, op'] [b, c] _ => guard_ (!lastMarks [op, op'] [b, c]) (bind3 (cE Γ N n sc a) (cE Γ N n sc b) (cE Γ N n sc c) (.chn op op'))
    | .IfExp c a b _ => guard_ (tstB 9 c) <| bind3 (cE Γ N n sc c) (cE Γ N n sc a) (cE Γ N n sc b) .ife
    | .Tuple es _ _ => guard_ (decide (es.length ≤ 1000)) (bind1 (cAll (cE Γ N n sc) es) .tup)
    | .List es _ => bind1 (cAll (cE Γ N n sc) es) .lst
    | .Dict ks vs _ => guard_ (decide (ks.length ≤ 15) && !ks.isEmpty) (bind1 (cPairs (cE Γ N n sc) ks vs) .dic)
    | .Subscript a (.Slice none none (some (.UnaryOp .USub (.Constant (.int 1) _ _) _)) _) _ => bind1 (cE Γ N n sc a) .rev
    | .Subscript a (.Slice (some (.Constant (.int 1) _ _)) none (some (.Constant (.int 2) _ _)) _) _ => bind1 (cE Γ N n sc a) .odd
    | .Subscript a (.Slice lo hi none _) _ => bind3 (cE Γ N n sc a) (cSlice (cE Γ N n sc) lo) (cSlice (cE Γ N n sc) hi) .slc
    | .Subscript a i _ => guard_ (notSlice i) (bind2 (cE Γ N n sc a) (cE Γ N n sc i) .sub)
    | .Call (.Name x _) (a :: es) [] _ => if visB sc x = true then guard_ (ord_ x) (bind2 (ixOf x N) (cAll (cE Γ N n sc) (a :: es)) fun i cs => .calv i (arF Γ (es.length + 1)) cs) else guard_ (glB sc x && ord_ x) (cCl Γ (cE Γ N n sc) sc x a es)
    | .Call (.Name x _) [] [] _ => guard_ (glB sc x && ord_ x) (match lastOf x Γ.fns with
      | some g => guard_ (decide (g.2 = 0)) (some (.cal0 g.1))
      | none => none)
    | .Call (.Name x _) (a :: es) (kw :: kws) _ => guard_ (visB sc x && ord_ x) (
        match kwN (kw :: kws), cAll (cE Γ N n sc) (a :: es), cAll (cE Γ N n sc) (kwE (kw :: kws)) with
        | some ks, some as, some bs => cMkv Γ N x (es.length + 1) ks (as ++ bs)
        | _, _, _ => none)
    | .Call (.Attribute o m ap) es [] cp => guard_ (notCall0 o && (ap.endLine == cp.line && decide (es.length < 30))) (
        match clmOf Γ sc m o with
        | some g => guard_ (decide (g.2.2.2 = es.length) && !es.isEmpty) (bind1 (cAll (cE Γ N n sc) es) fun cs => .call g.2.2.1 (.gcst g.1 (.fn g.2.1) :: cs))
        | none => bind3 (cE Γ N n sc o) (meOf m) (cAll (cE Γ N n sc) es) fun o m es => .me m o es)
    | .Attribute o x _ => guard_ (notCall0 o) (match cE Γ N n sc o with
      | some co => cAttr Γ x co
      | none => none)
    | .ListComp elt [⟨tg, it, ifs, 0⟩] scope _ =>
      guard_ (blkC N sc scope (ownOf N scope.names) && (notSet it && (decide (ifs.length ≤ 1) && ifs.all (tstB 9)))) (
        match cT N scope (fun _ => none) 4 tg with
        | some t => guard_ ((slotsT t).all fun i => decide (i ∈ (ownOf N scope.names).map (·.2))) (
            bind3 (cIt Γ (cE Γ N n sc) sc tg it) (cE Γ N n (relS scope sc) elt) (cAll (cE Γ N n (relS scope sc)) ifs) fun i a b => CE.lc a t i b ((ownOf N scope.names).map (·.2)))
        | none => none)
    | _ => none
/-- a value that an except clause may hand back -/
def cSmp (Γ : Gam) (N : List Str) (sc : Scope) : Expr → Option CE
  | .Name x _ => cNm Γ N sc x
  | .Constant .none _ _ => some (.cst .non)
  | .Constant (.bool b) _ _ => some (.cst (.bl b))
  | .Constant (.int i) _ _ => some (.cst (.int i))
  | .Constant (.str s) _ _ => some (.cst (.str s))
  | _ => none
def cHs (Γ : Gam) (N : List Str) (sc : Scope) : List ExceptHandler → Option (List (Nat × CE))
  | [] => some []
  | .ExceptHandler (some (.Name x _)) none [.Return (some e) _] _ :: r =>
    guard_ (glB sc x && ord_ x) (bind3 (lastOf x Γ.exs) (cSmp Γ N sc e) (cHs Γ N sc r) fun i c l => (i, c) :: l)
  | _ => none
def ixAll (N : List Str) : List Str → Option (List Nat)
  | [] => some []
  | x :: r => bind2 (ixOf x N) (ixAll N r) .cons
def locL (sc : Scope) (x : Str) : Bool := match sc.names.lookup x with
  | some .local => true | _ => false
theorem locL_ok {sc : Scope} {x : Str} (h : locL sc x = true) : sc.names.lookup x = some .local := by
  unfold locL at h
  split at h
  · assumption
  · cases h
/-- a comprehension stored by its own block -/
def swB (sc scope : Scope) (y : Str) (py pos : Pos) : Bool :=
  locL sc y && ((py.line == pos.line) && !(scope.names.any fun (n, k) => n == y && (k == .local || k == .cell)))
def cPar2 (N : List Str) (f : Expr → Option CE) (x y : Str) (a b : Expr) : Option CS :=
  match ixOf x N, ixOf y N with
  | some i, some j => guard_ (decide (i ≠ j)) (bind2 (f a) (f b) fun a b => .par [i, j] [a, b])
  | _, _ => none
def cPar3 (N : List Str) (f : Expr → Option CE) (x y z : Str) (a b c : Expr) : Option CS :=
  match ixOf x N, ixOf y N, ixOf z N with
  | some i, some j, some k => guard_ (decide (i ≠ j) && (decide (i ≠ k) && decide (j ≠ k))) (bind3 (f a) (f b) (f c) fun a b c => .par [i, j, k] [a, b, c])
  | _, _, _ => none
/-- names stored at once -/
def cPar (N : List Str) (sc : Scope) (f : Expr → Option CE) (names : List Str) : List Expr → List Expr → Option CS
  | [.Name x _, .Name y _], [a, b] => guard_ (decide (names = [x, y]) && (locL sc x && (locL sc y && (!isStar a && !isStar b)))) (cPar2 N f x y a b)
  | [.Name x _, .Name y _, .Name z _], [a, b, c] => guard_ (decide (names = [x, y, z]) && (locL sc x && (locL sc y && (locL sc z && (!isStar a && (!isStar b && !isStar c)))))) (cPar3 N f x y z a b c)
  | _, _ => none
def cSs_ (f : Stmt → Option CS) : List Stmt → Option (List CS)
  | [] => some []
  | s :: ss => bind2 (f s) (cSs_ f ss) .cons
def cS (Γ : Gam) (N : List Str) : Nat → Scope → Stmt → Option CS
  | 0, _, _ => none
  | n + 1, sc, s => match s with
    | .Expr e _ => guard_ (notComp e) (bind1 (cE Γ N 12 sc e) .exp)
    | .Assign [.Name y py] (.ListComp elt [⟨tg, it, ifs, 0⟩] scope pos) _ => guard_ (swB sc scope y py pos) (bind2 (ixOf y N) (cE Γ N 12 sc (.ListComp elt [⟨tg, it, ifs, 0⟩] scope pos)) fun i e => .asg (.nm i) e)
    | .Assign [.Tuple ts k1 p1] (.Tuple vs k2 p2) _ => (match swp (fun x => sc.names.lookup x) ts vs with
      | some none => bind2 (cT N sc (cE Γ N 12 sc) 4 (.Tuple ts k1 p1)) (cE Γ N 12 sc (.Tuple vs k2 p2)) .asg
      | some (some names) => cPar N sc (cE Γ N 12 sc) names ts vs
      | none => none)
    | .Assign [.Attribute o x _] e _ => guard_ (notComp e) (match Γ.fld.lookup x with
      | some c => bind2 (cE Γ N 12 sc o) (cE Γ N 12 sc e) fun o e => .asg (.fld c x o) e
      | none => none)
    | .Assign [t] e _ => guard_ (notComp e && ((notTuple t || notTuple e) && !isStar t)) (bind2 (cT N sc (cE Γ N 12 sc) 4 t) (cE Γ N 12 sc e) .asg)
    | .Return (some e) _ => bind1 (cE Γ N 12 sc e) .ret
    | .Return none _ => some .retN
    | .If c a b _ => guard_ (tstB 9 c) <| bind3 (cE Γ N 12 sc c) (cSs_ (cS Γ N n sc) a) (cSs_ (cS Γ N n sc) b) .iff
    | .For t it body [] _ => guard_ (notSet it) (bind3 (cT N sc (cE Γ N 12 sc) 4 t) (cIt Γ (cE Γ N 12 sc) sc t it) (cSs_ (cS Γ N n sc) body) .for_)
    | .While c body [] _ => guard_ (tstB 9 c) <| bind2 (cE Γ N 12 sc c) (cSs_ (cS Γ N n sc) body) .whl
    | .Pass _ => some .pas
    | .Break _ => some .brk
    | .Continue _ => some .cnt
    | .Raise (some (.Call (.Name x _) [.Constant (.str _) _ _] [] _)) none _ => guard_ (glB sc x && ord_ x) (bind1 (lastOf x Γ.exs) .rai)
    | .Try body (h :: hs) [] [] _ => bind2 (cSs_ (cS Γ N n sc) body) (cHs Γ N sc (h :: hs)) .tri
    | _ => none
/-- a def: its body over its names -/
def cDef (Γ : Gam) (N : List Str) (st : Stmt) : Option (List CS) := cSs_ (cS Γ N 9 (L2.defScope st)) (L2.defBody st)
end BH
end

section
set_option Elab.async false
set_option linter.all false
set_option maxRecDepth 100000
set_option maxHeartbeats 1000000
/-! The readings of the core language's expressions, form by form. -/
namespace BH
open PySem PySem.Spec L2

/-- a reading by any relation of answers -/
def rX {α β : Type} (R : Hp → List Addr → β → α → Prop) (p : Pm) (W : WX) (f : Env → Store → Out α) (σ : L2.St) (H : Hp) (Q : β → Hp → Prop) : Prop :=
  ∃ ρ M ds, RSl p H ρ σ ds ∧ RSt p H ρ M ∧ post R p H ρ (f ds M) Q (WE W σ)
abbrev REq {α : Type} : Hp → List Addr → α → α → Prop := fun _ _ a b => a = b

section
variable {p : Pm} {W : WX} {σ : L2.St} {H : Hp} {α β γ δ ε ζ : Type} {R : Hp → List Addr → β → α → Prop} {R2 : Hp → List Addr → ζ → ε → Prop} {R' : Hp → List Addr → δ → γ → Prop}
theorem rX.mono {f : Env → Store → Out α} {Q Q' : β → Hp → Prop} (h : rX R p W f σ H Q) (k : ∀ b H', Q b H' → Q' b H') : rX R p W f σ H Q' := by
  obtain ⟨ρ, M, ds, sl, st, h⟩ := h
  exact ⟨ρ, M, ds, sl, st, h.mono k⟩
theorem rX.congr {f f' : Env → Store → Out α} {Q : β → Hp → Prop} (h : rX R p W f σ H Q) (k : ∀ ds M, f ds M = f' ds M) : rX R p W f' σ H Q := by
  obtain ⟨ρ, M, ds, sl, st, h⟩ := h
  rw [k] at h
  exact ⟨ρ, M, ds, sl, st, h⟩
/-- behind a part -/
theorem rd1 {f : Env → Store → Out γ} {fa : Env → Store → Out α} {g : Env → α → Store → Out γ} {Q : δ → Hp → Prop} (hf : ∀ ds M, f ds M = (fa ds M).bind (g ds)) (h : rX R' p W f σ H Q) :
    rX R p W fa σ H fun x H1 => ∃ ρ M ds d, RSl p H1 ρ σ ds ∧ RSt p H1 ρ M ∧ R H1 ρ x d ∧ post R' p H1 ρ (g ds d M) Q (WE W σ) := by
  obtain ⟨ρ, M, ds, sl, st, h⟩ := h
  rw [hf] at h
  exact ⟨ρ, M, ds, sl, st, (post.bind (R := R) h).mono fun x H1 ⟨ρ1, M1, a, st1, g1, r1, h1⟩ => ⟨ρ1, M1, ds, a, sl.gr g1, st1, r1, h1⟩⟩
/-- behind two parts -/
theorem rd2 {f : Env → Store → Out γ} {fa : Env → Store → Out α} {fb : Env → Store → Out ε} {g : Env → α → ε → Store → Out γ} {Q : δ → Hp → Prop} (hf : ∀ ds M, f ds M = (fa ds M).bind (k2 (fb ds) (g ds)))
    (hR : ∀ H ρ H' ρ' x a, R H ρ x a → Gr H ρ H' ρ' → R H' ρ' x a) (h : rX R' p W f σ H Q) :
    rX R p W fa σ H fun x H1 => rX R2 p W fb σ H1 fun y H2 => ∃ ρ M ds a b, RSl p H2 ρ σ ds ∧ RSt p H2 ρ M ∧ R H2 ρ x a ∧ R2 H2 ρ y b ∧ post R' p H2 ρ (g ds a b M) Q (WE W σ) := by
  obtain ⟨ρ, M, ds, sl, st, h⟩ := h
  rw [hf] at h
  refine ⟨ρ, M, ds, sl, st, (post.bind (R := R) h).mono fun x H1 ⟨ρ1, M1, a, st1, g1, r1, h1⟩ => ?_⟩
  have h1 : post R' p H1 ρ1 ((fb ds M1).bind (g ds a)) Q (WE W σ) := h1
  exact ⟨ρ1, M1, ds, sl.gr g1, st1, (post.bind (R := R2) h1).mono fun y H2 ⟨ρ2, M2, b, st2, g2, r2, h2⟩ => ⟨ρ2, M2, ds, a, b, (sl.gr g1).gr g2, st2, hR _ _ _ _ _ _ r1 g2, r2, h2⟩⟩
end

section
variable {X : Cx} {p : Pm} {W : WX} {a b c e : Expr} {es : List Expr} {pos : Pos} {f fa fb fc : Env → Store → Out D} {fs : Env → Store → Out (List D)} {ft : Env → Store → Out Bool}
theorem rvgr : ∀ H ρ H' ρ' (x : V) (a : D), Rv p H ρ x a → Gr H ρ H' ρ' → Rv p H' ρ' x a := fun _ _ _ _ _ _ r g => r.gr g

/-! ### leaves -/
theorem post_now {β α : Type} {R : Hp → List Addr → β → α → Prop} {p : Pm} {H : Hp} {ρ : List Addr} {M : Store} {a : α} {b : β} {Q : β → Hp → Prop} {E : XK} (h : post R p H ρ (.ok a M) Q E) (s : RSt p H ρ M) (r : R H ρ b a) : Q b H :=
  h b H ρ s (.refl _ _) r
theorem s_var {i : Nat} {x : Str} (hN : X.N[i]? = some x) (hv : Vis X.env.scope x) (ho : ord_ x = true) (hf : ∀ ds M, f ds M = getV ds i M) : PE X (.Name x pos) (rX (RD p) p W f) := by
  refine ⟨fun pins s σ H Q I h => ?_⟩
  obtain ⟨o1, o2, o3⟩ := ord_ok ho
  refine (pe_var (pos := pos) hN hv o1 o2).run pins s σ H Q I ?_
  obtain ⟨ρ, M, ds, sl, st, h⟩ := h
  rw [hf] at h
  unfold getV at h
  split at h
  next d e =>
    obtain ⟨v, h1, h2⟩ := sl.at_ _ _ e
    exact ⟨v, h1, post_now h st h2⟩
  next => exact h.elim
theorem s_gcst {x : Str} {v : V} {u : Value} {d : D} (hg : Gl X x) (hm : X.mg x = some u) (r : RelV v u) (rv : ∀ H ρ, Rv p H ρ v d) (ho : ord_ x = true) (hf : ∀ ds M, f ds M = .ok d M) : PE X (.Name x pos) (rX (RD p) p W f) := by
  refine ⟨fun pins s σ H Q I h => ?_⟩
  refine (pe_glob (pos := pos) hg hm r (ord_ok ho).1).run pins s σ H Q I ?_
  obtain ⟨ρ, M, ds, sl, st, h⟩ := h
  rw [hf] at h
  exact post_now h st (rv H ρ)
theorem s_leaf {v : V} {d : D} (he : PE X e (tC v)) (rv : ∀ H ρ, Rv p H ρ v d) (hf : ∀ ds M, f ds M = .ok d M) : PE X e (rX (RD p) p W f) := by
  refine ⟨fun pins s σ H Q I h => he.run pins s σ H Q I ?_⟩
  obtain ⟨ρ, M, ds, sl, st, h⟩ := h
  rw [hf] at h
  exact post_now h st (rv H ρ)

/-! ### operators -/
theorem s_bin (hK : X.K = p.K) {op : Operator} (ha : PE X a (rX (RD p) p W fa)) (hb : PE X b (rX (RD p) p W fb)) (hf : ∀ ds M, f ds M = (fa ds M).bind (k2 (fb ds) (binD op))) : PE X (.BinOp a op b pos) (rX (RD p) p W f) :=
  ⟨fun pins s σ H Q I h => (pe_op (op_bin (E := WE W σ) hK op) ha hb).run pins s σ H Q I
    ((rd2 (R2 := RD p) (g := fun _ => binD op) hf rvgr h).mono fun x H1 h1 => h1.mono fun y H2 ⟨ρ, M, ds, d1, d2, _, st, r1, r2, q⟩ => ⟨ρ, M, d1, d2, st, r1, r2, q⟩)⟩
theorem cmp_rd {op : CmpOp} {σ : L2.St} {H : Hp} {Q : VK} (hf : ∀ ds M, f ds M = (fa ds M).bind (k2 (fb ds) (cmpD op))) (h : rX (RD p) p W f σ H Q) : tOp (rOp p (WE W σ) (cmpD op)) (rX (RD p) p W fa) (rX (RD p) p W fb) σ H Q :=
  (rd2 (R := RD p) (R2 := RD p) (g := fun _ => cmpD op) hf rvgr h).mono fun x H1 h1 => h1.mono fun y H2 ⟨ρ, M, ds, d1, d2, _, st, r1, r2, q⟩ => ⟨ρ, M, d1, d2, st, r1, r2, q⟩
theorem s_cmp (hK : X.K = p.K) (hu : X.A.units + 65 < cLine) {op : CmpOp} (ha : PE X a (rX (RD p) p W fa)) (hb : PE X b (rX (RD p) p W fb)) (hm : behindInMarks op b = false) (hf : ∀ ds M, f ds M = (fa ds M).bind (k2 (fb ds) (cmpD op))) :
    PE X (.Compare a [op] [b] pos) (rX (RD p) p W f) :=
  ⟨fun pins s σ H Q I h => (pe_cmpR (op_cmp (E := WE W σ) hK hu op) ha hb hm).run pins s σ H Q I (cmp_rd hf h)⟩
/-- a truth of bools -/
theorem tst_rd {σ : L2.St} {H : Hp} {Q : Bool → Hp → Prop} (hf : ∀ ds M, ft ds M = (f ds M).bind truO) (h : rX RB p W ft σ H Q) : rX (RD p) p W f σ H fun x H' => ∃ ρ M d, RSt p H' ρ M ∧ Rv p H' ρ x d ∧ post RB p H' ρ (truO d M) Q (WE W σ) :=
  (rd1 (R := RD p) (g := fun _ => truO) hf h).mono fun x H1 ⟨ρ, M, ds, d, _, st, r, q⟩ => ⟨ρ, M, d, st, r, q⟩
theorem cmpI_bl {q : Int → Int → Bool} {d1 d2 : D} {M : Store} {E : XK} {Q : Bool → Hp → Prop} {H : Hp} {ρ : List Addr} (h : post RB p H ρ ((cmpI q d1 d2 M).bind truO) Q E) : post (RD p) p H ρ (cmpI q d1 d2 M) (fun x H' => ∃ k, x = .bl k ∧ Q k H') E := by
  unfold cmpI at h ⊢
  split at h
  · exact fun b H' ρ' st g r => by cases r; exact ⟨_, rfl, h _ H' ρ' st g rfl⟩
  · exact h.elim
theorem outB_bl {o : Option Bool} {M : Store} {E : XK} {Q : Bool → Hp → Prop} {H : Hp} {ρ : List Addr} (h : post RB p H ρ ((outB M o).bind truO) Q E) : post (RD p) p H ρ (outB M o) (fun x H' => ∃ k, x = .bl k ∧ Q k H') E := by
  cases o with
  | none => exact h.elim
  | some k => exact fun b H' ρ' st g r => by cases r; exact ⟨_, rfl, h _ H' ρ' st g rfl⟩
theorem okB_bl {k : Bool} {M : Store} {E : XK} {Q : Bool → Hp → Prop} {H : Hp} {ρ : List Addr} (h : post RB p H ρ ((Out.ok (.bl k) M).bind truO) Q E) : post (RD p) p H ρ (.ok (.bl k) M) (fun x H' => ∃ k, x = .bl k ∧ Q k H') E :=
  fun b H' ρ' st g r => by cases r; exact ⟨_, rfl, h _ H' ρ' st g rfl⟩
theorem cmp_bl {op : CmpOp} {d1 d2 : D} {M : Store} {E : XK} {Q : Bool → Hp → Prop} {H : Hp} {ρ : List Addr} (h : post RB p H ρ ((cmpD op d1 d2 M).bind truO) Q E) : post (RD p) p H ρ (cmpD op d1 d2 M) (fun x H' => ∃ k, x = .bl k ∧ Q k H') E := by
  cases op with
  | Lt => exact cmpI_bl h
  | LtE => exact cmpI_bl h
  | Gt => exact cmpI_bl h
  | GtE => exact cmpI_bl h
  | Eq => exact outB_bl h
  | NotEq => exact outB_bl h
  | In => exact outB_bl h
  | NotIn => exact outB_bl h
  | Is =>
    cases d1 <;> cases d2 <;> first | exact h.elim | exact okB_bl h
  | IsNot =>
    cases d1 <;> cases d2 <;> first | exact h.elim | exact okB_bl h

theorem t_cmp (hK : X.K = p.K) (hu : X.A.units + 65 < cLine) {op : CmpOp} (ha : PE X a (rX (RD p) p W fa)) (hb : PE X b (rX (RD p) p W fb)) (hm : behindInMarks op b = false) (hf : ∀ ds M, f ds M = (fa ds M).bind (k2 (fb ds) (cmpD op)))
    (ht : ∀ ds M, ft ds M = (f ds M).bind truO) : PT X (.Compare a [op] [b] pos) (rX RB p W ft) :=
  ⟨fun pins s σ H Q I h => (pt_cmpR (op_cmp (E := WE W σ) hK hu op) ha hb hm).run pins s σ H Q I (by
    obtain ⟨ρ, M, ds, sl, st, h⟩ := h
    refine (rd2 (R := RD p) (R2 := RD p) (p := p) (W := W) (σ := σ) (H := H) (R' := RB) (f := ft) (g := fun _ a b M => (cmpD op a b M).bind truO) (fun ds M => ?_) rvgr ⟨ρ, M, ds, sl, st, h⟩).mono fun x H1 h1 => h1.mono fun y H2 ⟨ρ, M, ds, d1, d2, _, st, r1, r2, q⟩ => ⟨ρ, M, d1, d2, st, r1, r2, cmp_bl q⟩
    rw [ht, hf]
    cases fa ds M with
    | ok a M1 =>
      show ((fb ds M1).bind (cmpD op a)).bind truO = (fb ds M1).bind fun b M => (cmpD op a b M).bind truO
      cases fb ds M1 <;> rfl
    | ex _ _ => rfl
    | bad => rfl)⟩
theorem chn_rd {op op' : CmpOp} {σ : L2.St} {H : Hp} {Q : VK} (hf : ∀ ds M, f ds M = (fa ds M).bind (k2 (fb ds) (kChn1 op op' (fc ds)))) (h : rX (RD p) p W f σ H Q) :
    tChain (rOp p (WE W σ) (cmpD op)) (rOp p (WE W σ) (cmpD op')) (rX (RD p) p W fa) (rX (RD p) p W fb) (rX (RD p) p W fc) σ H Q := by
  refine (rd2 (R := RD p) (R2 := RD p) (g := fun ds => kChn1 op op' (fc ds)) hf rvgr h).mono fun x H1 h1 => h1.mono fun y H2 ⟨ρ, M, ds, d1, d2, sl, st, r1, r2, q⟩ => ⟨ρ, M, d1, d2, st, r1, r2, ?_⟩
  have q : post (RD p) p H2 ρ ((cmpD op d1 d2 M).bind (kChn op' (fc ds) d2)) Q (WE W σ) := q
  refine (post.bind (R := RD p) q).mono fun z H3 ⟨ρ3, M3, d, st3, g3, r3, h3⟩ => ?_
  unfold kChn at h3
  split at h3
  next =>
    cases r3
    refine ⟨true, rfl, ?_⟩
    rw [if_pos rfl]
    exact ⟨ρ3, M3, ds, sl.gr g3, st3, (post.bind (R := RD p) h3).mono fun w H4 ⟨ρ4, M4, e, st4, g4, r4, h4⟩ => ⟨ρ4, M4, d2, e, st4, (r2.gr g3).gr g4, r4, h4⟩⟩
  next =>
    cases r3
    refine ⟨false, rfl, ?_⟩
    rw [if_neg (by decide)]
    exact post_now h3 st3 (.bl false)
  next => exact h3.elim
theorem s_chn (hK : X.K = p.K) (hu : X.A.units + 65 < cLine) {op op' : CmpOp} (ha : PE X a (rX (RD p) p W fa)) (hb : PE X b (rX (RD p) p W fb)) (hc : PE X c (rX (RD p) p W fc)) (hm : lastMarks [op, op'] [b, c] = false)
    (hf : ∀ ds M, f ds M = (fa ds M).bind (k2 (fb ds) (kChn1 op op' (fc ds)))) : PE X (.Compare a [op, op'] [b, c] pos) (rX (RD p) p W f) :=
  ⟨fun pins s σ H Q I h => (pe_chain (op_cmp (E := WE W σ) hK hu op) (op_cmp (E := WE W σ) hK hu op') ha hb hc hm).run pins s σ H Q I (chn_rd hf h)⟩
theorem bind_assoc {α β γ : Type} (o : Out α) (f : α → Store → Out β) (g : β → Store → Out γ) : (o.bind f).bind g = o.bind fun a M => (f a M).bind g := by
  cases o <;> rfl
theorem t_chn (hK : X.K = p.K) (hu : X.A.units + 65 < cLine) {op op' : CmpOp} (ha : PE X a (rX (RD p) p W fa)) (hb : PE X b (rX (RD p) p W fb)) (hc : PE X c (rX (RD p) p W fc)) (hm : lastMarks [op, op'] [b, c] = false)
    (hf : ∀ ds M, f ds M = (fa ds M).bind (k2 (fb ds) (kChn1 op op' (fc ds)))) (ht : ∀ ds M, ft ds M = (f ds M).bind truO) : PT X (.Compare a [op, op'] [b, c] pos) (rX RB p W ft) :=
  ⟨fun pins s σ H Q I h => (pt_chain (op_cmp (E := WE W σ) hK hu op) (op_cmp (E := WE W σ) hK hu op') ha hb hc hm).run pins s σ H Q I (by
    refine (rd2 (R := RD p) (R2 := RD p) (p := p) (W := W) (R' := RB) (f := ft) (g := fun ds a b M => (kChn1 op op' (fc ds) a b M).bind truO) (fun ds M => ?_) rvgr h).mono fun x H1 h1 => h1.mono fun y H2 ⟨ρ, M, ds, d1, d2, sl, st, r1, r2, q⟩ => ⟨ρ, M, d1, d2, st, r1, r2, ?_⟩
    · rw [ht, hf]
      cases fa ds M with
      | ok a M1 => exact bind_assoc (fb ds M1) _ _
      | ex _ _ => rfl
      | bad => rfl
    · have q : post RB p H2 ρ (((cmpD op d1 d2 M).bind (kChn op' (fc ds) d2)).bind truO) Q (WE W σ) := q
      rw [bind_assoc] at q
      refine (post.bind (R := RD p) q).mono fun z H3 ⟨ρ3, M3, d, st3, g3, r3, h3⟩ => ?_
      unfold kChn at h3
      split at h3
      next =>
        cases r3
        refine ⟨true, rfl, ?_⟩
        rw [if_pos rfl]
        rw [bind_assoc] at h3
        exact ⟨ρ3, M3, ds, sl.gr g3, st3, (post.bind (R := RD p) h3).mono fun w H4 ⟨ρ4, M4, e, st4, g4, r4, h4⟩ => ⟨ρ4, M4, d2, e, st4, (r2.gr g3).gr g4, r4, cmp_bl h4⟩⟩
      next =>
        cases r3
        refine ⟨false, rfl, ?_⟩
        rw [if_neg (by decide)]
        exact ⟨false, rfl, post_now (R := RB) h3 st3 rfl⟩
      next => exact h3.elim)⟩

/-! ### truth -/
theorem t_val (hK : X.K = p.K) (ha : PE X a (rX (RD p) p W fa)) (he : ∀ whole, isTrue a X.env whole = (do let v ← whole; standAt a.pos; holding [v] (truthy v))) (ht : ∀ ds M, ft ds M = (fa ds M).bind truO) : PT X a (rX RB p W ft) :=
  ⟨fun pins s σ H Q I h => (pt_truth ha he).run pins s σ H Q I
    ((tst_rd ht h).mono fun x H' ⟨ρ, M, d, st, r, q⟩ => by
      unfold truO at q
      split at q
      next k e => exact ⟨k, tru_of hK st r e, post_now (R := RB) q st rfl⟩
      next => exact q.elim)⟩
theorem s_nt (hK : X.K = p.K) (ha : PE X a (rX (RD p) p W fa)) (hf : ∀ ds M, f ds M = ((fa ds M).bind truO).bind (kOk fun b => .bl (!b))) : PE X (.UnaryOp .Not a pos) (rX (RD p) p W f) :=
  ⟨fun pins s σ H Q I h => (pe_notT ha).run pins s σ H Q I
    ((rd1 (R := RD p) (g := fun _ d M => (truO d M).bind (kOk fun b => .bl (!b))) (fun ds M => by rw [hf, bind_assoc]) h).mono fun x H1 ⟨ρ, M, ds, d, _, st, r, q⟩ => by
      unfold truO at q
      split at q
      next k e => exact ⟨k, tru_of hK st r e, post_now (R := RD p) q st (.bl _)⟩
      next => exact q.elim)⟩
theorem t_nt {fu : Env → Store → Out Bool} (ha : PT X a (rX RB p W fu)) (ht : ∀ ds M, ft ds M = (fu ds M).bind (kOk (!·))) : PT X (.UnaryOp .Not a pos) (rX RB p W ft) :=
  ⟨fun pins s σ H Q I h => (pt_not ha).run pins s σ H Q I
    ((rd1 (R := RB) (g := fun _ => kOk (!·)) ht h).mono fun x H1 ⟨ρ, M, ds, d, _, st, r, q⟩ => by
      cases r
      exact post_now (R := RB) q st rfl)⟩
theorem s_and (hK : X.K = p.K) {rest : List Expr} (ha : PE X a (rX (RD p) p W fa)) (hb : PE X (.BoolOp .And (b :: rest) pos) (rX (RD p) p W fb)) (hf : ∀ ds M, f ds M = (fa ds M).bind (kAnd (fb ds))) : PE X (.BoolOp .And (a :: b :: rest) pos) (rX (RD p) p W f) :=
  ⟨fun pins s σ H Q I h => (pe_andT ha hb).run pins s σ H Q I
    ((rd1 (R := RD p) (g := fun ds => kAnd (fb ds)) hf h).mono fun x H1 ⟨ρ, M, ds, d, sl, st, r, q⟩ => by
      unfold kAnd at q
      split at q
      next e =>
        refine ⟨true, tru_of hK st r e, ?_⟩
        rw [if_pos rfl]
        exact ⟨ρ, M, ds, sl, st, q⟩
      next e =>
        refine ⟨false, tru_of hK st r e, ?_⟩
        rw [if_neg (by decide)]
        exact post_now q st r
      next => exact q.elim)⟩
theorem s_or (hK : X.K = p.K) {rest : List Expr} (ha : PE X a (rX (RD p) p W fa)) (hb : PE X (.BoolOp .Or (b :: rest) pos) (rX (RD p) p W fb)) (hf : ∀ ds M, f ds M = (fa ds M).bind (kOr (fb ds))) : PE X (.BoolOp .Or (a :: b :: rest) pos) (rX (RD p) p W f) :=
  ⟨fun pins s σ H Q I h => (pe_orT ha hb).run pins s σ H Q I
    ((rd1 (R := RD p) (g := fun ds => kOr (fb ds)) hf h).mono fun x H1 ⟨ρ, M, ds, d, sl, st, r, q⟩ => by
      unfold kOr at q
      split at q
      next e =>
        refine ⟨true, tru_of hK st r e, ?_⟩
        rw [if_pos rfl]
        exact post_now q st r
      next e =>
        refine ⟨false, tru_of hK st r e, ?_⟩
        rw [if_neg (by decide)]
        exact ⟨ρ, M, ds, sl, st, q⟩
      next => exact q.elim)⟩
theorem t_and {fu fv : Env → Store → Out Bool} {rest : List Expr} (ha : PT X a (rX RB p W fu)) (hb : PW X (.BoolOp .And (b :: rest) pos) (rX RB p W fv)) (ht : ∀ ds M, ft ds M = (fu ds M).bind (kAndT (fv ds))) : PW X (.BoolOp .And (a :: b :: rest) pos) (rX RB p W ft) :=
  ⟨fun wh pins s σ H Q I h => (pw_and ha hb).run wh pins s σ H Q I
    ((rd1 (R := RB) (g := fun ds => kAndT (fv ds)) ht h).mono fun x H1 ⟨ρ, M, ds, d, sl, st, r, q⟩ => by
      cases r
      cases x with
      | true => rw [if_pos rfl]; exact ⟨ρ, M, ds, sl, st, q⟩
      | false => rw [if_neg (by decide)]; exact post_now (R := RB) q st rfl)⟩
theorem t_or {fu fv : Env → Store → Out Bool} {rest : List Expr} (ha : PT X a (rX RB p W fu)) (hb : PW X (.BoolOp .Or (b :: rest) pos) (rX RB p W fv)) (ht : ∀ ds M, ft ds M = (fu ds M).bind (kOrT (fv ds))) : PW X (.BoolOp .Or (a :: b :: rest) pos) (rX RB p W ft) :=
  ⟨fun wh pins s σ H Q I h => (pw_or ha hb).run wh pins s σ H Q I
    ((rd1 (R := RB) (g := fun ds => kOrT (fv ds)) ht h).mono fun x H1 ⟨ρ, M, ds, d, sl, st, r, q⟩ => by
      cases r
      cases x with
      | true => rw [if_pos rfl]; exact post_now (R := RB) q st rfl
      | false => rw [if_neg (by decide)]; exact ⟨ρ, M, ds, sl, st, q⟩)⟩
theorem s_ife (hc : PT X c (rX RB p W ft)) (ha : PE X a (rX (RD p) p W fa)) (hb : PE X b (rX (RD p) p W fb)) (hf : ∀ ds M, f ds M = (ft ds M).bind (kIf (fa ds) (fb ds))) : PE X (.IfExp c a b pos) (rX (RD p) p W f) :=
  ⟨fun pins s σ H Q I h => (pe_ifExp hc ha hb).run pins s σ H Q I
    ((rd1 (R := RB) (g := fun ds => kIf (fa ds) (fb ds)) hf h).mono fun x H1 ⟨ρ, M, ds, d, sl, st, r, q⟩ => by
      cases r
      cases x with
      | true => rw [if_pos rfl]; exact ⟨ρ, M, ds, sl, st, q⟩
      | false => rw [if_neg (by decide)]; exact ⟨ρ, M, ds, sl, st, q⟩)⟩
theorem pt_ife {c : Expr} {tc ta tb : TT} (hc : PT X c tc) (ha : PT X a ta) (hb : PT X b tb) : PT X (.IfExp c a b pos) (fun σ H Q => tc σ H fun x H1 => if x = true then ta σ H1 Q else tb σ H1 Q) := by
  refine ⟨fun pins s σ H Q I h => ?_⟩
  refine PyProof.Rows.isTrue_IfExp (thn (hc.run pins s σ H _ I h) fun d s1 ⟨H1, I1, q1⟩ => ?_)
  cases d with
  | true => exact ha.run pins s1 σ H1 Q I1 q1
  | false => exact hb.run pins s1 σ H1 Q I1 q1
theorem t_ife {fu fv fw : Env → Store → Out Bool} (hc : PT X c (rX RB p W ft)) (ha : PT X a (rX RB p W fu)) (hb : PT X b (rX RB p W fv)) (hf : ∀ ds M, fw ds M = (ft ds M).bind (kIf (fu ds) (fv ds))) : PT X (.IfExp c a b pos) (rX RB p W fw) :=
  ⟨fun pins s σ H Q I h => (pt_ife hc ha hb).run pins s σ H Q I
    ((rd1 (R := RB) (g := fun ds => kIf (fu ds) (fv ds)) hf h).mono fun x H1 ⟨ρ, M, ds, d, sl, st, r, q⟩ => by
      cases r
      cases x with
      | true => rw [if_pos rfl]; exact ⟨ρ, M, ds, sl, st, q⟩
      | false => rw [if_neg (by decide)]; exact ⟨ρ, M, ds, sl, st, q⟩)⟩
theorem s_neg (ha : PE X a (rX (RD p) p W fa)) (hf : ∀ ds M, f ds M = (fa ds M).bind negD) : PE X (.UnaryOp .USub a pos) (rX (RD p) p W f) :=
  ⟨fun pins s σ H Q I h => (pe_un (un_neg' (p := p) (E := WE W σ)) ha).run pins s σ H Q I
    ((rd1 (R := RD p) (g := fun _ => negD) hf h).mono fun x H1 ⟨ρ, M, ds, d, _, st, r, q⟩ => ⟨ρ, M, d, st, r, q⟩)⟩

/-! ### lists of parts -/
theorem a_nil (hf : ∀ ds M, fs ds M = .ok [] M) : PA X [] (rX (RDs p) p W fs) :=
  ⟨fun pos pins s σ H Q I h => pa_nil.run pos pins s σ H Q I (by
    obtain ⟨ρ, M, ds, sl, st, h⟩ := h
    rw [hf] at h
    exact post_now h st .nil)⟩
theorem a_cons {fr : Env → Store → Out (List D)} (hs : isStar e = false) (he : PE X e (rX (RD p) p W fa)) (hr : PA X es (rX (RDs p) p W fr)) (hf : ∀ ds M, fs ds M = (fa ds M).bind (k2 (fr ds) (kOk2 .cons))) : PA X (e :: es) (rX (RDs p) p W fs) :=
  ⟨fun pos pins s σ H Q I h => (pa_cons he hr (star_cons hs)).run pos pins s σ H Q I
    ((rd2 (R := RD p) (R2 := RDs p) (g := fun _ => kOk2 .cons) hf rvgr h).mono fun x H1 h1 => h1.mono fun y H2 ⟨ρ, M, ds, d1, d2, _, st, r1, r2, q⟩ => post_now q st (.cons r1 r2))⟩
theorem s_tup {k : Nat} (ha : PA X es (rX (RDs p) p W fs)) (hz : es.length ≤ szl) (hl : ∀ ds M xs M', fs ds M = .ok xs M' → xs.length = es.length) (hf : ∀ ds M, f ds M = (fs ds M).bind (kOk .tup)) : PE X (.Tuple es k pos) (rX (RD p) p W f) := by
  refine ⟨fun pins s σ H Q I h => (pe_tup ha).run pins s σ H Q I ?_⟩
  obtain ⟨ρ, M, ds, sl, st, h⟩ := h
  rw [hf] at h
  refine ⟨ρ, M, ds, sl, st, ?_⟩
  cases e : fs ds M with
  | ok xs M' =>
    rw [e] at h
    intro vs H1 ρ1 st1 g1 r1
    refine ⟨by rw [r1.length, hl ds M xs M' e, ← szl_eq]; exact hz, fun q hq => ?_⟩
    have ex : Ext H1 (upd H1 q (.tup vs)) := .new hq
    exact h _ _ ρ1 (st1.grow hq) (g1.trans (.new hq)) (.tup (.inl (.inl upd_same)) (RvL.ext ex (.refl _) _ _ r1))
  | ex x M' => rw [e] at h; exact h
  | bad => rw [e] at h; exact h
theorem s_lst (ha : PA X es (rX (RDs p) p W fs)) (hf : ∀ ds M, f ds M = (fs ds M).bind kLst) : PE X (.List es pos) (rX (RD p) p W f) :=
  ⟨fun pins s σ H Q I h => (pe_lst ha).run pins s σ H Q I
    ((rd1 (R := RDs p) (g := fun _ => kLst) hf h).mono fun xs H1 ⟨ρ, M, ds, d, _, st, r, q⟩ => newL_ok st r q)⟩

/-! ### subscripts -/
theorem s_sub (hK : X.K = p.K) (ha : PE X a (rX (RD p) p W fa)) (hb : PE X b (rX (RD p) p W fb)) (hn : notSlice b = true) (hf : ∀ ds M, f ds M = (fa ds M).bind (k2 (fb ds) subD)) : PE X (.Subscript a b pos) (rX (RD p) p W f) :=
  ⟨fun pins s σ H Q I h => (pe_ix (ix_sub (E := WE W σ) hK) ha hb (slice_ok hn)).run pins s σ H Q I
    ((rd2 (R2 := RD p) (g := fun _ => subD) hf rvgr h).mono fun x H1 h1 => h1.mono fun y H2 ⟨ρ, M, ds, d1, d2, _, st, r1, r2, q⟩ => ⟨ρ, M, d1, d2, st, r1, r2, q⟩)⟩
theorem o_none {fo : Env → Store → Out (Option Int)} (hf : ∀ ds M, fo ds M = .ok none M) : PO X none (rX REq p W fo) :=
  ⟨fun pins s σ H Q I h => po_none.run pins s σ H Q I (by
    obtain ⟨ρ, M, ds, sl, st, h⟩ := h
    rw [hf] at h
    exact post_now (R := REq) h st rfl)⟩
theorem o_some {fo : Env → Store → Out (Option Int)} (he : PE X e (rX (RD p) p W fa)) (hf : ∀ ds M, fo ds M = (fa ds M).bind (intO false)) : PO X (some e) (rX REq p W fo) :=
  ⟨fun pins s σ H Q I h => (po_some he).run pins s σ H Q I
    ((rd1 (R := RD p) (g := fun _ => intO false) hf h).mono fun x H1 ⟨ρ, M, ds, d, _, st, r, q⟩ => by
      unfold intO at q
      split at q
      next => contradiction
      next => cases r; exact ⟨_, rfl, post_now (R := REq) q st rfl⟩
      next => exact q.elim)⟩
theorem s_slc (hK : X.K = p.K) {lo hi : Option Expr} {p2 : Pos} {f1 f2 : Env → Store → Out (Option Int)} (ha : PE X a (rX (RD p) p W fa)) (h1 : PO X lo (rX REq p W f1)) (h2 : PO X hi (rX REq p W f2))
    (hf : ∀ ds M, f ds M = (fa ds M).bind fun a M => (f1 ds M).bind fun l M => (f2 ds M).bind fun u M => slcD a l u M) : PE X (.Subscript a (.Slice lo hi none p2) pos) (rX (RD p) p W f) :=
  ⟨fun pins s σ H Q I h => (pe_slice (sl_sub (E := WE W σ) hK) ha h1 h2).run pins s σ H Q I
    ((rd1 (R := RD p) (g := fun ds a M => (f1 ds M).bind fun l M => (f2 ds M).bind fun u M => slcD a l u M) hf h).mono fun x H1 ⟨ρ, M, ds, d, sl, st, r, q⟩ =>
      ⟨ρ, M, ds, sl, st, (post.bind (R := REq) q).mono fun l H2 ⟨ρ2, M2, l', st2, g2, e2, q2⟩ => ⟨ρ2, M2, ds, sl.gr g2, st2, (post.bind (R := REq) q2).mono fun u H3 ⟨ρ3, M3, u', st3, g3, e3, q3⟩ => by
        cases e2; cases e3
        exact ⟨ρ3, M3, d, st3, (r.gr g2).gr g3, q3⟩⟩⟩)⟩

theorem s_rev (hK : X.K = p.K) {k : Nat} {p1 p2 p3 : Pos} (ha : PE X a (rX (RD p) p W fa)) (hf : ∀ ds M, f ds M = (fa ds M).bind revD) : PE X (.Subscript a (.Slice none none (some (.UnaryOp .USub (.Constant (.int 1) k p1) p2)) p3) pos) (rX (RD p) p W f) :=
  ⟨fun pins s σ H Q I h => (pe_revL ha).run pins s σ H Q I
    ((rd1 (R := RD p) (g := fun _ => revD) hf h).mono fun x H1 ⟨ρ, M, ds, d, _, st, r, q⟩ => by
      unfold revD at q
      split at q
      next l =>
        split at q
        next xs e0 =>
          obtain ⟨a, vs, rfl, g1, g2, g3⟩ := lst_of st r e0
          obtain ⟨_, hq⟩ := newL_ok st g3.reverse q
          exact ⟨a, vs, rfl, by rw [hK]; exact .of g2, hq⟩
        next => exact q.elim
      next => exact q.elim)⟩

/-! ### calls -/
theorem s_call {k : Nat} {x : Str} {p1 : Pos} {g : Addr} {fd : FuncData} {ps : List Str} {mf : List D → Store → Out D} (tk : Takes X W) (F : FnOk X.prog X.w X.K X.mg X.base (L2.CX X.prog X.w) k g fd ps (spM p ps.length mf)) (hr : Room k X.A) (hg : Gl X x) (hm : X.mg x = some (.ref g))
    (hk : PySem.W.keepIn X.K (.ref g) = true) (hb : Binds X.K fd ps []) (ha : PA X (e :: es) (rX (RDs p) p W fs)) (hl : ∀ ds M xs M', fs ds M = .ok xs M' → xs.length = ps.length) (ho : ord_ x = true) (hst : ((e :: es).all fun e => !isStar e) = true)
    (hf : ∀ ds M, f ds M = (fs ds M).bind mf) : PE X (.Call (.Name x p1) (e :: es) [] pos) (rX (RD p) p W f) := by
  rw [List.all_cons, Bool.and_eq_true_iff] at hst
  refine ⟨fun pins s σ H Q I h => (pe_callS F hr hg hm hk hb (E := WE W) (fun σ => passAt tk σ) ha (ord_ok ho).1 (star_cons (by simpa using hst.1)) (star_none hst.2)).run pins s σ H Q I ?_⟩
  obtain ⟨ρ, M, ds, sl, st, h⟩ := h
  rw [hf] at h
  refine ⟨ρ, M, ds, sl, st, ?_⟩
  cases e : fs ds M with
  | ok xs M' =>
    rw [e] at h
    intro vs H1 ρ1 st1 g1 r1
    exact ⟨ρ1, M', xs, by rw [r1.length, hl ds M xs M' e], r1, st1, post.later (o := mf xs M') h g1⟩
  | ex x M' => rw [e] at h; exact h
  | bad => rw [e] at h; exact h
/-- a call of a local name that holds one of the defs fs -/
theorem s_calv {k i n : Nat} {x : Str} {p1 : Pos} {L : List Nat} {m : Nat → List D → Store → Out D} (tk : Takes X W) (F : ∀ g, g ∈ L → PySem.W.keepIn X.K (.ref (p.fa g)) = true ∧ ∃ fd ps, ps.length = n ∧ Binds X.K fd ps [] ∧ FnOk X.prog X.w X.K X.mg X.base (L2.CX X.prog X.w) k (p.fa g) fd ps (spM p ps.length (m g)))
    (hr : Room k X.A) (hN : X.N[i]? = some x) (hv : Vis X.env.scope x) (ha : PA X (e :: es) (rX (RDs p) p W fs)) (hl : ∀ ds M xs M', fs ds M = .ok xs M' → xs.length = n) (ho : ord_ x = true) (hst : ((e :: es).all fun e => !isStar e) = true)
    (hf : ∀ ds M, f ds M = (getV ds i M).bind (kCalv m L (fs ds))) : PE X (.Call (.Name x p1) (e :: es) [] pos) (rX (RD p) p W f) := by
  rw [List.all_cons, Bool.and_eq_true_iff] at hst
  refine ⟨fun pins s σ H Q I h => ?_⟩
  obtain ⟨ρ, M, ds, sl, st, h⟩ := h
  rw [hf] at h
  unfold getV at h
  cases hd : ds[i]? with
  | none => rw [hd] at h; exact h.elim
  | some od =>
    cases od with
    | none => rw [hd] at h; exact h.elim
    | some d =>
      rw [hd] at h
      obtain ⟨v, hs, rv⟩ := sl.at_ _ _ hd
      simp only [Out.bind_ok] at h
      unfold kCalv at h
      split at h
      next g =>
        by_cases hgL : g ∈ L
        · rw [if_pos hgL] at h
          cases rv
          obtain ⟨hk, fd, ps, el, hb, FO⟩ := F g hgL
          refine wpAny_Call_Name_kw (thn ((pe_var (pos := p1) hN hv (ord_ok ho).1 (ord_ok ho).2.1).run pins s σ H (fun v H1 => v = .ref (p.fa g) ∧ H1 = H) I ⟨.ref (p.fa g), hs, rfl, rfl⟩) fun u s1 ⟨v, H1, I1, r1, q1⟩ => ?_)
          obtain ⟨rfl, rfl⟩ := q1
          cases r1
          have ht : rX (RDs p) p W fs σ H1 fun vs H2 => spM p ps.length (m g) vs H2 Q (WE W σ) := by
            refine ⟨ρ, M, ds, sl, st, ?_⟩
            cases e : fs ds M with
            | ok xs M' =>
              rw [e] at h
              intro vs H1 ρ1 st1 g1 r1
              exact ⟨ρ1, M', xs, by rw [r1.length, hl ds M xs M' e, el], r1, st1, post.later (o := m g xs M') h g1⟩
            | ex x M' => rw [e] at h; exact h
            | bad => rw [e] at h; exact h
          refine PySem.W.callWith_K (h₀ := X.base) I1.ok.mod.kin hk (thn (ha.run pos pins s1 σ _ _ I1 ht) fun us s2 ⟨vs, H2, I2, r, q⟩ => ⟨I2.kIn, ?_⟩) (star_cons (by simpa using hst.1)) (star_none hst.2)
          exact run_fnS (E := WE W) FO hr hb (passAt tk σ) I2 r q
        · rw [if_neg hgL] at h; exact h.elim
      next => exact h.elim
theorem bi_rd {fb : List D → Store → Out D} {σ : L2.St} {H : Hp} {Q : VK} (hf : ∀ ds M, f ds M = (fs ds M).bind fb) (h : rX (RD p) p W f σ H Q) : tCB (rBi p (WE W σ) fb) (rX (RDs p) p W fs) σ H Q :=
  (rd1 (R := RDs p) (g := fun _ => fb) hf h).mono fun xs H1 ⟨ρ, M, ds, d, _, st, r, q⟩ => ⟨ρ, M, d, st, r, q⟩
end
end BH
end

section
set_option Elab.async false
set_option linter.all false
set_option maxRecDepth 100000
set_option maxHeartbeats 4000000
/-! set(list of ints), as a table whose members can be walked; sorted of it. -/
namespace BH
open PySem PySem.Spec L2

section
variable {P : Program} {w : World} {A : Around} {E : Value → Shared → Prop} {s : Shared}
/-- a set just made -/
abbrev newS (w : World) : Obj := { cls := .type "set", dict := none, data := .set #[] 0 (.fresh 0 0 (!w.params.followText "set-order")) }
set_option maxHeartbeats 3200000 in
theorem set_ofList {a : Addr} {xs : Array Value} (ks : List Int) {Q : Value → Shared → Prop} (quiet : A.handled = none) (lst : s.heap.IsList a xs) (int_ : PyProof.Rows.IntsAre xs.toList ks) (few : ks.length + 1 < scanBound)
    (cont : ∀ (h2 : Heap) (t2 c2 : Nat), SetR w h2 s.heap.objs.size (fun j => decide (j ∈ ks)) c2 → c2 ≤ ks.length → (∀ b o, s.heap.get? b = some o → h2.get? b = some o) → Q (.ref s.heap.objs.size) { s with heap := h2, toks := t2 }) :
    wpAny (model P w) A (call (.type "set") [.ref a]) Q E s := by
  have size_ : xs.size = ks.length := by have z := PyProof.Rows.IntsAre.length int_; rw [Array.length_toList] at z; exact z
  obtain ⟨c0, tl0, mro0⟩ := F.called_set.mro; have made0 := F.called_set.made; have sub0 := F.called_set.sub
  refine wpAny_call (codeAny_of_tree ?_); show wpAny _ _ (callAny (.type "set") _) _ _ _
  refine wpAny_pure ⟨Code.quiet_builtin _ (by decide +kernel), codeAny_builtin F.entry_type_call ?_⟩; rw [Around.under_plain (weight_type_call_type "set" [.ref a] []) rfl]
  have nt := F.called_set.notType; have cc := F.called_set.canCreate; have tc := F.typeCall_set_1 (.ref a)
  repeat any_goals first | assumption | wp_step
  refine codeAny_mono (code_set_led1 (.ref a) (E := E) (Q₁ := fun obj s₁ => obj = .ref s.heap.objs.size ∧ s₁ = { s with heap := s.heap.push (newS w) }) ⟨rfl, rfl⟩) fun r s₁ hr => ?_
  rcases r with e | fl
  · exact hr
  cases fl with
  | ret obj =>
    obtain ⟨rfl, rfl⟩ := hr
    have made : (s.heap.push (newS w)).get? s.heap.objs.size = some (newS w) := Heap.get?_push_size _ rfl
    have typ : Shared.TypeIs { s with heap := s.heap.push (newS w) } (.ref s.heap.objs.size) "set" := ⟨_, made, rfl⟩
    have il := F.called_set.init.lookup; have ib := F.called_set.init.bind (.ref s.heap.objs.size)
    repeat any_goals first | assumption | wp_step
    refine codeAny_mono (codeAny_call_builtin (R := wants (fun r s₂ => r = .none ∧ ∃ h2 t2 c2, s₂ = { s with heap := h2, toks := t2 } ∧ SetR w h2 s.heap.objs.size (fun j => decide (j ∈ ks)) c2 ∧ c2 ≤ ks.length ∧ (∀ b o, s.heap.get? b = some o → h2.get? b = some o)) E)
      F.called_set.init.plain F.entry_set_init (check_set_init_1 typ ?_)) fun r₂ s₂ hr₂ => ?_
    · obtain ⟨⟨lc, ld, lt, ls⟩, ho, hcl, nl, hdl⟩ := lst
      simp only at hcl hdl; subst hcl; subst hdl
      have there : (s.heap.push (newS w)).get? a = some { cls := .type "list", dict := ld, data := .seq xs nl, slots := ls } := Heap.get?_push_of_some _ ho
      have n1 := F.sub_list_set; have n2 := F.sub_list_frozenset; have n3 : (Value.type "list" == Value.type "dict") = false := by decide
      have lst1 : (s.heap.push (newS w)).IsList a xs := ⟨_, there, rfl, nl, rfl⟩
      unfold Builtin.«set.__init__» noKeywords Builtin.Frozenset.updateFrom; generalize hPI : pyIter = PI; wp_walk; subst hPI
      refine wpAny_pyIter_list lst1 ?_; refine wpAny_bind (wpAny_runValue ?_)
      have old : a < s.heap.objs.size := Heap.lt_size ho; have quiet3 : A.in1.in1.in1.handled = none := by simp [quiet]
      have ne1 : a ≠ (s.heap.push (newS w)).objs.size := fun z => by rw [Heap.size_push] at z; exact absurd old (by rw [z]; exact Nat.not_lt.mpr (Nat.le_succ _))
      have ne2 : s.heap.objs.size ∉ [(s.heap.push (newS w)).objs.size, a] := by rw [Heap.size_push]; simp only [List.mem_cons, List.not_mem_nil, or_false, not_or]; exact ⟨Nat.ne_of_lt (Nat.lt_succ_self _), (Nat.ne_of_lt old).symm⟩
      have val_ : ∀ (i : Nat) (v : Value), xs[i]? = some v → ∃ k t, ks[i]? = some k ∧ v = .int k t := fun i v hv => by
        have hi : i < ks.length := by rw [← size_]; exact (Array.getElem?_eq_some_iff.mp hv).1
        obtain ⟨t, e⟩ := PyProof.Rows.IntsAre.int_at int_ i v (by rw [Array.getElem?_toList]; exact hv); refine ⟨ks[i], t, List.getElem?_eq_getElem hi, ?_⟩
        rw [e, List.getD_eq_getElem?_getD, List.getElem?_eq_getElem hi]; rfl
      have base : ((s.heap.push (newS w)).push { cls := .type "list_iterator", data := .fields #[.ref a, .int 0 0] }).get? s.heap.objs.size = some (newS w) := Heap.get?_push_of_some _ made
      refine set_update_ints ((Walks.list quiet3 _ a ne1 xs).toS) s.heap.objs.size ne2 ks size_ few val_ (xs.size - 0) 0 _ (by omega) (Nat.zero_le _) ⟨⟨_, Heap.get?_push_size _ rfl, rfl, rfl⟩, (lst1.push _)⟩ ⟨0, Nat.le_refl 0, setR_new_at base⟩ fun s' c2 mv hc2 R2 => ?_
      obtain ⟨h2, g2, d2, t2, o2⟩ := s'
      have eg : g2 = s.gens := mv.gens; have ed : d2 = s.drawn := mv.drawn; have eo : o2 = s.os := mv.os; subst eg; subst ed; subst eo
      show wpAny _ _ _ _ _ _; refine wpAny_pure ?_; show wpAny _ _ (ret Value.none) _ _ _; rw [size_] at hc2
      refine wpAny_pure ⟨rfl, h2, t2, c2, rfl, R2, hc2, fun b o e => ?_⟩
      have hb0 : b < s.heap.objs.size := Heap.lt_size e; have hb2 : b ≠ (s.heap.push (newS w)).objs.size := fun z => by rw [Heap.size_push] at z; exact absurd hb0 (by rw [z]; exact Nat.not_lt.mpr (Nat.le_succ _))
      exact mv.heap b o (by simp only [List.mem_cons, List.not_mem_nil, or_false, not_or]; exact ⟨Nat.ne_of_lt hb0, hb2⟩) (Heap.get?_push_of_some _ (Heap.get?_push_of_some _ e))
    · rcases r₂ with e | fl₂
      · exact hr₂
      cases fl₂ with
      | ret r =>
        obtain ⟨rfl, h2, t2, c2, rfl, R2, hc2, kp⟩ := hr₂
        repeat any_goals first | assumption | wp_step
        exact cont _ _ _ R2 hc2 kp
      | _ => exact hr₂.elim
  | _ => exact hr.elim
end
/-! ### as a rule -/
section
variable {X : Cx}
def rSetL (K : PySem.W.Frag) (w : World) : List V → Hp → VK → Prop := fun xs H Q => ∃ (a : Addr) (ns : List Int), xs = [.ref a] ∧ SqL K H a (ns.map V.int) ∧ ns.length ≤ 1000 ∧
  ∀ (q : Addr) (n : Nat), H q = none → n ≤ ns.length → Q (.ref q) (upd H q (SetO w q (fun j => decide (j ∈ ns)) n))
theorem cr_setL (hc : X.calm = true) : CallR X (.type "set") (rSetL X.K X.w) := by
  intro pins s σ H xs us Q I r h
  obtain ⟨a, ns, rfl, hs, hl, q⟩ := h
  obtain ⟨its, rv, pl, _⟩ := I.list hs
  rw [Vals.ref1 r]
  refine set_ofList ns (I.ok.hd hc) pl.isList (by simpa using rv.ints) (by unfold scanBound; omega) fun h2 t2 c2 R2 hc2 kp => ?_
  exact ⟨.ref _, upd H s.heap.objs.size (SetO X.w s.heap.objs.size (fun j => decide (j ∈ ns)) c2), I.laid (t' := t2) kp (Nat.le_refl _) (setO_new R2), rfl, q _ c2 (I.hok.fresh (Nat.le_refl _)) hc2⟩

/-! ### the ascending list of a list's members -/
theorem insI_mem (i j : Int) : ∀ xs : List Int, j ∈ insI i xs ↔ j = i ∨ j ∈ xs
  | [] => by simp [insI]
  | x :: xs => by
    unfold insI
    split
    · simp
    · split
      next h1 h2 => subst h2; simp
      next => simp only [List.mem_cons, insI_mem i j xs]; constructor <;> (intro h; rcases h with h | h | h <;> simp [h])
theorem setI_mem (j : Int) : ∀ xs : List Int, j ∈ setI xs ↔ j ∈ xs
  | [] => by simp [setI]
  | x :: xs => by
    show j ∈ insI x (setI xs) ↔ _
    rw [insI_mem, setI_mem j xs, List.mem_cons]
theorem insI_asc (i : Int) : ∀ xs : List Int, xs.Pairwise (· < ·) → (insI i xs).Pairwise (· < ·)
  | [], _ => by simp [insI]
  | x :: xs, h => by
    unfold insI
    have h1 := List.pairwise_cons.mp h
    split
    next hlt => exact List.pairwise_cons.mpr ⟨fun y hy => by
      rcases List.mem_cons.mp hy with e | e
      · subst e; exact hlt
      · have := h1.1 y e; omega, h⟩
    next hlt =>
      split
      next => exact h
      next hne =>
        refine List.pairwise_cons.mpr ⟨fun y hy => ?_, insI_asc i xs h1.2⟩
        rcases (insI_mem i y xs).mp hy with e | e
        · subst e; omega
        · exact h1.1 y e
theorem setI_asc : ∀ xs : List Int, (setI xs).Pairwise (· < ·)
  | [] => by simp [setI]
  | x :: xs => insI_asc x _ (setI_asc xs)
theorem asc_eq : ∀ {xs ys : List Int}, xs.Pairwise (· < ·) → ys.Pairwise (· < ·) → (∀ j, j ∈ xs ↔ j ∈ ys) → xs = ys
  | [], [], _, _, _ => rfl
  | [], y :: ys, _, _, h => by have := (h y).mpr List.mem_cons_self; cases this
  | x :: xs, [], _, _, h => by have := (h x).mp List.mem_cons_self; cases this
  | x :: xs, y :: ys, h1, h2, h => by
    have a1 := List.pairwise_cons.mp h1
    have a2 := List.pairwise_cons.mp h2
    have e : x = y := by
      rcases List.mem_cons.mp ((h x).mp List.mem_cons_self) with e | e
      · exact e
      · rcases List.mem_cons.mp ((h y).mpr List.mem_cons_self) with e' | e'
        · exact e'.symm
        · have := a1.1 y e'; have := a2.1 x e; omega
    subst e
    congr 1
    refine asc_eq a1.2 a2.2 fun j => ⟨fun hj => ?_, fun hj => ?_⟩
    · rcases List.mem_cons.mp ((h j).mp (List.mem_cons_of_mem _ hj)) with e | e
      · subst e; have := a1.1 j hj; omega
      · exact e
    · rcases List.mem_cons.mp ((h j).mpr (List.mem_cons_of_mem _ hj)) with e | e
      · subst e; have := a2.1 j hj; omega
      · exact e
variable {p : Pm} {W : WX} {b : Expr} {pos p1 p2 pos2 : Pos} {f fb : Env → Store → Out D}
theorem s_srs (hK : X.K = p.K) (hc : X.calm = true) (hg : Gl X "sorted") (hm : X.mg "sorted" = none) (hg2 : Gl X "set") (hm2 : X.mg "set" = none) (hb : PE X b (rX (RD p) p W fb)) (hs : isStar b = false) (hf : ∀ ds M, f ds M = (fb ds M).bind srsD) :
    PE X (.Call (.Name "sorted" p1) [.Call (.Name "set" p2) [b] [] pos2] [] pos) (rX (RD p) p W f) := by
  have e1 : PE X (.Call (.Name "set" p2) [b] [] pos2) (tCB (rSetL X.K X.w) (tCons (rX (RD p) p W fb) tNil)) := pe_callTy (cr_setL hc) hg2 hm2 PyProof.Rows.boot_set (pa_cons hb pa_nil (star_cons hs)) (he := star_cons hs)
  refine ⟨fun pins s σ H Q I h => (pe_callB (pos := pos) (p := p1) (cr_sortedSet hc) hg hm PyProof.Rows.boot_sorted (pa_cons e1 pa_nil)).run pins s σ H Q I ?_⟩
  show rX (RD p) p W fb σ H fun x H1 => rSetL X.K X.w [x] H1 fun y H2 => rSortedSet X.w [y] H2 Q
  refine (rd1 (R := RD p) (g := fun _ => srsD) hf h).mono fun x H1 ⟨ρ, M, ds, d, sl, st, r, q⟩ => ?_
  unfold srsD at q
  split at q
  next l =>
    split at q
    next xs e =>
      split at q
      next ns en =>
        split at q
        next hlt =>
          obtain ⟨a, vs, rfl, g1, g2, g3⟩ := lst_of st r e
          have hv := ints_rv en g3
          subst hv
          refine ⟨a, ns, rfl, .of g2, by omega, fun y n hy hn => ⟨y, _, n, rfl, upd_same, by omega, fun ms z h1 h2 h3 hz => ?_⟩⟩
          have em : ms = setI ns := asc_eq h1 (setI_asc ns) fun j => by rw [h2 j, setI_mem, decide_eq_true_eq]
          subst em
          exact (newL_ok (st.grow hy) (int_rvs _) (post.later q (.new hy))).2 z hz
        next => exact q.elim
      next => exact q.elim
    next => exact q.elim
  next => exact q.elim
end
end BH
end

section
set_option Elab.async false
set_option linter.all false
set_option maxRecDepth 100000
set_option maxHeartbeats 1000000
/-! Methods, isinstance, ranges, walks, comprehensions. -/
namespace BH
open PySem PySem.Spec L2

section
variable {X : Cx} {p : Pm} {E : XK}
def Me.id : Me → String
  | .append => "list.append" | .index => "list.index" | .pop => "list.pop" | .join => "str.join" | .split => "str.split" | .upper => "str.upper" | .get => "dict.get"
def Me.ty : Me → String
  | .append => "list" | .index => "list" | .pop => "list" | .join => "str" | .split => "str" | .upper => "str" | .get => "dict"
def Me.nm : Me → Str
  | .append => "append" | .index => "index" | .pop => "pop" | .join => "join" | .split => "split" | .upper => "upper" | .get => "get"
def rMe (p : Pm) (E : XK) (f : D → List D → Store → Out D) : V → List V → Hp → VK → Prop := fun x xs H Q => ∃ ρ M d ds, RSt p H ρ M ∧ Rv p H ρ x d ∧ RvL p H ρ xs ds ∧ post (RD p) p H ρ (f d ds M) Q E
theorem first_at {α : Type} {f : α → Bool} : ∀ {xs : List α} {j : Nat}, xs.findIdx? f = some j → (∃ z, xs[j]? = some z ∧ f z = true) ∧ ∀ m z, m < j → xs[m]? = some z → f z = false
  | [], _, h => by simp at h
  | x :: xs, j, h => by
    rw [List.findIdx?_cons] at h
    by_cases e : f x = true
    · rw [if_pos e] at h
      cases h
      exact ⟨⟨x, rfl, e⟩, fun m z hm => absurd hm (by omega)⟩
    · rw [if_neg e] at h
      cases q : xs.findIdx? f with
      | none => rw [q] at h; cases h
      | some i =>
        rw [q] at h
        cases h
        obtain ⟨⟨z, h1, h2⟩, h3⟩ := first_at q
        refine ⟨⟨z, by simpa using h1, h2⟩, fun m y hm hy => ?_⟩
        cases m with
        | zero => simp at hy; subst hy; simpa using e
        | succ m => exact h3 m y (by dsimp only at hm; omega) (by simpa using hy)
theorem strs_rv {H : Hp} {ρ : List Addr} : ∀ {ds : List D} {vs : List V} {bs : List Str}, strsD ds = some bs → RvL p H ρ vs ds → vs = bs.map V.str
  | [], _, _, h, r => by
    cases r
    simp only [strsD, Option.some.injEq] at h
    subst h; rfl
  | .str b :: ds, _, _, h, r => by
    simp only [strsD] at h
    obtain ⟨cs, h1, rfl⟩ := Option.map_eq_some_iff.mp h
    cases r with
    | cons r1 r2 =>
      cases r1
      rw [strs_rv h1 r2]; rfl
  | .non :: _, _, _, h, _ => by simp [strsD] at h
  | .bl _ :: _, _, _, h, _ => by simp [strsD] at h
  | .int _ :: _, _, _, h, _ => by simp [strsD] at h
  | .tup _ :: _, _, _, h, _ => by simp [strsD] at h
  | .ll _ :: _, _, _, h, _ => by simp [strsD] at h
  | .dl _ :: _, _, _, h, _ => by simp [strsD] at h
  | .ol _ _ :: _, _, _, h, _ => by simp [strsD] at h
  | .fn _ :: _, _, _, h, _ => by simp [strsD] at h
  | .lsf _ :: _, _, _, h, _ => by simp [strsD] at h
theorem str_rvs {H : Hp} {ρ : List Addr} : ∀ ns : List Str, RvL p H ρ (ns.map V.str) (ns.map D.str)
  | [] => .nil
  | n :: ns => .cons (.str n) (str_rvs ns)
theorem val_rv {H : Hp} {ρ : List Addr} {k : Ky} : ∀ {kv : List (Key × V)} {kd : List (Ky × D)}, PySem.Paired (fun (x : Key × V) (y : Ky × D) => x.1 = y.1 ∧ Rv p H ρ x.2 y.2) kv kd →
    (valV kv k = none ∧ valD kd k = none) ∨ ∃ v d, valV kv k = some v ∧ valD kd k = some d ∧ Rv p H ρ v d
  | _, _, .nil => .inl ⟨rfl, rfl⟩
  | _, _, .cons (a := a) (b := b) r t => by
    by_cases e : b.1 = k
    · exact .inr ⟨a.2, b.2, valV_pos (r.1.trans e), by simp [valD, List.find?_cons, e], r.2⟩
    · have hd : ∀ l, valD (b :: l) k = valD l k := fun l => by simp [valD, List.find?_cons, e]
      rw [valV_neg (fun z => e (r.1.symm.trans z)), hd]
      exact val_rv t
theorem mt_me (hu : X.A.units + 1 < cLine) (hK : X.K = p.K) (mt : Me) : MtR X mt.id (rMe p E (meD mt)) := by
  intro pins s σ H x xs v us Q I rx rxs h
  obtain ⟨ρ, M, d, ds, st, r1, r2, h⟩ := h
  unfold meD at h
  split at h
  next l d =>
    split at h
    next zs e =>
      by_cases hz : zs.length < szl
      · rw [if_pos hz] at h
        obtain ⟨a, vs, rfl, g1, g2, g3⟩ := lst_of st r1 e
        obtain ⟨y, rfl, ry⟩ := rv1 r2
        refine mt_append pins s σ H _ _ v us Q I rx rxs ⟨a, vs, y, rfl, rfl, g2, by rw [g3.length, ← szl_eq]; exact hz, ?_⟩
        exact setL_ok st g1 g2 (g3.append (.cons ry .nil)) (fun _ _ => .non) h
      · rw [if_neg hz] at h; exact h.elim
    next => exact h.elim
  next l =>
    split at h
    next zs e =>
      split at h
      next y ey =>
        obtain ⟨a, vs, rfl, g1, g2, g3⟩ := lst_of st r1 e
        have hn := rv0 r2
        subst hn
        obtain ⟨w, hw, rw'⟩ := g3.get ey
        refine mt_pop pins s σ H _ _ v us Q I rx rxs ⟨a, vs, w, rfl, rfl, g2, by rw [g3.length]; exact hw, ?_⟩
        exact setL_ok st g1 g2 g3.dropLast (fun H' ex => Rv.ext ex (.refl _) _ _ rw') h
      next => exact h.elim
    next => exact h.elim
  next l i =>
    split at h
    next zs e =>
      split at h
      next ns en =>
        split at h
        next j ej =>
          obtain ⟨a, vs, rfl, g1, g2, g3⟩ := lst_of st r1 e
          obtain ⟨y, rfl, ry⟩ := rv1 r2
          cases ry
          have hv := ints_rv en g3
          subst hv
          obtain ⟨⟨z, h1, h2⟩, h3⟩ := first_at ej
          refine mt_index pins s σ H _ _ v us Q I rx rxs ⟨a, ns.map V.int, .int i, j, .int z, rfl, rfl, .of g2, rfl, ?_, by rw [List.getElem?_map, h1]; rfl, ?_, fun m z' hm hz' => ?_, post_now h st (.int _)⟩
          · rw [List.all_map]; exact List.all_eq_true.mpr fun _ _ => rfl
          · have h2 : z = i := by simpa using h2
            subst h2
            simp [eqV]
          · rw [List.getElem?_map] at hz'
            cases q : ns[m]? with
            | none => rw [q] at hz'; cases hz'
            | some w =>
              rw [q] at hz'
              cases hz'
              have := h3 m w hm q
              simpa [eqV] using this
        next => exact h.elim
      next => exact h.elim
    next => exact h.elim
  next z l =>
    split at h
    next xs0 e =>
      split at h
      next ys ey =>
        by_cases hz : (ys.map (·.length)).sum + ys.length * z.length ≤ 16777216
        · rw [if_pos hz] at h
          cases r1
          obtain ⟨y, rfl, ry⟩ := rv1 r2
          obtain ⟨a, vs, rfl, g1, g2, g3⟩ := lst_of st ry e
          have hv := strs_rv ey g3
          subst hv
          exact mt_join pins s σ H _ _ v us Q I rx rxs ⟨z, a, ys, rfl, rfl, .inl (.of g2), hz, post_now h st (.str _)⟩
        · rw [if_neg hz] at h; exact h.elim
      next => exact h.elim
    next => exact h.elim
  next a b =>
    by_cases hz : (b.length == 0) = false ∧ a.length + 2 ≤ szl
    · rw [if_pos hz] at h
      cases r1
      obtain ⟨y, rfl, ry⟩ := rv1 r2
      cases ry
      obtain ⟨_, hq⟩ := newL_ok st (str_rvs (Txt.split a b)) h
      exact mt_split pins s σ H _ _ v us Q I rx rxs ⟨a, b, rfl, rfl, hz.1, by rw [← szl_eq]; exact hz.2, hq⟩
    · rw [if_neg hz] at h; exact h.elim
  next a =>
    by_cases hz : a.length ≤ 5592405
    · rw [if_pos hz] at h
      cases r1
      have hn := rv0 r2
      subst hn
      exact mt_upper pins s σ H _ _ v us Q I rx rxs ⟨a, rfl, rfl, hz, post_now h st (.str _)⟩
    · rw [if_neg hz] at h; exact h.elim
  next l k d =>
    split at h
    next kvs k' e ek =>
      obtain ⟨a, kv, rfl, g1, g2, g3⟩ := dk_of st r1 e
      obtain ⟨x2, y2, rfl, rk, rd⟩ := rv2 r2
      have ex := ky_of rk ek
      subst ex
      obtain rfl : v = Value.ref a := rx
      cases rxs with
      | cons q1 rxs =>
        cases rxs with
        | cons q2 rxs =>
          cases rxs
          refine d_get2 (o := valV kv k') (d := y2) hu I (DGet.k g2) q1 q2 fun w' s' I' rw' => ?_
          rcases val_rv (k := k') g3 with ⟨n1, n2⟩ | ⟨v1, d1, n1, n2, r3⟩
          · rw [n1] at rw'
            rw [n2] at h
            exact ⟨y2, H, I', rw', post_now h st rd⟩
          · rw [n1] at rw'
            rw [n2] at h
            exact ⟨v1, H, I', rw', post_now h st r3⟩
    next => exact h.elim
  next => exact h.elim
theorem rcv_ty {mt : Me} {d : D} {x : V} {H : Hp} {ρ : List Addr} (h : rcv mt d = true) (r : Rv p H ρ x d) (K : PySem.W.Frag) : tyV K mt.ty x H := by
  cases mt <;> cases r <;> first
    | exact Bool.noConfusion (show false = true from h)
    | exact rfl
    | (rename_i h1 h2; obtain ⟨vs, h2⟩ := h2; exact .inl ⟨rfl, vs, .of h2⟩)
    | (rename_i h1 h2; obtain ⟨vs, h2⟩ := h2; exact .inr (.inr (.inl ⟨rfl, .inl ⟨vs, h2⟩⟩)))

/-! ### isinstance -/
theorem ty_of (hK : X.K = p.K) {H : Hp} {ρ : List Addr} {x : V} {d : D} {t : String} (r : Rv p H ρ x d) (h : tyD d = some t) : TyX X.K H x (.type t) := by
  cases r with
  | non => cases h; exact .base .non
  | bl b => cases h; exact .base (.bl b)
  | int b => cases h; exact .base (.int b)
  | str b => cases h; exact .base (.str b)
  | tup h1 h2 =>
    cases h
    rcases h1 with (h1 | ⟨o, h1⟩) | ⟨o, its, n, h1, h3, _⟩
    · exact .base (.tup h1)
    · exact .fTuple h1
    · exact .kTuple (by rw [hK]; exact h1) h3
  | ll h1 h2 => cases h; obtain ⟨vs, h2⟩ := h2; exact .base (.lst h2)
  | dl h1 h2 => cases h; obtain ⟨vs, h2⟩ := h2; exact .base (.dK h2)
  | ol h1 h2 => cases h
  | fn f => cases h
  | lsf h1 h2 =>
    cases h
    rcases h1 with ⟨o, h1⟩ | ⟨o, its, n, h1, h3, _⟩
    · exact .base (.frz h1)
    · exact .kList (by rw [hK]; exact h1) h3
end

section
variable {X : Cx} {p : Pm} {W : WX} {a b c e o : Expr} {es : List Expr} {pos : Pos} {f fa fb fc : Env → Store → Out D} {fs : Env → Store → Out (List D)} {ft : Env → Store → Out Bool}
theorem few_ok {cpos : Pos} {env : PySem.Env} (hs : (es.all fun e => !isStar e) = true) (hl : es.length < 30) :
    ((backTo cpos (starEach es env)).all (fun x => !x.1) && (backToKw cpos (keywordEach [] env)).all (fun x => x.1.isSome) && decide (es.length + ([] : List Keyword).length + (if ([] : List Keyword).isEmpty then 0 else 1) < 30)) = true := by
  rw [star_all hs]
  have : es.length + ([] : List Keyword).length + (if ([] : List Keyword).isEmpty then 0 else 1) = es.length := rfl
  rw [this, Bool.true_and]
  exact Bool.and_eq_true_iff.mpr ⟨rfl, decide_eq_true hl⟩
theorem s_me (hu : X.A.units + 1 < cLine) (hK : X.K = p.K) {mt : Me} {apos cpos : Pos} (hc0 : notCall0 o = true) (hl : (apos.endLine == cpos.line) = true) (hst : (es.all fun e => !isStar e) = true) (h30 : es.length < 30)
    (ho : PE X o (rX (RD p) p W fa)) (ha : PA X es (rX (RDs p) p W fs)) (h0 : es = [] → ∀ ds M, fs ds M = .ok [] M) (hf : ∀ ds M, f ds M = (fa ds M).bind (kMe mt (fs ds))) : PE X (.Call (.Attribute o mt.nm apos) es [] cpos) (rX (RD p) p W f) := by
  refine ⟨fun pins s σ H Q I h => ?_⟩
  have red : tBM X.K mt.ty (rMe p (WE W σ) (meD mt)) (rX (RD p) p W fa) (rX (RDs p) p W fs) σ H Q :=
    (rd1 (R := RD p) (g := fun ds => kMe mt (fs ds)) hf h).mono fun x H1 ⟨ρ, M, ds, d, sl, st, r, q⟩ => by
      unfold kMe at q
      split at q
      next hr =>
        exact ⟨rcv_ty hr r X.K, ρ, M, ds, sl, st, (post.bind (R := RDs p) q).mono fun xs H2 ⟨ρ2, M2, ds2, st2, g2, r2, q2⟩ => ⟨ρ2, M2, d, ds2, st2, r.gr g2, r2, q2⟩⟩
      next => exact q.elim
  have slot : ∃ (sl : Slot mt.ty mt.nm mt.id) (pa : PlainAttrs mt.ty), typeOf (.builtin mt.id) = pure (.type "method_descriptor") := by
    cases mt
    · exact ⟨PySem.F.slot_list_append, PySem.F.plainAttrs_list, PySem.F.type_list_append⟩
    · exact ⟨PySem.F.slot_list_index, PySem.F.plainAttrs_list, PySem.F.type_list_index⟩
    · exact ⟨PySem.F.slot_list_pop, PySem.F.plainAttrs_list, PySem.F.type_list_pop⟩
    · exact ⟨PySem.F.slot_str_join, PySem.F.plainAttrs_str, PySem.F.type_str_join⟩
    · exact ⟨PySem.F.slot_str_split, PySem.F.plainAttrs_str, PySem.F.type_str_split⟩
    · exact ⟨PySem.F.slot_str_upper, PySem.F.plainAttrs_str, PySem.F.type_str_upper⟩
    · exact ⟨PySem.F.slot_dict_get, PySem.F.plainAttrs_dict, PySem.F.type_dict_get⟩
  obtain ⟨slt, pa, hty⟩ := slot
  cases es with
  | nil =>
    refine (pe_bm0 pa slt hty (mt_me (p := p) (E := WE W σ) hu hK mt) ho (base_ok hc0) hl).run pins s σ H Q I (rX.mono red fun x H1 ⟨ty, q⟩ => ⟨ty, ?_⟩)
    obtain ⟨ρ, M, ds, sl, st, q⟩ := q
    rw [h0 rfl] at q
    exact post_now q st .nil
  | cons e es =>
    have hs2 := hst
    rw [List.all_cons, Bool.and_eq_true_iff] at hs2
    exact (pe_bm pa slt hty (mt_me (p := p) (E := WE W σ) hu hK mt) ho ha (base_ok hc0) (few_ok hst h30) hl (star_cons (by simpa using hs2.1)) (star_none hs2.2)).run pins s σ H Q I red

theorem s_isi (hK : X.K = p.K) {p1 p2 : Pos} {T : Str} {t : String} (hg : Gl X "isinstance") (hm : X.mg "isinstance" = none) (hgT : Gl X T) (hmT : X.mg T = none) (hT : tyOf T = some t) (ha : PE X a (rX (RD p) p W fa)) (hs : isStar a = false)
    (hf : ∀ ds M, f ds M = (fa ds M).bind (isiD t)) : PE X (.Call (.Name "isinstance" p1) [a, .Name T p2] [] pos) (rX (RD p) p W f) := by
  have hb : PE X (.Name T p2) (tC (.ty t)) := by
    unfold tyOf at hT
    split at hT
    next e => subst e; cases hT; exact pe_bltn hgT hmT PyProof.Rows.boot_int rfl
    next =>
      split at hT
      next e => subst e; cases hT; exact pe_bltn hgT hmT PyProof.Rows.boot_bool rfl
      next =>
        split at hT
        next e => subst e; cases hT; exact pe_bltn hgT hmT PyProof.Rows.boot_str rfl
        next =>
          split at hT
          next e => subst e; cases hT; exact pe_bltn hgT hmT PyProof.Rows.boot_tuple rfl
          next =>
            split at hT
            next e => subst e; cases hT; exact pe_bltn hgT hmT PyProof.Rows.boot_list rfl
            next => cases hT
  refine ⟨fun pins s σ H Q I h => (pe_callB (pos := pos) (p := p1) call_isi hg hm PyProof.Rows.boot_isinstance (pa_cons ha (pa_cons hb pa_nil) (star_cons hs)) (he := star_cons hs)).run pins s σ H Q I ?_⟩
  show rX (RD p) p W fa σ H fun x H1 => rIsi X.K [x, .ty t] H1 Q
  refine (rd1 (R := RD p) (g := fun _ => isiD t) hf h).mono fun x H1 ⟨ρ, M, ds, d, sl, st, r, q⟩ => ?_
  unfold isiD at q
  split at q
  next t' e =>
    obtain ⟨b, eb, hq⟩ := outB_ok st q
    exact ⟨x, .ty t, .type t', .type t, b, rfl, .ty t, ty_of hK r e, kit_ty eb, hq⟩
  next => exact q.elim

/-! ### ranges as lists -/
theorem lrg_ok {i j : Int} {M : Store} {ρ : List Addr} {H : Hp} {Q : VK} {E : XK} (st : RSt p H ρ M) (h : post (RD p) p H ρ (lrgD (.int i) (.int j) M) Q E) : RgOk i j ∧ ∀ q, H q = none → Q (.ref q) (upd H q (.lst (rgV i j))) := by
  unfold lrgD at h
  dsimp only at h
  split at h
  next hb =>
    have rv : RvL p H ρ (rgV i j) ((List.range (j - i).toNat).map fun (n : Nat) => D.int (i + n)) := by
      have := int_rvs (p := p) (H := H) (ρ := ρ) ((List.range (j - i).toNat).map fun (n : Nat) => i + (n : Int))
      rw [List.map_map, List.map_map] at this
      exact this
    obtain ⟨h1, h2⟩ := newL_ok st rv h
    refine ⟨⟨hb.1, hb.2.1, hb.2.2.1, hb.2.2.2, ?_⟩, h2⟩
    rw [rgV_length, sizeLine_eq] at h1
    exact h1
  next => exact h.elim
theorem s_lrg2 {p1 p2 pos2 : Pos} (hc : X.calm = true) (hg : Gl X "list") (hm : X.mg "list" = none) (hg2 : Gl X "range") (hm2 : X.mg "range" = none) (ha : PE X a (rX (RD p) p W fa)) (hb : PE X b (rX (RD p) p W fb)) (hsa : isStar a = false) (hsb : isStar b = false)
    (hf : ∀ ds M, f ds M = (fa ds M).bind (k2 (fb ds) lrgD)) : PE X (.Call (.Name "list" p1) [.Call (.Name "range" p2) [a, b] [] pos2] [] pos) (rX (RD p) p W f) :=
  ⟨fun pins s σ H Q I h => (pe_listRg hc hg hm (prg_2 hg2 hm2 ha hb (star_cons hsa) (star_cons hsb) (by rw [star_cons hsb]; rfl))).run pins s σ H Q I
    ((rd2 (R2 := RD p) (g := fun _ => lrgD) hf rvgr h).mono fun x H1 h1 => h1.mono fun y H2 ⟨ρ, M, ds, d1, d2, _, st, r1, r2, q⟩ => by
      have key : ∃ i j, d1 = .int i ∧ d2 = .int j := by
        unfold lrgD at q
        split at q
        next i j => exact ⟨i, j, rfl, rfl⟩
        next => exact q.elim
      obtain ⟨i, j, rfl, rfl⟩ := key
      cases r1; cases r2
      obtain ⟨h1, h2⟩ := lrg_ok st q
      exact ⟨i, j, rfl, rfl, h1, h2⟩)⟩
theorem s_lrg1 {p1 p2 pos2 : Pos} (hc : X.calm = true) (hg : Gl X "list") (hm : X.mg "list" = none) (hg2 : Gl X "range") (hm2 : X.mg "range" = none) (hb : PE X b (rX (RD p) p W fb)) (hsb : isStar b = false)
    (hf : ∀ ds M, f ds M = (fb ds M).bind (lrgD (.int 0))) : PE X (.Call (.Name "list" p1) [.Call (.Name "range" p2) [b] [] pos2] [] pos) (rX (RD p) p W f) :=
  ⟨fun pins s σ H Q I h => (pe_listRg hc hg hm (prg_1 hg2 hm2 hb (star_cons hsb))).run pins s σ H Q I
    ((rd1 (R := RD p) (g := fun _ => lrgD (.int 0)) hf h).mono fun y H2 ⟨ρ, M, ds, d2, _, st, r2, q⟩ => by
      have key : ∃ j, d2 = .int j := by
        unfold lrgD at q
        split at q
        next i j e1 => exact ⟨j, rfl⟩
        next => exact q.elim
      obtain ⟨j, rfl⟩ := key
      cases r2
      obtain ⟨h1, h2⟩ := lrg_ok st q
      exact ⟨j, rfl, h1, h2⟩)⟩
end

/-! ### walks -/
/-- J walks itm, whatever has grown meanwhile -/
def Wk (p : Pm) (H : Hp) (ρ : List Addr) (J : L2.It) (itm : Itm) : Prop :=
  ∀ H' ρ' M', RSt p H' ρ' M' → Gr H ρ H' ρ' → itm.chk M' = true → J.stop itm.ds.length H' ∧ ∀ i d, itm.ds[i]? = some d → J.go i H' ∧ ∀ x H'', J.yld i H' x H'' → RSt p H'' ρ' M' ∧ Gr H' ρ' H'' ρ' ∧ Rv p H'' ρ' x d
theorem Wk.gr {p : Pm} {H H' : Hp} {ρ ρ' : List Addr} {J : L2.It} {itm : Itm} (w : Wk p H ρ J itm) (g : Gr H ρ H' ρ') : Wk p H' ρ' J itm := fun H2 ρ2 M2 st g2 c => w H2 ρ2 M2 st (g.trans g2) c
theorem wk_tup {X : Cx} {p : Pm} (hK : X.K = p.K) {H : Hp} {ρ : List Addr} {a : Addr} {vs : List V} {ds : List D} (s : SqT p.K H a vs) (r : RvL p H ρ vs ds) : Wk p H ρ (Itt X.K a) (.fix ds) := by
  intro H' ρ' M' st g _
  have s' : SqT X.K H' a vs := by rw [hK]; exact g.ext.sqt s
  have r' := r.gr g
  refine ⟨⟨vs, s', by rw [r.length]; exact Nat.le_refl _⟩, fun i d hd => ?_⟩
  obtain ⟨v, hv, rv⟩ := r'.get hd
  refine ⟨⟨vs, v, s', hv⟩, fun x H'' y => ?_⟩
  obtain ⟨rfl, y⟩ := y
  have := y vs s'
  rw [hv] at this
  cases this
  exact ⟨st, .refl _ _, rv⟩
theorem wk_lst {X : Cx} {p : Pm} (hK : X.K = p.K) {H : Hp} {ρ : List Addr} {a : Addr} {l : Nat} {ds : List D} (h : ρ[l]? = some a) : Wk p H ρ (Itl X.K a) (.lis l ds) := by
  intro H' ρ' M' st g c
  have h' := g.pre.get h
  unfold Itm.chk at c
  dsimp only at c
  split at c
  next xs e =>
    have e2 := D.beqL_eq _ _ c
    subst e2
    obtain ⟨vs, hv, rv⟩ := st.get h' e
    have s' : SqL X.K H' a vs := .of hv
    refine ⟨⟨vs, s', by rw [rv.length]; exact Nat.le_refl _⟩, fun i d hd => ?_⟩
    obtain ⟨v, hv', rv'⟩ := rv.get hd
    refine ⟨⟨vs, v, s', hv'⟩, fun x H'' y => ?_⟩
    obtain ⟨rfl, y⟩ := y
    have := y vs s'
    rw [hv'] at this
    cases this
    exact ⟨st, .refl _ _, rv'⟩
  next => cases c
theorem wk_rng {p : Pm} {H : Hp} {ρ : List Addr} {lo : Int} {n : Nat} : Wk p H ρ (Itr lo n) (.fix ((List.range n).map fun (k : Nat) => D.int (lo + k))) := by
  intro H' ρ' M' st g _
  refine ⟨by show n ≤ _; simp [Itm.ds], fun i d hd => ?_⟩
  have hd : ((List.range n).map fun (k : Nat) => D.int (lo + k))[i]? = some d := hd
  rw [List.getElem?_map] at hd
  cases q : (List.range n)[i]? with
  | none => rw [q] at hd; cases hd
  | some k =>
    rw [q] at hd
    cases hd
    obtain ⟨h1, h2⟩ := List.getElem?_eq_some_iff.mp q
    rw [List.getElem_range] at h2
    subst h2
    have h1 : i < n := by simpa using h1
    refine ⟨h1, fun x H'' y => ?_⟩
    obtain ⟨rfl, rfl⟩ := y
    exact ⟨st, .refl _ _, .int _⟩
end BH
end

section
set_option Elab.async false
set_option linter.all false
set_option maxRecDepth 100000
set_option maxHeartbeats 1000000
/-! Iterables, targets, comprehensions. -/
namespace BH
open PySem PySem.Spec L2

def W0 : WX := fun _ _ _ _ => False
def E0' : XK := fun _ _ _ => False
section
variable {X : Cx} {p : Pm} {W : WX} {a b e o tg : Expr} {es : List Expr} {pos : Pos} {fa fb : Env → Store → Out D} {fi : Env → Store → Out Itm}
/-! ### what is walked -/
theorem i_ex (hK : X.K = p.K) (he : PE X e (rX (RD p) p W fa)) (hf : ∀ ds M, fi ds M = (fa ds M).bind itmD) : PI X tg e (rX (Wk p) p W fi) := by
  refine ⟨fun pins s σ H R I h => ?_⟩
  obtain ⟨ρ, M, ds, sl, st, h⟩ := h
  rw [hf] at h
  cases e1 : fa ds M with
  | ok d M1 =>
    rw [e1] at h
    have h : post (Wk p) p H ρ (itmD d M1) R (WE W σ) := h
    unfold itmD at h
    split at h
    next xs =>
      refine (pi_tup (tg := tg) he).run pins s σ H R I ⟨ρ, M, ds, sl, st, ?_⟩
      rw [e1]
      intro x H1 ρ1 st1 g1 r1
      cases r1 with
      | tup h1 h2 => exact ⟨_, rfl, ⟨_, by rw [hK]; exact h1⟩, h _ _ ρ1 st1 g1 (wk_tup hK h1 h2)⟩
    next l =>
      split at h
      next xs e2 =>
        refine (pi_list (tg := tg) he).run pins s σ H R I ⟨ρ, M, ds, sl, st, ?_⟩
        rw [e1]
        intro x H1 ρ1 st1 g1 r1
        obtain ⟨a, vs, rfl, k1, k2, k3⟩ := lst_of st1 r1 e2
        exact ⟨_, rfl, ⟨vs, .of k2⟩, h _ _ ρ1 st1 g1 (wk_lst hK k1)⟩
      next => exact h.elim
    next => exact h.elim
  | ex x M1 =>
    rw [e1] at h
    refine (pi_tup (tg := tg) he).run pins s σ H R I ⟨ρ, M, ds, sl, st, ?_⟩
    rw [e1]
    exact h
  | bad =>
    rw [e1] at h
    exact h.elim
theorem i_rng2 {p1 : Pos} (hg : Gl X "range") (hm : X.mg "range" = none) (ha : PE X a (rX (RD p) p W fa)) (hb : PE X b (rX (RD p) p W fb)) (hsa : isStar a = false) (hsb : isStar b = false) (hf : ∀ ds M, fi ds M = (fa ds M).bind (k2 (fb ds) rngD)) :
    PI X tg (.Call (.Name "range" p1) [a, b] [] pos) (rX (Wk p) p W fi) :=
  ⟨fun pins s σ H R I h => (pi_range2 hg hm (pa_cons ha (pa_cons hb pa_nil (star_cons hsb)) (star_cons hsa)) (by rw [star_cons hsa, star_cons hsb]; rfl) (by rw [star_cons hsb]; rfl)).run pins s σ H R I
    ((rd2 (R2 := RD p) (g := fun _ => rngD) hf rvgr h).mono fun x H1 h1 => h1.mono fun y H2 ⟨ρ, M, ds, d1, d2, _, st, r1, r2, q⟩ => by
      unfold rngD at q
      split at q
      next i j =>
        cases r1; cases r2
        split at q
        next hb => exact ⟨i, j, rfl, ⟨hb.1, hb.2.1, hb.2.2.1, hb.2.2.2⟩, post_now (R := Wk p) q st wk_rng⟩
        next => exact q.elim
      next => exact q.elim)⟩
theorem i_rng1 {p1 : Pos} (hg : Gl X "range") (hm : X.mg "range" = none) (hb : PE X b (rX (RD p) p W fb)) (hsb : isStar b = false) (hf : ∀ ds M, fi ds M = (fb ds M).bind (rngD (.int 0))) :
    PI X tg (.Call (.Name "range" p1) [b] [] pos) (rX (Wk p) p W fi) :=
  ⟨fun pins s σ H R I h => (pi_range1 hg hm (pa_cons hb pa_nil (star_cons hsb)) (by rw [star_cons hsb]; rfl)).run pins s σ H R I
    ((rd1 (R := RD p) (g := fun _ => rngD (.int 0)) hf h).mono fun y H2 ⟨ρ, M, ds, d2, _, st, r2, q⟩ => by
      unfold rngD at q
      split at q
      next i j e1 =>
        cases e1; cases r2
        split at q
        next hb =>
          refine ⟨j, rfl, hb.2.2.1, hb.2.2.2, ?_⟩
          rw [Int.sub_zero] at q
          exact post_now (R := Wk p) q st wk_rng
        next => exact q.elim
      next => exact q.elim)⟩
end

/-! ### targets -/
def RO (p : Pm) (ts : List Nat) (σ : L2.St) : Hp → List Addr → L2.St → Env → Prop := fun H ρ σ' ds' => RSl p H ρ σ' ds' ∧ σ'.length = σ.length ∧ ∀ j, j ∉ ts → σ'[j]? = σ[j]?
def rG (p : Pm) (ts : List Nat) (f : D → Env → Store → Out Env) : TG := fun v σ H Q => ∃ ρ M ds d, RSl p H ρ σ ds ∧ RSt p H ρ M ∧ Rv p H ρ v d ∧ post (RO p ts σ) p H ρ (f d ds M) Q E0'
def rGs (p : Pm) (ts : List Nat) (f : List D → Env → Store → Out Env) : TGs := fun vs σ H Q => ∃ ρ M ds xs, RSl p H ρ σ ds ∧ RSt p H ρ M ∧ RvL p H ρ vs xs ∧ post (RO p ts σ) p H ρ (f xs ds M) Q E0'
section
variable {X : Cx} {p : Pm} {o i e : Expr} {es : List Expr} {pos : Pos} {fa fb : Env → Store → Out D} {gf : D → Env → Store → Out Env} {gs : List D → Env → Store → Out Env} {ts us : List Nat}
theorem g_name {j : Nat} {x : Str} (hN : X.N.Nodup) (hi : X.N[j]? = some x) (hx : Loc X.env.scope x) (hfn : X.fn x = true ∨ X.env.scope.names.lookup x = some .local) (hf : ∀ d ds M, gf d ds M = .ok (ds.set j (some d)) M) : PG X (.Name x pos) (rG p [j] gf) := by
  refine ⟨fun pins s σ H v u Q I r h => (pg_name (pos := pos) hN hi hx hfn).run pins s σ H v u Q I r ?_⟩
  obtain ⟨ρ, M, ds, d, sl, st, rv, h⟩ := h
  rw [hf] at h
  refine post_now (R := RO p [j] σ) h st ⟨sl.set j rv, by simp, fun k hk => ?_⟩
  rw [List.getElem?_set_ne]
  intro z
  exact hk (by simp [z])
theorem asg_sub {env : PySem.Env} (h : notSlice i = true) : ∀ v, assign (.Subscript o i pos) env v = (do
      let ov ← holding [v] (eval o env)
      let iv ← holding [v, ov] (eval i env)
      standAt pos
      holding [v, ov, iv] (setItem ov iv v)
      release [v, ov, iv] []) := by
  intro v
  cases i <;> first | rfl | (simp [notSlice] at h)
theorem g_sub (hn : notSlice i = true) (hu : X.A.units + 65 < cLine) (ho : PE X o (rX (RD p) p W0 fa)) (hi : PE X i (rX (RD p) p W0 fb)) (hf : ∀ d ds M, gf d ds M = (fa ds M).bind (k2 (fb ds) (kSet ds d))) : PG X (.Subscript o i pos) (rG p [] gf) := by
  refine ⟨fun pins s σ H v u Q I r h => (pg_sub (pos := pos) ho hi (set_sub (p := p) (E := E0') hu) (asg_sub hn)).run pins s σ H v u Q I r ?_⟩
  obtain ⟨ρ, M, ds, d, sl, st, rv, h⟩ := h
  rw [hf] at h
  refine ⟨ρ, M, ds, sl, st, (post.bind (R := RD p) h).mono fun x H1 ⟨ρ1, M1, a, st1, g1, r1, h1⟩ => ?_⟩
  have h1 : post (RO p [] σ) p H1 ρ1 ((fb ds M1).bind (kSet ds d a)) Q E0' := h1
  refine ⟨ρ1, M1, ds, sl.gr g1, st1, (post.bind (R := RD p) h1).mono fun y H2 ⟨ρ2, M2, b, st2, g2, r2, h2⟩ => ?_⟩
  have h2 : post (RO p [] σ) p H2 ρ2 ((setD a b d M2).bind (kOk fun _ => ds)) Q E0' := h2
  refine ⟨ρ2, M2, a, b, d, st2, r1.gr g2, r2, (rv.gr g1).gr g2, (post.bind (R := fun _ _ (_ : Unit) (_ : Unit) => True) h2).mono fun _ H3 ⟨ρ3, M3, _, st3, g3, _, h3⟩ => ?_⟩
  exact post_now (R := RO p [] σ) h3 st3 ⟨((sl.gr g1).gr g2).gr g3, rfl, fun _ _ => rfl⟩
theorem gs_nil (hf : ∀ ds M, gs [] ds M = .ok ds M) (hf2 : ∀ d xs ds M, gs (d :: xs) ds M = .bad) : PGs X [] (rGs p [] gs) := by
  refine ⟨fun pins s σ H vs us Q I r h => pgs_nil.run pins s σ H vs us Q I r ?_⟩
  obtain ⟨ρ, M, ds, xs, sl, st, rv, h⟩ := h
  cases rv with
  | nil =>
    rw [hf] at h
    exact ⟨rfl, post_now (R := RO p [] σ) h st ⟨sl, rfl, fun _ _ => rfl⟩⟩
  | cons _ _ => rw [hf2] at h; exact h.elim
theorem assign_cons {env : PySem.Env} (hs : isStar e = false) : assignEach (e :: es) env = (false, assign e env) :: assignEach es env := by
  cases e <;> first | rfl | (simp [isStar] at hs)
theorem gs_cons {gr : List D → Env → Store → Out Env} (hs : isStar e = false) (h1 : PG X e (rG p ts gf)) (h2 : PGs X es (rGs p us gr)) (hf : ∀ d xs ds M, gs (d :: xs) ds M = (gf d ds M).bind (gr xs)) (hf0 : ∀ ds M, gs [] ds M = .bad) :
    PGs X (e :: es) (rGs p (ts ++ us) gs) := by
  refine ⟨fun pins s σ H vs ws Q I r h => (pgs_cons h1 h2 (by rw [assign_cons hs]; rfl)).run pins s σ H vs ws Q I r ?_⟩
  obtain ⟨ρ, M, ds, xs, sl, st, rv, h⟩ := h
  cases rv with
  | nil => rw [hf0] at h; exact h.elim
  | @cons v vs d ds' r1 r2 =>
    rw [hf] at h
    refine ⟨v, vs, rfl, ρ, M, ds, d, sl, st, r1, (post.bind (R := RO p ts σ) h).mono fun σ1 H1 ⟨ρ1, M1, ds1, st1, g1, ⟨sl1, l1, o1⟩, q⟩ => ?_⟩
    refine ⟨ρ1, M1, ds1, ds', sl1, st1, r2.gr g1, ?_⟩
    cases e2 : gr ds' ds1 M1 with
    | ok ds2 M2 =>
      rw [e2] at q
      exact fun σ2 H2 ρ2 st2 g2 ⟨sl2, l2, o2⟩ => q σ2 H2 ρ2 st2 g2 ⟨sl2, l2.trans l1, fun j hj => (o2 j fun z => hj (List.mem_append_right _ z)).trans (o1 j fun z => hj (List.mem_append_left _ z))⟩
    | ex x M2 => rw [e2] at q; exact q
    | bad => rw [e2] at q; exact q
theorem assign_len {env : PySem.Env} : ∀ {es : List Expr}, (es.all fun e => !isStar e) = true → (assignEach es env).length = es.length
  | [], _ => rfl
  | e :: es, h => by
    rw [List.all_cons, Bool.and_eq_true_iff] at h
    rw [assign_cons (by simpa using h.1), List.length_cons, List.length_cons, assign_len h.2]
theorem assign_star {env : PySem.Env} : ∀ {es : List Expr}, (es.all fun e => !isStar e) = true → (assignEach es env).findIdx? (·.1) = none
  | [], _ => rfl
  | e :: es, h => by
    rw [List.all_cons, Bool.and_eq_true_iff] at h
    rw [assign_cons (by simpa using h.1), List.findIdx?_cons, if_neg (by simp), assign_star h.2]
    rfl
theorem g_tup (hK : X.K = p.K) {k n : Nat} (hc : X.calm = true) (hst : (es.all fun e => !isStar e) = true) (hn : es.length = n) (h : PGs X es (rGs p ts gs))
    (hf : ∀ d ds M, gf d ds M = match d with
      | .tup xs => if xs.length = n then gs xs ds M else .bad
      | .ll l => match M[l]? with
        | some (.lst xs) => if xs.length = n then gs xs ds M else .bad
        | _ => .bad
      | _ => .bad) : PG X (.Tuple es k pos) (rG p ts gf) := by
  refine ⟨fun pins s σ H v u Q I r hr => ?_⟩
  obtain ⟨ρ, M, ds, d, sl, st, rv, q⟩ := hr
  rw [hf] at q
  split at q
  next xs =>
    split at q
    next hl =>
      cases rv with
      | tup h1 h2 =>
        refine (pg_tup (pos := pos) (n := n) hc h ((assign_len hst).trans hn) (assign_star hst)).run pins s σ H _ u Q I r ⟨_, _, rfl, by rw [hK]; exact h1, h2.length.trans hl, ρ, M, ds, xs, sl, st, h2, q⟩
    next => exact q.elim
  next l =>
    split at q
    next xs e =>
      split at q
      next hl =>
        obtain ⟨a, vs, rfl, k1, k2, k3⟩ := lst_of st rv e
        exact (pg_lst (pos := pos) (n := n) hc h ((assign_len hst).trans hn) (assign_star hst)).run pins s σ H _ u Q I r ⟨_, _, rfl, .of k2, k3.length.trans hl, ρ, M, ds, xs, sl, st, k3, q⟩
      next => exact q.elim
    next => exact q.elim
  next => exact q.elim
end

/-! ### comprehensions -/
theorem wipe_get (σ : L2.St) (j : Nat) : ∀ vs : List Nat, (L2.wipe σ vs)[j]? = if j ∈ vs then (σ[j]?).map (fun _ => none) else σ[j]?
  | [] => by simp [L2.wipe]
  | v :: vs => by
    show ((L2.wipe σ vs).set v none)[j]? = _
    rw [List.getElem?_set]
    by_cases hv : v = j
    · subst hv
      simp only [if_true, List.mem_cons, true_or, L2.wipe_length]
      by_cases hl : v < σ.length
      · rw [if_pos hl, List.getElem?_eq_getElem hl]; rfl
      · rw [if_neg hl, List.getElem?_eq_none (by omega)]; rfl
    · rw [if_neg hv, wipe_get σ j vs]
      have : (j ∈ v :: vs) ↔ j ∈ vs := by simp [Ne.symm hv]
      simp only [this]
theorem wipe_off {σ σ2 : L2.St} {ts vs : List Nat} (hl : σ2.length = (L2.wipe σ vs).length) (ho : ∀ j, j ∉ ts → σ2[j]? = (L2.wipe σ vs)[j]?) (hs : ∀ i ∈ ts, i ∈ vs) : L2.wipe σ2 vs = L2.wipe σ vs := by
  apply List.ext_getElem?
  intro j
  rw [wipe_get, wipe_get]
  by_cases hj : j ∈ vs
  · rw [if_pos hj, if_pos hj]
    rw [L2.wipe_length] at hl
    by_cases h : j < σ.length
    · rw [List.getElem?_eq_getElem h, List.getElem?_eq_getElem (by omega)]; rfl
    · rw [List.getElem?_eq_none (by omega), List.getElem?_eq_none (by omega)]
  · rw [if_neg hj, if_neg hj, ho j (fun z => hj (hs j z)), wipe_get, if_neg hj]
theorem Gr.keepOut {H H' : Hp} {ρ ρ' : List Addr} (g : Gr H ρ H' ρ') {q : Addr} {o : HO} (hq : q ∉ ρ) (h : H q = some o) : q ∉ ρ' ∧ H' q = some o := by
  refine ⟨fun z => ?_, g.oth q o h hq⟩
  obtain ⟨t, rfl, n⟩ := g.new_
  rcases List.mem_append.mp z with z | z
  · exact hq z
  · rw [n q z] at h; cases h
theorem RSt.off {p : Pm} {H : Hp} {ρ : List Addr} {M : Store} (s : RSt p H ρ M) {q : Addr} {xs ys : List V} (hq : q ∉ ρ) (h : H q = some (.lst xs)) : RSt p (L2.upd H q (.lst ys)) ρ M := by
  refine ⟨s.len, s.nd, fun l mo hm => ?_⟩
  obtain ⟨a, ha, r⟩ := s.at_ l mo hm
  exact ⟨a, ha, r.ext (.setL h) (.refl _) (upd_ne fun z => hq (by rw [← z]; exact List.mem_of_getElem? ha))⟩
theorem Gr.off {H1 H : Hp} {ρ1 ρ : List Addr} (g : Gr H1 ρ1 H ρ) {q : Addr} {xs ys : List V} (h1 : H1 q = none) (h : H q = some (.lst xs)) : Gr H1 ρ1 (L2.upd H q (.lst ys)) ρ :=
  ⟨g.ext.trans (.setL h), g.new_, fun a o ha hn => by rw [upd_ne (fun z => by rw [z, h1] at ha; cases ha)]; exact g.oth a o ha hn⟩
/-- an object that stood outside is taken in -/
theorem RSt.adopt {p : Pm} {H : Hp} {ρ : List Addr} {M : Store} (s : RSt p H ρ M) {q : Addr} {mo : MO} (hq : q ∉ ρ) (hm : RMO p H (ρ ++ [q]) q mo) : RSt p H (ρ ++ [q]) (M ++ [mo]) := by
  refine ⟨by simp [s.len], ?_, fun l mo' h => ?_⟩
  · rw [List.nodup_append]
    refine ⟨s.nd, by simp, fun a ha b hb => ?_⟩
    have : b = q := by simpa using hb
    subst this
    intro e
    subst e
    exact hq ha
  · by_cases hl : l < M.length
    · rw [List.getElem?_append_left hl] at h
      obtain ⟨a, ha, r⟩ := s.at_ l mo' h
      exact ⟨a, (Pre.push ρ q).get ha, r.ext (.refl _) (.push _ _) rfl⟩
    · have hl2 : l < (M ++ [mo]).length := (List.getElem?_eq_some_iff.mp h).1
      have hle : l = M.length := by simp at hl2; omega
      subst hle
      rw [List.getElem?_append_right (Nat.le_refl _)] at h
      simp at h
      subst h
      refine ⟨q, ?_, hm⟩
      rw [← s.len, List.getElem?_append_right (Nat.le_refl _)]
      simp
theorem Gr.adopt {H1 H : Hp} {ρ1 ρ : List Addr} (g : Gr H1 ρ1 H ρ) {q : Addr} (h1 : H1 q = none) : Gr H1 ρ1 H (ρ ++ [q]) := by
  obtain ⟨t, e, n⟩ := g.new_
  refine ⟨g.ext, ⟨t ++ [q], by rw [e, List.append_assoc], fun a ha => ?_⟩, g.oth⟩
  rcases List.mem_append.mp ha with z | z
  · exact n a z
  · rw [List.mem_singleton.mp z]; exact h1

section
variable {chk : Store → Bool} {gf : D → Env → Store → Out Env} {tf : Env → Store → Out Bool} {ef : Env → Store → Out D} {σw : Env}
theorem lcL_len : ∀ (xs acc : List D) (M : Store), lcL chk gf tf ef σw xs acc M ≠ .bad → acc.length ≤ szl
  | [], acc, M, h => by
    unfold lcL at h
    split at h
    · unfold newL at h
      split at h
      · assumption
      · exact absurd rfl h
    · exact absurd rfl h
  | x :: xs, acc, M, h => by
    unfold lcL at h
    split at h
    · cases e1 : gf x σw M with
      | ok σ2 M2 =>
        rw [e1] at h
        cases e2 : tf σ2 M2 with
        | ok t M3 =>
          have h : (tf σ2 M2).bindN (lcK2 ef (lcL chk gf tf ef σw xs) acc σ2) ≠ .bad := h
          rw [e2] at h
          cases t with
          | true =>
            have h : (ef σ2 M3).bindN (lcK3 (lcL chk gf tf ef σw xs) acc) ≠ .bad := h
            cases e3 : ef σ2 M3 with
            | ok d M4 =>
              rw [e3] at h
              have := lcL_len xs (acc ++ [d]) M4 h
              simp at this
              omega
            | ex _ _ => rw [e3] at h; exact absurd rfl h
            | bad => rw [e3] at h; exact absurd rfl h
          | false => exact lcL_len xs acc M3 h
        | ex _ _ =>
          have h : (tf σ2 M2).bindN (lcK2 ef (lcL chk gf tf ef σw xs) acc σ2) ≠ .bad := h
          rw [e2] at h
          exact absurd rfl h
        | bad =>
          have h : (tf σ2 M2).bindN (lcK2 ef (lcL chk gf tf ef σw xs) acc σ2) ≠ .bad := h
          rw [e2] at h
          exact absurd rfl h
      | ex _ _ => rw [e1] at h; exact absurd rfl h
      | bad => rw [e1] at h; exact absurd rfl h
    · exact absurd rfl h
end
theorem post.nbad {α β : Type} {R : Hp → List Addr → β → α → Prop} {p : Pm} {H : Hp} {ρ : List Addr} {o : Out α} {Q : β → Hp → Prop} {E : XK} (h : post R p H ρ o Q E) : o ≠ .bad := fun z => by rw [z] at h; exact h

theorem lc_rd {p : Pm} {W : WX} {f : Env → Store → Out D} {fi : Env → Store → Out Itm} {gf : D → Env → Store → Out Env} {tf : Env → Store → Out Bool} {ef : Env → Store → Out D} {ts vs : List Nat} {σ : L2.St} {H : Hp} {Q : VK}
    (hs : ∀ i ∈ ts, i ∈ vs) (hf : ∀ ds M, f ds M = (fi ds M).bind (kLc gf tf ef (wipeD ds vs))) (h : rX (RD p) p W f σ H Q) :
    tLc (rX (Wk p) p W fi) (rG p ts gf) (rX RB p W0 tf) (rX (RD p) p W0 ef) vs σ H Q := by
  refine (rd1 (R := Wk p) (g := fun ds => kLc gf tf ef (wipeD ds vs)) hf h).mono fun J H1 ⟨ρ1, M1, ds, itm, sl, st, wk, q⟩ => ?_
  intro B hB
  have q : post (RD p) p H1 ρ1 (lcL itm.chk gf tf ef (wipeD ds vs) itm.ds [] M1) Q (WE W σ) := q
  generalize hσw : wipeD ds vs = σw at q
  have slw : RSl p H1 ρ1 (L2.wipe σ vs) σw := by rw [← hσw]; exact sl.wipe
  refine ⟨fun i m H => m = itm.ds.length - i ∧ i ≤ itm.ds.length ∧ ∃ ρ M acc vacc, RSt p H ρ M ∧ Gr H1 ρ1 H ρ ∧ B ∉ ρ ∧ H B = some (.lst vacc) ∧ RvL p H ρ vacc acc ∧
    post (RD p) p H1 ρ1 (lcL itm.chk gf tf ef σw (itm.ds.drop i) acc M) Q (WE W σ), ⟨itm.ds.length, by simp, Nat.zero_le _, ρ1, M1, [], [], st.grow hB, .new hB, st.free hB, upd_same, .nil, q⟩, ?_⟩
  rintro i m H ⟨rfl, hi, ρ, M, acc, vacc, st, g, hBρ, hHB, racc, q⟩
  by_cases hlt : i < itm.ds.length
  · obtain ⟨x, hx⟩ : ∃ x, itm.ds[i]? = some x := ⟨_, List.getElem?_eq_getElem hlt⟩
    have ed : itm.ds.drop i = x :: itm.ds.drop (i + 1) := by
      obtain ⟨h1, h2⟩ := List.getElem?_eq_some_iff.mp hx
      rw [List.drop_eq_getElem_cons hlt, h2]
    rw [ed] at q
    unfold lcL at q
    by_cases hc : itm.chk M = true
    · rw [if_pos hc] at q
      obtain ⟨_, w2⟩ := wk H ρ M st g hc
      obtain ⟨go, w3⟩ := w2 i x hx
      refine .inr ⟨go, fun H => ∃ ρ M acc vacc, RSt p H ρ M ∧ Gr H1 ρ1 H ρ ∧ B ∉ ρ ∧ H B = some (.lst vacc) ∧ RvL p H ρ vacc acc ∧
        post (RD p) p H1 ρ1 (lcL itm.chk gf tf ef σw (itm.ds.drop (i + 1)) acc M) Q (WE W σ), fun H' nx => ⟨itm.ds.length - (i + 1), by omega, rfl, hlt, nx⟩, fun v H' y => ?_⟩
      obtain ⟨sty, gy, rv⟩ := w3 v H' y
      obtain ⟨hBρ, hHB⟩ := gy.keepOut hBρ hHB
      replace racc := racc.gr gy
      replace g := g.trans gy
      refine ⟨ρ, M, σw, x, slw.gr g, sty, rv, ?_⟩
      cases e1 : gf x σw M with
      | ex _ _ => rw [e1] at q; exact q.elim
      | bad => rw [e1] at q; exact q.elim
      | ok σ2d M2 =>
        rw [e1] at q
        have q : post (RD p) p H1 ρ1 ((tf σ2d M2).bindN (lcK2 ef (lcL itm.chk gf tf ef σw (itm.ds.drop (i + 1))) acc σ2d)) Q (WE W σ) := q
        rintro σ2 H2 ρ2 st2 g2 ⟨sl2, l2, o2⟩
        refine ⟨wipe_off l2 o2 hs, ρ2, M2, σ2d, sl2, st2, ?_⟩
        cases e2 : tf σ2d M2 with
        | ex _ _ => rw [e2] at q; exact q.elim
        | bad => rw [e2] at q; exact q.elim
        | ok t M3 =>
          rw [e2] at q
          intro b H3 ρ3 st3 g3 rb
          cases rb
          obtain ⟨n3, k3⟩ := (g2.trans g3).keepOut hBρ hHB
          cases t with
          | false =>
            rw [if_neg (by decide)]
            exact ⟨ρ3, M3, acc, vacc, st3, g.trans (g2.trans g3), n3, k3, racc.gr (g2.trans g3), q⟩
          | true =>
            rw [if_pos rfl]
            have q : post (RD p) p H1 ρ1 ((ef σ2d M3).bindN (lcK3 (lcL itm.chk gf tf ef σw (itm.ds.drop (i + 1))) acc)) Q (WE W σ) := q
            refine ⟨ρ3, M3, σ2d, sl2.gr g3, st3, ?_⟩
            cases e3 : ef σ2d M3 with
            | ex _ _ => rw [e3] at q; exact q.elim
            | bad => rw [e3] at q; exact q.elim
            | ok d M4 =>
              rw [e3] at q
              intro y H4 ρ4 st4 g4 r4
              have q : post (RD p) p H1 ρ1 (lcL itm.chk gf tf ef σw (itm.ds.drop (i + 1)) (acc ++ [d]) M4) Q (WE W σ) := q
              obtain ⟨n4, k4⟩ := g4.keepOut n3 k3
              have gg := g.trans ((g2.trans g3).trans g4)
              have r4' := racc.gr ((g2.trans g3).trans g4)
              refine ⟨vacc, k4, ?_, ρ4, M4, acc ++ [d], vacc ++ [y], st4.off n4 k4, gg.off hB k4, n4, upd_same, ?_, q⟩
              · have := lcL_len _ _ _ q.nbad
                rw [List.length_append, List.length_singleton, szl_eq] at this
                rw [r4'.length]
                omega
              · exact RvL.ext (.setL k4) (.refl _) _ _ (r4'.append (.cons r4 .nil))
    · rw [if_neg hc] at q; exact q.elim
  · have ei : i = itm.ds.length := by omega
    subst ei
    rw [List.drop_length] at q
    unfold lcL at q
    by_cases hc : itm.chk M = true
    · rw [if_pos hc] at q
      obtain ⟨w1, _⟩ := wk H ρ M st g hc
      refine .inl ⟨w1, ?_⟩
      unfold newL at q
      by_cases hz : acc.length ≤ szl
      · rw [if_pos hz] at q
        refine q _ _ (ρ ++ [B]) (st.adopt hBρ ⟨vacc, hHB, RvL.ext (.refl _) (.push _ _) _ _ racc⟩) (g.adopt hB) (.ll ?_ ⟨vacc, hHB⟩)
        rw [← st.len, List.getElem?_append_right (Nat.le_refl _)]
        simp
      · rw [if_neg hz] at q; exact q.elim
    · rw [if_neg hc] at q; exact q.elim
end BH
end

section
set_option Elab.async false
set_option linter.all false
set_option maxRecDepth 100000
set_option maxHeartbeats 1000000
/-! sorted of data; a dict's display; a call without arguments. -/
namespace BH
open PySem PySem.Spec L2

section
variable {X : Cx} {p : Pm} {W : WX} {a b : Expr} {pos p1 : Pos} {f fa fb : Env → Store → Out D}
abbrev Tri : Type := V × (PyData × D)
theorem tri_of {H : Hp} {ρ : List Addr} {M : Store} : ∀ {vs : List V} {xs : List D} {ps : List (PyData × D)}, RvL p H ρ vs xs → resL M xs = some ps → ∃ bs : List Tri, bs.map (·.1) = vs ∧ bs.map (·.2) = ps ∧ ∀ b ∈ bs, Rv p H ρ b.1 b.2.2 ∧ res 66 M b.2.2 = some b.2.1
  | _, [], ps, r, h => by
    cases r
    simp only [resL, mapO, Option.some.injEq] at h
    subst h
    exact ⟨[], rfl, rfl, fun _ z => by cases z⟩
  | _, x :: xs, ps, r, h => by
    cases r with
    | @cons v vs d ds r1 r2 =>
      unfold resL at h
      simp only [mapO] at h
      cases e : res 66 M x with
      | none => rw [e] at h; cases h
      | some y =>
        rw [e] at h
        cases e2 : mapO (fun d => (res 66 M d).map fun x => (x, d)) xs with
        | none => rw [e2] at h; cases h
        | some qs =>
          rw [e2] at h
          cases h
          obtain ⟨bs, h1, h2, h3⟩ := tri_of r2 (show resL M xs = some qs from e2)
          refine ⟨(v, (y, x)) :: bs, by rw [List.map_cons, h1], by rw [List.map_cons, h2], fun b hb => ?_⟩
          rcases List.mem_cons.mp hb with z | z
          · subst z; exact ⟨r1, e⟩
          · exact h3 b z
theorem each_tri {R : Value → Tri → Prop} : ∀ {us : List Value} {bs : List Tri}, Vals (bs.map (·.1)) us → (∀ b ∈ bs, ∀ v, RelV b.1 v → R v b) → PySem.W.EachIs R us bs
  | _, [], h, _ => by cases h; exact .nil
  | _, b :: bs, h, k => by
    cases h with
    | cons h1 h2 => exact .cons (k b List.mem_cons_self _ h1) (each_tri h2 fun b hb => k b (List.mem_cons_of_mem _ hb))
theorem tri_out {R : Tri → Prop} : ∀ {us : List Value} {bs : List Tri}, PySem.W.EachIs (fun v b => RelV b.1 v ∧ R b) us bs → Vals (bs.map (·.1)) us ∧ ∀ b ∈ bs, R b
  | _, [], h => by cases h; exact ⟨.nil, fun _ z => by cases z⟩
  | _, b :: bs, h => by
    cases h with
    | cons h1 h2 =>
      obtain ⟨i1, i2⟩ := tri_out h2
      exact ⟨.cons h1.1 i1, fun c hc => by
        rcases List.mem_cons.mp hc with z | z
        · subst z; exact h1.2
        · exact i2 c z⟩
theorem tri_rv {H : Hp} {ρ : List Addr} : ∀ {bs : List Tri}, (∀ b ∈ bs, Rv p H ρ b.1 b.2.2) → RvL p H ρ (bs.map (·.1)) (bs.map fun b => b.2.2)
  | [], _ => .nil
  | b :: bs, h => .cons (h b List.mem_cons_self) (tri_rv fun c hc => h c (List.mem_cons_of_mem _ hc))
def rSrt (p : Pm) (E : XK) : List V → Hp → VK → Prop := fun xs H Q => ∃ ρ M d x, xs = [x] ∧ RSt p H ρ M ∧ Rv p H ρ x d ∧ post (RD p) p H ρ (srtD d M) Q E
theorem cr_srt {E : XK} (hK : X.K = p.K) (hu : X.A.units + 70 < cLine) : CallR X (.builtin "sorted") (rSrt p E) := by
  intro pins s σ H vs us Q I r h
  obtain ⟨ρ, M, d, x, rfl, st, rx, h⟩ := h
  unfold srtD at h
  split at h
  next l =>
    split at h
    next xs e =>
      split at h
      next ps eps =>
        split at h
        next hok =>
          obtain ⟨a, ws, rfl, g1, g2, g3⟩ := lst_of st rx e
          obtain ⟨its, rv, pl, _⟩ := I.list (SqL.of g2)
          rw [Vals.ref1 r]
          obtain ⟨bs, hb1, hb2, hb3⟩ := tri_of g3 eps
          rw [← hb1] at rv
          have ep : bs.map (fun b => b.2.1) = ps.map (·.1) := by rw [← hb2, List.map_map]; rfl
          unfold srtOk at hok
          rw [← ep, Bool.and_eq_true_iff, Bool.and_eq_true_iff] at hok
          obtain ⟨⟨k1, k2⟩, k3⟩ := hok
          rw [List.all_eq_true] at k1 k3
          have hal : PySem.W.AllAlike (bs.map fun b => b.2.1) := fun d hd d' hd' => (List.all_eq_true.mp (k1 d hd)) d' hd'
          have hsr : PySem.W.Sortable (bs.map fun b => b.2.1) := by
            rcases Bool.or_eq_true_iff.mp k2 with k2 | k2
            · rw [List.all_eq_true] at k2
              refine .inl fun d hd => ?_
              have := k2 d hd
              split at this
              next y ys => exact ⟨y, ys, rfl⟩
              next => cases this
            · rw [List.all_eq_true] at k2
              refine .inr fun d hd => ?_
              have := k2 d hd
              split at this
              next => cases this
              next => cases this
              next n1 n2 => exact ⟨n1, n2⟩
          have hlen : bs.length ≤ sizeLine := by
            unfold newL at h
            split at h
            next hz => rw [← szl_eq]; rw [List.length_map, List.length_mergeSort, ← hb2, List.length_map] at hz; exact hz
            next => exact h.elim
          have er : PySem.W.EachIs (fun v (b : Tri) => ∃ as, Reads s.heap v b.2.1 as) its bs := each_tri rv fun b hb v rel => by
            obtain ⟨q1, q2⟩ := hb3 b hb
            exact Dp.reads I b.2.1 b.1 v (by rw [hK]; exact res_dp st 66 _ _ _ q2 q1) rel
          refine PySem.W.sorted_data (enc := fun b : Tri => b.2.1) (R := fun v b => RelV b.1 v ∧ Rv p H ρ b.1 b.2.2) pl.isList (each_tri rv fun b hb v rel => ⟨rel, (hb3 b hb).1⟩) er hal hsr hlen (fun b hb => ?_) fun out _ eo => ?_
          · have := of_decide_eq_true (k3 b.2.1 (List.mem_map.mpr ⟨b, hb, rfl⟩))
            have hu := hu
            show X.A.units + 2 + b.2.1.depth < cLine
            omega
          · obtain ⟨o1, o2⟩ := tri_out (R := fun b => Rv p H ρ b.1 b.2.2) eo
            have rr := tri_rv o2
            have em : (bs.mergeSort (PySem.W.dataLe false fun b : Tri => b.2.1)).map (fun b => b.2.2) = (ps.mergeSort srtLe).map (·.2) := by
              rw [← hb2, ← List.map_mergeSort (r := PySem.W.dataLe false fun b : Tri => b.2.1) (f := fun b : Tri => b.2) fun a _ b _ => by rw [PySem.W.dataLe_eq]; rfl, List.map_map]
              rfl
            rw [em] at rr
            obtain ⟨z1, z2⟩ := newL_ok st rr h
            obtain ⟨ep', he'⟩ := PyProof.Rows.sortedAll_at s.heap its (List.toArray out)
            have fr := I.hok.fresh (Nat.le_succ s.heap.objs.size)
            exact ⟨.ref _, _, I.laid (o := .lst _) (t' := s.toks) (fun _ _ => PyProof.Rows.sortedAll_old) (Nat.le_succ _) ⟨z1, out, ep', o1, he'⟩, rfl, z2 _ fr⟩
        next => exact h.elim
      next => exact h.elim
    next => exact h.elim
  next => exact h.elim
theorem s_srt (hK : X.K = p.K) (hu : X.A.units + 70 < cLine) (hg : Gl X "sorted") (hm : X.mg "sorted" = none) (ha : PE X a (rX (RD p) p W fa)) (hs : isStar a = false) (hf : ∀ ds M, f ds M = (fa ds M).bind srtD) : PE X (.Call (.Name "sorted" p1) [a] [] pos) (rX (RD p) p W f) :=
  ⟨fun pins s σ H Q I h => (pe_callB (pos := pos) (p := p1) (cr_srt (E := WE W σ) hK hu) hg hm PyProof.Rows.boot_sorted (pa_cons ha pa_nil (star_cons hs)) (he := star_cons hs)).run pins s σ H Q I
    ((rd1 (R := RD p) (g := fun _ => srtD) hf h).mono fun x H1 ⟨ρ, M, ds, d, _, st, r, q⟩ => ⟨ρ, M, d, x, rfl, st, r, q⟩)⟩
/-- a call without arguments: nothing may be raised -/
theorem s_cal0 {k : Nat} {x : Str} {g : Addr} {fd : FuncData} {ps : List Str} {mf : List D → Store → Out D} (F : FnOk X.prog X.w X.K X.mg X.base (L2.CX X.prog X.w) k g fd ps (spM p ps.length mf)) (hr : Room k X.A) (hg : Gl X x) (hm : X.mg x = some (.ref g)) (hp : ps.length = 0)
    (hk : PySem.W.keepIn X.K (.ref g) = true) (hb : Binds X.K fd ps []) (ho : ord_ x = true) (hf : ∀ ds M, f ds M = (mf [] M).bindN kOk') : PE X (.Call (.Name x p1) [] [] pos) (rX (RD p) p W f) := by
  refine ⟨fun pins s σ H Q I h => (pe_call0 (p := p1) (pos := pos) F hr hg hm hk hb .nil passL (ord_ok ho).1).run pins s σ H Q I ?_⟩
  obtain ⟨ρ, M, ds, sl, st, h⟩ := h
  rw [hf] at h
  refine ⟨ρ, M, [], hp.symm, .nil, st, ?_⟩
  cases e : mf [] M with
  | ok d M' => rw [e] at h; exact h
  | ex x M' => rw [e] at h; exact h.elim
  | bad => rw [e] at h; exact h.elim
end

/-! ### a dict's display -/
section
variable {X : Cx} {p : Pm} {W : WX} {pos : Pos} {f : Env → Store → Out D} {m : Nat → List D → Store → Out D}
theorem RSt.offK {H : Hp} {ρ : List Addr} {M : Store} (s : RSt p H ρ M) {q : Addr} {xs ys : List (Key × V)} (hq : q ∉ ρ) (h : H q = some (.dK xs)) : RSt p (L2.upd H q (.dK ys)) ρ M := by
  refine ⟨s.len, s.nd, fun l mo hm => ?_⟩
  obtain ⟨a, ha, r⟩ := s.at_ l mo hm
  exact ⟨a, ha, r.ext (.setK h) (.refl _) (upd_ne fun z => hq (by rw [← z]; exact List.mem_of_getElem? ha))⟩
theorem Gr.offK {H1 H : Hp} {ρ1 ρ : List Addr} (g : Gr H1 ρ1 H ρ) {q : Addr} {xs ys : List (Key × V)} (h1 : H1 q = none) (h : H q = some (.dK xs)) : Gr H1 ρ1 (L2.upd H q (.dK ys)) ρ :=
  ⟨g.ext.trans (.setK h), g.new_, fun a o ha hn => by rw [upd_ne (fun z => by rw [z, h1] at ha; cases ha)]; exact g.oth a o ha hn⟩
def flatP : List (V × V) → List V
  | [] => []
  | (x, y) :: r => x :: y :: flatP r
def trsP (p : Pm) (W : WX) (m : Nat → List D → Store → Out D) : List CE → List (TE × TE)
  | a :: b :: r => (rX (RD p) p W (evE m a), rX (RD p) p W (evE m b)) :: trsP p W m r
  | _ => []
theorem evEs_cons_ok {c : CE} {cs : List CE} {ds : Env} {M M' : Store} {xs : List D} (h : evEs m (c :: cs) ds M = .ok xs M') : ∃ x M1 ys, evE m c ds M = .ok x M1 ∧ evEs m cs ds M1 = .ok ys M' ∧ xs = x :: ys := by
  simp only [evEs] at h
  cases e1 : evE m c ds M with
  | ok a M1 =>
    rw [e1] at h
    have h : (evEs m cs ds M1).bind (kOk2 List.cons a) = .ok xs M' := h
    cases e2 : evEs m cs ds M1 with
    | ok ys M2 => rw [e2] at h; cases h; exact ⟨a, M1, ys, rfl, e2, rfl⟩
    | ex _ _ => rw [e2] at h; cases h
    | bad => rw [e2] at h; cases h
  | ex _ _ => rw [e1] at h; cases h
  | bad => rw [e1] at h; cases h
theorem prs_rd {σ : L2.St} {ds : Env} : ∀ (n : Nat) (cs : List CE) (H : Hp) (ρ : List Addr) (M M' : Store) (xs : List D) (K : List (V × V) → Hp → Prop), cs.length = 2 * n → evEs m cs ds M = .ok xs M' → RSl p H ρ σ ds → RSt p H ρ M →
    (∀ ps H' ρ', RSt p H' ρ' M' → Gr H ρ H' ρ' → RvL p H' ρ' (flatP ps) xs → K ps H') → tPairs (trsP p W m cs) σ H K
  | 0, [], H, ρ, M, M', xs, K, _, h, sl, st, k => by
    simp only [evEs] at h
    cases h
    exact k [] H ρ st (.refl _ _) .nil
  | 0, _ :: _, _, _, _, _, _, _, hl, _, _, _, _ => by simp at hl
  | n + 1, [], _, _, _, _, _, _, hl, _, _, _, _ => by simp at hl
  | n + 1, [_], _, _, _, _, _, _, hl, _, _, _, _ => by simp at hl; omega
  | n + 1, a :: b :: r, H, ρ, M, M', xs, K, hl, h, sl, st, k => by
    obtain ⟨x, M1, ys, e1, e2, rfl⟩ := evEs_cons_ok h
    obtain ⟨y, M2, zs, e3, e4, rfl⟩ := evEs_cons_ok e2
    refine ⟨ρ, M, ds, sl, st, ?_⟩
    rw [e1]
    intro v H1 ρ1 st1 g1 r1
    refine ⟨ρ1, M1, ds, sl.gr g1, st1, ?_⟩
    rw [e3]
    intro w H2 ρ2 st2 g2 r2
    exact prs_rd n r H2 ρ2 M2 M' zs _ (by simp only [List.length_cons] at hl; omega) e4 ((sl.gr g1).gr g2) st2 fun ps H3 ρ3 st3 g3 r3 => k ((v, w) :: ps) H3 ρ3 st3 ((g1.trans g2).trans g3) (.cons ((r1.gr g2).gr g3) (.cons (r2.gr g3) r3))
theorem pairs_kv {H : Hp} {ρ : List Addr} : ∀ {ps : List (V × V)} {xs : List D} {kd : List (Ky × D)}, RvL p H ρ (flatP ps) xs → pairsD xs = some kd →
    ∃ kv : List (Key × V), ps = kv.map (fun z => (kV z.1, z.2)) ∧ PySem.Paired (fun (x : Key × V) (y : Ky × D) => x.1 = y.1 ∧ Rv p H ρ x.2 y.2) kv kd
  | [], xs, kd, r, h => by
    cases r
    simp only [pairsD, Option.some.injEq] at h
    subst h
    exact ⟨[], rfl, .nil⟩
  | (x, y) :: ps, xs, kd, r, h => by
    cases r with
    | cons r1 r2 =>
      cases r2 with
      | cons r2 r3 =>
        simp only [pairsD] at h
        split at h
        next k qs e1 e2 =>
          cases h
          obtain ⟨kv, h1, h2⟩ := pairs_kv r3 e2
          have := ky_of r1 e1
          subst this
          exact ⟨(k, y) :: kv, by rw [h1]; rfl, .cons ⟨rfl, r2⟩ h2⟩
        next => cases h
theorem merge_kv {H : Hp} {ρ : List Addr} : ∀ {more : List (Key × V)} {mored : List (Ky × D)} {kv : List (Key × V)} {kd : List (Ky × D)}, PySem.Paired (fun (x : Key × V) (y : Ky × D) => x.1 = y.1 ∧ Rv p H ρ x.2 y.2) more mored →
    PySem.Paired (fun (x : Key × V) (y : Ky × D) => x.1 = y.1 ∧ Rv p H ρ x.2 y.2) kv kd → PySem.Paired (fun (x : Key × V) (y : Ky × D) => x.1 = y.1 ∧ Rv p H ρ x.2 y.2) (mergeK kv more) (mergeD kd mored)
  | _, _, _, _, .nil, q => q
  | _, _, kv, kd, .cons (a := a) (b := b) r t, q => by
    show PySem.Paired _ (mergeK (putK kv a.1 a.2) _) (mergeD (putD kd b.1 b.2) _)
    have e := r.1
    rw [e]
    exact merge_kv t (pk_put r.2 q)
theorem s_dic {ks : List (Option Expr)} {vs : List Expr} {cs : List CE} (h : PPs X pos ks vs (trsP p W m cs)) (hall : ks.all (·.isSome) = true) (hl : ks.length = vs.length) (h0 : ks ≠ []) (h15 : ks.length ≤ 15) (hn : cs.length = 2 * ks.length) (hf : ∀ ds M, f ds M = (evEs m cs ds M).bindN dicD) :
    PE X (.Dict ks vs pos) (rX (RD p) p W f) := by
  refine ⟨fun pins s σ H Q I q => (pe_disp h hall hl h0 h15).run pins s σ H Q I ?_⟩
  obtain ⟨ρ, M, ds, sl, st, q⟩ := q
  rw [hf] at q
  intro B hB
  cases e1 : evEs m cs ds M with
  | ex _ _ => rw [e1] at q; exact q.elim
  | bad => rw [e1] at q; exact q.elim
  | ok xs M' =>
    rw [e1] at q
    have q : post (RD p) p H ρ (dicD xs M') Q (WE W σ) := q
    refine prs_rd ks.length cs _ ρ M M' xs _ hn e1 (sl.gr (.new hB)) (st.grow hB) fun ps H2 ρ2 st2 g2 r2 => ?_
    obtain ⟨n2, k2⟩ := g2.keepOut (st.free hB) upd_same
    unfold dicD at q
    split at q
    next kd ek =>
      split at q
      next hz =>
        obtain ⟨kv, h1, h2⟩ := pairs_kv r2 ek
        refine ⟨k2, kv, h1, by rw [pk_len h2]; exact hz.1, ?_⟩
        have g3 : Gr H ρ H2 ρ2 := (Gr.new hB).trans g2
        have st3 := st2.offK (ys := mergeK [] kv) n2 k2
        have g4 := g3.offK (ys := mergeK [] kv) hB k2
        have pr := merge_kv h2 (kv := []) (kd := []) .nil
        have e3 : Ext H2 (L2.upd H2 B (.dK (mergeK [] kv))) := .setK k2
        refine q _ _ (ρ2 ++ [B]) (st3.adopt n2 ⟨_, upd_same, pairedMono pr fun x y z => ⟨z.1, Rv.ext e3 (.push _ _) _ _ z.2⟩⟩) (g4.adopt hB) (.dl ?_ ⟨_, upd_same⟩)
        rw [← st3.len, List.getElem?_append_right (Nat.le_refl _)]
        simp
      next => exact q.elim
    next => exact q.elim
end
end BH
end

section
set_option Elab.async false
set_option linter.all false
set_option maxRecDepth 100000
set_option maxHeartbeats 1000000
/-! Instances: fields, properties. -/
namespace BH
open PySem PySem.Spec PyProof.Rows L2

section
variable {X : Cx} {p : Pm} {W : WX} {a o : Expr} {pos : Pos} {f fa fo : Env → Store → Out D}
theorem ol_of {H : Hp} {ρ : List Addr} {M : Store} {v : V} {c l k : Nat} {fs : List (Str × D)} (st : RSt p H ρ M) (r : Rv p H ρ v (.ol c l)) (e : M[l]? = some (.ins k fs)) :
    ∃ a dx fv, v = .ref a ∧ ρ[l]? = some a ∧ H a = some (.ins (p.ca k) dx fv) ∧ p.ca k = p.ca c ∧ PySem.Paired (fun (x : Str × V) (y : Str × D) => x.1 = y.1 ∧ Rv p H ρ x.2 y.2) fv fs := by
  cases r with
  | @ol a _ _ h1 h2 =>
    obtain ⟨dx, fv, k1, k2⟩ := st.get h1 e
    obtain ⟨dx', fv', k3⟩ := h2
    rw [k1] at k3
    injection k3 with k3
    injection k3 with k3 k4 k5
    exact ⟨a, dx, fv, rfl, h1, k1, k3, k2⟩
theorem fld_rv {H : Hp} {ρ : List Addr} {x : Str} : ∀ {fv : List (Str × V)} {fs : List (Str × D)}, PySem.Paired (fun (x : Str × V) (y : Str × D) => x.1 = y.1 ∧ Rv p H ρ x.2 y.2) fv fs → ∀ {d : D}, fs.lookup x = some d → ∃ v, fv.lookup x = some v ∧ Rv p H ρ v d
  | _, _, .nil, d, h => by cases h
  | (x1, v1) :: _, (x2, d2) :: _, .cons r t, d, h => by
    obtain ⟨e, r⟩ := r
    have e : x1 = x2 := e
    subst e
    rw [List.lookup_cons] at h ⊢
    cases q : (x == x1) with
    | true => rw [q] at h; cases h; exact ⟨v1, rfl, r⟩
    | false => rw [q] at h; exact fld_rv t h
theorem put_rv {H : Hp} {ρ : List Addr} {x : Str} {v : V} {d : D} (r : Rv p H ρ v d) : ∀ {fv : List (Str × V)} {fs : List (Str × D)}, PySem.Paired (fun (x : Str × V) (y : Str × D) => x.1 = y.1 ∧ Rv p H ρ x.2 y.2) fv fs →
    PySem.Paired (fun (x : Str × V) (y : Str × D) => x.1 = y.1 ∧ Rv p H ρ x.2 y.2) (putF x v fv) (putFd x d fs)
  | _, _, .nil => .cons ⟨rfl, r⟩ .nil
  | (x1, v1) :: _, (x2, d2) :: _, .cons q t => by
    obtain ⟨e, q⟩ := q
    have e : x1 = x2 := e
    subst e
    unfold putF putFd
    by_cases h : x1 = x
    · rw [if_pos h, if_pos h]; exact .cons ⟨rfl, r⟩ t
    · rw [if_neg h, if_neg h]; exact .cons ⟨rfl, q⟩ (put_rv r t)
/-- o.x, a field -/
theorem s_fld {c : Nat} {x : Str} (hC : L2.Cls X.K (p.ca c)) (hn : NoAttr X.K (p.ca c) x) (ha : PE X a (rX (RD p) p W fa)) (hb : notCall0 a = true) (hf : ∀ ds M, f ds M = (fa ds M).bind (fldD c x)) : PE X (.Attribute a x pos) (rX (RD p) p W f) :=
  ⟨fun pins s σ H Q I h => (pe_fld ha (base_ok hb)).run pins s σ H Q I
    ((rd1 (R := RD p) (g := fun _ => fldD c x) hf h).mono fun v H1 ⟨ρ, M, ds, d, _, st, r, q⟩ => by
      unfold fldD at q
      split at q
      next c' l =>
        split at q
        next ec =>
          subst ec
          split at q
          next k fs e0 =>
            split at q
            next d' e1 =>
              obtain ⟨a', dx, fv, rfl, h1, h2, h3, h4⟩ := ol_of st r e0
              obtain ⟨u, h5, h6⟩ := fld_rv h4 e1
              exact ⟨a', _, dx, fv, u, rfl, h2, by rw [h3]; exact hC, by rw [h3]; exact hn, h5, post_now q st h6⟩
            next => exact q.elim
          next => exact q.elim
        next => exact q.elim
      next => exact q.elim)⟩
/-- o.x, a property whose getter is the def g -/
theorem s_prp {c g k : Nat} {x : Str} {q0 : Addr} {fd : FuncData} {ps : List Str} {m : Nat → List D → Store → Out D} (hC : L2.Cls X.K (p.ca c)) (hp : PropOf X.K (p.ca c) x q0 (p.fa g)) (F : FnOk X.prog X.w X.K X.mg X.base (L2.CX X.prog X.w) k (p.fa g) fd ps (spM p ps.length (m g)))
    (hl : ps.length = 1) (hr : Room (k + 1) X.A) (hb : Binds X.K fd ps []) (ha : PE X a (rX (RD p) p W fa)) (hc0 : notCall0 a = true) (hf : ∀ ds M, f ds M = (fa ds M).bind (kPrp m c g)) : PE X (.Attribute a x pos) (rX (RD p) p W f) :=
  ⟨fun pins s σ H Q I h => (pe_prop (E := fun _ _ _ => False) ha hC hp F hr hb .nil passL (base_ok hc0)).run pins s σ H Q I
    ((rd1 (R := RD p) (g := fun _ => kPrp m c g) hf h).mono fun v H1 ⟨ρ, M, ds, d, _, st, r, q⟩ => by
      unfold kPrp at q
      split at q
      next c' l =>
        split at q
        next ec =>
          subst ec
          cases r with
          | @ol a' _ _ h1 h2 =>
            obtain ⟨dx, fv, h2⟩ := h2
            refine ⟨a', dx, fv, rfl, h2, ρ, M, [.ol c' l], hl.symm, .cons (.ol h1 ⟨dx, fv, h2⟩) .nil, st, ?_⟩
            cases e : m g [.ol c' l] M with
            | ok d M' => rw [e] at q; exact q
            | ex x M' => rw [e] at q; exact q.elim
            | bad => rw [e] at q; exact q.elim
        next => exact q.elim
      next => exact q.elim)⟩
end
end BH
end

section
set_option Elab.async false
set_option linter.all false
set_option maxRecDepth 100000
set_option maxHeartbeats 1000000
/-! Instances made: cls(e, .., k = v, ..). -/
namespace BH
open PySem PySem.Spec PyProof.Rows L2

section
variable {X : Cx} {p : Pm} {W : WX} {m : Nat → List D → Store → Out D}
theorem make_rd {c g : Nat} {H : Hp} {ρ : List Addr} {M : Store} {vs : List V} {xs : List D} {Q : VK} {E : XK} (st : RSt p H ρ M) (r : RvL p H ρ vs xs) (h : post (RD p) p H ρ (kMk m c g xs M) Q E) (x dx : Addr) (hx : H x = none) (hdx : H dx = none) (hne : dx ≠ x) :
    spM p (vs.length + 1) (m g) (.ref x :: vs) (L2.upd (L2.upd H dx (.own x)) x (.ins (p.ca c) dx [])) (fun v H2 => v = .non ∧ Q (.ref x) H2) E := by
  have hx1 : L2.upd H dx (.own x) x = none := by rw [L2.upd_ne (Ne.symm hne)]; exact hx
  have st1 : RSt p (L2.upd H dx (.own x)) ρ M := st.grow hdx
  have st2 : RSt p (L2.upd (L2.upd H dx (.own x)) x (.ins (p.ca c) dx [])) (ρ ++ [x]) (M ++ [.ins c []]) := st1.push hx1 ⟨dx, [], L2.upd_same, .nil⟩
  have g2 : Gr H ρ (L2.upd (L2.upd H dx (.own x)) x (.ins (p.ca c) dx [])) (ρ ++ [x]) := (Gr.new hdx).trans (Gr.push hx1)
  have ro : Rv p (L2.upd (L2.upd H dx (.own x)) x (.ins (p.ca c) dx [])) (ρ ++ [x]) (.ref x) (.ol c M.length) := .ol (by rw [← st.len, List.getElem?_append_right (Nat.le_refl _)]; simp) ⟨dx, [], L2.upd_same⟩
  refine ⟨ρ ++ [x], M ++ [.ins c []], .ol c M.length :: xs, rfl, .cons ro (r.gr g2), st2, ?_⟩
  have h2 : post (RD p) p _ (ρ ++ [x]) ((m g (.ol c M.length :: xs) (M ++ [.ins c []])).bind (kMk2 (.ol c M.length))) Q E := post.later (o := kMk m c g xs M) h g2
  refine (post.bind (R := RD p) h2).mono fun v H3 ⟨ρ3, M3, a, st3, g3, r3, q⟩ => ?_
  unfold kMk2 at q
  split at q
  next =>
    cases r3
    exact ⟨rfl, post_now q st3 (ro.gr g3)⟩
  next => exact q.elim
/-- C(..) with keywords, where exceptions may get out -/
theorem run_mkS {k n : Nat} {C f : Addr} {fd : FuncData} {ps ks : List Str} {sp : Sp} {E : XK} {gg : List Value → List Value → List Value} {gV : List V → List V → List V} {pins : List (Addr × Obj)} {σ : L2.St} {H : Hp} {s : Shared} {Q : VK} {us ws : List Value} {vs zs : List V} (M : L2.Mk X.K C f)
    (F : FnOk X.prog X.w X.K X.mg X.base (L2.CX X.prog X.w) k f fd ps sp) (hr : Room (k + 1) X.A) (hb : KBn X.K fd ps (n + 1) ks gg gV) (hx : PassesAt (L2.CX X.prog X.w) X σ E) (I : Inv X pins σ H s) (r : Vals vs us) (rz : Vals zs ws) (l1 : vs.length = n) (l2 : zs.length = ks.length)
    (h : ∀ x dx, H x = none → H dx = none → dx ≠ x → sp (gV (.ref x :: vs) zs) (L2.upd (L2.upd H dx (.own x)) x (.ins C dx [])) (fun v H2 => v = .non ∧ Q (.ref x) H2) E) :
    wpAny (model X.prog X.w) X.A (call (.ref C) us (ks.zip ws)) (EP X pins σ Q) X.xe s := by
  have q := h (s.heap.objs.size + 1) s.heap.objs.size (I.hok.fresh (Nat.le_succ _)) (I.hok.fresh (Nat.le_refl _)) (Nat.ne_of_lt (Nat.lt_succ_self _))
  have J := Inv.made (C := C) I
  have rr := hb.rel (.cons (show RelV (V.ref (s.heap.objs.size + 1)) (Value.ref (s.heap.objs.size + 1)) from rfl) r) rz
  have hlen : (Value.ref (s.heap.objs.size + 1) :: us).length = n + 1 := by rw [List.length_cons, ← r.length, l1]
  have body := F.run _ X.stack _ _ ⟨Value.ref (s.heap.objs.size + 1) :: us, ks.zip ws⟩ _ _ _ E (hr.make C us (ks.zip ws)) (J.env0.make C us (ks.zip ws)) (hb.to _ _ ws J.kIn hlen (by rw [← rz.length, l2])) rr q
  refine wpAny_call (make_map (f := f) I.kIn M.makes M.init (beq_iff_eq.mp M.fn) (codeAny_mono body fun res s' z => ?_))
  cases res with
  | error e => exact hx pins _ _ e s' J z
  | ok fl =>
    cases fl with
    | ret u =>
      obtain ⟨v, H', J2, rv, ev, z2⟩ := J.after z
      subst ev
      exact ⟨rv, V.ref (s.heap.objs.size + 1), H', J2, rfl, z2⟩
    | next => exact z.elim
    | brk => exact z.elim
    | cont => exact z.elim
variable {e : Expr} {es : List Expr} {kws : List Keyword} {pos : Pos} {f : Env → Store → Out D} {f1 f2 : Env → Store → Out (List D)}
/-- cls(e, .., k = v, ..), cls a local name of the class c -/
theorem s_mkv {i c g k n : Nat} {x : Str} {p1 : Pos} {ks : List Str} {fd : FuncData} {ps : List Str} {gg : List Value → List Value → List Value} (tk : Takes X W) (hca : p.ca c = p.fa c) (Mk' : L2.Mk X.K (p.fa c) (p.fa g))
    (F : FnOk X.prog X.w X.K X.mg X.base (L2.CX X.prog X.w) k (p.fa g) fd ps (spM p ps.length (m g))) (hr : Room (k + 1) X.A) (hb : KBn X.K fd ps (n + 1) ks gg (fun vs zs => vs ++ zs)) (hps : ps.length = n + ks.length + 1)
    (hN : X.N[i]? = some x) (hv : Vis X.env.scope x) (ho : ord_ x = true) (ha : PA X (e :: es) (rX (RDs p) p W f1)) (hkw : PK X kws (rX (RDs p) p W f2)) (hl1 : ∀ ds M xs M', f1 ds M = .ok xs M' → xs.length = n) (hl2 : ∀ ds M xs M', f2 ds M = .ok xs M' → xs.length = ks.length)
    (hall : (backToKw pos (keywordEach kws X.env)).all (·.1.isSome) = true) (hks : (backToKw pos (keywordEach kws X.env)).filterMap (·.1) = ks)
    (he : starEach (e :: es) X.env = (false, eval e X.env) :: starEach es X.env) (hpl : ((backTo pos (starEach (e :: es) X.env)).any (·.1) || (backToKw pos (keywordEach kws X.env)).any (·.1.isNone)) = false)
    (hf : ∀ ds M, f ds M = (getV ds i M).bind (kMkv m c g fun M => (f1 ds M).bind (k2 (f2 ds) (kOk2 (· ++ ·))))) : PE X (.Call (.Name x p1) (e :: es) kws pos) (rX (RD p) p W f) := by
  refine ⟨fun pins s σ H Q I h => ?_⟩
  obtain ⟨ρ, M, ds, sl, st, h⟩ := h
  rw [hf] at h
  unfold getV at h
  cases hd : ds[i]? with
  | none => rw [hd] at h; exact h.elim
  | some od =>
    cases od with
    | none => rw [hd] at h; exact h.elim
    | some d =>
      rw [hd] at h
      obtain ⟨v, hs, rv⟩ := sl.at_ _ _ hd
      simp only [Out.bind_ok] at h
      unfold kMkv at h
      split at h
      next c' =>
        by_cases hc : c' = c
        · rw [if_pos hc] at h
          subst hc
          cases rv
          refine wpAny_Call_Name_kw (thn ((pe_var (pos := p1) hN hv (ord_ok ho).1 (ord_ok ho).2.1).run pins s σ H (fun v H1 => v = .ref (p.fa c') ∧ H1 = H) I ⟨.ref (p.fa c'), hs, rfl, rfl⟩) fun u s1 ⟨v, H1, I1, r1, q1⟩ => ?_)
          obtain ⟨rfl, rfl⟩ := q1
          cases r1
          have ht : rX (RDs p) p W f1 σ H1 fun vs H2 => rX (RDs p) p W f2 σ H2 fun zs H3 => vs.length = n ∧ zs.length = ks.length ∧ ∃ ρ M xs, RSt p H3 ρ M ∧ RvL p H3 ρ (vs ++ zs) xs ∧ post (RD p) p H3 ρ (kMk m c' g xs M) Q (WE W σ) := by
            have h0 : post (RD p) p H1 ρ (((f1 ds M).bind (k2 (f2 ds) (kOk2 (· ++ ·)))).bind (kMk m c' g)) Q (WE W σ) := h
            rw [bind_assoc] at h0
            refine ⟨ρ, M, ds, sl, st, ?_⟩
            cases e1 : f1 ds M with
            | ex x M1 => rw [e1] at h0; exact h0
            | bad => rw [e1] at h0; exact h0
            | ok xs M1 =>
              rw [e1] at h0
              have h1 : post (RD p) p H1 ρ (((f2 ds M1).bind (kOk2 (· ++ ·) xs)).bind (kMk m c' g)) Q (WE W σ) := h0
              rw [bind_assoc] at h1
              intro vs H2 ρ2 st2 g2 r2
              refine ⟨ρ2, M1, ds, sl.gr g2, st2, ?_⟩
              cases e2 : f2 ds M1 with
              | ex x M2 => rw [e2] at h1; exact post.later (o := .ex x M2) h1 g2
              | bad => rw [e2] at h1; exact h1.elim
              | ok ys M2 =>
                rw [e2] at h1
                have h2 : post (RD p) p H1 ρ (kMk m c' g (xs ++ ys) M2) Q (WE W σ) := h1
                intro zs H3 ρ3 st3 g3 r3
                exact ⟨by rw [r2.length]; exact hl1 _ _ _ _ e1, by rw [r3.length]; exact hl2 _ _ _ _ e2, ρ3, M2, xs ++ ys, st3, (r2.gr g3).append r3, post.later (o := kMk m c' g (xs ++ ys) M2) h2 (g2.trans g3)⟩
          refine PySem.W.callWith_KW (h₀ := X.base) I1.ok.mod.kin Mk'.kp hall (thn (ha.run pos pins s1 σ _ _ I1 ht) fun us s2 ⟨vs, H2, I2, r, q⟩ => ?_) hpl he
          refine thn (hkw.run pos pins s2 σ H2 _ I2 q) fun ws s3 ⟨zs, H3, I3, rz, l1, l2, ρ3, M3, xs, st3, r3, q3⟩ => ⟨I3.kIn, ?_⟩
          rw [hks]
          refine run_mkS (E := WE W σ) Mk' F hr hb (passAt tk σ) I3 r rz l1 l2 fun x dx hx hdx hne => ?_
          have z := make_rd st3 r3 q3 x dx hx hdx hne
          rw [List.length_append, l1, l2, ← hps] at z
          rw [← hca]
          exact z
        · rw [if_neg hc] at h; exact h.elim
      next => exact h.elim
end
end BH
end

section
set_option Elab.async false
set_option linter.all false
set_option maxRecDepth 100000
set_option maxHeartbeats 1000000
/-! C.m(e, ..), a classmethod. -/
namespace BH
open PySem PySem.Spec PyProof.Rows L2

section
variable {X : Cx} {p : Pm} {W : WX} {e : Expr} {es : List Expr} {pos : Pos} {f fo : Env → Store → Out D} {fs : Env → Store → Out (List D)}
theorem run_cmS {k : Nat} {C g q : Addr} {fd : FuncData} {ps : List Str} {sp : Sp} {pins : List (Addr × Obj)} {σ : L2.St} {H : Hp} {s : Shared} {Q : VK} {us : List Value} {vs : List V} (tk : Takes X W) (F : FnOk X.prog X.w X.K X.mg X.base (L2.CX X.prog X.w) k g fd ps sp) (hr : Room k X.A) (hb : Binds X.K fd ps [])
    (I : Inv X ((q, PySem.W.methodObj (.ref g) (.ref C)) :: pins) σ H s) (r : Vals vs us) (h : sp (.ref C :: vs) H Q (WE W σ)) : wpAny (model X.prog X.w) X.A (call (.ref q) us) (EP X pins σ Q) X.xe s := by
  have hl : ((Value.ref C :: us) ++ []).length = ps.length := by
    rw [List.append_nil, List.length_cons, ← r.length]
    exact F.len _ _ _ _ h
  have hb' : BindsTo s fd ⟨Value.ref C :: us, []⟩ (ps.zip (Value.ref C :: us)) := by
    have := hb s (Value.ref C :: us) I.kIn hl
    rwa [List.append_nil] at this
  refine thn (wpAny_call (PySem.W.method_call (ClX.pin_at I) (codeAny_mono (F.run X.A X.stack s H ⟨Value.ref C :: us, []⟩ (Value.ref C :: us) (V.ref C :: vs) Q (WE W σ) hr I.env0 hb' (.cons rfl r) h) fun res s' z => ?_))) fun _ _ (y : EP X ((q, PySem.W.methodObj (.ref g) (.ref C)) :: pins) σ Q _ _) => ClX.unpinE y
  cases res with
  | error e => exact passAt tk σ _ H s e s' I z
  | ok fl =>
    cases fl with
    | ret u => exact I.after z
    | next => exact z.elim
    | brk => exact z.elim
    | cont => exact z.elim
theorem s_clm {k n : Nat} {C g q0 : Addr} {mc : Value} {x mm : Str} {p1 apos : Pos} {fd : FuncData} {ps : List Str} {mf : List D → Store → Out D} {d : D} {pl : Sem Bool} (tk : Takes X W) (hv : ∀ H ρ, Rv p H ρ (.ref C) d) (hg : Gl X x) (hmx : X.mg x = some (.ref C)) (ho : ord_ x = true)
    (r : ClX.CRead X.K C mc) (c : ClX.CMet X.K C mc mm q0 g) (F : FnOk X.prog X.w X.K X.mg X.base (L2.CX X.prog X.w) k g fd ps (spM p ps.length mf)) (hr : Room k X.A) (hb : Binds X.K fd ps []) (hps : ps.length = n + 1)
    (ha : PA X (e :: es) (rX (RDs p) p W fs)) (hl : ∀ ds M xs M', fs ds M = .ok xs M' → xs.length = n) (hst : ((e :: es).all fun e => !isStar e) = true)
    (ht : eval (.Call (.Attribute (.Name x p1) mm apos) (e :: es) [] pos) X.env = (do
      let ov ← eval (.Name x p1) X.env
      standAt apos.atName
      let (f, first) ← holding [ov] (getMethod ov mm pl)
      callWith pos f first (backTo pos (starEach (e :: es) X.env)) (backToKw pos (keywordEach [] X.env))))
    (hf : ∀ ds M, f ds M = (fs ds M).bind fun xs M => mf (d :: xs) M) : PE X (.Call (.Attribute (.Name x p1) mm apos) (e :: es) [] pos) (rX (RD p) p W f) := by
  rw [List.all_cons, Bool.and_eq_true_iff] at hst
  refine ⟨fun pins s σ H Q I h => ?_⟩
  have red := rd1 (R := RDs p) (g := fun _ xs M => mf (d :: xs) M) hf h
  have hn : rX (RDs p) p W fs σ H fun vs H1 => spM p ps.length mf (.ref C :: vs) H1 Q (WE W σ) := by
    obtain ⟨ρ, M, ds, sl, st, h⟩ := h
    rw [hf] at h
    refine ⟨ρ, M, ds, sl, st, ?_⟩
    cases e : fs ds M with
    | ok xs M' =>
      rw [e] at h
      intro vs H1 ρ1 st1 g1 r1
      exact ⟨ρ1, M', d :: xs, by rw [List.length_cons, r1.length, hl ds M xs M' e, hps], .cons (hv _ _) r1, st1, post.later (o := mf (d :: xs) M') h g1⟩
    | ex x M' => rw [e] at h; exact h
    | bad => rw [e] at h; exact h
  refine PySem.W.methodCall_KW (pl := pl) (thn ((pe_glob (pos := p1) (v := .ref C) hg hmx rfl (ord_ok ho).1).run pins s σ H (fun v H1 => v = V.ref C ∧ H1 = H) I ⟨rfl, rfl⟩) fun u s1 ⟨v, H1, I1, r1, q1⟩ => ?_) ht
  obtain ⟨rfl, rfl⟩ := q1
  obtain rfl : u = Value.ref C := r1
  refine ClX.getmethcm_ok I1 r c fun s2 I2 => ?_
  refine ClX.callwith_cm I2 (ClX.base_none I1 (Nat.le_refl _)) c.fi (thn (ha.run pos _ s2 σ H1 _ I2 hn) fun us s3 ⟨vs, H2, I3, rv, q2⟩ => ⟨⟨ClX.pin_at I3, I3.kIn⟩, ?_⟩) (star_cons (by simpa using hst.1)) (star_none hst.2)
  exact run_cmS tk F hr hb I3 rv q2
end
end BH
end

section
set_option Elab.async false
set_option linter.all false
set_option maxRecDepth 100000
set_option maxHeartbeats 1000000
/-! xs[1::2]; xs[a:c] = ys. -/
namespace BH
open PySem PySem.Spec PyProof.Rows L2

/-! ### every second item -/
theorem odds_fm {α : Type} : ∀ its : List α, ((List.range (its.length / 2)).map fun k => 2 * k + 1).filterMap (fun i => its[i]?) = oddsL its
  | [] => by simp [oddsL]
  | [_] => by simp [oddsL]
  | a :: b :: r => by
    have e : (a :: b :: r).length / 2 = r.length / 2 + 1 := by simp only [List.length_cons]; omega
    have ih := odds_fm r
    rw [e, List.range_succ_eq_map, List.map_cons, List.filterMap_cons]
    simp only [oddsL]
    rw [show (a :: b :: r)[2 * 0 + 1]? = some b from rfl]
    dsimp only
    congr 1
    rw [List.map_map, List.filterMap_map]
    rw [List.filterMap_map] at ih
    rw [← ih]
    congr 1
theorem odds_bounds (n : Nat) : sliceBounds (some 1) none (some 2) n = (max 0 (min 1 (n : Int)), (n : Int), 2) := by
  simp only [sliceBounds, Option.getD_some, show (2 : Int) > 0 by decide, if_true, show ¬ ((1 : Int) < 0) by decide, if_false]
theorem odds_range (n : Nat) : sliceRange (max 0 (min 1 (n : Int))) (n : Int) 2 = (List.range (n / 2)).map fun k => 2 * k + 1 := by
  unfold sliceRange
  simp only [show (2 : Int) > 0 by decide, if_true]
  by_cases h : 2 ≤ n
  · have h1 : max 0 (min 1 (n : Int)) = 1 := by omega
    rw [h1, if_pos (by omega)]
    have h2 : (((n : Int) - 1 + 2 - 1) / 2).toNat = n / 2 := by omega
    rw [h2]
    apply List.map_congr_left
    intro k _
    omega
  · have h2 : n / 2 = 0 := by omega
    rw [h2]
    rw [if_neg (by omega)]
    rfl
theorem odds_pick (its : List Value) : slicePick its.toArray (some 1) none (some 2) = (oddsL its).toArray := by
  unfold slicePick
  rw [odds_bounds]
  dsimp only
  rw [odds_range]
  congr 1
  rw [← odds_fm its]
  simp
theorem odds_vals : ∀ {vs : List V} {us : List Value}, Vals vs us → Vals (oddsL vs) (oddsL us)
  | _, _, .nil => .nil
  | _, _, .cons _ .nil => .nil
  | _, _, .cons _ (.cons r t) => .cons r (odds_vals t)
theorem odds_len {α : Type} : ∀ its : List α, (oddsL its).length ≤ its.length
  | [] => by simp [oddsL]
  | [_] => by simp [oddsL]
  | a :: b :: r => by
    have := odds_len r
    simp only [oddsL, List.length_cons]; omega
theorem RvL.odds {p : Pm} {H : Hp} {ρ : List Addr} : ∀ {vs : List V} {ds : List D}, RvL p H ρ vs ds → RvL p H ρ (oddsL vs) (oddsL ds)
  | _, _, .nil => .nil
  | _, _, .cons _ .nil => .nil
  | _, _, .cons _ (.cons r t) => .cons r (RvL.odds t)
def tOddL (K : PySem.W.Frag) (te : TE) : TE := fun σ H Q => te σ H fun x H1 => ∃ a xs, x = .ref a ∧ SqL K H1 a xs ∧ ∀ p, H1 p = none → Q (.ref p) (upd H1 p (.lst (oddsL xs)))
theorem pe_oddL {X : Cx} {e : Expr} {te : TE} {k1 k2 : Nat} {p1 p2 p3 pos : Pos} (he : PE X e te) : PE X (.Subscript e (.Slice (some (.Constant (.int 1) k1 p1)) none (some (.Constant (.int 2) k2 p2)) p3) pos) (tOddL X.K te) := by
  refine ⟨fun pins s σ H Q I h => ?_⟩
  refine Subscript_ (thn (he.run pins s σ H _ I h) fun v s1 ⟨x, H1, I1, r1, a, xs, ex, hx, q⟩ => ?_)
  subst ex
  cases r1
  have hlo : PO X (some (.Constant (.int 1) k1 p1)) (tPart (tC (.int 1))) := po_some pe_int
  have hst : PO X (some (.Constant (.int 2) k2 p2)) (tPart (tC (.int 2))) := po_some pe_int
  refine wpAny_Slice (thn (hlo.run pins s1 σ H1 (fun o H2 => o = some 1 ∧ H2 = H1) I1 ⟨1, rfl, rfl, rfl⟩) fun vl s2 ⟨l, H2, I2, pl, el, e2⟩ => ?_)
  subst el e2
  refine thn (po_none.run pins s2 σ H2 (fun o H3 => o = none ∧ H3 = H2) I2 ⟨rfl, rfl⟩) fun vu s3 ⟨u, H3, I3, pu, eu, e3⟩ => ?_
  subst eu e3
  refine thn (hst.run pins s3 σ H3 (fun o H4 => o = some 2 ∧ H4 = H3) I3 ⟨2, rfl, rfl, rfl⟩) fun vs s4 ⟨o, H4, I4, ps, eo, e4⟩ => ?_
  subst eo e4
  have I5 : Inv X pins σ H4 { s4 with heap := s4.heap.push { cls := .type "slice", data := .fields #[vl, vu, vs] } } := I4.kept (t' := s4.toks) fun b ob q => Heap.get?_push_of_some _ q
  obtain ⟨its, r, ht, hz⟩ := I5.list hx
  have hlen := r.length
  show wpAny (model X.prog X.w) X.A (subscriptTail e (.Slice (some (.Constant (.int 1) k1 p1)) none (some (.Constant (.int 2) k2 p2)) p3) (.ref a) (.ref s4.heap.objs.size)) (EP X pins σ Q) X.xe { s4 with heap := s4.heap.push { cls := .type "slice", data := .fields #[vl, vu, vs] } }
  refine tail_any (ops := [.ref a, .ref s4.heap.objs.size]) ht.isList.typeIs (PySem.slot_list_getitem.lookup) ?_ (by with_unfolding_all rfl)
  refine wpAny_getItem_list_slice ht.isList (Heap.IsSliceOf.new _ vl vu vs) pl pu ps (by decide) ?_ (by rw [List.size_toArray]; omega)
  rw [odds_pick]
  refine ⟨.ref _, _, I5.laid (t' := s4.toks) (o := .lst (oddsL xs)) (fun b ob q => Heap.get?_push_of_some _ q) (Nat.le_refl _) ?_, rfl, q _ (I5.hok.fresh (Nat.le_refl _))⟩
  exact ⟨Nat.le_trans (odds_len xs) hz, _, 0, odds_vals r, Heap.get?_push_size _ rfl⟩
section
variable {X : Cx} {p : Pm} {W : WX} {a : Expr} {pos : Pos} {f fa : Env → Store → Out D}
theorem s_odd (hK : X.K = p.K) {k1 k2 : Nat} {p1 p2 p3 : Pos} (ha : PE X a (rX (RD p) p W fa)) (hf : ∀ ds M, f ds M = (fa ds M).bind oddD) : PE X (.Subscript a (.Slice (some (.Constant (.int 1) k1 p1)) none (some (.Constant (.int 2) k2 p2)) p3) pos) (rX (RD p) p W f) :=
  ⟨fun pins s σ H Q I h => (pe_oddL ha).run pins s σ H Q I
    ((rd1 (R := RD p) (g := fun _ => oddD) hf h).mono fun x H1 ⟨ρ, M, ds, d, _, st, r, q⟩ => by
      unfold oddD at q
      split at q
      next l =>
        split at q
        next xs e0 =>
          obtain ⟨a, vs, rfl, g1, g2, g3⟩ := lst_of st r e0
          obtain ⟨_, hq⟩ := newL_ok st g3.odds q
          exact ⟨a, vs, rfl, by rw [hK]; exact .of g2, hq⟩
        next => exact q.elim
      next => exact q.elim)⟩
end
end BH
end

section
set_option Elab.async false
set_option linter.all false
set_option maxRecDepth 100000
set_option maxHeartbeats 1000000
/-! xs[a:c] = ys, c beyond the end too. -/
namespace BH
open PySem PySem.Spec PyProof.Rows L2

theorem bounds_cut {a c n : Nat} (hac : a ≤ c) (ha : a ≤ n) : sliceBounds (some (a : Int)) (some (c : Int)) none n = ((a : Int), ((min c n : Nat) : Int), 1) := by
  simp only [sliceBounds, Option.getD_none]
  have h1 : ¬ ((a : Int) < 0) := by omega
  have h2 : ¬ ((c : Int) < 0) := by omega
  simp only [h1, h2, if_false, show (1 : Int) > 0 by decide, if_true]
  refine Prod.ext ?_ (Prod.ext ?_ rfl)
  · show max 0 (min (a : Int) n) = a
    omega
  · show max 0 (min (c : Int) n) = ((min c n : Nat) : Int)
    omega
section
variable {prog : Program} {w : World} {A : Around} {E : Value → Shared → Prop} {s : Shared}
theorem cut_store {l b sl : Addr} {items new : Array Value} {n n2 : Nat} {vl vu : Value} {a c : Nat} {Q : Unit → Shared → Prop}
    (e : s.heap.get? l = some { cls := .type "list", data := .seq items n }) (e2 : s.heap.get? b = some { cls := .type "list", data := .seq new n2 }) (hne : l ≠ b)
    (hs : s.heap.IsSliceOf sl vl vu .none) (pl : IsPart vl (some (a : Int))) (pu : IsPart vu (some (c : Int))) (hac : a ≤ c) (ha : a ≤ items.size)
    (hsz : items.size + new.size ≤ sizeLine) (h : Q () { s with heap := s.heap.update l (Obj.mapSeq fun xs => xs.extract 0 a ++ new ++ xs.extract (min c items.size) xs.size) }) :
    wpAny (model prog w) A (setItem (.ref l) (.ref sl) (.ref b)) Q E s := by
  have hl : s.heap.IsList l items := PySem.IsL.isList e
  have hb : s.heap.IsList b new := PySem.IsL.isList e2
  obtain ⟨os, hos, hcs, hds⟩ := id hs
  have hT : s.TypeIs (.ref sl) "slice" := ⟨os, hos, hcs⟩
  have hmax : (max (a : Int) ((min c items.size : Nat) : Int)).toNat = min c items.size := by omega
  have hsame : Builtin.List.listSameRef (.ref l) (.ref b) = false := by
    unfold Builtin.List.listSameRef
    exact beq_eq_false_iff_ne.mpr hne
  have hz' : ((fun xs : Array Value => xs.extract 0 a ++ new ++ xs.extract (min c items.size) xs.size) items).size ≤ sizeLine + 1 := by
    simp only [Array.size_append, Array.size_extract]
    omega
  unfold setItem
  try with_reducible refine wpAny_holding ?_
  first | refine wpAny_bind (wpAny_pure ?_) | skip
  refine wpAny_bind (wpAny_sequenceKey hl.typeIs (by decide) ?_)
  refine wpAny_bind (wpAny_callSpecial?_slot (name := Str.ofString "__setitem__") hl.typeIs slot_list_setitem
    (wpAny_call_entry slot_list_setitem hl.typeIs entry_list_setitem ?_ (args_list_setitem _ _ _)))
  show wpAny _ _ (Builtin.List.listSubscript? (.ref sl) >>= _) _ _ s
  refine wpAny_bind ?_
  unfold Builtin.List.listSubscript?
  refine wpAny_bind (wpAny_specialOf hT slice_no_index ?_)
  simp only [Option.isNone_none, if_true]
  refine wpAny_pure ?_
  show wpAny _ _ (typeOf (.ref sl) >>= _) _ _ s
  refine wpAny_bind (wpAny_typeOf hT ?_)
  refine PySem.W.KFB.if_not (by decide) ?_
  rw [listSliceParts_eq]
  refine wpAny_bind (wpAny_bind (wpAny_field hos hds (x := .none) rfl (wpAny_bind (wpAny_listPart .none ?_))))
  rw [if_neg (show ¬ ((rawPart none == rawInt 0) = true) from Bool.false_ne_true)]
  refine wpAny_bind (wpAny_field hos hds (x := vl) rfl (wpAny_bind (wpAny_listPart pl ?_)))
  refine wpAny_bind (wpAny_field hos hds (x := vu) rfl (wpAny_bind (wpAny_listPart pu (wpAny_pure ?_))))
  refine PySem.W.KFB.if_not (by simp [hsame]) ?_
  refine wpAny_bind (m := Builtin.List.listAllItems (.ref b) "must assign iterable to extended slice") ?_
  unfold Builtin.List.listAllItems
  refine wpAny_bind (wpAny_typeOf hb.typeIs ?_)
  refine PySem.W.KFB.if_so (by decide) ?_
  unfold Builtin.List.listItems
  refine wpAny_bind (wpAny_seqItems e2 rfl (wpAny_pure ?_))
  refine wpAny_bind (wpAny_bind (wpAny_seqItems e rfl (wpAny_pure ?_)))
  refine wpAny_bind (wpAny_of_eq ((sliceIndices_raw (some (a : Int)) (some (c : Int)) none items.size (by simp)).trans (congrArg (pure : Int × Int × Int → Sem (Int × Int × Int)) (bounds_cut hac ha))) ?_)
  show wpAny _ _ (if ((1 : Int) == 1) = true then _ else _) _ _ s
  rw [if_pos (by decide)]
  refine wpAny_bind (wpAny_rule ?_)
  refine PySem.W.KFB.if_not (by simp [notLongL hsz]) ?_
  first | refine wpAny_bind (wpAny_pure ?_) | skip
  show wpAny _ _ (updateSeq l (fun xs => xs.extract 0 ((a : Int)).toNat ++ new ++ xs.extract (max (a : Int) ((min c items.size : Nat) : Int)).toNat xs.size) >>= _) _ _ s
  rw [hmax, Int.toNat_natCast]
  refine wpAny_bind (wpAny_updateSeq (hz := Nat.le_trans (Nat.le_add_right _ _) hsz) (_hz' := hz') e rfl ?_)
  refine wpAny_bind (wpAny_letGo ?_)
  first
    | exact wpAny_bind (wpAny_pure (wpAny_pure ⟨.none, rfl, wpAny_pure h⟩))
    | exact wpAny_pure ⟨.none, rfl, wpAny_pure h⟩
end
section
variable {X : Cx}
theorem set_cut {pins : List (Addr × Obj)} {s : Shared} {σ : L2.St} {H : Hp} {l b sl : Addr} {xs ys : List V} {a c : Int} {vl vu : Value} {Q : Unit → Shared → Prop} (I : Inv X pins σ H s)
    (hH : H l = some (.lst xs)) (hB : H b = some (.lst ys)) (hne : l ≠ b) (hs : s.heap.IsSliceOf sl vl vu .none) (pl : IsPart vl (some a)) (pu : IsPart vu (some c)) (h0 : 0 ≤ a) (hac : a ≤ c) (ha : a ≤ xs.length)
    (hz : xs.length + ys.length ≤ sizeLine) (h : ∀ s', Inv X pins σ (L2.upd H l (.lst (xs.take a.toNat ++ ys ++ xs.drop (min c.toNat xs.length)))) s' → Q () s') :
    wpAny (model X.prog X.w) X.A (setItem (.ref l) (.ref sl) (.ref b)) Q X.xe s := by
  obtain ⟨z, its, n, r, hl, e⟩ := I.lstM hH
  obtain ⟨z2, its2, n2, r2, hl2, e2⟩ := I.lstM hB
  obtain ⟨a', rfl⟩ := Int.eq_ofNat_of_zero_le h0
  obtain ⟨c', rfl⟩ := Int.eq_ofNat_of_zero_le (Int.le_trans h0 hac)
  simp only [Int.toNat_natCast] at h
  refine cut_store (a := a') (c := c') e e2 hne hs pl pu (by omega) (by rw [List.size_toArray]; omega) (by rw [List.size_toArray, List.size_toArray]; omega) (h _ ?_)
  refine I.lset (its' := its.take a' ++ its2 ++ its.drop (min c' xs.length)) (t' := s.toks) hH e ?_ (Vals.append (Vals.append (r.take _) r2) (r.drop _)) ?_
  · have hs2 : its.toArray.size = xs.length := by rw [List.size_toArray, ← hl]
    show its.toArray.extract 0 a' ++ its2.toArray ++ its.toArray.extract (min c' its.toArray.size) its.toArray.size = _
    rw [splice_eq, hs2]
  · rw [List.length_append, List.length_append, List.length_take, List.length_drop]
    omega
end
section
variable {X : Cx} {p : Pm} {o lo hi : Expr} {pos p2 : Pos} {fa fb fc : Env → Store → Out D} {gf : D → Env → Store → Out Env}
theorem setSl_inv (o a c d : D) (M : Store) : setSl o a c d M = .bad ∨ ∃ l i j k xs ys, o = .ll l ∧ a = .int i ∧ c = .int j ∧ d = .ll k ∧ M[l]? = some (.lst xs) ∧ M[k]? = some (.lst ys) ∧ (l ≠ k ∧ 0 ≤ i ∧ i ≤ j ∧ i ≤ xs.length ∧ xs.length + ys.length ≤ szl) ∧
    setSl o a c d M = .ok () (M.set l (.lst (putSl xs ys i.toNat (min j.toNat xs.length)))) := by
  unfold setSl
  split
  next l i j k =>
    split
    next xs ys e1 e2 =>
      by_cases hc : l ≠ k ∧ 0 ≤ i ∧ i ≤ j ∧ i ≤ xs.length ∧ xs.length + ys.length ≤ szl
      · exact .inr ⟨l, i, j, k, xs, ys, rfl, rfl, rfl, rfl, e1, e2, hc, if_pos hc⟩
      · exact .inl (if_neg hc)
    next => exact .inl rfl
  next => exact .inl rfl
theorem g_slc (ho : PE X o (rX (RD p) p W0 fa)) (hlo : PE X lo (rX (RD p) p W0 fb)) (hhi : PE X hi (rX (RD p) p W0 fc)) (hf : ∀ d ds M, gf d ds M = (fa ds M).bind (kSs0 ds d (fb ds) (fc ds))) : PG X (.Subscript o (.Slice (some lo) (some hi) none p2) pos) (rG p [] gf) := by
  refine ⟨fun pins s σ H v u Q I r h => ?_⟩
  obtain ⟨ρ, M, ds, d, sl, st, rv, h⟩ := h
  rw [hf] at h
  have h1 : rX (RD p) p W0 fa σ H fun x H1 => rX (RD p) p W0 fb σ H1 fun y H2 => rX (RD p) p W0 fc σ H2 fun z H3 => ∃ l b xs ys a c, x = .ref l ∧ y = .int a ∧ z = .int c ∧ v = .ref b ∧ H3 l = some (.lst xs) ∧ H3 b = some (.lst ys) ∧ l ≠ b ∧ 0 ≤ a ∧ a ≤ c ∧ a ≤ (xs.length : Int) ∧ xs.length + ys.length ≤ sizeLine ∧
      Q σ (L2.upd H3 l (.lst (xs.take a.toNat ++ ys ++ xs.drop (min c.toNat xs.length)))) := by
    refine ⟨ρ, M, ds, sl, st, (post.bind (R := RD p) h).mono fun x H1 ⟨ρ1, M1, a, st1, g1, r1, h1⟩ => ?_⟩
    have h1 : post (RO p [] σ) p H1 ρ1 ((fb ds M1).bind (kSs1 ds d (fc ds) a)) Q E0' := h1
    refine ⟨ρ1, M1, ds, sl.gr g1, st1, (post.bind (R := RD p) h1).mono fun y H2 ⟨ρ2, M2, b, st2, g2, r2, h2⟩ => ?_⟩
    have h2 : post (RO p [] σ) p H2 ρ2 ((fc ds M2).bind (kSs2 ds d a b)) Q E0' := h2
    refine ⟨ρ2, M2, ds, (sl.gr g1).gr g2, st2, (post.bind (R := RD p) h2).mono fun z H3 ⟨ρ3, M3, c, st3, g3, r3, h3⟩ => ?_⟩
    have h3 : post (RO p [] σ) p H3 ρ3 ((setSl a b c d M3).bind (kOk fun _ => ds)) Q E0' := h3
    rcases setSl_inv a b c d M3 with e0 | ⟨l, i, j, k, xs, ys, rfl, rfl, rfl, rfl, e1, e2, hc, e0⟩
    · rw [e0] at h3; exact h3.elim
    · rw [e0] at h3
      cases r2; cases r3
      have r1' := (r1.gr g2).gr g3
      have rv' := ((rv.gr g1).gr g2).gr g3
      obtain ⟨a1, vs, rfl, k1, k2, k3⟩ := lst_of st3 r1' e1
      obtain ⟨a2, ws, rfl, m1, m2, m3⟩ := lst_of st3 rv' e2
      have hne : a1 ≠ a2 := fun z => hc.1 (by
        subst z
        obtain ⟨q1, q2⟩ := List.getElem?_eq_some_iff.mp k1
        obtain ⟨q3, q4⟩ := List.getElem?_eq_some_iff.mp m1
        exact (List.getElem_inj st3.nd).mp (q2.trans q4.symm))
      have l1 := k3.length
      have l2 := m3.length
      refine ⟨a1, a2, vs, ws, i, j, rfl, rfl, rfl, rfl, k2, m2, hne, hc.2.1, hc.2.2.1, by rw [l1]; exact hc.2.2.2.1, by rw [l1, l2, ← szl_eq]; exact hc.2.2.2.2, ?_⟩
      have e : Ext H3 (L2.upd H3 a1 (.lst (vs.take i.toNat ++ ws ++ vs.drop (min j.toNat vs.length)))) := .setL k2
      have rl : RvL p H3 ρ3 (vs.take i.toNat ++ ws ++ vs.drop (min j.toNat vs.length)) (putSl xs ys i.toNat (min j.toNat xs.length)) := by
        rw [l1]
        exact ((k3.take _).append m3).append (k3.drop _)
      exact h3 _ _ ρ3 (st3.upd k1 e ⟨_, L2.upd_same, RvL.ext e (.refl _) _ _ rl⟩) (.set k1 e) ⟨(((sl.gr g1).gr g2).gr g3).gr (.set k1 e), rfl, fun _ _ => rfl⟩
  rw [arm_assign_Subscript]
  refine wpAny_bind (wpAny_holding (thn (ho.run pins s σ H _ I h1) fun ov s1 ⟨x, H1, I1, r1, q1⟩ => ?_))
  refine wpAny_bind (wpAny_holding (wpAny_Slice ?_))
  rw [evalPart_some]
  refine thn (hlo.run pins s1 σ H1 _ I1 q1) fun vl s2 ⟨y, H2, I2, r2, q2⟩ => ?_
  rw [evalPart_some]
  refine thn (hhi.run pins s2 σ H2 _ I2 q2) fun vu s3 ⟨z, H3, I3, r3, q3⟩ => ?_
  refine thn (po_none.run pins s3 σ H3 (fun o H4 => o = none ∧ H4 = H3) I3 ⟨rfl, rfl⟩) fun vs s4 ⟨o', H4, I4, ps, eo, e4⟩ => ?_
  subst eo e4
  obtain ⟨l, b, xs, ys, a, c, rfl, rfl, rfl, rfl, k2, m2, hne, h0, hac, ha, hz, q⟩ := q3
  cases ps
  obtain ⟨t1, rfl⟩ := r2
  obtain ⟨t2, rfl⟩ := r3
  cases r1
  cases r
  have I5 : Inv X pins σ H4 { s4 with heap := s4.heap.push { cls := .type "slice", data := .fields #[.int a t1, .int c t2, .none] } } := I4.kept (t' := s4.toks) fun b ob q => Heap.get?_push_of_some _ q
  refine wpAny_bind (wpAny_standAt (wpAny_bind (wpAny_holding ?_)))
  refine thn (set_cut I5 k2 m2 hne (Heap.IsSliceOf.new _ _ _ _) (.int a t1) (.int c t2) h0 hac ha hz fun s6 I6 => ?_) fun _ s7 q7 => q7
  exact wpAny_release ⟨σ, _, I6, q⟩
end
end BH
end

section
set_option Elab.async false
set_option linter.all false
set_option maxRecDepth 100000
set_option maxHeartbeats 1000000
/-! zip of a list and a tuple: over two sources of any kind. -/
namespace BH
open PySem PySem.Spec PyProof.Rows L2

/-- an iterator object at i over what stands at l -/
structure Nx (prog : Program) (w : World) (i l : Addr) (It : Heap → Nat → Prop) (Sq : Heap → Array Value → Prop) : Prop where
  item : ∀ {A : Around} {E : Value → Shared → Prop} {s : Shared} {k : Nat} {xs : Array Value} {x : Value} {Q : Value → Shared → Prop}, It s.heap k → Sq s.heap xs → xs[k]? = some x →
    (∀ h', It h' (k + 1) → Heap.SameBut i s.heap h' → Q x { s with heap := h' }) → wpAny (model prog w) A (Builtin.SmallTypes.nextOf (.ref i)) Q E s
  stop : ∀ {A : Around} {E : Value → Shared → Prop} {s : Shared} {k : Nat} {xs : Array Value} {Q : Value → Shared → Prop}, A.handled = none → It s.heap k → Sq s.heap xs → xs[k]? = none →
    (∀ h' e, Heap.ExtBut i s.heap h' → (∃ o, h'.get? e = some o ∧ o.cls = .type "StopIteration") → E (.ref e) { s with heap := h' }) → wpAny (model prog w) A (Builtin.SmallTypes.nextOf (.ref i)) Q E s
  itk : ∀ {h h' : Heap} {k : Nat}, It h k → (∀ o, h.get? i = some o → h'.get? i = some o) → It h' k
  sqk : ∀ {h h' : Heap} {xs : Array Value}, Sq h xs → (∀ o, h.get? l = some o → h'.get? l = some o) → Sq h' xs
  has : ∀ {h : Heap} {k : Nat}, It h k → ∃ o, h.get? i = some o ∧ ∀ v, o.data ≠ .cell v
theorem nx_list {prog : Program} {w : World} (i l : Addr) : Nx prog w i l (fun h k => h.IsListIter i l k) (fun h xs => h.IsList l xs) :=
  ⟨fun a b c d => wpAny_nextOf_list_item a b c d, fun a b c d e => wpAny_nextOf_list_end a b c d e, fun a b => a.at b, fun a b => a.at b, fun ⟨o, e, _, d⟩ => ⟨o, e, fun v q => by rw [d] at q; cases q⟩⟩
theorem nx_tup {prog : Program} {w : World} (i l : Addr) : Nx prog w i l (fun h k => h.IsTupleIter i l k) (fun h xs => h.IsTuple l xs) :=
  ⟨fun a b c d => RZ.nextOf_tuple_item a b c d, fun a b c d e => RZ.nextOf_tuple_end a b c d e, fun a b => a.at b, fun ⟨o, h1, h2⟩ b => ⟨o, b o h1, h2⟩, fun ⟨o, e, _, d⟩ => ⟨o, e, fun v q => by rw [d] at q; cases q⟩⟩

section
variable {prog : Program} {w : World} {A : Around} {E : Value → Shared → Prop} {s : Shared} {z TI TO i1 i2 l1 l2 : Addr} {It1 It2 : Heap → Nat → Prop} {Sq1 Sq2 : Heap → Array Value → Prop} {k1 k2 : Nat} {xs ys : Array Value} {a b : Value}
/-- what a turn leaves alone -/
def Off (z TO i1 i2 : Addr) (h h' : Heap) : Prop := ∀ c o, c ≠ z → c ≠ TO → c ≠ i1 → c ≠ i2 → h.get? c = some o → h'.get? c = some o
theorem zip_step (N1 : Nx prog w i1 l1 It1 Sq1) (N2 : Nx prog w i2 l2 It2 Sq2) (D : ZipApart z TI TO i1 i2 l1 l2) {x y : Value} {Q : Value → Shared → Prop}
    (hz : IsZip s.heap z TI TO .none) (hTI : IsPair s.heap TI (.ref i1) (.ref i2)) (hTO : IsPair s.heap TO a b)
    (h1 : It1 s.heap k1) (h2 : It2 s.heap k2) (q1 : Sq1 s.heap xs) (q2 : Sq2 s.heap ys) (hx : xs[k1]? = some x) (hy : ys[k2]? = some y)
    (hQ : ∀ h', IsZip h' z TI TO (rawInt s.heap.objs.size) → IsPair h' TO x y → It1 h' (k1 + 1) → It2 h' (k2 + 1) → IsPair h' s.heap.objs.size x y → Off z TO i1 i2 s.heap h' → Q (.ref s.heap.objs.size) { s with heap := h' }) :
    wpAny (model prog w) A (Builtin.«zip.__next__» ⟨[.ref z], []⟩) (fun fin s' => ∃ v, fin = .done (.ret v) ∧ Q v s') E s := by
  show wpAny _ _ (field (.ref z) 2 >>= _) _ _ _
  refine wpAny_bind (wpAny_field hz rfl (x := .bool false) rfl ?_)
  show wpAny _ _ (field (.ref z) 3 >>= _) _ _ _
  refine wpAny_bind (wpAny_field hz rfl (x := .ref TI) rfl ?_)
  refine wpAny_bind (wpAny_seqItems hTI rfl ?_)
  show wpAny _ _ (Builtin.SmallTypes.ownedTupleIsFree (.ref z) >>= _) _ _ _
  refine wpAny_bind ?_
  unfold Builtin.SmallTypes.ownedTupleIsFree
  refine wpAny_bind (wpAny_field hz rfl (x := .none) rfl (wpAny_pure ?_))
  simp only [if_true]
  refine wpAny_bind (wpAny_rule ?_)
  refine wpAny_bind (wpAny_field hz rfl (x := .ref TO) rfl ?_)
  refine wpAny_bind (wpAny_setField_rec hz (by simp) fun ha za sa => ?_)
  replace za : IsZip ha z TI TO .ellipsis := za
  refine wpAny_bind ?_
  simp only [List.zipIdx_cons, List.zipIdx_nil, List.forIn_cons, List.forIn_nil]
  -- the first source
  refine wpAny_bind (wpAny_bind (wpAny_onRaise ?_))
  show wpAny _ _ (Builtin.SmallTypes.nextOf (.ref i1) >>= _) _ _ _
  refine wpAny_bind (N1.item (s := { s with heap := ha }) (N1.itk h1 fun o => sa.extBut _ o D.i1z) (N1.sqk q1 fun o => sa.extBut _ o D.l1z) hx fun hb nb sb => wpAny_pure ?_)
  have Tb : IsPair hb TO a b := sb.extBut _ _ D.TOi1 (sa.extBut _ _ D.TOz hTO)
  refine wpAny_bind (wpAny_seqItems Tb rfl ?_)
  refine wpAny_bind (wpAny_updateSeq_pair Tb fun hc Tc sc => ?_)
  replace Tc : IsPair hc TO x b := Tc
  refine wpAny_bind (wpAny_letGo (wpAny_pure ?_))
  -- the second
  refine wpAny_bind (wpAny_bind (wpAny_onRaise ?_))
  show wpAny _ _ (Builtin.SmallTypes.nextOf (.ref i2) >>= _) _ _ _
  refine wpAny_bind (N2.item (s := { s with heap := hc }) (N2.itk h2 fun o e => sc.extBut _ o D.TOi2.symm (sb.extBut _ o D.i12.symm (sa.extBut _ o D.i2z e)))
    (N2.sqk q2 fun o e => sc.extBut _ o D.l2TO (sb.extBut _ o D.l2i1 (sa.extBut _ o D.l2z e))) hy fun hd nd sd => wpAny_pure ?_)
  have Td : IsPair hd TO x b := sd.extBut _ _ D.TOi2 Tc
  refine wpAny_bind (wpAny_seqItems Td rfl ?_)
  refine wpAny_bind (wpAny_updateSeq_pair Td fun he Te se => ?_)
  replace Te : IsPair he TO x y := Te
  refine wpAny_bind (wpAny_letGo (wpAny_pure (wpAny_pure ?_)))
  -- the pair, handed out
  refine wpAny_bind (wpAny_seqItems Te rfl ?_)
  refine wpAny_bind (wpAny_newTuple ?_)
  have size : he.objs.size = s.heap.objs.size := by rw [se.1, sd.1, sc.1, sb.1, sa.1]
  have ze : IsZip he z TI TO .ellipsis := se.extBut _ _ D.TOz.symm (sd.extBut _ _ D.i2z.symm (sc.extBut _ _ D.TOz.symm (sb.extBut _ _ D.i1z.symm za)))
  have off : Off z TO i1 i2 s.heap he := fun c o c1 c2 c3 c4 e => se.extBut _ _ c2 (sd.extBut _ _ c4 (sc.extBut _ _ c2 (sb.extBut _ _ c3 (sa.extBut _ _ c1 e))))
  have n1 : It1 he (k1 + 1) := N1.itk nb fun o e => se.extBut _ o D.TOi1.symm (sd.extBut _ o D.i12 (sc.extBut _ o D.TOi1.symm e))
  have n2 : It2 he (k2 + 1) := N2.itk nd fun o e => se.extBut _ o D.TOi2.symm e
  have zlt : z < he.objs.size := Heap.lt_size ze
  show wpAny _ _ (Builtin.SmallTypes.ownedTupleHandOut (.ref z) (.ref he.objs.size) >>= _) _ _ _
  refine wpAny_bind ?_
  unfold Builtin.SmallTypes.ownedTupleHandOut
  have zf : IsZip (he.push { cls := .type "tuple", data := .seq #[x, y] }) z TI TO .ellipsis := Heap.get?_push_of_some _ ze
  refine wpAny_bind (wpAny_setField_rec zf (by simp) fun hg zg sg => ?_)
  replace zg : IsZip hg z TI TO (rawInt he.objs.size) := zg
  refine wpAny_setField_rec zg (by simp) fun hh zh sh => ?_
  replace zh : IsZip hh z TI TO (rawInt he.objs.size) := zh
  have up : ∀ c o, c ≠ z → he.get? c = some o → hh.get? c = some o := fun c o c1 e => sh.extBut _ _ c1 (sg.extBut _ _ c1 (Heap.get?_push_of_some _ e))
  have Tn : IsPair hh he.objs.size x y := sh.extBut _ _ (Nat.ne_of_gt zlt) (sg.extBut _ _ (Nat.ne_of_gt zlt) (Heap.get?_push_size _ rfl))
  rw [size] at zh Tn
  refine wpAny_pure ⟨_, rfl, ?_⟩
  show Q (.ref he.objs.size) _
  rw [size]
  exact hQ hh zh (up _ _ D.TOz Te) (N1.itk n1 fun o => up _ o D.i1z) (N2.itk n2 fun o => up _ o D.i2z) Tn fun c o c1 c2 c3 c4 e => up c o c1 (off c o c1 c2 c3 c4 e)
theorem zip_stop (N1 : Nx prog w i1 l1 It1 Sq1) (N2 : Nx prog w i2 l2 It2 Sq2) (D : ZipApart z TI TO i1 i2 l1 l2) (hh : A.handled = none) {Q : Fin → Shared → Prop}
    (hz : IsZip s.heap z TI TO .none) (hTI : IsPair s.heap TI (.ref i1) (.ref i2)) (hTO : IsPair s.heap TO a b)
    (h1 : It1 s.heap k1) (h2 : It2 s.heap k2) (q1 : Sq1 s.heap xs) (q2 : Sq2 s.heap ys) (hend : xs[k1]? = none ∨ ys[k2]? = none)
    (hE : ∀ h' e, Off z TO i1 i2 s.heap h' → (∃ o, h'.get? e = some o ∧ o.cls = .type "StopIteration") → E (.ref e) { s with heap := h' }) :
    wpAny (model prog w) A (Builtin.«zip.__next__» ⟨[.ref z], []⟩) Q E s := by
  show wpAny _ _ (field (.ref z) 2 >>= _) _ _ _
  refine wpAny_bind (wpAny_field hz rfl (x := .bool false) rfl ?_)
  show wpAny _ _ (field (.ref z) 3 >>= _) _ _ _
  refine wpAny_bind (wpAny_field hz rfl (x := .ref TI) rfl ?_)
  refine wpAny_bind (wpAny_seqItems hTI rfl ?_)
  show wpAny _ _ (Builtin.SmallTypes.ownedTupleIsFree (.ref z) >>= _) _ _ _
  refine wpAny_bind ?_
  unfold Builtin.SmallTypes.ownedTupleIsFree
  refine wpAny_bind (wpAny_field hz rfl (x := .none) rfl (wpAny_pure ?_))
  simp only [if_true]
  refine wpAny_bind (wpAny_rule ?_)
  refine wpAny_bind (wpAny_field hz rfl (x := .ref TO) rfl ?_)
  refine wpAny_bind (wpAny_setField_rec hz (by simp) fun ha za sa => ?_)
  replace za : IsZip ha z TI TO .ellipsis := za
  refine wpAny_bind ?_
  simp only [List.zipIdx_cons, List.zipIdx_nil, List.forIn_cons, List.forIn_nil]
  refine wpAny_bind (wpAny_bind (wpAny_onRaise ?_))
  show wpAny _ _ (Builtin.SmallTypes.nextOf (.ref i1) >>= _) _ _ _
  have p1 : It1 ha k1 := N1.itk h1 fun o => sa.extBut _ o D.i1z
  have p2 : Sq1 ha xs := N1.sqk q1 fun o => sa.extBut _ o D.l1z
  cases hx : xs[k1]? with
  | none =>
    refine wpAny_bind (N1.stop (s := { s with heap := ha }) hh p1 p2 hx fun hb e sb eb => ?_)
    obtain ⟨oe, he, hce⟩ := eb
    have zb : IsZip hb z TI TO .ellipsis := sb _ _ D.i1z.symm za
    have hez : e ≠ z := fun x => by subst x; rw [zb] at he; cases he; simp at hce
    exact wpAny_setField_rec zb (by simp) fun hc _ sc => hE hc e (fun c o c1 _ c3 _ x => sc.extBut _ _ c1 (sb _ _ c3 (sa.extBut _ _ c1 x))) ⟨oe, sc.extBut _ _ hez he, hce⟩
  | some x =>
    have hy : ys[k2]? = none := by rcases hend with h | h; rw [hx] at h; cases h; exact h
    refine wpAny_bind (N1.item (s := { s with heap := ha }) p1 p2 hx fun hb nb sb => wpAny_pure ?_)
    have Tb : IsPair hb TO a b := sb.extBut _ _ D.TOi1 (sa.extBut _ _ D.TOz hTO)
    refine wpAny_bind (wpAny_seqItems Tb rfl ?_)
    refine wpAny_bind (wpAny_updateSeq_pair Tb fun hc Tc sc => ?_)
    refine wpAny_bind (wpAny_letGo (wpAny_pure ?_))
    refine wpAny_bind (wpAny_bind (wpAny_onRaise ?_))
    show wpAny _ _ (Builtin.SmallTypes.nextOf (.ref i2) >>= _) _ _ _
    refine wpAny_bind (N2.stop (s := { s with heap := hc }) hh (N2.itk h2 fun o e => sc.extBut _ o D.TOi2.symm (sb.extBut _ o D.i12.symm (sa.extBut _ o D.i2z e)))
      (N2.sqk q2 fun o e => sc.extBut _ o D.l2TO (sb.extBut _ o D.l2i1 (sa.extBut _ o D.l2z e))) hy fun hd e sd ed => ?_)
    obtain ⟨oe, he, hce⟩ := ed
    have zd : IsZip hd z TI TO .ellipsis := sd _ _ D.i2z.symm (sc.extBut _ _ D.TOz.symm (sb.extBut _ _ D.i1z.symm za))
    have hez : e ≠ z := fun x => by subst x; rw [zd] at he; cases he; simp at hce
    exact wpAny_setField_rec zd (by simp) fun hf _ sf => hE hf e (fun c o c1 c2 c3 c4 x => sf.extBut _ _ c1 (sd _ _ c4 (sc.extBut _ _ c2 (sb.extBut _ _ c3 (sa.extBut _ _ c1 x))))) ⟨oe, sf.extBut _ _ hez he, hce⟩
end
end BH
end

section
set_option Elab.async false
set_option linter.all false
set_option maxRecDepth 100000
set_option maxHeartbeats 2000000
/-! zip(list, tuple), zip(tuple, tuple) as walked things. -/
namespace BH
open PySem PySem.Spec PyProof.Rows L2

section
variable {prog : Program} {w : World} {A : Around} {E : Value → Shared → Prop} {s : Shared} {z TI TO i1 i2 l1 l2 : Addr} {It1 It2 : Heap → Nat → Prop} {Sq1 Sq2 : Heap → Array Value → Prop} {k1 k2 : Nat} {xs ys : Array Value} {a b : Value}
theorem next_step (N1 : Nx prog w i1 l1 It1 Sq1) (N2 : Nx prog w i2 l2 It2 Sq2) (D : ZipApart z TI TO i1 i2 l1 l2) {x y : Value} {Q : Option Value → Shared → Prop}
    (hz : IsZip s.heap z TI TO .none) (hTI : IsPair s.heap TI (.ref i1) (.ref i2)) (hTO : IsPair s.heap TO a b)
    (h1 : It1 s.heap k1) (h2 : It2 s.heap k2) (q1 : Sq1 s.heap xs) (q2 : Sq2 s.heap ys) (hx : xs[k1]? = some x) (hy : ys[k2]? = some y)
    (hQ : ∀ h', IsZip h' z TI TO (rawInt s.heap.objs.size) → IsPair h' TO x y → It1 h' (k1 + 1) → It2 h' (k2 + 1) → IsPair h' s.heap.objs.size x y → Off z TO i1 i2 s.heap h' → Q (some (.ref s.heap.objs.size)) { s with heap := h' }) :
    wpAny (model prog w) A (pyNext (.ref z)) Q E s := by
  have hT : s.TypeIs (.ref z) "zip" := ⟨_, hz, rfl⟩
  unfold pyNext
  exact wpAny_bind (wpAny_attempt (wpAny_callSpecial?_slot (name := Str.ofString "__next__") hT F.slot_zip_next
    (wpAny_call_entry F.slot_zip_next hT F.entry_zip_next
      (zip_step N1 N2 D hz hTI hTO h1 h2 q1 q2 hx hy fun h' a1 a2 a3 a4 a5 a6 => wpAny_pure (hQ h' a1 a2 a3 a4 a5 a6)) (F.args_zip_next_1 _))))
theorem next_stop (N1 : Nx prog w i1 l1 It1 Sq1) (N2 : Nx prog w i2 l2 It2 Sq2) (D : ZipApart z TI TO i1 i2 l1 l2) (hh : A.handled = none) {Q : Option Value → Shared → Prop}
    (hz : IsZip s.heap z TI TO .none) (hTI : IsPair s.heap TI (.ref i1) (.ref i2)) (hTO : IsPair s.heap TO a b)
    (h1 : It1 s.heap k1) (h2 : It2 s.heap k2) (q1 : Sq1 s.heap xs) (q2 : Sq2 s.heap ys) (hend : xs[k1]? = none ∨ ys[k2]? = none)
    (hQ : ∀ h', Off z TO i1 i2 s.heap h' → Q none { s with heap := h' }) : wpAny (model prog w) A (pyNext (.ref z)) Q E s := by
  have hT : s.TypeIs (.ref z) "zip" := ⟨_, hz, rfl⟩
  unfold pyNext
  refine wpAny_bind (wpAny_attempt (wpAny_callSpecial?_slot (name := Str.ofString "__next__") hT F.slot_zip_next
    (wpAny_call_entry F.slot_zip_next hT F.entry_zip_next (zip_stop (A := A.in1) N1 N2 D hh hz hTI hTO h1 h2 q1 q2 hend fun h' e hk he => ?_) (F.args_zip_next_1 _))))
  obtain ⟨o, ho, hc⟩ := he
  refine wpAny_bind (wpAny_isInstance (T := "StopIteration") (b := true) ⟨o, ho, hc⟩ isSubtype_stop ?_)
  exact wpAny_pure (hQ _ hk)
end

/-! ### the object made -/
def mH1 (h : Heap) (l1 : Addr) : Heap := h.push { cls := .type "list_iterator", data := .fields #[.ref l1, .int 0 0] }
def mH2 (h : Heap) (l1 l2 : Addr) : Heap := (mH1 h l1).push { cls := .type "tuple_iterator", data := .fields #[.ref l2, .int 0 0] }
def mH3 (h : Heap) (l1 l2 : Addr) : Heap := (mH2 h l1 l2).push { cls := .type "tuple", data := .seq #[.ref h.objs.size, .ref (mH1 h l1).objs.size] }
def mH4 (h : Heap) (l1 l2 : Addr) : Heap := (mH3 h l1 l2).push { cls := .type "tuple", data := .seq #[.none, .none] }
def mH5 (h : Heap) (l1 l2 : Addr) : Heap := (mH4 h l1 l2).push { cls := .type "zip", data := .fields #[.none, .bool false, .bool false, .ref (mH2 h l1 l2).objs.size, .ref (mH3 h l1 l2).objs.size] }
theorem meets_zipM (l1 l2 : Addr) (xs ys : Array Value) :
    Meets (Builtin.«zip.__new__» ⟨[.type "zip", .ref l1, .ref l2], []⟩) (fun _ R s => s.heap.IsList l1 xs ∧ s.heap.IsTuple l2 ys ∧
      R (.ok (.ret (.ref (mH4 s.heap l1 l2).objs.size))) { s with heap := mH5 s.heap l1 l2 }) :=
  .of_wp fun prog w A R s h => by
    obtain ⟨hp, g, d, tk, os⟩ := s; obtain ⟨hl1, hl2, h⟩ := h
    have hsub := sub_zip
    have hL1 : Heap.IsList (Shared.heap ⟨hp, g, d, tk, os⟩) l1 xs := hl1
    have hL2 : Heap.IsTuple (Shared.heap ⟨hp.push { cls := .type "list_iterator", data := .fields #[.ref l1, .int 0 0] }, g, d, tk, os⟩) l2 ys := Heap.IsTuple.push hl2 _
    wp_walk using wpAny_pyIter_list hL1, wpAny_pyIter_tuple hL2
    exact ⟨_, rfl, h⟩
section
variable {prog : Program} {w : World} {A : Around} {E : Value → Shared → Prop} {s : Shared}
theorem call_zipM {l1 l2 : Addr} {xs ys : Array Value} {Q : Value → Shared → Prop} (hl1 : s.heap.IsList l1 xs) (hl2 : s.heap.IsTuple l2 ys)
    (h : ∀ h', IsZip h' (s.heap.objs.size + 4) (s.heap.objs.size + 2) (s.heap.objs.size + 3) .none → IsPair h' (s.heap.objs.size + 2) (.ref s.heap.objs.size) (.ref (s.heap.objs.size + 1)) →
      IsPair h' (s.heap.objs.size + 3) .none .none → h'.IsListIter s.heap.objs.size l1 0 → h'.IsTupleIter (s.heap.objs.size + 1) l2 0 →
      (∀ c o, s.heap.get? c = some o → h'.get? c = some o) → Q (.ref (s.heap.objs.size + 4)) { s with heap := h' }) :
    wpAny (model prog w) A (call (.type "zip") [.ref l1, .ref l2]) Q E s := by
  refine callType_new F.called_zip (by decide) (F.typeCall_zip_2 _ _) (F.newCall_zip_2 _ _) (fun obj => F.args_object_init_3 obj _ _) F.entry_zip_new
    (meets_zipM l1 l2 xs ys) ⟨hl1, hl2, ?_⟩
  have z1 : (mH1 s.heap l1).objs.size = s.heap.objs.size + 1 := Heap.size_push ..
  have z2 : (mH2 s.heap l1 l2).objs.size = s.heap.objs.size + 2 := by rw [mH2, Heap.size_push, z1]
  have z3 : (mH3 s.heap l1 l2).objs.size = s.heap.objs.size + 3 := by rw [mH3, Heap.size_push, z2]
  have z4 : (mH4 s.heap l1 l2).objs.size = s.heap.objs.size + 4 := by rw [mH4, Heap.size_push, z3]
  have p {h : Heap} {c : Addr} {o o' : Obj} (x : h.get? c = some o) : (h.push o').get? c = some o := Heap.get?_push_of_some _ x
  have g5 : (mH5 s.heap l1 l2).get? (mH4 s.heap l1 l2).objs.size = some _ := Heap.get?_push_size _ rfl
  have g4 : (mH5 s.heap l1 l2).get? (mH3 s.heap l1 l2).objs.size = some _ := p (Heap.get?_push_size _ rfl)
  have g3 : (mH5 s.heap l1 l2).get? (mH2 s.heap l1 l2).objs.size = some _ := p (p (Heap.get?_push_size _ rfl))
  have g2 : (mH5 s.heap l1 l2).get? (mH1 s.heap l1).objs.size = some _ := p (p (p (Heap.get?_push_size _ rfl)))
  have g1 : (mH5 s.heap l1 l2).get? s.heap.objs.size = some _ := p (p (p (p (Heap.get?_push_size _ rfl))))
  show _ ∧ _
  rw [z2, z3, z4] at g5
  rw [z1, z2] at g3
  rw [z3] at g4
  rw [z1] at g2
  rw [z4]
  exact ⟨⟨_, g5, rfl⟩, h _ g5 g3 g4 ⟨_, g1, rfl, rfl⟩ ⟨_, g2, rfl, rfl⟩ fun c o x => p (p (p (p (p x))))⟩
end

/-! ### as a walk -/
/-- the list at a and the tuple at b as they stand at each turn, the items in new pairs -/
def ItzM (K : PySem.W.Frag) (a b : Addr) : L2.It :=
  ⟨fun i H => ∃ (xs ys : List V) (x y : V), SqL K H a xs ∧ SqT K H b ys ∧ xs[i]? = some x ∧ ys[i]? = some y,
    fun i H v H' => ∃ T x y, v = .ref T ∧ H T = none ∧ H' = L2.upd H T (.tup [x, y]) ∧ (∀ xs, SqL K H a xs → xs[i]? = some x) ∧ ∀ ys, SqT K H b ys → ys[i]? = some y,
    fun i H => ∃ xs ys : List V, SqL K H a xs ∧ SqT K H b ys ∧ (xs.length ≤ i ∨ ys.length ≤ i)⟩
theorem turn_zipM {P : Program} {w : World} {K : PySem.W.Frag} {elts : List Expr} {kk : Nat} {tpos : Pos} {a b z TI TO i1 i2 : Addr} (D : ZipApart z TI TO i1 i2 a b) :
    Turn P w K (.Tuple elts kk tpos) (ItzM K a b) [z, TI, TO, i1, i2] z (fun i h => IsZip h z TI TO .none ∧ IsPair h TI (.ref i1) (.ref i2) ∧ (∃ x y, IsPair h TO x y) ∧ h.IsListIter i1 a i ∧ h.IsTupleIter i2 b i) where
  mem := by simp
  obj := fun i h st c hc => by
    obtain ⟨hz, hTI, ⟨x, y, hTO⟩, h1, h2⟩ := st
    have e' : c = z ∨ c = TI ∨ c = TO ∨ c = i1 ∨ c = i2 := by simpa using hc
    rcases e' with q | q | q | q | q
    · rw [q]; exact ⟨_, hz, fun v q => nomatch q⟩
    · rw [q]; exact ⟨_, hTI, fun v q => nomatch q⟩
    · rw [q]; exact ⟨_, hTO, fun v q => nomatch q⟩
    · rw [q]; exact (nx_list (prog := P) (w := w) i1 a).has h1
    · rw [q]; exact (nx_tup (prog := P) (w := w) i2 b).has h2
  keep := fun i h h' st k => by
    obtain ⟨hz, hTI, ⟨x, y, hTO⟩, h1, h2⟩ := st
    exact ⟨k z (by simp) _ hz, k TI (by simp) _ hTI, ⟨x, y, k TO (by simp) _ hTO⟩, h1.at fun o q => k i1 (by simp) o q, h2.at fun o q => k i2 (by simp) o q⟩
  item := by
    intro X hP hw hK hc i pins s σ H E I hf st hg
    subst hP hw hK
    obtain ⟨hz, hTI, ⟨x0, y0, hTO⟩, h1, h2⟩ := st
    obtain ⟨xs, ys, x, y, hqx, hqy, hx, hy⟩ := hg
    obtain ⟨its, rv, p, _⟩ := I.list hqx
    obtain ⟨its2, rv2, p2, _⟩ := I.tuple hqy
    obtain ⟨u, hu, ru⟩ := rv.get hx
    obtain ⟨u2, hu2, ru2⟩ := rv2.get hy
    have hzl : z < s.heap.objs.size := Heap.lt_size hz
    refine next_step (nx_list i1 a) (nx_tup i2 b) D hz hTI hTO h1 h2 p.isList p2 (x := u) (y := u2) (by simpa using hu) (by simpa using hu2) fun h' z' TO' h1' h2' hT off => ?_
    refine ⟨_, rfl, wpAny_letOwnedTupleGo_zip (s := { s with heap := h' }) z' fun h'' z'' sb => ?_⟩
    have hT2 : h''.get? s.heap.objs.size = some { cls := .type "tuple", data := .seq #[u, u2] } := (sb.2 _ (Nat.ne_of_gt hzl)).trans hT
    have new : ObjOk X.prog X.w (L2.upd H s.heap.objs.size (.tup [x, y])) h'' s.heap.objs.size (.tup [x, y]) :=
      ⟨by show 2 ≤ sizeLine; decide, [u, u2], .cons ru (.cons ru2 .nil), ⟨_, hT2, rfl, _, rfl⟩⟩
    have I1 : Inv X pins σ (L2.upd H s.heap.objs.size (.tup [x, y])) { s with heap := h'' } :=
      I.turnedNew (t' := s.toks) (ch := [z, TI, TO, i1, i2]) (fun c o hb q => (sb.2 c (fun q' => hb (by simp [q']))).trans (off c o (fun q' => hb (by simp [q'])) (fun q' => hb (by simp [q'])) (fun q' => hb (by simp [q'])) (fun q' => hb (by simp [q'])) q)) hf (Nat.le_refl _) new
    refine ⟨.ref s.heap.objs.size, _, I1, rfl, ⟨_, x, y, rfl, I.hok.fresh (Nat.le_refl _), rfl, fun l hl => by rw [I.list_inj hl hqx]; exact hx, fun l hl => by rw [I.tuple_inj hl hqy]; exact hy⟩, ⟨z'', ?_, ⟨u, u2, ?_⟩, ?_, ?_⟩, fun c hcm => ?_⟩
    · exact (sb.2 _ D.TIz).trans (off _ _ D.TIz D.TITO D.TIi1 D.TIi2 hTI)
    · exact (sb.2 _ D.TOz).trans TO'
    · exact h1'.at fun o q => (sb.2 _ D.i1z).trans q
    · exact h2'.at fun o q => (sb.2 _ D.i2z).trans q
    · have hlt : c < s.heap.objs.size := by
        have e' : c = z ∨ c = TI ∨ c = TO ∨ c = i1 ∨ c = i2 := by simpa using hcm
        rcases e' with q | q | q | q | q
        · rw [q]; exact hzl
        · rw [q]; exact Heap.lt_size hTI
        · rw [q]; exact Heap.lt_size hTO
        · rw [q]; obtain ⟨_, e1, _⟩ := h1; exact Heap.lt_size e1
        · rw [q]; obtain ⟨_, e2, _⟩ := h2; exact Heap.lt_size e2
      rw [L2.upd_ne (Nat.ne_of_lt hlt)]
      exact (hf c hcm).1
  done := by
    intro X hP hw hK hc i pins s σ H E I hf st hg
    subst hP hw hK
    obtain ⟨hz, hTI, ⟨x0, y0, hTO⟩, h1, h2⟩ := st
    obtain ⟨xs, ys, hqx, hqy, hend⟩ := hg
    obtain ⟨its, rv, p, _⟩ := I.list hqx
    obtain ⟨its2, rv2, p2, _⟩ := I.tuple hqy
    have l1 := rv.length
    have l2 := rv2.length
    have he : its.toArray[i]? = none ∨ its2.toArray[i]? = none := by
      rcases hend with q | q
      · exact .inl (by simp; omega)
      · exact .inr (by simp; omega)
    exact next_stop (nx_list i1 a) (nx_tup i2 b) D (I.ok.hd hc) hz hTI hTO h1 h2 p.isList p2 he fun h' off => ⟨rfl, I.turnedL (t' := s.toks) (ch := [z, TI, TO, i1, i2]) (fun c o hb q =>
      off c o (fun q' => hb (by simp [q'])) (fun q' => hb (by simp [q'])) (fun q' => hb (by simp [q'])) (fun q' => hb (by simp [q'])) q) hf⟩
  self := fun A i s Q E st h => wpAny_pyIter_zip st.1 h
end BH
end

section
set_option Elab.async false
set_option linter.all false
set_option maxRecDepth 100000
set_option maxHeartbeats 1000000
/-! zip in the core language. -/
namespace BH
open PySem PySem.Spec PyProof.Rows L2

def iZipM (K : PySem.W.Frag) (ta : TA) : TI := fun σ H R => ta σ H fun vs H1 => ∃ a b xs ys, vs = [.ref a, .ref b] ∧ SqL K H1 a xs ∧ SqT K H1 b ys ∧ R (ItzM K a b) H1
theorem pi_zipM {X : Cx} {e e2 : Expr} {ta : TA} {p pos tpos : Pos} {elts : List Expr} {kk : Nat} (hg : Gl X "zip") (hm : X.mg "zip" = none) (ha : PA X [e, e2] ta)
    (hs : starEach [e, e2] X.env = (false, eval e X.env) :: starEach [e2] X.env := by rfl) (hpl : (backTo pos (starEach [e2] X.env)).any (·.1) = false := by rfl) :
    PI X (.Tuple elts kk tpos) (.Call (.Name "zip" p) [e, e2] [] pos) (iZipM X.K ta) := by
  refine ⟨fun pins s σ H R I h => ?_⟩
  refine Call_ (ld_blt I hg hm PyProof.Rows.boot_zip (PyProof.Rows.callWith_type1 (thn (ha.run pos pins s σ H _ I h) fun us s1 ⟨vs, H1, I1, r1, a, b, xs, ys, ex, hqx, hqy, q⟩ => ?_) hs hpl))
  subst ex
  obtain ⟨u1, u2, rfl, ra, rb⟩ := vals2 r1
  cases ra
  cases rb
  have n := s1.heap.objs.size
  have fresh5 : ∀ c, c ∈ [s1.heap.objs.size + 4, s1.heap.objs.size + 2, s1.heap.objs.size + 3, s1.heap.objs.size, s1.heap.objs.size + 1] → FpOk X pins H1 c := fun c hc => by
    have hle : s1.heap.objs.size ≤ c := by
      simp only [List.mem_cons, List.not_mem_nil, or_false] at hc
      omega
    exact I1.fpOk hle (I1.hok.fresh hle)
  obtain ⟨its, rv, p1, _⟩ := I1.list hqx
  obtain ⟨its2, rv2, p2, _⟩ := I1.tuple hqy
  obtain ⟨o2, ho2, _⟩ := id p2
  refine call_zipM p1.isList p2 fun h' hz hTI hTO h1 h2 hk => wpAny_pyIter_zip hz ?_
  have I2 : Inv X pins σ H1 { s1 with heap := h' } := I1.kept (t' := s1.toks) hk
  exact ⟨s1.heap.objs.size + 4, [s1.heap.objs.size + 4, s1.heap.objs.size + 2, s1.heap.objs.size + 3, s1.heap.objs.size, s1.heap.objs.size + 1], _, _, H1, rfl, I2,
    turn_zipM (PySem.W.ktu_apart s1.heap.objs.size a b p1.lt (Heap.lt_size ho2)), ⟨hz, hTI, ⟨_, _, hTO⟩, h1, h2⟩, fresh5, q⟩

theorem pairL_at {xs ys : List D} {i : Nat} {d : D} (h : (pairL xs ys)[i]? = some d) : ∃ x y, xs[i]? = some x ∧ ys[i]? = some y ∧ d = .tup [x, y] := by
  unfold pairL at h
  rw [List.getElem?_zipWith] at h
  split at h
  · rename_i x y e1 e2
    cases h
    exact ⟨x, y, e1, e2, rfl⟩
  · cases h
theorem pairL_len (xs ys : List D) : (pairL xs ys).length = min xs.length ys.length := by
  unfold pairL
  rw [List.length_zipWith]
section
variable {X : Cx} {p : Pm}
theorem pair_new {H : Hp} {ρ : List Addr} {M : Store} {T : Addr} {v w : V} {x y : D} (st : RSt p H ρ M) (hT : H T = none) (r1 : Rv p H ρ v x) (r2 : Rv p H ρ w y) :
    RSt p (L2.upd H T (.tup [v, w])) ρ M ∧ Gr H ρ (L2.upd H T (.tup [v, w])) ρ ∧ Rv p (L2.upd H T (.tup [v, w])) ρ (.ref T) (.tup [x, y]) := by
  have e : Ext H (L2.upd H T (.tup [v, w])) := .new hT
  exact ⟨st.grow hT, .new hT, .tup (.of L2.upd_same) (.cons (Rv.ext e (.refl _) _ _ r1) (.cons (Rv.ext e (.refl _) _ _ r2) .nil))⟩
theorem wk_zipT (hK : X.K = p.K) {H : Hp} {ρ : List Addr} {a b : Addr} {vs ws : List V} {xs ys : List D} (s1 : SqT p.K H a vs) (r1 : RvL p H ρ vs xs) (s2 : SqT p.K H b ws) (r2 : RvL p H ρ ws ys) : Wk p H ρ (RZ.ItzT X.K a b) (.prs (pairL xs ys)) := by
  intro H' ρ' M' st g _
  have t1 : SqT X.K H' a vs := by rw [hK]; exact g.ext.sqt s1
  have t2 : SqT X.K H' b ws := by rw [hK]; exact g.ext.sqt s2
  have q1 := r1.gr g
  have q2 := r2.gr g
  refine ⟨⟨vs, ws, t1, t2, ?_⟩, fun i d hd => ?_⟩
  · show vs.length ≤ (pairL xs ys).length ∨ ws.length ≤ (pairL xs ys).length
    rw [pairL_len, q1.length, q2.length]
    omega
  · obtain ⟨x, y, hx, hy, rfl⟩ := pairL_at hd
    obtain ⟨v, hv, rv⟩ := q1.get hx
    obtain ⟨w, hw, rw'⟩ := q2.get hy
    refine ⟨⟨vs, ws, v, w, t1, t2, hv, hw⟩, fun u H'' yl => ?_⟩
    obtain ⟨T, v', w', rfl, hT, rfl, f1, f2⟩ := yl
    have e1 := f1 vs t1
    have e2 := f2 ws t2
    rw [hv] at e1
    rw [hw] at e2
    cases e1
    cases e2
    exact pair_new st hT rv rw'
theorem wk_zipM (hK : X.K = p.K) {H : Hp} {ρ : List Addr} {a b : Addr} {l : Nat} {ws : List V} {xs ys : List D} (h : ρ[l]? = some a) (s2 : SqT p.K H b ws) (r2 : RvL p H ρ ws ys) : Wk p H ρ (ItzM X.K a b) (.lps l xs (pairL xs ys)) := by
  intro H' ρ' M' st g c
  have h' := g.pre.get h
  unfold Itm.chk at c
  dsimp only at c
  split at c
  next zs e =>
    have e2 := D.beqL_eq _ _ c
    subst e2
    obtain ⟨vs, hv0, q1⟩ := st.get h' e
    have t1 : SqL X.K H' a vs := .of hv0
    have t2 : SqT X.K H' b ws := by rw [hK]; exact g.ext.sqt s2
    have q2 := r2.gr g
    refine ⟨⟨vs, ws, t1, t2, ?_⟩, fun i d hd => ?_⟩
    · show vs.length ≤ (pairL zs ys).length ∨ ws.length ≤ (pairL zs ys).length
      rw [pairL_len, q1.length, q2.length]
      omega
    · obtain ⟨x, y, hx, hy, rfl⟩ := pairL_at hd
      obtain ⟨v, hv, rv⟩ := q1.get hx
      obtain ⟨w, hw, rw'⟩ := q2.get hy
      refine ⟨⟨vs, ws, v, w, t1, t2, hv, hw⟩, fun u H'' yl => ?_⟩
      obtain ⟨T, v', w', rfl, hT, rfl, f1, f2⟩ := yl
      have e1 := f1 vs t1
      have e2 := f2 ws t2
      rw [hv] at e1
      rw [hw] at e2
      cases e1
      cases e2
      exact pair_new st hT rv rw'
  next => cases c
variable {W : WX} {a b : Expr} {pos : Pos} {fa fb : Env → Store → Out D} {fi : Env → Store → Out Itm}
theorem i_zip {p1 tpos : Pos} {elts : List Expr} {kk : Nat} (hK : X.K = p.K) (hg : Gl X "zip") (hm : X.mg "zip" = none) (ha : PE X a (rX (RD p) p W fa)) (hb : PE X b (rX (RD p) p W fb)) (hsa : isStar a = false) (hsb : isStar b = false)
    (hf : ∀ ds M, fi ds M = (fa ds M).bind (k2 (fb ds) zipD)) : PI X (.Tuple elts kk tpos) (.Call (.Name "zip" p1) [a, b] [] pos) (rX (Wk p) p W fi) := by
  refine ⟨fun pins s σ H R I h => ?_⟩
  obtain ⟨ρ, M, ds, sl, st, h⟩ := h
  rw [hf] at h
  have hpa := pa_cons ha (pa_cons hb pa_nil (star_cons hsb)) (star_cons hsa)
  have hs : starEach [a, b] X.env = (false, eval a X.env) :: starEach [b] X.env := star_cons hsa
  have hpl : (backTo pos (starEach [b] X.env)).any (·.1) = false := by rw [star_cons hsb]; rfl
  by_cases ht : ∃ xs M1, fa ds M = .ok (.tup xs) M1
  · obtain ⟨xs, M1, e1⟩ := ht
    refine (RZ.pi_zipA hg hm hpa hs hpl).run pins s σ H R I ⟨ρ, M, ds, sl, st, ?_⟩
    rw [e1] at h ⊢
    have h : post (Wk p) p H ρ ((fb ds M1).bind (zipD (.tup xs))) R (WE W σ) := h
    intro x H1 ρ1 st1 g1 r1
    refine ⟨ρ1, M1, ds, sl.gr g1, st1, (post.bind (R := RD p) (post.later (o := (fb ds M1).bind (zipD (.tup xs))) h g1)).mono fun y H2 ⟨ρ2, M2, d2, st2, g2, r2, q⟩ => ?_⟩
    have r1' := r1.gr g2
    unfold zipD at q
    split at q
    next xs' ys e =>
      cases e
      cases r1' with
      | tup k1 k2 =>
        cases r2 with
        | tup m1 m2 =>
          refine ⟨_, _, _, _, rfl, .inr ⟨by rw [hK]; exact k1, by rw [hK]; exact m1, ?_⟩⟩
          exact post_now (R := Wk p) q st2 (wk_zipT hK k1 k2 m1 m2)
    next e => cases e
    next => exact q.elim
  · refine (pi_zipM hg hm hpa hs hpl).run pins s σ H R I ⟨ρ, M, ds, sl, st, ?_⟩
    cases e1 : fa ds M with
    | ex x M1 => rw [e1] at h; exact h
    | bad => rw [e1] at h; exact h
    | ok d M1 =>
      rw [e1] at h
      have h : post (Wk p) p H ρ ((fb ds M1).bind (zipD d)) R (WE W σ) := h
      intro x H1 ρ1 st1 g1 r1
      refine ⟨ρ1, M1, ds, sl.gr g1, st1, (post.bind (R := RD p) (post.later (o := (fb ds M1).bind (zipD d)) h g1)).mono fun y H2 ⟨ρ2, M2, d2, st2, g2, r2, q⟩ => ?_⟩
      have r1' := r1.gr g2
      unfold zipD at q
      split at q
      next xs' ys => exact absurd ⟨_, _, e1⟩ ht
      next l ys =>
        split at q
        next xs' e3 =>
          obtain ⟨a1, vs, rfl, k1, k2, k3⟩ := lst_of st2 r1' e3
          cases r2 with
          | tup m1 m2 =>
            refine ⟨_, _, _, _, rfl, .of k2, by rw [hK]; exact m1, ?_⟩
            exact post_now (R := Wk p) q st2 (wk_zipM hK k1 m1 m2)
        next => exact q.elim
      next => exact q.elim
end
end BH
end

section
set_option Elab.async false
set_option linter.all false
set_option maxRecDepth 100000
set_option maxHeartbeats 1000000
/-! Statements' readings. -/
namespace BH
open PySem PySem.Spec L2

def postS (p : Pm) (W : WX) (H : Hp) (ρ : List Addr) (o : SO) (D : Ends) : Prop :=
  match o with
  | .nx ds M => ∀ σ' H' ρ', RSt p H' ρ' M → Gr H ρ H' ρ' → RSl p H' ρ' σ' ds → D.nx σ' H'
  | .rt d M => ∀ v H' ρ', RSt p H' ρ' M → Gr H ρ H' ρ' → Rv p H' ρ' v d → D.rt v H'
  | .bk ds M => ∀ σ' H' ρ', RSt p H' ρ' M → Gr H ρ H' ρ' → RSl p H' ρ' σ' ds → D.bk σ' H'
  | .ct ds M => ∀ σ' H' ρ', RSt p H' ρ' M → Gr H ρ H' ρ' → RSl p H' ρ' σ' ds → D.ct σ' H'
  | .ex e ds M => ∀ cls dd σ' H' ρ', RSt p H' ρ' M → Gr H ρ H' ρ' → RSl p H' ρ' σ' ds → Rx p H' ρ' cls dd e → W cls dd σ' H'
  | .bad => False
def rS (p : Pm) (W : WX) (f : Env → Store → SO) : TS := fun D σ H => ∃ ρ M ds, RSl p H ρ σ ds ∧ RSt p H ρ M ∧ postS p W H ρ (f ds M) D
section
variable {p : Pm} {W : WX} {H H1 : Hp} {ρ ρ1 : List Addr} {D D' : Ends} {o : SO} {σ : L2.St} {ds : Env} {M : Store}
theorem postS.later (h : postS p W H ρ o D) (g : Gr H ρ H1 ρ1) : postS p W H1 ρ1 o D := by
  cases o with
  | nx ds M => exact fun σ' H' ρ' st g' sl => h σ' H' ρ' st (g.trans g') sl
  | rt d M => exact fun v H' ρ' st g' r => h v H' ρ' st (g.trans g') r
  | bk ds M => exact fun σ' H' ρ' st g' sl => h σ' H' ρ' st (g.trans g') sl
  | ct ds M => exact fun σ' H' ρ' st g' sl => h σ' H' ρ' st (g.trans g') sl
  | ex e ds M => exact fun cls dd σ' H' ρ' st g' sl r => h cls dd σ' H' ρ' st (g.trans g') sl r
  | bad => exact h
theorem postS.so {α β : Type} {R : Hp → List Addr → β → α → Prop} {x : Out α} {k : α → Store → SO} (sl : RSl p H ρ σ ds) (h : postS p W H ρ (x.so ds k) D) :
    post R p H ρ x (fun b H1 => ∃ ρ1 M1 a, RSl p H1 ρ1 σ ds ∧ RSt p H1 ρ1 M1 ∧ Gr H ρ H1 ρ1 ∧ R H1 ρ1 b a ∧ postS p W H1 ρ1 (k a M1) D) (WE W σ) := by
  cases x with
  | ok a M => exact fun b H1 ρ1 st g r => ⟨ρ1, M, a, sl.gr g, st, g, r, postS.later (o := k a M) h g⟩
  | ex e M => exact fun cls dd H' ρ' st g r => h cls dd σ H' ρ' st g (sl.gr g) r
  | bad => exact h
theorem postS.soN {α β : Type} {R : Hp → List Addr → β → α → Prop} {x : Out α} {k : α → Store → SO} (h : postS p W H ρ (x.soN k) D) {E : XK} :
    post R p H ρ x (fun b H1 => ∃ ρ1 M1 a, RSt p H1 ρ1 M1 ∧ Gr H ρ H1 ρ1 ∧ R H1 ρ1 b a ∧ postS p W H1 ρ1 (k a M1) D) E := by
  cases x with
  | ok a M => exact fun b H1 ρ1 st g r => ⟨ρ1, M, a, st, g, r, postS.later (o := k a M) h g⟩
  | ex e M => exact h.elim
  | bad => exact h
theorem postS.seq {k : Env → Store → SO} (h : postS p W H ρ (o.seq k) D) : postS p W H ρ o { D with nx := rS p W k D } := by
  cases o with
  | nx ds M => exact fun σ' H' ρ' st g sl => ⟨ρ', M, ds, sl, st, postS.later (o := k ds M) h g⟩
  | rt d M => exact h
  | bk ds M => exact h
  | ct ds M => exact h
  | ex e ds M => exact h
  | bad => exact h
theorem postS.turn {k : Env → Store → SO} (h : postS p W H ρ (o.turn k) D) :
    postS p W H ρ o { D with nx := fun σ' H' => ∃ ρ' M' ds', RSl p H' ρ' σ' ds' ∧ RSt p H' ρ' M' ∧ Gr H ρ H' ρ' ∧ postS p W H' ρ' (k ds' M') D, ct := fun σ' H' => ∃ ρ' M' ds', RSl p H' ρ' σ' ds' ∧ RSt p H' ρ' M' ∧ Gr H ρ H' ρ' ∧ postS p W H' ρ' (k ds' M') D, bk := D.nx } := by
  cases o with
  | nx ds M => exact fun σ' H' ρ' st g sl => ⟨ρ', M, ds, sl, st, g, postS.later (o := k ds M) h g⟩
  | ct ds M => exact fun σ' H' ρ' st g sl => ⟨ρ', M, ds, sl, st, g, postS.later (o := k ds M) h g⟩
  | rt d M => exact h
  | bk ds M => exact h
  | ex e ds M => exact h
  | bad => exact h
end

section
variable {X : Cx} {p : Pm} {W : WX} {e c tg it : Expr} {st : Stmt} {body a b rest : List Stmt} {pos : Pos} {f g : Env → Store → SO} {fe : Env → Store → Out D} {fc : Env → Store → Out Bool} {fi : Env → Store → Out Itm} {gf : D → Env → Store → Out PySem.Env} {gd : D → Env → Store → Out Env} {ts : List Nat}
theorem sss_nil (hf : ∀ ds M, f ds M = .nx ds M) : PSs X [] (rS p W f) :=
  ⟨fun pins s σ H D I h => pss_nil.run pins s σ H D I (by
    obtain ⟨ρ, M, ds, sl, st, h⟩ := h
    rw [hf] at h
    exact h σ H ρ st (.refl _ _) sl)⟩
theorem sss_cons (h1 : PS X st (rS p W f)) (h2 : PSs X rest (rS p W g)) {k : Env → Store → SO} (hf : ∀ ds M, k ds M = (f ds M).seq g) : PSs X (st :: rest) (rS p W k) :=
  ⟨fun pins s σ H D I h => (pss_cons h1 h2).run pins s σ H D I (by
    obtain ⟨ρ, M, ds, sl, st, h⟩ := h
    rw [hf] at h
    exact ⟨ρ, M, ds, sl, st, h.seq⟩)⟩
theorem ss_exp (he : PE X e (rX (RD p) p W fe)) (hn : notComp e = true) (hf : ∀ ds M, f ds M = (fe ds M).so ds (sNx ds)) : PS X (.Expr e pos) (rS p W f) :=
  ⟨fun pins s σ H D I h => (ps_expr he (swaps_ok hn)).run pins s σ H D I (by
    obtain ⟨ρ, M, ds, sl, st, h⟩ := h
    rw [hf] at h
    exact ⟨ρ, M, ds, sl, st, (h.so sl).mono fun v H1 ⟨ρ1, M1, d, sl1, st1, g1, r1, q⟩ => q σ H1 ρ1 st1 (.refl _ _) sl1⟩)⟩
theorem asg_rd {σ : L2.St} {H : Hp} {D : Ends} {te : TE} (hf : ∀ ds M, f ds M = (fe ds M).so ds (sAsg gd ds)) (h : rS p W f D σ H) (ht : ∀ Q, rX (RD p) p W fe σ H Q → te σ H Q) : tAsg te (rG p ts gd) D σ H := by
  obtain ⟨ρ, M, ds, sl, st, h⟩ := h
  rw [hf] at h
  refine ht _ ⟨ρ, M, ds, sl, st, (h.so sl).mono fun v H1 ⟨ρ1, M1, d, sl1, st1, g1, r1, q⟩ => ?_⟩
  have q : postS p W H1 ρ1 ((gd d ds M1).soN .nx) D := q
  exact ⟨ρ1, M1, ds, d, sl1, st1, r1, q.soN.mono fun σ2 H2 ⟨ρ2, M2, ds2, st2, g2, ⟨sl2, _, _⟩, q2⟩ => q2 σ2 H2 ρ2 st2 (.refl _ _) sl2⟩
theorem ss_asg (he : PE X e (rX (RD p) p W fe)) (hg : PG X tg (rG p ts gd)) (hn : notComp e = true) (hw : swappedStores [tg] e X.env = pure none) (hst : isStar tg = false) (hf : ∀ ds M, f ds M = (fe ds M).so ds (sAsg gd ds)) : PS X (.Assign [tg] e pos) (rS p W f) :=
  ⟨fun pins s σ H D I h => (ps_asg he hg (swapsS_ok hn) hw (by rw [assign_cons hst]; rfl)).run pins s σ H D I (asg_rd hf h fun _ q => q)⟩
theorem ss_ret (he : PE X e (rX (RD p) p W fe)) (hf : ∀ ds M, f ds M = (fe ds M).so ds sRt) : PS X (.Return (some e) pos) (rS p W f) :=
  ⟨fun pins s σ H D I h => (ps_ret he).run pins s σ H D I (by
    obtain ⟨ρ, M, ds, sl, st, h⟩ := h
    rw [hf] at h
    exact ⟨ρ, M, ds, sl, st, (h.so sl).mono fun v H1 ⟨ρ1, M1, d, sl1, st1, g1, r1, q⟩ => q v H1 ρ1 st1 (.refl _ _) r1⟩)⟩
theorem ss_retN (hf : ∀ ds M, f ds M = .rt .non M) : PS X (.Return none pos) (rS p W f) :=
  ⟨fun pins s σ H D I h => ps_retN.run pins s σ H D I (by
    obtain ⟨ρ, M, ds, sl, st, h⟩ := h
    rw [hf] at h
    exact h _ _ _ st (.refl _ _) .non)⟩
theorem ss_pass (hf : ∀ ds M, f ds M = .nx ds M) : PS X (.Pass pos) (rS p W f) :=
  ⟨fun pins s σ H D I h => ps_pass.run pins s σ H D I (by
    obtain ⟨ρ, M, ds, sl, st, h⟩ := h
    rw [hf] at h
    exact h σ H ρ st (.refl _ _) sl)⟩
theorem ss_brk (hf : ∀ ds M, f ds M = .bk ds M) : PS X (.Break pos) (rS p W f) :=
  ⟨fun pins s σ H D I h => ps_break.run pins s σ H D I (by
    obtain ⟨ρ, M, ds, sl, st, h⟩ := h
    rw [hf] at h
    exact h σ H ρ st (.refl _ _) sl)⟩
theorem ss_cnt (hf : ∀ ds M, f ds M = .ct ds M) : PS X (.Continue pos) (rS p W f) :=
  ⟨fun pins s σ H D I h => ps_continue.run pins s σ H D I (by
    obtain ⟨ρ, M, ds, sl, st, h⟩ := h
    rw [hf] at h
    exact h σ H ρ st (.refl _ _) sl)⟩
theorem ss_if (hc : PT X c (rX RB p W fc)) (ha : PSs X a (rS p W f)) (hb : PSs X b (rS p W g)) {k : Env → Store → SO} (hf : ∀ ds M, k ds M = (fc ds M).so ds (sIf f g ds)) : PS X (.If c a b pos) (rS p W k) :=
  ⟨fun pins s σ H D I h => (ps_if hc ha hb).run pins s σ H D I (by
    obtain ⟨ρ, M, ds, sl, st, h⟩ := h
    rw [hf] at h
    refine ⟨ρ, M, ds, sl, st, (h.so sl).mono fun t H1 ⟨ρ1, M1, d, sl1, st1, g1, r1, q⟩ => ?_⟩
    cases r1
    cases t with
    | true => rw [if_pos rfl]; exact ⟨ρ1, M1, ds, sl1, st1, q⟩
    | false => rw [if_neg (by decide)]; exact ⟨ρ1, M1, ds, sl1, st1, q⟩)⟩
theorem ss_while (hp : PassesOwn (model X.prog X.w) X.A X.env X.xe) (hc : PT X c (rX RB p W fc)) (hb : PSs X body (rS p W g)) (hf : ∀ ds M, f ds M = whlL fc g fuel ds M) : PS X (.While c body [] pos) (rS p W f) :=
  ⟨fun pins s σ H D I h => (ps_while hp hc hb).run pins s σ H D I (by
    obtain ⟨ρ, M, ds, sl, st, h⟩ := h
    rw [hf] at h
    refine ⟨fun n σ H => ∃ ρ M ds, RSl p H ρ σ ds ∧ RSt p H ρ M ∧ postS p W H ρ (whlL fc g n ds M) D, ⟨_, ρ, M, ds, sl, st, h⟩, ?_⟩
    rintro n σ H ⟨ρ, M, ds, sl, st, h⟩
    cases n with
    | zero => exact h.elim
    | succ n =>
      have h : postS p W H ρ ((fc ds M).so ds (whlK g (whlL fc g n) ds)) D := h
      refine ⟨ρ, M, ds, sl, st, (h.so sl).mono fun t H1 ⟨ρ1, M1, d, sl1, st1, g1, r1, q⟩ => ?_⟩
      cases r1
      cases t with
      | false =>
        rw [if_neg (by decide)]
        exact q σ H1 ρ1 st1 (.refl _ _) sl1
      | true =>
        rw [if_pos rfl]
        have q : postS p W H1 ρ1 ((g ds M1).turn (whlL fc g n)) D := q
        exact ⟨_, fun σ' H' ⟨ρ', M', ds', sl', st', _, q'⟩ => ⟨n, Nat.lt_succ_self n, ρ', M', ds', sl', st', q'⟩, ρ1, M1, ds, sl1, st1, q.turn⟩)⟩
theorem ss_for (hp : PassesOwn (model X.prog X.w) X.A X.env X.xe) (hc : X.calm = true) (hi : PI X tg it (rX (Wk p) p W fi)) (hg : PG X tg (rG p ts gd)) (hb : PSs X body (rS p W g)) (hn : notSet it = true) (hf : ∀ ds M, f ds M = (fi ds M).so ds (sFor gd g ds)) :
    PS X (.For tg it body [] pos) (rS p W f) :=
  ⟨fun pins s σ H D I h => (ps_for hp hc hi hg hb (set_ok hn)).run pins s σ H D I (by
    obtain ⟨ρ, M, ds, sl, st, h⟩ := h
    rw [hf] at h
    refine ⟨ρ, M, ds, sl, st, (h.so (R := Wk p) sl).mono fun J H1 ⟨ρ1, M1, itm, sl1, st1, g1, wk, q⟩ => ?_⟩
    have q : postS p W H1 ρ1 (forL itm.chk gd g itm.ds ds M1) D := q
    refine ⟨fun i m σ H => m = itm.ds.length - i ∧ i ≤ itm.ds.length ∧ ∃ ρ M ds, RSl p H ρ σ ds ∧ RSt p H ρ M ∧ Wk p H ρ J itm ∧ postS p W H ρ (forL itm.chk gd g (itm.ds.drop i) ds M) D, ⟨itm.ds.length, by simp, Nat.zero_le _, ρ1, M1, ds, sl1, st1, wk, q⟩, ?_⟩
    clear h q wk st1 sl1 g1
    rintro i m σ H ⟨rfl, hi, ρ, M, ds, sl, st, wk, q⟩
    by_cases hlt : i < itm.ds.length
    · obtain ⟨x, hx⟩ : ∃ x, itm.ds[i]? = some x := ⟨_, List.getElem?_eq_getElem hlt⟩
      have ed : itm.ds.drop i = x :: itm.ds.drop (i + 1) := by
        obtain ⟨h1, h2⟩ := List.getElem?_eq_some_iff.mp hx
        rw [List.drop_eq_getElem_cons hlt, h2]
      rw [ed] at q
      unfold forL at q
      by_cases hc : itm.chk M = true
      · rw [if_pos hc] at q
        obtain ⟨_, w2⟩ := wk H ρ M st (.refl _ _) hc
        obtain ⟨go, w3⟩ := w2 i x hx
        refine .inr ⟨go, fun σ' H' => ∃ ρ M ds, RSl p H' ρ σ' ds ∧ RSt p H' ρ M ∧ Wk p H' ρ J itm ∧ postS p W H' ρ (forL itm.chk gd g (itm.ds.drop (i + 1)) ds M) D, fun σ' H' nx => ⟨itm.ds.length - (i + 1), by omega, rfl, hlt, nx⟩, fun v H' y => ?_⟩
        obtain ⟨sty, gy, rv⟩ := w3 v H' y
        replace q : postS p W H' ρ ((gd x ds M).soN (forK g (forL itm.chk gd g (itm.ds.drop (i + 1))))) D := postS.later (o := (gd x ds M).soN (forK g (forL itm.chk gd g (itm.ds.drop (i + 1))))) q gy
        replace wk := wk.gr gy
        refine ⟨ρ, M, ds, x, sl.gr gy, sty, rv, q.soN.mono fun σ2 H2 ⟨ρ2, M2, ds2, st2, g2, ⟨sl2, _, _⟩, q2⟩ => ?_⟩
        have q2 : postS p W H2 ρ2 ((g ds2 M2).turn (forL itm.chk gd g (itm.ds.drop (i + 1)))) D := q2
        refine ⟨ρ2, M2, ds2, sl2, st2, ?_⟩
        have q3 := q2.turn
        have wk2 := wk.gr g2
        cases e2 : g ds2 M2 with
        | nx ds3 M3 =>
          rw [e2] at q3
          exact fun σ' H' ρ' st' g' sl' => by
            obtain ⟨ρ4, M4, ds4, sl4, st4, g4, q4⟩ := q3 σ' H' ρ' st' g' sl'
            exact ⟨ρ4, M4, ds4, sl4, st4, wk2.gr g4, q4⟩
        | ct ds3 M3 =>
          rw [e2] at q3
          exact fun σ' H' ρ' st' g' sl' => by
            obtain ⟨ρ4, M4, ds4, sl4, st4, g4, q4⟩ := q3 σ' H' ρ' st' g' sl'
            exact ⟨ρ4, M4, ds4, sl4, st4, wk2.gr g4, q4⟩
        | rt d M3 => rw [e2] at q3; exact q3
        | bk ds3 M3 => rw [e2] at q3; exact q3
        | ex x ds3 M3 => rw [e2] at q3; exact q3
        | bad => rw [e2] at q3; exact q3
      · rw [if_neg hc] at q; exact q.elim
    · have ei : i = itm.ds.length := by omega
      subst ei
      rw [List.drop_length] at q
      unfold forL at q
      by_cases hc : itm.chk M = true
      · rw [if_pos hc] at q
        obtain ⟨w1, _⟩ := wk H ρ M st (.refl _ _) hc
        exact .inl ⟨w1, q σ H ρ st (.refl _ _) sl⟩
      · rw [if_neg hc] at q; exact q.elim)⟩
theorem ss_rai {i : Nat} {x m : Str} {j : Nat} {p1 p2 cpos : Pos} {bmB : List Value} {B newId initId : String} (hc : X.calm = true) (tk : Takes X W) (F : ExcBaseFacts B newId initId bmB) (q : PySem.W.excIn X.K (p.xa i) bmB newId = true) (gC : X.mg x = some (.ref (p.xa i))) (kC : PySem.W.keepIn X.K (.ref (p.xa i)) = true)
    (r : Raises X (.ref (p.xa i))) (hxp : p.xp i) (hg : Gl X x) (ho : ord_ x = true) (hf : ∀ ds M, f ds M = .ex ⟨i, none⟩ ds M) : PS X (.Raise (some (.Call (.Name x p1) [.Constant (.str m) j p2] [] cpos)) none pos) (rS p W f) :=
  ⟨fun pins s σ H D I h => (ps_raise hc tk (pmk_own F q gC kC r hg (ord_ok ho).1)).run pins s σ H D I (by
    obtain ⟨ρ, M, ds, sl, st, h⟩ := h
    rw [hf] at h
    exact h _ _ σ H ρ st (.refl _ _) sl ⟨⟨hxp, rfl⟩, rfl⟩)⟩
theorem ss_par2 {i j : Nat} {x y : Str} {e1 e2 : Expr} {f1 f2 : Env → Store → Out D} {px py pt : Pos} {kt k2' : Nat} {pt2 : Pos} (hc : X.calm = true) (hN : X.N.Nodup) (hi : X.N[i]? = some x) (hj : X.N[j]? = some y) (hij : i ≠ j) (hx : locL X.env.scope x = true) (hy : locL X.env.scope y = true)
    (ha : PE X e1 (rX (RD p) p W f1)) (hb : PE X e2 (rX (RD p) p W f2)) (hs1 : isStar e1 = false) (hs2 : isStar e2 = false) (hw : swappedStores [.Tuple [.Name x px, .Name y py] kt pt] (.Tuple [e1, e2] k2' pt2) X.env = pure (some [x, y]))
    (hf : ∀ ds M, f ds M = ((f1 ds M).bind (_root_.BH.k2 (f2 ds) fun a b M => .ok [a, b] M)).so ds (sPar [i, j] ds)) : PS X (.Assign [.Tuple [.Name x px, .Name y py] kt pt] (.Tuple [e1, e2] k2' pt2) pos) (rS p W f) :=
  ⟨fun pins s σ H D I h => (ps_par hc hN hi hj hij (locL_ok hx) (locL_ok hy) (pa_cons ha (pa_cons hb pa_nil (star_cons hs2)) (star_cons hs1)) hw).run pins s σ H D I (by
    obtain ⟨ρ, M, ds, sl, st, h⟩ := h
    rw [hf] at h
    have h1 := h.so (R := RDs p) sl
    refine ⟨ρ, M, ds, sl, st, (post.bind (R := RD p) h1).mono fun v H1 ⟨ρ1, M1, a, st1, g1, r1, q1⟩ => ?_⟩
    have q1 : post (RDs p) p H1 ρ1 ((f2 ds M1).bind fun b M => .ok [a, b] M) _ (WE W σ) := q1
    refine ⟨ρ1, M1, ds, sl.gr g1, st1, (post.bind (R := RD p) q1).mono fun w H2 ⟨ρ2, M2, b, st2, g2, r2, q2⟩ => ?_⟩
    have z := post_now (R := RDs p) (b := [v, w]) q2 st2 (.cons (r1.gr g2) (.cons r2 .nil))
    obtain ⟨ρ3, M3, xs, sl3, st3, g3, r3, q3⟩ := z
    refine ⟨v, w, rfl, ?_⟩
    cases r3 with
    | cons k1 k2 =>
      cases k2 with
      | cons k2 k3 =>
        cases k3
        exact q3 _ _ ρ3 st3 (.refl _ _) ((sl3.set i k1).set j k2))⟩
theorem ss_par3 {i j l : Nat} {x y z : Str} {e1 e2 e3 : Expr} {f1 f2 f3 : Env → Store → Out D} {px py pz pt : Pos} {kt k2' : Nat} {pt2 : Pos} (hc : X.calm = true) (hN : X.N.Nodup) (hi : X.N[i]? = some x) (hj : X.N[j]? = some y) (hl : X.N[l]? = some z) (hij : i ≠ j) (hil : i ≠ l) (hjl : j ≠ l)
    (hx : locL X.env.scope x = true) (hy : locL X.env.scope y = true) (hz : locL X.env.scope z = true)
    (ha : PE X e1 (rX (RD p) p W f1)) (hb : PE X e2 (rX (RD p) p W f2)) (hc3 : PE X e3 (rX (RD p) p W f3)) (hs1 : isStar e1 = false) (hs2 : isStar e2 = false) (hs3 : isStar e3 = false) (hw : swappedStores [.Tuple [.Name x px, .Name y py, .Name z pz] kt pt] (.Tuple [e1, e2, e3] k2' pt2) X.env = pure (some [x, y, z]))
    (hf : ∀ ds M, f ds M = ((f1 ds M).bind fun a M => (f2 ds M).bind fun b M => (f3 ds M).bind fun c M => .ok [a, b, c] M).so ds (sPar [i, j, l] ds)) : PS X (.Assign [.Tuple [.Name x px, .Name y py, .Name z pz] kt pt] (.Tuple [e1, e2, e3] k2' pt2) pos) (rS p W f) :=
  ⟨fun pins s σ H D I h => (ps_par3 hc hN hi hj hl hij hil hjl (locL_ok hx) (locL_ok hy) (locL_ok hz) (pa_cons ha (pa_cons hb (pa_cons hc3 pa_nil (star_cons hs3)) (star_cons hs2)) (star_cons hs1)) hw).run pins s σ H D I (by
    obtain ⟨ρ, M, ds, sl, st, h⟩ := h
    rw [hf] at h
    have h1 := h.so (R := RDs p) sl
    refine ⟨ρ, M, ds, sl, st, (post.bind (R := RD p) h1).mono fun v H1 ⟨ρ1, M1, a, st1, g1, r1, q1⟩ => ?_⟩
    refine ⟨ρ1, M1, ds, sl.gr g1, st1, (post.bind (R := RD p) q1).mono fun w H2 ⟨ρ2, M2, b, st2, g2, r2, q2⟩ => ?_⟩
    refine ⟨ρ2, M2, ds, (sl.gr g1).gr g2, st2, (post.bind (R := RD p) q2).mono fun u H3 ⟨ρ3, M3, c, st3, g3, r3, q3⟩ => ?_⟩
    have z := post_now (R := RDs p) (b := [v, w, u]) q3 st3 (.cons ((r1.gr g2).gr g3) (.cons (r2.gr g3) (.cons r3 .nil)))
    obtain ⟨ρ4, M4, xs, sl4, st4, g4, r4, q4⟩ := z
    refine ⟨v, w, u, rfl, ?_⟩
    cases r4 with
    | cons k1 r4 =>
      cases r4 with
      | cons k2 r4 =>
        cases r4 with
        | cons k3 r4 =>
          cases r4
          exact q4 _ _ ρ4 st4 (.refl _ _) (((sl4.set i k1).set j k2).set l k3))⟩

/-! ### try -/
theorem many_rd {m : Nat → List D → Store → Out D} {sup : Nat → Nat → Bool} {σ : L2.St} {H : Hp} {ρ : List Addr} {D : Ends} {ds : Env} {M : Store} {x : Ex} {cls : Value} {dd : Option Addr} (hs : ∀ i j, p.xp i → p.xp j → PySem.W.exmOne p.K (.ref (p.xa i)) (.ref (p.xa j)) = some (sup i j)) (hr : Rx p H ρ cls dd x) (sl : RSl p H ρ σ ds) (st : RSt p H ρ M) :
    ∀ hs : List (Nat × CE), (∀ h ∈ hs, p.xp h.1) → postS p W H ρ (evH m sup hs x ds M) D → wMany p.K W D (hs.map fun h => (.ref (p.xa h.1), fun _ _ _ D σ H => rX (RD p) p W0 (evE m h.2) σ H D.rt)) cls dd σ H := by
  intro hl hp h
  induction hl with
  | nil => exact h _ _ σ H ρ st (.refl _ _) sl hr
  | cons hd hl ih =>
    obtain ⟨c, b⟩ := hd
    refine ⟨sup x.c c, ?_, fun hy a _ => ?_, fun hn => ?_⟩
    · rw [hr.1.2]; exact hs _ _ hr.1.1 (hp _ List.mem_cons_self)
    · unfold evH at h
      rw [if_pos hy] at h
      refine ⟨ρ, M, ds, sl, st, ?_⟩
      cases e1 : evE m b ds M with
      | ok d M1 => rw [e1] at h; exact fun v H1 ρ1 st1 g1 r1 => h v H1 ρ1 st1 g1 r1
      | ex y M1 => rw [e1] at h; exact h.elim
      | bad => rw [e1] at h; exact h.elim
    · unfold evH at h
      rw [if_neg (by rw [hn]; decide)] at h
      exact ih (fun z hz => hp z (List.mem_cons_of_mem _ hz)) h
end
end BH
end

section
set_option Elab.async false
set_option linter.all false
set_option maxRecDepth 100000
set_option maxHeartbeats 1000000
/-! o.x = e. -/
namespace BH
open PySem PySem.Spec PyProof.Rows L2

theorem setF_inv (c : Nat) (x : Str) (o d : D) (M : Store) : setF c x o d M = .bad ∨ ∃ l fs, o = .ol c l ∧ M[l]? = some (.ins c fs) ∧ fs.length < 1000 ∧ setF c x o d M = .ok () (M.set l (.ins c (putFd x d fs))) := by
  unfold setF
  split
  next c' l =>
    split
    next k fs e =>
      by_cases h : c' = c ∧ k = c ∧ fs.length < 1000
      · obtain ⟨rfl, rfl, h3⟩ := h
        exact .inr ⟨l, fs, rfl, e, h3, if_pos ⟨rfl, rfl, h3⟩⟩
      · exact .inl (if_neg h)
    next => exact .inl rfl
  next => exact .inl rfl
section
variable {X : Cx} {p : Pm} {W : WX} {o e : Expr} {pos pos' : Pos} {fo fe : Env → Store → Out D} {f : Env → Store → SO}
theorem ss_fld {c : Nat} {x : Str} (hC : L2.Cls X.K (p.ca c)) (hn : NoAttr X.K (p.ca c) x) (ho : PE X o (rX (RD p) p W0 fo)) (he : PE X e (rX (RD p) p W fe)) (hc : notComp e = true)
    (hf : ∀ ds M, f ds M = (fe ds M).so ds (sAsg (fun d σ M => (fo σ M).bind (kSetF σ c x d)) ds)) : PS X (.Assign [.Attribute o x pos'] e pos) (rS p W f) := by
  refine ⟨fun pins s σ H D I h => (ps_fld ho he (swaps_ok hc)).run pins s σ H D I ?_⟩
  obtain ⟨ρ, M, ds, sl, st, h⟩ := h
  rw [hf] at h
  refine ⟨ρ, M, ds, sl, st, (h.so sl).mono fun v H1 ⟨ρ1, M1, d, sl1, st1, g1, r1, q⟩ => ?_⟩
  have q : postS p W H1 ρ1 (((fo ds M1).bind (kSetF ds c x d)).soN .nx) D := q
  refine ⟨ρ1, M1, ds, sl1, st1, ?_⟩
  cases e1 : fo ds M1 with
  | ex x M2 => rw [e1] at q; exact q.elim
  | bad => rw [e1] at q; exact q.elim
  | ok o' M2 =>
    rw [e1] at q
    have q : postS p W H1 ρ1 (((setF c x o' d M2).bind (kOk fun _ => ds)).soN .nx) D := q
    intro xx H2 ρ2 st2 g2 r2
    rcases setF_inv c x o' d M2 with e0 | ⟨l, fs, rfl, e2, e3, e0⟩
    · rw [e0] at q; exact q.elim
    · rw [e0] at q
      have q : postS p W H1 ρ1 (.nx ds (M2.set l (.ins c (putFd x d fs)))) D := q
      obtain ⟨a, dx, fv, rfl, h1, h2, h3, h4⟩ := ol_of st2 r2 e2
      refine ⟨a, _, dx, fv, rfl, h2, hC, hn, by rw [pk_len h4]; exact e3, ?_⟩
      have ex : Ext H2 (L2.upd H2 a (.ins (p.ca c) dx (putF x v fv))) := .setI h2
      have g3 : Gr H2 ρ2 (L2.upd H2 a (.ins (p.ca c) dx (putF x v fv))) ρ2 := .set h1 ex
      refine q σ _ ρ2 (st2.upd h1 ex ⟨dx, _, L2.upd_same, pairedMono (put_rv (r1.gr g2) h4) fun y z w => ⟨w.1, Rv.ext ex (.refl _) _ _ w.2⟩⟩) (g2.trans g3) ((sl1.gr g2).gr g3)
end
end BH
end

section
set_option Elab.async false
set_option linter.all false
set_option maxRecDepth 100000
set_option maxHeartbeats 1000000
/-! Keywords of a call. -/
namespace BH
open PySem PySem.Spec PyProof.Rows L2

theorem kw_three {env : PySem.Env} {pos : Pos} : ∀ {kws : List Keyword} {ks : List Str}, kwN kws = some ks →
    (backToKw pos (keywordEach kws env)).all (·.1.isSome) = true ∧ (backToKw pos (keywordEach kws env)).filterMap (·.1) = ks ∧ (backToKw pos (keywordEach kws env)).any (·.1.isNone) = false
  | [], ks, h => by cases h; exact ⟨rfl, rfl, rfl⟩
  | ⟨none, _, _⟩ :: r, ks, h => by cases h
  | ⟨some x, v, q⟩ :: r, ks, h => by
    unfold kwN at h
    obtain ⟨ks', h1, rfl⟩ := bind1_eq h
    obtain ⟨i1, i2, i3⟩ := kw_three (env := env) (pos := pos) h1
    refine ⟨?_, ?_, ?_⟩
    · show (true && (backToKw pos (keywordEach r env)).all (·.1.isSome)) = true
      rw [i1]; rfl
    · show x :: (backToKw pos (keywordEach r env)).filterMap (·.1) = x :: ks'
      rw [i2]
    · show (false || (backToKw pos (keywordEach r env)).any (·.1.isNone)) = false
      rw [i3]; rfl
section
variable {X : Cx} {p : Pm} {W : WX} {e : Expr} {kws : List Keyword} {fa : Env → Store → Out D} {fs : Env → Store → Out (List D)}
theorem k_nil (hf : ∀ ds M, fs ds M = .ok [] M) : PK X [] (rX (RDs p) p W fs) :=
  ⟨fun pos pins s σ H Q I h => pk_nil.run pos pins s σ H Q I (by
    obtain ⟨ρ, M, ds, sl, st, h⟩ := h
    rw [hf] at h
    exact post_now h st .nil)⟩
theorem k_cons {nm : Option Str} {kpos : Pos} {fr : Env → Store → Out (List D)} (he : PE X e (rX (RD p) p W fa)) (hr : PK X kws (rX (RDs p) p W fr)) (hf : ∀ ds M, fs ds M = (fa ds M).bind (k2 (fr ds) (kOk2 .cons))) : PK X (⟨nm, e, kpos⟩ :: kws) (rX (RDs p) p W fs) :=
  ⟨fun pos pins s σ H Q I h => (pk_cons he hr).run pos pins s σ H Q I
    ((rd2 (R := RD p) (R2 := RDs p) (g := fun _ => kOk2 .cons) hf rvgr h).mono fun x H1 h1 => h1.mono fun y H2 ⟨ρ, M, ds, d1, d2, _, st, r1, r2, q⟩ => post_now q st (.cons r1 r2))⟩
theorem kws_ok {m : Nat → List D → Store → Out D} {f : Expr → Option CE} (hf : ∀ e ce, f e = some ce → PE X e (rX (RD p) p W (evE m ce))) : ∀ {kws : List Keyword} {ces : List CE}, cAll f (kwE kws) = some ces → PK X kws (rX (RDs p) p W (evEs m ces)) ∧ ces.length = kws.length
  | [], ces, h => by
    cases h
    exact ⟨k_nil fun _ _ => by simp only [evEs], rfl⟩
  | ⟨nm, v, q⟩ :: r, ces, h => by
    unfold kwE at h
    rw [List.map_cons] at h
    unfold cAll at h
    obtain ⟨h1, h2⟩ := guard_eq h
    obtain ⟨c, cs, h3, h4, rfl⟩ := bind2_eq h2
    obtain ⟨i1, i2⟩ := kws_ok hf (kws := r) h4
    exact ⟨k_cons (hf _ _ h3) i1 fun _ _ => by simp only [evEs], by simp [i2]⟩
/-- one list of values behind another -/
theorem evEs_app {m : Nat → List D → Store → Out D} : ∀ (as bs : List CE) (σ : Env) (M : Store), evEs m (as ++ bs) σ M = (evEs m as σ M).bind (k2 (evEs m bs σ) (kOk2 (· ++ ·)))
  | [], bs, σ, M => by
    rw [List.nil_append]
    simp only [evEs]
    show evEs m bs σ M = (evEs m bs σ M).bind (kOk2 (· ++ ·) [])
    cases evEs m bs σ M <;> rfl
  | a :: as, bs, σ, M => by
    rw [List.cons_append]
    simp only [evEs]
    cases evE m a σ M with
    | ok x M1 =>
      show (evEs m (as ++ bs) σ M1).bind (kOk2 .cons x) = ((evEs m as σ M1).bind (kOk2 .cons x)).bind (k2 (evEs m bs σ) (kOk2 (· ++ ·)))
      rw [evEs_app as bs σ M1]
      cases evEs m as σ M1 with
      | ok xs M2 =>
        show ((evEs m bs σ M2).bind (kOk2 (· ++ ·) xs)).bind (kOk2 .cons x) = (evEs m bs σ M2).bind (kOk2 (· ++ ·) (x :: xs))
        cases evEs m bs σ M2 <;> rfl
      | ex _ _ => rfl
      | bad => rfl
    | ex _ _ => rfl
    | bad => rfl
end
end BH
end

section
set_option Elab.async false
set_option linter.all false
set_option maxRecDepth 100000
set_option maxHeartbeats 1000000
/-! What a class's members must be. -/
namespace BH
open PySem PySem.Spec PyProof.Rows L2

theorem mem_lk {α β : Type} [BEq α] [LawfulBEq α] {x : α} {d : β} : ∀ {l : List (α × β)}, l.lookup x = some d → (x, d) ∈ l
  | [], h => by cases h
  | (y, e) :: r, h => by
    rw [List.lookup_cons] at h
    cases q : (x == y) with
    | true =>
      rw [q] at h
      cases h
      rw [eq_of_beq q]
      exact List.mem_cons_self
    | false => rw [q] at h; exact List.mem_cons_of_mem _ (mem_lk h)
theorem kwN_len : ∀ {kws : List Keyword} {ks : List Str}, kwN kws = some ks → ks.length = kws.length
  | [], ks, h => by cases h; rfl
  | ⟨none, _, _⟩ :: r, ks, h => by cases h
  | ⟨some x, v, q⟩ :: r, ks, h => by
    unfold kwN at h
    obtain ⟨ks', h1, rfl⟩ := bind1_eq h
    rw [List.length_cons, List.length_cons, kwN_len h1]
structure ClsF (Γ : Gam) (p : Pm) (m : Nat → List D → Store → Out D) (k : Nat) (P : Program) (w : World) (K : PySem.W.Frag) (mg : Str → Option Value) (base : Heap) : Prop where
  fld : ∀ x c, (x, c) ∈ Γ.fld → L2.Cls K (p.ca c) ∧ NoAttr K (p.ca c) x
  prp : ∀ x c g, (x, (c, g)) ∈ Γ.prp → L2.Cls K (p.ca c) ∧ (∃ q0, PropOf K (p.ca c) x q0 (p.fa g)) ∧ ∃ k' fd ps, k' + 1 ≤ k ∧ ps.length = 1 ∧ Binds K fd ps [] ∧ FnOk P w K mg base (L2.CX P w) k' (p.fa g) fd ps (spM p ps.length (m g))
  clm : ∀ x mm c g n, ((x, mm), (c, (g, n))) ∈ Γ.clm → mg x = some (.ref (p.fa c)) ∧ (∃ mc q0, ClX.CRead K (p.fa c) mc ∧ ClX.CMet K (p.fa c) mc mm q0 (p.fa g)) ∧ ∃ k' fd ps, k' + 1 ≤ k ∧ ps.length = n + 1 ∧ Binds K fd ps [] ∧ FnOk P w K mg base (L2.CX P w) k' (p.fa g) fd ps (spM p ps.length (m g))
  ini : ∀ ks c g n, (ks, (c, (g, n))) ∈ Γ.ini → p.ca c = p.fa c ∧ L2.Mk K (p.fa c) (p.fa g) ∧ ∃ k' fd ps gg, k' + 1 ≤ k ∧ ps.length = n + ks.length + 1 ∧ KBn K fd ps (n + 1) ks gg (fun vs zs => vs ++ zs) ∧ FnOk P w K mg base (L2.CX P w) k' (p.fa g) fd ps (spM p ps.length (m g))
/-- every id of a member is below b -/
def Gam.lt (Γ : Gam) (b : Nat) : Bool := (Γ.fns.all fun y => decide (y.2.1 < b)) && ((Γ.prp.all fun y => decide (y.2.2 < b)) && ((Γ.clm.all fun y => decide (y.2.2.1 < b)) && Γ.ini.all fun y => decide (y.2.2.1 < b)))
theorem Gam.lt_ok {Γ : Gam} {b : Nat} (h : Γ.lt b = true) : (∀ y ∈ Γ.fns, y.2.1 < b) ∧ (∀ y ∈ Γ.prp, y.2.2 < b) ∧ (∀ y ∈ Γ.clm, y.2.2.1 < b) ∧ (∀ y ∈ Γ.ini, y.2.2.1 < b) := by
  unfold Gam.lt at h
  simp only [Bool.and_eq_true, List.all_eq_true, decide_eq_true_eq] at h
  exact h
section
variable {Γ : Gam} {p : Pm} {m m' : Nat → List D → Store → Out D} {k k' : Nat} {P : Program} {w : World} {K : PySem.W.Frag} {mg : Str → Option Value} {base : Heap}
theorem ClsF.up (F : ClsF Γ p m k P w K mg base) (h : k ≤ k') : ClsF Γ p m k' P w K mg base := by
  refine ⟨F.fld, fun x c g q => ?_, fun x mm c g n q => ?_, fun ks c g n q => ?_⟩
  · obtain ⟨a, b, j, fd, ps, e1, e2, e3, e4⟩ := F.prp x c g q
    exact ⟨a, b, j, fd, ps, Nat.le_trans e1 h, e2, e3, e4⟩
  · obtain ⟨a, b, j, fd, ps, e1, e2, e3, e4⟩ := F.clm x mm c g n q
    exact ⟨a, b, j, fd, ps, Nat.le_trans e1 h, e2, e3, e4⟩
  · obtain ⟨a, b, j, fd, ps, gg, e1, e2, e3, e4⟩ := F.ini ks c g n q
    exact ⟨a, b, j, fd, ps, gg, Nat.le_trans e1 h, e2, e3, e4⟩
theorem ClsF.agree (F : ClsF Γ p m k P w K mg base) {b : Nat} (hb : Γ.lt b = true) (h : ∀ i, i < b → m' i = m i) : ClsF Γ p m' k P w K mg base := by
  obtain ⟨_, b1, b2, b3⟩ := Gam.lt_ok hb
  refine ⟨F.fld, fun x c g q => ?_, fun x mm c g n q => ?_, fun ks c g n q => ?_⟩
  · rw [h g (b1 _ q)]; exact F.prp x c g q
  · rw [h g (b2 _ q)]; exact F.clm x mm c g n q
  · rw [h g (b3 _ q)]; exact F.ini ks c g n q
end
/-- a method's call, its form plain -/
theorem meth_eq {o : Expr} {nm : Str} {apos pos : Pos} {args : List Expr} {env : PySem.Env} (hbase : attributeBase o nm env (eval o env) = eval o env)
    (hfew : methodCallForm (args.length + ([] : List Keyword).length) (backTo pos (starEach args env)) (backToKw pos (keywordEach [] env)) = true) (hline : (apos.endLine == pos.line) = true) :
    eval (.Call (.Attribute o nm apos) args [] pos) env = (do
      let ov ← eval o env
      standAt apos.atName
      let (f, first) ← holding [ov] (getMethod ov nm (do return (← importBound o env).getD true))
      callWith pos f first (backTo pos (starEach args env)) (backToKw pos (keywordEach [] env))) := by
  have hpos : methodCallPos true o env apos pos = pure pos := by unfold methodCallPos; simp [hline]
  rw [arm_eval_Call, hbase]
  unfold methodCall
  rw [hfew, hpos]
  rfl
end BH
end

section
set_option Elab.async false
set_option linter.all false
set_option maxRecDepth 100000
set_option maxHeartbeats 4000000
/-! What the compiler answers is what the model does. -/
namespace BH
open PySem PySem.Spec L2

structure Fit (Γ : Gam) (p : Pm) (m : Nat → List D → Store → Out D) (sup : Nat → Nat → Bool) (k : Nat) (N : List Str) (X : Cx) : Prop where
  hK : X.K = p.K
  hN : X.N = N
  nd : N.Nodup
  fns : ∀ x i a, (x, (i, a)) ∈ Γ.fns → PySem.W.keepIn X.K (.ref (p.fa i)) = true ∧ ∃ fd ps, ps.length = a ∧ Binds X.K fd ps [] ∧ FnOk X.prog X.w X.K X.mg X.base (L2.CX X.prog X.w) k (p.fa i) fd ps (spM p ps.length (m i))
  fnv : ∀ x i a, (x, (i, a)) ∈ Γ.fns → X.mg x = some (.ref (p.fa i))
  cns : ∀ x d, Γ.cns.lookup x = some d → ∃ v u, X.mg x = some u ∧ RelV v u ∧ ∀ H ρ, Rv p H ρ v d
  exs : ∀ x i, (x, i) ∈ Γ.exs → X.mg x = some (.ref (p.xa i)) ∧ PySem.W.keepIn X.K (.ref (p.xa i)) = true ∧ Raises X (.ref (p.xa i)) ∧ p.xp i ∧ ∃ B newId initId bmB, ExcBaseFacts B newId initId bmB ∧ PySem.W.excIn X.K (p.xa i) bmB newId = true
  blt : ∀ x, x ∈ Γ.blt → X.mg x = none
  sup : ∀ i j, p.xp i → p.xp j → PySem.W.exmOne p.K (.ref (p.xa i)) (.ref (p.xa j)) = some (sup i j)
  cl : ClsF Γ p m k X.prog X.w X.K X.mg X.base

section
variable {Γ : Gam} {p : Pm} {m : Nat → List D → Store → Out D} {sup : Nat → Nat → Bool} {k : Nat} {N : List Str} {X : Cx} {W : WX} {sc : Scope}
theorem isBlt_ok (F : Fit Γ p m sup k N X) (hs : X.env.scope = sc) {x : Str} (h : isBlt Γ sc x = true) : Gl X x ∧ X.mg x = none ∧ ord_ x = true := by
  unfold isBlt at h
  rw [Bool.and_eq_true_iff, Bool.and_eq_true_iff] at h
  refine ⟨?_, F.blt x (of_decide_eq_true h.2.2), h.2.1⟩
  show X.env.scope.names.lookup x = _
  rw [hs]
  exact glB_ok h.1
theorem gl_ok (hs : X.env.scope = sc) {x : Str} (h : glB sc x = true) : Gl X x := by
  show X.env.scope.names.lookup x = _
  rw [hs]
  exact glB_ok h
theorem evEs_len : ∀ {ces : List CE} {ds : Env} {M M' : Store} {xs : List D}, evEs m ces ds M = .ok xs M' → xs.length = ces.length
  | [], ds, M, M', xs, h => by
    simp only [evEs] at h
    cases h; rfl
  | c :: cs, ds, M, M', xs, h => by
    simp only [evEs] at h
    cases e1 : evE m c ds M with
    | ok a M1 =>
      rw [e1] at h
      have h : (evEs m cs ds M1).bind (kOk2 List.cons a) = .ok xs M' := h
      cases e2 : evEs m cs ds M1 with
      | ok ys M2 =>
        rw [e2] at h
        cases h
        simp [evEs_len e2]
      | ex _ _ => rw [e2] at h; cases h
      | bad => rw [e2] at h; cases h
    | ex _ _ => rw [e1] at h; cases h
    | bad => rw [e1] at h; cases h
theorem all_ok {f : Expr → Option CE} (hf : ∀ e ce, f e = some ce → PE X e (rX (RD p) p W (evE m ce))) : ∀ {es : List Expr} {ces : List CE}, cAll f es = some ces → PA X es (rX (RDs p) p W (evEs m ces)) ∧ ces.length = es.length ∧ (es.all fun e => !isStar e) = true
  | [], ces, h => by
    cases h
    exact ⟨a_nil fun _ _ => by simp only [evEs], rfl, rfl⟩
  | e :: es, ces, h => by
    unfold cAll at h
    obtain ⟨h1, h2⟩ := guard_eq h
    obtain ⟨c, cs, h3, h4, rfl⟩ := bind2_eq h2
    obtain ⟨i1, i2, i3⟩ := all_ok hf h4
    have h1 : isStar e = false := by simpa using h1
    exact ⟨a_cons h1 (hf _ _ h3) i1 fun _ _ => by simp only [evEs], by simp [i2], by rw [List.all_cons, i3, h1]; rfl⟩
theorem nm_ok (F : Fit Γ p m sup k N X) (hs : X.env.scope = sc) {x : Str} {pos : Pos} {ce : CE} (h : cNm Γ N sc x = some ce) : PE X (.Name x pos) (rX (RD p) p W (evE m ce)) := by
  unfold cNm at h
  obtain ⟨ho, h⟩ := guard_eq h
  split at h
  next hv =>
    obtain ⟨i, hi, rfl⟩ := bind1_eq h
    exact s_var (by rw [F.hN]; exact ixOf_ok hi) (by rw [hs]; exact visB_ok hv) ho fun _ _ => by simp only [evE]
  next =>
    obtain ⟨hg, h⟩ := guard_eq h
    have G := gl_ok hs hg
    split at h
    next d hd =>
      cases h
      obtain ⟨v, u, h1, h2, h3⟩ := F.cns _ _ hd
      exact s_gcst G h1 h2 h3 ho fun _ _ => by simp only [evE]
    next =>
      obtain ⟨i, hi, rfl⟩ := bind1_eq h
      exact s_gcst (v := .ref (p.fa i.1)) G (F.fnv x i.1 i.2 (lastOf_ok hi)) rfl (fun _ _ => .fn i.1) ho fun _ _ => by simp only [evE]
theorem slice_okC {f : Expr → Option CE} (hf : ∀ e ce, f e = some ce → PE X e (rX (RD p) p W (evE m ce))) {o : Option Expr} {c : CE} (h : cSlice f o = some c) : PO X o (rX REq p W fun ds M => (evE m c ds M).bind (intO (isNo c))) := by
  unfold cSlice at h
  split at h
  next =>
    cases h
    exact o_none fun _ _ => by simp only [evE]; rfl
  next e =>
    split at h
    next c' hc =>
      obtain ⟨h1, h2⟩ := guard_eq h
      cases h2
      have h1 : isNo c = false := by simpa using h1
      exact o_some (hf _ _ hc) fun _ _ => by rw [h1]
    next => cases h
theorem it_ok (F : Fit Γ p m sup k N X) (hs : X.env.scope = sc) {f : Expr → Option CE} (hf : ∀ e ce, f e = some ce → PE X e (rX (RD p) p W (evE m ce))) {tg e : Expr} {ci : CI} (h : cIt Γ f sc tg e = some ci) : PI X tg e (rX (Wk p) p W (evI m ci)) := by
  have hex : ∀ {ci}, bind1 (f e) CI.ex = some ci → PI X tg e (rX (Wk p) p W (evI m ci)) := fun {ci} h => by
    obtain ⟨c, hc, rfl⟩ := bind1_eq h
    exact i_ex F.hK (hf _ _ hc) fun _ _ => by simp only [evI]
  unfold cIt at h
  split at h
  next x _ a _ =>
    split at h
    next ex =>
      subst ex
      obtain ⟨h1, h2⟩ := guard_eq h
      rw [Bool.and_eq_true_iff] at h1
      obtain ⟨c, hc, rfl⟩ := bind1_eq h2
      obtain ⟨G, M, _⟩ := isBlt_ok F hs h1.1
      exact i_rng1 G M (hf _ _ hc) (by simpa using h1.2) fun _ _ => by simp only [evI, evE]; rfl
    next => exact hex h
  next x _ a b _ =>
    split at h
    next ex =>
      subst ex
      obtain ⟨h1, h2⟩ := guard_eq h
      rw [Bool.and_eq_true_iff, Bool.and_eq_true_iff] at h1
      obtain ⟨c, d, hc, hd, rfl⟩ := bind2_eq h2
      obtain ⟨G, M, _⟩ := isBlt_ok F hs h1.1
      exact i_rng2 G M (hf _ _ hc) (hf _ _ hd) (by simpa using h1.2.1) (by simpa using h1.2.2) fun _ _ => by simp only [evI]
    next =>
      split at h
      next ex =>
        subst ex
        obtain ⟨h1, h2⟩ := guard_eq h
        rw [Bool.and_eq_true_iff, Bool.and_eq_true_iff, Bool.and_eq_true_iff] at h1
        obtain ⟨c, d, hc, hd, rfl⟩ := bind2_eq h2
        obtain ⟨G, M, _⟩ := isBlt_ok F hs h1.2.1
        obtain ⟨elts, kk, tpos, rfl⟩ : ∃ elts kk tpos, tg = .Tuple elts kk tpos := by
          have := h1.1
          unfold isTupE at this
          split at this
          · exact ⟨_, _, _, rfl⟩
          · cases this
        exact i_zip F.hK G M (hf _ _ hc) (hf _ _ hd) (by simpa using h1.2.2.1) (by simpa using h1.2.2.2) fun _ _ => by simp only [evI]
      next => exact hex h
  next => exact hex (guard_eq h).2

/-! ### targets -/
mutual
theorem tg_ok (F : Fit Γ p m sup k N X) (hc : X.calm = true) (hu : X.A.units + 65 < cLine) (hl : ∀ x, locB sc x = true → Loc X.env.scope x ∧ (X.fn x = true ∨ X.env.scope.names.lookup x = some .local)) {f : Expr → Option CE}
    (hf : ∀ e ce, f e = some ce → PE X e (rX (RD p) p W0 (evE m ce))) : ∀ (n : Nat) (e : Expr) (t : CT), cT N sc f n e = some t → PG X e (rG p (slotsT t) (evG m t))
  | 0, e, t, h => by cases h
  | n + 1, e, t, h => by
    unfold cT at h
    split at h
    next x _ =>
      obtain ⟨h1, h2⟩ := guard_eq h
      obtain ⟨i, hi, rfl⟩ := bind1_eq h2
      obtain ⟨l1, l2⟩ := hl x h1
      exact g_name (by rw [F.hN]; exact F.nd) (by rw [F.hN]; exact ixOf_ok hi) l1 l2 fun _ _ _ => by simp only [evG]
    next es _ _ =>
      obtain ⟨ts, hts, rfl⟩ := bind1_eq h
      obtain ⟨g1, g2, g3⟩ := tgs_ok F hc hu hl hf n es ts hts
      exact g_tup F.hK hc g3 g2.symm g1 fun d ds M => by
        cases d <;> simp only [evG]
        all_goals
          rename_i l
          cases M[l]? with
          | none => rfl
          | some o => cases o <;> rfl
    next o lo hi _ _ =>
      obtain ⟨co, c1, c2, ho, h1, h2, rfl⟩ := bind3_eq h
      exact g_slc (hf _ _ ho) (hf _ _ h1) (hf _ _ h2) fun _ _ _ => by simp only [evG]
    next o i _ _ =>
      obtain ⟨h1, h2⟩ := guard_eq h
      obtain ⟨co, ci, ho, hi, rfl⟩ := bind2_eq h2
      exact g_sub h1 hu (hf _ _ ho) (hf _ _ hi) fun _ _ _ => by simp only [evG]
    next => cases h
theorem tgs_ok (F : Fit Γ p m sup k N X) (hc : X.calm = true) (hu : X.A.units + 65 < cLine) (hl : ∀ x, locB sc x = true → Loc X.env.scope x ∧ (X.fn x = true ∨ X.env.scope.names.lookup x = some .local)) {f : Expr → Option CE}
    (hf : ∀ e ce, f e = some ce → PE X e (rX (RD p) p W0 (evE m ce))) : ∀ (n : Nat) (es : List Expr) (ts : List CT), cAll (cT N sc f n) es = some ts → PGs X es (rGs p (slotsT.slotsL ts) (evGs m ts)) ∧ ts.length = es.length ∧ (es.all fun e => !isStar e) = true
  | n, [], ts, h => by
    cases h
    exact ⟨gs_nil (fun _ _ => by simp only [evGs]) (fun _ _ _ _ => by simp only [evGs]), rfl, rfl⟩
  | n, e :: es, ts, h => by
    unfold cAll at h
    obtain ⟨h1, h2⟩ := guard_eq h
    obtain ⟨t, ts', h3, h4, rfl⟩ := bind2_eq h2
    obtain ⟨i1, i2, i3⟩ := tgs_ok F hc hu hl hf n es ts' h4
    have h1 : isStar e = false := by simpa using h1
    exact ⟨gs_cons h1 (tg_ok F hc hu hl hf n e t h3) i1 (fun _ _ _ _ => by simp only [evGs]) (fun _ _ => by simp only [evGs]), by simp [i2], by rw [List.all_cons, i3, h1]; rfl⟩
end

/-! ### expressions -/
def isBO : Expr → Bool
  | .BoolOp _ _ _ => true
  | _ => false
structure Good (m : Nat → List D → Store → Out D) (p : Pm) (X : Cx) (W : WX) (e : Expr) (ce : CE) : Prop where
  pe : PE X e (rX (RD p) p W (evE m ce))
  pt : ∀ q, tstB q e = true → PT X e (rX RB p W (evT m ce)) ∧ (isBO e = true → PW X e (rX RB p W (evT m ce)))
theorem Good.val (hK : X.K = p.K) {e : Expr} {ce : CE} (h : PE X e (rX (RD p) p W (evE m ce))) (hp : plainTest e = true) (hb : isBO e = false) : Good m p X W e ce :=
  ⟨h, fun _ _ => ⟨t_val hK h (test_ok hp) fun _ _ => rfl, fun z => by rw [hb] at z; cases z⟩⟩
theorem tst_all {q : Nat} {es : List Expr} {op pos} (h : tstB q (.BoolOp op es pos) = true) : ∃ q', es.all (tstB q') = true := by
  cases q with
  | zero => cases h
  | succ q => exact ⟨q, h⟩
theorem tstB_up : ∀ {q : Nat} {e : Expr}, tstB q e = true → tstB (q + 1) e = true := by
  intro q
  induction q with
  | zero => intro e h; cases h
  | succ q ih =>
    intro e h
    unfold tstB at h ⊢
    split at h
    · exact ih h
    · rw [List.all_eq_true] at h ⊢
      exact fun x hx => ih (h x hx)
    · rw [Bool.and_eq_true_iff, Bool.and_eq_true_iff] at h ⊢
      exact ⟨ih h.1, ih h.2.1, ih h.2.2⟩
    · rfl
theorem tst_bool {q : Nat} {op : BoolOp} {a : Expr} {es : List Expr} {pos : Pos} (h : tstB q (.BoolOp op (a :: es) pos) = true) : ∃ q', tstB q' a = true ∧ tstB (q' + 1) (.BoolOp op es pos) = true := by
  obtain ⟨q', h⟩ := tst_all h
  rw [List.all_cons, Bool.and_eq_true_iff] at h
  exact ⟨q', h.1, h.2⟩
theorem tst_not {q : Nat} {a : Expr} {pos : Pos} (h : tstB q (.UnaryOp .Not a pos) = true) : ∃ q', tstB q' a = true := by
  cases q with
  | zero => cases h
  | succ q => exact ⟨q, h⟩
theorem own_ix : ∀ {l : List (Str × NameKind)} {i : Nat}, i ∈ (ownOf N l).map (·.2) → True := fun _ => trivial
theorem bi_call (hK : X.K = p.K) (hc : X.calm = true) {x : Str} {b : Bi} {e : Expr} {es : List Expr} {pos p1 : Pos} {fs : Env → Store → Out (List D)} {f : Env → Store → Out D} (hb : biOf x = some b) (G : Gl X x) (hm : X.mg x = none) (ha : PA X (e :: es) (rX (RDs p) p W fs))
    (hst : ((e :: es).all fun e => !isStar e) = true) (hf : ∀ ds M, f ds M = (fs ds M).bind (biD b)) : PE X (.Call (.Name x p1) (e :: es) [] pos) (rX (RD p) p W f) := by
  rw [List.all_cons, Bool.and_eq_true_iff] at hst
  have he := star_cons (env := X.env) (es := es) (e := e) (by simpa using hst.1)
  have hpl := star_none (env := X.env) (pos := pos) hst.2
  refine ⟨fun pins s σ H Q I h => ?_⟩
  have red := bi_rd hf h
  unfold biOf at hb
  split at hb
  next z => subst z; cases hb; exact (pe_callB (bi_fn (E := WE W σ) hK hc .len "len" rfl) G hm PySem.boot_len ha (he := he) (hpl := hpl)).run pins s σ H Q I red
  next =>
  split at hb
  next z => subst z; cases hb; exact (pe_callB (bi_fn (E := WE W σ) hK hc .max "max" rfl) G hm (by decide +kernel) ha (he := he) (hpl := hpl)).run pins s σ H Q I red
  next =>
  split at hb
  next z => subst z; cases hb; exact (pe_callB (bi_fn (E := WE W σ) hK hc .min "min" rfl) G hm (by decide +kernel) ha (he := he) (hpl := hpl)).run pins s σ H Q I red
  next =>
  split at hb
  next z => subst z; cases hb; exact (pe_callTy (bi_ty (E := WE W σ) hK hc .int "int" rfl) G hm PyProof.Rows.boot_int ha (he := he) (hpl := hpl)).run pins s σ H Q I red
  next =>
  split at hb
  next z => subst z; cases hb; exact (pe_callTy (bi_ty (E := WE W σ) hK hc .bool "bool" rfl) G hm PyProof.Rows.boot_bool ha (he := he) (hpl := hpl)).run pins s σ H Q I red
  next =>
  split at hb
  next z => subst z; cases hb; exact (pe_callTy (bi_ty (E := WE W σ) hK hc .list "list" rfl) G hm PyProof.Rows.boot_list ha (he := he) (hpl := hpl)).run pins s σ H Q I red
  next =>
  split at hb
  next z => subst z; cases hb; exact (pe_callTy (bi_ty (E := WE W σ) hK hc .tuple "tuple" rfl) G hm PyProof.Rows.boot_tuple ha (he := he) (hpl := hpl)).run pins s σ H Q I red
  next =>
  split at hb
  next z => subst z; cases hb; exact (pe_callB (bi_fn (E := WE W σ) hK hc .any "any" rfl) G hm (by decide +kernel) ha (he := he) (hpl := hpl)).run pins s σ H Q I red
  next =>
  split at hb
  next z => subst z; cases hb; exact (pe_callB (bi_fn (E := WE W σ) hK hc .all "all" rfl) G hm (by decide +kernel) ha (he := he) (hpl := hpl)).run pins s σ H Q I red
  next =>
  split at hb
  next z => subst z; cases hb; exact (pe_callTy (bi_ty (E := WE W σ) hK hc .str "str" rfl) G hm PyProof.Rows.boot_str ha (he := he) (hpl := hpl)).run pins s σ H Q I red
  next => cases hb
theorem isi_ok (F : Fit Γ p m sup k N X) (hs : X.env.scope = sc) {f : Expr → Option CE} (hf : ∀ e ce, f e = some ce → PE X e (rX (RD p) p W (evE m ce))) (G : Gl X "isinstance") (hm : X.mg "isinstance" = none) {a : Expr} {p1 pos : Pos} : ∀ {es : List Expr} {ce : CE}, cIsi Γ f sc a es = some ce →
    PE X (.Call (.Name "isinstance" p1) (a :: es) [] pos) (rX (RD p) p W (evE m ce)) := by
  intro es ce h
  unfold cIsi at h
  split at h
  next T _ =>
    obtain ⟨h2, h⟩ := guard_eq h
    rw [Bool.and_eq_true_iff] at h2
    obtain ⟨c, t, h3, h4, rfl⟩ := bind2_eq h
    obtain ⟨GT, mT, _⟩ := isBlt_ok F hs h2.1
    exact s_isi F.hK G hm GT mT h4 (hf _ _ h3) (by simpa using h2.2) fun _ _ => by simp only [evE]
  next => cases h
theorem lrg_okC (F : Fit Γ p m sup k N X) (hc : X.calm = true) (hs : X.env.scope = sc) {f : Expr → Option CE} (hf : ∀ e ce, f e = some ce → PE X e (rX (RD p) p W (evE m ce))) (G : Gl X "list") (hm : X.mg "list" = none) {a : Expr} {p1 pos : Pos} {es : List Expr} {ce : CE} (h : cLrg Γ f sc a es = some ce) :
    PE X (.Call (.Name "list" p1) (a :: es) [] pos) (rX (RD p) p W (evE m ce)) := by
  unfold cLrg at h
  split at h
  next y _ b _ =>
    split at h
    next ex =>
      subst ex
      obtain ⟨h2, h⟩ := guard_eq h
      rw [Bool.and_eq_true_iff] at h2
      obtain ⟨c, h3, rfl⟩ := bind1_eq h
      obtain ⟨GT, mT, _⟩ := isBlt_ok F hs h2.1
      exact s_lrg1 hc G hm GT mT (hf _ _ h3) (by simpa using h2.2) fun _ _ => by simp only [evE]; rfl
    next => cases h
  next y _ b c _ =>
    split at h
    next ex =>
      subst ex
      obtain ⟨h2, h⟩ := guard_eq h
      rw [Bool.and_eq_true_iff, Bool.and_eq_true_iff] at h2
      obtain ⟨c, d, h3, h4, rfl⟩ := bind2_eq h
      obtain ⟨GT, mT, _⟩ := isBlt_ok F hs h2.1
      exact s_lrg2 hc G hm GT mT (hf _ _ h3) (hf _ _ h4) (by simpa using h2.2.1) (by simpa using h2.2.2) fun _ _ => by simp only [evE]
    next => cases h
  next => cases h
theorem srt_ok (F : Fit Γ p m sup k N X) (hc : X.calm = true) (hu : X.A.units + 70 < cLine) (hs : X.env.scope = sc) {f : Expr → Option CE} (hf : ∀ e ce, f e = some ce → PE X e (rX (RD p) p W (evE m ce))) (G : Gl X "sorted") (hm : X.mg "sorted" = none) {a : Expr} {p1 pos : Pos} {es : List Expr} {ce : CE} (h : cSrt Γ f sc a es = some ce) :
    PE X (.Call (.Name "sorted" p1) (a :: es) [] pos) (rX (RD p) p W (evE m ce)) := by
  unfold cSrt at h
  split at h
  next =>
    by_cases e : isSetC a = true
    · rw [if_pos e] at h
      unfold cSet1 at h
      split at h
      next y _ b _ =>
        obtain ⟨h1, h2⟩ := guard_eq h
        rw [Bool.and_eq_true_iff, Bool.and_eq_true_iff] at h1
        obtain ⟨hy, hb, hst⟩ := h1
        have hy := of_decide_eq_true hy
        subst hy
        obtain ⟨c, h3, rfl⟩ := bind1_eq h2
        obtain ⟨GT, mT, _⟩ := isBlt_ok F hs hb
        exact s_srs F.hK hc G hm GT mT (hf _ _ h3) (by simpa using hst) fun _ _ => by simp only [evE]
      next => cases h
    · rw [if_neg e] at h
      obtain ⟨h1, h2⟩ := guard_eq h
      obtain ⟨c, h3, rfl⟩ := bind1_eq h2
      exact s_srt F.hK hu G hm (hf _ _ h3) (by simpa using h1) fun _ _ => by simp only [evE]
  next => cases h
theorem bi_ok (F : Fit Γ p m sup k N X) (hc : X.calm = true) (hu : X.A.units + 70 < cLine) (hs : X.env.scope = sc) {f : Expr → Option CE} (hf : ∀ e ce, f e = some ce → PE X e (rX (RD p) p W (evE m ce))) {x : Str} (G : Gl X x) (hm : X.mg x = none) {a : Expr} {p1 pos : Pos} {es : List Expr} {ce : CE} (h : cBi Γ f sc x a es = some ce) :
    PE X (.Call (.Name x p1) (a :: es) [] pos) (rX (RD p) p W (evE m ce)) := by
  unfold cBi at h
  by_cases e1 : x = "isinstance"
  · rw [if_pos e1] at h; subst e1; exact isi_ok F hs hf G hm h
  · rw [if_neg e1] at h
    by_cases e2 : x = "sorted"
    · rw [if_pos e2] at h; subst e2; exact srt_ok F hc hu hs hf G hm h
    · rw [if_neg e2] at h
      by_cases e3 : x = "list" ∧ isRg a = true
      · rw [if_pos e3] at h
        obtain ⟨e3, _⟩ := e3
        subst e3
        exact lrg_okC F hc hs hf G hm h
      · rw [if_neg e3] at h
        obtain ⟨b, cs, h2, h3, rfl⟩ := bind2_eq h
        obtain ⟨a1, a2, a3⟩ := all_ok hf h3
        exact bi_call F.hK hc h2 G hm a1 a3 fun _ _ => by simp only [evE]
theorem cl_ok (F : Fit Γ p m sup k N X) (hc : X.calm = true) (hr : Room k X.A) (hs : X.env.scope = sc) (tk : Takes X W) {f : Expr → Option CE} (hf : ∀ e ce, f e = some ce → PE X e (rX (RD p) p W (evE m ce))) {x : Str} (G : Gl X x) (ho : ord_ x = true) {a : Expr} {p1 pos : Pos} {es : List Expr} {ce : CE} (h : cCl Γ f sc x a es = some ce) :
    PE X (.Call (.Name x p1) (a :: es) [] pos) (rX (RD p) p W (evE m ce)) := by
  unfold cCl at h
  split at h
  next g hg =>
    obtain ⟨h1, h⟩ := guard_eq h
    obtain ⟨cs, h2, rfl⟩ := bind1_eq h
    obtain ⟨a1, a2, a3⟩ := all_ok hf h2
    obtain ⟨kp, fd, ps, el, hb, FO⟩ := F.fns x g.1 g.2 (lastOf_ok hg)
    have h1 := of_decide_eq_true h1
    exact s_call tk FO hr G (F.fnv x g.1 g.2 (lastOf_ok hg)) kp hb a1 (fun _ _ _ _ e => by rw [evEs_len e, a2, el, h1]; rfl) ho a3 fun _ _ => by simp only [evE]
  next =>
    obtain ⟨h1, h⟩ := guard_eq h
    exact bi_ok F hc (by have := hr.un; omega) hs hf G (F.blt x (of_decide_eq_true h1)) h
theorem mkv_ok (F : Fit Γ p m sup k N X) (hr : Room k X.A) (hs : X.env.scope = sc) (tk : Takes X W) {f : Expr → Option CE} (hf : ∀ e ce, f e = some ce → PE X e (rX (RD p) p W (evE m ce))) {x : Str} {a : Expr} {p1 pos : Pos} {es : List Expr} {kws : List Keyword} {ks : List Str} {as bs : List CE} {ce : CE} (hv : visB sc x = true) (ho : ord_ x = true)
    (h1 : kwN kws = some ks) (h2 : cAll f (a :: es) = some as) (h3 : cAll f (kwE kws) = some bs) (h : cMkv Γ N x (es.length + 1) ks (as ++ bs) = some ce) : PE X (.Call (.Name x p1) (a :: es) kws pos) (rX (RD p) p W (evE m ce)) := by
  unfold cMkv at h
  split at h
  next i g hi hg =>
    obtain ⟨hn, h⟩ := guard_eq h
    cases h
    obtain ⟨c, id, n⟩ := g
    have hn : n = es.length + 1 := of_decide_eq_true hn
    obtain ⟨e0, M', k', fd, ps, gg, hk, hps, hb, FO⟩ := F.cl.ini ks c id n (mem_lk hg)
    obtain ⟨a1, a2, a3⟩ := all_ok hf h2
    obtain ⟨b1, b2⟩ := kws_ok hf h3
    obtain ⟨t1, t2, t3⟩ := kw_three (env := X.env) (pos := pos) h1
    have a4 := a3
    rw [List.all_cons, Bool.and_eq_true_iff] at a4
    refine s_mkv tk e0 M' FO (hr.mono hk) hb hps (by rw [F.hN]; exact ixOf_ok hi) (by rw [hs]; exact visB_ok hv) ho a1 b1 (fun _ _ _ _ e => by rw [evEs_len e, a2, hn]; rfl) (fun _ _ _ _ e => by rw [evEs_len e, b2, kwN_len h1]) t1 t2 (star_cons (by simpa using a4.1)) (by rw [star_none a3, t3]; rfl) fun ds M => ?_
    simp only [evE]
    congr 2
    funext M
    exact evEs_app as bs ds M
  next => cases h
theorem attr_ok (F : Fit Γ p m sup k N X) (hr : Room k X.A) {o : Expr} {x : Str} {pos : Pos} {co ce : CE} (ho : PE X o (rX (RD p) p W (evE m co))) (hc0 : notCall0 o = true) (h : cAttr Γ x co = some ce) : PE X (.Attribute o x pos) (rX (RD p) p W (evE m ce)) := by
  unfold cAttr at h
  split at h
  next g hg =>
    cases h
    obtain ⟨hC, ⟨q0, hp⟩, k', fd, ps, hk, hl, hb, FO⟩ := F.cl.prp x g.1 g.2 (mem_lk hg)
    exact s_prp hC hp FO hl (hr.mono hk) hb ho hc0 fun _ _ => by simp only [evE]
  next =>
    obtain ⟨c, hc, rfl⟩ := bind1_eq h
    obtain ⟨h1, h2⟩ := F.cl.fld x c (mem_lk hc)
    exact s_fld h1 h2 ho hc0 fun _ _ => by simp only [evE]
theorem clm_ok (F : Fit Γ p m sup k N X) (hr : Room k X.A) (hs : X.env.scope = sc) (tk : Takes X W) {f : Expr → Option CE} (hf : ∀ e ce, f e = some ce → PE X e (rX (RD p) p W (evE m ce))) {o : Expr} {mm : Str} {ap cp : Pos} {es : List Expr} {g : Str × (Nat × (Nat × Nat))} {cs : List CE} (hg : clmOf Γ sc mm o = some g)
    (hl : (ap.endLine == cp.line) = true) (h30 : es.length < 30) (hn : g.2.2.2 = es.length) (he : es.isEmpty = false) (h : cAll f es = some cs) : PE X (.Call (.Attribute o mm ap) es [] cp) (rX (RD p) p W (evE m (.call g.2.2.1 (.gcst g.1 (.fn g.2.1) :: cs)))) := by
  unfold clmOf at hg
  split at hg
  next x p1 =>
    obtain ⟨h0, hg⟩ := guard_eq hg
    rw [Bool.and_eq_true_iff] at h0
    obtain ⟨g', hg2, rfl⟩ := bind1_eq hg
    obtain ⟨c, id, n⟩ := g'
    obtain ⟨e0, ⟨mc, q0, hR, hM⟩, k', fd, ps, hk, hps, hb, FO⟩ := F.cl.clm x mm c id n (mem_lk hg2)
    obtain ⟨a1, a2, a3⟩ := all_ok hf h
    have hn : n = es.length := hn
    cases es with
    | nil => cases he
    | cons e es =>
      refine s_clm (n := n) (d := .fn c) (mf := m id) tk (fun _ _ => .fn c) (gl_ok hs h0.1) e0 h0.2 hR hM FO (hr.mono (Nat.le_of_succ_le hk)) hb hps a1 (fun _ _ _ _ e => by rw [evEs_len e, a2, hn]) a3 (meth_eq rfl (few_ok a3 h30) hl) fun ds M => ?_
      simp only [evE, evEs]
      show ((evEs m cs ds M).bind (kOk2 .cons (.fn c))).bind (m id) = _
      cases evEs m cs ds M <;> rfl
  next => cases hg
theorem prs_ok {f : Expr → Option CE} (hf : ∀ e ce, f e = some ce → PE X e (rX (RD p) p W (evE m ce))) {pos : Pos} : ∀ {ks : List (Option Expr)} {vs : List Expr} {cs : List CE}, cPairs f ks vs = some cs →
    PPs X pos ks vs (trsP p W m cs) ∧ ks.all (·.isSome) = true ∧ ks.length = vs.length ∧ cs.length = 2 * ks.length
  | [], [], cs, h => by
    simp only [cPairs, Option.some.injEq] at h
    subst h
    exact ⟨pps_nil, rfl, rfl, rfl⟩
  | [], _ :: _, cs, h => by simp [cPairs] at h
  | none :: _, _, cs, h => by simp [cPairs] at h
  | some _ :: _, [], cs, h => by simp [cPairs] at h
  | some k :: ks, v :: vs, cs, h => by
    unfold cPairs at h
    obtain ⟨a, b, r, h1, h2, h3, rfl⟩ := bind3_eq h
    obtain ⟨i1, i2, i3, i4⟩ := prs_ok hf h3
    exact ⟨pps_cons (hf _ _ h1) (hf _ _ h2) i1, by rw [List.all_cons, i2]; rfl, by simp [i3], by simp only [List.length_cons, i4]; omega⟩
theorem meOf_ok {x : Str} {mt : Me} (h : meOf x = some mt) : x = mt.nm := by
  unfold meOf at h
  split at h
  next z => cases h; exact z
  next =>
  split at h
  next z => cases h; exact z
  next =>
  split at h
  next z => cases h; exact z
  next =>
  split at h
  next z => cases h; exact z
  next =>
  split at h
  next z => cases h; exact z
  next =>
  split at h
  next z => cases h; exact z
  next =>
  split at h
  next z => cases h; exact z
  next => cases h
end

theorem blk_scope {X : Cx} {scope : Scope} {cl : List (Str × Addr)} {C : Addr} : (compEnvC scope cl C X.env).scope = relS scope X.env.scope := rfl
theorem Fit.blk {Γ : Gam} {p : Pm} {m : Nat → List D → Store → Out D} {sup : Nat → Nat → Bool} {k : Nat} {N : List Str} {X : Cx} (F : Fit Γ p m sup k N X) (s : Shared) (H : Hp) (scope : Scope) (env : PySem.Env) (fp : List Addr) : Fit Γ p m sup k N (X.blk s H scope env fp) :=
  ⟨F.hK, F.hN, F.nd, F.fns, F.fnv, F.cns, F.exs, F.blt, F.sup, F.cl⟩
theorem blk_tg {X : Cx} {s : Shared} {H : Hp} {scope : Scope} {cl : List (Str × Addr)} {C : Addr} {fp : List Addr} {x : Str} (h : locB scope x = true) :
    L2.Loc (X.blk s H scope (compEnvC scope cl C X.env) fp).env.scope x ∧ ((X.blk s H scope (compEnvC scope cl C X.env) fp).fn x = true ∨ (X.blk s H scope (compEnvC scope cl C X.env) fp).env.scope.names.lookup x = some .local) := by
  rcases locB_ok h with h | h
  · have := lookup_relS_keep (sc := X.env.scope) (by decide) h
    exact ⟨.inl this, .inr this⟩
  · have := lookup_relS_keep (sc := X.env.scope) (by decide) h
    refine ⟨.inr this, .inl ?_⟩
    show (scope.names.lookup x == some NameKind.cell) = true
    rw [h]
    rfl

/-- what a comprehension's rule asks, put together -/
structure LcP (m : Nat → List D → Store → Out D) (p : Pm) (X : Cx) (W : WX) (elt tg it : Expr) (ifs : List Expr) (scope : Scope) (own : List (Str × Nat)) (ce : CE) : Prop where
  all : ∃ (ts : List Nat) (fi : Env → Store → Out Itm) (gf : D → Env → Store → Out Env) (tf : Env → Store → Out Bool) (ef : Env → Store → Out D),
    PI X tg it (rX (Wk p) p W fi) ∧ (∀ (s : Shared) (H : Hp) (C : Addr) (cl : List (Str × Addr)) (fp : List Addr), PG (X.blk s H scope (compEnvC scope cl C X.env) fp) tg (rG p ts gf)) ∧
    (∀ (s : Shared) (H : Hp) (C : Addr) (cl : List (Str × Addr)) (fp : List Addr), PTs (X.blk s H scope (compEnvC scope cl C X.env) fp) ifs (rX RB p W0 tf)) ∧
    (∀ (s : Shared) (H : Hp) (C : Addr) (cl : List (Str × Addr)) (fp : List Addr), PE (X.blk s H scope (compEnvC scope cl C X.env) fp) elt (rX (RD p) p W0 ef)) ∧
    ∀ σ H Q, rX (RD p) p W (evE m ce) σ H Q → tLc (rX (Wk p) p W fi) (rG p ts gf) (rX RB p W0 tf) (rX (RD p) p W0 ef) (own.map (·.2)) σ H Q
  ok : BlkOk X.N X.env.scope scope own
  st : notSet it = true
theorem LcP.pe {m : Nat → List D → Store → Out D} {p : Pm} {X : Cx} {W : WX} {elt tg it : Expr} {ifs : List Expr} {scope : Scope} {own : List (Str × Nat)} {ce : CE} {pos : Pos} (hc : X.calm = true) (hN : X.N.Nodup) (L : LcP m p X W elt tg it ifs scope own ce) :
    PE X (.ListComp elt [⟨tg, it, ifs, 0⟩] scope pos) (rX (RD p) p W (evE m ce)) := by
  obtain ⟨ts, fi, gf, tf, ef, h1, h2, h3, h4, h5⟩ := L.all
  exact ⟨fun pins s σ H Q I h => (pe_lc hc hN h1 L.ok h2 h3 h4 (set_ok L.st)).run pins s σ H Q I (h5 σ H Q h)⟩
theorem ss_lcs {m : Nat → List D → Store → Out D} {p : Pm} {X : Cx} {W : WX} {elt tg it : Expr} {ifs : List Expr} {scope : Scope} {own : List (Str × Nat)} {ce : CE} {pos spos py : Pos} {y : Str} {i : Nat} {f : Env → Store → SO} (hc : X.calm = true) (hN : X.N.Nodup) (hy : X.N[i]? = some y) (hyl : locL X.env.scope y = true)
    (hsw : swapsWith (.ListComp elt [⟨tg, it, ifs, 0⟩] scope pos) (some (.Name y py)) spos.line X.env = pure true) (L : LcP m p X W elt tg it ifs scope own ce) (hf : ∀ ds M, f ds M = (evE m ce ds M).so ds (sAsg (evG m (.nm i)) ds)) :
    PS X (.Assign [.Name y py] (.ListComp elt [⟨tg, it, ifs, 0⟩] scope pos) spos) (rS p W f) := by
  obtain ⟨ts, fi, gf, tf, ef, h1, h2, h3, h4, h5⟩ := L.all
  refine ⟨fun pins s σ H D I h => (ps_setLc hc hN hy (locL_ok hyl) hsw h1 L.ok h2 h3 h4 (set_ok L.st)).run pins s σ H D I ?_⟩
  have z := asg_rd (ts := [i]) hf h (h5 σ H)
  obtain ⟨ρ, M, ds, sl, st, h⟩ := h
  rw [hf] at h
  refine h5 σ H _ ⟨ρ, M, ds, sl, st, (h.so sl).mono fun v H1 ⟨ρ1, M1, d, sl1, st1, g1, r1, q⟩ => ?_⟩
  have q : postS p W H1 ρ1 ((evG m (.nm i) d ds M1).soN .nx) D := q
  simp only [evG] at q
  exact q _ H1 ρ1 st1 (.refl _ _) (sl1.set i r1)
theorem lcp_ok {Γ : Gam} {p : Pm} {m : Nat → List D → Store → Out D} {sup : Nat → Nat → Bool} {k : Nat} {N : List Str} {n : Nat} {sc : Scope} (ihn : ∀ (sc : Scope) (e : Expr) (ce : CE), cE Γ N n sc e = some ce →
    ∀ (X : Cx) (W : WX), Fit Γ p m sup k N X → X.calm = true → Room k X.A → X.env.scope = sc → Takes X W → Good m p X W e ce) {X : Cx} {W : WX} (F : Fit Γ p m sup k N X) (hc : X.calm = true) (hr : Room k X.A) (hs : X.env.scope = sc) (tk : Takes X W)
    {elt tg it : Expr} {ifs : List Expr} {scope : Scope} {pos : Pos} {ce : CE} (h : cE Γ N (n + 1) sc (.ListComp elt [⟨tg, it, ifs, 0⟩] scope pos) = some ce) : LcP m p X W elt tg it ifs scope (ownOf N scope.names) ce := by
  have hu : X.A.units + 65 < cLine := by have := hr.un; omega
  unfold cE at h
  obtain ⟨h0, h⟩ := guard_eq h
  rw [Bool.and_eq_true_iff, Bool.and_eq_true_iff, Bool.and_eq_true_iff] at h0
  obtain ⟨hb, hn, hi1, hi2⟩ := h0
  split at h
  next t ht =>
    obtain ⟨h1, h⟩ := guard_eq h
    obtain ⟨ci, cel, cif, h2, h3, h4, rfl⟩ := bind3_eq h
    rw [List.all_eq_true] at h1
    have blk : ∀ (s : Shared) (H : Hp) (C : Addr) (cl : List (Str × Addr)) (fp : List Addr) (e : Expr) (c : CE), cE Γ N n (relS scope sc) e = some c → Good m p (X.blk s H scope (compEnvC scope cl C X.env) fp) W0 e c := fun s H C cl fp e c h =>
      ihn (relS scope sc) e c h _ W0 (F.blk s H scope _ fp) hc hr (by rw [← hs]; rfl) takes0
    refine ⟨⟨slotsT t, evI m ci, evG m t, evIf m cif, evE m cel, it_ok F hs (fun e c he => (ihn sc e c he X W F hc hr hs tk).pe) h2, fun s H C cl fp => ?_, fun s H C cl fp => ?_, fun s H C cl fp => (blk s H C cl fp _ _ h3).pe, fun σ H Q q => lc_rd (fun i hi => of_decide_eq_true (h1 i hi)) (fun ds M => by simp only [evE]) q⟩, by rw [F.hN, hs]; exact blkOk_by hb, hn⟩
    · exact tg_ok (F.blk s H scope _ fp) hc hu (fun x hx => blk_tg hx) (f := fun _ => none) (fun _ _ z => by cases z) 4 tg t ht
    · cases ifs with
      | nil =>
        cases h4
        exact ⟨fun pins s' σ H' Q I q => pts_nil.run pins s' σ H' Q I (by
          obtain ⟨ρ, M, ds, sl, st, q⟩ := q
          simp only [evIf] at q
          exact post_now (R := RB) q st rfl)⟩
      | cons c cs =>
        cases cs with
        | cons _ _ => simp at hi1
        | nil =>
          unfold cAll at h4
          obtain ⟨h5, h6⟩ := guard_eq h4
          obtain ⟨c', cs', h7, h8, rfl⟩ := bind2_eq h6
          cases h8
          have ht1 : tstB 9 c = true := by simpa using hi2
          have g := ((blk s H C cl fp _ _ h7).pt 9 ht1).1
          exact ⟨fun pins s' σ H' Q I q => (pts_one g).run pins s' σ H' Q I (q.congr fun ds M => by
            simp only [evIf]
            show ((evE m c' ds M).bind truO).bind (kAndT fun M => .ok true M) = (evE m c' ds M).bind truO
            cases (evE m c' ds M).bind truO with
            | ok t M => cases t <;> rfl
            | ex _ _ => rfl
            | bad => rfl)⟩
  next => cases h

theorem cE_ok {Γ : Gam} {p : Pm} {m : Nat → List D → Store → Out D} {sup : Nat → Nat → Bool} {k : Nat} {N : List Str} : ∀ (n : Nat) (sc : Scope) (e : Expr) (ce : CE), cE Γ N n sc e = some ce →
    ∀ (X : Cx) (W : WX), Fit Γ p m sup k N X → X.calm = true → Room k X.A → X.env.scope = sc → Takes X W → Good m p X W e ce
  | 0, _, _, _, h, _, _, _, _, _, _, _ => by cases h
  | n + 1, sc, e, ce, h, X, W, F, hc, hr, hs, tk => by
    have hK := F.hK
    have hu : X.A.units + 65 < cLine := by have := hr.un; omega
    have ih : ∀ e ce, cE Γ N n sc e = some ce → Good m p X W e ce := fun e ce h => cE_ok n sc e ce h X W F hc hr hs tk
    have ihp : ∀ e ce, cE Γ N n sc e = some ce → PE X e (rX (RD p) p W (evE m ce)) := fun e ce h => (ih e ce h).pe
    unfold cE at h
    split at h
    next x _ => exact .val hK (nm_ok F hs h) rfl rfl
    next => cases h; exact .val hK (s_leaf pe_non (fun _ _ => .non) fun _ _ => by simp only [evE]) rfl rfl
    next b _ _ => cases h; exact .val hK (s_leaf pe_bl (fun _ _ => .bl b) fun _ _ => by simp only [evE]) rfl rfl
    next i _ _ => cases h; exact .val hK (s_leaf pe_int (fun _ _ => .int i) fun _ _ => by simp only [evE]) rfl rfl
    next x _ _ => cases h; exact .val hK (s_leaf pe_str (fun _ _ => .str x) fun _ _ => by simp only [evE]) rfl rfl
    next a pos =>
      obtain ⟨c, h1, rfl⟩ := bind1_eq h
      refine ⟨s_nt hK (ihp _ _ h1) fun _ _ => by simp only [evE], fun q hq => ⟨?_, fun z => by cases z⟩⟩
      obtain ⟨q', hq⟩ := tst_not hq
      refine t_nt ((ih _ _ h1).pt q' hq).1 fun ds M => ?_
      show ((evE m (.nt c) ds M).bind truO) = ((evE m c ds M).bind truO).bind (kOk (!·))
      simp only [evE]
      cases (evE m c ds M).bind truO <;> rfl
    next a pos =>
      obtain ⟨c, h1, rfl⟩ := bind1_eq h
      exact .val hK (s_neg (ihp _ _ h1) fun _ _ => by simp only [evE]) rfl rfl
    next a op b _ =>
      obtain ⟨c, d, h1, h2, rfl⟩ := bind2_eq h
      exact .val hK (s_bin hK (ihp _ _ h1) (ihp _ _ h2) fun _ _ => by simp only [evE]) rfl rfl
    next op a pos =>
      have g := ih _ _ h
      refine ⟨pe_one g.pe, fun q hq => ?_⟩
      obtain ⟨q', hq', _⟩ := tst_bool hq
      have w : PW X (.BoolOp op [a] pos) (rX RB p W (evT m ce)) := by
        cases op
        · exact pw_and1 (g.pt q' hq').1
        · exact pw_or1 (g.pt q' hq').1
      exact ⟨w.pt, fun _ => w⟩
    next a b r pos =>
      obtain ⟨c, d, h1, h2, rfl⟩ := bind2_eq h
      have g1 := ih _ _ h1
      have g2 := ih _ _ h2
      refine ⟨s_and hK g1.pe g2.pe fun _ _ => by simp only [evE], fun q hq => ?_⟩
      obtain ⟨q', hq1, hq2⟩ := tst_bool hq
      have w : PW X (.BoolOp .And (a :: b :: r) pos) (rX RB p W (evT m (.andv c d))) := t_and (g1.pt _ hq1).1 ((g2.pt _ hq2).2 rfl) fun ds M => by
        show (evE m (.andv c d) ds M).bind truO = ((evE m c ds M).bind truO).bind (kAndT fun M => (evE m d ds M).bind truO)
        simp only [evE]
        cases evE m c ds M with
        | ok v M1 =>
          show (kAnd (evE m d ds) v M1).bind truO = (truO v M1).bind _
          unfold kAnd truO
          cases e1 : tru M1 v with
          | none => rfl
          | some t => cases t with
            | true => rfl
            | false => show (truO v M1) = _; unfold truO; rw [e1]; rfl
        | ex _ _ => rfl
        | bad => rfl
      exact ⟨w.pt, fun _ => w⟩
    next a b r pos =>
      obtain ⟨c, d, h1, h2, rfl⟩ := bind2_eq h
      have g1 := ih _ _ h1
      have g2 := ih _ _ h2
      refine ⟨s_or hK g1.pe g2.pe fun _ _ => by simp only [evE], fun q hq => ?_⟩
      obtain ⟨q', hq1, hq2⟩ := tst_bool hq
      have w : PW X (.BoolOp .Or (a :: b :: r) pos) (rX RB p W (evT m (.orv c d))) := t_or (g1.pt _ hq1).1 ((g2.pt _ hq2).2 rfl) fun ds M => by
        show (evE m (.orv c d) ds M).bind truO = ((evE m c ds M).bind truO).bind (kOrT fun M => (evE m d ds M).bind truO)
        simp only [evE]
        cases evE m c ds M with
        | ok v M1 =>
          show (kOr (evE m d ds) v M1).bind truO = (truO v M1).bind _
          unfold kOr truO
          cases e1 : tru M1 v with
          | none => rfl
          | some t => cases t with
            | false => rfl
            | true => show (truO v M1) = _; unfold truO; rw [e1]; rfl
        | ex _ _ => rfl
        | bad => rfl
      exact ⟨w.pt, fun _ => w⟩
    next a op b _ =>
      obtain ⟨h0, h⟩ := guard_eq h
      obtain ⟨c, d, h1, h2, rfl⟩ := bind2_eq h
      have h0 : behindInMarks op b = false := by simpa using h0
      exact ⟨s_cmp hK hu (ihp _ _ h1) (ihp _ _ h2) h0 fun _ _ => by simp only [evE], fun _ _ => ⟨t_cmp hK hu (ihp _ _ h1) (ihp _ _ h2) h0 (f := evE m (.cmp op c d)) (fun _ _ => by simp only [evE]) fun _ _ => rfl, fun z => by cases z⟩⟩
    next a op op' b b2 _ =>
      obtain ⟨h0, h⟩ := guard_eq h
      obtain ⟨c, d, d2, h1, h2, h3, rfl⟩ := bind3_eq h
      have h0 : lastMarks [op, op'] [b, b2] = false := by simpa using h0
      exact ⟨s_chn hK hu (ihp _ _ h1) (ihp _ _ h2) (ihp _ _ h3) h0 fun _ _ => by simp only [evE], fun _ _ => ⟨t_chn hK hu (ihp _ _ h1) (ihp _ _ h2) (ihp _ _ h3) h0 (f := evE m (.chn op op' c d d2)) (fun _ _ => by simp only [evE]) fun _ _ => rfl, fun z => by cases z⟩⟩
    next c a b _ =>
      obtain ⟨h0, h⟩ := guard_eq h
      obtain ⟨c1, c2, c3, h1, h2, h3, rfl⟩ := bind3_eq h
      refine ⟨s_ife ((ih _ _ h1).pt _ h0).1 (ihp _ _ h2) (ihp _ _ h3) fun _ _ => by simp only [evE]; rfl, fun q hq => ?_⟩
      cases q with
      | zero => cases hq
      | succ q =>
        unfold tstB at hq
        rw [Bool.and_eq_true_iff, Bool.and_eq_true_iff] at hq
        refine ⟨t_ife ((ih _ _ h1).pt _ hq.1).1 ((ih _ _ h2).pt _ hq.2.1).1 ((ih _ _ h3).pt _ hq.2.2).1 (fun ds M => ?_), fun z => by cases z⟩
        show (evE m (.ife c1 c2 c3) ds M).bind truO = ((evE m c1 ds M).bind truO).bind (kIf (fun M => (evE m c2 ds M).bind truO) fun M => (evE m c3 ds M).bind truO)
        simp only [evE]
        cases (evE m c1 ds M).bind truO with
        | ok t M1 => cases t <;> rfl
        | ex _ _ => rfl
        | bad => rfl
    next es _ _ =>
      obtain ⟨h0, h⟩ := guard_eq h
      obtain ⟨cs, h1, rfl⟩ := bind1_eq h
      obtain ⟨a1, a2, a3⟩ := all_ok ihp h1
      exact .val hK (s_tup a1 (Nat.le_trans (of_decide_eq_true h0) (by decide)) (fun _ _ _ _ e => (evEs_len e).trans a2) fun _ _ => by simp only [evE]) rfl rfl
    next es _ =>
      obtain ⟨cs, h1, rfl⟩ := bind1_eq h
      obtain ⟨a1, a2, a3⟩ := all_ok ihp h1
      exact .val hK (s_lst a1 fun _ _ => by simp only [evE]) rfl rfl
    next ks vs _ =>
      obtain ⟨h0, h⟩ := guard_eq h
      rw [Bool.and_eq_true_iff] at h0
      obtain ⟨cs, h1, rfl⟩ := bind1_eq h
      obtain ⟨a1, a2, a3, a4⟩ := prs_ok ihp h1
      exact .val hK (s_dic a1 a2 a3 (fun z => by rw [z] at h0; exact absurd h0.2 (by decide)) (of_decide_eq_true h0.1) a4 fun _ _ => by simp only [evE]) rfl rfl
    next a _ _ _ _ _ =>
      obtain ⟨c1, h1, rfl⟩ := bind1_eq h
      exact .val hK (s_rev hK (ihp _ _ h1) fun _ _ => by simp only [evE]) rfl rfl
    next a _ _ _ _ _ _ =>
      obtain ⟨c1, h1, rfl⟩ := bind1_eq h
      exact .val hK (s_odd hK (ihp _ _ h1) fun _ _ => by simp only [evE]) rfl rfl
    next a lo hi _ _ =>
      obtain ⟨c1, c2, c3, h1, h2, h3, rfl⟩ := bind3_eq h
      refine .val hK (s_slc hK (ihp _ _ h1) (slice_okC ihp h2) (slice_okC ihp h3) fun _ _ => ?_) rfl rfl
      simp only [evE]; rfl
    next a i _ _ =>
      obtain ⟨h0, h⟩ := guard_eq h
      obtain ⟨c1, c2, h1, h2, rfl⟩ := bind2_eq h
      exact .val hK (s_sub hK (ihp _ _ h1) (ihp _ _ h2) h0 fun _ _ => by simp only [evE]) rfl rfl
    next x _ a es _ =>
      split at h
      next hv =>
        obtain ⟨h0, h⟩ := guard_eq h
        obtain ⟨i, cs, h1, h2, rfl⟩ := bind2_eq h
        obtain ⟨a1, a2, a3⟩ := all_ok ihp h2
        refine .val hK (s_calv (n := es.length + 1) (L := arF Γ (es.length + 1)) (m := m) tk (fun g hg => ?_) hr (by rw [F.hN]; exact ixOf_ok h1) (by rw [hs]; exact visB_ok hv) a1 (fun _ _ _ _ e => by rw [evEs_len e, a2]; rfl) h0 a3 fun _ _ => by simp only [evE]) rfl rfl
        unfold arF at hg
        rw [List.mem_map] at hg
        obtain ⟨e, he, rfl⟩ := hg
        rw [List.mem_filter] at he
        obtain ⟨kp, fd, ps, el, hb, FO⟩ := F.fns e.1 e.2.1 e.2.2 he.1
        exact ⟨kp, fd, ps, by rw [el]; exact of_decide_eq_true he.2, hb, FO⟩
      next =>
      obtain ⟨h0, h⟩ := guard_eq h
      rw [Bool.and_eq_true_iff] at h0
      exact .val hK (cl_ok F hc hr hs tk ihp (gl_ok hs h0.1) h0.2 h) rfl rfl
    next x _ _ =>
      obtain ⟨h0, h⟩ := guard_eq h
      rw [Bool.and_eq_true_iff] at h0
      split at h
      next g hg =>
        obtain ⟨h1, h⟩ := guard_eq h
        cases h
        obtain ⟨kp, fd, ps, el, hb, FO⟩ := F.fns x g.1 g.2 (lastOf_ok hg)
        have h1 := of_decide_eq_true h1
        exact .val hK (s_cal0 FO hr (gl_ok hs h0.1) (F.fnv x g.1 g.2 (lastOf_ok hg)) (el.trans h1) kp hb h0.2 fun _ _ => by simp only [evE]) rfl rfl
      next => cases h
    next x _ a es kw kws _ =>
      obtain ⟨h0, h⟩ := guard_eq h
      rw [Bool.and_eq_true_iff] at h0
      split at h
      next ks as bs e1 e2 e3 => exact .val hK (mkv_ok F hr hs tk ihp h0.1 h0.2 e1 e2 e3 h) rfl rfl
      next => cases h
    next o mm ap es cp =>
      obtain ⟨h0, h⟩ := guard_eq h
      rw [Bool.and_eq_true_iff, Bool.and_eq_true_iff] at h0
      split at h
      next g hg =>
        obtain ⟨h1, h⟩ := guard_eq h
        rw [Bool.and_eq_true_iff] at h1
        obtain ⟨cs, h2, rfl⟩ := bind1_eq h
        exact .val hK (clm_ok F hr hs tk ihp hg h0.2.1 (of_decide_eq_true h0.2.2) (of_decide_eq_true h1.1) (by simpa using h1.2) h2) rfl rfl
      next =>
      obtain ⟨co, mt, cs, h1, h2, h3, rfl⟩ := bind3_eq h
      obtain ⟨a1, a2, a3⟩ := all_ok ihp h3
      have := meOf_ok h2
      subst this
      refine .val hK (s_me (by omega) hK h0.1 h0.2.1 a3 (of_decide_eq_true h0.2.2) (ihp _ _ h1) a1 (fun z => ?_) fun _ _ => by simp only [evE]) rfl rfl
      subst z
      cases cs with
      | nil => exact fun _ _ => by simp only [evEs]
      | cons _ _ => cases a2
    next o x pos =>
      obtain ⟨h0, h⟩ := guard_eq h
      split at h
      next co hco => exact .val hK (attr_ok F hr (ihp _ _ hco) h0 h) rfl rfl
      next => cases h
    next elt tg it ifs scope pos =>
      have hh : cE Γ N (n + 1) sc (.ListComp elt [⟨tg, it, ifs, 0⟩] scope pos) = some ce := by
        rw [cE]
        exact h
      exact .val hK ((lcp_ok (fun sc e ce h X W F hc hr hs tk => cE_ok n sc e ce h X W F hc hr hs tk) F hc hr hs tk hh).pe hc (by rw [F.hN]; exact F.nd)) rfl rfl
    next => cases h
end BH
end

section
set_option Elab.async false
set_option linter.all false
set_option maxRecDepth 100000
set_option maxHeartbeats 4000000
/-! Statements and defs. -/
namespace BH
open PySem PySem.Spec L2

/-- a context in which a def's statements run -/
structure FitS (Γ : Gam) (p : Pm) (m : Nat → List D → Store → Out D) (sup : Nat → Nat → Bool) (k : Nat) (N : List Str) (X : Cx) (W : WX) (sc : Scope) : Prop where
  fit : Fit Γ p m sup k N X
  calm : X.calm = true
  room : Room k X.A
  scope : X.env.scope = sc
  kind : sc.kind = .function
  takes : Takes X W
  pass : PassesOwn (model X.prog X.w) X.A X.env X.xe
  stack : X.stack = X.env :: X.outer
  frame : X.env.frame = some X.env.locals
  fn : ∀ x, X.fn x = true
section
variable {Γ : Gam} {p : Pm} {m : Nat → List D → Store → Out D} {sup : Nat → Nat → Bool} {k : Nat} {N : List Str}
theorem FitS.tr {X : Cx} {W W' : WX} {sc : Scope} (F : FitS Γ p m sup k N X W sc) {pn : List (Addr × Obj)} {xe : Value → Shared → Prop} (t : Takes (X.tr pn xe) W') (q : PassesOwn (model X.prog X.w) X.A X.env xe) : FitS Γ p m sup k N (X.tr pn xe) W' sc :=
  ⟨⟨F.fit.hK, F.fit.hN, F.fit.nd, F.fit.fns, F.fit.fnv, F.fit.cns, F.fit.exs, F.fit.blt, F.fit.sup, F.fit.cl⟩, F.calm, F.room, F.scope, F.kind, t, q, F.stack, F.frame, F.fn⟩
theorem FitS.ex {X : Cx} {W : WX} {sc : Scope} (F : FitS Γ p m sup k N X W sc) {n : Nat} {e : Expr} {ce : CE} (h : cE Γ N n sc e = some ce) : Good m p X W e ce := cE_ok n sc e ce h X W F.fit F.calm F.room F.scope F.takes
theorem FitS.ex0 {X : Cx} {W : WX} {sc : Scope} (F : FitS Γ p m sup k N X W sc) {n : Nat} {e : Expr} {ce : CE} (h : cE Γ N n sc e = some ce) : PE X e (rX (RD p) p W0 (evE m ce)) := (cE_ok n sc e ce h X W0 F.fit F.calm F.room F.scope takes0).pe
theorem FitS.tg {X : Cx} {W : WX} {sc : Scope} (F : FitS Γ p m sup k N X W sc) {n q : Nat} {e : Expr} {t : CT} (h : cT N sc (cE Γ N q sc) n e = some t) : PG X e (rG p (slotsT t) (evG m t)) :=
  tg_ok F.fit F.calm (by have := F.room.un; omega) (fun x hx => ⟨by rw [F.scope]; exact locB_ok hx, .inl (F.fn x)⟩) (fun e ce he => F.ex0 he) n e t h
theorem FitS.bk {X : Cx} {W : WX} {sc : Scope} (F : FitS Γ p m sup k N X W sc) : X.env.blockKind = .function := by
  unfold Env.blockKind
  rw [F.scope, F.kind]
  rfl
theorem FitS.smp {X : Cx} {W : WX} {sc : Scope} (F : FitS Γ p m sup k N X W sc) {a : Addr} {pn : List (Addr × Obj)} {e : Expr} {ce : CE} (h : cSmp Γ N sc e = some ce) : PE (X.suite a pn) e (rX (RD p) p W0 (evE m ce)) := by
  unfold cSmp at h
  split at h
  next x _ =>
    exact nm_ok (Γ := Γ) (sup := sup) (k := k) (X := X.suite a pn) ⟨F.fit.hK, F.fit.hN, F.fit.nd, F.fit.fns, F.fit.fnv, F.fit.cns, F.fit.exs, F.fit.blt, F.fit.sup, F.fit.cl⟩ F.scope h
  next => cases h; exact s_leaf pe_non (fun _ _ => .non) fun _ _ => by simp only [evE]
  next b _ _ => cases h; exact s_leaf pe_bl (fun _ _ => .bl b) fun _ _ => by simp only [evE]
  next i _ _ => cases h; exact s_leaf pe_int (fun _ _ => .int i) fun _ _ => by simp only [evE]
  next x _ _ => cases h; exact s_leaf pe_str (fun _ _ => .str x) fun _ _ => by simp only [evE]
  next => cases h
theorem hs_xp {X : Cx} {W : WX} {sc : Scope} (F : FitS Γ p m sup k N X W sc) : ∀ {hs : List ExceptHandler} {l : List (Nat × CE)}, cHs Γ N sc hs = some l → ∀ h ∈ l, p.xp h.1
  | [], l, h => by cases h; exact fun _ z => by cases z
  | .ExceptHandler none _ _ _ :: r, l, h => by unfold cHs at h; cases h
  | .ExceptHandler (some t) nm bd ps :: r, l, h => by
    unfold cHs at h
    split at h
    next => contradiction
    next x _ e _ _ r' heq =>
      cases heq
      obtain ⟨h0, h⟩ := guard_eq h
      obtain ⟨i, c, l', h1, h2, h3, rfl⟩ := bind3_eq h
      obtain ⟨e1, e2, e3, e0, e4⟩ := F.fit.exs x i (lastOf_ok h1)
      intro z hz
      rcases List.mem_cons.mp hz with q | q
      · subst q; exact e0
      · exact hs_xp F h3 z q
    next => cases h
theorem hs_ok {X : Cx} {W : WX} {sc : Scope} (F : FitS Γ p m sup k N X W sc) : ∀ {hs : List ExceptHandler} {l : List (Nat × CE)}, cHs Γ N sc hs = some l →
    HdsOk X hs (l.map fun h => (.ref (p.xa h.1), fun _ _ _ => tRet (rX (RD p) p W0 (evE m h.2))))
  | [], l, h => by cases h; exact .nil
  | .ExceptHandler none _ _ _ :: r, l, h => by unfold cHs at h; cases h
  | .ExceptHandler (some t) nm bd ps :: r, l, h => by
    unfold cHs at h
    split at h
    next => contradiction
    next x _ e _ _ r' heq =>
      cases heq
      obtain ⟨h0, h⟩ := guard_eq h
      rw [Bool.and_eq_true_iff] at h0
      obtain ⟨i, c, l', h1, h2, h3, rfl⟩ := bind3_eq h
      obtain ⟨e1, e2, e3, e4⟩ := F.fit.exs x i (lastOf_ok h1)
      exact .cons ⟨gl_ok F.scope h0.1, (ord_ok h0.2).1, .inl e1⟩ (fun a oe cls d pn _ _ => pss_one (ps_ret (F.smp h2))) (hs_ok F h3)
    next => cases h

theorem par_ok {X : Cx} {W : WX} {sc : Scope} (F : FitS Γ p m sup k N X W sc) {ts vs : List Expr} {k1 k2' : Nat} {p1 p2 pos : Pos} {names : List Str} {cs : CS} (h : cPar N sc (cE Γ N 12 sc) names ts vs = some cs)
    (hw : swappedStores [.Tuple ts k1 p1] (.Tuple vs k2' p2) X.env = pure (some names)) : PS X (.Assign [.Tuple ts k1 p1] (.Tuple vs k2' p2) pos) (rS p W (evS m sup cs)) := by
  have nd : X.N.Nodup := by rw [F.fit.hN]; exact F.fit.nd
  unfold cPar at h
  split at h
  next x px y py a b =>
    obtain ⟨h0, h'⟩ := guard_eq h
    clear h
    simp only [Bool.and_eq_true_iff] at h0
    obtain ⟨hn, lx, ly, sa, sb⟩ := h0
    rw [of_decide_eq_true hn] at hw
    unfold cPar2 at h'
    split at h'
    next i j hi hj =>
      obtain ⟨hij, h3⟩ := guard_eq h'
      clear h'
      obtain ⟨ca, cb, h1, h2, rfl⟩ := bind2_eq h3
      refine ss_par2 F.calm nd (by rw [F.fit.hN]; exact ixOf_ok hi) (by rw [F.fit.hN]; exact ixOf_ok hj) (of_decide_eq_true hij) (by rw [F.scope]; exact lx) (by rw [F.scope]; exact ly) (F.ex h1).pe (F.ex h2).pe (by simpa using sa) (by simpa using sb) hw fun ds M => ?_
      simp only [evS, evEs]
      congr 1
      cases evE m ca ds M with
      | ok a M1 =>
        show ((evE m cb ds M1).bind (BH.k2 (fun M => Out.ok [] M) (kOk2 List.cons))).bind (kOk2 List.cons a) = (evE m cb ds M1).bind fun b M => .ok [a, b] M
        cases evE m cb ds M1 <;> rfl
      | ex _ _ => rfl
      | bad => rfl
    next => cases h'
  next x px y py z pz a b c =>
    obtain ⟨h0, h'⟩ := guard_eq h
    clear h
    simp only [Bool.and_eq_true_iff] at h0
    obtain ⟨hn, lx, ly, lz, sa, sb, sc'⟩ := h0
    rw [of_decide_eq_true hn] at hw
    unfold cPar3 at h'
    split at h'
    next i j l hi hj hl =>
      obtain ⟨hij, h4⟩ := guard_eq h'
      clear h'
      simp only [Bool.and_eq_true_iff] at hij
      obtain ⟨ca, cb, cc, h1, h2, h3, rfl⟩ := bind3_eq h4
      refine ss_par3 F.calm nd (by rw [F.fit.hN]; exact ixOf_ok hi) (by rw [F.fit.hN]; exact ixOf_ok hj) (by rw [F.fit.hN]; exact ixOf_ok hl) (of_decide_eq_true hij.1) (of_decide_eq_true hij.2.1) (of_decide_eq_true hij.2.2) (by rw [F.scope]; exact lx) (by rw [F.scope]; exact ly) (by rw [F.scope]; exact lz)
        (F.ex h1).pe (F.ex h2).pe (F.ex h3).pe (by simpa using sa) (by simpa using sb) (by simpa using sc') hw fun ds M => ?_
      simp only [evS, evEs]
      congr 1
      cases evE m ca ds M with
      | ok a M1 =>
        show ((evE m cb ds M1).bind (BH.k2 (fun M => (evE m cc ds M).bind (BH.k2 (fun M => Out.ok [] M) (kOk2 List.cons))) (kOk2 List.cons))).bind (kOk2 List.cons a) = (evE m cb ds M1).bind fun b M => (evE m cc ds M).bind fun c M => .ok [a, b, c] M
        cases evE m cb ds M1 with
        | ok b M2 =>
          show (((evE m cc ds M2).bind (BH.k2 (fun M => Out.ok [] M) (kOk2 List.cons))).bind (kOk2 List.cons b)).bind (kOk2 List.cons a) = (evE m cc ds M2).bind fun c M => .ok [a, b, c] M
          cases evE m cc ds M2 <;> rfl
        | ex _ _ => rfl
        | bad => rfl
      | ex _ _ => rfl
      | bad => rfl
    next => cases h'
  next => cases h

mutual
theorem cS_ok : ∀ (n : Nat) (sc : Scope) (s : Stmt) (cs : CS), cS Γ N n sc s = some cs → ∀ (X : Cx) (W : WX), FitS Γ p m sup k N X W sc → PS X s (rS p W (evS m sup cs))
  | 0, _, _, _, h, _, _, _ => by cases h
  | n + 1, sc, s, cs, h, X, W, F => by
    unfold cS at h
    split at h
    next e _ =>
      obtain ⟨h0, h⟩ := guard_eq h
      obtain ⟨c, h1, rfl⟩ := bind1_eq h
      exact ss_exp (F.ex h1).pe h0 fun _ _ => by simp only [evS]
    next y py elt tg it ifs scope pos _ =>
      obtain ⟨h0, hx⟩ := guard_eq h
      clear h
      obtain ⟨i, c, h1, h2, rfl⟩ := bind2_eq hx
      unfold swB at h0
      rw [Bool.and_eq_true_iff, Bool.and_eq_true_iff] at h0
      obtain ⟨g1, g2, g3⟩ := h0
      have hl : locL X.env.scope y = true := by rw [F.scope]; exact g1
      have g4 : (scope.names.any fun (n, k) => n == y && (k == .local || k == .cell)) = false := by
        cases q : (scope.names.any fun (n, k) => n == y && (k == .local || k == .cell)) with
        | false => rfl
        | true => rw [q] at g3; cases g3
      exact ss_lcs F.calm (by rw [F.fit.hN]; exact F.fit.nd) (by rw [F.fit.hN]; exact ixOf_ok h1) hl (sw_true (by rw [F.scope]; exact F.kind) (locL_ok hl) g2 g4)
        (lcp_ok (fun sc e ce h X W F hc hr hs tk => cE_ok 11 sc e ce h X W F hc hr hs tk) F.fit F.calm F.room F.scope F.takes h2) fun _ _ => by simp only [evS]
    next ts k1 p1 vs k2' p2 _ =>
      have hk : X.env.kindOf = fun x => sc.names.lookup x := by
        funext x
        rw [← F.scope]
        rfl
      split at h
      next hw =>
        obtain ⟨c, d, h1, h2, rfl⟩ := bind2_eq h
        exact ss_asg (F.ex h2).pe (F.tg h1) rfl (swp_ok F.bk (by rw [hk]; exact hw)) rfl fun _ _ => by simp only [evS]
      next names hw0 =>
        have hw : swappedStores [.Tuple ts k1 p1] (.Tuple vs k2' p2) X.env = pure (some names) := swp_ok F.bk (by rw [hk]; exact hw0)
        clear hw0
        exact par_ok F h hw
      next => cases h
    next o x _ e _ =>
      obtain ⟨h0, h⟩ := guard_eq h
      split at h
      next c hc =>
        obtain ⟨co, ce, h1, h2, rfl⟩ := bind2_eq h
        obtain ⟨k1, k2⟩ := F.fit.cl.fld x c (mem_lk hc)
        refine ss_fld k1 k2 (F.ex0 h1) (F.ex h2).pe h0 fun _ _ => ?_
        simp only [evS]
        congr 2
      next => cases h
    next t e _ _ _ _ =>
      obtain ⟨h0, h⟩ := guard_eq h
      simp only [Bool.and_eq_true_iff, Bool.or_eq_true_iff] at h0
      obtain ⟨hn, ht, hst⟩ := h0
      obtain ⟨c, d, h1, h2, rfl⟩ := bind2_eq h
      exact ss_asg (F.ex h2).pe (F.tg h1) hn (ht.elim store_none2 store_none) (by simpa using hst) fun _ _ => by simp only [evS]
    next e _ =>
      obtain ⟨c, h1, rfl⟩ := bind1_eq h
      exact ss_ret (F.ex h1).pe fun _ _ => by simp only [evS]
    next => cases h; exact ss_retN fun _ _ => by simp only [evS]
    next c a b _ =>
      obtain ⟨h0, h⟩ := guard_eq h
      obtain ⟨c1, c2, c3, h1, h2, h3, rfl⟩ := bind3_eq h
      exact ss_if ((F.ex h1).pt _ h0).1 (cSs_ok n sc a c2 h2 X W F) (cSs_ok n sc b c3 h3 X W F) fun _ _ => by simp only [evS]
    next t it body _ =>
      obtain ⟨h0, h⟩ := guard_eq h
      obtain ⟨c1, c2, c3, h1, h2, h3, rfl⟩ := bind3_eq h
      exact ss_for F.pass F.calm (it_ok F.fit F.scope (fun e ce he => (F.ex he).pe) h2) (F.tg h1) (cSs_ok n sc body c3 h3 X W F) h0 fun _ _ => by simp only [evS]
    next c body _ =>
      obtain ⟨h0, h⟩ := guard_eq h
      obtain ⟨c1, c2, h1, h2, rfl⟩ := bind2_eq h
      exact ss_while F.pass ((F.ex h1).pt _ h0).1 (cSs_ok n sc body c2 h2 X W F) fun _ _ => by simp only [evS]
    next => cases h; exact ss_pass fun _ _ => by simp only [evS]
    next => cases h; exact ss_brk fun _ _ => by simp only [evS]
    next => cases h; exact ss_cnt fun _ _ => by simp only [evS]
    next x _ mm _ _ _ _ =>
      obtain ⟨h0, h⟩ := guard_eq h
      rw [Bool.and_eq_true_iff] at h0
      obtain ⟨i, h1, rfl⟩ := bind1_eq h
      obtain ⟨e1, e2, e3, e0, B, ni, ii, bm, e4, e5⟩ := F.fit.exs x i (lastOf_ok h1)
      exact ss_rai F.calm F.takes e4 e5 e1 e2 e3 e0 (gl_ok F.scope h0.1) h0.2 fun _ _ => by simp only [evS]
    next body hd hds _ =>
      obtain ⟨c1, c2, h1, h2, rfl⟩ := bind2_eq h
      have hh := hs_ok F h2
      refine ⟨fun pins s σ H D I q => (ps_try_many F.stack F.frame F.takes (fun W' pn xe t ps => cSs_ok n sc body c1 h1 (X.tr pn xe) W' (F.tr t ps)) hh).run pins s σ H D I ?_⟩
      obtain ⟨ρ, M, ds, sl, st, q⟩ := q
      simp only [evS] at q
      refine ⟨ρ, M, ds, sl, st, ?_⟩
      rw [F.fit.hK]
      cases e1 : evSs m sup c1 ds M with
      | ex x ds' M' =>
        rw [e1] at q
        exact fun cls dd σ' H' ρ' st' g' sl' r' => many_rd F.fit.sup r' sl' st' c2 (hs_xp F h2) (postS.later q g')
      | nx ds' M' => rw [e1] at q; exact q
      | rt d M' => rw [e1] at q; exact q
      | bk ds' M' => rw [e1] at q; exact q
      | ct ds' M' => rw [e1] at q; exact q
      | bad => rw [e1] at q; exact q
    next => cases h
theorem cSs_ok : ∀ (n : Nat) (sc : Scope) (ss : List Stmt) (cs : List CS), cSs_ (cS Γ N n sc) ss = some cs → ∀ (X : Cx) (W : WX), FitS Γ p m sup k N X W sc → PSs X ss (rS p W (evSs m sup cs))
  | n, sc, [], cs, h, X, W, F => by
    cases h
    exact sss_nil fun _ _ => by simp only [evSs]
  | n, sc, s :: ss, cs, h, X, W, F => by
    unfold cSs_ at h
    obtain ⟨c, cs', h1, h2, rfl⟩ := bind2_eq h
    exact sss_cons (cS_ok n sc s c h1 X W F) (cSs_ok n sc ss cs' h2 X W F) fun _ _ => by simp only [evSs]
end
end

/-! ### defs -/
/-- what the module gives: the defs at hand, the constants, the exceptions -/
structure FitM (Γ : Gam) (p : Pm) (m : Nat → List D → Store → Out D) (sup : Nat → Nat → Bool) (k : Nat) (P : Program) (w : World) (mg : Str → Option Value) (base : Heap) : Prop where
  fns : ∀ x i a, (x, (i, a)) ∈ Γ.fns → PySem.W.keepIn p.K (.ref (p.fa i)) = true ∧ ∃ fd ps, ps.length = a ∧ Binds p.K fd ps [] ∧ FnOk P w p.K mg base (L2.CX P w) k (p.fa i) fd ps (spM p ps.length (m i))
  fnv : ∀ x i a, (x, (i, a)) ∈ Γ.fns → mg x = some (.ref (p.fa i))
  cns : ∀ x d, Γ.cns.lookup x = some d → ∃ v u, mg x = some u ∧ RelV v u ∧ ∀ H ρ, Rv p H ρ v d
  exs : ∀ x i, (x, i) ∈ Γ.exs → mg x = some (.ref (p.xa i)) ∧ PySem.W.keepIn p.K (.ref (p.xa i)) = true ∧ (PySem.W.subIn p.K (.ref (p.xa i)) (.type "BaseException") = some true ∧ PySem.W.typeIn p.K (.ref (p.xa i)) = some (.type "type")) ∧
    p.xp i ∧ ∃ B newId initId bmB, ExcBaseFacts B newId initId bmB ∧ PySem.W.excIn p.K (p.xa i) bmB newId = true
  blt : ∀ x, x ∈ Γ.blt → mg x = none
  sup : ∀ i j, p.xp i → p.xp j → PySem.W.exmOne p.K (.ref (p.xa i)) (.ref (p.xa j)) = some (sup i j)
  cl : ClsF Γ p m k P w p.K mg base
section
variable {Γ : Gam} {p : Pm} {m : Nat → List D → Store → Out D} {sup : Nat → Nat → Bool} {k : Nat} {N : List Str} {P : Program} {w : World} {mg : Str → Option Value} {base : Heap}
theorem FitM.fit (F : FitM Γ p m sup k P w mg base) {X : Cx} (hP : X.prog = P) (hw : X.w = w) (hK : X.K = p.K) (hm : X.mg = mg) (hb : X.base = base) (hN : X.N = N) (nd : N.Nodup) : Fit Γ p m sup k N X := by
  subst hP hw hm hb
  refine ⟨hK, hN, nd, fun x i a h1 => ?_, F.fnv, F.cns, fun x i h => ?_, F.blt, F.sup, by rw [hK]; exact F.cl⟩
  · rw [hK]; exact F.fns x i a h1
  · obtain ⟨e1, e2, e3, e4⟩ := F.exs x i h
    rw [hK]
    exact ⟨e1, e2, raises_own (by rw [hK]; exact e3.1) (by rw [hK]; exact e3.2), e4⟩
/-- an answer that another one stands for -/
def Rf (M : Store) (o' o : Out D) : Prop := ∀ (p : Pm) (H : Hp) (ρ : List Addr) (Q : VK) (E : XK), RSt p H ρ M → post (RD p) p H ρ o Q E → post (RD p) p H ρ o' Q E
theorem Rf.refl (M : Store) (o : Out D) : Rf M o o := fun _ _ _ _ _ _ h => h
theorem Rf.of_eq {M : Store} {o o' : Out D} (h : o' = o) : Rf M o' o := by rw [h]; exact .refl M o
theorem start_rd {H : Hp} {ρ : List Addr} {vs : List V} {ds : List D} (r : RvL p H ρ vs ds) : RSl p H ρ (L2.start N vs) (startD N.length ds) := by
  refine ⟨?_, fun i d h => ?_⟩
  · unfold L2.start startD
    rw [List.length_append, List.length_append, List.length_map, List.length_map, List.length_replicate, List.length_replicate, r.length]
  · unfold startD at h
    by_cases hi : i < ds.length
    · rw [List.getElem?_append_left (by simpa using hi), List.getElem?_map] at h
      cases e : ds[i]? with
      | none => rw [e] at h; cases h
      | some d' =>
        rw [e] at h
        cases h
        obtain ⟨v, h1, h2⟩ := r.get e
        refine ⟨v, ?_, h2⟩
        unfold L2.start
        rw [List.getElem?_append_left (by rw [List.length_map, r.length]; exact hi), List.getElem?_map, h1]
        rfl
    · rw [List.getElem?_append_right (by simpa using hi)] at h
      rw [List.getElem?_replicate] at h
      split at h <;> cases h
theorem def_ok (F : FitM Γ p m sup k P w mg base) {x qual : Str} {st : Stmt} {f : Addr} {fd : FuncData} {ps : List Str} {body : List CS} {mf : List D → Store → Out D} (D : L2.Fun p.K x qual st f fd) (S : FnScope N ps (L2.defScope st)) (hcm : cDef Γ N st = some body)
    (hm : ∀ ds M, ds.length = ps.length → Rf M (bodyO (evSs m sup body (startD N.length ds) M)) (mf ds M)) : FnOk P w p.K mg base (L2.CX P w) (k + 1) f fd ps (spM p ps.length mf) := by
  refine L2.Fun.okX D S (fun vs H Q E h => by obtain ⟨_, _, _, h, _⟩ := h; exact h) fun cdv A outer s H vs Q E hr hsp => ?_
  obtain ⟨ρ, M, ds, hl, r, st', h⟩ := hsp
  have Ft : FitS Γ p m sup k N (cxOf (L2.CX P w) P w p.K mg base N qual (L2.defScope st) f cdv A outer s H E) (fun cls d _ H => E cls d H) (L2.defScope st) :=
    ⟨F.fit rfl rfl rfl rfl rfl rfl S.nd, rfl, hr, rfl, S.kind, takes_of rfl rfl rfl rfl, passes_of rfl, rfl, rfl, fun _ => rfl⟩
  refine ⟨_, cSs_ok 9 _ _ body hcm _ _ Ft, ρ, M, startD N.length ds, start_rd r, st', ?_⟩
  have h2 := hm ds M (by rw [← r.length]; exact hl) p H ρ Q E st' h
  cases e : evSs m sup body (startD N.length ds) M with
  | nx σ M' => rw [e] at h2; exact fun σ' H' ρ' s1 g1 _ => h2 .non H' ρ' s1 g1 .non
  | rt d M' => rw [e] at h2; exact fun v H' ρ' s1 g1 r1 => h2 v H' ρ' s1 g1 r1
  | ex x σ M' => rw [e] at h2; exact fun cls dd σ' H' ρ' s1 g1 _ r1 => h2 cls dd H' ρ' s1 g1 r1
  | bk σ M' => rw [e] at h2; exact h2.elim
  | ct σ M' => rw [e] at h2; exact h2.elim
  | bad => rw [e] at h2; exact h2.elim
/-- .. a def of a class, be it with defaults -/
theorem def_okD (F : FitM Γ p m sup k P w mg base) {x qual : Str} {params : Arguments} {bd : List Stmt} {scope : Scope} {dvs : List V} {kws : List (Str × V)} {f : Addr} {fd : FuncData} {ps : List Str} {body : List CS} {mf : List D → Store → Out D} (D : L2.FunD p.K x qual params bd scope dvs kws f fd) (S : FnScope N ps scope)
    (hcm : cSs_ (cS Γ N 9 scope) bd = some body) (hm : ∀ ds M, ds.length = ps.length → Rf M (bodyO (evSs m sup body (startD N.length ds) M)) (mf ds M)) : FnOk P w p.K mg base (L2.CX P w) (k + 1) f fd ps (spM p ps.length mf) := by
  refine L2.FunD.ok D S (fun vs H Q E h => by obtain ⟨_, _, _, h, _⟩ := h; exact h) fun cdv A outer s H vs Q E hr hsp => ?_
  obtain ⟨ρ, M, ds, hl, r, st', h⟩ := hsp
  have Ft : FitS Γ p m sup k N (cxOf (L2.CX P w) P w p.K mg base N qual scope f cdv A outer s H E) (fun cls d _ H => E cls d H) scope :=
    ⟨F.fit rfl rfl rfl rfl rfl rfl S.nd, rfl, hr, rfl, S.kind, takes_of rfl rfl rfl rfl, passes_of rfl, rfl, rfl, fun _ => rfl⟩
  refine ⟨_, cSs_ok 9 _ _ body hcm _ _ Ft, ρ, M, startD N.length ds, start_rd r, st', ?_⟩
  have h2 := hm ds M (by rw [← r.length]; exact hl) p H ρ Q E st' h
  cases e : evSs m sup body (startD N.length ds) M with
  | nx σ M' => rw [e] at h2; exact fun σ' H' ρ' s1 g1 _ => h2 .non H' ρ' s1 g1 .non
  | rt d M' => rw [e] at h2; exact fun v H' ρ' s1 g1 r1 => h2 v H' ρ' s1 g1 r1
  | ex x σ M' => rw [e] at h2; exact fun cls dd σ' H' ρ' s1 g1 _ r1 => h2 cls dd H' ρ' s1 g1 r1
  | bk σ M' => rw [e] at h2; exact h2.elim
  | ct σ M' => rw [e] at h2; exact h2.elim
  | bad => rw [e] at h2; exact h2.elim
end
end BH
end

section
set_option Elab.async false
set_option linter.all false
set_option maxRecDepth 100000
set_option maxHeartbeats 1000000
/-! What a call leaves behind and nobody can reach is dropped; the oracle of a table of defs. -/
namespace BH
open PySem PySem.Spec L2

mutual
/-- every place within is below n -/
def D.lo (n : Nat) : D → Bool
  | .ll l => decide (l < n)
  | .dl l => decide (l < n)
  | .ol _ l => decide (l < n)
  | .tup ds => D.loL n ds
  | .lsf ds => D.loL n ds
  | .non => true
  | .bl _ => true
  | .int _ => true
  | .str _ => true
  | .fn _ => true
def D.loL (n : Nat) : List D → Bool
  | [] => true
  | d :: ds => D.lo n d && D.loL n ds
end
def MO.lo (n : Nat) : MO → Prop
  | .lst ds => D.loL n ds = true
  | .dk kvs => ∀ kv ∈ kvs, D.lo n kv.2 = true
  | .ins _ fs => ∀ kv ∈ fs, D.lo n kv.2 = true
/-- the old part of the store: as it was, or of old places -/
def Pre' (M M' : Store) : Prop := ∀ (l : Nat) (mo : MO), l < M.length → M'[l]? = some mo → M[l]? = some mo ∨ mo.lo M.length
theorem pre_app (M J : Store) : Pre' M (M ++ J) := fun l mo hl h => .inl (by rw [List.getElem?_append_left hl] at h; exact h)
theorem pre_set {M : Store} {l : Nat} {mo : MO} (h : mo.lo M.length) : Pre' M (M.set l mo) := fun k mo' hk e => by
  by_cases hl : l = k
  · subst hl
    rw [List.getElem?_set_self hk] at e
    cases e
    exact .inr h
  · rw [List.getElem?_set_ne hl] at e; exact .inl e
open Classical in
noncomputable def gcO (M : Store) (o : Out D) : Out D := match o with
  | .ok d M' => if Pre' M M' ∧ D.lo M.length d = true ∧ M.length ≤ M'.length then .ok d (M'.take M.length) else
    match d with
    | .ll l => match M'[l]? with
      | some (.lst ds) => if M.length ≤ l ∧ Pre' M M' ∧ D.loL M.length ds = true then .ok (.ll M.length) (M'.take M.length ++ [.lst ds]) else o
      | _ => o
    | _ => o
  | .ex e M' => if Pre' M M' ∧ e.arg = none ∧ M.length ≤ M'.length then .ex e (M'.take M.length) else o
  | .bad => .bad
theorem gc_pure {M J : Store} {d : D} (h : D.lo M.length d = true) : gcO M (.ok d (M ++ J)) = .ok d M := by
  unfold gcO
  dsimp only
  rw [if_pos ⟨pre_app M J, h, by simp⟩, List.take_left]
theorem gc_pure0 {M : Store} {d : D} (h : D.lo M.length d = true) : gcO M (.ok d M) = .ok d M := by
  have := gc_pure (J := []) h
  rwa [List.append_nil] at this
theorem gc_set {M : Store} {l : Nat} {mo : MO} {d : D} (h : D.lo M.length d = true) (hm : mo.lo M.length) : gcO M (.ok d (M.set l mo)) = .ok d (M.set l mo) := by
  unfold gcO
  dsimp only
  rw [if_pos ⟨pre_set hm, h, by simp⟩, List.take_of_length_le (by simp)]
theorem gc_list {M J : Store} {k : Nat} {ds : List D} (hk : J[k]? = some (.lst ds)) (h : D.loL M.length ds = true) : gcO M (.ok (.ll (M.length + k)) (M ++ J)) = .ok (.ll M.length) (M ++ [.lst ds]) := by
  unfold gcO
  dsimp only
  rw [if_neg (by intro z; have := z.2.1; simp [D.lo] at this; omega)]
  have e : (M ++ J)[M.length + k]? = some (.lst ds) := by
    rw [List.getElem?_append_right (Nat.le_add_right _ _), Nat.add_sub_cancel_left]
    exact hk
  rw [e]
  dsimp only
  rw [if_pos ⟨Nat.le_add_right _ _, pre_app M J, h⟩, List.take_left]
theorem gc_ex {M J : Store} {c : Nat} : gcO M (.ex ⟨c, none⟩ (M ++ J)) = .ex ⟨c, none⟩ M := by
  unfold gcO
  dsimp only
  rw [if_pos ⟨pre_app M J, rfl, by simp⟩, List.take_left]
theorem gc_ex0 {M : Store} {c : Nat} : gcO M (.ex ⟨c, none⟩ M) = .ex ⟨c, none⟩ M := by
  have := gc_ex (M := M) (J := []) (c := c)
  rwa [List.append_nil] at this
theorem gc_bad {M : Store} : gcO M .bad = .bad := rfl

section
variable {p : Pm} {H : Hp} {ρ : List Addr}
mutual
theorem Rv.lo : ∀ {v : V} {d : D}, Rv p H ρ v d → D.lo ρ.length d = true
  | _, _, .non => rfl
  | _, _, .bl _ => rfl
  | _, _, .int _ => rfl
  | _, _, .str _ => rfl
  | _, _, .tup _ r => by simp only [D.lo]; exact RvL.lo r
  | _, _, .ll h _ => by simp only [D.lo]; exact decide_eq_true (List.getElem?_eq_some_iff.mp h).1
  | _, _, .dl h _ => by simp only [D.lo]; exact decide_eq_true (List.getElem?_eq_some_iff.mp h).1
  | _, _, .ol h _ => by simp only [D.lo]; exact decide_eq_true (List.getElem?_eq_some_iff.mp h).1
  | _, _, .fn _ => rfl
  | _, _, .lsf _ r => by simp only [D.lo]; exact RvL.lo r
theorem RvL.lo : ∀ {v : List V} {d : List D}, RvL p H ρ v d → D.loL ρ.length d = true
  | _, _, .nil => rfl
  | _, _, .cons r t => by simp only [D.loL, Rv.lo r, RvL.lo t]; rfl
end
mutual
theorem Rv.cut {n : Nat} : ∀ {v : V} {d : D}, Rv p H ρ v d → D.lo n d = true → Rv p H (ρ.take n) v d
  | _, _, .non, _ => .non
  | _, _, .bl _, _ => .bl _
  | _, _, .int _, _ => .int _
  | _, _, .str _, _ => .str _
  | _, _, .tup h r, l => .tup h (RvL.cut r (by simpa only [D.lo] using l))
  | _, _, .ll h k, l => .ll (by rw [List.getElem?_take_of_lt (by simpa only [D.lo, decide_eq_true_eq] using l)]; exact h) k
  | _, _, .dl h k, l => .dl (by rw [List.getElem?_take_of_lt (by simpa only [D.lo, decide_eq_true_eq] using l)]; exact h) k
  | _, _, .ol h k, l => .ol (by rw [List.getElem?_take_of_lt (by simpa only [D.lo, decide_eq_true_eq] using l)]; exact h) k
  | _, _, .fn _, _ => .fn _
  | _, _, .lsf h r, l => .lsf h (RvL.cut r (by simpa only [D.lo] using l))
theorem RvL.cut {n : Nat} : ∀ {v : List V} {d : List D}, RvL p H ρ v d → D.loL n d = true → RvL p H (ρ.take n) v d
  | _, _, .nil, _ => .nil
  | _, _, .cons r t, l => by
    simp only [D.loL, Bool.and_eq_true] at l
    exact .cons (Rv.cut r l.1) (RvL.cut t l.2)
end
theorem paired_mem {α β : Type} {F : α → β → Prop} : ∀ {l : List α} {m : List β}, PySem.Paired F l m → ∀ b ∈ m, ∃ a ∈ l, F a b
  | _, _, .nil, _, h => by cases h
  | _, _, .cons r t, b, h => by
    rcases List.mem_cons.mp h with z | z
    · subst z; exact ⟨_, List.mem_cons_self, r⟩
    · obtain ⟨a, h1, h2⟩ := paired_mem t b z
      exact ⟨a, List.mem_cons_of_mem _ h1, h2⟩
theorem paired_with {α β : Type} {F G : α → β → Prop} : ∀ {l : List α} {m : List β}, PySem.Paired F l m → (∀ a b, b ∈ m → F a b → G a b) → PySem.Paired G l m
  | _, _, .nil, _ => .nil
  | _, _, .cons r t, h => .cons (h _ _ List.mem_cons_self r) (paired_with t fun a b hb => h a b (List.mem_cons_of_mem _ hb))
theorem RMO.lo {a : Addr} {mo : MO} (h : RMO p H ρ a mo) : mo.lo ρ.length := by
  cases mo with
  | lst ds => obtain ⟨_, _, r⟩ := h; exact r.lo
  | dk ds =>
    obtain ⟨_, _, r⟩ := h
    intro kv hk
    obtain ⟨x, _, hx⟩ := paired_mem r kv hk
    exact hx.2.lo
  | ins c fs =>
    obtain ⟨_, _, _, r⟩ := h
    intro kv hk
    obtain ⟨x, _, hx⟩ := paired_mem r kv hk
    exact hx.2.lo
theorem RMO.cut {n : Nat} {a : Addr} {mo : MO} (h : RMO p H ρ a mo) (l : mo.lo n) : RMO p H (ρ.take n) a mo := by
  cases mo with
  | lst ds => obtain ⟨vs, e, r⟩ := h; exact ⟨vs, e, r.cut l⟩
  | dk ds => obtain ⟨vs, e, r⟩ := h; exact ⟨vs, e, paired_with r fun x y hy z => ⟨z.1, z.2.cut (l y hy)⟩⟩
  | ins c fs => obtain ⟨dx, vs, e, r⟩ := h; exact ⟨dx, vs, e, paired_with r fun x y hy z => ⟨z.1, z.2.cut (l y hy)⟩⟩
theorem RSt.cut {H' : Hp} {ρ' : List Addr} {M M' : Store} (s : RSt p H ρ M) (s' : RSt p H' ρ' M') (g : Gr H ρ H' ρ') (pr : Pre' M M') (hl : M.length ≤ M'.length) : RSt p H' (ρ'.take M.length) (M'.take M.length) := by
  refine ⟨by rw [List.length_take, List.length_take, s'.len], s'.nd.sublist (List.take_sublist _ _), fun l mo h => ?_⟩
  have hlt : l < M.length := by
    have := (List.getElem?_eq_some_iff.mp h).1
    rw [List.length_take] at this
    omega
  rw [List.getElem?_take_of_lt hlt] at h
  obtain ⟨a, ha, r⟩ := s'.at_ l mo h
  refine ⟨a, by rw [List.getElem?_take_of_lt hlt]; exact ha, r.cut ?_⟩
  rcases pr l mo hlt h with e | e
  · obtain ⟨b, hb, rb⟩ := s.at_ l mo e
    rw [← s.len]
    exact rb.lo
  · exact e
theorem Gr.cut {H' : Hp} {ρ' : List Addr} {M : Store} (s : RSt p H ρ M) (g : Gr H ρ H' ρ') : ρ'.take M.length = ρ ∧ Gr H ρ H' (ρ'.take M.length) := by
  obtain ⟨t, e, n⟩ := g.new_
  have e2 : ρ'.take M.length = ρ := by rw [e, ← s.len, List.take_left]
  exact ⟨e2, by rw [e2]; exact ⟨g.ext, ⟨[], by simp, by simp⟩, g.oth⟩⟩
theorem gc_rf (M : Store) (o : Out D) : Rf M o (gcO M o) := by
  intro p H ρ Q E s h
  cases o with
  | bad => exact h
  | ex e M' =>
    unfold gcO at h
    dsimp only at h
    split at h
    next hc =>
      intro cls dd H' ρ' s' g r
      obtain ⟨e2, g2⟩ := g.cut s
      refine h cls dd H' _ (s.cut s' g hc.1 hc.2.2) g2 ⟨r.1, ?_⟩
      have r2 := r.2
      rw [hc.2.1] at r2 ⊢
      exact r2
    next => exact h
  | ok d M' =>
    unfold gcO at h
    dsimp only at h
    split at h
    next hc =>
      intro v H' ρ' s' g r
      obtain ⟨e2, g2⟩ := g.cut s
      exact h v H' _ (s.cut s' g hc.1 hc.2.2) g2 (Rv.cut r hc.2.1)
    next =>
      split at h
      next l _ =>
        split at h
        next ds e =>
          split at h
          next hc =>
            intro v H' ρ' s' g r
            obtain ⟨e2, g2⟩ := g.cut s
            have hlt : l < M'.length := (List.getElem?_eq_some_iff.mp e).1
            have s2 := s.cut s' g hc.2.1 (by omega)
            cases r with
            | @ll a l' h1 h2 =>
              obtain ⟨vs, k1, k2⟩ := s'.get h1 e
              have na : a ∉ ρ'.take M.length := fun hm => by
                obtain ⟨i, hi⟩ := List.getElem?_of_mem hm
                have hi2 : i < M.length := by
                  have := (List.getElem?_eq_some_iff.mp hi).1
                  rw [List.length_take] at this
                  omega
                rw [List.getElem?_take_of_lt hi2] at hi
                obtain ⟨q1, q2⟩ := List.getElem?_eq_some_iff.mp hi
                obtain ⟨q3, q4⟩ := List.getElem?_eq_some_iff.mp h1
                have := (List.getElem_inj s'.nd).mp (q2.trans q4.symm)
                omega
              have hn : H a = none := by
                obtain ⟨t, et, nt⟩ := g.new_
                have hm : a ∈ ρ' := List.mem_of_getElem? h1
                rw [et] at hm
                rcases List.mem_append.mp hm with z | z
                · exact absurd (by rw [e2]; exact z) na
                · exact nt a z
              refine h _ H' (ρ'.take M.length ++ [a]) (s2.adopt na ⟨vs, k1, RvL.ext (.refl _) (.push _ _) _ _ (RvL.cut k2 hc.2.2)⟩) (g2.adopt hn) (.ll ?_ ⟨vs, k1⟩)
              have : (ρ'.take M.length).length = M.length := by rw [e2, s.len]
              rw [List.getElem?_append_right (by omega), this]
              simp
          next => exact h
        next => exact h
      next => exact h
end

/-! ### the oracle of a table -/
section
variable (T : Nat → Option (Nat × List CS)) (sup : Nat → Nat → Bool)
noncomputable def evm (i : Nat) (ds : List D) (M : Store) : Out D := match T i with
  | none => .bad
  | some (n, c) => gcO M (bodyO (evSs (fun j ds M => if h : j < i then evm j ds M else .bad) sup c (startD n ds) M))
termination_by i
/-- .. of the defs below i -/
noncomputable def evb (i : Nat) : Nat → List D → Store → Out D := fun j ds M => if j < i then evm T sup j ds M else .bad
theorem evm_eq {i n : Nat} {c : List CS} (h : T i = some (n, c)) (ds : List D) (M : Store) : evm T sup i ds M = gcO M (bodyO (evSs (evb T sup i) sup c (startD n ds) M)) := by
  rw [evm, h]
  rfl
theorem evb_lt {i j : Nat} (h : j < i) : evb T sup i j = evm T sup j := by
  funext ds M
  unfold evb
  rw [if_pos h]
variable {T sup}
variable {Γ : Gam} {p : Pm} {k : Nat} {N : List Str} {P : Program} {w : World} {mg : Str → Option Value} {base : Heap}
/-- the same of a higher oracle -/
theorem FitM.lift {b b' k' : Nat} (F : FitM Γ p (evb T sup b) sup k P w mg base) (hi : Γ.lt b = true) (hb : b ≤ b') (hk : k ≤ k') : FitM Γ p (evb T sup b') sup k' P w mg base := by
  have old : ∀ j, j < b → evb T sup b' j = evb T sup b j := fun j h => by rw [evb_lt T sup (by omega : j < b'), evb_lt T sup h]
  obtain ⟨i0, _⟩ := Gam.lt_ok hi
  refine ⟨fun x i a hx => ?_, F.fnv, F.cns, F.exs, F.blt, F.sup, (F.cl.agree hi old).up hk⟩
  rw [old i (i0 _ hx)]
  obtain ⟨a1, fd, ps, a2, a3, a4⟩ := F.fns x i a hx
  exact ⟨a1, fd, ps, a2, a3, ⟨a4.len, fun A outer s H args us vs Q E hr => a4.run A outer s H args us vs Q E (hr.mono hk)⟩⟩
/-- one def more, the oracle that of the table -/
theorem FitM.step {b i b' : Nat} (F : FitM Γ p (evb T sup b) sup k P w mg base) (hi : Γ.lt b = true) (hb : b ≤ i) (hb' : i < b') {x qual : Str} {st : Stmt} {fd : FuncData} {ps : List Str} {body : List CS} (hv : mg x = some (.ref (p.fa i))) (D : L2.Fun p.K x qual st (p.fa i) fd) (B : Binds p.K fd ps []) (S : FnScope N ps (L2.defScope st))
    (hcm : cDef Γ N st = some body) (hT : T i = some (N.length, body)) : FitM { Γ with fns := Γ.fns ++ [(x, (i, ps.length))] } p (evb T sup b') sup (k + 1) P w mg base := by
  have FO := def_ok (mf := evm T sup i) (F.lift hi hb (Nat.le_refl k)) D S hcm fun ds M _ => by rw [evm_eq T sup hT]; exact gc_rf M _
  have F2 := F.lift hi (by omega : b ≤ b') (Nat.le_succ k)
  refine ⟨fun y j a h1 => ?_, fun y j a h1 => ?_, F.cns, F.exs, F.blt, F.sup, ⟨F2.cl.fld, F2.cl.prp, F2.cl.clm, F2.cl.ini⟩⟩
  · rcases List.mem_append.mp h1 with h1 | h1
    · exact F2.fns y j a h1
    · cases List.mem_singleton.mp h1
      rw [evb_lt T sup hb']
      exact ⟨D.kp, fd, ps, rfl, B, FO⟩
  · rcases List.mem_append.mp h1 with h1 | h1
    · exact F.fnv y j a h1
    · cases List.mem_singleton.mp h1
      exact hv
/-- an id that the table lacks: nothing may be asked of it -/
theorem FitM.void {b i b' : Nat} (F : FitM Γ p (evb T sup b) sup k P w mg base) (hi : Γ.lt b = true) (hb : b ≤ i) (hb' : i < b') {x qual : Str} {st : Stmt} {fd : FuncData} {ps : List Str} (hv : mg x = some (.ref (p.fa i))) (D : L2.Fun p.K x qual st (p.fa i) fd) (B : Binds p.K fd ps [])
    (hT : T i = none) : FitM { Γ with fns := Γ.fns ++ [(x, (i, ps.length))] } p (evb T sup b') sup (k + 1) P w mg base := by
  have F2 := F.lift hi (by omega : b ≤ b') (Nat.le_succ k)
  have hbad : ∀ ds M, evm T sup i ds M = .bad := fun ds M => by rw [evm, hT]
  refine ⟨fun y j a h1 => ?_, fun y j a h1 => ?_, F.cns, F.exs, F.blt, F.sup, ⟨F2.cl.fld, F2.cl.prp, F2.cl.clm, F2.cl.ini⟩⟩
  · rcases List.mem_append.mp h1 with h1 | h1
    · exact F2.fns y j a h1
    · cases List.mem_singleton.mp h1
      rw [evb_lt T sup hb']
      refine ⟨D.kp, fd, ps, rfl, B, ⟨fun vs H Q E h => ?_, fun A outer s H args us vs Q E hr he hb hv hs => ?_⟩⟩
      · obtain ⟨_, _, _, h, _⟩ := h; exact h
      · obtain ⟨ρ, M, ds, _, _, _, h⟩ := hs
        rw [hbad] at h
        exact h.elim
  · rcases List.mem_append.mp h1 with h1 | h1
    · exact F.fnv y j a h1
    · cases List.mem_singleton.mp h1
      exact hv
/-- a class's def -/
theorem FitM.mem {b i : Nat} (F : FitM Γ p (evb T sup b) sup k P w mg base) (hi : Γ.lt b = true) (hb : b ≤ i) {x qual : Str} {params : Arguments} {bd : List Stmt} {scope : Scope} {dvs : List V} {kws : List (Str × V)} {fd : FuncData} {ps : List Str} {body : List CS} (D : L2.FunD p.K x qual params bd scope dvs kws (p.fa i) fd)
    (S : FnScope N ps scope) (hcm : cSs_ (cS Γ N 9 scope) bd = some body) (hT : T i = some (N.length, body)) : FnOk P w p.K mg base (L2.CX P w) (k + 1) (p.fa i) fd ps (spM p ps.length (evm T sup i)) :=
  def_okD (mf := evm T sup i) (F.lift hi hb (Nat.le_refl k)) D S hcm fun ds M _ => by rw [evm_eq T sup hT]; exact gc_rf M _
/-- a property more -/
theorem FitM.stepP {b i b' c : Nat} {x : Str} {q0 : Addr} {fd : FuncData} {ps : List Str} (F : FitM Γ p (evb T sup b) sup k P w mg base) (hi : Γ.lt b = true) (hb : b ≤ i) (hb' : i < b') (hC : L2.Cls p.K (p.ca c)) (hp : PropOf p.K (p.ca c) x q0 (p.fa i)) (B : Binds p.K fd ps []) (hl : ps.length = 1)
    (FO : FnOk P w p.K mg base (L2.CX P w) (k + 1) (p.fa i) fd ps (spM p ps.length (evm T sup i))) : FitM { Γ with prp := Γ.prp ++ [(x, (c, i))] } p (evb T sup b') sup (k + 2) P w mg base := by
  have F2 := F.lift hi (by omega : b ≤ b') (show k ≤ k + 2 by omega)
  refine ⟨F2.fns, F.fnv, F.cns, F.exs, F.blt, F.sup, ⟨F2.cl.fld, fun y d g h1 => ?_, F2.cl.clm, F2.cl.ini⟩⟩
  rcases List.mem_append.mp h1 with h1 | h1
  · exact F2.cl.prp y d g h1
  · cases List.mem_singleton.mp h1
    rw [evb_lt T sup hb']
    exact ⟨hC, ⟨q0, hp⟩, k + 1, fd, ps, Nat.le_refl _, hl, B, FO⟩
/-- a classmethod more -/
theorem FitM.stepC {b i b' c n : Nat} {x mm : Str} {mc : Value} {q0 : Addr} {fd : FuncData} {ps : List Str} (F : FitM Γ p (evb T sup b) sup k P w mg base) (hi : Γ.lt b = true) (hb : b ≤ i) (hb' : i < b') (hv : mg x = some (.ref (p.fa c))) (hR : ClX.CRead p.K (p.fa c) mc) (hM : ClX.CMet p.K (p.fa c) mc mm q0 (p.fa i)) (B : Binds p.K fd ps [])
    (hl : ps.length = n + 1) (FO : FnOk P w p.K mg base (L2.CX P w) (k + 1) (p.fa i) fd ps (spM p ps.length (evm T sup i))) : FitM { Γ with clm := Γ.clm ++ [((x, mm), (c, (i, n)))] } p (evb T sup b') sup (k + 2) P w mg base := by
  have F2 := F.lift hi (by omega : b ≤ b') (show k ≤ k + 2 by omega)
  refine ⟨F2.fns, F.fnv, F.cns, F.exs, F.blt, F.sup, ⟨F2.cl.fld, F2.cl.prp, fun y m2 d g n2 h1 => ?_, F2.cl.ini⟩⟩
  rcases List.mem_append.mp h1 with h1 | h1
  · exact F2.cl.clm y m2 d g n2 h1
  · cases List.mem_singleton.mp h1
    rw [evb_lt T sup hb']
    exact ⟨hv, ⟨mc, q0, hR, hM⟩, k + 1, fd, ps, Nat.le_refl _, hl, B, FO⟩
/-- a maker more -/
theorem FitM.stepI {b i b' c n : Nat} {ks : List Str} {fd : FuncData} {ps : List Str} {gg : List Value → List Value → List Value} (F : FitM Γ p (evb T sup b) sup k P w mg base) (hi : Γ.lt b = true) (hb : b ≤ i) (hb' : i < b') (hca : p.ca c = p.fa c) (hM : L2.Mk p.K (p.fa c) (p.fa i)) (B : KBn p.K fd ps (n + 1) ks gg (fun vs zs => vs ++ zs))
    (hl : ps.length = n + ks.length + 1) (FO : FnOk P w p.K mg base (L2.CX P w) (k + 1) (p.fa i) fd ps (spM p ps.length (evm T sup i))) : FitM { Γ with ini := Γ.ini ++ [(ks, (c, (i, n)))] } p (evb T sup b') sup (k + 2) P w mg base := by
  have F2 := F.lift hi (by omega : b ≤ b') (show k ≤ k + 2 by omega)
  refine ⟨F2.fns, F.fnv, F.cns, F.exs, F.blt, F.sup, ⟨F2.cl.fld, F2.cl.prp, F2.cl.clm, fun ks2 d g n2 h1 => ?_⟩⟩
  rcases List.mem_append.mp h1 with h1 | h1
  · exact F2.cl.ini ks2 d g n2 h1
  · cases List.mem_singleton.mp h1
    rw [evb_lt T sup hb']
    exact ⟨hca, hM, k + 1, fd, ps, gg, Nat.le_refl _, hl, B, FO⟩
end
end BH
end

section
set_option Elab.async false
set_option linter.all false
set_option maxRecDepth 100000
set_option maxHeartbeats 0
/-! The defs in the core language (printed by gen.py prog). -/
namespace BH
open PySem
abbrev i_is_whole : Nat := 0
def n_is_whole : List Str := ["value", "low", "high"]
def c_is_whole : List CS := [(.ret (.andv (.isi (.var 0) "int") (.andv (.nt (.isi (.var 0) "bool")) (.chn .LtE .LtE (.var 1) (.var 0) (.var 2)))))]
abbrev i_is_wide : Nat := 1
def n_is_wide : List Str := ["value", "size"]
def c_is_wide : List CS := [(.ret (.andv (.isi (.var 0) "tuple") (.cmp .Eq (.bi .len [(.var 0)]) (.var 1))))]
abbrev i_is_word : Nat := 2
def n_is_word : List Str := ["value", "words"]
def c_is_word : List CS := [(.ret (.andv (.isi (.var 0) "str") (.cmp .In (.var 0) (.var 1))))]
abbrev i_is_right_world : Nat := 3
def n_is_right_world : List Str := ["value"]
def c_is_right_world : List CS := [(.ret (.andv (.call 1 [(.var 0), (.cst (.int 3))]) (.andv (.call 0 [(.sub (.var 0) (.cst (.int 0))), (.cst (.int 0)), (.cst (.int 2))]) (.andv (.isi (.sub (.var 0) (.cst (.int 1))) "bool") (.isi (.sub (.var 0) (.cst (.int 2))) "bool")))))]
abbrev i_is_right_rule : Nat := 4
def n_is_right_rule : List Str := ["value"]
def c_is_right_rule : List CS := [(.iff (.orv (.nt (.call 1 [(.var 0), (.cst (.int 6))])) (.orv (.nt (.call 0 [(.sub (.var 0) (.cst (.int 0))), (.cst (.int 1)), (.cst (.int 4))])) (.nt (.call 0 [(.sub (.var 0) (.cst (.int 1))), (.cst (.int 1)), (.cst (.int 4))])))) [(.ret (.cst (.bl false)))] []), (.iff (.orv (.nt (.call 2 [(.sub (.var 0) (.cst (.int 2))), (.tup [(.cst (.str "asked")), (.cst (.str "came"))])])) (.nt (.call 2 [(.sub (.var 0) (.cst (.int 3))), (.tup [(.cst (.str "no")), (.cst (.str "yes"))])]))) [(.ret (.cst (.bl false)))] []), (.ret (.andv (.call 2 [(.sub (.var 0) (.cst (.int 4))), (.tup [(.cst (.str "no")), (.cst (.str "number"))])]) (.call 0 [(.sub (.var 0) (.cst (.int 5))), (.cst (.int 0)), (.cst (.int 4))])))]
abbrev i_is_right_event : Nat := 5
def n_is_right_event : List Str := ["value"]
def c_is_right_event : List CS := [(.iff (.orv (.nt (.isi (.var 0) "tuple")) (.orv (.cmp .Eq (.var 0) (.tup [])) (.nt (.isi (.sub (.var 0) (.cst (.int 0))) "str")))) [(.ret (.cst (.bl false)))] []), (.iff (.cmp .In (.sub (.var 0) (.cst (.int 0))) (.tup [(.cst (.str "fall")), (.cst (.str "tick"))])) [(.ret (.cmp .Eq (.bi .len [(.var 0)]) (.cst (.int 1))))] []), (.iff (.cmp .NotIn (.sub (.var 0) (.cst (.int 0))) (.tup [(.cst (.str "arrive")), (.cst (.str "ask")), (.cst (.str "back")), (.cst (.str "lose")), (.cst (.str "renew")), (.cst (.str "use"))])) [(.ret (.cst (.bl false)))] []), (.ret (.andv (.cmp .Eq (.bi .len [(.var 0)]) (.cst (.int 2))) (.call 0 [(.sub (.var 0) (.cst (.int 1))), (.cst (.int 0)), (.cst (.int 1))])))]
abbrev i_numbers_in : Nat := 6
def n_numbers_in : List Str := ["stand", "house", "used", "one", "other", "found", "client"]
def c_numbers_in : List CS := [(.asg (.tup [(.nm 1), (.nm 2), (.nm 3), (.nm 4)]) (.var 0)), (.asg (.nm 5) (.lst [(.sub (.var 1) (.cst (.int 3))), (.var 2), (.sub (.var 3) (.cst (.int 1))), (.sub (.var 4) (.cst (.int 1)))])), (.for_ (.nm 6) (.ex (.tup [(.var 3), (.var 4)])) [(.iff (.cmp .IsNot (.sub (.var 6) (.cst (.int 2))) (.cst .non)) [(.exp (.me .append (.var 5) [(.sub (.sub (.var 6) (.cst (.int 2))) (.cst (.int 3)))]))] [])]), (.ret (.var 5))]
abbrev i_need_world : Nat := 7
def n_need_world : List Str := ["value"]
def c_need_world : List CS := [(.iff (.nt (.call 3 [(.var 0)])) [(.rai 1)] [])]
abbrev i_need_rule : Nat := 8
def n_need_rule : List Str := ["value"]
def c_need_rule : List CS := [(.iff (.nt (.call 4 [(.var 0)])) [(.rai 2)] [])]
abbrev i_with_client : Nat := 9
def n_with_client : List Str := ["stand", "client", "value"]
def c_with_client : List CS := [(.ret (.bin .Add (.slc (.var 0) (.cst .non) (.cst (.int 2))) (.ife (.cmp .Eq (.var 1) (.cst (.int 0))) (.tup [(.var 2), (.sub (.var 0) (.cst (.int 3)))]) (.tup [(.sub (.var 0) (.cst (.int 2))), (.var 2)]))))]
abbrev i_ranked : Nat := 10
def n_ranked : List Str := ["stand", "order", "house", "used", "one", "other", "found", "left", "number", "way"]
def c_ranked : List CS := [(.asg (.nm 1) (.srs (.bin .Add (.call 6 [(.var 0)]) (.lst [(.cst (.int 0))])))), (.asg (.tup [(.nm 2), (.nm 3), (.nm 4), (.nm 5)]) (.var 0)), (.asg (.nm 6) (.lst [])), (.for_ (.tup [(.nm 7), (.nm 8), (.nm 9)]) (.ex (.tup [(.var 4), (.var 5)])) [(.iff (.cmp .IsNot (.var 9) (.cst .non)) [(.asg (.nm 9) (.bin .Add (.slc (.var 9) (.cst .non) (.cst (.int 3))) (.tup [(.me .index (.var 1) [(.sub (.var 9) (.cst (.int 3)))])])))] []), (.exp (.me .append (.var 6) [(.tup [(.var 7), (.me .index (.var 1) [(.var 8)]), (.var 9)])]))]), (.ret (.tup [(.bin .Add (.slc (.var 2) (.cst .non) (.cst (.int 3))) (.tup [(.me .index (.var 1) [(.sub (.var 2) (.cst (.int 3)))])])), (.me .index (.var 1) [(.var 3)]), (.sub (.var 6) (.cst (.int 0))), (.sub (.var 6) (.cst (.int 1)))]))]
abbrev i_events_at : Nat := 11
def n_events_at : List Str := ["world", "stand", "found", "late", "client", "left", "number", "way", "words", "word"]
def c_events_at : List CS := [(.asg (.nm 2) (.ife (.sub (.var 0) (.cst (.int 2))) (.lst [(.tup [(.cst (.str "fall"))])]) (.lst []))), (.asg (.nm 3) (.cst (.bl false))), (.for_ (.nm 4) (.ex (.gcst "CLIENTS" (.tup [.int 0, .int 1]))) [(.asg (.tup [(.nm 5), (.nm 6), (.nm 7)]) (.sub (.var 1) (.bin .Add (.cst (.int 2)) (.var 4)))), (.asg (.nm 8) (.ife (.cmp .Gt (.var 5) (.cst (.int 0))) (.lst [(.cst (.str "use"))]) (.lst []))), (.iff (.cmp .Is (.var 7) (.cst .non)) [(.asg (.nm 8) (.bin .Add (.var 8) (.ife (.cmp .Gt (.var 5) (.cst (.int 0))) (.lst [(.cst (.str "renew")), (.cst (.str "back"))]) (.lst [(.cst (.str "ask"))]))))] [(.asg (.nm 3) (.orv (.var 3) (.cmp .Eq (.sub (.var 7) (.cst (.int 1))) (.sub (.var 0) (.cst (.int 0)))))), (.asg (.nm 8) (.bin .Add (.var 8) (.ife (.sub (.var 0) (.cst (.int 1))) (.lst [(.cst (.str "arrive")), (.cst (.str "lose"))]) (.lst [(.cst (.str "arrive"))]))))]), (.asg (.nm 2) (.bin .Add (.var 2) (.lc (.tup [(.var 9), (.var 4)]) (.nm 9) (.ex (.var 8)) [] [9])))]), (.ret (.srt (.ife (.var 3) (.var 2) (.bin .Add (.var 2) (.lst [(.tup [(.cst (.str "tick"))])])))))]
abbrev i_asked_for : Nat := 12
def n_asked_for : List Str := ["rule", "stand", "client", "house", "used", "left", "number", "way", "holder", "kept", "rest", "last", "there"]
def c_asked_for : List CS := [(.par [3, 4] [(.sub (.var 1) (.cst (.int 0))), (.sub (.var 1) (.cst (.int 1)))]), (.asg (.tup [(.nm 5), (.nm 6), (.nm 7)]) (.sub (.var 1) (.bin .Add (.cst (.int 2)) (.var 2)))), (.asg (.tup [(.nm 8), (.nm 9), (.nm 10), (.nm 11)]) (.var 3)), (.iff (.andv (.cmp .Is (.var 8) (.cst .non)) (.andv (.cmp .Eq (.var 10) (.cst (.int 0))) (.orv (.cmp .Eq (.sub (.var 7) (.cst (.int 0))) (.cst (.str "ask"))) (.cmp .Eq (.sub (.var 0) (.cst (.int 3))) (.cst (.str "yes")))))) [(.asg (.nm 11) (.bin .Add (.var 11) (.cst (.int 1))))] [(.iff (.cmp .NotEq (.var 8) (.var 2)) [(.ret (.tup [(.call 9 [(.var 1), (.var 2), (.tup [(.var 5), (.var 6), (.cst .non)])]), (.cst (.str "refused"))]))] [])]), (.asg (.nm 12) (.bin .Add (.tup [(.tup [(.var 2), (.sub (.var 0) (.cst (.int 0))), (.cst (.int 0)), (.var 11)])]) (.slc (.var 1) (.cst (.int 1)) (.cst .non)))), (.ret (.tup [(.call 9 [(.var 12), (.var 2), (.tup [(.var 5), (.var 6), (.tup [(.cst (.str "yes")), (.cst (.int 0)), (.sub (.var 7) (.cst (.int 2))), (.var 11)])])]), (.cst (.str "granted"))]))]
abbrev i_arrived : Nat := 13
def n_arrived : List Str := ["rule", "stand", "client", "left", "number", "way", "there", "new"]
def c_arrived : List CS := [(.asg (.tup [(.nm 3), (.nm 4), (.nm 5)]) (.sub (.var 1) (.bin .Add (.cst (.int 2)) (.var 2)))), (.iff (.cmp .In (.sub (.var 5) (.cst (.int 0))) (.tup [(.cst (.str "ask")), (.cst (.str "renew"))])) [(.ret (.call 12 [(.var 0), (.var 1), (.var 2)]))] []), (.asg (.nm 6) (.call 9 [(.var 1), (.var 2), (.tup [(.var 3), (.var 4), (.cst .non)])])), (.iff (.cmp .Eq (.sub (.var 5) (.cst (.int 0))) (.cst (.str "back"))) [(.iff (.cmp .NotEq (.sub (.sub (.var 1) (.cst (.int 0))) (.cst (.int 0))) (.var 2)) [(.ret (.tup [(.var 6), (.cst (.str "late"))]))] []), (.ret (.tup [(.bin .Add (.tup [(.bin .Add (.tup [(.cst .non), (.cst (.int 0))]) (.slc (.sub (.var 1) (.cst (.int 0))) (.cst (.int 2)) (.cst .non)))]) (.slc (.var 6) (.cst (.int 1)) (.cst .non))), (.cst (.str "freed"))]))] []), (.asg (.nm 7) (.ife (.cmp .Eq (.sub (.var 0) (.cst (.int 2))) (.cst (.str "asked"))) (.bin .Sub (.sub (.var 0) (.cst (.int 1))) (.sub (.var 5) (.cst (.int 2)))) (.sub (.var 0) (.cst (.int 1))))), (.iff (.cmp .LtE (.var 7) (.var 3)) [(.ret (.tup [(.var 6), (.cst (.str "late"))]))] []), (.ret (.tup [(.call 9 [(.var 1), (.var 2), (.tup [(.var 7), (.sub (.var 5) (.cst (.int 3))), (.cst .non)])]), (.cst (.str "held"))]))]
abbrev i_later : Nat := 14
def n_later : List Str := ["rule", "client", "left", "number", "way", "since"]
def c_later : List CS := [(.asg (.tup [(.nm 2), (.nm 3), (.nm 4)]) (.var 1)), (.iff (.cmp .IsNot (.var 4) (.cst .non)) [(.asg (.nm 5) (.ife (.cmp .NotEq (.sub (.var 4) (.cst (.int 0))) (.cst (.str "back"))) (.bi .min [(.sub (.var 0) (.cst (.int 1))), (.bin .Add (.sub (.var 4) (.cst (.int 2))) (.cst (.int 1)))]) (.cst (.int 0)))), (.asg (.nm 4) (.tup [(.sub (.var 4) (.cst (.int 0))), (.bin .Add (.sub (.var 4) (.cst (.int 1))) (.cst (.int 1))), (.var 5), (.sub (.var 4) (.cst (.int 3)))]))] []), (.ret (.ife (.cmp .Gt (.var 2) (.cst (.int 1))) (.tup [(.bin .Sub (.var 2) (.cst (.int 1))), (.var 3), (.var 4)]) (.tup [(.cst (.int 0)), (.cst (.int 0)), (.var 4)])))]
abbrev i_ticked : Nat := 15
def n_ticked : List Str := ["rule", "stand", "holder", "kept", "rest", "last", "house"]
def c_ticked : List CS := [(.asg (.tup [(.nm 2), (.nm 3), (.nm 4), (.nm 5)]) (.sub (.var 1) (.cst (.int 0)))), (.asg (.nm 6) (.ife (.cmp .Gt (.var 3) (.cst (.int 1))) (.tup [(.var 2), (.bin .Sub (.var 3) (.cst (.int 1))), (.cst (.int 0)), (.var 5)]) (.tup [(.cst .non), (.cst (.int 0)), (.bi .max [(.cst (.int 0)), (.bin .Sub (.var 4) (.cst (.int 1)))]), (.var 5)]))), (.ret (.tup [(.var 6), (.sub (.var 1) (.cst (.int 1))), (.call 14 [(.var 0), (.sub (.var 1) (.cst (.int 2)))]), (.call 14 [(.var 0), (.sub (.var 1) (.cst (.int 3)))])]))]
abbrev i_happened : Nat := 16
def n_happened : List Str := ["rule", "stand", "event", "word", "client", "left", "number", "way"]
def c_happened : List CS := [(.asg (.nm 3) (.sub (.var 2) (.cst (.int 0)))), (.iff (.cmp .Eq (.var 3) (.cst (.str "tick"))) [(.ret (.tup [(.call 15 [(.var 0), (.var 1)]), (.cst (.str "done"))]))] []), (.iff (.cmp .Eq (.var 3) (.cst (.str "fall"))) [(.ret (.tup [(.bin .Add (.tup [(.tup [(.cst .non), (.cst (.int 0)), (.sub (.var 0) (.cst (.int 5))), (.sub (.sub (.var 1) (.cst (.int 0))) (.cst (.int 3)))])]) (.slc (.var 1) (.cst (.int 1)) (.cst .non))), (.cst (.str "done"))]))] []), (.asg (.nm 4) (.sub (.var 2) (.cst (.int 1)))), (.asg (.tup [(.nm 5), (.nm 6), (.nm 7)]) (.sub (.var 1) (.bin .Add (.cst (.int 2)) (.var 4)))), (.iff (.cmp .Eq (.var 3) (.cst (.str "arrive"))) [(.ret (.call 13 [(.var 0), (.var 1), (.var 4)]))] []), (.iff (.cmp .Eq (.var 3) (.cst (.str "use"))) [(.iff (.andv (.cmp .Eq (.sub (.var 0) (.cst (.int 4))) (.cst (.str "number"))) (.cmp .Lt (.var 6) (.sub (.var 1) (.cst (.int 1))))) [(.ret (.tup [(.var 1), (.cst (.str "barred"))]))] []), (.ret (.tup [(.bin .Add (.bin .Add (.slc (.var 1) (.cst .non) (.cst (.int 1))) (.tup [(.bi .max [(.var 6), (.sub (.var 1) (.cst (.int 1)))])])) (.slc (.var 1) (.cst (.int 2)) (.cst .non))), (.cst (.str "used"))]))] []), (.iff (.cmp .Eq (.var 3) (.cst (.str "lose"))) [(.ret (.tup [(.call 9 [(.var 1), (.var 4), (.tup [(.var 5), (.var 6), (.cst .non)])]), (.cst (.str "done"))]))] []), (.iff (.cmp .Eq (.var 3) (.cst (.str "back"))) [(.ret (.tup [(.call 9 [(.var 1), (.var 4), (.tup [(.cst (.int 0)), (.cst (.int 0)), (.tup [(.cst (.str "back")), (.cst (.int 0)), (.cst (.int 0)), (.cst (.int 0))])])]), (.cst (.str "done"))]))] []), (.ret (.tup [(.call 9 [(.var 1), (.var 4), (.tup [(.var 5), (.var 6), (.tup [(.var 3), (.cst (.int 0)), (.cst (.int 0)), (.cst (.int 0))])])]), (.cst (.str "done"))]))]
abbrev i_step : Nat := 17
def n_step : List Str := ["rule", "stand", "event", "there", "word"]
def c_step : List CS := [(.asg (.tup [(.nm 3), (.nm 4)]) (.call 16 [(.var 0), (.var 1), (.var 2)])), (.ret (.tup [(.call 10 [(.var 3)]), (.var 4)]))]
abbrev i_trace : Nat := 18
def n_trace : List Str := ["world", "rule", "events", "stand", "stands", "found", "event", "word"]
def c_trace : List CS := [(.par [3, 4, 5] [(.gcst "FIRST" (.tup [.tup [.non, .int 0, .int 0, .int 0], .int 0, .tup [.int 0, .int 0, .non], .tup [.int 0, .int 0, .non]])), (.lst []), (.lst [])]), (.for_ (.nm 6) (.ex (.var 2)) [(.iff (.orv (.nt (.call 5 [(.var 6)])) (.cmp .NotIn (.var 6) (.call 11 [(.var 0), (.var 3)]))) [(.ret (.cst .non))] []), (.asg (.tup [(.nm 3), (.nm 7)]) (.call 17 [(.var 1), (.var 3), (.var 6)])), (.asg (.nm 4) (.bin .Add (.var 4) (.lst [(.var 3)]))), (.asg (.nm 5) (.bin .Add (.var 5) (.lst [(.var 7)])))]), (.ret (.tup [(.var 4), (.var 5)]))]
abbrev i_is_right_run : Nat := 19
def n_is_right_run : List Str := ["world", "rule", "value"]
def c_is_right_run : List CS := [(.ret (.andv (.isi (.var 2) "tuple") (.andv (.cmp .LtE (.bi .len [(.var 2)]) (.gcst "MOST_EVENTS" (.int 60))) (.cmp .IsNot (.call 18 [(.var 0), (.var 1), (.var 2)]) (.cst .non)))))]
abbrev i_need_run : Nat := 20
def n_need_run : List Str := ["world", "rule", "value"]
def c_need_run : List CS := [(.iff (.nt (.call 19 [(.var 0), (.var 1), (.var 2)])) [(.rai 5)] [])]
abbrev i_is_run : Nat := 21
def n_is_run : List Str := ["world", "rule", "value"]
def c_is_run : List CS := [(.exp (.call 7 [(.var 0)])), (.exp (.call 8 [(.var 1)])), (.ret (.call 19 [(.var 0), (.var 1), (.var 2)]))]
abbrev i_stand_behind : Nat := 22
def n_stand_behind : List Str := ["world", "rule", "run"]
def c_stand_behind : List CS := [(.exp (.call 7 [(.var 0)])), (.exp (.call 8 [(.var 1)])), (.exp (.call 20 [(.var 0), (.var 1), (.var 2)])), (.ret (.sub (.bin .Add (.lst [(.gcst "FIRST" (.tup [.tup [.non, .int 0, .int 0, .int 0], .int 0, .tup [.int 0, .int 0, .non], .tup [.int 0, .int 0, .non]]))]) (.sub (.call 18 [(.var 0), (.var 1), (.var 2)]) (.cst (.int 0)))) (.bi .len [(.var 2)])))]
abbrev i_words : Nat := 23
def n_words : List Str := ["world", "rule", "run"]
def c_words : List CS := [(.exp (.call 7 [(.var 0)])), (.exp (.call 8 [(.var 1)])), (.exp (.call 20 [(.var 0), (.var 1), (.var 2)])), (.ret (.sub (.call 18 [(.var 0), (.var 1), (.var 2)]) (.cst (.int 1))))]
abbrev i__law_source : Nat := 24
def n__law_source : List Str := ["_law_script", "_law_k", "_law_number", "_law_start"]
def c__law_source : List CS := [(.asg (.nm 2) (.cst (.int 0))), (.iff (.cmp .Gt (.bi .len [(.var 0)]) (.var 1)) [(.asg (.nm 2) (.bi .int [(.sub (.var 0) (.var 1))]))] []), (.asg (.nm 3) (.bin .Mod (.bin .Add (.bin .Add (.bin .Mult (.var 2) (.cst (.int 16807))) (.bin .Mult (.cst (.int 60919)) (.var 1))) (.cst (.int 31))) (.cst (.int 2147481173)))), (.asg (.nm 3) (.bin .Add (.bin .Add (.bin .Mod (.bin .Mult (.var 3) (.var 3)) (.cst (.int 2147481151))) (.bin .Mult (.cst (.int 2)) (.var 1))) (.cst (.int 5)))), (.ret (.lst [(.ife (.cmp .GtE (.var 2) (.bin .Pow (.cst (.int 10)) (.cst (.int 18)))) (.var 2) (.cst (.int 0))), (.var 3)]))]
abbrev i__law_pick : Nat := 25
def n__law_pick : List Str := ["_law_source_here", "_law_many", "_law_found"]
def c__law_pick : List CS := [(.iff (.cmp .Gt (.sub (.var 0) (.cst (.int 0))) (.cst (.int 0))) [(.asg (.nm 2) (.bin .Mod (.bi .int [(.sub (.var 0) (.cst (.int 0)))]) (.var 1))), (.asg (.sub (.var 0) (.cst (.int 0))) (.bin .FloorDiv (.bi .int [(.sub (.var 0) (.cst (.int 0)))]) (.var 1))), (.ret (.var 2))] []), (.asg (.sub (.var 0) (.cst (.int 1))) (.bin .Mod (.bi .int [(.bin .Add (.bin .Mult (.sub (.var 0) (.cst (.int 1))) (.cst (.int 44497))) (.cst (.int 9973)))]) (.cst (.int 2147483647)))), (.ret (.bin .Mod (.bin .FloorDiv (.bin .Mod (.bi .int [(.bin .Mult (.sub (.var 0) (.cst (.int 1))) (.sub (.var 0) (.cst (.int 1))))]) (.cst (.int 2147483399))) (.cst (.int 11))) (.var 1)))]
abbrev i__law_chosen : Nat := 26
def n__law_chosen : List Str := ["_law_source_here", "_law_things"]
def c__law_chosen : List CS := [(.ret (.sub (.var 1) (.call 25 [(.var 0), (.bi .len [(.var 1)])])))]
abbrev i__law_is_bool : Nat := 27
def n__law_is_bool : List Str := ["_law_told", "_law_due"]
def c__law_is_bool : List CS := [(.ret (.andv (.isi (.var 0) "bool") (.cmp .Eq (.var 0) (.var 1))))]
abbrev i__law_place : Nat := 28
def n__law_place : List Str := ["_law_source_here", "_law_small", "_law_delay", "_law_way"]
def c__law_place : List CS := [(.asg (.nm 2) (.call 26 [(.var 0), (.ife (.var 1) (.lst [(.cst (.int 0)), (.cst (.int 0)), (.cst (.int 1))]) (.lst [(.cst (.int 0)), (.cst (.int 1)), (.cst (.int 1)), (.cst (.int 2))]))])), (.asg (.nm 3) (.call 25 [(.var 0), (.cst (.int 5))])), (.ret (.tup [(.var 2), (.cmp .In (.var 3) (.tup [(.cst (.int 1)), (.cst (.int 4))])), (.cmp .In (.var 3) (.tup [(.cst (.int 2)), (.cst (.int 4))]))]))]
abbrev i__law_terms : Nat := 29
def n__law_terms : List Str := ["_law_source_here", "_law_most", "_law_first_here", "_law_more"]
def c__law_terms : List CS := [(.asg (.nm 2) (.tup [(.bin .Add (.cst (.int 1)) (.call 25 [(.var 0), (.var 1)])), (.bin .Add (.cst (.int 1)) (.call 25 [(.var 0), (.var 1)])), (.call 26 [(.var 0), (.lst [(.cst (.str "asked")), (.cst (.str "came"))])])])), (.asg (.nm 3) (.tup [(.call 26 [(.var 0), (.lst [(.cst (.str "no")), (.cst (.str "yes"))])]), (.call 26 [(.var 0), (.lst [(.cst (.str "no")), (.cst (.str "number"))])])])), (.ret (.bin .Add (.bin .Add (.var 2) (.var 3)) (.tup [(.call 25 [(.var 0), (.bin .Add (.var 1) (.cst (.int 1)))])])))]
abbrev i__law_known : Nat := 30
def n__law_known : List Str := ["_law_spot", "_law_house", "_law_used", "_law_one", "_law_other", "_law_pair", "_law_left", "_law_number", "_law_way", "_law_road"]
def c__law_known : List CS := [(.asg (.tup [(.nm 1), (.nm 2), (.nm 3), (.nm 4)]) (.var 0)), (.asg (.nm 5) (.lst [])), (.for_ (.tup [(.nm 6), (.nm 7), (.nm 8)]) (.ex (.tup [(.var 3), (.var 4)])) [(.asg (.nm 9) (.ife (.cmp .Is (.var 8) (.cst .non)) (.cst .non) (.lst [(.sub (.var 8) (.cst (.int 0))), (.bin .Sub (.cst (.int 50)) (.sub (.var 8) (.cst (.int 1)))), (.bin .Sub (.cst (.int 50)) (.sub (.var 8) (.cst (.int 2)))), (.sub (.var 8) (.cst (.int 3)))]))), (.exp (.me .append (.var 5) [(.lst [(.bin .Add (.cst (.int 50)) (.var 6)), (.var 7), (.var 9)])]))]), (.ret (.lst [(.cst (.int 50)), (.lst [(.sub (.var 1) (.cst (.int 0))), (.bin .Add (.cst (.int 50)) (.sub (.var 1) (.cst (.int 1)))), (.bin .Add (.cst (.int 50)) (.sub (.var 1) (.cst (.int 2)))), (.sub (.var 1) (.cst (.int 3)))]), (.var 2), (.var 5)]))]
abbrev i__law_standing : Nat := 31
def n__law_standing : List Str := ["_law_terms_here", "_law_all_so", "_law_now", "_law_house", "_law_used", "_law_pair", "_law_numbers", "_law_until", "_law_number", "_law_road", "_law_order", "_law_found", "_law_way", "_law_gone", "_law_kept", "_law_first_here"]
def c__law_standing : List CS := [(.asg (.tup [(.nm 2), (.nm 3), (.nm 4), (.nm 5)]) (.var 1)), (.asg (.nm 6) (.dic [(.cst (.int 0)), (.cst (.int 0)), (.sub (.var 3) (.cst (.int 3))), (.cst (.int 0)), (.var 4), (.cst (.int 0))])), (.for_ (.tup [(.nm 7), (.nm 8), (.nm 9)]) (.ex (.var 5)) [(.asg (.sub (.var 6) (.ife (.cmp .Gt (.var 7) (.var 2)) (.var 8) (.cst (.int 0)))) (.cst (.int 0))), (.iff (.cmp .IsNot (.var 9) (.cst .non)) [(.asg (.sub (.var 6) (.sub (.var 9) (.cst (.int 3)))) (.cst (.int 0)))] [])]), (.par [10, 11] [(.srt (.bi .list [(.var 6)])), (.lst [])]), (.for_ (.tup [(.nm 7), (.nm 8), (.nm 9)]) (.ex (.var 5)) [(.asg (.nm 12) (.cst .non)), (.iff (.cmp .IsNot (.var 9) (.cst .non)) [(.asg (.nm 13) (.ife (.cmp .Eq (.sub (.var 9) (.cst (.int 0))) (.cst (.str "back"))) (.cst (.int 0)) (.bi .min [(.sub (.var 0) (.cst (.int 1))), (.bin .Sub (.var 2) (.sub (.var 9) (.cst (.int 2))))]))), (.asg (.nm 12) (.tup [(.sub (.var 9) (.cst (.int 0))), (.bin .Sub (.var 2) (.sub (.var 9) (.cst (.int 1)))), (.var 13), (.me .index (.var 10) [(.sub (.var 9) (.cst (.int 3)))])]))] []), (.exp (.me .append (.var 11) [(.ife (.cmp .Gt (.var 7) (.var 2)) (.tup [(.bin .Sub (.var 7) (.var 2)), (.me .index (.var 10) [(.var 8)]), (.var 12)]) (.tup [(.cst (.int 0)), (.cst (.int 0)), (.var 12)]))]))]), (.asg (.nm 14) (.andv (.cmp .IsNot (.sub (.var 3) (.cst (.int 0))) (.cst .non)) (.cmp .Gt (.sub (.var 3) (.cst (.int 1))) (.var 2)))), (.asg (.nm 15) (.ife (.var 14) (.tup [(.sub (.var 3) (.cst (.int 0))), (.bin .Sub (.sub (.var 3) (.cst (.int 1))) (.var 2)), (.cst (.int 0))]) (.tup [(.cst .non), (.cst (.int 0)), (.bi .max [(.cst (.int 0)), (.bin .Sub (.sub (.var 3) (.cst (.int 2))) (.var 2))])]))), (.ret (.tup [(.bin .Add (.var 15) (.tup [(.me .index (.var 10) [(.sub (.var 3) (.cst (.int 3)))])])), (.me .index (.var 10) [(.var 4)]), (.sub (.var 11) (.cst (.int 0))), (.sub (.var 11) (.cst (.int 1)))]))]
abbrev i__law_events : Nat := 32
def n__law_events : List Str := ["_law_place_here", "_law_all_so", "_law_now", "_law_pair", "_law_found", "_law_client", "_law_until", "_law_number", "_law_road", "_law_some", "_law_word", "_law_event"]
def c__law_events : List CS := [(.par [2, 3, 4] [(.sub (.var 1) (.cst (.int 0))), (.sub (.var 1) (.cst (.int 3))), (.lst [(.tup [(.cst (.str "tick"))])])]), (.for_ (.nm 5) (.ex (.tup [(.cst (.int 0)), (.cst (.int 1))])) [(.asg (.tup [(.nm 6), (.nm 7), (.nm 8)]) (.sub (.var 3) (.var 5))), (.iff (.cmp .Gt (.var 6) (.var 2)) [(.exp (.me .append (.var 4) [(.tup [(.cst (.str "use")), (.var 5)])]))] []), (.iff (.cmp .Is (.var 8) (.cst .non)) [(.asg (.nm 9) (.ife (.cmp .Gt (.var 6) (.var 2)) (.lst [(.cst (.str "renew")), (.cst (.str "back"))]) (.lst [(.cst (.str "ask"))]))), (.asg (.nm 4) (.bin .Add (.var 4) (.lc (.tup [(.var 10), (.var 5)]) (.nm 10) (.ex (.var 9)) [] [10])))] [(.asg (.nm 4) (.bin .Add (.bin .Add (.var 4) (.lst [(.tup [(.cst (.str "arrive")), (.var 5)])])) (.bin .Mult (.lst [(.tup [(.cst (.str "lose")), (.var 5)])]) (.bi .int [(.sub (.var 0) (.cst (.int 1)))])))), (.iff (.cmp .GtE (.bin .Sub (.var 2) (.sub (.var 8) (.cst (.int 1)))) (.sub (.var 0) (.cst (.int 0)))) [(.asg (.nm 4) (.lc (.var 11) (.nm 11) (.ex (.var 4)) [(.cmp .NotEq (.var 11) (.tup [(.cst (.str "tick"))]))] [11]))] [])])]), (.ret (.srt (.bin .Add (.var 4) (.bin .Mult (.lst [(.tup [(.cst (.str "fall"))])]) (.bi .int [(.sub (.var 0) (.cst (.int 2)))])))))]
abbrev i__law_come : Nat := 33
def n__law_come : List Str := ["_law_terms_here", "_law_all_so", "_law_client", "_law_now", "_law_house", "_law_used", "_law_pair", "_law_until", "_law_number", "_law_road", "_law_holder", "_law_there", "_law_free"]
def c__law_come : List CS := [(.asg (.tup [(.nm 3), (.nm 4), (.nm 5), (.nm 6)]) (.var 1)), (.asg (.tup [(.nm 7), (.nm 8), (.nm 9)]) (.sub (.var 6) (.var 2))), (.asg (.sub (.sub (.var 6) (.var 2)) (.cst (.int 2))) (.cst .non)), (.asg (.nm 10) (.ife (.cmp .Gt (.sub (.var 4) (.cst (.int 1))) (.var 3)) (.sub (.var 4) (.cst (.int 0))) (.cst .non))), (.iff (.cmp .Eq (.sub (.var 9) (.cst (.int 0))) (.cst (.str "back"))) [(.iff (.cmp .Eq (.var 10) (.var 2)) [(.asg (.tup [(.sub (.var 4) (.cst (.int 0))), (.sub (.var 4) (.cst (.int 1))), (.sub (.var 4) (.cst (.int 2)))]) (.tup [(.cst .non), (.var 3), (.var 3)]))] []), (.ret (.ife (.cmp .Eq (.var 10) (.var 2)) (.cst (.str "freed")) (.cst (.str "late"))))] []), (.iff (.cmp .Eq (.sub (.var 9) (.cst (.int 0))) (.cst (.str "yes"))) [(.asg (.nm 11) (.bin .Add (.ife (.cmp .Eq (.sub (.var 0) (.cst (.int 2))) (.cst (.str "asked"))) (.sub (.var 9) (.cst (.int 2))) (.var 3)) (.sub (.var 0) (.cst (.int 1))))), (.iff (.cmp .LtE (.var 11) (.bi .max [(.var 7), (.var 3)])) [(.ret (.cst (.str "late")))] []), (.asg (.tup [(.sub (.sub (.var 6) (.var 2)) (.cst (.int 0))), (.sub (.sub (.var 6) (.var 2)) (.cst (.int 1)))]) (.tup [(.var 11), (.sub (.var 9) (.cst (.int 3)))])), (.ret (.cst (.str "held")))] []), (.asg (.nm 12) (.andv (.cmp .Is (.var 10) (.cst .non)) (.andv (.cmp .LtE (.sub (.var 4) (.cst (.int 2))) (.var 3)) (.orv (.cmp .Eq (.sub (.var 9) (.cst (.int 0))) (.cst (.str "ask"))) (.cmp .Eq (.sub (.var 0) (.cst (.int 3))) (.cst (.str "yes"))))))), (.iff (.andv (.cmp .NotEq (.var 10) (.var 2)) (.nt (.var 12))) [(.ret (.cst (.str "refused")))] []), (.asg (.sub (.var 4) (.cst (.int 3))) (.bin .Add (.sub (.var 4) (.cst (.int 3))) (.bi .int [(.var 12)]))), (.asg (.tup [(.sub (.var 4) (.cst (.int 0))), (.sub (.var 4) (.cst (.int 1))), (.sub (.var 4) (.cst (.int 2)))]) (.tup [(.var 2), (.bin .Add (.var 3) (.sub (.var 0) (.cst (.int 0)))), (.var 3)])), (.asg (.sub (.sub (.var 6) (.var 2)) (.cst (.int 2))) (.lst [(.cst (.str "yes")), (.var 3), (.sub (.var 9) (.cst (.int 2))), (.sub (.var 4) (.cst (.int 3)))])), (.ret (.cst (.str "granted")))]
abbrev i__law_happen : Nat := 34
def n__law_happen : List Str := ["_law_terms_here", "_law_old", "_law_event", "_law_found", "_law_one", "_law_now", "_law_word", "_law_number"]
def c__law_happen : List CS := [(.asg (.nm 3) (.lst [(.sub (.var 1) (.cst (.int 0))), (.bi .list [(.sub (.var 1) (.cst (.int 1)))]), (.sub (.var 1) (.cst (.int 2))), (.lc (.bi .list [(.var 4)]) (.nm 4) (.ex (.sub (.var 1) (.cst (.int 3)))) [] [4])])), (.par [5, 6] [(.sub (.var 3) (.cst (.int 0))), (.sub (.var 2) (.cst (.int 0)))]), (.iff (.cmp .Eq (.var 6) (.cst (.str "tick"))) [(.asg (.sub (.var 3) (.cst (.int 0))) (.bin .Add (.var 5) (.cst (.int 1))))] [(.iff (.cmp .Eq (.var 6) (.cst (.str "fall"))) [(.asg (.sub (.var 3) (.cst (.int 1))) (.lst [(.cst .non), (.var 5), (.bin .Add (.var 5) (.sub (.var 0) (.cst (.int 5)))), (.sub (.sub (.var 1) (.cst (.int 1))) (.cst (.int 3)))]))] [(.iff (.cmp .Eq (.var 6) (.cst (.str "arrive"))) [(.ret (.tup [(.var 3), (.call 33 [(.var 0), (.var 3), (.sub (.var 2) (.cst (.int 1)))])]))] [(.iff (.cmp .Eq (.var 6) (.cst (.str "use"))) [(.asg (.nm 7) (.sub (.sub (.sub (.var 3) (.cst (.int 3))) (.sub (.var 2) (.cst (.int 1)))) (.cst (.int 1)))), (.iff (.andv (.cmp .Eq (.sub (.var 0) (.cst (.int 4))) (.cst (.str "number"))) (.cmp .Lt (.var 7) (.sub (.var 3) (.cst (.int 2))))) [(.ret (.tup [(.var 3), (.cst (.str "barred"))]))] []), (.asg (.sub (.var 3) (.cst (.int 2))) (.bi .max [(.var 7), (.sub (.var 3) (.cst (.int 2)))])), (.ret (.tup [(.var 3), (.cst (.str "used"))]))] [(.iff (.cmp .Eq (.var 6) (.cst (.str "lose"))) [(.asg (.sub (.sub (.sub (.var 3) (.cst (.int 3))) (.sub (.var 2) (.cst (.int 1)))) (.cst (.int 2))) (.cst .non))] [(.asg (.sub (.sub (.sub (.var 3) (.cst (.int 3))) (.sub (.var 2) (.cst (.int 1)))) (.cst (.int 2))) (.lst [(.var 6), (.var 5), (.var 5), (.cst (.int 0))])), (.iff (.cmp .Eq (.var 6) (.cst (.str "back"))) [(.asg (.sub (.sub (.sub (.var 3) (.cst (.int 3))) (.sub (.var 2) (.cst (.int 1)))) (.cst (.int 0))) (.var 5))] [])])])])])]), (.ret (.tup [(.var 3), (.cst (.str "done"))]))]
abbrev i__law_next : Nat := 35
def n__law_next : List Str := ["_law_terms_here", "_law_spot", "_law_event", "_law_found", "_law_word"]
def c__law_next : List CS := [(.asg (.tup [(.nm 3), (.nm 4)]) (.call 34 [(.var 0), (.call 30 [(.var 1)]), (.var 2)])), (.ret (.tup [(.call 31 [(.var 0), (.var 3)]), (.var 4)]))]
abbrev i__law_at : Nat := 36
def n__law_at : List Str := ["_law_place_here", "_law_spot"]
def c__law_at : List CS := [(.ret (.call 32 [(.var 0), (.call 30 [(.var 1)])]))]
abbrev i__law_first : Nat := 37
def n__law_first : List Str := []
def c__law_first : List CS := [(.ret (.tup [(.tup [(.cst .non), (.cst (.int 0)), (.cst (.int 0)), (.cst (.int 0))]), (.cst (.int 0)), (.tup [(.cst (.int 0)), (.cst (.int 0)), (.cst .non)]), (.tup [(.cst (.int 0)), (.cst (.int 0)), (.cst .non)])]))]
abbrev i__law_outcome : Nat := 38
def n__law_outcome : List Str := ["_law_call", "_law_place_here", "_law_terms_here", "_law_events_here"]
def c__law_outcome : List CS := [(.tri [(.iff (.cmp .Eq (.var 0) (.cst (.int 0))) [(.ret (.call 21 [(.var 1), (.var 2), (.var 3)]))] []), (.ret (.ife (.cmp .Eq (.var 0) (.cst (.int 1))) (.call 22 [(.var 1), (.var 2), (.var 3)]) (.call 23 [(.var 1), (.var 2), (.var 3)])))] [(1, (.cst (.str "world!"))), (2, (.cst (.str "rule!"))), (5, (.cst (.str "run!")))])]
abbrev i_law : Nat := 39
def n_law : List Str := ["_law_script", "_law_k", "_law_source_here", "_law_place_here", "_law_terms_here", "_law_spot", "_law_row", "_law_told", "_law_turn", "_law_event", "_law_word", "_law_again", "_law_found", "_law_events_here", "_law_odds", "_law_odd"]
def c_law : List CS := [(.for_ (.nm 1) (.rng (.cst (.int 0)) (.bi .max [(.cst (.int 6)), (.bi .min [(.cst (.int 20)), (.bi .len [(.var 0)])])])) [(.asg (.nm 2) (.call 24 [(.var 0), (.var 1)])), (.par [3, 4] [(.call 28 [(.var 2), (.cst (.bl false))]), (.call 29 [(.var 2), (.cst (.int 4))])]), (.par [5, 6, 7] [(.cal0 37), (.tup []), (.lst [])]), (.for_ (.nm 8) (.rng (.cst (.int 0)) (.call 26 [(.var 2), (.lst [(.cst (.int 3)), (.cst (.int 12)), (.cst (.int 30)), (.cst (.int 60))])])) [(.asg (.nm 9) (.call 26 [(.var 2), (.call 36 [(.var 3), (.var 5)])])), (.asg (.tup [(.nm 5), (.nm 10)]) (.call 35 [(.var 4), (.var 5), (.var 9)])), (.par [6, 7] [(.bin .Add (.var 6) (.tup [(.var 9)])), (.bin .Add (.var 7) (.lst [(.var 10)]))])]), (.iff (.nt (.call 27 [(.call 38 [(.cst (.int 0)), (.var 3), (.var 4), (.var 6)]), (.cst (.bl true))])) [(.ret (.cst (.bl false)))] []), (.iff (.cmp .NotEq (.call 38 [(.cst (.int 1)), (.var 3), (.var 4), (.var 6)]) (.var 5)) [(.ret (.cst (.bl false)))] []), (.for_ (.nm 11) (.rng (.cst (.int 0)) (.cst (.int 2))) [(.asg (.nm 12) (.call 38 [(.cst (.int 2)), (.var 3), (.var 4), (.var 6)])), (.iff (.orv (.nt (.isi (.var 12) "list")) (.cmp .NotEq (.var 12) (.var 7))) [(.ret (.cst (.bl false)))] []), (.exp (.me .append (.var 12) [(.cst (.str "odd"))]))]), (.asg (.nm 13) (.call 36 [(.var 3), (.var 5)])), (.asg (.nm 14) (.lst [(.cst .non), (.bi .list [(.var 6)]), (.bin .Add (.var 6) (.tup [(.cst .non)])), (.bin .Add (.var 6) (.tup [(.tup [(.cst (.str "ask")), (.cst (.int 2))])])), (.bin .Add (.var 6) (.tup [(.lst [(.cst (.str "tick"))])])), (.cst (.str "tick")), (.bin .Add (.tup [(.tup [(.cst (.str "tick")), (.cst (.int 0))])]) (.var 6))])), (.for_ (.nm 9) (.ex (.lst [(.tup [(.cst (.str "ask")), (.cst (.int 0))]), (.tup [(.cst (.str "renew")), (.cst (.int 1))]), (.tup [(.cst (.str "use")), (.cst (.int 0))]), (.tup [(.cst (.str "arrive")), (.cst (.int 1))]), (.tup [(.cst (.str "lose")), (.cst (.int 0))]), (.tup [(.cst (.str "fall"))]), (.tup [(.cst (.str "tick"))])])) [(.iff (.orv (.cmp .NotIn (.var 9) (.var 13)) (.cmp .Eq (.bi .len [(.var 6)]) (.cst (.int 60)))) [(.exp (.me .append (.var 14) [(.bin .Add (.var 6) (.tup [(.var 9)]))]))] [])]), (.for_ (.nm 15) (.ex (.var 14)) [(.iff (.nt (.call 27 [(.call 38 [(.cst (.int 0)), (.var 3), (.var 4), (.var 15)]), (.cst (.bl false))])) [(.ret (.cst (.bl false)))] []), (.iff (.orv (.cmp .NotEq (.call 38 [(.cst (.int 1)), (.var 3), (.var 4), (.var 15)]) (.cst (.str "run!"))) (.cmp .NotEq (.call 38 [(.cst (.int 2)), (.var 3), (.var 4), (.var 15)]) (.cst (.str "run!")))) [(.ret (.cst (.bl false)))] [])]), (.iff (.orv (.cmp .NotEq (.call 38 [(.cst (.int 0)), (.slc (.var 3) (.cst .non) (.cst (.int 2))), (.cst (.int 0)), (.cst (.int 0))]) (.cst (.str "world!"))) (.cmp .NotEq (.call 38 [(.cst (.int 1)), (.var 3), (.slc (.var 4) (.cst .non) (.cst (.int 5))), (.cst (.int 0))]) (.cst (.str "rule!")))) [(.ret (.cst (.bl false)))] [])]), (.asg (.nm 6) (.tup [(.tup [(.cst (.str "ask")), (.cst (.int 0))]), (.tup [(.cst (.str "ask")), (.cst (.int 1))]), (.tup [(.cst (.str "arrive")), (.cst (.int 1))]), (.tup [(.cst (.str "arrive")), (.cst (.int 0))]), (.tup [(.cst (.str "arrive")), (.cst (.int 1))]), (.tup [(.cst (.str "back")), (.cst (.int 1))]), (.tup [(.cst (.str "arrive")), (.cst (.int 1))])])), (.asg (.nm 7) (.lst [(.cst (.str "done")), (.cst (.str "done")), (.cst (.str "granted")), (.cst (.str "refused")), (.cst (.str "held")), (.cst (.str "done")), (.cst (.str "freed"))])), (.ret (.cmp .Eq (.call 23 [(.tup [(.cst (.int 0)), (.cst (.bl false)), (.cst (.bl false))]), (.tup [(.cst (.int 1)), (.cst (.int 1)), (.cst (.str "came")), (.cst (.str "no")), (.cst (.str "no")), (.cst (.int 0))]), (.var 6)]) (.var 7)))]
abbrev i_is_way : Nat := 40
def n_is_way : List Str := ["world", "rule", "value", "kind", "age", "since", "number"]
def c_is_way : List CS := [(.iff (.cmp .Is (.var 2) (.cst .non)) [(.ret (.cst (.bl true)))] []), (.iff (.orv (.nt (.call 1 [(.var 2), (.cst (.int 4))])) (.nt (.call 2 [(.sub (.var 2) (.cst (.int 0))), (.tup [(.cst (.str "ask")), (.cst (.str "renew")), (.cst (.str "back")), (.cst (.str "yes"))])]))) [(.ret (.cst (.bl false)))] []), (.asg (.tup [(.nm 3), (.nm 4), (.nm 5), (.nm 6)]) (.var 2)), (.iff (.orv (.nt (.call 0 [(.var 4), (.cst (.int 0)), (.sub (.var 0) (.cst (.int 0)))])) (.nt (.call 0 [(.var 6), (.cst (.int 0)), (.cst (.int 9))]))) [(.ret (.cst (.bl false)))] []), (.iff (.ife (.cmp .Eq (.var 3) (.cst (.str "back"))) (.nt (.call 0 [(.var 5), (.cst (.int 0)), (.cst (.int 0))])) (.nt (.call 0 [(.var 5), (.bi .min [(.var 4), (.sub (.var 1) (.cst (.int 1)))]), (.sub (.var 1) (.cst (.int 1)))]))) [(.ret (.cst (.bl false)))] []), (.ret (.cmp .Eq (.cmp .Gt (.var 6) (.cst (.int 0))) (.cmp .Eq (.var 3) (.cst (.str "yes")))))]
abbrev i_is_client : Nat := 41
def n_is_client : List Str := ["world", "rule", "value"]
def c_is_client : List CS := [(.iff (.orv (.nt (.call 1 [(.var 2), (.cst (.int 3))])) (.orv (.nt (.call 0 [(.sub (.var 2) (.cst (.int 0))), (.cst (.int 0)), (.sub (.var 1) (.cst (.int 1)))])) (.nt (.call 0 [(.sub (.var 2) (.cst (.int 1))), (.cst (.int 0)), (.cst (.int 9))])))) [(.ret (.cst (.bl false)))] []), (.ret (.andv (.cmp .Eq (.cmp .Gt (.sub (.var 2) (.cst (.int 0))) (.cst (.int 0))) (.cmp .Gt (.sub (.var 2) (.cst (.int 1))) (.cst (.int 0)))) (.call 40 [(.var 0), (.var 1), (.sub (.var 2) (.cst (.int 2)))])))]
abbrev i_is_house : Nat := 42
def n_is_house : List Str := ["rule", "value", "holder", "left", "rest", "number"]
def c_is_house : List CS := [(.iff (.orv (.nt (.call 1 [(.var 1), (.cst (.int 4))])) (.nt (.call 0 [(.sub (.var 1) (.cst (.int 3))), (.cst (.int 0)), (.cst (.int 9))]))) [(.ret (.cst (.bl false)))] []), (.asg (.tup [(.nm 2), (.nm 3), (.nm 4), (.nm 5)]) (.var 1)), (.iff (.cmp .Is (.var 2) (.cst .non)) [(.ret (.andv (.call 0 [(.var 3), (.cst (.int 0)), (.cst (.int 0))]) (.call 0 [(.var 4), (.cst (.int 0)), (.sub (.var 0) (.cst (.int 5)))])))] []), (.ret (.andv (.call 0 [(.var 2), (.cst (.int 0)), (.cst (.int 1))]) (.andv (.call 0 [(.var 3), (.cst (.int 1)), (.sub (.var 0) (.cst (.int 0)))]) (.andv (.call 0 [(.var 4), (.cst (.int 0)), (.cst (.int 0))]) (.cmp .Gt (.var 5) (.cst (.int 0)))))))]
abbrev i_is_right_stand : Nat := 43
def n_is_right_stand : List Str := ["world", "rule", "value", "known", "number"]
def c_is_right_stand : List CS := [(.iff (.orv (.nt (.call 1 [(.var 2), (.cst (.int 4))])) (.orv (.nt (.call 42 [(.var 1), (.sub (.var 2) (.cst (.int 0)))])) (.nt (.call 0 [(.sub (.var 2) (.cst (.int 1))), (.cst (.int 0)), (.cst (.int 9))])))) [(.ret (.cst (.bl false)))] []), (.iff (.orv (.nt (.call 41 [(.var 0), (.var 1), (.sub (.var 2) (.cst (.int 2)))])) (.nt (.call 41 [(.var 0), (.var 1), (.sub (.var 2) (.cst (.int 3)))]))) [(.ret (.cst (.bl false)))] []), (.asg (.nm 3) (.srs (.lc (.var 4) (.nm 4) (.ex (.call 6 [(.var 2)])) [(.cmp .Gt (.var 4) (.cst (.int 0)))] [4]))), (.ret (.andv (.cmp .Eq (.var 3) (.lrg (.cst (.int 1)) (.bin .Add (.bi .len [(.var 3)]) (.cst (.int 1))))) (.cmp .Eq (.sub (.sub (.var 2) (.cst (.int 0))) (.cst (.int 3))) (.bi .len [(.var 3)]))))]
abbrev i_need_stand : Nat := 44
def n_need_stand : List Str := ["world", "rule", "value"]
def c_need_stand : List CS := [(.iff (.nt (.call 43 [(.var 0), (.var 1), (.var 2)])) [(.rai 3)] [])]
abbrev i_first_stand : Nat := 45
def n_first_stand : List Str := []
def c_first_stand : List CS := [(.ret (.gcst "FIRST" (.tup [.tup [.non, .int 0, .int 0, .int 0], .int 0, .tup [.int 0, .int 0, .non], .tup [.int 0, .int 0, .non]])))]
abbrev i_possible : Nat := 46
def n_possible : List Str := ["world", "rule", "stand"]
def c_possible : List CS := [(.exp (.call 7 [(.var 0)])), (.exp (.call 8 [(.var 1)])), (.exp (.call 44 [(.var 0), (.var 1), (.var 2)])), (.ret (.call 11 [(.var 0), (.var 2)]))]
abbrev i_after : Nat := 47
def n_after : List Str := ["world", "rule", "stand", "event"]
def c_after : List CS := [(.exp (.call 7 [(.var 0)])), (.exp (.call 8 [(.var 1)])), (.exp (.call 44 [(.var 0), (.var 1), (.var 2)])), (.iff (.orv (.nt (.call 5 [(.var 3)])) (.cmp .NotIn (.var 3) (.call 11 [(.var 0), (.var 2)]))) [(.rai 4)] []), (.ret (.call 17 [(.var 1), (.var 2), (.var 3)]))]
abbrev i__law_outcome_k11 : Nat := 48
def n__law_outcome_k11 : List Str := ["_law_call", "_law_place_here", "_law_terms_here", "_law_spot", "_law_event"]
def c__law_outcome_k11 : List CS := [(.tri [(.ret (.ife (.cmp .Eq (.var 0) (.cst (.int 0))) (.call 46 [(.var 1), (.var 2), (.var 3)]) (.call 47 [(.var 1), (.var 2), (.var 3), (.var 4)])))] [(1, (.cst (.str "world!"))), (2, (.cst (.str "rule!"))), (3, (.cst (.str "stand!"))), (4, (.cst (.str "event!")))])]
abbrev i_law_k11 : Nat := 49
def n_law_k11 : List Str := ["_law_script", "_law_every", "_law_word", "_law_k", "_law_source_here", "_law_place_here", "_law_terms_here", "_law_spot", "_law_turn", "_law_events_here", "_law_again", "_law_found", "_law_event", "_law_due", "_law_some", "_law_odd"]
def c_law_k11 : List CS := [(.asg (.nm 1) (.lst [(.tup [(.cst (.str "fall"))]), (.tup [(.cst (.str "tick"))])])), (.for_ (.nm 2) (.ex (.tup [(.cst (.str "ask")), (.cst (.str "renew")), (.cst (.str "back")), (.cst (.str "use")), (.cst (.str "arrive")), (.cst (.str "lose"))])) [(.asg (.nm 1) (.bin .Add (.var 1) (.lst [(.tup [(.var 2), (.cst (.int 0))]), (.tup [(.var 2), (.cst (.int 1))])])))]), (.for_ (.nm 3) (.rng (.cst (.int 0)) (.bi .max [(.cst (.int 6)), (.bi .min [(.cst (.int 24)), (.bi .len [(.var 0)])])])) [(.asg (.nm 4) (.call 24 [(.var 0), (.var 3)])), (.par [5, 6, 7] [(.call 28 [(.var 4), (.cst (.bl false))]), (.call 29 [(.var 4), (.cst (.int 4))]), (.cal0 37)]), (.iff (.cmp .NotEq (.cal0 45) (.var 7)) [(.ret (.cst (.bl false)))] []), (.for_ (.nm 8) (.rng (.cst (.int 0)) (.cst (.int 14))) [(.asg (.nm 9) (.call 36 [(.var 5), (.var 7)])), (.for_ (.nm 10) (.rng (.cst (.int 0)) (.cst (.int 2))) [(.asg (.nm 11) (.call 48 [(.cst (.int 0)), (.var 5), (.var 6), (.var 7), (.cst .non)])), (.iff (.orv (.nt (.isi (.var 11) "list")) (.cmp .NotEq (.var 11) (.var 9))) [(.ret (.cst (.bl false)))] []), (.exp (.me .append (.var 11) [(.cst (.str "odd"))]))]), (.for_ (.nm 12) (.ex (.var 1)) [(.asg (.nm 13) (.ife (.cmp .In (.var 12) (.var 9)) (.call 35 [(.var 6), (.var 7), (.var 12)]) (.cst (.str "event!")))), (.iff (.cmp .NotEq (.call 48 [(.cst (.int 1)), (.var 5), (.var 6), (.var 7), (.var 12)]) (.var 13)) [(.ret (.cst (.bl false)))] [])]), (.asg (.nm 14) (.lc (.var 12) (.nm 12) (.ex (.var 9)) [(.cmp .NotIn (.sub (.var 12) (.cst (.int 0))) (.tup [(.cst (.str "fall")), (.cst (.str "lose"))]))] [12])), (.asg (.nm 7) (.sub (.call 35 [(.var 6), (.var 7), (.call 26 [(.var 4), (.bin .Add (.var 14) (.var 9))])]) (.cst (.int 0))))]), (.for_ (.nm 15) (.ex (.lst [(.cst .non), (.tup [(.cst (.str "tick")), (.cst (.int 0))]), (.lst [(.cst (.str "tick"))]), (.cst (.str "tick")), (.tup [(.cst (.str "ask")), (.cst (.bl true))]), (.tup [(.cst (.str "ask"))]), (.tup [(.tup [(.cst (.str "tick"))])])])) [(.iff (.cmp .NotEq (.call 48 [(.cst (.int 1)), (.var 5), (.var 6), (.var 7), (.var 15)]) (.cst (.str "event!"))) [(.ret (.cst (.bl false)))] [])]), (.for_ (.nm 15) (.ex (.lst [(.cst .non), (.bi .list [(.var 7)]), (.slc (.var 7) (.cst .non) (.cst (.int 3))), (.bin .Add (.tup [(.sub (.var 7) (.cst (.int 0))), (.cst (.int 9))]) (.slc (.var 7) (.cst (.int 2)) (.cst .non))), (.bin .Add (.tup [(.tup [(.cst (.int 2)), (.cst (.int 1)), (.cst (.int 0)), (.cst (.int 1))])]) (.slc (.var 7) (.cst (.int 1)) (.cst .non)))])) [(.iff (.cmp .NotEq (.call 48 [(.cst (.int 0)), (.var 5), (.var 6), (.var 15), (.cst .non)]) (.cst (.str "stand!"))) [(.ret (.cst (.bl false)))] []), (.iff (.cmp .NotEq (.call 48 [(.cst (.int 1)), (.var 5), (.var 6), (.var 15), (.cst (.int 0))]) (.cst (.str "stand!"))) [(.ret (.cst (.bl false)))] [])]), (.iff (.orv (.cmp .NotEq (.call 48 [(.cst (.int 0)), (.slc (.var 5) (.cst .non) (.cst (.int 2))), (.cst (.int 0)), (.cst (.int 0)), (.cst (.int 0))]) (.cst (.str "world!"))) (.cmp .NotEq (.call 48 [(.cst (.int 1)), (.var 5), (.slc (.var 6) (.cst .non) (.cst (.int 5))), (.cst (.int 0)), (.cst (.int 0))]) (.cst (.str "rule!")))) [(.ret (.cst (.bl false)))] [])]), (.asg (.nm 7) (.tup [(.tup [(.cst (.int 0)), (.cst (.int 1)), (.cst (.int 0)), (.cst (.int 2))]), (.cst (.int 0)), (.tup [(.cst (.int 1)), (.cst (.int 1)), (.tup [(.cst (.str "yes")), (.cst (.int 0)), (.cst (.int 0)), (.cst (.int 2))])]), (.tup [(.cst (.int 0)), (.cst (.int 0)), (.cst .non)])])), (.ret (.cmp .Eq (.sub (.sub (.call 47 [(.tup [(.cst (.int 1)), (.cst (.bl false)), (.cst (.bl false))]), (.tup [(.cst (.int 2)), (.cst (.int 2)), (.cst (.str "asked")), (.cst (.str "no")), (.cst (.str "no")), (.cst (.int 0))]), (.var 7), (.tup [(.cst (.str "arrive")), (.cst (.int 0))])]) (.cst (.int 0))) (.cst (.int 2))) (.tup [(.cst (.int 2)), (.cst (.int 1)), (.cst .non)])))]
abbrev i_is_world : Nat := 50
def n_is_world : List Str := ["value"]
def c_is_world : List CS := [(.ret (.call 3 [(.var 0)]))]
abbrev i_is_rule : Nat := 51
def n_is_rule : List Str := ["value"]
def c_is_rule : List CS := [(.ret (.call 4 [(.var 0)]))]
abbrev i_is_event : Nat := 52
def n_is_event : List Str := ["value"]
def c_is_event : List CS := [(.ret (.call 5 [(.var 0)]))]
abbrev i_is_stand : Nat := 53
def n_is_stand : List Str := ["world", "rule", "value"]
def c_is_stand : List CS := [(.exp (.call 7 [(.var 0)])), (.exp (.call 8 [(.var 1)])), (.ret (.call 43 [(.var 0), (.var 1), (.var 2)]))]
abbrev i__law_wide : Nat := 54
def n__law_wide : List Str := ["_law_value", "_law_low", "_law_high"]
def c__law_wide : List CS := [(.ret (.andv (.isi (.var 0) "tuple") (.chn .LtE .LtE (.var 1) (.bi .len [(.var 0)]) (.var 2))))]
abbrev i__law_any_value_v : Nat := 55
abbrev i__law_any_value_0 : Nat := 56
def n__law_any_value_0 : List Str := ["_law_source_here", "_law_deep", "_law_plain", "_law_way", "_law_parts", "_law_turn"]
def c__law_any_value_0 : List CS := [(.asg (.nm 2) (.lst [(.cst .non), (.cst (.bl true)), (.cst (.bl false)), (.cst (.int 0)), (.cst (.int 1)), (.cst (.int 2)), (.cst (.int 5)), (.neg (.cst (.int 2))), (.bin .Pow (.cst (.int 10)) (.cst (.int 12))), (.cst (.str "")), (.cst (.str "a")), (.cst (.str "ask")), (.cst (.str "tick")), (.cst (.str "no")), (.cst (.str "alone")), (.cst (.str "z z")), (.tup []), (.lst []), (.tup [(.cst (.int 1))])])), (.asg (.nm 3) (.call 25 [(.var 0), (.cst (.int 8))])), (.iff (.orv (.cmp .Lt (.var 1) (.cst (.int 1))) (.cmp .Lt (.var 3) (.cst (.int 5)))) [(.ret (.call 26 [(.var 0), (.var 2)]))] []), (.asg (.nm 4) (.lc (.call 55 [(.var 0), (.bin .Sub (.var 1) (.cst (.int 1)))]) (.nm 5) (.rng (.cst (.int 0)) (.call 25 [(.var 0), (.cst (.int 5))])) [] [5])), (.ret (.ife (.cmp .Eq (.var 3) (.cst (.int 5))) (.var 4) (.bi .tuple [(.var 4)])))]
abbrev i__law_any_value_1 : Nat := 57
def n__law_any_value_1 : List Str := ["_law_source_here", "_law_deep", "_law_plain", "_law_way", "_law_parts", "_law_turn"]
def c__law_any_value_1 : List CS := [(.asg (.nm 2) (.lst [(.cst .non), (.cst (.bl true)), (.cst (.bl false)), (.cst (.int 0)), (.cst (.int 1)), (.cst (.int 2)), (.cst (.int 5)), (.neg (.cst (.int 2))), (.bin .Pow (.cst (.int 10)) (.cst (.int 12))), (.cst (.str "")), (.cst (.str "a")), (.cst (.str "ask")), (.cst (.str "tick")), (.cst (.str "no")), (.cst (.str "alone")), (.cst (.str "z z")), (.tup []), (.lst []), (.tup [(.cst (.int 1))])])), (.asg (.nm 3) (.call 25 [(.var 0), (.cst (.int 8))])), (.iff (.orv (.cmp .Lt (.var 1) (.cst (.int 1))) (.cmp .Lt (.var 3) (.cst (.int 5)))) [(.ret (.call 26 [(.var 0), (.var 2)]))] []), (.asg (.nm 4) (.lc (.call 56 [(.var 0), (.bin .Sub (.var 1) (.cst (.int 1)))]) (.nm 5) (.rng (.cst (.int 0)) (.call 25 [(.var 0), (.cst (.int 5))])) [] [5])), (.ret (.ife (.cmp .Eq (.var 3) (.cst (.int 5))) (.var 4) (.bi .tuple [(.var 4)])))]
abbrev i__law_any_value_2 : Nat := 58
def n__law_any_value_2 : List Str := ["_law_source_here", "_law_deep", "_law_plain", "_law_way", "_law_parts", "_law_turn"]
def c__law_any_value_2 : List CS := [(.asg (.nm 2) (.lst [(.cst .non), (.cst (.bl true)), (.cst (.bl false)), (.cst (.int 0)), (.cst (.int 1)), (.cst (.int 2)), (.cst (.int 5)), (.neg (.cst (.int 2))), (.bin .Pow (.cst (.int 10)) (.cst (.int 12))), (.cst (.str "")), (.cst (.str "a")), (.cst (.str "ask")), (.cst (.str "tick")), (.cst (.str "no")), (.cst (.str "alone")), (.cst (.str "z z")), (.tup []), (.lst []), (.tup [(.cst (.int 1))])])), (.asg (.nm 3) (.call 25 [(.var 0), (.cst (.int 8))])), (.iff (.orv (.cmp .Lt (.var 1) (.cst (.int 1))) (.cmp .Lt (.var 3) (.cst (.int 5)))) [(.ret (.call 26 [(.var 0), (.var 2)]))] []), (.asg (.nm 4) (.lc (.call 57 [(.var 0), (.bin .Sub (.var 1) (.cst (.int 1)))]) (.nm 5) (.rng (.cst (.int 0)) (.call 25 [(.var 0), (.cst (.int 5))])) [] [5])), (.ret (.ife (.cmp .Eq (.var 3) (.cst (.int 5))) (.var 4) (.bi .tuple [(.var 4)])))]
abbrev i__law_any_value_3 : Nat := 59
def n__law_any_value_3 : List Str := ["_law_source_here", "_law_deep", "_law_plain", "_law_way", "_law_parts", "_law_turn"]
def c__law_any_value_3 : List CS := [(.asg (.nm 2) (.lst [(.cst .non), (.cst (.bl true)), (.cst (.bl false)), (.cst (.int 0)), (.cst (.int 1)), (.cst (.int 2)), (.cst (.int 5)), (.neg (.cst (.int 2))), (.bin .Pow (.cst (.int 10)) (.cst (.int 12))), (.cst (.str "")), (.cst (.str "a")), (.cst (.str "ask")), (.cst (.str "tick")), (.cst (.str "no")), (.cst (.str "alone")), (.cst (.str "z z")), (.tup []), (.lst []), (.tup [(.cst (.int 1))])])), (.asg (.nm 3) (.call 25 [(.var 0), (.cst (.int 8))])), (.iff (.orv (.cmp .Lt (.var 1) (.cst (.int 1))) (.cmp .Lt (.var 3) (.cst (.int 5)))) [(.ret (.call 26 [(.var 0), (.var 2)]))] []), (.asg (.nm 4) (.lc (.call 58 [(.var 0), (.bin .Sub (.var 1) (.cst (.int 1)))]) (.nm 5) (.rng (.cst (.int 0)) (.call 25 [(.var 0), (.cst (.int 5))])) [] [5])), (.ret (.ife (.cmp .Eq (.var 3) (.cst (.int 5))) (.var 4) (.bi .tuple [(.var 4)])))]
abbrev i__law_variant_v : Nat := 60
abbrev i__law_variant_0 : Nat := 61
def n__law_variant_0 : List Str := ["_law_source_here", "_law_value", "_law_deep", "_law_parts", "_law_spot", "_law_way", "_law_inner", "_law_near"]
def c__law_variant_0 : List CS := [(.asg (.nm 3) (.bi .list [(.var 1)])), (.iff (.cmp .Eq (.var 3) (.lst [])) [(.ret (.tup [(.call 59 [(.var 0), (.cst (.int 1))])]))] []), (.par [4, 5] [(.call 25 [(.var 0), (.bi .len [(.var 3)])]), (.call 25 [(.var 0), (.cst (.int 9))])]), (.asg (.nm 6) (.sub (.var 3) (.var 4))), (.iff (.andv (.isi (.var 6) "tuple") (.andv (.cmp .Gt (.var 2) (.cst (.int 0))) (.cmp .Gt (.var 5) (.cst (.int 2))))) [(.ret (.bin .Add (.bin .Add (.bi .tuple [(.slc (.var 3) (.cst .non) (.var 4))]) (.tup [(.call 60 [(.var 0), (.var 6), (.bin .Sub (.var 2) (.cst (.int 1)))])])) (.bi .tuple [(.slc (.var 3) (.bin .Add (.var 4) (.cst (.int 1))) (.cst .non))])))] []), (.iff (.cmp .Eq (.var 5) (.cst (.int 0))) [(.ret (.bi .tuple [(.bin .Add (.slc (.var 3) (.cst .non) (.var 4)) (.slc (.var 3) (.bin .Add (.var 4) (.cst (.int 1))) (.cst .non)))]))] []), (.iff (.cmp .Eq (.var 5) (.cst (.int 1))) [(.ret (.bi .tuple [(.bin .Add (.slc (.var 3) (.cst .non) (.bin .Add (.var 4) (.cst (.int 1)))) (.slc (.var 3) (.var 4) (.cst .non)))]))] []), (.iff (.cmp .Eq (.var 5) (.cst (.int 2))) [(.ret (.bi .tuple [(.bin .Add (.bin .Add (.slc (.var 3) (.cst .non) (.var 4)) (.rev (.slc (.var 3) (.var 4) (.bin .Add (.var 4) (.cst (.int 2)))))) (.slc (.var 3) (.bin .Add (.var 4) (.cst (.int 2))) (.cst .non)))]))] []), (.iff (.cmp .Eq (.var 5) (.cst (.int 3))) [(.ret (.var 3))] []), (.iff (.cmp .Lt (.var 5) (.cst (.int 6))) [(.asg (.sub (.var 3) (.var 4)) (.call 59 [(.var 0), (.cst (.int 2))]))] [(.asg (.nm 7) (.lst [(.cst .non), (.cst (.int 0)), (.cst (.int 1)), (.cst (.int 2)), (.cst (.int 3)), (.cst (.int 4)), (.cst (.int 5)), (.cst (.bl true)), (.cst (.str "ask")), (.cst (.str "renew")), (.cst (.str "back")), (.cst (.str "yes")), (.cst (.str "came")), (.cst (.str "asked")), (.cst (.str "number"))])), (.asg (.nm 7) (.bin .Add (.var 7) (.lst [(.tup [(.cst (.int 0)), (.cst (.int 0)), (.cst .non)]), (.tup [(.cst .non), (.cst (.int 0)), (.cst (.int 0)), (.cst (.int 0))]), (.tup [(.cst (.int 1)), (.cst (.int 1)), (.cst .non)]), (.tup [(.cst (.str "yes")), (.cst (.int 0)), (.cst (.int 0)), (.cst (.int 1))])]))), (.asg (.sub (.var 3) (.var 4)) (.call 26 [(.var 0), (.var 7)]))]), (.ret (.bi .tuple [(.var 3)]))]
abbrev i__law_variant_1 : Nat := 62
def n__law_variant_1 : List Str := ["_law_source_here", "_law_value", "_law_deep", "_law_parts", "_law_spot", "_law_way", "_law_inner", "_law_near"]
def c__law_variant_1 : List CS := [(.asg (.nm 3) (.bi .list [(.var 1)])), (.iff (.cmp .Eq (.var 3) (.lst [])) [(.ret (.tup [(.call 59 [(.var 0), (.cst (.int 1))])]))] []), (.par [4, 5] [(.call 25 [(.var 0), (.bi .len [(.var 3)])]), (.call 25 [(.var 0), (.cst (.int 9))])]), (.asg (.nm 6) (.sub (.var 3) (.var 4))), (.iff (.andv (.isi (.var 6) "tuple") (.andv (.cmp .Gt (.var 2) (.cst (.int 0))) (.cmp .Gt (.var 5) (.cst (.int 2))))) [(.ret (.bin .Add (.bin .Add (.bi .tuple [(.slc (.var 3) (.cst .non) (.var 4))]) (.tup [(.call 61 [(.var 0), (.var 6), (.bin .Sub (.var 2) (.cst (.int 1)))])])) (.bi .tuple [(.slc (.var 3) (.bin .Add (.var 4) (.cst (.int 1))) (.cst .non))])))] []), (.iff (.cmp .Eq (.var 5) (.cst (.int 0))) [(.ret (.bi .tuple [(.bin .Add (.slc (.var 3) (.cst .non) (.var 4)) (.slc (.var 3) (.bin .Add (.var 4) (.cst (.int 1))) (.cst .non)))]))] []), (.iff (.cmp .Eq (.var 5) (.cst (.int 1))) [(.ret (.bi .tuple [(.bin .Add (.slc (.var 3) (.cst .non) (.bin .Add (.var 4) (.cst (.int 1)))) (.slc (.var 3) (.var 4) (.cst .non)))]))] []), (.iff (.cmp .Eq (.var 5) (.cst (.int 2))) [(.ret (.bi .tuple [(.bin .Add (.bin .Add (.slc (.var 3) (.cst .non) (.var 4)) (.rev (.slc (.var 3) (.var 4) (.bin .Add (.var 4) (.cst (.int 2)))))) (.slc (.var 3) (.bin .Add (.var 4) (.cst (.int 2))) (.cst .non)))]))] []), (.iff (.cmp .Eq (.var 5) (.cst (.int 3))) [(.ret (.var 3))] []), (.iff (.cmp .Lt (.var 5) (.cst (.int 6))) [(.asg (.sub (.var 3) (.var 4)) (.call 59 [(.var 0), (.cst (.int 2))]))] [(.asg (.nm 7) (.lst [(.cst .non), (.cst (.int 0)), (.cst (.int 1)), (.cst (.int 2)), (.cst (.int 3)), (.cst (.int 4)), (.cst (.int 5)), (.cst (.bl true)), (.cst (.str "ask")), (.cst (.str "renew")), (.cst (.str "back")), (.cst (.str "yes")), (.cst (.str "came")), (.cst (.str "asked")), (.cst (.str "number"))])), (.asg (.nm 7) (.bin .Add (.var 7) (.lst [(.tup [(.cst (.int 0)), (.cst (.int 0)), (.cst .non)]), (.tup [(.cst .non), (.cst (.int 0)), (.cst (.int 0)), (.cst (.int 0))]), (.tup [(.cst (.int 1)), (.cst (.int 1)), (.cst .non)]), (.tup [(.cst (.str "yes")), (.cst (.int 0)), (.cst (.int 0)), (.cst (.int 1))])]))), (.asg (.sub (.var 3) (.var 4)) (.call 26 [(.var 0), (.var 7)]))]), (.ret (.bi .tuple [(.var 3)]))]
abbrev i__law_variant_2 : Nat := 63
def n__law_variant_2 : List Str := ["_law_source_here", "_law_value", "_law_deep", "_law_parts", "_law_spot", "_law_way", "_law_inner", "_law_near"]
def c__law_variant_2 : List CS := [(.asg (.nm 3) (.bi .list [(.var 1)])), (.iff (.cmp .Eq (.var 3) (.lst [])) [(.ret (.tup [(.call 59 [(.var 0), (.cst (.int 1))])]))] []), (.par [4, 5] [(.call 25 [(.var 0), (.bi .len [(.var 3)])]), (.call 25 [(.var 0), (.cst (.int 9))])]), (.asg (.nm 6) (.sub (.var 3) (.var 4))), (.iff (.andv (.isi (.var 6) "tuple") (.andv (.cmp .Gt (.var 2) (.cst (.int 0))) (.cmp .Gt (.var 5) (.cst (.int 2))))) [(.ret (.bin .Add (.bin .Add (.bi .tuple [(.slc (.var 3) (.cst .non) (.var 4))]) (.tup [(.call 62 [(.var 0), (.var 6), (.bin .Sub (.var 2) (.cst (.int 1)))])])) (.bi .tuple [(.slc (.var 3) (.bin .Add (.var 4) (.cst (.int 1))) (.cst .non))])))] []), (.iff (.cmp .Eq (.var 5) (.cst (.int 0))) [(.ret (.bi .tuple [(.bin .Add (.slc (.var 3) (.cst .non) (.var 4)) (.slc (.var 3) (.bin .Add (.var 4) (.cst (.int 1))) (.cst .non)))]))] []), (.iff (.cmp .Eq (.var 5) (.cst (.int 1))) [(.ret (.bi .tuple [(.bin .Add (.slc (.var 3) (.cst .non) (.bin .Add (.var 4) (.cst (.int 1)))) (.slc (.var 3) (.var 4) (.cst .non)))]))] []), (.iff (.cmp .Eq (.var 5) (.cst (.int 2))) [(.ret (.bi .tuple [(.bin .Add (.bin .Add (.slc (.var 3) (.cst .non) (.var 4)) (.rev (.slc (.var 3) (.var 4) (.bin .Add (.var 4) (.cst (.int 2)))))) (.slc (.var 3) (.bin .Add (.var 4) (.cst (.int 2))) (.cst .non)))]))] []), (.iff (.cmp .Eq (.var 5) (.cst (.int 3))) [(.ret (.var 3))] []), (.iff (.cmp .Lt (.var 5) (.cst (.int 6))) [(.asg (.sub (.var 3) (.var 4)) (.call 59 [(.var 0), (.cst (.int 2))]))] [(.asg (.nm 7) (.lst [(.cst .non), (.cst (.int 0)), (.cst (.int 1)), (.cst (.int 2)), (.cst (.int 3)), (.cst (.int 4)), (.cst (.int 5)), (.cst (.bl true)), (.cst (.str "ask")), (.cst (.str "renew")), (.cst (.str "back")), (.cst (.str "yes")), (.cst (.str "came")), (.cst (.str "asked")), (.cst (.str "number"))])), (.asg (.nm 7) (.bin .Add (.var 7) (.lst [(.tup [(.cst (.int 0)), (.cst (.int 0)), (.cst .non)]), (.tup [(.cst .non), (.cst (.int 0)), (.cst (.int 0)), (.cst (.int 0))]), (.tup [(.cst (.int 1)), (.cst (.int 1)), (.cst .non)]), (.tup [(.cst (.str "yes")), (.cst (.int 0)), (.cst (.int 0)), (.cst (.int 1))])]))), (.asg (.sub (.var 3) (.var 4)) (.call 26 [(.var 0), (.var 7)]))]), (.ret (.bi .tuple [(.var 3)]))]
abbrev i__law_variant_3 : Nat := 64
def n__law_variant_3 : List Str := ["_law_source_here", "_law_value", "_law_deep", "_law_parts", "_law_spot", "_law_way", "_law_inner", "_law_near"]
def c__law_variant_3 : List CS := [(.asg (.nm 3) (.bi .list [(.var 1)])), (.iff (.cmp .Eq (.var 3) (.lst [])) [(.ret (.tup [(.call 59 [(.var 0), (.cst (.int 1))])]))] []), (.par [4, 5] [(.call 25 [(.var 0), (.bi .len [(.var 3)])]), (.call 25 [(.var 0), (.cst (.int 9))])]), (.asg (.nm 6) (.sub (.var 3) (.var 4))), (.iff (.andv (.isi (.var 6) "tuple") (.andv (.cmp .Gt (.var 2) (.cst (.int 0))) (.cmp .Gt (.var 5) (.cst (.int 2))))) [(.ret (.bin .Add (.bin .Add (.bi .tuple [(.slc (.var 3) (.cst .non) (.var 4))]) (.tup [(.call 63 [(.var 0), (.var 6), (.bin .Sub (.var 2) (.cst (.int 1)))])])) (.bi .tuple [(.slc (.var 3) (.bin .Add (.var 4) (.cst (.int 1))) (.cst .non))])))] []), (.iff (.cmp .Eq (.var 5) (.cst (.int 0))) [(.ret (.bi .tuple [(.bin .Add (.slc (.var 3) (.cst .non) (.var 4)) (.slc (.var 3) (.bin .Add (.var 4) (.cst (.int 1))) (.cst .non)))]))] []), (.iff (.cmp .Eq (.var 5) (.cst (.int 1))) [(.ret (.bi .tuple [(.bin .Add (.slc (.var 3) (.cst .non) (.bin .Add (.var 4) (.cst (.int 1)))) (.slc (.var 3) (.var 4) (.cst .non)))]))] []), (.iff (.cmp .Eq (.var 5) (.cst (.int 2))) [(.ret (.bi .tuple [(.bin .Add (.bin .Add (.slc (.var 3) (.cst .non) (.var 4)) (.rev (.slc (.var 3) (.var 4) (.bin .Add (.var 4) (.cst (.int 2)))))) (.slc (.var 3) (.bin .Add (.var 4) (.cst (.int 2))) (.cst .non)))]))] []), (.iff (.cmp .Eq (.var 5) (.cst (.int 3))) [(.ret (.var 3))] []), (.iff (.cmp .Lt (.var 5) (.cst (.int 6))) [(.asg (.sub (.var 3) (.var 4)) (.call 59 [(.var 0), (.cst (.int 2))]))] [(.asg (.nm 7) (.lst [(.cst .non), (.cst (.int 0)), (.cst (.int 1)), (.cst (.int 2)), (.cst (.int 3)), (.cst (.int 4)), (.cst (.int 5)), (.cst (.bl true)), (.cst (.str "ask")), (.cst (.str "renew")), (.cst (.str "back")), (.cst (.str "yes")), (.cst (.str "came")), (.cst (.str "asked")), (.cst (.str "number"))])), (.asg (.nm 7) (.bin .Add (.var 7) (.lst [(.tup [(.cst (.int 0)), (.cst (.int 0)), (.cst .non)]), (.tup [(.cst .non), (.cst (.int 0)), (.cst (.int 0)), (.cst (.int 0))]), (.tup [(.cst (.int 1)), (.cst (.int 1)), (.cst .non)]), (.tup [(.cst (.str "yes")), (.cst (.int 0)), (.cst (.int 0)), (.cst (.int 1))])]))), (.asg (.sub (.var 3) (.var 4)) (.call 26 [(.var 0), (.var 7)]))]), (.ret (.bi .tuple [(.var 3)]))]
abbrev i__law_whole : Nat := 65
def n__law_whole : List Str := ["_law_value", "_law_low", "_law_high"]
def c__law_whole : List CS := [(.ret (.andv (.isi (.var 0) "int") (.andv (.nt (.isi (.var 0) "bool")) (.chn .LtE .LtE (.var 1) (.var 0) (.var 2)))))]
abbrev i__law_among : Nat := 66
def n__law_among : List Str := ["_law_value", "_law_some"]
def c__law_among : List CS := [(.ret (.andv (.isi (.var 0) "str") (.cmp .In (.var 0) (.var 1))))]
abbrev i__law_good_place : Nat := 67
def n__law_good_place : List Str := ["_law_value"]
def c__law_good_place : List CS := [(.iff (.orv (.nt (.call 54 [(.var 0), (.cst (.int 3)), (.cst (.int 3))])) (.nt (.call 65 [(.sub (.var 0) (.cst (.int 0))), (.cst (.int 0)), (.cst (.int 2))]))) [(.ret (.cst (.bl false)))] []), (.ret (.andv (.isi (.sub (.var 0) (.cst (.int 1))) "bool") (.isi (.sub (.var 0) (.cst (.int 2))) "bool")))]
abbrev i__law_good_terms : Nat := 68
def n__law_good_terms : List Str := ["_law_value"]
def c__law_good_terms : List CS := [(.iff (.orv (.nt (.call 54 [(.var 0), (.cst (.int 6)), (.cst (.int 6))])) (.orv (.nt (.call 65 [(.sub (.var 0) (.cst (.int 0))), (.cst (.int 1)), (.cst (.int 4))])) (.nt (.call 65 [(.sub (.var 0) (.cst (.int 1))), (.cst (.int 1)), (.cst (.int 4))])))) [(.ret (.cst (.bl false)))] []), (.iff (.orv (.nt (.call 66 [(.sub (.var 0) (.cst (.int 2))), (.lst [(.cst (.str "asked")), (.cst (.str "came"))])])) (.nt (.call 66 [(.sub (.var 0) (.cst (.int 3))), (.lst [(.cst (.str "no")), (.cst (.str "yes"))])]))) [(.ret (.cst (.bl false)))] []), (.ret (.andv (.call 66 [(.sub (.var 0) (.cst (.int 4))), (.lst [(.cst (.str "no")), (.cst (.str "number"))])]) (.call 65 [(.sub (.var 0) (.cst (.int 5))), (.cst (.int 0)), (.cst (.int 4))])))]
abbrev i__law_good_deed : Nat := 69
def n__law_good_deed : List Str := ["_law_value"]
def c__law_good_deed : List CS := [(.iff (.cmp .In (.var 0) (.lst [(.tup [(.cst (.str "fall"))]), (.tup [(.cst (.str "tick"))])])) [(.ret (.isi (.var 0) "tuple"))] []), (.iff (.orv (.nt (.call 54 [(.var 0), (.cst (.int 2)), (.cst (.int 2))])) (.nt (.call 65 [(.sub (.var 0) (.cst (.int 1))), (.cst (.int 0)), (.cst (.int 1))]))) [(.ret (.cst (.bl false)))] []), (.ret (.call 66 [(.sub (.var 0) (.cst (.int 0))), (.lst [(.cst (.str "ask")), (.cst (.str "renew")), (.cst (.str "back")), (.cst (.str "use")), (.cst (.str "arrive")), (.cst (.str "lose"))])]))]
abbrev i__law_good_way : Nat := 70
def n__law_good_way : List Str := ["_law_place_here", "_law_terms_here", "_law_value"]
def c__law_good_way : List CS := [(.iff (.cmp .Is (.var 2) (.cst .non)) [(.ret (.cst (.bl true)))] []), (.iff (.orv (.nt (.call 54 [(.var 2), (.cst (.int 4)), (.cst (.int 4))])) (.nt (.call 65 [(.sub (.var 2) (.cst (.int 1))), (.cst (.int 0)), (.sub (.var 0) (.cst (.int 0)))]))) [(.ret (.cst (.bl false)))] []), (.iff (.nt (.call 65 [(.sub (.var 2) (.cst (.int 2))), (.cst (.int 0)), (.sub (.var 1) (.cst (.int 1)))])) [(.ret (.cst (.bl false)))] []), (.iff (.orv (.nt (.call 65 [(.sub (.var 2) (.cst (.int 3))), (.cst (.int 0)), (.cst (.int 9))])) (.nt (.call 66 [(.sub (.var 2) (.cst (.int 0))), (.lst [(.cst (.str "ask")), (.cst (.str "renew")), (.cst (.str "back")), (.cst (.str "yes"))])]))) [(.ret (.cst (.bl false)))] []), (.iff (.cmp .Eq (.sub (.var 2) (.cst (.int 0))) (.cst (.str "back"))) [(.ret (.andv (.cmp .Eq (.sub (.var 2) (.cst (.int 2))) (.cst (.int 0))) (.cmp .Eq (.sub (.var 2) (.cst (.int 3))) (.cst (.int 0)))))] []), (.ret (.andv (.cmp .GtE (.sub (.var 2) (.cst (.int 2))) (.bi .min [(.sub (.var 2) (.cst (.int 1))), (.sub (.var 1) (.cst (.int 1)))])) (.cmp .Eq (.cmp .Gt (.sub (.var 2) (.cst (.int 3))) (.cst (.int 0))) (.cmp .Eq (.sub (.var 2) (.cst (.int 0))) (.cst (.str "yes"))))))]
abbrev i__law_good_spot : Nat := 71
def n__law_good_spot : List Str := ["_law_place_here", "_law_terms_here", "_law_value", "_law_holder", "_law_left", "_law_pause", "_law_last", "_law_numbers", "_law_one", "_law_known_here", "_law_number"]
def c__law_good_spot : List CS := [(.iff (.orv (.nt (.call 54 [(.var 2), (.cst (.int 4)), (.cst (.int 4))])) (.orv (.nt (.call 54 [(.sub (.var 2) (.cst (.int 0))), (.cst (.int 4)), (.cst (.int 4))])) (.nt (.call 65 [(.sub (.var 2) (.cst (.int 1))), (.cst (.int 0)), (.cst (.int 9))])))) [(.ret (.cst (.bl false)))] []), (.asg (.tup [(.nm 3), (.nm 4), (.nm 5), (.nm 6)]) (.sub (.var 2) (.cst (.int 0)))), (.iff (.orv (.nt (.call 65 [(.var 4), (.cst (.int 0)), (.sub (.var 1) (.cst (.int 0)))])) (.nt (.call 65 [(.var 5), (.cst (.int 0)), (.sub (.var 1) (.cst (.int 5)))]))) [(.ret (.cst (.bl false)))] []), (.iff (.nt (.call 65 [(.var 6), (.cst (.int 0)), (.cst (.int 9))])) [(.ret (.cst (.bl false)))] []), (.iff (.orv (.andv (.cmp .Is (.var 3) (.cst .non)) (.cmp .Gt (.var 4) (.cst (.int 0)))) (.andv (.cmp .IsNot (.var 3) (.cst .non)) (.orv (.cmp .Eq (.var 4) (.cst (.int 0))) (.orv (.cmp .Gt (.var 5) (.cst (.int 0))) (.cmp .Eq (.var 6) (.cst (.int 0))))))) [(.ret (.cst (.bl false)))] []), (.iff (.andv (.cmp .IsNot (.var 3) (.cst .non)) (.nt (.call 65 [(.var 3), (.cst (.int 0)), (.cst (.int 1))]))) [(.ret (.cst (.bl false)))] []), (.asg (.nm 7) (.lst [(.var 6), (.sub (.var 2) (.cst (.int 1)))])), (.for_ (.nm 8) (.ex (.slc (.var 2) (.cst (.int 2)) (.cst .non))) [(.iff (.orv (.nt (.call 54 [(.var 8), (.cst (.int 3)), (.cst (.int 3))])) (.orv (.nt (.call 65 [(.sub (.var 8) (.cst (.int 0))), (.cst (.int 0)), (.sub (.var 1) (.cst (.int 1)))])) (.nt (.call 65 [(.sub (.var 8) (.cst (.int 1))), (.cst (.int 0)), (.cst (.int 9))])))) [(.ret (.cst (.bl false)))] []), (.iff (.orv (.cmp .NotEq (.cmp .Eq (.sub (.var 8) (.cst (.int 0))) (.cst (.int 0))) (.cmp .Eq (.sub (.var 8) (.cst (.int 1))) (.cst (.int 0)))) (.nt (.call 70 [(.var 0), (.var 1), (.sub (.var 8) (.cst (.int 2)))]))) [(.ret (.cst (.bl false)))] []), (.asg (.nm 7) (.bin .Add (.bin .Add (.var 7) (.lst [(.sub (.var 8) (.cst (.int 1)))])) (.ife (.cmp .IsNot (.sub (.var 8) (.cst (.int 2))) (.cst .non)) (.lst [(.sub (.sub (.var 8) (.cst (.int 2))) (.cst (.int 3)))]) (.lst []))))]), (.asg (.nm 9) (.srs (.lc (.var 10) (.nm 10) (.ex (.var 7)) [(.cmp .Gt (.var 10) (.cst (.int 0)))] [10]))), (.ret (.andv (.cmp .Eq (.var 9) (.lrg (.cst (.int 1)) (.bin .Add (.bi .len [(.var 9)]) (.cst (.int 1))))) (.cmp .Eq (.var 6) (.bi .len [(.var 9)]))))]
abbrev i__law_refused : Nat := 72
def n__law_refused : List Str := ["_law_call", "_law_place_here", "_law_terms_here"]
def c__law_refused : List CS := [(.tri [(.exp (.calv 0 [0, 33, 34, 35, 40, 41, 43, 53, 54, 60, 61, 62, 63, 64, 65, 70, 71] [(.var 1), (.var 2), (.cst .non)]))] [(1, (.cst (.str "world!"))), (2, (.cst (.str "rule!")))]), (.ret (.cst (.str "none")))]
abbrev i__law_bounds_right : Nat := 73
def n__law_bounds_right : List Str := ["_law_rows", "_law_one"]
def c__law_bounds_right : List CS := [(.asg (.nm 0) (.lst [(.tup [(.cst (.int 1)), (.cst (.int 1)), (.cst (.str "asked")), (.cst (.str "no")), (.cst (.str "no")), (.cst (.int 0))]), (.tup [(.cst (.int 4)), (.cst (.int 4)), (.cst (.str "came")), (.cst (.str "yes")), (.cst (.str "number")), (.cst (.int 4))]), (.tup [(.cst (.int 0)), (.cst (.int 1)), (.cst (.str "asked")), (.cst (.str "no")), (.cst (.str "no")), (.cst (.int 0))])])), (.asg (.nm 0) (.bin .Add (.var 0) (.lst [(.tup [(.cst (.int 5)), (.cst (.int 1)), (.cst (.str "asked")), (.cst (.str "no")), (.cst (.str "no")), (.cst (.int 0))]), (.tup [(.cst (.int 1)), (.cst (.int 5)), (.cst (.str "asked")), (.cst (.str "no")), (.cst (.str "no")), (.cst (.int 0))]), (.tup [(.cst (.int 1)), (.cst (.int 1)), (.cst (.str "asked")), (.cst (.str "no")), (.cst (.str "no")), (.cst (.int 5))])]))), (.asg (.nm 0) (.bin .Add (.var 0) (.lst [(.tup [(.cst (.int 1)), (.cst (.int 1)), (.cst (.str "ask")), (.cst (.str "no")), (.cst (.str "no")), (.cst (.int 0))]), (.tup [(.cst (.int 1)), (.cst (.int 1)), (.cst (.str "asked")), (.cst (.bl false)), (.cst (.str "no")), (.cst (.int 0))]), (.tup [(.cst (.int 1)), (.cst (.int 1)), (.cst (.str "asked")), (.cst (.str "no")), (.cst (.str "yes")), (.cst (.int 0))])]))), (.iff (.cmp .NotEq (.lc (.call 51 [(.var 1)]) (.nm 1) (.ex (.var 0)) [] [1]) (.bin .Add (.lst [(.cst (.bl true)), (.cst (.bl true))]) (.bin .Mult (.lst [(.cst (.bl false))]) (.cst (.int 7))))) [(.ret (.cst (.bl false)))] []), (.asg (.nm 0) (.lst [(.tup [(.cst (.int 0)), (.cst (.bl false)), (.cst (.bl false))]), (.tup [(.cst (.int 2)), (.cst (.bl true)), (.cst (.bl true))]), (.tup [(.cst (.int 3)), (.cst (.bl false)), (.cst (.bl false))]), (.tup [(.neg (.cst (.int 1))), (.cst (.bl false)), (.cst (.bl false))]), (.tup [(.cst (.int 0)), (.cst (.int 0)), (.cst (.bl false))])])), (.iff (.cmp .NotEq (.lc (.call 50 [(.var 1)]) (.nm 1) (.ex (.bin .Add (.var 0) (.lst [(.bin .Mult (.tup [(.cst (.bl true))]) (.cst (.int 3)))]))) [] [1]) (.bin .Add (.lst [(.cst (.bl true)), (.cst (.bl true))]) (.bin .Mult (.lst [(.cst (.bl false))]) (.cst (.int 4))))) [(.ret (.cst (.bl false)))] []), (.asg (.nm 0) (.lst [(.tup [(.cst (.str "fall"))]), (.tup [(.cst (.str "tick"))]), (.tup [(.cst (.str "use")), (.cst (.int 0))]), (.tup [(.cst (.str "lose")), (.cst (.int 1))]), (.tup [(.cst (.str "tick")), (.cst (.int 0))]), (.tup [(.cst (.str "use"))]), (.tup [(.cst (.str "use")), (.cst (.bl true))]), (.tup [(.cst (.str "yes")), (.cst (.int 0))])])), (.ret (.cmp .Eq (.lc (.call 52 [(.var 1)]) (.nm 1) (.ex (.bin .Add (.var 0) (.lst [(.lst [(.cst (.str "tick"))])]))) [] [1]) (.bin .Add (.bin .Mult (.lst [(.cst (.bl true))]) (.cst (.int 4))) (.bin .Mult (.lst [(.cst (.bl false))]) (.cst (.int 5))))))]
abbrev i_law_k01 : Nat := 74
def n_law_k01 : List Str := ["_law_script", "_law_k", "_law_source_here", "_law_place_here", "_law_terms_here", "_law_spot", "_law_turn", "_law_events_here", "_law_values", "_law_odd", "_law_value"]
def c_law_k01 : List CS := [(.iff (.nt (.cal0 73)) [(.ret (.cst (.bl false)))] []), (.for_ (.nm 1) (.rng (.cst (.int 0)) (.bi .max [(.cst (.int 6)), (.bi .min [(.cst (.int 18)), (.bi .len [(.var 0)])])])) [(.asg (.nm 2) (.call 24 [(.var 0), (.var 1)])), (.par [3, 4, 5] [(.call 28 [(.var 2), (.cst (.bl false))]), (.call 29 [(.var 2), (.cst (.int 4))]), (.cal0 37)]), (.for_ (.nm 6) (.rng (.cst (.int 0)) (.call 25 [(.var 2), (.cst (.int 12))])) [(.asg (.nm 7) (.call 36 [(.var 3), (.var 5)])), (.asg (.nm 5) (.sub (.call 35 [(.var 4), (.var 5), (.call 26 [(.var 2), (.var 7)])]) (.cst (.int 0))))]), (.asg (.nm 8) (.lst [(.var 3), (.bi .list [(.var 3)]), (.var 4), (.bi .list [(.var 4)]), (.var 5), (.bi .list [(.var 5)]), (.cst .non), (.tup []), (.cst (.str "tick")), (.sub (.var 5) (.cst (.int 0)))])), (.asg (.nm 8) (.bin .Add (.var 8) (.call 36 [(.var 3), (.var 5)]))), (.for_ (.nm 6) (.rng (.cst (.int 0)) (.cst (.int 20))) [(.asg (.nm 9) (.call 64 [(.var 2), (.sub (.lst [(.var 5), (.var 5), (.var 4), (.var 3)]) (.bin .Mod (.var 6) (.cst (.int 4)))), (.cst (.int 3))])), (.exp (.me .append (.var 8) [(.var 9)])), (.iff (.andv (.isi (.var 9) "tuple") (.cmp .Eq (.call 25 [(.var 2), (.cst (.int 3))]) (.cst (.int 0)))) [(.exp (.me .append (.var 8) [(.call 64 [(.var 2), (.var 9), (.cst (.int 3))])]))] [])]), (.for_ (.nm 10) (.ex (.bin .Add (.var 8) (.lst [(.call 59 [(.var 2), (.cst (.int 3))])]))) [(.iff (.nt (.call 27 [(.call 50 [(.var 10)]), (.call 67 [(.var 10)])])) [(.ret (.cst (.bl false)))] []), (.iff (.nt (.call 27 [(.call 51 [(.var 10)]), (.call 68 [(.var 10)])])) [(.ret (.cst (.bl false)))] []), (.iff (.nt (.call 27 [(.call 52 [(.var 10)]), (.call 69 [(.var 10)])])) [(.ret (.cst (.bl false)))] []), (.iff (.nt (.call 27 [(.call 53 [(.var 3), (.var 4), (.var 10)]), (.call 71 [(.var 3), (.var 4), (.var 10)])])) [(.ret (.cst (.bl false)))] []), (.iff (.andv (.nt (.call 67 [(.var 10)])) (.cmp .NotEq (.call 72 [(.gcst "is_stand" (.fn 53)), (.var 10), (.cst .non)]) (.cst (.str "world!")))) [(.ret (.cst (.bl false)))] []), (.iff (.andv (.nt (.call 68 [(.var 10)])) (.cmp .NotEq (.call 72 [(.gcst "is_stand" (.fn 53)), (.var 3), (.var 10)]) (.cst (.str "rule!")))) [(.ret (.cst (.bl false)))] [])])]), (.ret (.cst (.bl true)))]
abbrev i__wall : Nat := 75
def n__wall : List Str := ["k"]
def c__wall : List CS := [(.whl (.cst (.bl true)) [.pas])]
abbrev i_is_alone : Nat := 76
def n_is_alone : List Str := ["stand", "client"]
def c_is_alone : List CS := [(.ret (.bi .any [(.lc (.andv (.cmp .Gt (.sub (.sub (.var 0) (.bin .Add (.cst (.int 2)) (.var 1))) (.cst (.int 0))) (.cst (.int 0))) (.cmp .NotEq (.sub (.sub (.var 0) (.cst (.int 0))) (.cst (.int 0))) (.var 1))) (.nm 1) (.ex (.gcst "CLIENTS" (.tup [.int 0, .int 1]))) [] [1])]))]
abbrev i_comes : Nat := 77
def n_comes : List Str := ["harm", "stand", "event", "there", "word"]
def c_comes : List CS := [(.iff (.cmp .Eq (.var 0) (.cst (.str "alone"))) [(.ret (.call 76 [(.var 3)]))] []), (.iff (.cmp .Eq (.var 0) (.cst (.str "two"))) [(.ret (.andv (.cmp .Gt (.sub (.sub (.var 3) (.cst (.int 2))) (.cst (.int 0))) (.cst (.int 0))) (.cmp .Gt (.sub (.sub (.var 3) (.cst (.int 3))) (.cst (.int 0))) (.cst (.int 0)))))] []), (.ret (.andv (.cmp .Eq (.sub (.var 2) (.cst (.int 0))) (.cst (.str "use"))) (.andv (.cmp .Eq (.var 4) (.cst (.str "used"))) (.cmp .Lt (.sub (.sub (.var 1) (.bin .Add (.cst (.int 2)) (.sub (.var 2) (.cst (.int 1))))) (.cst (.int 1))) (.sub (.var 1) (.cst (.int 1)))))))]
abbrev i_ways : Nat := 78
abbrev i_harmful : Nat := 79
abbrev i_harms_of : Nat := 80
def n_harms_of : List Str := ["world", "rule"]
def c_harms_of : List CS := [(.ret (.srt (.call 79 [(.var 0), (.var 1)])))]
abbrev i_having : Nat := 81
def n_having : List Str := ["rule", "at", "value"]
def c_having : List CS := [(.ret (.bin .Add (.bin .Add (.slc (.var 0) (.cst .non) (.var 1)) (.tup [(.var 2)])) (.slc (.var 0) (.bin .Add (.var 1) (.cst (.int 1))) (.cst .non))))]
abbrev i_label : Nat := 82
def n_label : List Str := ["name"]
def c_label : List CS := [(.ret (.ife (.cmp .Eq (.var 0) (.cst (.str "origin"))) (.cst (.str "from")) (.var 0)))]
abbrev i_line_of : Nat := 83
def n_line_of : List Str := ["rule", "name", "value"]
def c_line_of : List CS := [(.ret (.me .join (.cst (.str " ")) [(.lc (.bin .Add (.bin .Add (.call 82 [(.var 1)]) (.cst (.str " "))) (.bi .str [(.var 2)])) (.tup [(.nm 1), (.nm 2)]) (.zip (.gcst "NAMES" (.tup [.str "keep", .str "trust", .str "origin", .str "lapsed", .str "check", .str "rest"])) (.var 0)) [] [1, 2])]))]
abbrev i_rule_in : Nat := 84
def n_rule_in : List Str := ["value", "found", "word", "some", "one"]
def c_rule_in : List CS := [(.iff (.nt (.isi (.var 0) "str")) [(.rai 6)] []), (.asg (.nm 1) (.tup [])), (.for_ (.tup [(.nm 2), (.nm 3)]) (.zip (.odd (.me .split (.var 0) [(.cst (.str " "))])) (.gcst "CHOICES" (.tup [.tup [.int 1, .int 2, .int 3, .int 4], .tup [.int 1, .int 2, .int 3, .int 4], .tup [.str "asked", .str "came"], .tup [.str "no", .str "yes"], .tup [.str "no", .str "number"], .tup [.int 0, .int 1, .int 2, .int 3, .int 4]]))) [(.asg (.nm 1) (.bin .Add (.var 1) (.bi .tuple [(.lc (.var 4) (.nm 4) (.ex (.var 3)) [(.cmp .Eq (.bi .str [(.var 4)]) (.var 2))] [4])])))]), (.iff (.orv (.nt (.call 4 [(.var 1)])) (.cmp .NotEq (.call 83 [(.var 1)]) (.var 0))) [(.rai 6)] []), (.ret (.var 1))]
abbrev i_rule_line : Nat := 85
def n_rule_line : List Str := ["rule"]
def c_rule_line : List CS := [(.exp (.call 8 [(.var 0)])), (.ret (.call 83 [(.var 0)]))]
abbrev i_read_rule : Nat := 86
def n_read_rule : List Str := ["value"]
def c_read_rule : List CS := [(.ret (.call 84 [(.var 0)]))]
abbrev i_Terms___init__ : Nat := 87
def n_Terms___init__ : List Str := ["self", "keep", "trust", "origin", "lapsed", "check", "rest", "rule"]
def c_Terms___init__ : List CS := [(.asg (.nm 7) (.tup [(.var 1), (.var 2), (.var 3), (.var 4), (.var 5), (.var 6)])), (.exp (.call 8 [(.var 7)])), (.asg (.fld 1000 "six" (.var 0)) (.var 7))]
abbrev i_Terms_of : Nat := 88
def n_Terms_of : List Str := ["cls", "text", "keep", "trust", "origin", "lapsed", "check", "rest"]
def c_Terms_of : List CS := [(.asg (.tup [(.nm 2), (.nm 3), (.nm 4), (.nm 5), (.nm 6), (.nm 7)]) (.call 84 [(.var 1)])), (.ret (.mkv 0 1000 87 [(.var 2), (.var 3), (.var 4), (.var 5), (.var 6), (.var 7)]))]
abbrev i_Terms_source : Nat := 89
def n_Terms_source : List Str := ["self"]
def c_Terms_source : List CS := [(.ret (.fld 1000 "six" (.var 0)))]
abbrev i__law_terms_k71 : Nat := 90
def n__law_terms_k71 : List Str := ["_law_source_here", "_law_most", "_law_first", "_law_more"]
def c__law_terms_k71 : List CS := [(.asg (.nm 2) (.tup [(.bin .Add (.cst (.int 1)) (.call 25 [(.var 0), (.var 1)])), (.bin .Add (.cst (.int 1)) (.call 25 [(.var 0), (.var 1)])), (.call 26 [(.var 0), (.lst [(.cst (.str "asked")), (.cst (.str "came"))])])])), (.asg (.nm 3) (.tup [(.call 26 [(.var 0), (.lst [(.cst (.str "no")), (.cst (.str "yes"))])]), (.call 26 [(.var 0), (.lst [(.cst (.str "no")), (.cst (.str "number"))])])])), (.ret (.bin .Add (.bin .Add (.var 2) (.var 3)) (.tup [(.call 25 [(.var 0), (.bin .Add (.var 1) (.cst (.int 1)))])])))]
abbrev i__law_line : Nat := 91
def n__law_line : List Str := ["_law_terms_here", "_law_parts", "_law_word", "_law_part"]
def c__law_line : List CS := [(.asg (.nm 1) (.lst [(.cst (.str "keep")), (.cst (.str "trust")), (.cst (.str "from")), (.cst (.str "lapsed")), (.cst (.str "check")), (.cst (.str "rest"))])), (.ret (.me .join (.cst (.str " ")) [(.lc (.bin .Add (.bin .Add (.var 2) (.cst (.str " "))) (.bi .str [(.var 3)])) (.tup [(.nm 2), (.nm 3)]) (.zip (.var 1) (.var 0)) [] [2, 3])]))]
abbrev i__law_told : Nat := 92
def n__law_told : List Str := ["_law_value"]
def c__law_told : List CS := [(.tri [(.ret (.call 86 [(.var 0)]))] [(6, (.cst (.str "line!")))])]
abbrev i__law_read : Nat := 93
def n__law_read : List Str := ["_law_value"]
def c__law_read : List CS := [(.tri [(.ret (.prp 1000 89 (.call 88 [(.gcst "Terms" (.fn 1000)), (.var 0)])))] [(6, (.cst (.str "line!")))])]
abbrev i__law_reading : Nat := 94
def n__law_reading : List Str := ["_law_value", "_law_table", "_law_terms_here", "_law_part"]
def c__law_reading : List CS := [(.asg (.nm 1) (.dic [(.cst (.str "0")), (.cst (.int 0)), (.cst (.str "1")), (.cst (.int 1)), (.cst (.str "2")), (.cst (.int 2)), (.cst (.str "3")), (.cst (.int 3)), (.cst (.str "4")), (.cst (.int 4))])), (.asg (.nm 2) (.bi .tuple [(.lc (.me .get (.var 1) [(.var 3), (.var 3)]) (.nm 3) (.ex (.odd (.me .split (.var 0) [(.cst (.str " "))]))) [] [3])])), (.ret (.ife (.andv (.call 68 [(.var 2)]) (.cmp .Eq (.call 91 [(.var 2)]) (.var 0))) (.var 2) (.cst (.str "line!"))))]
abbrev i__law_bent : Nat := 95
def n__law_bent : List Str := ["_law_source_here", "_law_text", "_law_kind", "_law_spot", "_law_signs", "_law_parts", "_law_here", "_law_some"]
def c__law_bent : List CS := [(.par [2, 3] [(.call 25 [(.var 0), (.cst (.int 6))]), (.call 25 [(.var 0), (.bin .Add (.bi .len [(.var 1)]) (.cst (.int 1)))])]), (.asg (.nm 4) (.cst (.str " 0125an"))), (.iff (.cmp .Lt (.var 2) (.cst (.int 2))) [(.ret (.bin .Add (.bin .Add (.slc (.var 1) (.cst .non) (.var 3)) (.sub (.var 4) (.call 25 [(.var 0), (.bi .len [(.var 4)])]))) (.slc (.var 1) (.bin .Add (.var 3) (.var 2)) (.cst .non))))] []), (.iff (.cmp .Eq (.var 2) (.cst (.int 2))) [(.ret (.bin .Add (.slc (.var 1) (.cst .non) (.var 3)) (.slc (.var 1) (.bin .Add (.var 3) (.cst (.int 1))) (.cst .non))))] []), (.asg (.nm 5) (.me .split (.var 1) [(.cst (.str " "))])), (.asg (.nm 6) (.call 25 [(.var 0), (.bi .len [(.var 5)])])), (.iff (.cmp .Eq (.var 2) (.cst (.int 3))) [(.asg (.nm 7) (.lst [(.cst (.str "0")), (.cst (.str "1")), (.cst (.str "4")), (.cst (.str "5")), (.cst (.str "00")), (.cst (.str "asked")), (.cst (.str "came")), (.cst (.str "no")), (.cst (.str "yes")), (.cst (.str "number")), (.cst (.str "keep")), (.cst (.str "rest")), (.cst (.str "origin")), (.cst (.str ""))])), (.asg (.sub (.var 5) (.var 6)) (.call 26 [(.var 0), (.var 7)]))] [(.iff (.cmp .Eq (.var 2) (.cst (.int 4))) [(.asg (.slc (.var 5) (.var 6) (.bin .Add (.var 6) (.cst (.int 2)))) (.rev (.slc (.var 5) (.var 6) (.bin .Add (.var 6) (.cst (.int 2))))))] [(.asg (.slc (.var 5) (.var 6) (.bin .Add (.var 6) (.cst (.int 1)))) (.bin .Mult (.lst [(.sub (.var 5) (.var 6))]) (.bin .Mult (.cst (.int 2)) (.call 25 [(.var 0), (.cst (.int 2))]))))])]), (.ret (.me .join (.cst (.str " ")) [(.var 5)]))]
abbrev i_law_k71 : Nat := 96
def n_law_k71 : List Str := ["_law_script", "_law_k", "_law_source_here", "_law_terms_here", "_law_text", "_law_turn", "_law_odd", "_law_found", "_law_row"]
def c_law_k71 : List CS := [(.for_ (.nm 1) (.rng (.cst (.int 0)) (.bi .max [(.cst (.int 6)), (.bi .min [(.cst (.int 24)), (.bi .len [(.var 0)])])])) [(.asg (.nm 2) (.call 24 [(.var 0), (.var 1)])), (.asg (.nm 3) (.call 90 [(.var 2), (.cst (.int 4))])), (.asg (.nm 4) (.call 91 [(.var 3)])), (.iff (.orv (.cmp .NotEq (.call 85 [(.var 3)]) (.var 4)) (.orv (.cmp .NotEq (.call 92 [(.var 4)]) (.var 3)) (.cmp .NotEq (.call 93 [(.var 4)]) (.var 3)))) [(.ret (.cst (.bl false)))] []), (.for_ (.nm 5) (.rng (.cst (.int 0)) (.cst (.int 24))) [(.asg (.nm 6) (.call 95 [(.var 2), (.var 4)])), (.asg (.nm 6) (.ife (.cmp .Gt (.call 25 [(.var 2), (.cst (.int 3))]) (.cst (.int 0))) (.var 6) (.call 95 [(.var 2), (.var 6)]))), (.asg (.nm 7) (.call 92 [(.var 6)])), (.iff (.orv (.cmp .NotEq (.var 7) (.call 93 [(.var 6)])) (.cmp .NotEq (.var 7) (.call 94 [(.var 6)]))) [(.ret (.cst (.bl false)))] [])]), (.for_ (.nm 6) (.ex (.lst [(.cst .non), (.cst (.int 5)), (.tup [(.var 4)]), (.var 3), (.cst (.str "")), (.bin .Add (.var 4) (.cst (.str " "))), (.bin .Add (.cst (.str " ")) (.var 4)), (.bin .Add (.var 4) (.cst (.str "\n"))), (.me .upper (.var 4) []), (.bin .Add (.slc (.var 4) (.cst .non) (.neg (.cst (.int 1)))) (.cst (.str "5")))])) [(.iff (.orv (.cmp .NotEq (.call 92 [(.var 6)]) (.cst (.str "line!"))) (.cmp .NotEq (.call 93 [(.var 6)]) (.cst (.str "line!")))) [(.ret (.cst (.bl false)))] [])])]), (.asg (.nm 8) (.cst (.str "keep 4 trust 1 from came lapsed yes check number rest 0"))), (.ret (.cmp .Eq (.call 92 [(.var 8)]) (.tup [(.cst (.int 4)), (.cst (.int 1)), (.cst (.str "came")), (.cst (.str "yes")), (.cst (.str "number")), (.cst (.int 0))])))]
def tb : Nat → Option (Nat × List CS)
  | 0 => some (3, c_is_whole)
  | 1 => some (2, c_is_wide)
  | 2 => some (2, c_is_word)
  | 3 => some (1, c_is_right_world)
  | 4 => some (1, c_is_right_rule)
  | 5 => some (1, c_is_right_event)
  | 6 => some (7, c_numbers_in)
  | 7 => some (1, c_need_world)
  | 8 => some (1, c_need_rule)
  | 9 => some (3, c_with_client)
  | 10 => some (10, c_ranked)
  | 11 => some (10, c_events_at)
  | 12 => some (13, c_asked_for)
  | 13 => some (8, c_arrived)
  | 14 => some (6, c_later)
  | 15 => some (7, c_ticked)
  | 16 => some (8, c_happened)
  | 17 => some (5, c_step)
  | 18 => some (8, c_trace)
  | 19 => some (3, c_is_right_run)
  | 20 => some (3, c_need_run)
  | 21 => some (3, c_is_run)
  | 22 => some (3, c_stand_behind)
  | 23 => some (3, c_words)
  | 24 => some (4, c__law_source)
  | 25 => some (3, c__law_pick)
  | 26 => some (2, c__law_chosen)
  | 27 => some (2, c__law_is_bool)
  | 28 => some (4, c__law_place)
  | 29 => some (4, c__law_terms)
  | 30 => some (10, c__law_known)
  | 31 => some (16, c__law_standing)
  | 32 => some (12, c__law_events)
  | 33 => some (13, c__law_come)
  | 34 => some (8, c__law_happen)
  | 35 => some (5, c__law_next)
  | 36 => some (2, c__law_at)
  | 37 => some (0, c__law_first)
  | 38 => some (4, c__law_outcome)
  | 39 => some (16, c_law)
  | 40 => some (7, c_is_way)
  | 41 => some (3, c_is_client)
  | 42 => some (6, c_is_house)
  | 43 => some (5, c_is_right_stand)
  | 44 => some (3, c_need_stand)
  | 45 => some (0, c_first_stand)
  | 46 => some (3, c_possible)
  | 47 => some (4, c_after)
  | 48 => some (5, c__law_outcome_k11)
  | 49 => some (16, c_law_k11)
  | 50 => some (1, c_is_world)
  | 51 => some (1, c_is_rule)
  | 52 => some (1, c_is_event)
  | 53 => some (3, c_is_stand)
  | 54 => some (3, c__law_wide)
  | 56 => some (6, c__law_any_value_0)
  | 57 => some (6, c__law_any_value_1)
  | 58 => some (6, c__law_any_value_2)
  | 59 => some (6, c__law_any_value_3)
  | 61 => some (8, c__law_variant_0)
  | 62 => some (8, c__law_variant_1)
  | 63 => some (8, c__law_variant_2)
  | 64 => some (8, c__law_variant_3)
  | 65 => some (3, c__law_whole)
  | 66 => some (2, c__law_among)
  | 67 => some (1, c__law_good_place)
  | 68 => some (1, c__law_good_terms)
  | 69 => some (1, c__law_good_deed)
  | 70 => some (3, c__law_good_way)
  | 71 => some (11, c__law_good_spot)
  | 72 => some (3, c__law_refused)
  | 73 => some (2, c__law_bounds_right)
  | 74 => some (11, c_law_k01)
  | 75 => some (1, c__wall)
  | 76 => some (2, c_is_alone)
  | 77 => some (5, c_comes)
  | 80 => some (2, c_harms_of)
  | 81 => some (3, c_having)
  | 82 => some (1, c_label)
  | 83 => some (3, c_line_of)
  | 84 => some (5, c_rule_in)
  | 85 => some (1, c_rule_line)
  | 86 => some (1, c_read_rule)
  | 87 => some (8, c_Terms___init__)
  | 88 => some (8, c_Terms_of)
  | 89 => some (1, c_Terms_source)
  | 90 => some (4, c__law_terms_k71)
  | 91 => some (4, c__law_line)
  | 92 => some (1, c__law_told)
  | 93 => some (1, c__law_read)
  | 94 => some (4, c__law_reading)
  | 95 => some (8, c__law_bent)
  | 96 => some (9, c_law_k71)
  | _ => none
theorem t_is_whole : tb 0 = some (3, c_is_whole) := rfl
theorem t_is_wide : tb 1 = some (2, c_is_wide) := rfl
theorem t_is_word : tb 2 = some (2, c_is_word) := rfl
theorem t_is_right_world : tb 3 = some (1, c_is_right_world) := rfl
theorem t_is_right_rule : tb 4 = some (1, c_is_right_rule) := rfl
theorem t_is_right_event : tb 5 = some (1, c_is_right_event) := rfl
theorem t_numbers_in : tb 6 = some (7, c_numbers_in) := rfl
theorem t_need_world : tb 7 = some (1, c_need_world) := rfl
theorem t_need_rule : tb 8 = some (1, c_need_rule) := rfl
theorem t_with_client : tb 9 = some (3, c_with_client) := rfl
theorem t_ranked : tb 10 = some (10, c_ranked) := rfl
theorem t_events_at : tb 11 = some (10, c_events_at) := rfl
theorem t_asked_for : tb 12 = some (13, c_asked_for) := rfl
theorem t_arrived : tb 13 = some (8, c_arrived) := rfl
theorem t_later : tb 14 = some (6, c_later) := rfl
theorem t_ticked : tb 15 = some (7, c_ticked) := rfl
theorem t_happened : tb 16 = some (8, c_happened) := rfl
theorem t_step : tb 17 = some (5, c_step) := rfl
theorem t_trace : tb 18 = some (8, c_trace) := rfl
theorem t_is_right_run : tb 19 = some (3, c_is_right_run) := rfl
theorem t_need_run : tb 20 = some (3, c_need_run) := rfl
theorem t_is_run : tb 21 = some (3, c_is_run) := rfl
theorem t_stand_behind : tb 22 = some (3, c_stand_behind) := rfl
theorem t_words : tb 23 = some (3, c_words) := rfl
theorem t__law_source : tb 24 = some (4, c__law_source) := rfl
theorem t__law_pick : tb 25 = some (3, c__law_pick) := rfl
theorem t__law_chosen : tb 26 = some (2, c__law_chosen) := rfl
theorem t__law_is_bool : tb 27 = some (2, c__law_is_bool) := rfl
theorem t__law_place : tb 28 = some (4, c__law_place) := rfl
theorem t__law_terms : tb 29 = some (4, c__law_terms) := rfl
theorem t__law_known : tb 30 = some (10, c__law_known) := rfl
theorem t__law_standing : tb 31 = some (16, c__law_standing) := rfl
theorem t__law_events : tb 32 = some (12, c__law_events) := rfl
theorem t__law_come : tb 33 = some (13, c__law_come) := rfl
theorem t__law_happen : tb 34 = some (8, c__law_happen) := rfl
theorem t__law_next : tb 35 = some (5, c__law_next) := rfl
theorem t__law_at : tb 36 = some (2, c__law_at) := rfl
theorem t__law_first : tb 37 = some (0, c__law_first) := rfl
theorem t__law_outcome : tb 38 = some (4, c__law_outcome) := rfl
theorem t_law : tb 39 = some (16, c_law) := rfl
theorem t_is_way : tb 40 = some (7, c_is_way) := rfl
theorem t_is_client : tb 41 = some (3, c_is_client) := rfl
theorem t_is_house : tb 42 = some (6, c_is_house) := rfl
theorem t_is_right_stand : tb 43 = some (5, c_is_right_stand) := rfl
theorem t_need_stand : tb 44 = some (3, c_need_stand) := rfl
theorem t_first_stand : tb 45 = some (0, c_first_stand) := rfl
theorem t_possible : tb 46 = some (3, c_possible) := rfl
theorem t_after : tb 47 = some (4, c_after) := rfl
theorem t__law_outcome_k11 : tb 48 = some (5, c__law_outcome_k11) := rfl
theorem t_law_k11 : tb 49 = some (16, c_law_k11) := rfl
theorem t_is_world : tb 50 = some (1, c_is_world) := rfl
theorem t_is_rule : tb 51 = some (1, c_is_rule) := rfl
theorem t_is_event : tb 52 = some (1, c_is_event) := rfl
theorem t_is_stand : tb 53 = some (3, c_is_stand) := rfl
theorem t__law_wide : tb 54 = some (3, c__law_wide) := rfl
theorem t__law_any_value_0 : tb 56 = some (6, c__law_any_value_0) := rfl
theorem t__law_any_value_1 : tb 57 = some (6, c__law_any_value_1) := rfl
theorem t__law_any_value_2 : tb 58 = some (6, c__law_any_value_2) := rfl
theorem t__law_any_value_3 : tb 59 = some (6, c__law_any_value_3) := rfl
theorem t__law_variant_0 : tb 61 = some (8, c__law_variant_0) := rfl
theorem t__law_variant_1 : tb 62 = some (8, c__law_variant_1) := rfl
theorem t__law_variant_2 : tb 63 = some (8, c__law_variant_2) := rfl
theorem t__law_variant_3 : tb 64 = some (8, c__law_variant_3) := rfl
theorem t__law_whole : tb 65 = some (3, c__law_whole) := rfl
theorem t__law_among : tb 66 = some (2, c__law_among) := rfl
theorem t__law_good_place : tb 67 = some (1, c__law_good_place) := rfl
theorem t__law_good_terms : tb 68 = some (1, c__law_good_terms) := rfl
theorem t__law_good_deed : tb 69 = some (1, c__law_good_deed) := rfl
theorem t__law_good_way : tb 70 = some (3, c__law_good_way) := rfl
theorem t__law_good_spot : tb 71 = some (11, c__law_good_spot) := rfl
theorem t__law_refused : tb 72 = some (3, c__law_refused) := rfl
theorem t__law_bounds_right : tb 73 = some (2, c__law_bounds_right) := rfl
theorem t_law_k01 : tb 74 = some (11, c_law_k01) := rfl
theorem t__wall : tb 75 = some (1, c__wall) := rfl
theorem t_is_alone : tb 76 = some (2, c_is_alone) := rfl
theorem t_comes : tb 77 = some (5, c_comes) := rfl
theorem t_harms_of : tb 80 = some (2, c_harms_of) := rfl
theorem t_having : tb 81 = some (3, c_having) := rfl
theorem t_label : tb 82 = some (1, c_label) := rfl
theorem t_line_of : tb 83 = some (3, c_line_of) := rfl
theorem t_rule_in : tb 84 = some (5, c_rule_in) := rfl
theorem t_rule_line : tb 85 = some (1, c_rule_line) := rfl
theorem t_read_rule : tb 86 = some (1, c_read_rule) := rfl
theorem t_Terms___init__ : tb 87 = some (8, c_Terms___init__) := rfl
theorem t_Terms_of : tb 88 = some (8, c_Terms_of) := rfl
theorem t_Terms_source : tb 89 = some (1, c_Terms_source) := rfl
theorem t__law_terms_k71 : tb 90 = some (4, c__law_terms_k71) := rfl
theorem t__law_line : tb 91 = some (4, c__law_line) := rfl
theorem t__law_told : tb 92 = some (1, c__law_told) := rfl
theorem t__law_read : tb 93 = some (1, c__law_read) := rfl
theorem t__law_reading : tb 94 = some (4, c__law_reading) := rfl
theorem t__law_bent : tb 95 = some (8, c__law_bent) := rfl
theorem t_law_k71 : tb 96 = some (9, c_law_k71) := rfl
def supx (a b : Nat) : Bool := decide (a = b) || decide (b = 0)
end BH
end

section
set_option Elab.async false
set_option linter.all false
set_option maxRecDepth 100000
set_option maxHeartbeats 1000000
/-! Rules to reckon with the evaluator. -/
namespace BH
open PySem L2

/-! ### texts -/
@[simp] theorem ofs_inj (s t : String) : (Str.ofString s = Str.ofString t) = (s = t) := by
  apply propext
  refine ⟨fun h => ?_, fun h => by rw [h]⟩
  rw [Str.ofString_eq_toList, Str.ofString_eq_toList] at h
  have h1 : (s.toList.map Char.toNat) = (t.toList.map Char.toNat) := by
    have := congrArg (fun z : Str => z.cps.toList) h
    simpa using this
  have h2 : s.toList = t.toList := by
    refine List.map_inj_right (f := Char.toNat) (fun a b hab => ?_) |>.mp h1
    exact Char.ext (UInt32.toNat_inj.mp hab)
  exact String.toList_inj.mp h2
@[simp] theorem ofs_beq (s t : String) : (Str.ofString s == Str.ofString t) = decide (s = t) := by
  have : (Str.ofString s == Str.ofString t) = decide (Str.ofString s = Str.ofString t) := rfl
  rw [this]
  simp
@[simp] theorem ofs_ok (s : String) : PyData.strOk (Str.ofString s) = true := by
  unfold PyData.strOk
  rw [Str.ofString_eq_toList]
  rw [Array.all_eq_true']
  intro x hx
  simp only [List.mem_toArray, List.mem_map] at hx
  obtain ⟨c, _, rfl⟩ := hx
  have := c.valid
  simp only [decide_eq_true_eq]
  rcases this with h | h
  · have : c.toNat < 0xd800 := h
    omega
  · exact h.2

/-! ### data without places -/
mutual
def D.py : D → PyData
  | .non => .none
  | .bl b => .bool b
  | .int i => .int i
  | .str s => .str s
  | .tup ds => .tuple (D.pys ds)
  | .lsf ds => .list (D.pys ds)
  | .ll _ => .none
  | .dl _ => .none
  | .ol _ _ => .none
  | .fn _ => .none
def D.pys : List D → List PyData
  | [] => []
  | d :: ds => D.py d :: D.pys ds
end
mutual
/-- made of tuples, no deeper than n -/
def D.pu : Nat → D → Bool
  | _, .non => true
  | _, .bl _ => true
  | _, .int _ => true
  | _, .str s => PyData.strOk s
  | 0, .tup _ => false
  | n + 1, .tup ds => D.puL n ds
  | _, .lsf _ => false
  | _, .ll _ => false
  | _, .dl _ => false
  | _, .ol _ _ => false
  | _, .fn _ => false
def D.puL : Nat → List D → Bool
  | _, [] => true
  | n, d :: ds => D.pu n d && D.puL n ds
end
mutual
theorem res_pu (M : Store) : ∀ (d : D) (n k : Nat), D.pu n d = true → n < k → res k M d = some (D.py d) ∧ (D.py d).canLay0 = true ∧ (D.py d).depth ≤ n
  | .non, n, k + 1, _, _ => ⟨by simp [res, D.py], by simp [D.py, PyData.canLay0], by simp [D.py, PyData.depth]⟩
  | .bl _, n, k + 1, _, _ => ⟨by simp [res, D.py], by simp [D.py, PyData.canLay0], by simp [D.py, PyData.depth]⟩
  | .int _, n, k + 1, _, _ => ⟨by simp [res, D.py], by simp [D.py, PyData.canLay0], by simp [D.py, PyData.depth]⟩
  | .str s, n, k + 1, h, _ => ⟨by simp [res, D.py], by simp only [D.py, PyData.canLay0]; cases n <;> simpa [D.pu] using h, by simp [D.py, PyData.depth]⟩
  | .tup ds, 0, k + 1, h, _ => by simp [D.pu] at h
  | .tup ds, n + 1, k + 1, h, hk => by
    have h : D.puL n ds = true := by simpa [D.pu] using h
    obtain ⟨h1, h2, h3⟩ := res_puL M ds n k h (by omega)
    refine ⟨by simp only [res, h1, D.py, Option.map_some], by simp only [D.py, PyData.canLay0, h2], by simp only [D.py, PyData.depth]; omega⟩
  | .lsf _, n, _, h, _ => by cases n <;> simp [D.pu] at h
  | .ll _, n, _, h, _ => by cases n <;> simp [D.pu] at h
  | .dl _, n, _, h, _ => by cases n <;> simp [D.pu] at h
  | .ol _ _, n, _, h, _ => by cases n <;> simp [D.pu] at h
  | .fn _, n, _, h, _ => by cases n <;> simp [D.pu] at h
  | .non, _, 0, _, h => by omega
  | .bl _, _, 0, _, h => by omega
  | .int _, _, 0, _, h => by omega
  | .str _, _, 0, _, h => by omega
  | .tup _, _, 0, _, h => by omega
theorem res_puL (M : Store) : ∀ (ds : List D) (n k : Nat), D.puL n ds = true → n < k → mapO (res k M) ds = some (D.pys ds) ∧ PyData.canLayAll0 (D.pys ds) = true ∧ PyData.depthAll (D.pys ds) ≤ n
  | [], n, k, _, _ => ⟨by simp [mapO, D.pys], by simp [D.pys, PyData.canLayAll0], by simp [D.pys, PyData.depthAll]⟩
  | d :: ds, n, k, h, hk => by
    simp only [D.puL, Bool.and_eq_true] at h
    obtain ⟨a1, a2, a3⟩ := res_pu M d n k h.1 hk
    obtain ⟨b1, b2, b3⟩ := res_puL M ds n k h.2 hk
    refine ⟨by simp only [mapO, a1, b1, D.pys], by simp only [D.pys, PyData.canLayAll0, a2, b2]; rfl, by simp only [D.pys, PyData.depthAll]; omega⟩
end
/-- a == b of such data -/
def D.eq (a b : D) : Bool := PyData.eqv a.py b.py
theorem shp_pu {d : D} (h : D.pu 64 d = true) : shp d.py = true := by
  obtain ⟨_, h2, h3⟩ := res_pu [] d 64 66 h (by omega)
  show (d.py.canLay0 && decide (d.py.depth ≤ 64)) = true
  rw [h2, decide_eq_true h3]
  rfl
theorem eqD_pu {M : Store} {a b : D} (ha : D.pu 64 a = true) (hb : D.pu 64 b = true) : eqD M a b = some (D.eq a b) := by
  unfold eqD
  rw [(res_pu M a 64 66 ha (by omega)).1, (res_pu M b 64 66 hb (by omega)).1]
  dsimp only
  rw [shp_pu ha, shp_pu hb]
  rfl
theorem inD_pu {M : Store} {a : D} {ds : List D} (ha : D.pu 64 a = true) (hb : D.pu 64 (.tup ds) = true) : inD M a (.tup ds) = some (ds.any fun z => D.eq z a) := by
  unfold inD
  have e2 : (D.tup ds).py = .tuple (D.pys ds) := by simp [D.py]
  rw [(res_pu M a 64 66 ha (by omega)).1, (res_pu M _ 64 66 hb (by omega)).1, e2]
  dsimp only
  have := shp_pu hb
  rw [e2] at this
  rw [shp_pu ha, this]
  have : ∀ l : List D, (D.pys l).any (fun z => PyData.eqv z a.py) = l.any fun z => D.eq z a := by
    intro l
    induction l with
    | nil => simp [D.pys]
    | cons x xs ih => simp [D.pys, ih, D.eq]
  rw [this]
  rfl
theorem inD_ll {M : Store} {a : D} {l : Nat} {ds : List D} (hl : M[l]? = some (.lst ds)) (ha : D.pu 64 a = true) (hb : D.puL 63 ds = true) : inD M a (.ll l) = some (ds.any fun z => D.eq z a) := by
  unfold inD
  obtain ⟨h1, h2, h3⟩ := res_puL M ds 63 65 hb (by omega)
  have e : res 66 M (.ll l) = some (.list (D.pys ds)) := by
    simp only [res, hl, h1, Option.map_some]
  rw [(res_pu M a 64 66 ha (by omega)).1, e]
  dsimp only
  have s2 : shp (.list (D.pys ds)) = true := by
    show ((PyData.list (D.pys ds)).canLay0 && decide ((PyData.list (D.pys ds)).depth ≤ 64)) = true
    simp only [PyData.canLay0, PyData.depth, h2]
    simp
    omega
  rw [shp_pu ha, s2]
  have : ∀ l : List D, (D.pys l).any (fun z => PyData.eqv z a.py) = l.any fun z => D.eq z a := by
    intro l
    induction l with
    | nil => simp [D.pys]
    | cons x xs ih => simp [D.pys, ih, D.eq]
  rw [this]
  rfl

/-! ### the evaluator -/
section
variable (m : Nat → List D → Store → Out D) (sup : Nat → Nat → Bool) (σ : Env) (M : Store)
@[simp] theorem e_var (i : Nat) : evE m (.var i) σ M = getV σ i M := by simp only [evE]
@[simp] theorem e_cst (d : D) : evE m (.cst d) σ M = .ok d M := by simp only [evE]
@[simp] theorem e_gcst (x : Str) (d : D) : evE m (.gcst x d) σ M = .ok d M := by simp only [evE]
@[simp] theorem e_neg (a : CE) : evE m (.neg a) σ M = (evE m a σ M).bind negD := by simp only [evE]
@[simp] theorem e_nt (a : CE) : evE m (.nt a) σ M = ((evE m a σ M).bind truO).bind (kOk fun b => .bl (!b)) := by simp only [evE]
@[simp] theorem e_bin (op) (a b : CE) : evE m (.bin op a b) σ M = (evE m a σ M).bind (k2 (evE m b σ) (binD op)) := by simp only [evE]
@[simp] theorem e_cmp (op) (a b : CE) : evE m (.cmp op a b) σ M = (evE m a σ M).bind (k2 (evE m b σ) (cmpD op)) := by simp only [evE]
@[simp] theorem e_chn (op op') (a b c : CE) : evE m (.chn op op' a b c) σ M = (evE m a σ M).bind (k2 (evE m b σ) (kChn1 op op' (evE m c σ))) := by simp only [evE]
@[simp] theorem e_and (a b : CE) : evE m (.andv a b) σ M = (evE m a σ M).bind (kAnd (evE m b σ)) := by simp only [evE]
@[simp] theorem e_or (a b : CE) : evE m (.orv a b) σ M = (evE m a σ M).bind (kOr (evE m b σ)) := by simp only [evE]
@[simp] theorem e_ife (c a b : CE) : evE m (.ife c a b) σ M = ((evE m c σ M).bind truO).bind (kIf (evE m a σ) (evE m b σ)) := by simp only [evE]
@[simp] theorem e_tup (es : List CE) : evE m (.tup es) σ M = (evEs m es σ M).bind (kOk .tup) := by simp only [evE]
@[simp] theorem e_lst (es : List CE) : evE m (.lst es) σ M = (evEs m es σ M).bind kLst := by simp only [evE]
@[simp] theorem e_dic (es : List CE) : evE m (.dic es) σ M = (evEs m es σ M).bindN dicD := by simp only [evE]
@[simp] theorem e_sub (a i : CE) : evE m (.sub a i) σ M = (evE m a σ M).bind (k2 (evE m i σ) subD) := by simp only [evE]
@[simp] theorem e_slc (a lo hi : CE) : evE m (.slc a lo hi) σ M = (evE m a σ M).bind (kSl0 (isNo lo) (isNo hi) (evE m lo σ) (evE m hi σ)) := by simp only [evE]
@[simp] theorem e_call (f : Nat) (es : List CE) : evE m (.call f es) σ M = (evEs m es σ M).bind (m f) := by simp only [evE]
@[simp] theorem e_bi (b : Bi) (es : List CE) : evE m (.bi b es) σ M = (evEs m es σ M).bind (biD b) := by simp only [evE]
@[simp] theorem e_me (mt : Me) (o : CE) (es : List CE) : evE m (.me mt o es) σ M = (evE m o σ M).bind (kMe mt (evEs m es σ)) := by simp only [evE]
@[simp] theorem e_isi (a : CE) (t : String) : evE m (.isi a t) σ M = (evE m a σ M).bind (isiD t) := by simp only [evE]
@[simp] theorem e_srs (a : CE) : evE m (.srs a) σ M = (evE m a σ M).bind srsD := by simp only [evE]
@[simp] theorem e_srt (a : CE) : evE m (.srt a) σ M = (evE m a σ M).bind srtD := by simp only [evE]
@[simp] theorem e_calv (i : Nat) (fs : List Nat) (es : List CE) : evE m (.calv i fs es) σ M = (getV σ i M).bind (kCalv m fs (evEs m es σ)) := by simp only [evE]
@[simp] theorem e_rev (a : CE) : evE m (.rev a) σ M = (evE m a σ M).bind revD := by simp only [evE]
@[simp] theorem e_odd (a : CE) : evE m (.odd a) σ M = (evE m a σ M).bind oddD := by simp only [evE]
@[simp] theorem e_cal0 (f : Nat) : evE m (.cal0 f) σ M = (m f [] M).bindN kOk' := by simp only [evE]
@[simp] theorem e_lrg (a b : CE) : evE m (.lrg a b) σ M = (evE m a σ M).bind (k2 (evE m b σ) lrgD) := by simp only [evE]
@[simp] theorem e_lc (elt : CE) (tg : CT) (it : CI) (ifs : List CE) (vs : List Nat) : evE m (.lc elt tg it ifs vs) σ M = (evI m it σ M).bind (kLc (evG m tg) (evIf m ifs) (evE m elt) (wipeD σ vs)) := by simp only [evE]
@[simp] theorem es_nil : evEs m [] σ M = .ok [] M := by simp only [evEs]
@[simp] theorem es_cons (e : CE) (es : List CE) : evEs m (e :: es) σ M = (evE m e σ M).bind (k2 (evEs m es σ) (kOk2 .cons)) := by simp only [evEs]
@[simp] theorem i_exE (e : CE) : evI m (.ex e) σ M = (evE m e σ M).bind itmD := by simp only [evI]
@[simp] theorem i_rngE (a b : CE) : evI m (.rng a b) σ M = (evE m a σ M).bind (k2 (evE m b σ) rngD) := by simp only [evI]
@[simp] theorem i_zipE (a b : CE) : evI m (.zip a b) σ M = (evE m a σ M).bind (k2 (evE m b σ) zipD) := by simp only [evI]
@[simp] theorem if_nil : evIf m [] σ M = .ok true M := by simp only [evIf]
@[simp] theorem if_cons (c : CE) (cs : List CE) : evIf m (c :: cs) σ M = ((evE m c σ M).bind truO).bind (kAndT (evIf m cs σ)) := by simp only [evIf]
@[simp] theorem g_nm (i : Nat) (d : D) : evG m (.nm i) d σ M = .ok (σ.set i (some d)) M := by simp only [evG]
@[simp] theorem g_tupt (ts : List CT) (ds : List D) : evG m (.tup ts) (.tup ds) σ M = if ds.length = ts.length then evGs m ts ds σ M else .bad := by simp only [evG]
@[simp] theorem g_subt (o i : CE) (d : D) : evG m (.sub o i) d σ M = (evE m o σ M).bind (k2 (evE m i σ) (kSet σ d)) := by simp only [evG]
@[simp] theorem g_slct (o lo hi : CE) (d : D) : evG m (.slc o lo hi) d σ M = (evE m o σ M).bind (kSs0 σ d (evE m lo σ) (evE m hi σ)) := by simp only [evG]
@[simp] theorem gs_nilE : evGs m [] [] σ M = .ok σ M := by simp only [evGs]
@[simp] theorem gs_consE (t : CT) (ts : List CT) (d : D) (ds : List D) : evGs m (t :: ts) (d :: ds) σ M = (evG m t d σ M).bind (evGs m ts ds) := by simp only [evGs]
@[simp] theorem t_ev (c : CE) : evT m c σ M = (evE m c σ M).bind truO := rfl
@[simp] theorem s_expE (e : CE) : evS m sup (.exp e) σ M = (evE m e σ M).so σ (sNx σ) := by simp only [evS]
@[simp] theorem s_asgE (t : CT) (e : CE) : evS m sup (.asg t e) σ M = (evE m e σ M).so σ (sAsg (evG m t) σ) := by simp only [evS]
@[simp] theorem s_parE (is : List Nat) (es : List CE) : evS m sup (.par is es) σ M = (evEs m es σ M).so σ (sPar is σ) := by simp only [evS]
@[simp] theorem s_retE (e : CE) : evS m sup (.ret e) σ M = (evE m e σ M).so σ sRt := by simp only [evS]
@[simp] theorem s_retNE : evS m sup .retN σ M = .rt .non M := by simp only [evS]
@[simp] theorem s_iffE (c : CE) (a b : List CS) : evS m sup (.iff c a b) σ M = (evT m c σ M).so σ (sIf (evSs m sup a) (evSs m sup b) σ) := by simp only [evS]
@[simp] theorem s_forE (t : CT) (it : CI) (body : List CS) : evS m sup (.for_ t it body) σ M = (evI m it σ M).so σ (sFor (evG m t) (evSs m sup body) σ) := by simp only [evS]
@[simp] theorem s_whlE (c : CE) (body : List CS) : evS m sup (.whl c body) σ M = whlL (evT m c) (evSs m sup body) fuel σ M := by simp only [evS]
@[simp] theorem s_pasE : evS m sup .pas σ M = .nx σ M := by simp only [evS]
@[simp] theorem s_brkE : evS m sup .brk σ M = .bk σ M := by simp only [evS]
@[simp] theorem s_cntE : evS m sup .cnt σ M = .ct σ M := by simp only [evS]
@[simp] theorem s_raiE (c : Nat) : evS m sup (.rai c) σ M = .ex ⟨c, none⟩ σ M := by simp only [evS]
@[simp] theorem s_triE (body : List CS) (hs : List (Nat × CE)) : evS m sup (.tri body hs) σ M = (evSs m sup body σ M).catch_ (evH m sup hs) := by simp only [evS]
@[simp] theorem ss_nilE : evSs m sup [] σ M = .nx σ M := by simp only [evSs]
@[simp] theorem ss_consE (s : CS) (ss : List CS) : evSs m sup (s :: ss) σ M = (evS m sup s σ M).seq (evSs m sup ss) := by simp only [evSs]
end
/-! what follows a part -/
section
variable {α β γ : Type} (M : Store)
@[simp] theorem b_ok (a : α) (k : α → Store → Out β) : (Out.ok a M).bind k = k a M := rfl
@[simp] theorem b_ex (e : Ex) (k : α → Store → Out β) : (Out.ex e M : Out α).bind k = .ex e M := rfl
@[simp] theorem bN_ok (a : α) (k : α → Store → Out β) : (Out.ok a M).bindN k = k a M := rfl
@[simp] theorem so_okE (a : α) (σ : Env) (k : α → Store → SO) : (Out.ok a M).so σ k = k a M := rfl
@[simp] theorem so_exE (e : Ex) (σ : Env) (k : α → Store → SO) : (Out.ex e M : Out α).so σ k = .ex e σ M := rfl
@[simp] theorem soN_okE (a : α) (k : α → Store → SO) : (Out.ok a M).soN k = k a M := rfl
@[simp] theorem seq_nxE (σ : Env) (k : Env → Store → SO) : (SO.nx σ M).seq k = k σ M := rfl
@[simp] theorem seq_rtE (d : D) (k : Env → Store → SO) : (SO.rt d M).seq k = .rt d M := rfl
@[simp] theorem seq_bkE (σ : Env) (k : Env → Store → SO) : (SO.bk σ M).seq k = .bk σ M := rfl
@[simp] theorem seq_ctE (σ : Env) (k : Env → Store → SO) : (SO.ct σ M).seq k = .ct σ M := rfl
@[simp] theorem seq_exE (e : Ex) (σ : Env) (k : Env → Store → SO) : (SO.ex e σ M).seq k = .ex e σ M := rfl
@[simp] theorem turn_nxE (σ : Env) (k : Env → Store → SO) : (SO.nx σ M).turn k = k σ M := rfl
@[simp] theorem turn_ctE (σ : Env) (k : Env → Store → SO) : (SO.ct σ M).turn k = k σ M := rfl
@[simp] theorem turn_bkE (σ : Env) (k : Env → Store → SO) : (SO.bk σ M).turn k = .nx σ M := rfl
@[simp] theorem turn_rtE (d : D) (k : Env → Store → SO) : (SO.rt d M).turn k = .rt d M := rfl
@[simp] theorem turn_exE (e : Ex) (σ : Env) (k : Env → Store → SO) : (SO.ex e σ M).turn k = .ex e σ M := rfl
@[simp] theorem catch_nx (σ : Env) (h) : (SO.nx σ M).catch_ h = .nx σ M := rfl
@[simp] theorem catch_rt (d : D) (h) : (SO.rt d M).catch_ h = .rt d M := rfl
@[simp] theorem catch_ex (e : Ex) (σ : Env) (h) : (SO.ex e σ M).catch_ h = h e σ M := rfl
@[simp] theorem k2E (f : Store → Out β) (g : α → β → Store → Out γ) (a : α) : k2 f g a M = (f M).bind (g a) := rfl
@[simp] theorem kIfE (f g : Store → Out α) (t : Bool) : kIf f g t M = if t = true then f M else g M := by cases t <;> rfl
@[simp] theorem kOkE (f : α → β) (a : α) : kOk f a M = .ok (f a) M := rfl
@[simp] theorem kOk2E (f : α → β → γ) (a : α) (b : β) : kOk2 f a b M = .ok (f a b) M := rfl
@[simp] theorem kOk'E (a : α) : kOk' a M = .ok a M := rfl
@[simp] theorem sNxE (σ : Env) (d : D) : sNx σ d M = .nx σ M := rfl
@[simp] theorem sRtE (d : D) : sRt d M = .rt d M := rfl
@[simp] theorem sAsgE (gF : D → Env → Store → Out Env) (σ : Env) (d : D) : sAsg gF σ d M = (gF d σ M).soN .nx := rfl
@[simp] theorem sForE (gF : D → Env → Store → Out Env) (bF : Env → Store → SO) (σ : Env) (it : Itm) : sFor gF bF σ it M = forL it.chk gF bF it.ds σ M := rfl
@[simp] theorem forKE (bF rest : Env → Store → SO) (σ : Env) : forK bF rest σ M = (bF σ M).turn rest := rfl
@[simp] theorem sIfE (f g : Env → Store → SO) (σ : Env) (t : Bool) : sIf f g σ t M = if t = true then f σ M else g σ M := by cases t <;> rfl
@[simp] theorem kAndTE (f : Store → Out Bool) (t : Bool) : kAndT f t M = if t = true then f M else .ok false M := by cases t <;> rfl
@[simp] theorem kSetE (σ : Env) (d a b : D) : kSet σ d a b M = (setD a b d M).bind (kOk fun _ => σ) := rfl
@[simp] theorem kSs0E (σ : Env) (d : D) (f g : Store → Out D) (o : D) : kSs0 σ d f g o M = (f M).bind (kSs1 σ d g o) := rfl
@[simp] theorem kSs1E (σ : Env) (d : D) (g : Store → Out D) (o a : D) : kSs1 σ d g o a M = (g M).bind (kSs2 σ d o a) := rfl
@[simp] theorem kSs2E (σ : Env) (d o a c : D) : kSs2 σ d o a c M = (setSl o a c d M).bind (kOk fun _ => σ) := rfl
@[simp] theorem kLstE (ds : List D) : kLst ds M = newL M ds := rfl
@[simp] theorem kLcE (tgF : D → Env → Store → Out Env) (ifF : Env → Store → Out Bool) (eF : Env → Store → Out D) (σ : Env) (it : Itm) : kLc tgF ifF eF σ it M = lcL it.chk tgF ifF eF σ it.ds [] M := rfl
@[simp] theorem lcK1E (ifF : Env → Store → Out Bool) (eF : Env → Store → Out D) (rest : List D → Store → Out D) (acc : List D) (σ : Env) : lcK1 ifF eF rest acc σ M = (ifF σ M).bindN (lcK2 eF rest acc σ) := rfl
@[simp] theorem lcK2E (eF : Env → Store → Out D) (rest : List D → Store → Out D) (acc : List D) (σ : Env) (t : Bool) : lcK2 eF rest acc σ t M = if t = true then (eF σ M).bindN (lcK3 rest acc) else rest acc M := by cases t <;> rfl
@[simp] theorem lcK3E (rest : List D → Store → Out D) (acc : List D) (d : D) : lcK3 rest acc d M = rest (acc ++ [d]) M := rfl
@[simp] theorem kMe_append (f : Store → Out (List D)) (l : Nat) : kMe .append f (.ll l) M = (f M).bind (meD .append (.ll l)) := rfl
@[simp] theorem kMe_index (f : Store → Out (List D)) (l : Nat) : kMe .index f (.ll l) M = (f M).bind (meD .index (.ll l)) := rfl
@[simp] theorem kMe_pop (f : Store → Out (List D)) (l : Nat) : kMe .pop f (.ll l) M = (f M).bind (meD .pop (.ll l)) := rfl
@[simp] theorem kMe_join (f : Store → Out (List D)) (s : Str) : kMe .join f (.str s) M = (f M).bind (meD .join (.str s)) := rfl
@[simp] theorem kMe_split (f : Store → Out (List D)) (s : Str) : kMe .split f (.str s) M = (f M).bind (meD .split (.str s)) := rfl
@[simp] theorem kMe_upper (f : Store → Out (List D)) (s : Str) : kMe .upper f (.str s) M = (f M).bind (meD .upper (.str s)) := rfl
@[simp] theorem kMe_get (f : Store → Out (List D)) (l : Nat) : kMe .get f (.dl l) M = (f M).bind (meD .get (.dl l)) := rfl
@[simp] theorem intO_t (d : D) : intO true d M = .ok none M := rfl
@[simp] theorem intO_f (i : Int) : intO false (.int i) M = .ok (some i) M := rfl
@[simp] theorem kSl2E (a : D) (lo hi : Option Int) : kSl2 a lo hi M = slcD a lo hi M := rfl
@[simp] theorem kSl1E (no : Bool) (f : Store → Out D) (a : D) (lo : Option Int) : kSl1 no f a lo M = ((f M).bind (intO no)).bind (kSl2 a lo) := rfl
@[simp] theorem kSl0E (no no' : Bool) (f g : Store → Out D) (a : D) : kSl0 no no' f g a M = ((f M).bind (intO no)).bind (kSl1 no' g a) := rfl
@[simp] theorem isNo_n : isNo (.cst .non) = true := rfl
@[simp] theorem isNo_i (i : Int) : isNo (.cst (.int i)) = false := rfl
@[simp] theorem isNo_v (i : Nat) : isNo (.var i) = false := rfl
@[simp] theorem isNo_b (op a b) : isNo (.bin op a b) = false := rfl
@[simp] theorem isNo_l (b es) : isNo (.bi b es) = false := rfl
end
/-! operations -/
section
variable (M : Store)
@[simp] theorem tru_non : tru M .non = some false := rfl
@[simp] theorem tru_bl (b : Bool) : tru M (.bl b) = some b := rfl
@[simp] theorem truO_bl (b : Bool) : truO (.bl b) M = .ok b M := rfl
@[simp] theorem kAnd_bl (f : Store → Out D) (b : Bool) : kAnd f (.bl b) M = if b = true then f M else .ok (.bl false) M := by cases b <;> rfl
@[simp] theorem kOr_bl (f : Store → Out D) (b : Bool) : kOr f (.bl b) M = if b = true then .ok (.bl true) M else f M := by cases b <;> rfl
@[simp] theorem add_ii (i j : Int) : binD .Add (.int i) (.int j) M = .ok (.int (i + j)) M := rfl
@[simp] theorem sub_ii (i j : Int) : binD .Sub (.int i) (.int j) M = .ok (.int (i - j)) M := rfl
@[simp] theorem lt_ii (i j : Int) : cmpD .Lt (.int i) (.int j) M = .ok (.bl (decide (i < j))) M := rfl
@[simp] theorem le_ii (i j : Int) : cmpD .LtE (.int i) (.int j) M = .ok (.bl (decide (i ≤ j))) M := rfl
@[simp] theorem gt_ii (i j : Int) : cmpD .Gt (.int i) (.int j) M = .ok (.bl (decide (j < i))) M := rfl
@[simp] theorem ge_ii (i j : Int) : cmpD .GtE (.int i) (.int j) M = .ok (.bl (decide (j ≤ i))) M := rfl
@[simp] theorem eq_E (a b : D) : cmpD .Eq a b M = outB M (eqD M a b) := rfl
@[simp] theorem ne_E (a b : D) : cmpD .NotEq a b M = outB M ((eqD M a b).map (!·)) := rfl
@[simp] theorem in_E (a b : D) : cmpD .In a b M = outB M (inD M a b) := rfl
@[simp] theorem notin_E (a b : D) : cmpD .NotIn a b M = outB M ((inD M a b).map (!·)) := rfl
@[simp] theorem is_nn : cmpD .Is .non .non M = .ok (.bl true) M := rfl
@[simp] theorem is_in (i : Int) : cmpD .Is (.int i) .non M = .ok (.bl false) M := rfl
@[simp] theorem is_tn (ds : List D) : cmpD .Is (.tup ds) .non M = .ok (.bl false) M := rfl
@[simp] theorem is_ln (l : Nat) : cmpD .Is (.ll l) .non M = .ok (.bl false) M := rfl
@[simp] theorem isn_nn : cmpD .IsNot .non .non M = .ok (.bl false) M := rfl
@[simp] theorem isn_in (i : Int) : cmpD .IsNot (.int i) .non M = .ok (.bl true) M := rfl
@[simp] theorem isn_tn (ds : List D) : cmpD .IsNot (.tup ds) .non M = .ok (.bl true) M := rfl
@[simp] theorem isn_ln (l : Nat) : cmpD .IsNot (.ll l) .non M = .ok (.bl true) M := rfl
@[simp] theorem outB_some (b : Bool) : outB M (some b) = .ok (.bl b) M := rfl
@[simp] theorem kChn1E (op op' f a b) : kChn1 op op' f a b M = (cmpD op a b M).bind (kChn op' f b) := rfl
@[simp] theorem kChnE (op' f b) (t : Bool) : kChn op' f b (.bl t) M = if t = true then (f M).bind (cmpD op' b) else .ok (.bl false) M := by cases t <;> rfl
@[simp] theorem max_ii (i j : Int) : biD .max [.int i, .int j] M = .ok (.int (max i j)) M := by
  show Out.ok (D.int (if j > i then j else i)) M = _
  congr 2
  omega
@[simp] theorem min_ii (i j : Int) : biD .min [.int i, .int j] M = .ok (.int (min i j)) M := by
  show Out.ok (D.int (if j < i then j else i)) M = _
  congr 2
  omega
@[simp] theorem len_t (ds : List D) : biD .len [.tup ds] M = .ok (.int ds.length) M := rfl
@[simp] theorem isi_bb (b : Bool) : isiD "bool" (.bl b) M = .ok (.bl true) M := by
  show outB M (kitB "bool" "bool") = _
  rw [show kitB "bool" "bool" = some true by decide +kernel]; rfl
end
end BH
end

section
set_option Elab.async false
set_option linter.all false
set_option maxRecDepth 100000
set_option maxHeartbeats 1000000
namespace BH
open PySem L2
variable (M : Store)
theorem kit_int_int : kitB "int" "int" = some true := by decide +kernel
theorem kit_int_bool : kitB "int" "bool" = some false := by decide +kernel
theorem kit_int_str : kitB "int" "str" = some false := by decide +kernel
theorem kit_int_tuple : kitB "int" "tuple" = some false := by decide +kernel
theorem kit_int_list : kitB "int" "list" = some false := by decide +kernel
theorem kit_bool_int : kitB "bool" "int" = some true := by decide +kernel
theorem kit_bool_bool : kitB "bool" "bool" = some true := by decide +kernel
theorem kit_bool_str : kitB "bool" "str" = some false := by decide +kernel
theorem kit_bool_tuple : kitB "bool" "tuple" = some false := by decide +kernel
theorem kit_bool_list : kitB "bool" "list" = some false := by decide +kernel
theorem kit_str_int : kitB "str" "int" = some false := by decide +kernel
theorem kit_str_bool : kitB "str" "bool" = some false := by decide +kernel
theorem kit_str_str : kitB "str" "str" = some true := by decide +kernel
theorem kit_str_tuple : kitB "str" "tuple" = some false := by decide +kernel
theorem kit_str_list : kitB "str" "list" = some false := by decide +kernel
theorem kit_NoneType_int : kitB "NoneType" "int" = some false := by decide +kernel
theorem kit_NoneType_bool : kitB "NoneType" "bool" = some false := by decide +kernel
theorem kit_NoneType_str : kitB "NoneType" "str" = some false := by decide +kernel
theorem kit_NoneType_tuple : kitB "NoneType" "tuple" = some false := by decide +kernel
theorem kit_NoneType_list : kitB "NoneType" "list" = some false := by decide +kernel
theorem kit_tuple_int : kitB "tuple" "int" = some false := by decide +kernel
theorem kit_tuple_bool : kitB "tuple" "bool" = some false := by decide +kernel
theorem kit_tuple_str : kitB "tuple" "str" = some false := by decide +kernel
theorem kit_tuple_tuple : kitB "tuple" "tuple" = some true := by decide +kernel
theorem kit_tuple_list : kitB "tuple" "list" = some false := by decide +kernel
theorem kit_list_int : kitB "list" "int" = some false := by decide +kernel
theorem kit_list_bool : kitB "list" "bool" = some false := by decide +kernel
theorem kit_list_str : kitB "list" "str" = some false := by decide +kernel
theorem kit_list_tuple : kitB "list" "tuple" = some false := by decide +kernel
theorem kit_list_list : kitB "list" "list" = some true := by decide +kernel
theorem kit_dict_int : kitB "dict" "int" = some false := by decide +kernel
theorem kit_dict_bool : kitB "dict" "bool" = some false := by decide +kernel
theorem kit_dict_str : kitB "dict" "str" = some false := by decide +kernel
theorem kit_dict_tuple : kitB "dict" "tuple" = some false := by decide +kernel
theorem kit_dict_list : kitB "dict" "list" = some false := by decide +kernel
@[simp] theorem isi_int_int (i : Int) : isiD "int" (.int i) M = .ok (.bl true) M := by show outB M (kitB "int" "int") = _; rw [kit_int_int]; rfl
@[simp] theorem isi_int_bool (i : Int) : isiD "bool" (.int i) M = .ok (.bl false) M := by show outB M (kitB "int" "bool") = _; rw [kit_int_bool]; rfl
@[simp] theorem isi_int_str (i : Int) : isiD "str" (.int i) M = .ok (.bl false) M := by show outB M (kitB "int" "str") = _; rw [kit_int_str]; rfl
@[simp] theorem isi_int_tuple (i : Int) : isiD "tuple" (.int i) M = .ok (.bl false) M := by show outB M (kitB "int" "tuple") = _; rw [kit_int_tuple]; rfl
@[simp] theorem isi_int_list (i : Int) : isiD "list" (.int i) M = .ok (.bl false) M := by show outB M (kitB "int" "list") = _; rw [kit_int_list]; rfl
@[simp] theorem isi_bl_int (b : Bool) : isiD "int" (.bl b) M = .ok (.bl true) M := by show outB M (kitB "bool" "int") = _; rw [kit_bool_int]; rfl
@[simp] theorem isi_bl_str (b : Bool) : isiD "str" (.bl b) M = .ok (.bl false) M := by show outB M (kitB "bool" "str") = _; rw [kit_bool_str]; rfl
@[simp] theorem isi_bl_tuple (b : Bool) : isiD "tuple" (.bl b) M = .ok (.bl false) M := by show outB M (kitB "bool" "tuple") = _; rw [kit_bool_tuple]; rfl
@[simp] theorem isi_bl_list (b : Bool) : isiD "list" (.bl b) M = .ok (.bl false) M := by show outB M (kitB "bool" "list") = _; rw [kit_bool_list]; rfl
@[simp] theorem isi_str_int (s : Str) : isiD "int" (.str s) M = .ok (.bl false) M := by show outB M (kitB "str" "int") = _; rw [kit_str_int]; rfl
@[simp] theorem isi_str_bool (s : Str) : isiD "bool" (.str s) M = .ok (.bl false) M := by show outB M (kitB "str" "bool") = _; rw [kit_str_bool]; rfl
@[simp] theorem isi_str_str (s : Str) : isiD "str" (.str s) M = .ok (.bl true) M := by show outB M (kitB "str" "str") = _; rw [kit_str_str]; rfl
@[simp] theorem isi_str_tuple (s : Str) : isiD "tuple" (.str s) M = .ok (.bl false) M := by show outB M (kitB "str" "tuple") = _; rw [kit_str_tuple]; rfl
@[simp] theorem isi_str_list (s : Str) : isiD "list" (.str s) M = .ok (.bl false) M := by show outB M (kitB "str" "list") = _; rw [kit_str_list]; rfl
@[simp] theorem isi_non_int  : isiD "int" (.non) M = .ok (.bl false) M := by show outB M (kitB "NoneType" "int") = _; rw [kit_NoneType_int]; rfl
@[simp] theorem isi_non_bool  : isiD "bool" (.non) M = .ok (.bl false) M := by show outB M (kitB "NoneType" "bool") = _; rw [kit_NoneType_bool]; rfl
@[simp] theorem isi_non_str  : isiD "str" (.non) M = .ok (.bl false) M := by show outB M (kitB "NoneType" "str") = _; rw [kit_NoneType_str]; rfl
@[simp] theorem isi_non_tuple  : isiD "tuple" (.non) M = .ok (.bl false) M := by show outB M (kitB "NoneType" "tuple") = _; rw [kit_NoneType_tuple]; rfl
@[simp] theorem isi_non_list  : isiD "list" (.non) M = .ok (.bl false) M := by show outB M (kitB "NoneType" "list") = _; rw [kit_NoneType_list]; rfl
@[simp] theorem isi_tup_int (ds : List D) : isiD "int" (.tup ds) M = .ok (.bl false) M := by show outB M (kitB "tuple" "int") = _; rw [kit_tuple_int]; rfl
@[simp] theorem isi_tup_bool (ds : List D) : isiD "bool" (.tup ds) M = .ok (.bl false) M := by show outB M (kitB "tuple" "bool") = _; rw [kit_tuple_bool]; rfl
@[simp] theorem isi_tup_str (ds : List D) : isiD "str" (.tup ds) M = .ok (.bl false) M := by show outB M (kitB "tuple" "str") = _; rw [kit_tuple_str]; rfl
@[simp] theorem isi_tup_tuple (ds : List D) : isiD "tuple" (.tup ds) M = .ok (.bl true) M := by show outB M (kitB "tuple" "tuple") = _; rw [kit_tuple_tuple]; rfl
@[simp] theorem isi_tup_list (ds : List D) : isiD "list" (.tup ds) M = .ok (.bl false) M := by show outB M (kitB "tuple" "list") = _; rw [kit_tuple_list]; rfl
@[simp] theorem isi_ll_int (l : Nat) : isiD "int" (.ll l) M = .ok (.bl false) M := by show outB M (kitB "list" "int") = _; rw [kit_list_int]; rfl
@[simp] theorem isi_ll_bool (l : Nat) : isiD "bool" (.ll l) M = .ok (.bl false) M := by show outB M (kitB "list" "bool") = _; rw [kit_list_bool]; rfl
@[simp] theorem isi_ll_str (l : Nat) : isiD "str" (.ll l) M = .ok (.bl false) M := by show outB M (kitB "list" "str") = _; rw [kit_list_str]; rfl
@[simp] theorem isi_ll_tuple (l : Nat) : isiD "tuple" (.ll l) M = .ok (.bl false) M := by show outB M (kitB "list" "tuple") = _; rw [kit_list_tuple]; rfl
@[simp] theorem isi_ll_list (l : Nat) : isiD "list" (.ll l) M = .ok (.bl true) M := by show outB M (kitB "list" "list") = _; rw [kit_list_list]; rfl
@[simp] theorem isi_lsf_int (ds : List D) : isiD "int" (.lsf ds) M = .ok (.bl false) M := by show outB M (kitB "list" "int") = _; rw [kit_list_int]; rfl
@[simp] theorem isi_lsf_bool (ds : List D) : isiD "bool" (.lsf ds) M = .ok (.bl false) M := by show outB M (kitB "list" "bool") = _; rw [kit_list_bool]; rfl
@[simp] theorem isi_lsf_str (ds : List D) : isiD "str" (.lsf ds) M = .ok (.bl false) M := by show outB M (kitB "list" "str") = _; rw [kit_list_str]; rfl
@[simp] theorem isi_lsf_tuple (ds : List D) : isiD "tuple" (.lsf ds) M = .ok (.bl false) M := by show outB M (kitB "list" "tuple") = _; rw [kit_list_tuple]; rfl
@[simp] theorem isi_lsf_list (ds : List D) : isiD "list" (.lsf ds) M = .ok (.bl true) M := by show outB M (kitB "list" "list") = _; rw [kit_list_list]; rfl
@[simp] theorem isi_dl_int (l : Nat) : isiD "int" (.dl l) M = .ok (.bl false) M := by show outB M (kitB "dict" "int") = _; rw [kit_dict_int]; rfl
@[simp] theorem isi_dl_bool (l : Nat) : isiD "bool" (.dl l) M = .ok (.bl false) M := by show outB M (kitB "dict" "bool") = _; rw [kit_dict_bool]; rfl
@[simp] theorem isi_dl_str (l : Nat) : isiD "str" (.dl l) M = .ok (.bl false) M := by show outB M (kitB "dict" "str") = _; rw [kit_dict_str]; rfl
@[simp] theorem isi_dl_tuple (l : Nat) : isiD "tuple" (.dl l) M = .ok (.bl false) M := by show outB M (kitB "dict" "tuple") = _; rw [kit_dict_tuple]; rfl
@[simp] theorem isi_dl_list (l : Nat) : isiD "list" (.dl l) M = .ok (.bl false) M := by show outB M (kitB "dict" "list") = _; rw [kit_dict_list]; rfl
@[simp] theorem sub_t0 (a : D) (r : List D) : subD (.tup (a :: r)) (.int 0) M = .ok a M := by
  show (match L2.atI (a :: r) 0 with | some v => Out.ok v M | none => .bad) = _
  have : L2.atI (a :: r) 0 = some a := by unfold L2.atI L2.ixN; rw [if_pos (by decide), if_pos (by simp only [List.length_cons]; omega)]; rfl
  rw [this]
theorem sub_l0 {l : Nat} {a : D} {r : List D} (h : M[l]? = some (.lst (a :: r))) : subD (.ll l) (.int 0) M = .ok a M := by
  show (match M[l]? with | some (.lst xs) => (match L2.atI xs 0 with | some v => Out.ok v M | none => .bad) | _ => .bad) = _
  rw [h]
  have : L2.atI (a :: r) 0 = some a := by unfold L2.atI L2.ixN; rw [if_pos (by decide), if_pos (by simp only [List.length_cons]; omega)]; rfl
  dsimp only
  rw [this]
@[simp] theorem sub_t1 (a b : D) (r : List D) : subD (.tup (a :: b :: r)) (.int 1) M = .ok b M := by
  show (match L2.atI (a :: b :: r) 1 with | some v => Out.ok v M | none => .bad) = _
  have : L2.atI (a :: b :: r) 1 = some b := by unfold L2.atI L2.ixN; rw [if_pos (by decide), if_pos (by simp only [List.length_cons]; omega)]; rfl
  rw [this]
theorem sub_l1 {l : Nat} {a b : D} {r : List D} (h : M[l]? = some (.lst (a :: b :: r))) : subD (.ll l) (.int 1) M = .ok b M := by
  show (match M[l]? with | some (.lst xs) => (match L2.atI xs 1 with | some v => Out.ok v M | none => .bad) | _ => .bad) = _
  rw [h]
  have : L2.atI (a :: b :: r) 1 = some b := by unfold L2.atI L2.ixN; rw [if_pos (by decide), if_pos (by simp only [List.length_cons]; omega)]; rfl
  dsimp only
  rw [this]
@[simp] theorem sub_t2 (a b c : D) (r : List D) : subD (.tup (a :: b :: c :: r)) (.int 2) M = .ok c M := by
  show (match L2.atI (a :: b :: c :: r) 2 with | some v => Out.ok v M | none => .bad) = _
  have : L2.atI (a :: b :: c :: r) 2 = some c := by unfold L2.atI L2.ixN; rw [if_pos (by decide), if_pos (by simp only [List.length_cons]; omega)]; rfl
  rw [this]
theorem sub_l2 {l : Nat} {a b c : D} {r : List D} (h : M[l]? = some (.lst (a :: b :: c :: r))) : subD (.ll l) (.int 2) M = .ok c M := by
  show (match M[l]? with | some (.lst xs) => (match L2.atI xs 2 with | some v => Out.ok v M | none => .bad) | _ => .bad) = _
  rw [h]
  have : L2.atI (a :: b :: c :: r) 2 = some c := by unfold L2.atI L2.ixN; rw [if_pos (by decide), if_pos (by simp only [List.length_cons]; omega)]; rfl
  dsimp only
  rw [this]
@[simp] theorem sub_t3 (a b c d : D) (r : List D) : subD (.tup (a :: b :: c :: d :: r)) (.int 3) M = .ok d M := by
  show (match L2.atI (a :: b :: c :: d :: r) 3 with | some v => Out.ok v M | none => .bad) = _
  have : L2.atI (a :: b :: c :: d :: r) 3 = some d := by unfold L2.atI L2.ixN; rw [if_pos (by decide), if_pos (by simp only [List.length_cons]; omega)]; rfl
  rw [this]
theorem sub_l3 {l : Nat} {a b c d : D} {r : List D} (h : M[l]? = some (.lst (a :: b :: c :: d :: r))) : subD (.ll l) (.int 3) M = .ok d M := by
  show (match M[l]? with | some (.lst xs) => (match L2.atI xs 3 with | some v => Out.ok v M | none => .bad) | _ => .bad) = _
  rw [h]
  have : L2.atI (a :: b :: c :: d :: r) 3 = some d := by unfold L2.atI L2.ixN; rw [if_pos (by decide), if_pos (by simp only [List.length_cons]; omega)]; rfl
  dsimp only
  rw [this]
@[simp] theorem sub_t4 (a b c d e : D) (r : List D) : subD (.tup (a :: b :: c :: d :: e :: r)) (.int 4) M = .ok e M := by
  show (match L2.atI (a :: b :: c :: d :: e :: r) 4 with | some v => Out.ok v M | none => .bad) = _
  have : L2.atI (a :: b :: c :: d :: e :: r) 4 = some e := by unfold L2.atI L2.ixN; rw [if_pos (by decide), if_pos (by simp only [List.length_cons]; omega)]; rfl
  rw [this]
theorem sub_l4 {l : Nat} {a b c d e : D} {r : List D} (h : M[l]? = some (.lst (a :: b :: c :: d :: e :: r))) : subD (.ll l) (.int 4) M = .ok e M := by
  show (match M[l]? with | some (.lst xs) => (match L2.atI xs 4 with | some v => Out.ok v M | none => .bad) | _ => .bad) = _
  rw [h]
  have : L2.atI (a :: b :: c :: d :: e :: r) 4 = some e := by unfold L2.atI L2.ixN; rw [if_pos (by decide), if_pos (by simp only [List.length_cons]; omega)]; rfl
  dsimp only
  rw [this]
@[simp] theorem sub_t5 (a b c d e f : D) (r : List D) : subD (.tup (a :: b :: c :: d :: e :: f :: r)) (.int 5) M = .ok f M := by
  show (match L2.atI (a :: b :: c :: d :: e :: f :: r) 5 with | some v => Out.ok v M | none => .bad) = _
  have : L2.atI (a :: b :: c :: d :: e :: f :: r) 5 = some f := by unfold L2.atI L2.ixN; rw [if_pos (by decide), if_pos (by simp only [List.length_cons]; omega)]; rfl
  rw [this]
theorem sub_l5 {l : Nat} {a b c d e f : D} {r : List D} (h : M[l]? = some (.lst (a :: b :: c :: d :: e :: f :: r))) : subD (.ll l) (.int 5) M = .ok f M := by
  show (match M[l]? with | some (.lst xs) => (match L2.atI xs 5 with | some v => Out.ok v M | none => .bad) | _ => .bad) = _
  rw [h]
  have : L2.atI (a :: b :: c :: d :: e :: f :: r) 5 = some f := by unfold L2.atI L2.ixN; rw [if_pos (by decide), if_pos (by simp only [List.length_cons]; omega)]; rfl
  dsimp only
  rw [this]
@[simp] theorem sub_t6 (a b c d e f g : D) (r : List D) : subD (.tup (a :: b :: c :: d :: e :: f :: g :: r)) (.int 6) M = .ok g M := by
  show (match L2.atI (a :: b :: c :: d :: e :: f :: g :: r) 6 with | some v => Out.ok v M | none => .bad) = _
  have : L2.atI (a :: b :: c :: d :: e :: f :: g :: r) 6 = some g := by unfold L2.atI L2.ixN; rw [if_pos (by decide), if_pos (by simp only [List.length_cons]; omega)]; rfl
  rw [this]
theorem sub_l6 {l : Nat} {a b c d e f g : D} {r : List D} (h : M[l]? = some (.lst (a :: b :: c :: d :: e :: f :: g :: r))) : subD (.ll l) (.int 6) M = .ok g M := by
  show (match M[l]? with | some (.lst xs) => (match L2.atI xs 6 with | some v => Out.ok v M | none => .bad) | _ => .bad) = _
  rw [h]
  have : L2.atI (a :: b :: c :: d :: e :: f :: g :: r) 6 = some g := by unfold L2.atI L2.ixN; rw [if_pos (by decide), if_pos (by simp only [List.length_cons]; omega)]; rfl
  dsimp only
  rw [this]
@[simp] theorem cut_to1 (ds : List D) : cutD ds none (some 1) = ds.take 1 := by
  unfold cutD HT.sIx
  simp
@[simp] theorem cut_to2 (ds : List D) : cutD ds none (some 2) = ds.take 2 := by
  unfold cutD HT.sIx
  simp
@[simp] theorem cut_to3 (ds : List D) : cutD ds none (some 3) = ds.take 3 := by
  unfold cutD HT.sIx
  simp
@[simp] theorem cut_to4 (ds : List D) : cutD ds none (some 4) = ds.take 4 := by
  unfold cutD HT.sIx
  simp
@[simp] theorem cut_to5 (ds : List D) : cutD ds none (some 5) = ds.take 5 := by
  unfold cutD HT.sIx
  simp
@[simp] theorem pu_int (n : Nat) (i : Int) : D.pu n (.int i) = true := by cases n <;> rfl
@[simp] theorem pu_bl (n : Nat) (i : Bool) : D.pu n (.bl i) = true := by cases n <;> rfl
@[simp] theorem pu_non (n : Nat) : D.pu n .non = true := by cases n <;> rfl
@[simp] theorem pu_str (n : Nat) (s : Str) : D.pu n (.str s) = PyData.strOk s := by cases n <;> rfl
@[simp] theorem puL_nil (n : Nat) : D.puL n [] = true := by cases n <;> rfl
@[simp] theorem puL_cons (n : Nat) (d : D) (ds : List D) : D.puL n (d :: ds) = (D.pu n d && D.puL n ds) := by cases n <;> rfl
@[simp] theorem pu64 (ds : List D) : D.pu 64 (.tup ds) = D.puL 63 ds := rfl
@[simp] theorem pu63 (ds : List D) : D.pu 63 (.tup ds) = D.puL 62 ds := rfl
@[simp] theorem pu62 (ds : List D) : D.pu 62 (.tup ds) = D.puL 61 ds := rfl
@[simp] theorem pu61 (ds : List D) : D.pu 61 (.tup ds) = D.puL 60 ds := rfl
@[simp] theorem pu60 (ds : List D) : D.pu 60 (.tup ds) = D.puL 59 ds := rfl
/-! equality, by kinds -/
def D.eqL : List D → List D → Bool
  | [], [] => true
  | a :: as, b :: bs => D.eq a b && D.eqL as bs
  | _, _ => false
theorem eqvAll_pys : ∀ as bs : List D, PyData.eqvAll (D.pys as) (D.pys bs) = D.eqL as bs
  | [], [] => by simp [D.pys, PyData.eqvAll, D.eqL]
  | [], _ :: _ => by simp [D.pys, PyData.eqvAll, D.eqL]
  | _ :: _, [] => by simp [D.pys, PyData.eqvAll, D.eqL]
  | a :: as, b :: bs => by simp [D.pys, PyData.eqvAll, D.eqL, eqvAll_pys as bs, D.eq]
@[simp] theorem eq_ii (i j : Int) : D.eq (.int i) (.int j) = decide (i = j) := by
  simp only [D.eq, D.py, PyData.eqv]; rfl
@[simp] theorem eq_bb (i j : Bool) : D.eq (.bl i) (.bl j) = (i == j) := by simp [D.eq, D.py, PyData.eqv]
@[simp] theorem eq_ss (x y : Str) : D.eq (.str x) (.str y) = decide (x = y) := by
  simp only [D.eq, D.py, PyData.eqv]; rfl
@[simp] theorem eq_nn : D.eq .non .non = true := by simp [D.eq, D.py, PyData.eqv]
@[simp] theorem eq_tt (a b : List D) : D.eq (.tup a) (.tup b) = D.eqL a b := by simp [D.eq, D.py, PyData.eqv, eqvAll_pys]
@[simp] theorem eqL_nn : D.eqL [] [] = true := rfl
@[simp] theorem eqL_cc (a b : D) (as bs : List D) : D.eqL (a :: as) (b :: bs) = (D.eq a b && D.eqL as bs) := rfl
@[simp] theorem eqL_nc (b : D) (bs : List D) : D.eqL [] (b :: bs) = false := rfl
@[simp] theorem eqL_cn (b : D) (bs : List D) : D.eqL (b :: bs) [] = false := rfl
@[simp] theorem eq_in (i : Int) : D.eq (.int i) .non = false := by simp [D.eq, D.py, PyData.eqv]
@[simp] theorem eq_ni (i : Int) : D.eq .non (.int i) = false := by simp [D.eq, D.py, PyData.eqv]
@[simp] theorem eq_is (i : Int) (s : Str) : D.eq (.int i) (.str s) = false := by simp [D.eq, D.py, PyData.eqv]
@[simp] theorem eq_si (i : Int) (s : Str) : D.eq (.str s) (.int i) = false := by simp [D.eq, D.py, PyData.eqv]
@[simp] theorem eq_it (i : Int) (s : List D) : D.eq (.int i) (.tup s) = false := by simp [D.eq, D.py, PyData.eqv]
@[simp] theorem eq_ti (i : Int) (s : List D) : D.eq (.tup s) (.int i) = false := by simp [D.eq, D.py, PyData.eqv]
@[simp] theorem eq_ns (s : Str) : D.eq .non (.str s) = false := by simp [D.eq, D.py, PyData.eqv]
@[simp] theorem eq_sn (s : Str) : D.eq (.str s) .non = false := by simp [D.eq, D.py, PyData.eqv]
@[simp] theorem eq_nt (s : List D) : D.eq .non (.tup s) = false := by simp [D.eq, D.py, PyData.eqv]
@[simp] theorem eq_tn (s : List D) : D.eq (.tup s) .non = false := by simp [D.eq, D.py, PyData.eqv]
@[simp] theorem eq_st (x : Str) (s : List D) : D.eq (.str x) (.tup s) = false := by simp [D.eq, D.py, PyData.eqv]
@[simp] theorem eq_ts (x : Str) (s : List D) : D.eq (.tup s) (.str x) = false := by simp [D.eq, D.py, PyData.eqv]
@[simp] theorem eq_bs (b : Bool) (s : Str) : D.eq (.bl b) (.str s) = false := by simp [D.eq, D.py, PyData.eqv]
@[simp] theorem eq_sb (b : Bool) (s : Str) : D.eq (.str s) (.bl b) = false := by simp [D.eq, D.py, PyData.eqv]
/-! cases -/
section
variable {α β : Type} {c : Prop} [Decidable c]
@[simp] theorem ite_ok (a b : α) : (if c then Out.ok a M else Out.ok b M) = Out.ok (if c then a else b) M := by split <;> rfl
@[simp] theorem ite_bl (a b : Bool) : (if c then D.bl a else D.bl b) = D.bl (if c then a else b) := by split <;> rfl
@[simp] theorem ite_int (a b : Int) : (if c then D.int a else D.int b) = D.int (if c then a else b) := by split <;> rfl
@[simp] theorem ite_so (x y : Out α) (σ : Env) (k : α → Store → SO) : (if c then x else y).so σ k = if c then x.so σ k else y.so σ k := by split <;> rfl
@[simp] theorem ite_soN (x y : Out α) (k : α → Store → SO) : (if c then x else y).soN k = if c then x.soN k else y.soN k := by split <;> rfl
@[simp] theorem ite_bind (x y : Out α) (k : α → Store → Out β) : (if c then x else y).bind k = if c then x.bind k else y.bind k := by split <;> rfl
@[simp] theorem ite_bindN (x y : Out α) (k : α → Store → Out β) : (if c then x else y).bindN k = if c then x.bindN k else y.bindN k := by split <;> rfl
@[simp] theorem ite_seq (x y : SO) (k : Env → Store → SO) : (if c then x else y).seq k = if c then x.seq k else y.seq k := by split <;> rfl
@[simp] theorem ite_turn (x y : SO) (k : Env → Store → SO) : (if c then x else y).turn k = if c then x.turn k else y.turn k := by split <;> rfl
@[simp] theorem ite_catch (x y : SO) (k : Ex → Env → Store → SO) : (if c then x else y).catch_ k = if c then x.catch_ k else y.catch_ k := by split <;> rfl
@[simp] theorem ite_body (x y : SO) : bodyO (if c then x else y) = if c then bodyO x else bodyO y := by split <;> rfl
@[simp] theorem ite_gc (x y : Out D) : gcO M (if c then x else y) = if c then gcO M x else gcO M y := by split <;> rfl
end
/-! calls -/
noncomputable abbrev run := evm tb supx
@[simp] theorem evb_at (i j : Nat) (ds : List D) : evb tb supx i j ds M = if j < i then run j ds M else .bad := rfl
@[simp] theorem gc_bl (b : Bool) : gcO M (.ok (.bl b) M) = .ok (.bl b) M := gc_pure0 rfl
@[simp] theorem gc_int (b : Int) : gcO M (.ok (.int b) M) = .ok (.int b) M := gc_pure0 rfl
@[simp] theorem gc_str (b : Str) : gcO M (.ok (.str b) M) = .ok (.str b) M := gc_pure0 rfl
@[simp] theorem gc_non : gcO M (.ok .non M) = .ok .non M := gc_pure0 rfl
@[simp] theorem gc_tup (ds : List D) (h : D.loL M.length ds = true) : gcO M (.ok (.tup ds) M) = .ok (.tup ds) M := gc_pure0 (by simpa [D.lo] using h)
@[simp] theorem gc_exx (c : Nat) : gcO M (.ex ⟨c, none⟩ M) = .ex ⟨c, none⟩ M := gc_ex0
@[simp] theorem bodyO_rt (d : D) : bodyO (.rt d M) = .ok d M := rfl
@[simp] theorem bodyO_nx (σ : Env) : bodyO (.nx σ M) = .ok .non M := rfl
@[simp] theorem bodyO_ex (e : Ex) (σ : Env) : bodyO (.ex e σ M) = .ex e M := rfl
@[simp] theorem lo_int (n : Nat) (i : Int) : D.lo n (.int i) = true := by simp [D.lo]
@[simp] theorem lo_bl (n : Nat) (i : Bool) : D.lo n (.bl i) = true := by simp [D.lo]
@[simp] theorem lo_str (n : Nat) (i : Str) : D.lo n (.str i) = true := by simp [D.lo]
@[simp] theorem lo_non (n : Nat) : D.lo n .non = true := by simp [D.lo]
@[simp] theorem lo_tup (n : Nat) (ds : List D) : D.lo n (.tup ds) = D.loL n ds := by simp [D.lo]
@[simp] theorem loL_nil (n : Nat) : D.loL n [] = true := by simp [D.loL]
@[simp] theorem loL_cons (n : Nat) (d : D) (ds : List D) : D.loL n (d :: ds) = (D.lo n d && D.loL n ds) := by simp [D.loL]
end BH
end

section
set_option Elab.async false
set_option linter.all false
set_option maxRecDepth 100000
set_option maxHeartbeats 0
/-! What stands behind a module's top: the defs, the constants, the exceptions' classes. -/
namespace BH
open PySem PySem.Spec L2

/-! ### constants -/
mutual
def vB (K : PySem.W.Frag) : Nat → Value → D → Bool
  | 0, _, _ => false
  | n + 1, u, d => match u, d with
    | .none, .non => true
    | .bool b, .bl c => decide (b = c)
    | .int i _, .int j => decide (i = j)
    | .str x _, .str y => decide (x = y)
    | .ref a, .tup ds => match K.lookup a with
      | some ⟨.type c, _, .seq its _, _⟩ => decide (c = "tuple") && (decide (its.size ≤ sizeLine) && vBs K n its.toList ds)
      | _ => false
    | _, _ => false
def vBs (K : PySem.W.Frag) : Nat → List Value → List D → Bool
  | 0, _, _ => false
  | _ + 1, [], [] => true
  | n + 1, u :: us, d :: ds => vB K n u d && vBs K n us ds
  | _ + 1, _, _ => false
end
mutual
theorem vB_ok (p : Pm) : ∀ (n : Nat) (u : Value) (d : D), vB p.K n u d = true → ∃ v, RelV v u ∧ ∀ H ρ, Rv p H ρ v d
  | 0, _, _, h => by simp [vB] at h
  | n + 1, u, d, h => by
    unfold vB at h
    split at h
    next => exact ⟨.non, rfl, fun _ _ => .non⟩
    next b c => have := of_decide_eq_true h; subst this; exact ⟨.bl b, rfl, fun _ _ => .bl b⟩
    next i t j => have := of_decide_eq_true h; subst this; exact ⟨.int i, ⟨t, rfl⟩, fun _ _ => .int i⟩
    next x t y => have := of_decide_eq_true h; subst this; exact ⟨.str x, ⟨t, rfl⟩, fun _ _ => .str x⟩
    next a ds =>
      split at h
      next c od its k sl q =>
        rw [Bool.and_eq_true_iff, Bool.and_eq_true_iff] at h
        obtain ⟨h1, h2, h3⟩ := h
        obtain ⟨vs, r1, r2⟩ := vBs_ok p n _ _ h3
        exact ⟨.ref a, rfl, fun H ρ => .tup (.inr ⟨_, its, k, q, congrArg Value.type (of_decide_eq_true h1), rfl, of_decide_eq_true h2, r1⟩) (r2 H ρ)⟩
      next => cases h
    next => cases h
theorem vBs_ok (p : Pm) : ∀ (n : Nat) (us : List Value) (ds : List D), vBs p.K n us ds = true → ∃ vs, Vals vs us ∧ ∀ H ρ, RvL p H ρ vs ds
  | 0, _, _, h => by simp [vBs] at h
  | _ + 1, [], [], _ => ⟨[], .nil, fun _ _ => .nil⟩
  | _ + 1, [], _ :: _, h => by simp [vBs] at h
  | _ + 1, _ :: _, [], h => by simp [vBs] at h
  | n + 1, u :: us, d :: ds, h => by
    unfold vBs at h
    rw [Bool.and_eq_true_iff] at h
    obtain ⟨v, a1, a2⟩ := vB_ok p n u d h.1
    obtain ⟨vs, b1, b2⟩ := vBs_ok p n us ds h.2
    exact ⟨v :: vs, .cons a1 b1, fun H ρ => .cons (a2 H ρ) (b2 H ρ)⟩
end

/-! ### the module's names -/
def nameF : List (Str × (Nat × Nat)) → Nat → Str
  | [], _ => Str.empty
  | e :: r, i => if e.2.1 = i then e.1 else nameF r i
def nameX : List (Str × Nat) → Nat → Str
  | [], _ => Str.empty
  | e :: r, i => if e.2 = i then e.1 else nameX r i
/-! ### classes -/
/-- where a class, a def of it stands -/
inductive Wh where
  | glo (x : Str) | mem (C m : Str) | rc (C m : Str) (T : String)
def Wh.ad (K : PySem.W.Frag) : Wh → Addr
  | .glo x => He.ga K x
  | .mem C m => He.ma K (He.ga K C) m
  | .rc C m T => match PySem.W.recIn K (He.ma K (He.ga K C) m) T with
    | some (.ref g :: _) => g
    | _ => 0
abbrev Whs : Type := List (Nat × Wh)
def clN (whs : Whs) (c : Nat) : Str := match whs.lookup c with
  | some (.glo x) => x
  | _ => Str.empty
def faOf (Γ : Gam) (whs : Whs) (K : PySem.W.Frag) (i : Nat) : Addr := match whs.lookup i with
  | some q => q.ad K
  | none => He.ga K (nameF Γ.fns i)
def recB (K : PySem.W.Frag) (q : Addr) (T : String) (g : Addr) : Bool := match PySem.W.recIn K q T with
  | some (.ref a :: _) => decide (a = g)
  | _ => false
def prpB (K : PySem.W.Frag) (C : Addr) (x : Str) (g : Addr) : Bool := match PySem.W.findIn K (.ref C) x with
  | some (some (.ref q)) => He.eqO (PySem.W.specialIn K (.ref q) "__get__") (some (some (.builtin "property.__get__"))) && (decide (PySem.W.takesIn K (.ref q) = some true) && recB K q "property" g)
  | _ => false
def fndB (K : PySem.W.Frag) (C : Addr) (mm : Str) (g : Addr) : Bool := match PySem.W.findCls K (.ref C) (.type "type") mm with
  | some (.get (.builtin s) (.ref q) .none (.ref c)) => decide (s = "classmethod.__get__") && (decide (c = C) && recB K q "classmethod" g)
  | _ => false
def clmB (K : PySem.W.Frag) (C : Addr) (mm : Str) (g : Addr) : Bool := PySem.W.readsIn K C (.type "type") && (He.eqO (PySem.W.specialIn K (.ref C) "__getattribute__") (some (some (.builtin "type.__getattribute__"))) && (fndB K C mm g && PySem.W.fnIn K g))
def okC (Γ : Gam) (whs : Whs) (K : PySem.W.Frag) : Bool :=
  (Γ.fld.all fun e => (He.Fa.cls (clN whs e.2)).ok K && (He.Fa.noat (clN whs e.2) e.1).ok K) &&
  ((Γ.prp.all fun e => (He.Fa.cls (clN whs e.2.1)).ok K && prpB K (He.ga K (clN whs e.2.1)) e.1 (faOf Γ whs K e.2.2)) &&
  ((Γ.clm.all fun e => (He.Fa.glo e.1.1).ok K && (decide (He.ga K e.1.1 = faOf Γ whs K e.2.1) && clmB K (faOf Γ whs K e.2.1) e.1.2 (faOf Γ whs K e.2.2.1))) &&
  (Γ.ini.all fun e => decide (He.ga K (clN whs e.2.1) = faOf Γ whs K e.2.1) && ((He.Fa.mkr (clN whs e.2.1)).ok K && decide (He.ma K (He.ga K (clN whs e.2.1)) "__init__" = faOf Γ whs K e.2.2.1)))))
theorem recB_ok {K : PySem.W.Frag} {q : Addr} {T : String} {g : Addr} (h : recB K q T g = true) : ∃ rest, PySem.W.recIn K q T = some (.ref g :: rest) := by
  unfold recB at h
  split at h
  next a r e => have := of_decide_eq_true h; subst this; exact ⟨r, e⟩
  next => cases h
theorem prpB_ok {K : PySem.W.Frag} {C : Addr} {x : Str} {g : Addr} (h : prpB K C x g = true) : ∃ q, PropOf K C x q g := by
  unfold prpB at h
  split at h
  next q e =>
    rw [Bool.and_eq_true_iff, Bool.and_eq_true_iff] at h
    exact ⟨q, e, He.eqO_ok h.1, of_decide_eq_true h.2.1, recB_ok h.2.2⟩
  next => cases h
theorem clmB_ok {K : PySem.W.Frag} {C : Addr} {mm : Str} {g : Addr} (h : clmB K C mm g = true) : ∃ q, ClX.CRead K C (.type "type") ∧ ClX.CMet K C (.type "type") mm q g := by
  unfold clmB at h
  rw [Bool.and_eq_true_iff, Bool.and_eq_true_iff, Bool.and_eq_true_iff] at h
  obtain ⟨h1, h2, h3, h4⟩ := h
  unfold fndB at h3
  split at h3
  next s q c e =>
    rw [Bool.and_eq_true_iff, Bool.and_eq_true_iff] at h3
    obtain ⟨e1, e2, e3⟩ := h3
    have e1 := of_decide_eq_true e1
    have e2 := of_decide_eq_true e2
    subst e1 e2
    exact ⟨q, ⟨h1, He.eqO_ok h2⟩, ⟨e, recB_ok e3, h4⟩⟩
  next => cases h3
def okB (Γ : Gam) (whs : Whs) (sup : Nat → Nat → Bool) (K : PySem.W.Frag) : Bool :=
  (Γ.cns.all fun c => match PySem.W.nsIn K mainGlobals c.1 with
    | some (some u) => vB K 40 u c.2
    | _ => false) &&
  ((Γ.exs.all fun e => (He.Fa.exc e.1).ok K) && ((Γ.exs.all fun e => Γ.exs.all fun f => (He.Fa.exm e.1 f.1 (sup e.2 f.2)).ok K) && ((Γ.exs.all fun e => (He.Fa.glo e.1).ok K) && ((Γ.blt.all fun x => (He.Fa.free x).ok K) && ((Γ.fns.all fun x => (He.Fa.glo x.1).ok K) && okC Γ whs K)))))
/-- each number has its name -/
def uniqB (Γ : Gam) (whs : Whs) : Bool := (Γ.fns.all fun e => decide (nameF Γ.fns e.2.1 = e.1) && (whs.lookup e.2.1).isNone) && (Γ.exs.all fun e => decide (nameX Γ.exs e.2 = e.1))
def pmOf (Γ : Gam) (whs : Whs) (K : PySem.W.Frag) : Pm := ⟨K, faOf Γ whs K, fun c => He.ga K (clN whs c), fun i => He.ga K (nameX Γ.exs i), fun i => ∃ x, (x, i) ∈ Γ.exs⟩
section
variable {Γ : Gam} {whs : Whs} {sup : Nat → Nat → Bool} {K : PySem.W.Frag} {m : Nat → List D → Store → Out D} {P : Program} {w : World} {mg : Str → Option Value} {base h : Heap}
theorem fitm0 (X : K.In h) (G : h.Ns mainGlobals mg) (u : uniqB Γ whs = true) (o : okB Γ whs sup K = true) : FitM { Γ with fns := [], prp := [], clm := [], ini := [] } (pmOf Γ whs K) m sup 0 P w mg base := by
  unfold okB at o
  simp only [Bool.and_eq_true, List.all_eq_true] at o
  obtain ⟨o1, o2, o3, o4, o5, o6, oc⟩ := o
  unfold uniqB at u
  simp only [Bool.and_eq_true, List.all_eq_true, decide_eq_true_eq] at u
  obtain ⟨u1, u2⟩ := u
  refine ⟨fun _ _ _ z => (by cases z), fun _ _ _ z => (by cases z), fun x d hx => ?_, fun x i hx => ?_, fun x hx => He.free_ok X G (o5 x hx), fun i j hi hj => ?_, ⟨fun x c hx => ?_, fun _ _ _ z => (by cases z), fun _ _ _ _ _ z => (by cases z), fun _ _ _ _ z => (by cases z)⟩⟩
  · have hm : (x, d) ∈ Γ.cns := PySem.mem_of_lookup hx
    have := o1 _ hm
    dsimp only at this
    split at this
    next u e =>
      obtain ⟨v, r1, r2⟩ := vB_ok (pmOf Γ whs K) 40 u d this
      exact ⟨v, u, PySem.W.mg_of X G e, r1, r2⟩
    next => cases this
  · have hx : (x, i) ∈ Γ.exs := hx
    have e1 := u2 _ hx
    dsimp only at e1
    obtain ⟨a1, a2, a3, a4⟩ := He.exc_ok (o2 _ hx)
    have g := He.glo_ok X G (o4 _ hx)
    show mg x = some (.ref (He.ga K (nameX Γ.exs i))) ∧ PySem.W.keepIn K (.ref (He.ga K (nameX Γ.exs i))) = true ∧ (PySem.W.subIn K (.ref (He.ga K (nameX Γ.exs i))) (.type "BaseException") = some true ∧ PySem.W.typeIn K (.ref (He.ga K (nameX Γ.exs i))) = some (.type "type")) ∧ (∃ y, (y, i) ∈ Γ.exs) ∧ _
    rw [e1]
    exact ⟨g, a2, ⟨a3, a4⟩, ⟨x, hx⟩, "ValueError", _, _, _, PySem.F.excBase_ValueError, by show PySem.W.excIn K (He.ga K (nameX Γ.exs i)) _ _ = true; rw [e1]; exact a1⟩
  · obtain ⟨x, hx⟩ := hi
    obtain ⟨y, hy⟩ := hj
    have e1 := u2 _ hx
    have e2 := u2 _ hy
    dsimp only at e1 e2
    show PySem.W.exmOne K (.ref (He.ga K (nameX Γ.exs i))) (.ref (He.ga K (nameX Γ.exs j))) = _
    rw [e1, e2]
    exact He.exm_ok (o3 _ hx _ hy)
  · unfold okC at oc
    simp only [Bool.and_eq_true, List.all_eq_true] at oc
    obtain ⟨c1, _⟩ := oc
    have q := c1 (x, c) hx
    exact ⟨He.cls_ok q.1, He.noat_ok q.2⟩
theorem glo_fn (X : K.In h) (G : h.Ns mainGlobals mg) (u : uniqB Γ whs = true) (o : okB Γ whs sup K = true) {x : Str} {i a : Nat} (hx : (x, (i, a)) ∈ Γ.fns) : mg x = some (.ref ((pmOf Γ whs K).fa i)) ∧ (pmOf Γ whs K).fa i = He.ga K x := by
  unfold okB at o
  simp only [Bool.and_eq_true, List.all_eq_true] at o
  obtain ⟨o1, o2, o3, o4, o5, o6, oc⟩ := o
  unfold uniqB at u
  simp only [Bool.and_eq_true, List.all_eq_true, decide_eq_true_eq] at u
  obtain ⟨e1, e2⟩ := u.1 _ hx
  dsimp only at e1 e2
  have : (pmOf Γ whs K).fa i = He.ga K x := by
    show faOf Γ whs K i = _
    unfold faOf
    cases q : whs.lookup i with
    | some z => rw [q] at e2; cases e2
    | none => show He.ga K (nameF Γ.fns i) = _; rw [e1]
  exact ⟨by rw [this]; exact He.glo_ok X G (o6 _ hx), this⟩
theorem fa_mem {i : Nat} {q : Wh} (h : whs.lookup i = some q) : (pmOf Γ whs K).fa i = q.ad K := by
  show faOf Γ whs K i = _
  unfold faOf
  rw [h]
theorem okC_of (o : okB Γ whs sup K = true) : okC Γ whs K = true := by
  unfold okB at o
  simp only [Bool.and_eq_true] at o
  exact o.2.2.2.2.2.2
theorem prp_ok (o : okB Γ whs sup K = true) {x : Str} {c g : Nat} (hx : (x, (c, g)) ∈ Γ.prp) : L2.Cls K ((pmOf Γ whs K).ca c) ∧ ∃ q0, PropOf K ((pmOf Γ whs K).ca c) x q0 ((pmOf Γ whs K).fa g) := by
  have oc := okC_of o
  unfold okC at oc
  simp only [Bool.and_eq_true, List.all_eq_true] at oc
  have q := oc.2.1 _ hx
  exact ⟨He.cls_ok q.1, prpB_ok q.2⟩
theorem clm_ok' (X : K.In h) (G : h.Ns mainGlobals mg) (o : okB Γ whs sup K = true) {x mm : Str} {c g n : Nat} (hx : ((x, mm), (c, (g, n))) ∈ Γ.clm) :
    mg x = some (.ref ((pmOf Γ whs K).fa c)) ∧ ∃ q0, ClX.CRead K ((pmOf Γ whs K).fa c) (.type "type") ∧ ClX.CMet K ((pmOf Γ whs K).fa c) (.type "type") mm q0 ((pmOf Γ whs K).fa g) := by
  have oc := okC_of o
  unfold okC at oc
  simp only [Bool.and_eq_true, List.all_eq_true, decide_eq_true_eq] at oc
  have q := oc.2.2.1 _ hx
  refine ⟨?_, clmB_ok q.2.2⟩
  have e := q.2.1
  show mg x = some (.ref (faOf Γ whs K c))
  rw [← e]
  exact He.glo_ok X G q.1
theorem ini_ok (o : okB Γ whs sup K = true) {ks : List Str} {c g n : Nat} (hx : (ks, (c, (g, n))) ∈ Γ.ini) : (pmOf Γ whs K).ca c = (pmOf Γ whs K).fa c ∧ L2.Mk K ((pmOf Γ whs K).fa c) ((pmOf Γ whs K).fa g) := by
  have oc := okC_of o
  unfold okC at oc
  simp only [Bool.and_eq_true, List.all_eq_true, decide_eq_true_eq] at oc
  obtain ⟨q1, q2, q3⟩ := oc.2.2.2 _ hx
  refine ⟨q1, ?_⟩
  have z := He.mkr_ok q2
  rw [q3, q1] at z
  exact z
end

/-! ### a class's defs -/
structure DefA where
  wh : Wh
  name : Str
  qual : Str
  pars : Arguments
  bd : List Stmt
  sc : Scope
  dfl : List He.Dv := []
  kwd : List (Str × He.Dv) := []
def DefA.dvs (K : PySem.W.Frag) (d : DefA) : List V := d.dfl.map fun z => z.v K
def DefA.kws (K : PySem.W.Frag) (d : DefA) : List (Str × V) := d.kwd.map fun z => (z.1, z.2.v K)
def DefA.val (d : DefA) : He.FnW := some (d.name, d.qual, d.pars, .stmts d.bd, d.sc, mainGlobals, [], builtinsNs)
def fnA (K : PySem.W.Frag) (a : Addr) : He.FnW := match K.lookup a with
  | some ⟨_, _, .func f, _⟩ => some (f.name, f.qualname, f.params, f.body, f.scope, f.globals, f.closure, f.builtins)
  | _ => none
def DefA.ok (K : PySem.W.Frag) (d : DefA) : Bool := PySem.W.keepIn K (.ref (d.wh.ad K)) && (match K.lookup (d.wh.ad K) with
  | some ⟨_, _, .func f, _⟩ => PySem.W.codeIn K f.code d.qual && (He.dflB K f.defaults (d.dvs K) && He.kwdB K f.kwdefaults (d.kws K))
  | _ => false)
theorem DefA.funD {K : PySem.W.Frag} {d : DefA} (e : fnA K (d.wh.ad K) = d.val) (c : d.ok K = true) : ∃ fd, FunD K d.name d.qual d.pars d.bd d.sc (d.dvs K) (d.kws K) (d.wh.ad K) fd := by
  unfold DefA.ok at c
  rw [Bool.and_eq_true_iff] at c
  obtain ⟨kp, c⟩ := c
  unfold fnA at e
  cases q : K.lookup (d.wh.ad K) with
  | none => rw [q] at c; cases c
  | some o =>
    obtain ⟨oc, od, dt, osl⟩ := o
    rw [q] at c e
    cases dt with
    | func f =>
      obtain ⟨m1, m2, m3, m4, m5, m6, m7, m8, m9, m10, m11, m12, m13, m14, m15⟩ := f
      have c : (PySem.W.codeIn K m13 d.qual && (He.dflB K m8 (d.dvs K) && He.kwdB K m9 (d.kws K))) = true := c
      have e : (some (m1, m2, m3, m4, m5, m6, m7, m15) : He.FnW) = some (d.name, d.qual, d.pars, .stmts d.bd, d.sc, mainGlobals, [], builtinsNs) := e
      simp only [Option.some.injEq, Prod.mk.injEq] at e
      obtain ⟨rfl, rfl, rfl, rfl, rfl, rfl, rfl, rfl⟩ := e
      rw [Bool.and_eq_true_iff, Bool.and_eq_true_iff] at c
      exact ⟨_, ⟨oc, od, m8, m9, m10, m11, m12, m13, m14, osl, rfl, q, c.1, He.dflB_ok c.2.1, He.kwdB_ok c.2.2⟩, kp⟩
    | _ => cases c
def SaysA (fm : List DefA) (K : PySem.W.Frag) : Prop := (fm.all fun d => d.ok K) = true ∧ (fm.map fun d => fnA K (d.wh.ad K)) = fm.map DefA.val
theorem SaysA.def_ {fm : List DefA} {K : PySem.W.Frag} (c : SaysA fm K) (i : Nat) {d : DefA} (h : fm[i]? = some d) {a : Addr} (ha : a = d.wh.ad K) : ∃ fd, FunD K d.name d.qual d.pars d.bd d.sc (d.dvs K) (d.kws K) a fd := by
  subst ha
  have e2 : (fm.map fun d => fnA K (d.wh.ad K))[i]? = (fm.map DefA.val)[i]? := by rw [c.2]
  rw [List.getElem?_map, List.getElem?_map, h] at e2
  exact DefA.funD (Option.some.inj e2) (List.all_eq_true.mp c.1 d (List.mem_of_getElem? h))

/-! ### the Hook -/
def dOf (x : Str) (st : Stmt) : He.DefD := ⟨(x, none), x, x, L2.defArgs st, L2.defBody st, L2.defScope st, [], []⟩
def dOfA (wh : Wh) (x qual : Str) (st : Stmt) (dfl : List He.Dv) (kwd : List (Str × He.Dv)) : DefA := ⟨wh, x, qual, L2.defArgs st, L2.defBody st, L2.defScope st, dfl, kwd⟩
abbrev AlB : Type := He.AlD × (Bool × List He.FnW)
def obsB (n : Nat) (fn : List He.DefD) (fm : List DefA) (Γ : Gam) (whs : Whs) (sup : Nat → Nat → Bool) (g : Addr → Option Obj) : AlB := match He.frG g (cStatics :: He.asD g n) with
  | K => (He.obsD [] fn K, (okB Γ whs sup K && fm.all fun d => d.ok K, fm.map fun d => fnA K (d.wh.ad K)))
theorem obsB_says {fn : List He.DefD} {fm : List DefA} {Γ : Gam} {whs : Whs} {sup : Nat → Nat → Bool} {K : PySem.W.Frag} (e : ((He.obsD [] fn K, (okB Γ whs sup K && fm.all fun d => d.ok K, fm.map fun d => fnA K (d.wh.ad K))) : AlB) = (He.valD fn, (true, fm.map DefA.val))) :
    He.SaysD [] fn K ∧ okB Γ whs sup K = true ∧ SaysA fm K := by
  have e1 := congrArg (fun z : AlB => z.1) e
  have e2 := congrArg (fun z : AlB => z.2.1) e
  have e3 := congrArg (fun z : AlB => z.2.2) e
  dsimp only at e1 e2 e3
  rw [Bool.and_eq_true_iff] at e2
  exact ⟨e1, e2.1, e2.2, e3⟩
def hookB (n : Nat) (fn : List He.DefD) (fm : List DefA) (Γ : Gam) (whs : Whs) (sup : Nat → Nat → Bool) : PySem.W.Hook where
  α := AlB
  obs := fun s => obsB n fn fm Γ whs sup s.heap.get?
  val := fun _ => (He.valD fn, (true, fm.map DefA.val))
  says := fun _ h => ∃ K : PySem.W.Frag, K.In h ∧ He.SaysD [] fn K ∧ okB Γ whs sup K = true ∧ SaysA fm K
  of := fun _ s e => ⟨_, He.frG_in, obsB_says e⟩
  keeps := fun _ _ _ ⟨K, hK, c⟩ k => ⟨K, PySem.W.Frag.In.keeps hK k, c⟩
theorem obsB_eq {n : Nat} {fn : List He.DefD} {fm : List DefA} {Γ : Gam} {whs : Whs} {sup : Nat → Nat → Bool} {g : Addr → Option Obj} {s : Shared} (h : ∀ a, g a = s.heap.get? a) : obsB n fn fm Γ whs sup g = (hookB n fn fm Γ whs sup).obs s := by
  have e : g = s.heap.get? := funext h
  rw [e]
  rfl
/-- a def as the table wants it -/
theorem fun_of {K : PySem.W.Frag} {fn : List He.DefD} (c : He.SaysD [] fn K) (i : Nat) {x : Str} {st : Stmt} (h : fn[i]? = some (dOf x st)) {f : Addr} (hf : f = He.ga K x) : ∃ fd, L2.Fun K x x st f fd := by
  obtain ⟨fd, F⟩ := c.def_ i h
  obtain ⟨oc, od, dV, kV, doc, pm, an, cdv, ct, osl, e, lk, hcd, hD, _⟩ := F.ex
  rcases hD with ⟨_, rfl⟩ | ⟨z, _⟩
  · subst hf
    exact ⟨fd, ⟨oc, od, kV, doc, pm, an, cdv, ct, osl, e, lk, hcd⟩, F.kp⟩
  · exact absurd rfl z
theorem fun_bindsA {K : PySem.W.Frag} {x qual : Str} {st : Stmt} {f : Addr} {fd : FuncData} {ps : List Str} (F : L2.Fun K x qual st f fd)
    (h : ∀ (kV doc pm : Value) (an : Option Addr) (cdv ct : Value) (us : List Value), us.length = ps.length → bindArgs (PySem.W.fnOf x qual (L2.defArgs st) (L2.defBody st) (L2.defScope st) .none kV doc pm an cdv ct) ⟨us, []⟩ = pure (ps.zip us)) (s : Shared) (us : List Value) (hl : us.length = ps.length) : BindsTo s fd ⟨us, []⟩ (ps.zip us) := by
  obtain ⟨oc, od, kV, doc, pm, an, cdv, ct, osl, rfl, lk, hcd⟩ := F.ex
  exact .of_eq (h kV doc pm an cdv ct us hl)
/-! ### the law's def: nothing gets out -/
def spL (p : Pm) (f : List D → Store → Out D) : Sp := fun vs H Q _ => spM p 1 f vs H Q fun _ _ _ => False
theorem law_fn {P : Program} {w : World} {K : PySem.W.Frag} {mg : Str → Option Value} {base : Heap} {k : Nat} {f : Addr} {fd : FuncData} {ps : List Str} {p : Pm} {mf : List D → Store → Out D} (F : FnOk P w K mg base (L2.CX P w) k f fd ps (spM p 1 mf)) : FnOk P w K mg base CX0 k f fd ps (spL p mf) :=
  ⟨fun vs H Q E h => F.len vs H Q _ h, fun A outer s H args us vs Q E hr e0 hb r h => codeAny_mono (F.run A outer s H args us vs Q (fun _ _ _ => False) hr e0 hb r h) fun r s' hq => by
    cases r with
    | error e =>
      obtain ⟨_, _, _, _, _, _, _, _, _, _, _, _, z⟩ := hq
      exact z.elim
    | ok fl => cases fl <;> exact hq⟩
theorem law_sp {p : Pm} {mf : List D → Store → Out D} {H : Hp} {a : Addr} {ns : List Int} (hO : Only H) (hS : SqL p.K H a (ns.map V.int)) (h : mf [.lsf (ns.map D.int)] [] = .ok (.bl true) []) : spL p mf [.ref a] H (fun v _ => v = .bl true) fun _ _ _ => False := by
  have fz : FzL p.K H a (ns.map V.int) := by
    rcases hS with (q | q) | q
    · rcases hO a with z | ⟨o, xs, z⟩
      · rw [z] at q; cases q
      · rw [z] at q; cases q
    · exact .inl q
    · exact .inr q
  refine ⟨[], [], [.lsf (ns.map D.int)], rfl, .cons (.lsf fz (int_rvs ns)) .nil, ⟨rfl, List.nodup_nil, fun l mo z => (by simp at z)⟩, ?_⟩
  rw [h]
  intro v H' ρ' _ _ r
  cases r
  rfl
end BH
end

section
set_option Elab.async false
set_option linter.all false
set_option maxRecDepth 100000
set_option maxHeartbeats 0
namespace BH
open PySem PySem.Spec L2
def tops (i : Nat) : Stmt := PySem.Challenge.pw_believedheld_k71_whole_rules_written_and.main.body.getD i (.Pass ⟨0, 0, 0, 0⟩)
/-- a class's j-th statement -/
def mems (i j : Nat) : Stmt := match tops i with
  | .ClassDef _ _ _ b _ _ _ _ _ _ _ => b.getD j (.Pass ⟨0, 0, 0, 0⟩)
  | _ => .Pass ⟨0, 0, 0, 0⟩
def e3 (x : Str) (i a : Nat) : Str × (Nat × Nat) := (x, (i, a))
def e2 (x : Str) (i : Nat) : Str × Nat := (x, i)
def e2d (x : Str) (d : D) : Str × D := (x, d)
def e4 (x y : Str) (c i n : Nat) : (Str × Str) × (Nat × (Nat × Nat)) := ((x, y), (c, (i, n)))
def e5 (ks : List Str) (c i n : Nat) : List Str × (Nat × (Nat × Nat)) := (ks, (c, (i, n)))
def gA : Gam := { fns := [e3 "is_whole" 0 3, e3 "is_wide" 1 2, e3 "is_word" 2 2, e3 "is_right_world" 3 1, e3 "is_right_rule" 4 1, e3 "numbers_in" 6 1, e3 "need_world" 7 1, e3 "need_rule" 8 1, e3 "with_client" 9 3, e3 "ranked" 10 1, e3 "events_at" 11 2, e3 "asked_for" 12 3, e3 "arrived" 13 3, e3 "later" 14 2, e3 "ticked" 15 2, e3 "happened" 16 3, e3 "step" 17 3, e3 "_law_source" 24 2, e3 "_law_pick" 25 2, e3 "_law_chosen" 26 2, e3 "_law_wide" 54 3, e3 "_law_whole" 65 3, e3 "_law_among" 66 2, e3 "_law_good_terms" 68 1, e3 "_wall" 75 1, e3 "is_alone" 76 1, e3 "comes" 77 5, e3 "ways" 78 2, e3 "harmful" 79 2, e3 "harms_of" 80 2, e3 "having" 81 3, e3 "label" 82 1, e3 "line_of" 83 1, e3 "rule_in" 84 1, e3 "rule_line" 85 1, e3 "read_rule" 86 1, e3 "_law_terms" 90 2, e3 "_law_line" 91 1, e3 "_law_told" 92 1, e3 "_law_read" 93 1, e3 "_law_reading" 94 1, e3 "_law_bent" 95 2, e3 "law" 96 1], cns := [e2d "CLIENTS" (.tup [.int 0, .int 1]), e2d "FREE" (.tup [.non, .int 0, .int 0, .int 0]), e2d "FAR" (.tup [.int 0, .int 0, .non]), e2d "FIRST" (.tup [.tup [.non, .int 0, .int 0, .int 0], .int 0, .tup [.int 0, .int 0, .non], .tup [.int 0, .int 0, .non]]), e2d "NAMES" (.tup [.str "keep", .str "trust", .str "origin", .str "lapsed", .str "check", .str "rest"]), e2d "HARMS" (.tup [.str "alone", .str "elder", .str "two"]), e2d "CHOICES" (.tup [.tup [.int 1, .int 2, .int 3, .int 4], .tup [.int 1, .int 2, .int 3, .int 4], .tup [.str "asked", .str "came"], .tup [.str "no", .str "yes"], .tup [.str "no", .str "number"], .tup [.int 0, .int 1, .int 2, .int 3, .int 4]])], exs := [e2 "BeliefError" 0, e2 "InvalidWorld" 1, e2 "InvalidRule" 2, e2 "InvalidPart" 7, e2 "InvalidNumber" 8, e2 "InvalidLine" 6], blt := ["len", "max", "min", "int", "bool", "list", "tuple", "any", "all", "isinstance", "sorted", "set", "range", "str", "zip"], fld := [e2 "six" 1000], prp := [e3 "source" 1000 89], clm := [e4 "Terms" "of" 1000 88 1], ini := [e5 ["origin", "lapsed", "check", "rest"] 1000 87 2] }
def gK (k kp kc ki : Nat) : Gam := { gA with fns := gA.fns.take k, prp := gA.prp.take kp, clm := gA.clm.take kc, ini := gA.ini.take ki }
theorem cd_is_whole : cDef (gK 0 0 0 0) n_is_whole (tops 15) = some c_is_whole := by kernel_rfl
theorem cd_is_wide : cDef (gK 1 0 0 0) n_is_wide (tops 16) = some c_is_wide := by kernel_rfl
theorem cd_is_word : cDef (gK 2 0 0 0) n_is_word (tops 17) = some c_is_word := by kernel_rfl
theorem cd_is_right_world : cDef (gK 3 0 0 0) n_is_right_world (tops 18) = some c_is_right_world := by kernel_rfl
theorem cd_is_right_rule : cDef (gK 4 0 0 0) n_is_right_rule (tops 19) = some c_is_right_rule := by kernel_rfl
theorem cd_numbers_in : cDef (gK 5 0 0 0) n_numbers_in (tops 20) = some c_numbers_in := by kernel_rfl
theorem cd_need_world : cDef (gK 6 0 0 0) n_need_world (tops 21) = some c_need_world := by kernel_rfl
theorem cd_need_rule : cDef (gK 7 0 0 0) n_need_rule (tops 22) = some c_need_rule := by kernel_rfl
theorem cd_with_client : cDef (gK 8 0 0 0) n_with_client (tops 24) = some c_with_client := by kernel_rfl
theorem cd_ranked : cDef (gK 9 0 0 0) n_ranked (tops 25) = some c_ranked := by kernel_rfl
theorem cd_events_at : cDef (gK 10 0 0 0) n_events_at (tops 26) = some c_events_at := by kernel_rfl
theorem cd_asked_for : cDef (gK 11 0 0 0) n_asked_for (tops 27) = some c_asked_for := by kernel_rfl
theorem cd_arrived : cDef (gK 12 0 0 0) n_arrived (tops 28) = some c_arrived := by kernel_rfl
theorem cd_later : cDef (gK 13 0 0 0) n_later (tops 29) = some c_later := by kernel_rfl
theorem cd_ticked : cDef (gK 14 0 0 0) n_ticked (tops 30) = some c_ticked := by kernel_rfl
theorem cd_happened : cDef (gK 15 0 0 0) n_happened (tops 31) = some c_happened := by kernel_rfl
theorem cd_step : cDef (gK 16 0 0 0) n_step (tops 32) = some c_step := by kernel_rfl
theorem cd__law_source : cDef (gK 17 0 0 0) n__law_source (tops 52) = some c__law_source := by kernel_rfl
theorem cd__law_pick : cDef (gK 18 0 0 0) n__law_pick (tops 53) = some c__law_pick := by kernel_rfl
theorem cd__law_chosen : cDef (gK 19 0 0 0) n__law_chosen (tops 54) = some c__law_chosen := by kernel_rfl
theorem cd__law_wide : cDef (gK 20 0 0 0) n__law_wide (tops 55) = some c__law_wide := by kernel_rfl
theorem cd__law_whole : cDef (gK 21 0 0 0) n__law_whole (tops 56) = some c__law_whole := by kernel_rfl
theorem cd__law_among : cDef (gK 22 0 0 0) n__law_among (tops 57) = some c__law_among := by kernel_rfl
theorem cd__law_good_terms : cDef (gK 23 0 0 0) n__law_good_terms (tops 58) = some c__law_good_terms := by kernel_rfl
theorem cd__wall : cDef (gK 24 0 0 0) n__wall (tops 0) = some c__wall := by kernel_rfl
theorem cd_is_alone : cDef (gK 25 0 0 0) n_is_alone (tops 34) = some c_is_alone := by kernel_rfl
theorem cd_comes : cDef (gK 26 0 0 0) n_comes (tops 35) = some c_comes := by kernel_rfl
theorem cd_harms_of : cDef (gK 29 0 0 0) n_harms_of (tops 38) = some c_harms_of := by kernel_rfl
theorem cd_having : cDef (gK 30 0 0 0) n_having (tops 41) = some c_having := by kernel_rfl
theorem cd_label : cDef (gK 31 0 0 0) n_label (tops 44) = some c_label := by kernel_rfl
theorem cd_line_of : cDef (gK 32 0 0 0) n_line_of (tops 45) = some c_line_of := by kernel_rfl
theorem cd_rule_in : cDef (gK 33 0 0 0) n_rule_in (tops 46) = some c_rule_in := by kernel_rfl
theorem cd_rule_line : cDef (gK 34 0 0 0) n_rule_line (tops 47) = some c_rule_line := by kernel_rfl
theorem cd_read_rule : cDef (gK 35 0 0 0) n_read_rule (tops 48) = some c_read_rule := by kernel_rfl
theorem cd_Terms___init__ : cDef (gK 36 0 0 0) n_Terms___init__ (mems 50 1) = some c_Terms___init__ := by kernel_rfl
theorem cd_Terms_of : cDef (gK 36 0 0 1) n_Terms_of (mems 50 2) = some c_Terms_of := by kernel_rfl
theorem cd_Terms_source : cDef (gK 36 0 1 1) n_Terms_source (mems 50 3) = some c_Terms_source := by kernel_rfl
theorem cd__law_terms_k71 : cDef (gK 36 1 1 1) n__law_terms_k71 (tops 59) = some c__law_terms_k71 := by kernel_rfl
theorem cd__law_line : cDef (gK 37 1 1 1) n__law_line (tops 60) = some c__law_line := by kernel_rfl
theorem cd__law_told : cDef (gK 38 1 1 1) n__law_told (tops 61) = some c__law_told := by kernel_rfl
theorem cd__law_read : cDef (gK 39 1 1 1) n__law_read (tops 62) = some c__law_read := by kernel_rfl
theorem cd__law_reading : cDef (gK 40 1 1 1) n__law_reading (tops 63) = some c__law_reading := by kernel_rfl
theorem cd__law_bent : cDef (gK 41 1 1 1) n__law_bent (tops 64) = some c__law_bent := by kernel_rfl
theorem cd_law_k71 : cDef (gK 42 1 1 1) n_law_k71 (tops 65) = some c_law_k71 := by kernel_rfl
end BH
end

section
set_option Elab.async false
set_option linter.all false
set_option maxRecDepth 100000
set_option maxHeartbeats 2000000
/-! Worlds, rules, stands, events: the data, what the program does with them. -/
namespace BH
open PySem L2

def cI (c : Bool) : Int := if c then 1 else 0
@[simp] theorem cI_t : cI true = 1 := rfl
@[simp] theorem cI_f : cI false = 0 := rfl
inductive Kd where
  | ask | renew | back | yes
  deriving DecidableEq
structure Wy where
  kd : Kd
  wait : Int
  since : Int
  num : Int
  deriving DecidableEq
structure Cl where
  left : Int
  num : Int
  way : Option Wy
  deriving DecidableEq
structure Sd where
  holder : Option Bool
  kept : Int
  rest : Int
  last : Int
  used : Int
  a : Cl
  b : Cl
  deriving DecidableEq
structure Ru where
  keep : Int
  use : Int
  asked : Bool
  yes : Bool
  number : Bool
  rest : Int
  deriving DecidableEq
structure Wo where
  delay : Int
  loses : Bool
  falls : Bool
  deriving DecidableEq
inductive Ew where
  | arrive | ask | back | lose | renew | use
  deriving DecidableEq
inductive Ev where
  | tick | fall | on (w : Ew) (c : Bool)
  deriving DecidableEq
inductive Wd where
  | done | refused | granted | late | freed | held | barred | used
  deriving DecidableEq
def Kd.s : Kd → Str
  | .ask => "ask" | .renew => "renew" | .back => "back" | .yes => "yes"
def Ew.s : Ew → Str
  | .arrive => "arrive" | .ask => "ask" | .back => "back" | .lose => "lose" | .renew => "renew" | .use => "use"
def Wd.s : Wd → Str
  | .done => "done" | .refused => "refused" | .granted => "granted" | .late => "late" | .freed => "freed" | .held => "held" | .barred => "barred" | .used => "used"
def Wy.d (w : Wy) : D := .tup [.str w.kd.s, .int w.wait, .int w.since, .int w.num]
def wayD : Option Wy → D
  | none => .non
  | some w => w.d
def Cl.d (c : Cl) : D := .tup [.int c.left, .int c.num, wayD c.way]
def hoD : Option Bool → D
  | none => .non
  | some c => .int (cI c)
def Sd.house (s : Sd) : D := .tup [hoD s.holder, .int s.kept, .int s.rest, .int s.last]
def Sd.d (s : Sd) : D := .tup [s.house, .int s.used, s.a.d, s.b.d]
def Ru.d (r : Ru) : D := .tup [.int r.keep, .int r.use, .str (if r.asked then "asked" else "came"), .str (if r.yes then "yes" else "no"), .str (if r.number then "number" else "no"), .int r.rest]
def Wo.d (w : Wo) : D := .tup [.int w.delay, .bl w.loses, .bl w.falls]
def Ev.d : Ev → D
  | .tick => .tup [.str "tick"]
  | .fall => .tup [.str "fall"]
  | .on w c => .tup [.str w.s, .int (cI c)]
def Sd.cl (s : Sd) (c : Bool) : Cl := if c then s.b else s.a
def Sd.setc (s : Sd) (c : Bool) (v : Cl) : Sd := if c then { s with b := v } else { s with a := v }

/-! ### what the program does -/
def askedFor (r : Ru) (s : Sd) (c : Bool) (w : Wy) : Sd × Wd :=
  if s.holder = none ∧ s.rest = 0 ∧ (w.kd = .ask ∨ r.yes = true) then
    (({ s with holder := some c, kept := r.keep, rest := 0, last := s.last + 1 } : Sd).setc c ⟨(s.cl c).left, (s.cl c).num, some ⟨.yes, 0, w.since, s.last + 1⟩⟩, .granted)
  else if s.holder = some c then
    (({ s with holder := some c, kept := r.keep, rest := 0 } : Sd).setc c ⟨(s.cl c).left, (s.cl c).num, some ⟨.yes, 0, w.since, s.last⟩⟩, .granted)
  else (s.setc c ⟨(s.cl c).left, (s.cl c).num, none⟩, .refused)
def arrivedP (r : Ru) (s : Sd) (c : Bool) (w : Wy) : Sd × Wd :=
  match w.kd with
  | .ask => askedFor r s c w
  | .renew => askedFor r s c w
  | .back => if s.holder = some c then (({ s with holder := none, kept := 0 } : Sd).setc c ⟨(s.cl c).left, (s.cl c).num, none⟩, .freed) else (s.setc c ⟨(s.cl c).left, (s.cl c).num, none⟩, .late)
  | .yes => if (if r.asked then r.use - w.since else r.use) ≤ (s.cl c).left then (s.setc c ⟨(s.cl c).left, (s.cl c).num, none⟩, .late)
    else (s.setc c ⟨if r.asked then r.use - w.since else r.use, w.num, none⟩, .held)
def laterW (r : Ru) (w : Wy) : Wy := ⟨w.kd, w.wait + 1, if w.kd = .back then 0 else min r.use (w.since + 1), w.num⟩
def laterP (r : Ru) (c : Cl) : Cl := if c.left > 1 then ⟨c.left - 1, c.num, c.way.map (laterW r)⟩ else ⟨0, 0, c.way.map (laterW r)⟩
def tickedP (r : Ru) (s : Sd) : Sd :=
  if s.kept > 1 then { s with kept := s.kept - 1, rest := 0, a := laterP r s.a, b := laterP r s.b }
  else { s with holder := none, kept := 0, rest := max 0 (s.rest - 1), a := laterP r s.a, b := laterP r s.b }

section
variable (M : Store)
@[simp] theorem add_tt (x y : List D) : binD .Add (.tup x) (.tup y) M = if x.length + y.length ≤ szl then .ok (.tup (x ++ y)) M else .bad := rfl
@[simp] theorem slc_t (xs : List D) (lo hi : Option Int) : slcD (.tup xs) lo hi M = .ok (.tup (cutD xs lo hi)) M := rfl
@[simp] theorem szl_v : szl = 16777216 := rfl
theorem cut_from (ds : List D) (k : Nat) (h : k ≤ ds.length) : cutD ds (some k) none = ds.drop k := by
  unfold cutD
  rw [HT.sIx_nat, HT.sIx_none, Nat.min_eq_left h, List.take_of_length_le (by simp)]
@[simp] theorem cut_f1 (a : D) (r : List D) : cutD (a :: r) (some 1) none = r := cut_from (a :: r) 1 (by simp)
@[simp] theorem cut_f2 (a b : D) (r : List D) : cutD (a :: b :: r) (some 2) none = r := cut_from (a :: b :: r) 2 (by simp)
@[simp] theorem lo_ho (n : Nat) (h : Option Bool) : D.lo n (hoD h) = true := by cases h <;> simp [hoD]
@[simp] theorem lo_wy (n : Nat) (w : Wy) : D.lo n w.d = true := by simp [Wy.d]
@[simp] theorem lo_way (n : Nat) (w : Option Wy) : D.lo n (wayD w) = true := by cases w <;> simp [wayD]
@[simp] theorem lo_cl (n : Nat) (c : Cl) : D.lo n c.d = true := by simp [Cl.d]
@[simp] theorem lo_house (n : Nat) (s : Sd) : D.lo n s.house = true := by simp [Sd.house]
@[simp] theorem lo_sd (n : Nat) (s : Sd) : D.lo n s.d = true := by simp [Sd.d]
@[simp] theorem lo_ru (n : Nat) (r : Ru) : D.lo n r.d = true := by simp [Ru.d]
@[simp] theorem lo_wo (n : Nat) (r : Wo) : D.lo n r.d = true := by simp [Wo.d]
@[simp] theorem lo_ev (n : Nat) (e : Ev) : D.lo n e.d = true := by cases e <;> simp [Ev.d]
@[simp] theorem gc_sd (s : Sd) : gcO M (.ok s.d M) = .ok s.d M := gc_pure0 (by simp)
@[simp] theorem gc_cl (s : Cl) : gcO M (.ok s.d M) = .ok s.d M := gc_pure0 (by simp)
@[simp] theorem pu_ho (n : Nat) (h : Option Bool) : D.pu n (hoD h) = true := by cases h <;> simp [hoD]
@[simp] theorem ok_kd (k : Kd) : PyData.strOk k.s = true := by cases k <;> simp [Kd.s]
@[simp] theorem ok_ew (k : Ew) : PyData.strOk k.s = true := by cases k <;> simp [Ew.s]
@[simp] theorem ok_wd (k : Wd) : PyData.strOk k.s = true := by cases k <;> simp [Wd.s]
theorem pu_wy (n : Nat) (w : Wy) : D.pu (n + 1) w.d = true := by simp only [Wy.d, D.pu]; simp
theorem pu_way (n : Nat) (w : Option Wy) : D.pu (n + 1) (wayD w) = true := by cases w <;> simp [wayD, pu_wy]
theorem pu_cl (n : Nat) (c : Cl) : D.pu (n + 2) c.d = true := by simp only [Cl.d, D.pu]; simp [pu_way]
theorem pu_house (n : Nat) (s : Sd) : D.pu (n + 1) s.house = true := by simp only [Sd.house, D.pu]; simp
theorem pu_sd (n : Nat) (s : Sd) : D.pu (n + 3) s.d = true := by simp only [Sd.d, D.pu]; simp [pu_cl, pu_house]
theorem pu_ev (n : Nat) (e : Ev) : D.pu (n + 1) e.d = true := by cases e <;> (simp only [Ev.d, D.pu]; simp)
@[simp] theorem pu64_sd (s : Sd) : D.pu 64 s.d = true := pu_sd 61 s
@[simp] theorem pu64_ev (s : Ev) : D.pu 64 s.d = true := pu_ev 63 s
@[simp] theorem pu63_ev (s : Ev) : D.pu 63 s.d = true := pu_ev 62 s
@[simp] theorem eq_ho (c : Bool) (h : Option Bool) : D.eq (hoD h) (.int (cI c)) = decide (h = some c) := by
  cases h with
  | none => simp [hoD]
  | some x => cases x <;> cases c <;> simp [hoD]
@[simp] theorem is_ho (h : Option Bool) : cmpD .Is (hoD h) .non M = .ok (.bl (decide (h = none))) M := by cases h <;> simp [hoD]
/-- a value as it is, its places old -/
theorem gc_lo {d : D} (h : D.lo M.length d = true) : gcO M (.ok d M) = .ok d M := gc_pure0 h
theorem r_with_client0 {h u x y v : D} (h1 : D.lo M.length h = true) (h2 : D.lo M.length u = true) (h4 : D.lo M.length y = true) (h5 : D.lo M.length v = true) : run 9 [.tup [h, u, x, y], .int 0, v] M = .ok (.tup [h, u, v, y]) M := by
  rw [run, evm_eq tb supx t_with_client]
  simp [c_with_client, startD, getV, eqD_pu, *]
theorem r_with_client1 {h u x y v : D} (h1 : D.lo M.length h = true) (h2 : D.lo M.length u = true) (h3 : D.lo M.length x = true) (h5 : D.lo M.length v = true) : run 9 [.tup [h, u, x, y], .int 1, v] M = .ok (.tup [h, u, x, v]) M := by
  rw [run, evm_eq tb supx t_with_client]
  simp [c_with_client, startD, getV, eqD_pu, *]
theorem kd_eq (k k' : Kd) : (k.s = k'.s) = (k = k') := by
  cases k <;> cases k' <;> simp [Kd.s]
@[simp] theorem kd_ask (k : Kd) : (k.s = Str.ofString "ask") = (k = .ask) := kd_eq k .ask
@[simp] theorem kd_renew (k : Kd) : (k.s = Str.ofString "renew") = (k = .renew) := kd_eq k .renew
@[simp] theorem kd_back (k : Kd) : (k.s = Str.ofString "back") = (k = .back) := kd_eq k .back
@[simp] theorem kd_yes (k : Kd) : (k.s = Str.ofString "yes") = (k = .yes) := kd_eq k .yes
@[simp] theorem kd_ask' (k : Kd) : (Str.ofString "ask" = k.s) = (k = .ask) := by rw [eq_comm (a := Str.ofString "ask")]; exact kd_eq k .ask
@[simp] theorem kd_renew' (k : Kd) : (Str.ofString "renew" = k.s) = (k = .renew) := by rw [eq_comm (a := Str.ofString "renew")]; exact kd_eq k .renew
@[simp] theorem kd_back' (k : Kd) : (Str.ofString "back" = k.s) = (k = .back) := by rw [eq_comm (a := Str.ofString "back")]; exact kd_eq k .back
@[simp] theorem kd_yes' (k : Kd) : (Str.ofString "yes" = k.s) = (k = .yes) := by rw [eq_comm (a := Str.ofString "yes")]; exact kd_eq k .yes
@[simp] theorem ite_str (c : Prop) [Decidable c] (a b : Str) : (if c then D.str a else D.str b) = D.str (if c then a else b) := by split <;> rfl
@[simp] theorem ok_ite (c : Prop) [Decidable c] (a b : Str) : PyData.strOk (if c then a else b) = if c then PyData.strOk a else PyData.strOk b := by split <;> rfl
@[simp] theorem Kd_s_ask : Kd.s .ask = Str.ofString "ask" := rfl
@[simp] theorem Kd_s_renew : Kd.s .renew = Str.ofString "renew" := rfl
@[simp] theorem Kd_s_back : Kd.s .back = Str.ofString "back" := rfl
@[simp] theorem Kd_s_yes : Kd.s .yes = Str.ofString "yes" := rfl
@[simp] theorem Ew_s_arrive : Ew.s .arrive = Str.ofString "arrive" := rfl
@[simp] theorem Ew_s_ask : Ew.s .ask = Str.ofString "ask" := rfl
@[simp] theorem Ew_s_back : Ew.s .back = Str.ofString "back" := rfl
@[simp] theorem Ew_s_lose : Ew.s .lose = Str.ofString "lose" := rfl
@[simp] theorem Ew_s_renew : Ew.s .renew = Str.ofString "renew" := rfl
@[simp] theorem Ew_s_use : Ew.s .use = Str.ofString "use" := rfl
@[simp] theorem Wd_s_done : Wd.s .done = Str.ofString "done" := rfl
@[simp] theorem Wd_s_refused : Wd.s .refused = Str.ofString "refused" := rfl
@[simp] theorem Wd_s_granted : Wd.s .granted = Str.ofString "granted" := rfl
@[simp] theorem Wd_s_late : Wd.s .late = Str.ofString "late" := rfl
@[simp] theorem Wd_s_freed : Wd.s .freed = Str.ofString "freed" := rfl
@[simp] theorem Wd_s_held : Wd.s .held = Str.ofString "held" := rfl
@[simp] theorem Wd_s_barred : Wd.s .barred = Str.ofString "barred" := rfl
@[simp] theorem Wd_s_used : Wd.s .used = Str.ofString "used" := rfl
@[simp] theorem wayD_some (w : Wy) : wayD (some w) = w.d := rfl
@[simp] theorem wayD_none : wayD none = .non := rfl
@[simp] theorem hoD_some (c : Bool) : hoD (some c) = .int (cI c) := rfl
@[simp] theorem hoD_none : hoD none = .non := rfl
@[simp] theorem eq_ho0 (h : Option Bool) : D.eq (hoD h) (.int 0) = decide (h = some false) := eq_ho false h
@[simp] theorem eq_ho1 (h : Option Bool) : D.eq (hoD h) (.int 1) = decide (h = some true) := eq_ho true h
@[simp] theorem is_way (h : Option Wy) : cmpD .Is (wayD h) .non M = .ok (.bl (decide (h = none))) M := by cases h <;> simp [Wy.d]
@[simp] theorem isn_way (h : Option Wy) : cmpD .IsNot (wayD h) .non M = .ok (.bl (decide (h ≠ none))) M := by cases h <;> simp [Wy.d]
@[simp] theorem isn_ho (h : Option Bool) : cmpD .IsNot (hoD h) .non M = .ok (.bl (decide (h ≠ none))) M := by cases h <;> simp [hoD]
theorem r_asked_for (r : Ru) (s : Sd) (c : Bool) (w : Wy) (hw : (s.cl c).way = some w) : run 12 [r.d, s.d, .int (cI c)] M = .ok (.tup [(askedFor r s c w).1.d, .str (askedFor r s c w).2.s]) M := by
  rw [run, evm_eq tb supx t_asked_for]
  obtain ⟨ho, kept, rest, last, used, ⟨la, na, wa⟩, ⟨lb, nb, wb⟩⟩ := s
  obtain ⟨keep, use, asked, yes, number, rst⟩ := r
  cases c
  all_goals
    simp only [Sd.cl] at hw
    simp at hw
    subst hw
    by_cases h1 : ho = none ∧ rest = 0 ∧ (w.kd = Kd.ask ∨ yes = true)
    · simp [c_asked_for, startD, getV, Sd.d, Sd.house, Cl.d, Wy.d, Ru.d, sPar, setAll, eqD_pu, h1, askedFor, r_with_client0, r_with_client1, Sd.setc, Sd.cl]
    · simp [c_asked_for, startD, getV, Sd.d, Sd.house, Cl.d, Wy.d, Ru.d, sPar, setAll, eqD_pu, h1, askedFor, r_with_client0, r_with_client1, Sd.setc, Sd.cl]
      split <;> simp [*, Wy.d]
theorem cl_at (s : Sd) (c : Bool) : subD s.d (.int (2 + cI c)) M = .ok (s.cl c).d M := by
  cases c <;> simp [Sd.d, Sd.cl]
theorem r_arrived (r : Ru) (s : Sd) (c : Bool) (w : Wy) (hw : (s.cl c).way = some w) : run 13 [r.d, s.d, .int (cI c)] M = .ok (.tup [(arrivedP r s c w).1.d, .str (arrivedP r s c w).2.s]) M := by
  by_cases hk : w.kd = .ask ∨ w.kd = .renew
  · have ha := r_asked_for M r s c w hw
    have hm : arrivedP r s c w = askedFor r s c w := by unfold arrivedP; rcases hk with e | e <;> rw [e]
    rw [hm]
    rw [run, evm_eq tb supx t_arrived]
    have h1 : (s.cl c).d = .tup [.int (s.cl c).left, .int (s.cl c).num, w.d] := by simp [Cl.d, hw]
    have h2 : inD M (.str w.kd.s) (.tup [.str "ask", .str "renew"]) = some true := by
      rw [inD_pu (by simp) (by simp)]
      rcases hk with e | e <;> simp [e]
    simp [c_arrived, startD, getV, cl_at, h1, Wy.d, h2, ha]
  · have h2 : inD M (.str w.kd.s) (.tup [.str "ask", .str "renew"]) = some false := by
      rw [inD_pu (by simp) (by simp)]
      simp only [not_or] at hk
      simp [hk]
    rw [run, evm_eq tb supx t_arrived]
    obtain ⟨ho, kept, rest, last, used, ⟨la, na, wa⟩, ⟨lb, nb, wb⟩⟩ := s
    obtain ⟨keep, use, asked, yes, number, rst⟩ := r
    obtain ⟨kd, wait, since, num⟩ := w
    cases c
    all_goals
      simp only [Sd.cl] at hw
      simp at hw
      subst hw
      cases kd
      · simp at hk
      · simp at hk
      · simp only [Kd_s_back] at h2
        simp [c_arrived, startD, getV, Sd.d, Sd.house, Cl.d, Wy.d, Ru.d, eqD_pu, h2, r_with_client0, r_with_client1, arrivedP, Sd.setc, Sd.cl]
        split <;> simp [*]
      · simp only [Kd_s_yes] at h2
        cases asked
        · simp [c_arrived, startD, getV, Sd.d, Sd.house, Cl.d, Wy.d, Ru.d, eqD_pu, h2, r_with_client0, r_with_client1, arrivedP, Sd.setc, Sd.cl]
          split <;> simp [*]
        · simp [c_arrived, startD, getV, Sd.d, Sd.house, Cl.d, Wy.d, Ru.d, eqD_pu, h2, r_with_client0, r_with_client1, arrivedP, Sd.setc, Sd.cl]
          split <;> simp [*]
theorem r_later (r : Ru) (c : Cl) : run 14 [r.d, c.d] M = .ok (laterP r c).d M := by
  rw [run, evm_eq tb supx t_later]
  obtain ⟨l, n, w⟩ := c
  cases w with
  | none =>
    simp [c_later, startD, getV, Cl.d, laterP]
    split <;> simp
  | some w =>
    obtain ⟨kd, wait, since, num⟩ := w
    cases kd
    all_goals
      simp [c_later, startD, getV, Cl.d, laterP, laterW, Wy.d, Ru.d, eqD_pu]
      split <;> simp [Wy.d]
theorem r_ticked (r : Ru) (s : Sd) : run 15 [r.d, s.d] M = .ok (tickedP r s).d M := by
  rw [run, evm_eq tb supx t_ticked]
  have ha := r_later M r s.a
  have hb := r_later M r s.b
  obtain ⟨ho, kept, rest, last, used, a, b⟩ := s
  simp [c_ticked, startD, getV, Sd.d, Sd.house, tickedP]
  split <;> simp [getV, ha, hb]
def happenedP (r : Ru) (s : Sd) : Ev → Sd × Wd
  | .tick => (tickedP r s, .done)
  | .fall => ({ s with holder := none, kept := 0, rest := r.rest }, .done)
  | .on .arrive c => match (s.cl c).way with
    | some w => arrivedP r s c w
    | none => (s, .done)
  | .on .use c => if r.number = true ∧ (s.cl c).num < s.used then (s, .barred) else ({ s with used := max (s.cl c).num s.used }, .used)
  | .on .lose c => (s.setc c ⟨(s.cl c).left, (s.cl c).num, none⟩, .done)
  | .on .back c => (s.setc c ⟨0, 0, some ⟨.back, 0, 0, 0⟩⟩, .done)
  | .on .ask c => (s.setc c ⟨(s.cl c).left, (s.cl c).num, some ⟨.ask, 0, 0, 0⟩⟩, .done)
  | .on .renew c => (s.setc c ⟨(s.cl c).left, (s.cl c).num, some ⟨.renew, 0, 0, 0⟩⟩, .done)
theorem r_happened (r : Ru) (s : Sd) (e : Ev) (he : ∀ c, e = .on .arrive c → (s.cl c).way ≠ none) : run 16 [r.d, s.d, e.d] M = .ok (.tup [(happenedP r s e).1.d, .str (happenedP r s e).2.s]) M := by
  rw [run, evm_eq tb supx t_happened]
  cases e with
  | tick =>
    have h := r_ticked M r s
    simp [c_happened, startD, getV, Ev.d, eqD_pu, h, happenedP]
  | fall =>
    simp [c_happened, startD, getV, Ev.d, eqD_pu, happenedP, Sd.d, Sd.house, Ru.d]
  | on w c =>
    cases w with
    | arrive =>
      cases hw : (s.cl c).way with
      | none => exact absurd hw (he c rfl)
      | some w =>
        have h := r_arrived M r s c w hw
        have h1 : (s.cl c).d = .tup [.int (s.cl c).left, .int (s.cl c).num, w.d] := by simp [Cl.d, hw]
        have h3 : evG (evb tb supx 16) (CT.tup [CT.nm 5, CT.nm 6, CT.nm 7]) = evG (evb tb supx 16) (CT.tup [CT.nm 5, CT.nm 6, CT.nm 7]) := rfl
        simp [c_happened, startD, getV, Ev.d, eqD_pu, happenedP, cl_at, h1, hw, h]
    | use =>
      obtain ⟨ho, kept, rest, last, used, ⟨la, na, wa⟩, ⟨lb, nb, wb⟩⟩ := s
      obtain ⟨keep, use, asked, yes, number, rst⟩ := r
      cases c <;> cases number <;> simp [c_happened, startD, getV, Ev.d, eqD_pu, happenedP, Sd.d, Sd.house, Ru.d, Cl.d, Sd.cl] <;> split <;> simp [*]
    | lose =>
      obtain ⟨ho, kept, rest, last, used, ⟨la, na, wa⟩, ⟨lb, nb, wb⟩⟩ := s
      cases c <;> simp [c_happened, startD, getV, Ev.d, eqD_pu, happenedP, Sd.d, Sd.house, Cl.d, Sd.cl, Sd.setc, r_with_client0, r_with_client1]
    | back =>
      obtain ⟨ho, kept, rest, last, used, ⟨la, na, wa⟩, ⟨lb, nb, wb⟩⟩ := s
      cases c <;> simp [c_happened, startD, getV, Ev.d, eqD_pu, happenedP, Sd.d, Sd.house, Cl.d, Sd.cl, Sd.setc, Wy.d, r_with_client0, r_with_client1]
    | ask =>
      obtain ⟨ho, kept, rest, last, used, ⟨la, na, wa⟩, ⟨lb, nb, wb⟩⟩ := s
      cases c <;> simp [c_happened, startD, getV, Ev.d, eqD_pu, happenedP, Sd.d, Sd.house, Cl.d, Sd.cl, Sd.setc, Wy.d, r_with_client0, r_with_client1]
    | renew =>
      obtain ⟨ho, kept, rest, last, used, ⟨la, na, wa⟩, ⟨lb, nb, wb⟩⟩ := s
      cases c <;> simp [c_happened, startD, getV, Ev.d, eqD_pu, happenedP, Sd.d, Sd.house, Cl.d, Sd.cl, Sd.setc, Wy.d, r_with_client0, r_with_client1]
end
end BH
end

section
set_option Elab.async false
set_option linter.all false
set_option maxRecDepth 100000
set_option maxHeartbeats 2000000
/-! numbers_in, ranked, step. -/
namespace BH
open PySem L2

section
variable (M J : Store)
@[simp] theorem st_get (k : Nat) : (M ++ J)[M.length + k]? = J[k]? := by
  rw [List.getElem?_append_right (Nat.le_add_right _ _), Nat.add_sub_cancel_left]
@[simp] theorem st_get0 : (M ++ J)[M.length]? = J[0]? := st_get M J 0
@[simp] theorem st_set (k : Nat) (x : MO) : (M ++ J).set (M.length + k) x = M ++ J.set k x := by
  rw [List.set_append_right _ _ (Nat.le_add_right _ _), Nat.add_sub_cancel_left]
@[simp] theorem st_set0 (x : MO) : (M ++ J).set M.length x = M ++ J.set 0 x := st_set M J 0 x
theorem gc_l0 {ds : List D} (h : D.loL M.length ds = true) : gcO M (.ok (.ll M.length) (M ++ .lst ds :: J)) = .ok (.ll M.length) (M ++ [.lst ds]) := gc_list (k := 0) rfl h
@[simp] theorem loL_ints (n : Nat) : ∀ L : List Int, D.loL n (L.map D.int) = true
  | [] => by simp
  | x :: xs => by simp [loL_ints n xs]
@[simp] theorem loL_app (n : Nat) : ∀ a b : List D, D.loL n (a ++ b) = (D.loL n a && D.loL n b)
  | [], b => by simp
  | x :: xs, b => by simp [loL_app n xs b, Bool.and_assoc]
@[simp] theorem intsD_map : ∀ L : List Int, intsD (L.map D.int) = some L
  | [] => rfl
  | x :: xs => by simp [intsD, intsD_map xs]
theorem meD_app {l : Nat} {d : D} {M : Store} : meD .append (.ll l) [d] M = match M[l]? with
    | some (.lst xs) => if xs.length < szl then .ok .non (M.set l (.lst (xs ++ [d]))) else .bad
    | _ => .bad := rfl
theorem sub_app0 {l : Nat} {M : Store} : subD (.ll l) (.int 0) M = match M[l]? with
    | some (.lst (a :: r)) => .ok a M
    | _ => .bad := by
  unfold subD
  dsimp only
  cases h : M[l]? with
  | none => rfl
  | some o =>
    cases o with
    | lst xs => cases xs with
      | nil => rfl
      | cons a r => have := sub_l0 M h; unfold subD at this; dsimp only at this; rw [h] at this; exact this
    | dk _ => rfl
    | ins _ _ => rfl
theorem sub_app1 {l : Nat} {M : Store} : subD (.ll l) (.int 1) M = match M[l]? with
    | some (.lst (a :: b :: r)) => .ok b M
    | _ => .bad := by
  unfold subD
  dsimp only
  cases h : M[l]? with
  | none => rfl
  | some o =>
    cases o with
    | lst xs => cases xs with
      | nil => rfl
      | cons a r => cases r with
        | nil => rfl
        | cons b r => have := sub_l1 M h; unfold subD at this; dsimp only at this; rw [h] at this; exact this
    | dk _ => rfl
    | ins _ _ => rfl
def wn (c : Cl) : List Int := match c.way with
  | none => []
  | some w => [w.num]
def numbersOf (s : Sd) : List Int := [s.last, s.used, s.a.num, s.b.num] ++ wn s.a ++ wn s.b
theorem r_numbers_in (s : Sd) : run 6 [s.d] M = .ok (.ll M.length) (M ++ [.lst ((numbersOf s).map D.int)]) := by
  rw [run, evm_eq tb supx t_numbers_in]
  obtain ⟨ho, kept, rest, last, used, ⟨la, na, wa⟩, ⟨lb, nb, wb⟩⟩ := s
  cases wa <;> cases wb <;> simp [c_numbers_in, startD, getV, Sd.d, Sd.house, Cl.d, Wy.d, newL, forL, Itm.chk, Itm.ds, itmD, meD, numbersOf, wn, gc_l0]
def rk (L : List Int) (x : Int) : Int := ((setI L).findIdx (fun z => decide (z = x)) : Nat)
theorem rk_idx {L : List Int} {x : Int} (h : x ∈ L) : (setI L).findIdx? (fun z => decide (z = x)) = some ((setI L).findIdx (fun z => decide (z = x))) := by
  have h2 := (setI_mem x L).mpr h
  have : (setI L).findIdx (fun z => decide (z = x)) < (setI L).length := List.findIdx_lt_length_of_exists ⟨x, h2, by simp⟩
  rw [List.findIdx?_eq_guard_findIdx_lt]
  simp [Option.guard, this]
theorem index_ok {l : Nat} {L : List Int} {x : Int} {M : Store} (hl : M[l]? = some (.lst ((setI L).map D.int))) (h : x ∈ L) : meD .index (.ll l) [.int x] M = .ok (.int (rk L x)) M := by
  unfold meD
  dsimp only
  rw [hl]
  dsimp only
  rw [intsD_map]
  dsimp only
  rw [rk_idx h]
  rfl
theorem srs_ok {l : Nat} {L : List Int} {M : Store} (hl : M[l]? = some (.lst (L.map D.int))) (h : L.length < 64) : srsD (.ll l) M = newL M ((setI L).map D.int) := by
  unfold srsD
  dsimp only
  rw [hl]
  dsimp only
  rw [intsD_map]
  dsimp only
  rw [if_pos h]
theorem insI_len (i : Int) : ∀ xs : List Int, (insI i xs).length ≤ xs.length + 1
  | [] => by simp [insI]
  | x :: xs => by
    unfold insI
    split
    · simp
    · split
      · simp
      · have := insI_len i xs; simp; omega
theorem setI_len : ∀ xs : List Int, (setI xs).length ≤ xs.length
  | [] => by simp [setI]
  | x :: xs => by
    have := insI_len x (setI xs)
    have := setI_len xs
    show (insI x (setI xs)).length ≤ _
    simp only [List.length_cons]
    omega
def rkC (L : List Int) (c : Cl) : Cl := ⟨c.left, rk L c.num, c.way.map fun w => ⟨w.kd, w.wait, w.since, rk L w.num⟩⟩
def rankedP (s : Sd) : Sd := ⟨s.holder, s.kept, s.rest, rk (numbersOf s ++ [0]) s.last, rk (numbersOf s ++ [0]) s.used, rkC (numbersOf s ++ [0]) s.a, rkC (numbersOf s ++ [0]) s.b⟩
theorem num_len (s : Sd) : (numbersOf s ++ [0]).length ≤ 7 := by
  unfold numbersOf wn
  split <;> split <;> simp
theorem r_ranked (s : Sd) : run 10 [s.d] M = .ok (rankedP s).d M := by
  rw [run, evm_eq tb supx t_ranked]
  have hlen := num_len s
  have hset := setI_len (numbersOf s ++ [0])
  have m1 : s.last ∈ numbersOf s ++ [0] := by simp [numbersOf]
  have m2 : s.used ∈ numbersOf s ++ [0] := by simp [numbersOf]
  have m3 : s.a.num ∈ numbersOf s ++ [0] := by simp [numbersOf]
  have m4 : s.b.num ∈ numbersOf s ++ [0] := by simp [numbersOf]
  have m5 : ∀ w, s.a.way = some w → w.num ∈ numbersOf s ++ [0] := fun w h => by simp [numbersOf, wn, h]
  have m6 : ∀ w, s.b.way = some w → w.num ∈ numbersOf s ++ [0] := fun w h => by simp [numbersOf, wn, h]
  have hn := r_numbers_in M s
  have hrk : rankedP s = ⟨s.holder, s.kept, s.rest, rk (numbersOf s ++ [0]) s.last, rk (numbersOf s ++ [0]) s.used, rkC (numbersOf s ++ [0]) s.a, rkC (numbersOf s ++ [0]) s.b⟩ := rfl
  rw [hrk]
  generalize hL : numbersOf s ++ [0] = L at *
  have e1 : (numbersOf s).map D.int ++ [D.int 0] = L.map D.int := by rw [← hL]; simp
  have hle : (numbersOf s).length ≤ 16777215 := by rw [← hL] at hlen; simp at hlen; omega
  have hs : srsD (.ll (M.length + 2)) (M ++ [MO.lst ((numbersOf s).map D.int), MO.lst [D.int 0], MO.lst (L.map D.int)]) =
      .ok (.ll (M.length + 3)) (M ++ [MO.lst ((numbersOf s).map D.int), MO.lst [D.int 0], MO.lst (L.map D.int), MO.lst ((setI L).map D.int)]) := by
    rw [srs_ok (L := L) (by simp) (by omega)]
    unfold newL
    rw [if_pos (by simp; omega)]
    simp
  have ix : ∀ (x : Int), x ∈ L → ∀ A B C rest, meD .index (.ll (M.length + 3)) [.int x] (M ++ A :: B :: C :: MO.lst ((setI L).map D.int) :: rest) = .ok (.int (rk L x)) (M ++ A :: B :: C :: MO.lst ((setI L).map D.int) :: rest) :=
    fun x hx A B C rest => index_ok (by simp) hx
  have i1 := ix _ m1
  have i2 := ix _ m2
  have i3 := ix _ m3
  have i4 := ix _ m4
  have m7 := fun w h => ix _ (m5 w h)
  have m8 := fun w h => ix _ (m6 w h)
  have hl7 : L.length ≤ 16777216 := by omega
  simp [c_ranked, startD, getV, hn, newL, binD, e1, hs, hle, hl7]
  clear hrk hL hn e1 hs hle m1 m2 m3 m4 m5 m6 ix hlen hset
  generalize numbersOf s = ns
  obtain ⟨ho, kept, rest, last, used, ⟨la, na, wa⟩, ⟨lb, nb, wb⟩⟩ := s
  simp only at i1 i2 i3 i4 m7 m8
  cases wa with
  | none =>
    cases wb with
    | none => simp [getV, newL, Sd.d, Sd.house, Cl.d, forL, Itm.chk, Itm.ds, itmD, rkC, i1, i2, i3, i4, meD_app, sub_app0, sub_app1, gc_pure]
    | some w =>
      have j2 := m8 w rfl
      simp [getV, newL, Sd.d, Sd.house, Cl.d, Wy.d, forL, Itm.chk, Itm.ds, itmD, rkC, i1, i2, i3, i4, j2, meD_app, sub_app0, sub_app1, gc_pure]
  | some v =>
    have j1 := m7 v rfl
    cases wb with
    | none => simp [getV, newL, Sd.d, Sd.house, Cl.d, Wy.d, forL, Itm.chk, Itm.ds, itmD, rkC, i1, i2, i3, i4, j1, meD_app, sub_app0, sub_app1, gc_pure]
    | some w =>
      have j2 := m8 w rfl
      simp [getV, newL, Sd.d, Sd.house, Cl.d, Wy.d, forL, Itm.chk, Itm.ds, itmD, rkC, i1, i2, i3, i4, j1, j2, meD_app, sub_app0, sub_app1, gc_pure]
def stepP (r : Ru) (s : Sd) (e : Ev) : Sd × Wd := (rankedP (happenedP r s e).1, (happenedP r s e).2)
theorem r_step (r : Ru) (s : Sd) (e : Ev) (he : ∀ c, e = .on .arrive c → (s.cl c).way ≠ none) : run 17 [r.d, s.d, e.d] M = .ok (.tup [(stepP r s e).1.d, .str (stepP r s e).2.s]) M := by
  rw [run, evm_eq tb supx t_step]
  simp [c_step, startD, getV, r_happened M r s e he, r_ranked, stepP]
/-! ### what is right -/
theorem r_is_wide (ds : List D) (n : Int) : run 1 [.tup ds, .int n] M = .ok (.bl (decide ((ds.length : Int) = n))) M := by
  rw [run, evm_eq tb supx t_is_wide]
  simp [c_is_wide, startD, getV, eqD_pu]
theorem r_is_wide_i (i n : Int) : run 1 [.int i, .int n] M = .ok (.bl false) M := by
  rw [run, evm_eq tb supx t_is_wide]
  simp [c_is_wide, startD, getV, eqD_pu]
theorem r_is_whole (v lo hi : Int) : run 0 [.int v, .int lo, .int hi] M = .ok (.bl (decide (lo ≤ v) && decide (v ≤ hi))) M := by
  rw [run, evm_eq tb supx t_is_whole]
  simp [c_is_whole, startD, getV]
theorem r_is_right_world (w : Wo) : run 3 [w.d] M = .ok (.bl (decide (0 ≤ w.delay) && decide (w.delay ≤ 2))) M := by
  rw [run, evm_eq tb supx t_is_right_world]
  simp [c_is_right_world, startD, getV, Wo.d, r_is_wide, r_is_whole]
theorem r_is_word (x : Str) (ds : List D) (h1 : PyData.strOk x = true) (h2 : D.puL 63 ds = true) : run 2 [.str x, .tup ds] M = .ok (.bl (ds.any fun z => D.eq z (.str x))) M := by
  rw [run, evm_eq tb supx t_is_word]
  simp [c_is_word, startD, getV, inD_pu, h1, h2]
def Ru.ok (r : Ru) : Bool := decide (1 ≤ r.keep) && decide (r.keep ≤ 4) && (decide (1 ≤ r.use) && decide (r.use ≤ 4)) && (decide (0 ≤ r.rest) && decide (r.rest ≤ 4))
theorem r_is_right_rule (r : Ru) (h : r.ok = true) : run 4 [r.d] M = .ok (.bl true) M := by
  rw [run, evm_eq tb supx t_is_right_rule]
  obtain ⟨keep, use, asked, yes, number, rst⟩ := r
  unfold Ru.ok at h
  simp at h
  obtain ⟨⟨⟨h1, h2⟩, h3, h4⟩, h5, h6⟩ := h
  cases asked <;> cases yes <;> cases number <;> simp [c_is_right_rule, startD, getV, Ru.d, r_is_wide, r_is_whole, r_is_word, h1, h2, h3, h4, h5, h6]
theorem r_need_world (w : Wo) (h : 0 ≤ w.delay ∧ w.delay ≤ 2) : run 7 [w.d] M = .ok .non M := by
  rw [run, evm_eq tb supx t_need_world]
  simp [c_need_world, startD, getV, r_is_right_world, h]
theorem r_need_rule (r : Ru) (h : r.ok = true) : run 8 [r.d] M = .ok .non M := by
  rw [run, evm_eq tb supx t_need_rule]
  simp [c_need_rule, startD, getV, r_is_right_rule, h]
theorem r_is_right_event (e : Ev) : run 5 [e.d] M = .ok (.bl true) M := by
  rw [run, evm_eq tb supx t_is_right_event]
  cases e with
  | tick => simp [c_is_right_event, startD, getV, Ev.d, eqD_pu, inD_pu]
  | fall => simp [c_is_right_event, startD, getV, Ev.d, eqD_pu, inD_pu]
  | on w c => cases w <;> cases c <;> simp [c_is_right_event, startD, getV, Ev.d, eqD_pu, inD_pu, r_is_whole]
end
end BH
end

section
set_option Elab.async false
set_option linter.all false
set_option maxRecDepth 100000
set_option maxHeartbeats 4000000
/-! events_at, trace. -/
namespace BH
open PySem L2

/-! ### sorted lists of data -/
theorem resL_pu (M : Store) : ∀ {ds : List D}, D.puL 64 ds = true → resL M ds = some (ds.map fun d => (d.py, d))
  | [], _ => rfl
  | d :: ds, h => by
    simp only [puL_cons, Bool.and_eq_true] at h
    have ih := resL_pu M h.2
    unfold resL at ih ⊢
    simp only [mapO, ih, (res_pu M d 64 66 h.1 (by omega)).1]
    rfl
def sortD (ds : List D) : List D := ((ds.map fun d => (d.py, d)).mergeSort srtLe).map (·.2)
theorem sortD_perm (ds : List D) : (sortD ds).Perm ds := by
  unfold sortD
  have h := (List.mergeSort_perm (ds.map fun d => (d.py, d)) srtLe).map (·.2)
  rw [List.map_map] at h
  simpa [Function.comp_def] using h
theorem srtD_ok {M : Store} {l : Nat} {ds : List D} (hl : M[l]? = some (.lst ds)) (hp : D.puL 64 ds = true) (hk : srtOk (ds.map D.py) = true) : srtD (.ll l) M = newL M (sortD ds) := by
  unfold srtD
  dsimp only
  rw [hl]
  dsimp only
  rw [resL_pu M hp]
  dsimp only
  rw [List.map_map]
  rw [if_pos (by simpa [Function.comp_def] using hk)]
  rfl
theorem ev_py (e : Ev) : ∃ x xs, e.d.py = .tuple (x :: xs) ∧ (∃ s, x = .str s) ∧ (xs = [] ∨ ∃ i, xs = [.int i]) := by
  cases e with
  | tick => exact ⟨.str "tick", [], by simp [Ev.d, D.py, D.pys], ⟨_, rfl⟩, .inl rfl⟩
  | fall => exact ⟨.str "fall", [], by simp [Ev.d, D.py, D.pys], ⟨_, rfl⟩, .inl rfl⟩
  | on w c => exact ⟨.str w.s, [.int (cI c)], by simp [Ev.d, D.py, D.pys], ⟨_, rfl⟩, .inr ⟨_, rfl⟩⟩
theorem ev_srt (es : List Ev) : srtOk ((es.map Ev.d).map D.py) = true := by
  unfold srtOk
  rw [Bool.and_eq_true_iff, Bool.and_eq_true_iff]
  have hm : ∀ a ∈ (es.map Ev.d).map D.py, ∃ e : Ev, a = e.d.py := fun a ha => by
    simp only [List.map_map, List.mem_map] at ha
    obtain ⟨e, _, rfl⟩ := ha
    exact ⟨e, rfl⟩
  refine ⟨⟨?_, ?_⟩, ?_⟩
  · rw [List.all_eq_true]
    intro a ha
    rw [List.all_eq_true]
    intro b hb
    obtain ⟨e, rfl⟩ := hm a ha
    obtain ⟨f, rfl⟩ := hm b hb
    obtain ⟨x, xs, h1, ⟨s, rfl⟩, h2⟩ := ev_py e
    obtain ⟨y, ys, g1, ⟨t, rfl⟩, g2⟩ := ev_py f
    rw [h1, g1]
    rcases h2 with rfl | ⟨i, rfl⟩ <;> rcases g2 with rfl | ⟨j, rfl⟩ <;> simp [PySem.W.alike, PySem.W.alikeAll]
  · rw [Bool.or_eq_true_iff]
    left
    rw [List.all_eq_true]
    intro a ha
    obtain ⟨e, rfl⟩ := hm a ha
    obtain ⟨x, xs, h1, _⟩ := ev_py e
    rw [h1]
  · rw [List.all_eq_true]
    intro a ha
    obtain ⟨e, rfl⟩ := hm a ha
    obtain ⟨_, _, h3⟩ := res_pu [] e.d 64 66 (pu64_ev e) (by omega)
    exact decide_eq_true h3
theorem ev_puL (n : Nat) : ∀ es : List Ev, D.puL (n + 1) (es.map Ev.d) = true
  | [] => by simp
  | e :: es => by simp [ev_puL n es, pu_ev]

/-! ### what may come -/
variable (M : Store)
def wordsOf (w : Wo) (c : Cl) : List Ew := (if c.left > 0 then [Ew.use] else []) ++ match c.way with
  | none => if c.left > 0 then [.renew, .back] else [.ask]
  | some _ => if w.loses then [.arrive, .lose] else [.arrive]
def lateOf (w : Wo) (c : Cl) : Bool := match c.way with
  | none => false
  | some v => decide (v.wait = w.delay)
def onC (c : Bool) (ws : List Ew) : List Ev := ws.map fun x => .on x c
def evsP (w : Wo) (s : Sd) : List Ev := (if w.falls then [.fall] else []) ++ onC false (wordsOf w s.a) ++ onC true (wordsOf w s.b) ++ (if lateOf w s.a || lateOf w s.b then [] else [.tick])
def eb : List CS := match c_events_at with
  | [_, _, .for_ _ _ b, _] => b
  | _ => []
theorem app_get {N : Store} {f : Nat} {o : MO} (h : N[f]? = some o) (X : Store) : (N ++ X)[f]? = some o := by
  rw [List.getElem?_append_left (List.getElem?_eq_some_iff.mp h).1]; exact h
theorem ev_it (w : Wo) (s : Sd) (c : Bool) (N : Store) (f : Nat) (F : List D) (hF : N[f]? = some (.lst F)) (hl : F.length ≤ 1000) (late : Bool) (x5 x6 x7 x8 x9 : Option D) :
    ∃ X f' y5 y6 y7 y8, evSs (evb tb supx 11) supx eb [some w.d, some s.d, some (.ll f), some (.bl late), some (.int (cI c)), x5, x6, x7, x8, x9] N =
      .nx [some w.d, some s.d, some (.ll f'), some (.bl (late || lateOf w (s.cl c))), some (.int (cI c)), y5, y6, y7, y8, x9] (N ++ X) ∧ (N ++ X)[f']? = some (.lst (F ++ (onC c (wordsOf w (s.cl c))).map Ev.d)) := by
  have hF' := app_get hF
  obtain ⟨delay, loses, falls⟩ := w
  generalize hcl : s.cl c = cl
  have hd : cl.d = .tup [.int cl.left, .int cl.num, wayD cl.way] := rfl
  generalize hr : evSs (evb tb supx 11) supx eb _ N = r
  obtain ⟨left, num, way⟩ := cl
  have hs1 : F.length + 1 ≤ 16777216 := by omega
  have hs2 : F.length + 2 ≤ 16777216 := by omega
  have hs3 : F.length + 3 ≤ 16777216 := by omega
  have hb := D.beqL_refl
  by_cases hleft : 0 < left
  · cases way with
    | none =>
      simp [eb, c_events_at, getV, cl_at, hcl, Cl.d, hleft, newL, binD, lcL, Itm.chk, Itm.ds, itmD, hF', wipeD, hs1, hs2, hs3, hb] at hr
      subst hr
      have e : ∀ o : Bool, (late || lateOf ⟨delay, loses, falls⟩ ⟨left, num, none⟩) = late := by simp [lateOf]
      rw [e true]
      exact ⟨_, _, _, _, _, _, rfl, by simp [onC, wordsOf, hleft, Ev.d]⟩
    | some v =>
      cases loses
      · simp [eb, c_events_at, getV, cl_at, hcl, Cl.d, Wo.d, Wy.d, hleft, newL, binD, lcL, Itm.chk, Itm.ds, itmD, hF', wipeD, hs1, hs2, hs3, hb, eqD_pu] at hr
        subst hr
        exact ⟨_, _, _, _, _, _, rfl, by simp [onC, wordsOf, hleft, Ev.d]⟩
      · simp [eb, c_events_at, getV, cl_at, hcl, Cl.d, Wo.d, Wy.d, hleft, newL, binD, lcL, Itm.chk, Itm.ds, itmD, hF', wipeD, hs1, hs2, hs3, hb, eqD_pu] at hr
        subst hr
        exact ⟨_, _, _, _, _, _, rfl, by simp [onC, wordsOf, hleft, Ev.d]⟩
  · cases way with
    | none =>
      simp [eb, c_events_at, getV, cl_at, hcl, Cl.d, hleft, newL, binD, lcL, Itm.chk, Itm.ds, itmD, hF', wipeD, hs1, hs2, hs3, hb] at hr
      subst hr
      have e : ∀ o : Bool, (late || lateOf ⟨delay, loses, falls⟩ ⟨left, num, none⟩) = late := by simp [lateOf]
      rw [e true]
      exact ⟨_, _, _, _, _, _, rfl, by simp [onC, wordsOf, hleft, Ev.d]⟩
    | some v =>
      cases loses
      · simp [eb, c_events_at, getV, cl_at, hcl, Cl.d, Wo.d, Wy.d, hleft, newL, binD, lcL, Itm.chk, Itm.ds, itmD, hF', wipeD, hs1, hs2, hs3, hb, eqD_pu] at hr
        subst hr
        exact ⟨_, _, _, _, _, _, rfl, by simp [onC, wordsOf, hleft, Ev.d]⟩
      · simp [eb, c_events_at, getV, cl_at, hcl, Cl.d, Wo.d, Wy.d, hleft, newL, binD, lcL, Itm.chk, Itm.ds, itmD, hF', wipeD, hs1, hs2, hs3, hb, eqD_pu] at hr
        subst hr
        exact ⟨_, _, _, _, _, _, rfl, by simp [onC, wordsOf, hleft, Ev.d]⟩

theorem wordsOf_len (w : Wo) (c : Cl) : (wordsOf w c).length ≤ 3 := by
  unfold wordsOf
  split <;> split <;> simp <;> split <;> simp
theorem evSs_app (m : Nat → List D → Store → Out D) (sup : Nat → Nat → Bool) : ∀ (a b : List CS) (σ : Env) (M : Store), evSs m sup (a ++ b) σ M = (evSs m sup a σ M).seq (evSs m sup b)
  | [], b, σ, M => by simp
  | s :: a, b, σ, M => by
    rw [List.cons_append, ss_consE, ss_consE]
    cases evS m sup s σ M with
    | nx σ' M' => exact evSs_app m sup a b σ' M'
    | rt _ _ => rfl
    | bk _ _ => rfl
    | ct _ _ => rfl
    | ex _ _ _ => rfl
    | bad => rfl
theorem c_ev_eq : c_events_at = c_events_at.take 2 ++ [.for_ (.nm 4) (.ex (.gcst "CLIENTS" (.tup [.int 0, .int 1]))) eb, .ret (.srt (.ife (.var 3) (.var 2) (.bin .Add (.var 2) (.lst [(.tup [(.cst (.str "tick"))])]))))] := rfl
theorem sortD_len (ds : List D) : (sortD ds).length = ds.length := (sortD_perm ds).length_eq
theorem loL_perm {a b : List D} (n : Nat) (h : a.Perm b) : D.loL n a = D.loL n b := by
  induction h with
  | nil => rfl
  | cons x _ ih => simp [ih]
  | swap x y l => simp [Bool.and_left_comm]
  | trans _ _ h1 h2 => exact h1.trans h2
theorem loL_evs (n : Nat) : ∀ es : List Ev, D.loL n (es.map Ev.d) = true
  | [] => by simp
  | e :: es => by simp [loL_evs n es]
theorem r_events_at (w : Wo) (s : Sd) : run 11 [w.d, s.d] M = .ok (.ll M.length) (M ++ [.lst (sortD ((evsP w s).map Ev.d))]) := by
  rw [run, evm_eq tb supx t_events_at]
  obtain ⟨X0, f0, h0, h00⟩ : ∃ X f, evSs (evb tb supx 11) supx (c_events_at.take 2) (startD 10 [w.d, s.d]) M = .nx [some w.d, some s.d, some (.ll f), some (.bl false), none, none, none, none, none, none] (M ++ X) ∧ (M ++ X)[f]? = some (.lst ((if w.falls then [Ev.fall] else []).map Ev.d)) := by
    generalize hr : evSs (evb tb supx 11) supx (c_events_at.take 2) (startD 10 [w.d, s.d]) M = r
    obtain ⟨delay, loses, falls⟩ := w
    cases falls <;> simp [c_events_at, startD, getV, Wo.d, newL] at hr <;> subst hr <;> exact ⟨_, _, rfl, by simp [Ev.d]⟩
  generalize hF0 : (if w.falls then [Ev.fall] else []) = F0 at h00
  have l0 : F0.length ≤ 1 := by rw [← hF0]; split <;> simp
  obtain ⟨X1, f1, y5, y6, y7, y8, h1, h11⟩ := ev_it w s false (M ++ X0) f0 (F0.map Ev.d) h00 (by simp; omega) false none none none none none
  have l1 := wordsOf_len w s.a
  have l2 := wordsOf_len w s.b
  obtain ⟨X2, f2, z5, z6, z7, z8, h2, h22⟩ := ev_it w s true (M ++ X0 ++ X1) f1 _ h11 (by simp [onC, Sd.cl]; omega) (false || lateOf w (s.cl false)) y5 y6 y7 y8 none
  have hcl0 : s.cl false = s.a := rfl
  have hcl1 : s.cl true = s.b := rfl
  rw [hcl0] at h1 h11 h2 h22
  rw [hcl1] at h2 h22
  simp only [cI_f, cI_t] at h1 h2
  rw [c_ev_eq, evSs_app, h0]
  simp only [seq_nxE]
  have hev : (evsP w s) = F0 ++ onC false (wordsOf w s.a) ++ onC true (wordsOf w s.b) ++ (if lateOf w s.a || lateOf w s.b then [] else [.tick]) := by rw [← hF0]; rfl
  have e3 : (F0.map Ev.d ++ (onC false (wordsOf w s.a)).map Ev.d) ++ (onC true (wordsOf w s.b)).map Ev.d = (F0 ++ onC false (wordsOf w s.a) ++ onC true (wordsOf w s.b)).map Ev.d := by simp
  rw [e3] at h22
  generalize hG : F0 ++ onC false (wordsOf w s.a) ++ onC true (wordsOf w s.b) = G at hev h22
  have lG : G.length ≤ 7 := by rw [← hG]; simp [onC]; omega
  have eN : M ++ X0 ++ X1 ++ X2 = M ++ (X0 ++ X1 ++ X2) := by simp
  rw [eN] at h2 h22
  generalize X0 ++ X1 ++ X2 = Y at h2 h22
  simp only [Bool.false_or] at h1 h2
  generalize M ++ X0 ++ X1 = N1 at h1 h2
  generalize M ++ X0 = N0 at h0 h1
  by_cases hlate : (lateOf w s.a || lateOf w s.b) = true
  · rw [hlate] at hev
    rw [hlate] at h2
    have hs := srtD_ok h22 (ev_puL 63 G) (ev_srt G)
    unfold newL at hs
    rw [if_pos (by rw [sortD_len]; simp; omega)] at hs
    simp [forL, Itm.chk, Itm.ds, itmD, h1, h2, getV, hs]
    rw [hev]
    simp only [if_true, List.append_nil]
    have := gc_list (M := M) (J := Y ++ [MO.lst (sortD (G.map Ev.d))]) (k := Y.length) (ds := sortD (G.map Ev.d)) (by simp) (by rw [loL_perm _ (sortD_perm _)]; exact loL_evs _ _)
    simpa [Nat.add_assoc] using this
  · have hlate' : (lateOf w s.a || lateOf w s.b) = false := by simpa using hlate
    rw [hlate'] at hev
    rw [hlate'] at h2
    have h23 := app_get h22
    have hs := srtD_ok (M := M ++ (Y ++ [MO.lst [D.tup [D.str (Str.ofString "tick")]], MO.lst ((G ++ [Ev.tick]).map Ev.d)])) (l := M.length + (Y.length + 1)) (ds := (G ++ [Ev.tick]).map Ev.d) (by simp) (ev_puL 63 _) (ev_srt _)
    unfold newL at hs
    rw [if_pos (by rw [sortD_len]; simp; omega)] at hs
    have e4 : (G ++ [Ev.tick]).map Ev.d = G.map Ev.d ++ [D.tup [D.str (Str.ofString "tick")]] := by simp [Ev.d]
    rw [hev]
    simp only [Bool.false_eq_true, if_false]
    have := gc_list (M := M) (J := Y ++ [MO.lst [D.tup [D.str (Str.ofString "tick")]], MO.lst ((G ++ [Ev.tick]).map Ev.d), MO.lst (sortD ((G ++ [Ev.tick]).map Ev.d))]) (k := Y.length + 2) (ds := sortD ((G ++ [Ev.tick]).map Ev.d)) (by simp) (by rw [loL_perm _ (sortD_perm _)]; exact loL_evs _ _)
    rw [e4] at hs this ⊢
    generalize sortD (G.map Ev.d ++ [D.tup [D.str (Str.ofString "tick")]]) = R at hs this ⊢
    simp [Nat.add_assoc] at h23 hs this
    have hz : G.length ≤ 16777215 := by omega
    simp [forL, Itm.chk, Itm.ds, itmD, h1, h2, getV, newL, binD, h23, Nat.add_assoc, hz, hs, this]
end BH
end

section
set_option Elab.async false
set_option linter.all false
set_option maxRecDepth 100000
set_option maxHeartbeats 4000000
/-! Runs. -/
namespace BH
open PySem L2

@[simp] theorem ew_eq (a b : Ew) : (a.s = b.s) = (a = b) := by cases a <;> cases b <;> simp [Ew.s]
theorem ew_tick (a : Ew) : (a.s = Str.ofString "tick") = False := by cases a <;> simp [Ew.s]
@[simp] theorem cI_inj (a b : Bool) : (cI a = cI b) = (a = b) := by cases a <;> cases b <;> simp
@[simp] theorem ev_eq (a b : Ev) : D.eq a.d b.d = decide (a = b) := by
  cases a <;> cases b <;> simp [Ev.d]
theorem any_evs (es : List Ev) (e : Ev) : (sortD (es.map Ev.d)).any (fun z => D.eq z e.d) = decide (e ∈ es) := by
  rw [(sortD_perm (es.map Ev.d)).any_eq]
  rw [List.any_map]
  induction es with
  | nil => simp
  | cons x xs ih => simp only [List.any_cons, ih, Function.comp, ev_eq, List.mem_cons, Bool.decide_or, eq_comm]
theorem puL_perm {a b : List D} (n : Nat) (h : a.Perm b) : D.puL n a = D.puL n b := by
  induction h with
  | nil => rfl
  | cons x _ ih => simp [ih]
  | swap x y l => simp [Bool.and_left_comm]
  | trans _ _ h1 h2 => exact h1.trans h2
theorem in_evs {N : Store} {l : Nat} {es : List Ev} (e : Ev) (h : N[l]? = some (.lst (sortD (es.map Ev.d)))) : inD N e.d (.ll l) = some (decide (e ∈ es)) := by
  rw [inD_ll h (pu64_ev e) (by rw [puL_perm _ (sortD_perm _)]; exact ev_puL 62 es), any_evs]

def first : Sd := ⟨none, 0, 0, 0, 0, ⟨0, 0, none⟩, ⟨0, 0, none⟩⟩
def standsR (r : Ru) : Sd → List Ev → List Sd
  | _, [] => []
  | s, e :: es => (stepP r s e).1 :: standsR r (stepP r s e).1 es
def wordsR (r : Ru) : Sd → List Ev → List Wd
  | _, [] => []
  | s, e :: es => (stepP r s e).2 :: wordsR r (stepP r s e).1 es
def lastR (r : Ru) : Sd → List Ev → Sd
  | s, [] => s
  | s, e :: es => lastR r (stepP r s e).1 es
def OkR (w : Wo) (r : Ru) : Sd → List Ev → Prop
  | _, [] => True
  | s, e :: es => e ∈ evsP w s ∧ OkR w r (stepP r s e).1 es
theorem standsR_len (r : Ru) : ∀ (es : List Ev) (s : Sd), (standsR r s es).length = es.length
  | [], _ => rfl
  | e :: es, s => by simp [standsR, standsR_len r es]
theorem arrive_way {w : Wo} {s : Sd} {c : Bool} (h : Ev.on .arrive c ∈ evsP w s) : (s.cl c).way ≠ none := by
  unfold evsP onC at h
  intro hw
  simp only [List.mem_append, List.mem_map] at h
  rcases h with ((h | ⟨x, hx, e⟩) | ⟨x, hx, e⟩) | h
  · split at h <;> simp at h
  · injection e with e1 e2
    subst e1 e2
    have hw : s.a.way = none := hw
    unfold wordsOf at hx
    rw [hw] at hx
    simp only [List.mem_append] at hx
    rcases hx with hx | hx <;> (split at hx <;> simp at hx)
  · injection e with e1 e2
    subst e1 e2
    have hw : s.b.way = none := hw
    unfold wordsOf at hx
    rw [hw] at hx
    simp only [List.mem_append] at hx
    rcases hx with hx | hx <;> (split at hx <;> simp at hx)
  · split at h <;> simp at h
def tbd : List CS := match c_trace with
  | [_, .for_ _ _ b, _] => b
  | _ => []
theorem c_tr_eq : c_trace = c_trace.take 1 ++ [.for_ (.nm 6) (.ex (.var 2)) tbd, .ret (.tup [(.var 4), (.var 5)])] := rfl
theorem tr_it (w : Wo) (r : Ru) (s : Sd) (e : Ev) (he : e ∈ evsP w s) (N : Store) (a b : Nat) (S W : List D) (hS : N[a]? = some (.lst S)) (hW : N[b]? = some (.lst W)) (lS : S.length ≤ 1000) (lW : W.length ≤ 1000) (E x7 : Option D) :
    ∃ X a' b', evSs (evb tb supx 18) supx tbd [some w.d, some r.d, E, some s.d, some (.ll a), some (.ll b), some e.d, x7] N =
      .nx [some w.d, some r.d, E, some (stepP r s e).1.d, some (.ll a'), some (.ll b'), some e.d, some (.str (stepP r s e).2.s)] (N ++ X) ∧
      (N ++ X)[a']? = some (.lst (S ++ [(stepP r s e).1.d])) ∧ (N ++ X)[b']? = some (.lst (W ++ [.str (stepP r s e).2.s])) ∧ N.length ≤ a' ∧ N.length ≤ b' := by
  have hS' := app_get hS
  have hW' := app_get hW
  have h1 : S.length + 1 ≤ 16777216 := by omega
  have h2 : W.length + 1 ≤ 16777216 := by omega
  have hin := in_evs (N := N ++ [.lst (sortD ((evsP w s).map Ev.d))]) (l := N.length) (es := evsP w s) e (by simp)
  have hst := fun M => r_step M r s e fun c hc => arrive_way (c := c) (by rw [← hc]; exact he)
  generalize hr : evSs (evb tb supx 18) supx tbd _ N = q
  simp [tbd, c_trace, getV, r_is_right_event, r_events_at, hin, he, hst, newL, binD, hS', hW', h1, h2] at hr
  subst hr
  exact ⟨_, _, _, rfl, by simp, by simp, by simp, by simp⟩
theorem tr_bad (w : Wo) (r : Ru) (s : Sd) (d : D) (hd : (∀ N, run 5 [d] N = .ok (.bl false) N) ∨ ∃ e : Ev, d = e.d ∧ e ∉ evsP w s) (N : Store) (a b : Nat) (E x7 : Option D) :
    ∃ X, evSs (evb tb supx 18) supx tbd [some w.d, some r.d, E, some s.d, some (.ll a), some (.ll b), some d, x7] N = .rt .non (N ++ X) := by
  rcases hd with hd | ⟨e, rfl, he⟩
  · refine ⟨[], ?_⟩
    simp [tbd, c_trace, getV, hd]
  · have hin := in_evs (N := N ++ [.lst (sortD ((evsP w s).map Ev.d))]) (l := N.length) (es := evsP w s) e (by simp)
    refine ⟨[.lst (sortD ((evsP w s).map Ev.d))], ?_⟩
    simp [tbd, c_trace, getV, r_is_right_event, r_events_at, hin, he]
theorem forL_cons (gF : D → Env → Store → Out Env) (bF : Env → Store → SO) (x : D) (xs : List D) (σ : Env) (M : Store) : forL (fun _ => true) gF bF (x :: xs) σ M = (gF x σ M).soN (forK bF (forL (fun _ => true) gF bF xs)) := rfl
theorem forL_nil (gF : D → Env → Store → Out Env) (bF : Env → Store → SO) (σ : Env) (M : Store) : forL (fun _ => true) gF bF [] σ M = .nx σ M := rfl
theorem tr_run (w : Wo) (r : Ru) (rest : List D) (E : Option D) : ∀ (es : List Ev) (s : Sd) (N : Store) (a b : Nat) (S W : List D) (x6 x7 : Option D), OkR w r s es → N[a]? = some (.lst S) → N[b]? = some (.lst W) → S.length + es.length ≤ 1000 → W.length + es.length ≤ 1000 →
    ∃ X a' b' y6 y7, forL (fun _ => true) (evG (evb tb supx 18) (.nm 6)) (evSs (evb tb supx 18) supx tbd) (es.map Ev.d ++ rest) [some w.d, some r.d, E, some s.d, some (.ll a), some (.ll b), x6, x7] N =
      forL (fun _ => true) (evG (evb tb supx 18) (.nm 6)) (evSs (evb tb supx 18) supx tbd) rest [some w.d, some r.d, E, some (lastR r s es).d, some (.ll a'), some (.ll b'), y6, y7] (N ++ X) ∧
      (N ++ X)[a']? = some (.lst (S ++ (standsR r s es).map Sd.d)) ∧ (N ++ X)[b']? = some (.lst (W ++ (wordsR r s es).map fun x => .str x.s)) ∧ a ≤ a' ∧ b ≤ b'
  | [], s, N, a, b, S, W, x6, x7, _, hS, hW, _, _ => ⟨[], a, b, x6, x7, by simp [lastR], by simpa [standsR] using hS, by simpa [wordsR] using hW, Nat.le_refl _, Nat.le_refl _⟩
  | e :: es, s, N, a, b, S, W, x6, x7, ok, hS, hW, lS, lW => by
    simp only [List.length_cons] at lS lW
    obtain ⟨X, a1, b1, h1, h2, h3, k1, k2⟩ := tr_it w r s e ok.1 N a b S W hS hW (by omega) (by omega) E x7
    obtain ⟨Y, a2, b2, y6, y7, g1, g2, g3, l1, l2⟩ := tr_run w r rest E es (stepP r s e).1 (N ++ X) a1 b1 _ _ (some e.d) (some (.str (stepP r s e).2.s)) ok.2 h2 h3 (by simp; omega) (by simp; omega)
    have ha := (List.getElem?_eq_some_iff.mp hS).1
    have hb := (List.getElem?_eq_some_iff.mp hW).1
    refine ⟨X ++ Y, a2, b2, y6, y7, ?_, ?_, ?_, by omega, by omega⟩
    · rw [List.map_cons, List.cons_append]
      rw [forL_cons]
      simp only [g_nm, soN_okE, forKE]
      show (SO.turn (evSs (evb tb supx 18) supx tbd [some w.d, some r.d, E, some s.d, some (.ll a), some (.ll b), some e.d, x7] N) _) = _
      rw [h1]
      simp only [turn_nxE]
      rw [g1, List.append_assoc]
      simp only [lastR]
    · rw [← List.append_assoc, g2]; simp [standsR]
    · rw [← List.append_assoc, g3]; simp [wordsR]
theorem r_trace_ok (M : Store) (w : Wo) (r : Ru) (es : List Ev) (ok : OkR w r first es) (hl : es.length ≤ 1000) :
    ∃ a b J, run 18 [w.d, r.d, .tup (es.map Ev.d)] M = .ok (.tup [.ll (M.length + a), .ll (M.length + b)]) (M ++ J) ∧ J[a]? = some (.lst ((standsR r first es).map Sd.d)) ∧ J[b]? = some (.lst ((wordsR r first es).map fun x => .str x.s)) := by
  obtain ⟨X, a', b', y6, y7, h1, h2, h3, l1, l2⟩ := tr_run w r [] (some (.tup (es.map Ev.d))) es first (M ++ [.lst [], .lst []]) M.length (M.length + 1) [] [] none none ok (by simp) (by simp) (by simpa using hl) (by simpa using hl)
  rw [List.append_nil] at h1
  simp only [List.append_assoc] at h1 h2 h3
  obtain ⟨a, rfl⟩ : ∃ a, a' = M.length + a := ⟨a' - M.length, by omega⟩
  obtain ⟨b, rfl⟩ : ∃ b, b' = M.length + b := ⟨b' - M.length, by omega⟩
  rw [st_get] at h2 h3
  refine ⟨a, b, [MO.lst [], MO.lst []] ++ X, ?_, by simpa using h2, by simpa using h3⟩
  rw [run, evm_eq tb supx t_trace, c_tr_eq, evSs_app]
  have hf : (D.tup [D.tup [.non, .int 0, .int 0, .int 0], .int 0, .tup [.int 0, .int 0, .non], .tup [.int 0, .int 0, .non]]) = first.d := rfl
  have h0 : evSs (evb tb supx 18) supx (c_trace.take 1) (startD 8 [w.d, r.d, .tup (es.map Ev.d)]) M = .nx [some w.d, some r.d, some (.tup (es.map Ev.d)), some first.d, some (.ll M.length), some (.ll (M.length + 1)), none, none] (M ++ [.lst [], .lst []]) := by
    simp [c_trace, startD, newL, sPar, setAll, hf]
  rw [h0]
  have hgc : gcO M (.ok (.tup [.ll (M.length + a), .ll (M.length + b)]) (M ++ ([MO.lst [], MO.lst []] ++ X))) = .ok (.tup [.ll (M.length + a), .ll (M.length + b)]) (M ++ ([MO.lst [], MO.lst []] ++ X)) := by
    unfold gcO
    dsimp only
    rw [if_neg (by intro z; have := z.2.1; simp [D.lo] at this; omega)]
  have hchk : Itm.chk (.fix (es.map Ev.d)) = fun _ => true := rfl
  simp only [seq_nxE, ss_consE, s_forE, i_exE, e_var, getV, itmD, b_ok, so_okE, sForE, hchk]
  simp only [List.getElem?_cons_succ, List.getElem?_cons_zero, so_okE, b_ok, itmD, sForE, hchk, Itm.ds]
  rw [h1, forL_nil]
  simp [getV]
  simpa using hgc
theorem r_trace_bad (M : Store) (w : Wo) (r : Ru) (es : List Ev) (d : D) (rest : List D) (ok : OkR w r first es) (hl : es.length ≤ 1000) (hd : (∀ N, run 5 [d] N = .ok (.bl false) N) ∨ ∃ e : Ev, d = e.d ∧ e ∉ evsP w (lastR r first es)) :
    run 18 [w.d, r.d, .tup (es.map Ev.d ++ d :: rest)] M = .ok .non M := by
  obtain ⟨X, a', b', y6, y7, h1, h2, h3, l1, l2⟩ := tr_run w r (d :: rest) (some (.tup (es.map Ev.d ++ d :: rest))) es first (M ++ [.lst [], .lst []]) M.length (M.length + 1) [] [] none none ok (by simp) (by simp) (by simpa using hl) (by simpa using hl)
  rw [run, evm_eq tb supx t_trace, c_tr_eq, evSs_app]
  have hf : (D.tup [D.tup [.non, .int 0, .int 0, .int 0], .int 0, .tup [.int 0, .int 0, .non], .tup [.int 0, .int 0, .non]]) = first.d := rfl
  have h0 : evSs (evb tb supx 18) supx (c_trace.take 1) (startD 8 [w.d, r.d, .tup (es.map Ev.d ++ d :: rest)]) M = .nx [some w.d, some r.d, some (.tup (es.map Ev.d ++ d :: rest)), some first.d, some (.ll M.length), some (.ll (M.length + 1)), none, none] (M ++ [.lst [], .lst []]) := by
    simp [c_trace, startD, newL, sPar, setAll, hf]
  rw [h0]
  obtain ⟨Y, hY⟩ := tr_bad w r (lastR r first es) d hd (M ++ [.lst [], .lst []] ++ X) a' b' (some (.tup (es.map Ev.d ++ d :: rest))) y7
  have hchk : Itm.chk (.fix (es.map Ev.d ++ d :: rest)) = fun _ => true := rfl
  simp only [seq_nxE, ss_consE, s_forE, i_exE, e_var, getV, itmD, b_ok, so_okE, sForE, hchk]
  simp only [List.getElem?_cons_succ, List.getElem?_cons_zero, so_okE, b_ok, itmD, sForE, hchk, Itm.ds]
  rw [h1, forL_cons]
  simp only [g_nm, soN_okE, forKE]
  show gcO M (bodyO (((SO.turn (evSs (evb tb supx 18) supx tbd [some w.d, some r.d, some (.tup (es.map Ev.d ++ d :: rest)), some (lastR r first es).d, some (.ll a'), some (.ll b'), some d, y7] _) _).seq _))) = _
  rw [hY]
  simp only [turn_rtE, seq_rtE, bodyO_rt, List.append_assoc]
  exact gc_pure rfl
end BH
end

section
set_option Elab.async false
set_option linter.all false
set_option maxRecDepth 100000
set_option maxHeartbeats 4000000
/-! is_run, stand_behind, words. -/
namespace BH
open PySem L2

def Wo.ok (w : Wo) : Prop := 0 ≤ w.delay ∧ w.delay ≤ 2
theorem last_at (r : Ru) : ∀ (es : List Ev) (s : Sd), (s.d :: (standsR r s es).map Sd.d)[es.length]? = some (lastR r s es).d
  | [], s => rfl
  | e :: es, s => by
    simp only [List.length_cons, List.getElem?_cons_succ, standsR, List.map_cons, lastR]
    exact last_at r es _
section
variable (M : Store) (w : Wo) (r : Ru)
theorem r_right_ok (es : List Ev) (ok : OkR w r first es) (hl : es.length ≤ 60) : run 19 [w.d, r.d, .tup (es.map Ev.d)] M = .ok (.bl true) M := by
  obtain ⟨a, b, J, h1, _, _⟩ := r_trace_ok M w r es ok (by omega)
  rw [run, evm_eq tb supx t_is_right_run]
  have hl2 : (es.length : Int) ≤ 60 := by omega
  simp [c_is_right_run, startD, getV, hl2, h1]
  exact gc_pure rfl
def RunBad (v : D) : Prop := ∀ M, run 19 [w.d, r.d, v] M = .ok (.bl false) M
theorem bad_long (ds : List D) (h : ds.length > 60) : RunBad w r (.tup ds) := fun M => by
  rw [run, evm_eq tb supx t_is_right_run]
  have hl2 : ¬ (ds.length : Int) ≤ 60 := by omega
  simp [c_is_right_run, startD, getV, hl2]
theorem bad_no (v : D) (h : ∀ M, isiD "tuple" v M = .ok (.bl false) M) : RunBad w r v := fun M => by
  rw [run, evm_eq tb supx t_is_right_run]
  simp [c_is_right_run, startD, getV, h]
theorem bad_el (es : List Ev) (d : D) (rest : List D) (ok : OkR w r first es) (hl : es.length ≤ 60) (hd : (∀ N, run 5 [d] N = .ok (.bl false) N) ∨ ∃ e : Ev, d = e.d ∧ e ∉ evsP w (lastR r first es)) : RunBad w r (.tup (es.map Ev.d ++ d :: rest)) := fun M => by
  have h := r_trace_bad M w r es d rest ok (by omega) hd
  rw [run, evm_eq tb supx t_is_right_run]
  simp [c_is_right_run, startD, getV, h]
theorem r_need_run_ok (es : List Ev) (ok : OkR w r first es) (hl : es.length ≤ 60) : run 20 [w.d, r.d, .tup (es.map Ev.d)] M = .ok .non M := by
  rw [run, evm_eq tb supx t_need_run]
  simp [c_need_run, startD, getV, r_right_ok M w r es ok hl]
theorem r_need_run_bad (v : D) (h : RunBad w r v) : run 20 [w.d, r.d, v] M = .ex ⟨5, none⟩ M := by
  rw [run, evm_eq tb supx t_need_run]
  simp [c_need_run, startD, getV, h M]
variable (hw : w.ok) (hr : r.ok = true)
include hw hr
theorem r_is_run_ok (es : List Ev) (ok : OkR w r first es) (hl : es.length ≤ 60) : run 21 [w.d, r.d, .tup (es.map Ev.d)] M = .ok (.bl true) M := by
  rw [run, evm_eq tb supx t_is_run]
  simp [c_is_run, startD, getV, r_need_world M w hw, r_need_rule M r hr, r_right_ok M w r es ok hl]
theorem r_is_run_bad (v : D) (h : RunBad w r v) : run 21 [w.d, r.d, v] M = .ok (.bl false) M := by
  rw [run, evm_eq tb supx t_is_run]
  simp [c_is_run, startD, getV, r_need_world M w hw, r_need_rule M r hr, h M]
theorem r_stand_ok (es : List Ev) (ok : OkR w r first es) (hl : es.length ≤ 60) : run 22 [w.d, r.d, .tup (es.map Ev.d)] M = .ok (lastR r first es).d M := by
  obtain ⟨a, b, J, h1, h2, h3⟩ := r_trace_ok (M ++ [.lst [first.d]]) w r es ok (by omega)
  have hf : (D.tup [D.tup [.non, .int 0, .int 0, .int 0], .int 0, .tup [.int 0, .int 0, .non], .tup [.int 0, .int 0, .non]]) = first.d := rfl
  have hsl := standsR_len r es first
  have hat : subD (.ll (M.length + (J.length + 1))) (.int es.length) (M ++ (MO.lst [first.d] :: (J ++ [MO.lst (first.d :: (standsR r first es).map Sd.d)]))) = .ok (lastR r first es).d (M ++ (MO.lst [first.d] :: (J ++ [MO.lst (first.d :: (standsR r first es).map Sd.d)]))) := by
    unfold subD
    dsimp only
    rw [st_get]
    simp only [List.getElem?_cons_succ, List.getElem?_concat_length]
    have : L2.atI (first.d :: (standsR r first es).map Sd.d) es.length = some (lastR r first es).d := by
      unfold L2.atI L2.ixN
      rw [if_pos (by omega), if_pos (by simp [hsl]; omega)]
      simpa using last_at r es first
    rw [this]
  rw [run, evm_eq tb supx t_stand_behind]
  have hz : es.length + 1 ≤ 16777216 := by omega
  have hj : (MO.lst [first.d] :: J)[1 + a]? = some (.lst ((standsR r first es).map Sd.d)) := by
    rw [Nat.add_comm]; simpa using h2
  simp at h1
  simp [c_stand_behind, startD, getV, r_need_world M w hw, r_need_rule M r hr, r_need_run_ok M w r es ok hl, newL, hf, h1, binD, hj, hsl, hz, Nat.add_assoc]
  have hz2 : es.length ≤ 16777215 := by omega
  simp [getV, hsl, hz, hz2, hat]
  exact gc_pure (by simp)
theorem r_words_ok (es : List Ev) (ok : OkR w r first es) (hl : es.length ≤ 60) : run 23 [w.d, r.d, .tup (es.map Ev.d)] M = .ok (.ll M.length) (M ++ [.lst ((wordsR r first es).map fun x => .str x.s)]) := by
  obtain ⟨a, b, J, h1, h2, h3⟩ := r_trace_ok M w r es ok (by omega)
  rw [run, evm_eq tb supx t_words]
  simp [c_words, startD, getV, r_need_world M w hw, r_need_rule M r hr, r_need_run_ok M w r es ok hl, h1]
  refine gc_list h3 ?_
  generalize wordsR r first es = l
  induction l with
  | nil => simp
  | cons x xs ih => simp [ih]
theorem r_stand_bad (v : D) (h : RunBad w r v) : run 22 [w.d, r.d, v] M = .ex ⟨5, none⟩ M := by
  rw [run, evm_eq tb supx t_stand_behind]
  simp [c_stand_behind, startD, getV, r_need_world M w hw, r_need_rule M r hr, r_need_run_bad M w r v h]
theorem r_words_bad (v : D) (h : RunBad w r v) : run 23 [w.d, r.d, v] M = .ex ⟨5, none⟩ M := by
  rw [run, evm_eq tb supx t_words]
  simp [c_words, startD, getV, r_need_world M w hw, r_need_rule M r hr, r_need_run_bad M w r v h]
/-! ### through the law's own door -/
theorem r_out_is_ok (es : List Ev) (ok : OkR w r first es) (hl : es.length ≤ 60) : run 38 [.int 0, w.d, r.d, .tup (es.map Ev.d)] M = .ok (.bl true) M := by
  rw [run, evm_eq tb supx t__law_outcome]
  simp [c__law_outcome, startD, getV, eqD_pu, r_is_run_ok M w r hw hr es ok hl]
theorem r_out_is_bad (v : D) (h : RunBad w r v) : run 38 [.int 0, w.d, r.d, v] M = .ok (.bl false) M := by
  rw [run, evm_eq tb supx t__law_outcome]
  simp [c__law_outcome, startD, getV, eqD_pu, r_is_run_bad M w r hw hr v h]
theorem r_out_st_ok (es : List Ev) (ok : OkR w r first es) (hl : es.length ≤ 60) : run 38 [.int 1, w.d, r.d, .tup (es.map Ev.d)] M = .ok (lastR r first es).d M := by
  rw [run, evm_eq tb supx t__law_outcome]
  simp [c__law_outcome, startD, getV, eqD_pu, r_stand_ok M w r hw hr es ok hl]
theorem r_out_st_bad (v : D) (h : RunBad w r v) : run 38 [.int 1, w.d, r.d, v] M = .ok (.str "run!") M := by
  rw [run, evm_eq tb supx t__law_outcome]
  simp [c__law_outcome, startD, getV, eqD_pu, r_stand_bad M w r hw hr v h, evH, supx]
theorem r_out_wd_ok (es : List Ev) (ok : OkR w r first es) (hl : es.length ≤ 60) : run 38 [.int 2, w.d, r.d, .tup (es.map Ev.d)] M = .ok (.ll M.length) (M ++ [.lst ((wordsR r first es).map fun x => .str x.s)]) := by
  rw [run, evm_eq tb supx t__law_outcome]
  simp [c__law_outcome, startD, getV, eqD_pu, r_words_ok M w r hw hr es ok hl]
  refine gc_l0 M [] ?_
  generalize wordsR r first es = l
  induction l with
  | nil => simp
  | cons x xs ih => simp [ih]
theorem r_out_wd_bad (v : D) (h : RunBad w r v) : run 38 [.int 2, w.d, r.d, v] M = .ok (.str "run!") M := by
  rw [run, evm_eq tb supx t__law_outcome]
  simp [c__law_outcome, startD, getV, eqD_pu, r_words_bad M w r hw hr v h, evH, supx]
omit hw hr in
theorem r_out_w (a b v : D) (k : D) : run 38 [.int 0, .tup [a, b], k, v] M = .ok (.str "world!") M := by
  have h1 : run 3 [.tup [a, b]] M = .ok (.bl false) M := by
    rw [run, evm_eq tb supx t_is_right_world]
    simp [c_is_right_world, startD, getV, r_is_wide]
  have h2 : run 7 [.tup [a, b]] M = .ex ⟨1, none⟩ M := by
    rw [run, evm_eq tb supx t_need_world]
    simp [c_need_world, startD, getV, h1]
  have h3 : run 21 [.tup [a, b], k, v] M = .ex ⟨1, none⟩ M := by
    rw [run, evm_eq tb supx t_is_run]
    simp [c_is_run, startD, getV, h2]
  rw [run, evm_eq tb supx t__law_outcome]
  simp [c__law_outcome, startD, getV, eqD_pu, h3, evH, supx]
omit hr in
theorem r_out_r (a b c d e v : D) : run 38 [.int 1, w.d, .tup [a, b, c, d, e], v] M = .ok (.str "rule!") M := by
  have h1 : run 4 [.tup [a, b, c, d, e]] M = .ok (.bl false) M := by
    rw [run, evm_eq tb supx t_is_right_rule]
    simp [c_is_right_rule, startD, getV, r_is_wide]
  have h2 : run 8 [.tup [a, b, c, d, e]] M = .ex ⟨2, none⟩ M := by
    rw [run, evm_eq tb supx t_need_rule]
    simp [c_need_rule, startD, getV, h1]
  have h3 : run 22 [w.d, .tup [a, b, c, d, e], v] M = .ex ⟨2, none⟩ M := by
    rw [run, evm_eq tb supx t_stand_behind]
    simp [c_stand_behind, startD, getV, r_need_world M w hw, h2]
  rw [run, evm_eq tb supx t__law_outcome]
  simp [c__law_outcome, startD, getV, eqD_pu, h3, evH, supx]
end
end BH
end

section
set_option Elab.async false
set_option linter.all false
set_option maxRecDepth 100000
set_option maxHeartbeats 4000000
/-! The law's own clock: lists, dicts of ints. -/
namespace BH
open PySem L2

/-! ### dicts whose keys are ints, whose values are 0 -/
def kD (ks : List Int) : List (Ky × D) := ks.map fun k => (.inl k, .int 0)
def addK (ks : List Int) (k : Int) : List Int := if k ∈ ks then ks else ks ++ [k]
@[simp] theorem put_kD (ks : List Int) (k : Int) : putD (kD ks) (.inl k) (.int 0) = kD (addK ks k) := by
  unfold putD addK kD
  have h : ((ks.map fun k => ((.inl k, .int 0) : Ky × D)).any fun kv => decide (kv.1 = .inl k)) = decide (k ∈ ks) := by
    induction ks with
    | nil => rfl
    | cons x xs ih => simp only [List.map_cons, List.any_cons, ih, List.mem_cons, Bool.decide_or, Sum.inl.injEq, eq_comm]
  rw [h]
  by_cases hk : k ∈ ks
  · rw [if_pos (by simpa using hk), if_pos hk, List.map_map]
    apply List.map_congr_left
    intro a _
    simp only [Function.comp]
    split <;> rfl
  · rw [if_neg (by simpa using hk), if_neg hk]
    simp
theorem kD_nil : ([] : List (Ky × D)) = kD [] := rfl
@[simp] theorem kD_len (ks : List Int) : (kD ks).length = ks.length := by simp [kD]
@[simp] theorem kD_keys (ks : List Int) : (kD ks).map (fun kv => dKy kv.1) = ks.map D.int := by
  unfold kD
  rw [List.map_map]
  rfl
theorem addK_len (ks : List Int) (k : Int) : (addK ks k).length ≤ ks.length + 1 := by
  unfold addK
  split <;> simp
theorem addK_mem (ks : List Int) (k j : Int) : j ∈ addK ks k ↔ j = k ∨ j ∈ ks := by
  unfold addK
  split
  next h => constructor
            · exact .inr
            · rintro (rfl | z)
              · exact h
              · exact z
  next h => simp [or_comm]
theorem addK_nd (ks : List Int) (k : Int) (h : ks.Nodup) : (addK ks k).Nodup := by
  unfold addK
  split
  next => exact h
  next hk =>
    rw [List.nodup_append]
    refine ⟨h, by simp, fun a ha b hb => ?_⟩
    have : b = k := by simpa using hb
    subst this
    intro e
    subst e
    exact hk ha
theorem int_srt (ks : List Int) : srtOk ((ks.map D.int).map D.py) = true := by
  unfold srtOk
  rw [Bool.and_eq_true_iff, Bool.and_eq_true_iff]
  have hm : ∀ a ∈ (ks.map D.int).map D.py, ∃ i, a = .int i := fun a ha => by
    simp only [List.map_map, List.mem_map] at ha
    obtain ⟨e, _, rfl⟩ := ha
    exact ⟨e, by simp [D.py]⟩
  refine ⟨⟨?_, ?_⟩, ?_⟩
  · rw [List.all_eq_true]
    intro a ha
    rw [List.all_eq_true]
    intro b hb
    obtain ⟨e, rfl⟩ := hm a ha
    obtain ⟨f, rfl⟩ := hm b hb
    simp [PySem.W.alike]
  · rw [Bool.or_eq_true_iff]
    right
    rw [List.all_eq_true]
    intro a ha
    obtain ⟨e, rfl⟩ := hm a ha
    rfl
  · rw [List.all_eq_true]
    intro a ha
    obtain ⟨e, rfl⟩ := hm a ha
    simp [PyData.depth]
theorem int_puL (n : Nat) : ∀ ks : List Int, D.puL n (ks.map D.int) = true
  | [] => by simp
  | k :: ks => by simp [int_puL n ks]
theorem sortD_ints (ks : List Int) (nd : ks.Nodup) : sortD (ks.map D.int) = (setI ks).map D.int := by
  have h1 : sortD (ks.map D.int) = (ks.mergeSort (fun a b => decide (a ≤ b))).map D.int := by
    unfold sortD
    rw [List.map_map]
    have e : ((fun d : D => (d.py, d)) ∘ D.int) = fun i => (PyData.int i, D.int i) := by
      funext i
      simp [D.py]
    rw [e, ← List.map_mergeSort (f := fun i : Int => (PyData.int i, D.int i)) (r := fun a b => decide (a ≤ b)) (s := srtLe) fun a _ b _ => ?_]
    · rw [List.map_map]
      rfl
    · have := congrFun (congrFun (PySem.W.dataLe_int (fun i : Int => i)) a) b
      rw [PySem.W.dataLe_eq] at this
      exact this.symm
  rw [h1]
  congr 1
  have hp := List.mergeSort_perm ks (fun a b => decide (a ≤ b))
  have hs := List.pairwise_mergeSort (le := fun a b : Int => decide (a ≤ b)) (fun a b c h1 h2 => by simp only [decide_eq_true_eq] at *; omega) (fun a b => by simp only [Bool.or_eq_true, decide_eq_true_eq]; omega) ks
  have hnd : (ks.mergeSort (fun a b => decide (a ≤ b))).Nodup := hp.nodup_iff.mpr nd
  refine asc_eq ?_ (setI_asc ks) fun j => by rw [setI_mem, hp.mem_iff]
  have hs : (ks.mergeSort (fun a b => decide (a ≤ b))).Pairwise (fun a b => a ≤ b) := hs.imp fun h => by simpa using h
  exact (hs.and hnd).imp fun h => by have := h.1; have := h.2; omega
theorem rk_congr {L L' : List Int} (h : ∀ j, j ∈ L ↔ j ∈ L') (x : Int) : rk L x = rk L' x := by
  have : setI L = setI L' := asc_eq (setI_asc _) (setI_asc _) fun j => by rw [setI_mem, setI_mem, h]
  unfold rk
  rw [this]

/-! ### lists read and written -/
section
variable (N : Store)
theorem sub_ll (l : Nat) (i : Int) : subD (.ll l) (.int i) N = match N[l]? with
    | some (.lst xs) => subD (.tup xs) (.int i) N
    | _ => .bad := rfl
theorem g_tupl (m : Nat → List D → Store → Out D) (ts : List CT) (l : Nat) (σ : Env) : evG m (.tup ts) (.ll l) σ N = match N[l]? with
    | some (.lst ds) => if ds.length = ts.length then evGs m ts ds σ N else .bad
    | _ => .bad := by
  simp only [evG]
  all_goals
    cases N[l]? with
    | none => rfl
    | some o => cases o <;> rfl
theorem set_ll (l : Nat) (i : Int) (v : D) : setD (.ll l) (.int i) v N = match N[l]? with
    | some (.lst xs) => (match L2.ixN xs.length i with
      | some j => .ok () (N.set l (.lst (xs.set j v)))
      | none => .bad)
    | _ => .bad := rfl
theorem itm_ll (l : Nat) : itmD (.ll l) N = match N[l]? with
    | some (.lst ds) => .ok (.lis l ds) N
    | _ => .bad := rfl
theorem chk_ll (l : Nat) (ds : List D) : Itm.chk (.lis l ds) N = match N[l]? with
    | some (.lst xs) => D.beqL xs ds
    | _ => false := rfl
def RdS (d : D) : Option Wy → Prop
  | none => d = .non
  | some w => ∃ l, d = .ll l ∧ N[l]? = some (.lst [.str w.kd.s, .int w.wait, .int w.since, .int w.num])
/-- the law's state -/
structure LS where
  now : Int
  holder : Option Bool
  h1 : Int
  h2 : Int
  h3 : Int
  used : Int
  a : Cl
  b : Cl
structure LSt (l : Nat) (s : LS) : Prop where
  ex : ∃ lh lp la lb da db, N[l]? = some (.lst [.int s.now, .ll lh, .int s.used, .ll lp]) ∧ N[lh]? = some (.lst [hoD s.holder, .int s.h1, .int s.h2, .int s.h3]) ∧ N[lp]? = some (.lst [.ll la, .ll lb]) ∧
    N[la]? = some (.lst [.int s.a.left, .int s.a.num, da]) ∧ N[lb]? = some (.lst [.int s.b.left, .int s.b.num, db]) ∧ RdS N da s.a.way ∧ RdS N db s.b.way
def knownC (c : Cl) : Cl := ⟨50 + c.left, c.num, c.way.map fun w => ⟨w.kd, 50 - w.wait, 50 - w.since, w.num⟩⟩
def known (s : Sd) : LS := ⟨50, s.holder, 50 + s.kept, 50 + s.rest, s.last, s.used, knownC s.a, knownC s.b⟩
theorem gc_keep {M J : Store} {k : Nat} {ds : List D} (hk : J[k]? = some (.lst ds)) (h : D.loL M.length ds = false) : gcO M (.ok (.ll (M.length + k)) (M ++ J)) = .ok (.ll (M.length + k)) (M ++ J) := by
  unfold gcO
  dsimp only
  rw [if_neg (by intro z; have := z.2.1; simp [D.lo] at this; omega), st_get, hk]
  dsimp only
  rw [if_neg (by rw [h]; simp)]
theorem r_known (M : Store) (s : Sd) : ∃ X k, run 30 [s.d] M = .ok (.ll (M.length + k)) (M ++ X) ∧ LSt (M ++ X) (M.length + k) (known s) := by
  rw [run, evm_eq tb supx t__law_known]
  generalize hr : bodyO (evSs (evb tb supx 30) supx c__law_known (startD 10 [s.d]) M) = q
  obtain ⟨ho, kept, rest, last, used, ⟨la, na, wa⟩, ⟨lb, nb, wb⟩⟩ := s
  cases wa with
  | none =>
    cases wb with
    | none =>
      simp [c__law_known, startD, getV, Sd.d, Sd.house, Cl.d, Wy.d, newL, forL, Itm.chk, Itm.ds, itmD, meD_app] at hr
      subst hr
      rw [gc_keep (k := 4) (ds := [.int 50, .ll (M.length + 3), .int used, .ll M.length]) (by simp) (by simp [D.lo])]
      exact ⟨_, 4, rfl, ⟨M.length + 3, M.length, M.length + 1, M.length + 2, .non, .non, by simp [known], by simp [known], by simp, by simp [known, knownC], by simp [known, knownC], rfl, rfl⟩⟩
    | some v =>
      simp [c__law_known, startD, getV, Sd.d, Sd.house, Cl.d, Wy.d, newL, forL, Itm.chk, Itm.ds, itmD, meD_app] at hr
      subst hr
      rw [gc_keep (k := 5) (ds := [.int 50, .ll (M.length + 4), .int used, .ll M.length]) (by simp) (by simp [D.lo])]
      exact ⟨_, 5, rfl, ⟨M.length + 4, M.length, M.length + 1, M.length + 3, .non, .ll (M.length + 2), by simp [known], by simp [known], by simp, by simp [known, knownC], by simp [known, knownC], rfl, ⟨_, rfl, by simp⟩⟩⟩
  | some u =>
    cases wb with
    | none =>
      simp [c__law_known, startD, getV, Sd.d, Sd.house, Cl.d, Wy.d, newL, forL, Itm.chk, Itm.ds, itmD, meD_app] at hr
      subst hr
      rw [gc_keep (k := 5) (ds := [.int 50, .ll (M.length + 4), .int used, .ll M.length]) (by simp) (by simp [D.lo])]
      exact ⟨_, 5, rfl, ⟨M.length + 4, M.length, M.length + 2, M.length + 3, .ll (M.length + 1), .non, by simp [known], by simp [known], by simp, by simp [known, knownC], by simp [known, knownC], ⟨_, rfl, by simp⟩, rfl⟩⟩
    | some v =>
      simp [c__law_known, startD, getV, Sd.d, Sd.house, Cl.d, Wy.d, newL, forL, Itm.chk, Itm.ds, itmD, meD_app] at hr
      subst hr
      rw [gc_keep (k := 6) (ds := [.int 50, .ll (M.length + 5), .int used, .ll M.length]) (by simp) (by simp [D.lo])]
      exact ⟨_, 6, rfl, ⟨M.length + 5, M.length, M.length + 2, M.length + 4, .ll (M.length + 1), .ll (M.length + 3), by simp [known], by simp [known], by simp, by simp [known, knownC], by simp [known, knownC], ⟨_, rfl, by simp⟩, ⟨_, rfl, by simp⟩⟩⟩
end
end BH
end

section
set_option Elab.async false
set_option linter.all false
set_option maxRecDepth 100000
set_option maxHeartbeats 8000000
/-! The law's clock: standing. -/
namespace BH
open PySem L2

@[simp] theorem merge3 (x y z : Int) : mergeD [] [(.inl x, .int 0), (.inl y, .int 0), (.inl z, .int 0)] = kD (addK (addK (addK [] x) y) z) := by
  rw [← put_kD, ← put_kD, ← put_kD]
  rfl
theorem list_dl {M : Store} {l : Nat} {ks : List Int} (h : M[l]? = some (.dk (kD ks))) : biD .list [.dl l] M = newL M (ks.map D.int) := by
  unfold biD
  dsimp only
  rw [h]
  dsimp only
  rw [kD_keys]
theorem set_dl {M : Store} {l : Nat} {ks : List Int} {k : Int} (h : M[l]? = some (.dk (kD ks))) (hz : ks.length ≤ 1000) : setD (.dl l) (.int k) (.int 0) M = .ok () (M.set l (.dk (kD (addK ks k)))) := by
  show (match M[l]?, some (Sum.inl k) with
    | some (.dk kvs), some k => if kvs.length < szl then Out.ok () (M.set l (.dk (putD kvs k (.int 0)))) else .bad
    | _, _ => .bad) = _
  rw [h]
  dsimp only
  rw [if_pos (by rw [kD_len]; show ks.length < 16777216; omega), put_kD]
def clL (r : Ru) (now : Int) (L : List Int) (c : Cl) : Cl :=
  let w := c.way.map fun w => (⟨w.kd, now - w.wait, if w.kd = .back then 0 else min r.use (now - w.since), rk L w.num⟩ : Wy)
  if c.left > now then ⟨c.left - now, rk L c.num, w⟩ else ⟨0, 0, w⟩
def numL (now : Int) (c : Cl) : List Int := (if c.left > now then c.num else 0) :: wn c
def keysL (s : LS) : List Int := [0, s.h3, s.used] ++ numL s.now s.a ++ numL s.now s.b
def standL (r : Ru) (s : LS) : Sd :=
  ⟨if s.h1 > s.now then s.holder else none, if s.holder ≠ none ∧ s.h1 > s.now then s.h1 - s.now else 0, if s.holder ≠ none ∧ s.h1 > s.now then 0 else max 0 (s.h2 - s.now), rk (keysL s) s.h3, rk (keysL s) s.used, clL r s.now (keysL s) s.a, clL r s.now (keysL s) s.b⟩
def addW (ks : List Int) (c : Cl) : List Int := match c.way with
  | none => ks
  | some w => addK ks w.num
def addC (now : Int) (ks : List Int) (c : Cl) : List Int := addW (addK ks (if c.left > now then c.num else 0)) c
def keysD (s : LS) : List Int := addC s.now (addC s.now (addK (addK (addK [] 0) s.h3) s.used) s.a) s.b
theorem addW_mem (ks : List Int) (c : Cl) (j : Int) : j ∈ addW ks c ↔ j ∈ wn c ∨ j ∈ ks := by
  unfold addW wn
  cases c.way <;> simp [addK_mem]
theorem keys_mem (s : LS) (j : Int) : j ∈ keysD s ↔ j ∈ keysL s := by
  unfold keysD addC keysL numL
  simp only [addW_mem, addK_mem, List.mem_append, List.mem_cons, List.not_mem_nil, or_false]
  grind
theorem addW_nd (ks : List Int) (c : Cl) (h : ks.Nodup) : (addW ks c).Nodup := by
  unfold addW
  split
  · exact h
  · exact addK_nd _ _ h
theorem keys_nd (s : LS) : (keysD s).Nodup := addW_nd _ _ (addK_nd _ _ (addW_nd _ _ (addK_nd _ _ (addK_nd _ _ (addK_nd _ _ (addK_nd _ _ List.nodup_nil))))))
theorem addW_len (ks : List Int) (c : Cl) : (addW ks c).length ≤ ks.length + 1 := by
  unfold addW
  split
  · omega
  · exact addK_len _ _
theorem keys_len (s : LS) : (keysD s).length ≤ 7 := by
  unfold keysD addC
  have := addK_len [] 0
  have := addK_len (addK [] 0) s.h3
  have := addK_len (addK (addK [] 0) s.h3) s.used
  generalize addK (addK (addK [] 0) s.h3) s.used = k at *
  have := addK_len k (if s.a.left > s.now then s.a.num else 0)
  generalize addK k (if s.a.left > s.now then s.a.num else 0) = k1 at *
  have := addW_len k1 s.a
  generalize addW k1 s.a = k2 at *
  have := addK_len k2 (if s.b.left > s.now then s.b.num else 0)
  generalize addK k2 (if s.b.left > s.now then s.b.num else 0) = k3 at *
  have := addW_len k3 s.b
  simp at *
  omega
def sb1 : List CS := match c__law_standing with
  | [_, _, .for_ _ _ b, _, _, _, _, _] => b
  | _ => []
def sb2 : List CS := match c__law_standing with
  | [_, _, _, _, .for_ _ _ b, _, _, _] => b
  | _ => []
theorem c_st_eq : c__law_standing = c__law_standing.take 2 ++ ([.for_ (.tup [(.nm 7), (.nm 8), (.nm 9)]) (.ex (.var 5)) sb1] ++ ([(.par [10, 11] [(.srt (.bi .list [(.var 6)])), (.lst [])])] ++ ([.for_ (.tup [(.nm 7), (.nm 8), (.nm 9)]) (.ex (.var 5)) sb2] ++ c__law_standing.drop 5))) := rfl
/-- a client put among the numbers -/
theorem st1_it (N : Store) (T A : D) (now : Int) (c : Cl) (ks : List Int) (hk : ks.length ≤ 900) (dr : D) (hr : RdS N dr c.way) (lh lp : Nat) (u : Int) (x12 x13 x14 x15 : Option D) (k : Nat) :
    evSs (evb tb supx 31) supx sb1 [some T, some A, some (.int now), some (.ll lh), some (.int u), some (.ll lp), some (.dl N.length), some (.int c.left), some (.int c.num), some dr, none, none, x12, x13, x14, x15] (N ++ [.dk (kD ks)]) =
      .nx [some T, some A, some (.int now), some (.ll lh), some (.int u), some (.ll lp), some (.dl N.length), some (.int c.left), some (.int c.num), some dr, none, none, x12, x13, x14, x15] (N ++ [.dk (kD (addC now ks c))]) := by
  have hl1 := addK_len ks (if c.left > now then c.num else 0)
  have s1 : setD (.dl N.length) (.int (if c.left > now then c.num else 0)) (.int 0) (N ++ [.dk (kD ks)]) = .ok () (N ++ [.dk (kD (addK ks (if c.left > now then c.num else 0)))]) := by
    rw [set_dl (ks := ks) (by simp) (by omega)]; simp
  generalize hx : (if c.left > now then c.num else 0) = x at *
  unfold addC addW
  rw [hx]
  cases hw : c.way with
  | none =>
    rw [hw] at hr
    cases hr
    simp [sb1, c__law_standing, getV, hx, s1]
  | some w =>
    rw [hw] at hr
    obtain ⟨q, rfl, hq⟩ := hr
    have hq' := app_get hq
    have s2 : setD (.dl N.length) (.int w.num) (.int 0) (N ++ [.dk (kD (addK ks x))]) = .ok () (N ++ [.dk (kD (addK (addK ks x) w.num))]) := by
      rw [set_dl (ks := addK ks x) (by simp) (by omega)]; simp
    simp [sb1, c__law_standing, getV, hx, s1, s2, sub_ll, hq']
theorem st2_it (N : Store) (r : Ru) (A : D) (now : Int) (c : Cl) (K : List Int) (O1 O2 : MO) (F : List D) (hF : F.length ≤ 10) (hc : c.left > now → c.num ∈ K) (hw : ∀ w, c.way = some w → w.num ∈ K) (dr : D) (hr : RdS N dr c.way) (lh lp : Nat) (u : Int) (x6 x12 x13 x14 x15 : Option D) :
    ∃ y12 y13, evSs (evb tb supx 31) supx sb2 [some r.d, some A, some (.int now), some (.ll lh), some (.int u), some (.ll lp), x6, some (.int c.left), some (.int c.num), some dr, some (.ll (N.length + 2)), some (.ll (N.length + 3)), x12, x13, x14, x15] (N ++ [O1, O2, .lst ((setI K).map D.int), .lst F]) =
      .nx [some r.d, some A, some (.int now), some (.ll lh), some (.int u), some (.ll lp), x6, some (.int c.left), some (.int c.num), some dr, some (.ll (N.length + 2)), some (.ll (N.length + 3)), y12, y13, x14, x15] (N ++ [O1, O2, .lst ((setI K).map D.int), .lst (F ++ [(clL r now K c).d])]) := by
  have ix : ∀ x ∈ K, meD .index (.ll (N.length + 2)) [.int x] (N ++ [O1, O2, .lst ((setI K).map D.int), .lst F]) = .ok (.int (rk K x)) (N ++ [O1, O2, .lst ((setI K).map D.int), .lst F]) := fun x hx => index_ok (by simp) hx
  have hz : F.length < 16777216 := by omega
  have r1 : ∀ M, subD r.d (.int 1) M = .ok (.int r.use) M := fun M => by simp [Ru.d]
  obtain ⟨left, num, way⟩ := c
  simp only at hc hw hr
  generalize hq : evSs (evb tb supx 31) supx sb2 _ _ = q
  cases way with
  | none =>
    cases hr
    by_cases hl : now < left
    · have i1 := ix _ (hc hl)
      have e : (clL r now K ⟨left, num, none⟩).d = .tup [.int (left - now), .int (rk K num), .non] := by simp [clL, hl, Cl.d]
      rw [e]
      simp [sb2, c__law_standing, getV, meD_app, hl, i1, hz] at hq
      exact ⟨_, _, hq.symm⟩
    · have e : (clL r now K ⟨left, num, none⟩).d = .tup [.int 0, .int 0, .non] := by simp [clL, hl, Cl.d]
      rw [e]
      simp [sb2, c__law_standing, getV, meD_app, hl, hz] at hq
      exact ⟨_, _, hq.symm⟩
  | some w =>
    obtain ⟨l, rfl, hl0⟩ := hr
    have hl' := app_get hl0
    have i2 := ix _ (hw w rfl)
    obtain ⟨kd, wait, since, wnum⟩ := w
    simp only at i2 hl'
    by_cases hk : kd = .back
    · subst hk
      by_cases hl : now < left
      · have i1 := ix _ (hc hl)
        have e : (clL r now K ⟨left, num, some ⟨.back, wait, since, wnum⟩⟩).d = .tup [.int (left - now), .int (rk K num), .tup [.str "back", .int (now - wait), .int 0, .int (rk K wnum)]] := by simp [clL, hl, Cl.d, Wy.d]
        rw [e]
        simp [sb2, c__law_standing, getV, meD_app, hl, i1, i2, hz, sub_ll, hl', eqD_pu, r1] at hq
        exact ⟨_, _, hq.symm⟩
      · have e : (clL r now K ⟨left, num, some ⟨.back, wait, since, wnum⟩⟩).d = .tup [.int 0, .int 0, .tup [.str "back", .int (now - wait), .int 0, .int (rk K wnum)]] := by simp [clL, hl, Cl.d, Wy.d]
        rw [e]
        simp [sb2, c__law_standing, getV, meD_app, hl, i2, hz, sub_ll, hl', eqD_pu, r1] at hq
        exact ⟨_, _, hq.symm⟩
    · by_cases hl : now < left
      · have i1 := ix _ (hc hl)
        have e : (clL r now K ⟨left, num, some ⟨kd, wait, since, wnum⟩⟩).d = .tup [.int (left - now), .int (rk K num), .tup [.str kd.s, .int (now - wait), .int (min r.use (now - since)), .int (rk K wnum)]] := by simp [clL, hl, Cl.d, Wy.d, hk]
        rw [e]
        simp [sb2, c__law_standing, getV, meD_app, hl, i1, i2, hz, sub_ll, hl', eqD_pu, r1, hk] at hq
        exact ⟨_, _, hq.symm⟩
      · have e : (clL r now K ⟨left, num, some ⟨kd, wait, since, wnum⟩⟩).d = .tup [.int 0, .int 0, .tup [.str kd.s, .int (now - wait), .int (min r.use (now - since)), .int (rk K wnum)]] := by simp [clL, hl, Cl.d, Wy.d, hk]
        rw [e]
        simp [sb2, c__law_standing, getV, meD_app, hl, i2, hz, sub_ll, hl', eqD_pu, r1, hk] at hq
        exact ⟨_, _, hq.symm⟩
end BH
end

section
set_option Elab.async false
set_option linter.all false
set_option maxRecDepth 100000
set_option maxHeartbeats 8000000
/-! The law's clock: standing, put together. -/
namespace BH
open PySem L2

theorem clL_congr {L L' : List Int} (h : rk L = rk L') (r : Ru) (now : Int) (c : Cl) : clL r now L c = clL r now L' c := by
  unfold clL
  rw [h]
theorem addK_self (ks : List Int) (k : Int) : k ∈ addK ks k := (addK_mem ks k k).mpr (.inl rfl)
theorem addK_old {ks : List Int} {j : Int} (k : Int) (h : j ∈ ks) : j ∈ addK ks k := (addK_mem ks k j).mpr (.inr h)
theorem r_standing (r : Ru) (s : LS) (l : Nat) (N : Store) (h : LSt N l s) : run 31 [r.d, .ll l] N = .ok (standL r s).d N := by
  obtain ⟨lh, lp, la, lb, da, db, hl, hh, hp, ha, hb, ra, rb⟩ := h.ex
  have hl' := app_get hl
  have hh' := app_get hh
  have hp' := app_get hp
  have ha' := app_get ha
  have hb' := app_get hb
  have hbq := D.beqL_refl
  rw [run, evm_eq tb supx t__law_standing, c_st_eq, evSs_app]
  -- the numbers
  have pA : evSs (evb tb supx 31) supx (c__law_standing.take 2) (startD 16 [r.d, .ll l]) N = .nx [some r.d, some (.ll l), some (.int s.now), some (.ll lh), some (.int s.used), some (.ll lp), some (.dl N.length), none, none, none, none, none, none, none, none, none] (N ++ [.dk (kD (addK (addK (addK [] 0) s.h3) s.used))]) := by
    simp [c__law_standing, startD, getV, g_tupl, hl, sub_ll, hh, dicD, pairsD, kyD]
  rw [pA]
  simp only [seq_nxE]
  have k1 : (addK (addK (addK [] 0) s.h3) s.used).length ≤ 3 := by
    have := addK_len [] 0
    have := addK_len (addK [] 0) s.h3
    have := addK_len (addK (addK [] 0) s.h3) s.used
    simp at *
    omega
  have hK : keysD s = addC s.now (addC s.now (addK (addK (addK [] 0) s.h3) s.used) s.a) s.b := rfl
  have m0 : s.h3 ∈ keysD s := (keys_mem s _).mpr (by simp [keysL])
  have m1 : s.used ∈ keysD s := (keys_mem s _).mpr (by simp [keysL])
  have m2 : s.a.left > s.now → s.a.num ∈ keysD s := fun z => (keys_mem s _).mpr (by simp [keysL, numL, z])
  have m3 : s.b.left > s.now → s.b.num ∈ keysD s := fun z => (keys_mem s _).mpr (by simp [keysL, numL, z])
  have m4 : ∀ w, s.a.way = some w → w.num ∈ keysD s := fun w z => (keys_mem s _).mpr (by simp [keysL, numL, wn, z])
  have m5 : ∀ w, s.b.way = some w → w.num ∈ keysD s := fun w z => (keys_mem s _).mpr (by simp [keysL, numL, wn, z])
  have hlen := keys_len s
  have hnd := keys_nd s
  generalize addK (addK (addK [] 0) s.h3) s.used = ks0 at *
  have k2 : (addC s.now ks0 s.a).length ≤ 5 := by
    unfold addC
    have := addK_len ks0 (if s.a.left > s.now then s.a.num else 0)
    have := addW_len (addK ks0 (if s.a.left > s.now then s.a.num else 0)) s.a
    omega
  have pB : evSs (evb tb supx 31) supx [.for_ (.tup [(.nm 7), (.nm 8), (.nm 9)]) (.ex (.var 5)) sb1] [some r.d, some (.ll l), some (.int s.now), some (.ll lh), some (.int s.used), some (.ll lp), some (.dl N.length), none, none, none, none, none, none, none, none, none] (N ++ [.dk (kD ks0)]) =
      .nx [some r.d, some (.ll l), some (.int s.now), some (.ll lh), some (.int s.used), some (.ll lp), some (.dl N.length), some (.int s.b.left), some (.int s.b.num), some db, none, none, none, none, none, none] (N ++ [.dk (kD (keysD s))]) := by
    have i1 := st1_it N r.d (.ll l) s.now s.a ks0 (by omega) da ra lh lp s.used none none none none 0
    have i2 := st1_it N r.d (.ll l) s.now s.b (addC s.now ks0 s.a) (by omega) db rb lh lp s.used none none none none 0
    rw [← hK] at i2
    simp [getV, itm_ll, hp', Itm.ds, forL, chk_ll, hbq, g_tupl, ha', hb', i1, i2]
  rw [evSs_app, pB]
  simp only [seq_nxE]
  have pC : evSs (evb tb supx 31) supx [(.par [10, 11] [(.srt (.bi .list [(.var 6)])), (.lst [])])] [some r.d, some (.ll l), some (.int s.now), some (.ll lh), some (.int s.used), some (.ll lp), some (.dl N.length), some (.int s.b.left), some (.int s.b.num), some db, none, none, none, none, none, none] (N ++ [.dk (kD (keysD s))]) =
      .nx [some r.d, some (.ll l), some (.int s.now), some (.ll lh), some (.int s.used), some (.ll lp), some (.dl N.length), some (.int s.b.left), some (.int s.b.num), some db, some (.ll (N.length + 2)), some (.ll (N.length + 3)), none, none, none, none] (N ++ [.dk (kD (keysD s)), .lst ((keysD s).map D.int), .lst ((setI (keysD s)).map D.int), .lst []]) := by
    have l1 : biD .list [.dl N.length] (N ++ [.dk (kD (keysD s))]) = .ok (.ll (N.length + 1)) (N ++ [.dk (kD (keysD s)), .lst ((keysD s).map D.int)]) := by
      rw [list_dl (ks := keysD s) (by simp)]
      unfold newL
      rw [if_pos (by simp; omega)]
      simp
    have l2 : srtD (.ll (N.length + 1)) (N ++ [.dk (kD (keysD s)), .lst ((keysD s).map D.int)]) = .ok (.ll (N.length + 2)) (N ++ [.dk (kD (keysD s)), .lst ((keysD s).map D.int), .lst ((setI (keysD s)).map D.int)]) := by
      rw [srtD_ok (ds := (keysD s).map D.int) (by simp) (int_puL 64 _) (int_srt _), sortD_ints _ hnd]
      unfold newL
      have := setI_len (keysD s)
      rw [if_pos (by simp; omega)]
      simp
    simp [getV, l1, l2, newL, sPar, setAll]
  rw [evSs_app, pC]
  simp only [seq_nxE]
  have hrk : rk (keysD s) = rk (keysL s) := funext fun x => rk_congr (keys_mem s) x
  generalize keysD s = K at *
  obtain ⟨y12, y13, i1⟩ := st2_it N r (.ll l) s.now s.a K (.dk (kD K)) (.lst (K.map D.int)) [] (by simp) m2 m4 da ra lh lp s.used (some (.dl N.length)) none none none none
  obtain ⟨z12, z13, i2⟩ := st2_it N r (.ll l) s.now s.b K (.dk (kD K)) (.lst (K.map D.int)) [(clL r s.now K s.a).d] (by simp) m3 m5 db rb lh lp s.used (some (.dl N.length)) y12 y13 none none
  have pD : evSs (evb tb supx 31) supx [.for_ (.tup [(.nm 7), (.nm 8), (.nm 9)]) (.ex (.var 5)) sb2] [some r.d, some (.ll l), some (.int s.now), some (.ll lh), some (.int s.used), some (.ll lp), some (.dl N.length), some (.int s.b.left), some (.int s.b.num), some db, some (.ll (N.length + 2)), some (.ll (N.length + 3)), none, none, none, none] (N ++ [.dk (kD K), .lst (K.map D.int), .lst ((setI K).map D.int), .lst []]) =
      .nx [some r.d, some (.ll l), some (.int s.now), some (.ll lh), some (.int s.used), some (.ll lp), some (.dl N.length), some (.int s.b.left), some (.int s.b.num), some db, some (.ll (N.length + 2)), some (.ll (N.length + 3)), z12, z13, none, none] (N ++ [.dk (kD K), .lst (K.map D.int), .lst ((setI K).map D.int), .lst [(clL r s.now K s.a).d, (clL r s.now K s.b).d]]) := by
    simp only [List.nil_append] at i1
    simp only [List.cons_append, List.nil_append] at i2
    simp [getV, itm_ll, hp', Itm.ds, forL, chk_ll, hbq, g_tupl, ha', hb', i1, i2]
  rw [evSs_app, pD]
  simp only [seq_nxE]
  have ix : ∀ x ∈ K, ∀ Y, meD .index (.ll (N.length + 2)) [.int x] (N ++ [.dk (kD K), .lst (K.map D.int), .lst ((setI K).map D.int), Y]) = .ok (.int (rk K x)) (N ++ [.dk (kD K), .lst (K.map D.int), .lst ((setI K).map D.int), Y]) := fun x hx Y => index_ok (by simp) hx
  have j1 := ix _ m0
  have j2 := ix _ m1
  have hst : (standL r s).d = .tup [.tup [if s.h1 > s.now then hoD s.holder else .non, .int (if s.holder ≠ none ∧ s.h1 > s.now then s.h1 - s.now else 0), .int (if s.holder ≠ none ∧ s.h1 > s.now then 0 else max 0 (s.h2 - s.now)), .int (rk K s.h3)], .int (rk K s.used), (clL r s.now K s.a).d, (clL r s.now K s.b).d] := by
    rw [hrk, clL_congr hrk, clL_congr hrk]
    unfold standL Sd.d Sd.house
    simp only
    split <;> simp [*]
  rw [hst]
  by_cases h1 : s.h1 > s.now
  · cases hho : s.holder with
    | none =>
      rw [hho] at hh'
      have h1' : s.now < s.h1 := h1
      simp [c__law_standing, getV, sub_ll, hh', j1, j2, h1']
      exact gc_pure (by simp)
    | some c =>
      rw [hho] at hh'
      have h1' : s.now < s.h1 := h1
      simp [c__law_standing, getV, sub_ll, hh', j1, j2, h1']
      exact gc_pure (by simp)
  · have h1' : ¬ s.now < s.h1 := h1
    simp [c__law_standing, getV, sub_ll, hh', j1, j2, h1']
    exact gc_pure (by simp)
end BH
end

section
set_option Elab.async false
set_option linter.all false
set_option maxRecDepth 100000
set_option maxHeartbeats 8000000
/-! The law's clock: what comes. -/
namespace BH
open PySem L2

theorem gc_same {M M' : Store} {w : Str} (h : M'.length = M.length) : gcO M (.ok (.str w) M') = .ok (.str w) M' := by
  unfold gcO
  dsimp only
  split
  · rw [← h, List.take_length]
  · rfl
theorem gc_npre {M M' : Store} {w : Str} (h : ¬ Pre' M M') : gcO M (.ok (.str w) M') = .ok (.str w) M' := by
  unfold gcO
  dsimp only
  rw [if_neg (fun z => h z.1)]
theorem gc_tupk {M M' : Store} {ds : List D} (h : D.loL M.length ds = false) : gcO M (.ok (.tup ds) M') = .ok (.tup ds) M' := by
  unfold gcO
  dsimp only
  rw [if_neg (fun z => by have := z.2.1; simp [h] at this)]
def LS.cl (s : LS) (c : Bool) : Cl := if c then s.b else s.a
def LS.setc (s : LS) (c : Bool) (v : Cl) : LS := if c then { s with b := v } else { s with a := v }
def comeL (r : Ru) (s : LS) (c : Bool) (w : Wy) : LS × Wd :=
  let ho := if s.h1 > s.now then s.holder else none
  match w.kd with
  | .back => if ho = some c then (({ s with holder := none, h1 := s.now, h2 := s.now } : LS).setc c ⟨(s.cl c).left, (s.cl c).num, none⟩, .freed) else (s.setc c ⟨(s.cl c).left, (s.cl c).num, none⟩, .late)
  | .yes => if (if r.asked then w.since else s.now) + r.use ≤ max (s.cl c).left s.now then (s.setc c ⟨(s.cl c).left, (s.cl c).num, none⟩, .late)
    else (s.setc c ⟨(if r.asked then w.since else s.now) + r.use, w.num, none⟩, .held)
  | _ => if ho ≠ some c ∧ ¬ (ho = none ∧ s.h2 ≤ s.now ∧ (w.kd = .ask ∨ r.yes = true)) then (s.setc c ⟨(s.cl c).left, (s.cl c).num, none⟩, .refused)
    else (({ s with holder := some c, h1 := s.now + r.keep, h2 := s.now, h3 := s.h3 + (if ho = none ∧ s.h2 ≤ s.now ∧ (w.kd = .ask ∨ r.yes = true) then 1 else 0) } : LS).setc c
      ⟨(s.cl c).left, (s.cl c).num, some ⟨.yes, s.now, w.since, s.h3 + (if ho = none ∧ s.h2 ≤ s.now ∧ (w.kd = .ask ∨ r.yes = true) then 1 else 0)⟩⟩, .granted)
def cp (N : Store) (s : LS) (da db : D) : Store := N ++ [.lst [hoD s.holder, .int s.h1, .int s.h2, .int s.h3], .lst [.int s.a.left, .int s.a.num, da], .lst [.int s.b.left, .int s.b.num, db], .lst [.ll (N.length + 1), .ll (N.length + 2)], .lst [.int s.now, .ll N.length, .int s.used, .ll (N.length + 3)]]
theorem rds_app {N : Store} {d : D} {w : Option Wy} (h : RdS N d w) (X : Store) : RdS (N ++ X) d w := by
  cases w with
  | none => exact h
  | some w => obtain ⟨l, e, h⟩ := h; exact ⟨l, e, app_get h X⟩
/-- the five lists as they stand -/
theorem lst_mk {N : Store} {s : LS} {da db : D} {Y : Store} (ra : RdS (N ++ Y) da s.a.way) (rb : RdS (N ++ Y) db s.b.way)
    (h0 : Y[0]? = some (.lst [hoD s.holder, .int s.h1, .int s.h2, .int s.h3])) (h1 : Y[1]? = some (.lst [.int s.a.left, .int s.a.num, da])) (h2 : Y[2]? = some (.lst [.int s.b.left, .int s.b.num, db])) (h3 : Y[3]? = some (.lst [.ll (N.length + 1), .ll (N.length + 2)])) (h4 : Y[4]? = some (.lst [.int s.now, .ll N.length, .int s.used, .ll (N.length + 3)])) :
    LSt (N ++ Y) (N.length + 4) s :=
  ⟨⟨N.length, N.length + 3, N.length + 1, N.length + 2, da, db, by rw [st_get]; exact h4, by rw [st_get0]; exact h0, by rw [st_get]; exact h3, by rw [st_get]; exact h1, by rw [st_get]; exact h2, ra, rb⟩⟩
@[simp] theorem int_b (b : Bool) (M : Store) : biD .int [.bl b] M = .ok (.int (if b then 1 else 0)) M := rfl
@[simp] theorem rd_0 (r : Ru) (M : Store) : subD r.d (.int 0) M = .ok (.int r.keep) M := by simp [Ru.d]
@[simp] theorem rd_1 (r : Ru) (M : Store) : subD r.d (.int 1) M = .ok (.int r.use) M := by simp [Ru.d]
@[simp] theorem rd_2 (r : Ru) (M : Store) : subD r.d (.int 2) M = .ok (.str (if r.asked then "asked" else "came")) M := by simp [Ru.d]
@[simp] theorem rd_3 (r : Ru) (M : Store) : subD r.d (.int 3) M = .ok (.str (if r.yes then "yes" else "no")) M := by simp [Ru.d]
@[simp] theorem rd_4 (r : Ru) (M : Store) : subD r.d (.int 4) M = .ok (.str (if r.number then "number" else "no")) M := by simp [Ru.d]
@[simp] theorem rd_5 (r : Ru) (M : Store) : subD r.d (.int 5) M = .ok (.int r.rest) M := by simp [Ru.d]
theorem gt_of {a b : Int} (h : a < b) : b > a := h
theorem ngt_of {a b : Int} (h : ¬ a < b) : ¬ b > a := h
theorem r_come_back (r : Ru) (s : LS) (c : Bool) (wait since num : Int) (N : Store) (da db : D) (hw : (s.cl c).way = some ⟨.back, wait, since, num⟩) (ra : RdS N da s.a.way) (rb : RdS N db s.b.way) :
    ∃ Y, run 33 [r.d, .ll (N.length + 4), .int (cI c)] (cp N s da db) = .ok (.str (comeL r s c ⟨.back, wait, since, num⟩).2.s) (N ++ Y) ∧ LSt (N ++ Y) (N.length + 4) (comeL r s c ⟨.back, wait, since, num⟩).1 := by
  rw [run, evm_eq tb supx t__law_come]
  unfold comeL
  simp only
  cases c
  · simp [LS.cl] at hw
    rw [hw] at ra
    obtain ⟨q, rfl, hq⟩ := ra
    have hq' := app_get hq
    simp only at hq'
    generalize hr : bodyO (evSs (evb tb supx 33) supx c__law_come (startD 13 [r.d, .ll (N.length + 4), .int (cI false)]) (cp N s (.ll q) db)) = z
    by_cases h1 : s.now < s.h1
    · rw [if_pos (gt_of h1)]
      by_cases hh : s.holder = some false
      · rw [if_pos hh]
        simp [c__law_come, startD, getV, cp, g_tupl, sub_ll, set_ll, L2.ixN, hq', eqD_pu, h1, hh] at hr
        subst hr
        rw [gc_same (by simp [cp])]
        exact ⟨_, rfl, lst_mk (da := .non) (db := db) rfl (rds_app rb _) rfl rfl rfl rfl rfl⟩
      · rw [if_neg hh]
        simp [c__law_come, startD, getV, cp, g_tupl, sub_ll, set_ll, L2.ixN, hq', eqD_pu, h1, hh] at hr
        subst hr
        rw [gc_same (by simp [cp])]
        exact ⟨_, rfl, lst_mk (da := .non) (db := db) rfl (rds_app rb _) rfl rfl rfl rfl rfl⟩
    · rw [if_neg (ngt_of h1), if_neg (by simp)]
      simp [c__law_come, startD, getV, cp, g_tupl, sub_ll, set_ll, L2.ixN, hq', eqD_pu, h1] at hr
      subst hr
      rw [gc_same (by simp [cp])]
      exact ⟨_, rfl, lst_mk (da := .non) (db := db) rfl (rds_app rb _) rfl rfl rfl rfl rfl⟩
  · simp [LS.cl] at hw
    rw [hw] at rb
    obtain ⟨q, rfl, hq⟩ := rb
    have hq' := app_get hq
    simp only at hq'
    generalize hr : bodyO (evSs (evb tb supx 33) supx c__law_come (startD 13 [r.d, .ll (N.length + 4), .int (cI true)]) (cp N s da (.ll q))) = z
    by_cases h1 : s.now < s.h1
    · rw [if_pos (gt_of h1)]
      by_cases hh : s.holder = some true
      · rw [if_pos hh]
        simp [c__law_come, startD, getV, cp, g_tupl, sub_ll, set_ll, L2.ixN, hq', eqD_pu, h1, hh] at hr
        subst hr
        rw [gc_same (by simp [cp])]
        exact ⟨_, rfl, lst_mk (da := da) (db := .non) (rds_app ra _) rfl rfl rfl rfl rfl rfl⟩
      · rw [if_neg hh]
        simp [c__law_come, startD, getV, cp, g_tupl, sub_ll, set_ll, L2.ixN, hq', eqD_pu, h1, hh] at hr
        subst hr
        rw [gc_same (by simp [cp])]
        exact ⟨_, rfl, lst_mk (da := da) (db := .non) (rds_app ra _) rfl rfl rfl rfl rfl rfl⟩
    · rw [if_neg (ngt_of h1), if_neg (by simp)]
      simp [c__law_come, startD, getV, cp, g_tupl, sub_ll, set_ll, L2.ixN, hq', eqD_pu, h1] at hr
      subst hr
      rw [gc_same (by simp [cp])]
      exact ⟨_, rfl, lst_mk (da := da) (db := .non) (rds_app ra _) rfl rfl rfl rfl rfl rfl⟩
theorem r_come_yes (r : Ru) (s : LS) (c : Bool) (wait since num : Int) (N : Store) (da db : D) (hw : (s.cl c).way = some ⟨.yes, wait, since, num⟩) (ra : RdS N da s.a.way) (rb : RdS N db s.b.way) :
    ∃ Y, run 33 [r.d, .ll (N.length + 4), .int (cI c)] (cp N s da db) = .ok (.str (comeL r s c ⟨.yes, wait, since, num⟩).2.s) (N ++ Y) ∧ LSt (N ++ Y) (N.length + 4) (comeL r s c ⟨.yes, wait, since, num⟩).1 := by
  rw [run, evm_eq tb supx t__law_come]
  unfold comeL
  simp only
  cases c
  · simp [LS.cl] at hw
    rw [hw] at ra
    obtain ⟨q, rfl, hq⟩ := ra
    have hq' := app_get hq
    simp only at hq'
    generalize hr : bodyO (evSs (evb tb supx 33) supx c__law_come (startD 13 [r.d, .ll (N.length + 4), .int (cI false)]) (cp N s (.ll q) db)) = z
    have e0 : (s.cl false).left = s.a.left := rfl
    rw [e0]
    cases ha : r.asked
    all_goals
      by_cases h1 : s.now < s.h1
      all_goals
        by_cases hl : (if r.asked then since else s.now) + r.use ≤ max s.a.left s.now
        · rw [ha] at hl
          rw [if_pos hl]
          simp at hl
          simp [c__law_come, startD, getV, cp, g_tupl, sub_ll, set_ll, L2.ixN, hq', eqD_pu, h1, ha, hl] at hr
          subst hr
          rw [gc_same (by simp [cp])]
          exact ⟨_, rfl, lst_mk (da := .non) (db := db) rfl (rds_app rb _) rfl rfl rfl rfl rfl⟩
        · rw [ha] at hl
          rw [if_neg hl]
          simp at hl
          simp [c__law_come, startD, getV, cp, g_tupl, sub_ll, set_ll, L2.ixN, hq', eqD_pu, h1, ha] at hr
          rw [if_neg (by omega)] at hr
          subst hr
          rw [gc_same (by simp [cp])]
          exact ⟨_, rfl, lst_mk (da := .non) (db := db) rfl (rds_app rb _) rfl rfl rfl rfl rfl⟩
  · simp [LS.cl] at hw
    rw [hw] at rb
    obtain ⟨q, rfl, hq⟩ := rb
    have hq' := app_get hq
    simp only at hq'
    generalize hr : bodyO (evSs (evb tb supx 33) supx c__law_come (startD 13 [r.d, .ll (N.length + 4), .int (cI true)]) (cp N s da (.ll q))) = z
    have e0 : (s.cl true).left = s.b.left := rfl
    rw [e0]
    cases ha : r.asked
    all_goals
      by_cases h1 : s.now < s.h1
      all_goals
        by_cases hl : (if r.asked then since else s.now) + r.use ≤ max s.b.left s.now
        · rw [ha] at hl
          rw [if_pos hl]
          simp at hl
          simp [c__law_come, startD, getV, cp, g_tupl, sub_ll, set_ll, L2.ixN, hq', eqD_pu, h1, ha, hl] at hr
          subst hr
          rw [gc_same (by simp [cp])]
          exact ⟨_, rfl, lst_mk (da := da) (db := .non) (rds_app ra _) rfl rfl rfl rfl rfl rfl⟩
        · rw [ha] at hl
          rw [if_neg hl]
          simp at hl
          simp [c__law_come, startD, getV, cp, g_tupl, sub_ll, set_ll, L2.ixN, hq', eqD_pu, h1, ha] at hr
          rw [if_neg (by omega)] at hr
          subst hr
          rw [gc_same (by simp [cp])]
          exact ⟨_, rfl, lst_mk (da := da) (db := .non) (rds_app ra _) rfl rfl rfl rfl rfl rfl⟩
end BH
end

section
set_option Elab.async false
set_option linter.all false
set_option maxRecDepth 100000
set_option maxHeartbeats 8000000
/-! The law's clock: asking. -/
namespace BH
open PySem L2

theorem npre0 {N Y : Store} {s : LS} {q : Nat} {db x y : D} (hq : q < N.length) (h : Y[1]? = some (.lst [x, y, .ll (N.length + 5)])) : ¬ Pre' (cp N s (.ll q) db) (N ++ Y) := fun p => by
  have := p (N.length + 1) (.lst [x, y, .ll (N.length + 5)]) (by simp [cp]) (by rw [st_get]; exact h)
  rcases this with z | z
  · unfold cp at z
    rw [st_get] at z
    simp at z
    omega
  · simp [MO.lo, D.lo, cp] at z
theorem npre1 {N Y : Store} {s : LS} {q : Nat} {da x y : D} (hq : q < N.length) (h : Y[2]? = some (.lst [x, y, .ll (N.length + 5)])) : ¬ Pre' (cp N s da (.ll q)) (N ++ Y) := fun p => by
  have := p (N.length + 2) (.lst [x, y, .ll (N.length + 5)]) (by simp [cp]) (by rw [st_get]; exact h)
  rcases this with z | z
  · unfold cp at z
    rw [st_get] at z
    simp at z
    omega
  · simp [MO.lo, D.lo, cp] at z
theorem r_come_ask (r : Ru) (s : LS) (c : Bool) (wait since num : Int) (N : Store) (da db : D) (hw : (s.cl c).way = some ⟨.ask, wait, since, num⟩) (ra : RdS N da s.a.way) (rb : RdS N db s.b.way) :
    ∃ Y, run 33 [r.d, .ll (N.length + 4), .int (cI c)] (cp N s da db) = .ok (.str (comeL r s c ⟨.ask, wait, since, num⟩).2.s) (N ++ Y) ∧ LSt (N ++ Y) (N.length + 4) (comeL r s c ⟨.ask, wait, since, num⟩).1 := by
  rw [run, evm_eq tb supx t__law_come]
  obtain ⟨now, ho, g1, g2, g3, used, ca, cb⟩ := s
  cases c
  · simp [LS.cl] at hw
    rw [hw] at ra
    obtain ⟨q, rfl, hq⟩ := ra
    have hq' := app_get hq
    have hqn := (List.getElem?_eq_some_iff.mp hq).1
    simp only at hq'
    generalize hr : bodyO (evSs (evb tb supx 33) supx c__law_come (startD 13 [r.d, .ll (N.length + 4), .int (cI false)]) (cp N ⟨now, ho, g1, g2, g3, used, ca, cb⟩ (.ll q) db)) = z
    generalize hcm : comeL r ⟨now, ho, g1, g2, g3, used, ca, cb⟩ false ⟨.ask, wait, since, num⟩ = cm
    unfold comeL at hcm
    simp only at hcm
    cases hy : r.yes
    all_goals
      by_cases h2 : g2 ≤ now
      all_goals
        by_cases h1 : now < g1
        · rw [if_pos (gt_of h1)] at hcm
          cases ho with
          | none =>
            simp [c__law_come, startD, getV, cp, g_tupl, sub_ll, set_ll, L2.ixN, newL, hq', eqD_pu, h1, h2, hy] at hr
            simp [h2, hy] at hcm
            subst hr hcm
            first
              | (rw [gc_same (by simp [cp])]; exact ⟨_, rfl, lst_mk (da := .non) (db := db) rfl (rds_app rb _) rfl rfl rfl rfl rfl⟩)
              | (refine ⟨_, gc_npre ?_, ?_⟩; exact npre0 hqn rfl; exact lst_mk (da := .ll (N.length + 5)) (db := db) ⟨_, rfl, by rw [st_get]; rfl⟩ (rds_app rb _) rfl rfl rfl rfl rfl)
          | some k =>
            cases k
            all_goals
              simp [c__law_come, startD, getV, cp, g_tupl, sub_ll, set_ll, L2.ixN, newL, hq', eqD_pu, h1, h2, hy] at hr
              simp [h2, hy] at hcm
              subst hr hcm
              first
                | (rw [gc_same (by simp [cp])]; exact ⟨_, rfl, lst_mk (da := .non) (db := db) rfl (rds_app rb _) rfl rfl rfl rfl rfl⟩)
                | (refine ⟨_, gc_npre ?_, ?_⟩; exact npre0 hqn rfl; exact lst_mk (da := .ll (N.length + 5)) (db := db) ⟨_, rfl, by rw [st_get]; rfl⟩ (rds_app rb _) rfl rfl rfl rfl rfl)
        · rw [if_neg (ngt_of h1)] at hcm
          simp [c__law_come, startD, getV, cp, g_tupl, sub_ll, set_ll, L2.ixN, newL, hq', eqD_pu, h1, h2, hy] at hr
          simp [h2, hy] at hcm
          subst hr hcm
          first
            | (rw [gc_same (by simp [cp])]; exact ⟨_, rfl, lst_mk (da := .non) (db := db) rfl (rds_app rb _) rfl rfl rfl rfl rfl⟩)
            | (refine ⟨_, gc_npre ?_, ?_⟩; exact npre0 hqn rfl; exact lst_mk (da := .ll (N.length + 5)) (db := db) ⟨_, rfl, by rw [st_get]; rfl⟩ (rds_app rb _) rfl rfl rfl rfl rfl)
  · simp [LS.cl] at hw
    rw [hw] at rb
    obtain ⟨q, rfl, hq⟩ := rb
    have hq' := app_get hq
    have hqn := (List.getElem?_eq_some_iff.mp hq).1
    simp only at hq'
    generalize hr : bodyO (evSs (evb tb supx 33) supx c__law_come (startD 13 [r.d, .ll (N.length + 4), .int (cI true)]) (cp N ⟨now, ho, g1, g2, g3, used, ca, cb⟩ da (.ll q))) = z
    generalize hcm : comeL r ⟨now, ho, g1, g2, g3, used, ca, cb⟩ true ⟨.ask, wait, since, num⟩ = cm
    unfold comeL at hcm
    simp only at hcm
    cases hy : r.yes
    all_goals
      by_cases h2 : g2 ≤ now
      all_goals
        by_cases h1 : now < g1
        · rw [if_pos (gt_of h1)] at hcm
          cases ho with
          | none =>
            simp [c__law_come, startD, getV, cp, g_tupl, sub_ll, set_ll, L2.ixN, newL, hq', eqD_pu, h1, h2, hy] at hr
            simp [h2, hy] at hcm
            subst hr hcm
            first
              | (rw [gc_same (by simp [cp])]; exact ⟨_, rfl, lst_mk (da := da) (db := .non) (rds_app ra _) rfl rfl rfl rfl rfl rfl⟩)
              | (refine ⟨_, gc_npre ?_, ?_⟩; exact npre1 hqn rfl; exact lst_mk (da := da) (db := .ll (N.length + 5)) (rds_app ra _) ⟨_, rfl, by rw [st_get]; rfl⟩ rfl rfl rfl rfl rfl)
          | some k =>
            cases k
            all_goals
              simp [c__law_come, startD, getV, cp, g_tupl, sub_ll, set_ll, L2.ixN, newL, hq', eqD_pu, h1, h2, hy] at hr
              simp [h2, hy] at hcm
              subst hr hcm
              first
                | (rw [gc_same (by simp [cp])]; exact ⟨_, rfl, lst_mk (da := da) (db := .non) (rds_app ra _) rfl rfl rfl rfl rfl rfl⟩)
                | (refine ⟨_, gc_npre ?_, ?_⟩; exact npre1 hqn rfl; exact lst_mk (da := da) (db := .ll (N.length + 5)) (rds_app ra _) ⟨_, rfl, by rw [st_get]; rfl⟩ rfl rfl rfl rfl rfl)
        · rw [if_neg (ngt_of h1)] at hcm
          simp [c__law_come, startD, getV, cp, g_tupl, sub_ll, set_ll, L2.ixN, newL, hq', eqD_pu, h1, h2, hy] at hr
          simp [h2, hy] at hcm
          subst hr hcm
          first
            | (rw [gc_same (by simp [cp])]; exact ⟨_, rfl, lst_mk (da := da) (db := .non) (rds_app ra _) rfl rfl rfl rfl rfl rfl⟩)
            | (refine ⟨_, gc_npre ?_, ?_⟩; exact npre1 hqn rfl; exact lst_mk (da := da) (db := .ll (N.length + 5)) (rds_app ra _) ⟨_, rfl, by rw [st_get]; rfl⟩ rfl rfl rfl rfl rfl)
theorem r_come_renew (r : Ru) (s : LS) (c : Bool) (wait since num : Int) (N : Store) (da db : D) (hw : (s.cl c).way = some ⟨.renew, wait, since, num⟩) (ra : RdS N da s.a.way) (rb : RdS N db s.b.way) :
    ∃ Y, run 33 [r.d, .ll (N.length + 4), .int (cI c)] (cp N s da db) = .ok (.str (comeL r s c ⟨.renew, wait, since, num⟩).2.s) (N ++ Y) ∧ LSt (N ++ Y) (N.length + 4) (comeL r s c ⟨.renew, wait, since, num⟩).1 := by
  rw [run, evm_eq tb supx t__law_come]
  obtain ⟨now, ho, g1, g2, g3, used, ca, cb⟩ := s
  cases c
  · simp [LS.cl] at hw
    rw [hw] at ra
    obtain ⟨q, rfl, hq⟩ := ra
    have hq' := app_get hq
    have hqn := (List.getElem?_eq_some_iff.mp hq).1
    simp only at hq'
    generalize hr : bodyO (evSs (evb tb supx 33) supx c__law_come (startD 13 [r.d, .ll (N.length + 4), .int (cI false)]) (cp N ⟨now, ho, g1, g2, g3, used, ca, cb⟩ (.ll q) db)) = z
    generalize hcm : comeL r ⟨now, ho, g1, g2, g3, used, ca, cb⟩ false ⟨.renew, wait, since, num⟩ = cm
    unfold comeL at hcm
    simp only at hcm
    cases hy : r.yes
    all_goals
      by_cases h2 : g2 ≤ now
      all_goals
        by_cases h1 : now < g1
        · rw [if_pos (gt_of h1)] at hcm
          cases ho with
          | none =>
            simp [c__law_come, startD, getV, cp, g_tupl, sub_ll, set_ll, L2.ixN, newL, hq', eqD_pu, h1, h2, hy] at hr
            simp [h2, hy] at hcm
            subst hr hcm
            first
              | (rw [gc_same (by simp [cp])]; exact ⟨_, rfl, lst_mk (da := .non) (db := db) rfl (rds_app rb _) rfl rfl rfl rfl rfl⟩)
              | (refine ⟨_, gc_npre ?_, ?_⟩; exact npre0 hqn rfl; exact lst_mk (da := .ll (N.length + 5)) (db := db) ⟨_, rfl, by rw [st_get]; rfl⟩ (rds_app rb _) rfl rfl rfl rfl rfl)
          | some k =>
            cases k
            all_goals
              simp [c__law_come, startD, getV, cp, g_tupl, sub_ll, set_ll, L2.ixN, newL, hq', eqD_pu, h1, h2, hy] at hr
              simp [h2, hy] at hcm
              subst hr hcm
              first
                | (rw [gc_same (by simp [cp])]; exact ⟨_, rfl, lst_mk (da := .non) (db := db) rfl (rds_app rb _) rfl rfl rfl rfl rfl⟩)
                | (refine ⟨_, gc_npre ?_, ?_⟩; exact npre0 hqn rfl; exact lst_mk (da := .ll (N.length + 5)) (db := db) ⟨_, rfl, by rw [st_get]; rfl⟩ (rds_app rb _) rfl rfl rfl rfl rfl)
        · rw [if_neg (ngt_of h1)] at hcm
          simp [c__law_come, startD, getV, cp, g_tupl, sub_ll, set_ll, L2.ixN, newL, hq', eqD_pu, h1, h2, hy] at hr
          simp [h2, hy] at hcm
          subst hr hcm
          first
            | (rw [gc_same (by simp [cp])]; exact ⟨_, rfl, lst_mk (da := .non) (db := db) rfl (rds_app rb _) rfl rfl rfl rfl rfl⟩)
            | (refine ⟨_, gc_npre ?_, ?_⟩; exact npre0 hqn rfl; exact lst_mk (da := .ll (N.length + 5)) (db := db) ⟨_, rfl, by rw [st_get]; rfl⟩ (rds_app rb _) rfl rfl rfl rfl rfl)
  · simp [LS.cl] at hw
    rw [hw] at rb
    obtain ⟨q, rfl, hq⟩ := rb
    have hq' := app_get hq
    have hqn := (List.getElem?_eq_some_iff.mp hq).1
    simp only at hq'
    generalize hr : bodyO (evSs (evb tb supx 33) supx c__law_come (startD 13 [r.d, .ll (N.length + 4), .int (cI true)]) (cp N ⟨now, ho, g1, g2, g3, used, ca, cb⟩ da (.ll q))) = z
    generalize hcm : comeL r ⟨now, ho, g1, g2, g3, used, ca, cb⟩ true ⟨.renew, wait, since, num⟩ = cm
    unfold comeL at hcm
    simp only at hcm
    cases hy : r.yes
    all_goals
      by_cases h2 : g2 ≤ now
      all_goals
        by_cases h1 : now < g1
        · rw [if_pos (gt_of h1)] at hcm
          cases ho with
          | none =>
            simp [c__law_come, startD, getV, cp, g_tupl, sub_ll, set_ll, L2.ixN, newL, hq', eqD_pu, h1, h2, hy] at hr
            simp [h2, hy] at hcm
            subst hr hcm
            first
              | (rw [gc_same (by simp [cp])]; exact ⟨_, rfl, lst_mk (da := da) (db := .non) (rds_app ra _) rfl rfl rfl rfl rfl rfl⟩)
              | (refine ⟨_, gc_npre ?_, ?_⟩; exact npre1 hqn rfl; exact lst_mk (da := da) (db := .ll (N.length + 5)) (rds_app ra _) ⟨_, rfl, by rw [st_get]; rfl⟩ rfl rfl rfl rfl rfl)
          | some k =>
            cases k
            all_goals
              simp [c__law_come, startD, getV, cp, g_tupl, sub_ll, set_ll, L2.ixN, newL, hq', eqD_pu, h1, h2, hy] at hr
              simp [h2, hy] at hcm
              subst hr hcm
              first
                | (rw [gc_same (by simp [cp])]; exact ⟨_, rfl, lst_mk (da := da) (db := .non) (rds_app ra _) rfl rfl rfl rfl rfl rfl⟩)
                | (refine ⟨_, gc_npre ?_, ?_⟩; exact npre1 hqn rfl; exact lst_mk (da := da) (db := .ll (N.length + 5)) (rds_app ra _) ⟨_, rfl, by rw [st_get]; rfl⟩ rfl rfl rfl rfl rfl)
        · rw [if_neg (ngt_of h1)] at hcm
          simp [c__law_come, startD, getV, cp, g_tupl, sub_ll, set_ll, L2.ixN, newL, hq', eqD_pu, h1, h2, hy] at hr
          simp [h2, hy] at hcm
          subst hr hcm
          first
            | (rw [gc_same (by simp [cp])]; exact ⟨_, rfl, lst_mk (da := da) (db := .non) (rds_app ra _) rfl rfl rfl rfl rfl rfl⟩)
            | (refine ⟨_, gc_npre ?_, ?_⟩; exact npre1 hqn rfl; exact lst_mk (da := da) (db := .ll (N.length + 5)) (rds_app ra _) ⟨_, rfl, by rw [st_get]; rfl⟩ rfl rfl rfl rfl rfl)
end BH
end

section
set_option Elab.async false
set_option linter.all false
set_option maxRecDepth 100000
set_option maxHeartbeats 8000000
/-! The law's clock: an event. -/
namespace BH
open PySem L2

def happenL (r : Ru) (s : LS) : Ev → LS × Wd
  | .tick => ({ s with now := s.now + 1 }, .done)
  | .fall => ({ s with holder := none, h1 := s.now, h2 := s.now + r.rest }, .done)
  | .on .arrive c => match (s.cl c).way with
    | some w => comeL r s c w
    | none => (s, .done)
  | .on .use c => if r.number = true ∧ (s.cl c).num < s.used then (s, .barred) else ({ s with used := max (s.cl c).num s.used }, .used)
  | .on .lose c => (s.setc c ⟨(s.cl c).left, (s.cl c).num, none⟩, .done)
  | .on .back c => (s.setc c ⟨s.now, (s.cl c).num, some ⟨.back, s.now, s.now, 0⟩⟩, .done)
  | .on .ask c => (s.setc c ⟨(s.cl c).left, (s.cl c).num, some ⟨.ask, s.now, s.now, 0⟩⟩, .done)
  | .on .renew c => (s.setc c ⟨(s.cl c).left, (s.cl c).num, some ⟨.renew, s.now, s.now, 0⟩⟩, .done)
theorem list_ll {M : Store} {l : Nat} {ds : List D} (h : M[l]? = some (.lst ds)) : biD .list [.ll l] M = newL M ds := by
  unfold biD
  dsimp only
  rw [h]
theorem c_hp_eq : c__law_happen = c__law_happen.take 1 ++ c__law_happen.drop 1 := rfl
theorem r_come (r : Ru) (s : LS) (c : Bool) (w : Wy) (N : Store) (da db : D) (hw : (s.cl c).way = some w) (ra : RdS N da s.a.way) (rb : RdS N db s.b.way) :
    ∃ Y, run 33 [r.d, .ll (N.length + 4), .int (cI c)] (cp N s da db) = .ok (.str (comeL r s c w).2.s) (N ++ Y) ∧ LSt (N ++ Y) (N.length + 4) (comeL r s c w).1 := by
  obtain ⟨kd, wait, since, num⟩ := w
  cases kd
  · exact r_come_ask r s c wait since num N da db hw ra rb
  · exact r_come_renew r s c wait since num N da db hw ra rb
  · exact r_come_back r s c wait since num N da db hw ra rb
  · exact r_come_yes r s c wait since num N da db hw ra rb
theorem ev_sub0 (e : Ev) (M : Store) : subD e.d (.int 0) M = .ok (.str (match e with | .tick => "tick" | .fall => "fall" | .on w _ => w.s)) M := by
  cases e <;> simp [Ev.d]
theorem r_happen (r : Ru) (s : LS) (e : Ev) (l : Nat) (N : Store) (h : LSt N l s) (he : ∀ c, e = .on .arrive c → (s.cl c).way ≠ none) :
    ∃ Y, run 34 [r.d, .ll l, e.d] N = .ok (.tup [.ll (N.length + 4), .str (happenL r s e).2.s]) (N ++ Y) ∧ LSt (N ++ Y) (N.length + 4) (happenL r s e).1 := by
  obtain ⟨lh, lp, la, lb, da, db, hl, hh, hp, ha, hb, ra, rb⟩ := h.ex
  have hl' := app_get hl
  have hh' := app_get hh
  have hp' := app_get hp
  have ha' := app_get ha
  have hb' := app_get hb
  have hbq := D.beqL_refl
  have pA : evSs (evb tb supx 34) supx (c__law_happen.take 1) (startD 8 [r.d, .ll l, e.d]) N = .nx [some r.d, some (.ll l), some e.d, some (.ll (N.length + 4)), none, none, none, none] (cp N s da db) := by
    have z1 := list_ll hh
    have z2 := fun X => list_ll (ha' X)
    have z3 := fun X => list_ll (hb' X)
    simp [c__law_happen, startD, getV, sub_ll, hl, hl', z1, z2, z3, newL, itm_ll, hp', Itm.ds, lcL, chk_ll, hbq, wipeD, cp]
  rw [run, evm_eq tb supx t__law_happen, c_hp_eq, evSs_app, pA]
  simp only [seq_nxE]
  have hcp : cp N s da db = N ++ [.lst [hoD s.holder, .int s.h1, .int s.h2, .int s.h3], .lst [.int s.a.left, .int s.a.num, da], .lst [.int s.b.left, .int s.b.num, db], .lst [.ll (N.length + 1), .ll (N.length + 2)], .lst [.int s.now, .ll N.length, .int s.used, .ll (N.length + 3)]] := rfl
  have gck : ∀ (w : Str) (M' : Store), gcO N (.ok (.tup [.ll (N.length + 4), .str w]) M') = .ok (.tup [.ll (N.length + 4), .str w]) M' := fun w M' => gc_tupk (by simp [D.lo])
  generalize hr : bodyO (evSs (evb tb supx 34) supx (c__law_happen.drop 1) [some r.d, some (.ll l), some e.d, some (.ll (N.length + 4)), none, none, none, none] (cp N s da db)) = z
  cases e with
  | tick =>
    simp [c__law_happen, getV, sPar, setAll, hcp, sub_ll, set_ll, L2.ixN, Ev.d, eqD_pu] at hr
    subst hr
    rw [gck]
    exact ⟨_, rfl, lst_mk (da := da) (db := db) (rds_app ra _) (rds_app rb _) rfl rfl rfl rfl rfl⟩
  | fall =>
    simp [c__law_happen, getV, sPar, setAll, hcp, sub_ll, set_ll, L2.ixN, Ev.d, eqD_pu, newL, hl', hh'] at hr
    subst hr
    rw [gck]
    refine ⟨_, rfl, ⟨N.length + 5, N.length + 3, N.length + 1, N.length + 2, da, db, ?_, ?_, ?_, ?_, ?_, rds_app ra _, rds_app rb _⟩⟩ <;> (rw [st_get]; rfl)
  | on w c =>
    cases w with
    | arrive =>
      cases hw : (s.cl c).way with
      | none => exact absurd hw (he c rfl)
      | some w =>
        obtain ⟨Y, h1, h2⟩ := r_come r s c w N da db hw ra rb
        have hm : happenL r s (.on .arrive c) = comeL r s c w := by simp only [happenL, hw]
        rw [hm]
        have hnow : subD (.ll (N.length + 4)) (.int 0) (cp N s da db) = .ok (.int s.now) (cp N s da db) := by simp [hcp, sub_ll]
        simp [c__law_happen, getV, sPar, setAll, hnow, Ev.d, eqD_pu, h1] at hr
        subst hr
        rw [gck]
        exact ⟨Y, rfl, h2⟩
    | use =>
      cases c
      · cases hn : r.number
        · have hm : happenL r s (.on .use false) = ({ s with used := max s.a.num s.used }, .used) := by simp [happenL, LS.cl, hn]
          rw [hm]
          simp [c__law_happen, getV, sPar, setAll, hcp, sub_ll, set_ll, L2.ixN, Ev.d, eqD_pu, hn] at hr
          subst hr
          rw [gck]
          exact ⟨_, rfl, lst_mk (da := da) (db := db) (rds_app ra _) (rds_app rb _) rfl rfl rfl rfl rfl⟩
        · by_cases hlt : s.a.num < s.used
          · have hm : happenL r s (.on .use false) = (s, .barred) := by simp [happenL, LS.cl, hn, hlt]
            rw [hm]
            simp [c__law_happen, getV, sPar, setAll, hcp, sub_ll, set_ll, L2.ixN, Ev.d, eqD_pu, hn, hlt] at hr
            subst hr
            rw [gck]
            exact ⟨_, rfl, lst_mk (da := da) (db := db) (rds_app ra _) (rds_app rb _) rfl rfl rfl rfl rfl⟩
          · have hm : happenL r s (.on .use false) = ({ s with used := max s.a.num s.used }, .used) := by simp [happenL, LS.cl, hn, hlt]
            rw [hm]
            simp [c__law_happen, getV, sPar, setAll, hcp, sub_ll, set_ll, L2.ixN, Ev.d, eqD_pu, hn, hlt] at hr
            subst hr
            rw [gck]
            exact ⟨_, rfl, lst_mk (da := da) (db := db) (rds_app ra _) (rds_app rb _) rfl rfl rfl rfl rfl⟩
      · cases hn : r.number
        · have hm : happenL r s (.on .use true) = ({ s with used := max s.b.num s.used }, .used) := by simp [happenL, LS.cl, hn]
          rw [hm]
          simp [c__law_happen, getV, sPar, setAll, hcp, sub_ll, set_ll, L2.ixN, Ev.d, eqD_pu, hn] at hr
          subst hr
          rw [gck]
          exact ⟨_, rfl, lst_mk (da := da) (db := db) (rds_app ra _) (rds_app rb _) rfl rfl rfl rfl rfl⟩
        · by_cases hlt : s.b.num < s.used
          · have hm : happenL r s (.on .use true) = (s, .barred) := by simp [happenL, LS.cl, hn, hlt]
            rw [hm]
            simp [c__law_happen, getV, sPar, setAll, hcp, sub_ll, set_ll, L2.ixN, Ev.d, eqD_pu, hn, hlt] at hr
            subst hr
            rw [gck]
            exact ⟨_, rfl, lst_mk (da := da) (db := db) (rds_app ra _) (rds_app rb _) rfl rfl rfl rfl rfl⟩
          · have hm : happenL r s (.on .use true) = ({ s with used := max s.b.num s.used }, .used) := by simp [happenL, LS.cl, hn, hlt]
            rw [hm]
            simp [c__law_happen, getV, sPar, setAll, hcp, sub_ll, set_ll, L2.ixN, Ev.d, eqD_pu, hn, hlt] at hr
            subst hr
            rw [gck]
            exact ⟨_, rfl, lst_mk (da := da) (db := db) (rds_app ra _) (rds_app rb _) rfl rfl rfl rfl rfl⟩
    | lose =>
      cases c
      · simp [c__law_happen, getV, sPar, setAll, hcp, sub_ll, set_ll, L2.ixN, Ev.d, eqD_pu, newL] at hr
        subst hr
        rw [gck]
        exact ⟨_, rfl, lst_mk (da := .non) (db := db) rfl (rds_app rb _) rfl rfl rfl rfl rfl⟩
      · simp [c__law_happen, getV, sPar, setAll, hcp, sub_ll, set_ll, L2.ixN, Ev.d, eqD_pu, newL] at hr
        subst hr
        rw [gck]
        exact ⟨_, rfl, lst_mk (da := da) (db := .non) (rds_app ra _) rfl rfl rfl rfl rfl rfl⟩
    | back =>
      cases c
      · simp [c__law_happen, getV, sPar, setAll, hcp, sub_ll, set_ll, L2.ixN, Ev.d, eqD_pu, newL] at hr
        subst hr
        rw [gck]
        exact ⟨_, rfl, lst_mk (da := .ll (N.length + 5)) (db := db) ⟨_, rfl, by rw [st_get]; rfl⟩ (rds_app rb _) rfl rfl rfl rfl rfl⟩
      · simp [c__law_happen, getV, sPar, setAll, hcp, sub_ll, set_ll, L2.ixN, Ev.d, eqD_pu, newL] at hr
        subst hr
        rw [gck]
        exact ⟨_, rfl, lst_mk (da := da) (db := .ll (N.length + 5)) (rds_app ra _) ⟨_, rfl, by rw [st_get]; rfl⟩ rfl rfl rfl rfl rfl⟩
    | ask =>
      cases c
      · simp [c__law_happen, getV, sPar, setAll, hcp, sub_ll, set_ll, L2.ixN, Ev.d, eqD_pu, newL] at hr
        subst hr
        rw [gck]
        exact ⟨_, rfl, lst_mk (da := .ll (N.length + 5)) (db := db) ⟨_, rfl, by rw [st_get]; rfl⟩ (rds_app rb _) rfl rfl rfl rfl rfl⟩
      · simp [c__law_happen, getV, sPar, setAll, hcp, sub_ll, set_ll, L2.ixN, Ev.d, eqD_pu, newL] at hr
        subst hr
        rw [gck]
        exact ⟨_, rfl, lst_mk (da := da) (db := .ll (N.length + 5)) (rds_app ra _) ⟨_, rfl, by rw [st_get]; rfl⟩ rfl rfl rfl rfl rfl⟩
    | renew =>
      cases c
      · simp [c__law_happen, getV, sPar, setAll, hcp, sub_ll, set_ll, L2.ixN, Ev.d, eqD_pu, newL] at hr
        subst hr
        rw [gck]
        exact ⟨_, rfl, lst_mk (da := .ll (N.length + 5)) (db := db) ⟨_, rfl, by rw [st_get]; rfl⟩ (rds_app rb _) rfl rfl rfl rfl rfl⟩
      · simp [c__law_happen, getV, sPar, setAll, hcp, sub_ll, set_ll, L2.ixN, Ev.d, eqD_pu, newL] at hr
        subst hr
        rw [gck]
        exact ⟨_, rfl, lst_mk (da := da) (db := .ll (N.length + 5)) (rds_app ra _) ⟨_, rfl, by rw [st_get]; rfl⟩ rfl rfl rfl rfl rfl⟩
end BH
end

section
set_option Elab.async false
set_option linter.all false
set_option maxRecDepth 100000
set_option maxHeartbeats 8000000
/-! The law's clock: one step of a spot, and what may come next. -/
namespace BH
open PySem L2

/-- one step by the law's clock -/
def nextL (r : Ru) (s : Sd) (e : Ev) : Sd × Wd := (standL r (happenL r (known s) e).1, (happenL r (known s) e).2)
theorem known_way {s : Sd} {c : Bool} : ((known s).cl c).way = none ↔ (s.cl c).way = none := by
  cases c <;> simp [known, knownC, LS.cl, Sd.cl]
theorem r_next (r : Ru) (s : Sd) (e : Ev) (M : Store) (he : ∀ c, e = .on .arrive c → (s.cl c).way ≠ none) :
    run 35 [r.d, s.d, e.d] M = .ok (.tup [(nextL r s e).1.d, .str (nextL r s e).2.s]) M := by
  rw [run, evm_eq tb supx t__law_next]
  obtain ⟨X, k, h1, h2⟩ := r_known M s
  obtain ⟨Y, h3, h4⟩ := r_happen r (known s) e _ _ h2 (fun c z w => he c z (known_way.mp w))
  have h5 := r_standing r _ _ _ h4
  rw [List.append_assoc] at h3 h5
  rw [List.length_append] at h3 h5
  generalize hr : bodyO (evSs (evb tb supx 35) supx c__law_next (startD 5 [r.d, s.d, e.d]) M) = z
  simp [c__law_next, startD, getV, h1, h3, h5] at hr
  subst hr
  rw [gc_pure (by simp [D.lo, D.loL])]
  rfl
end BH
end

section
set_option Elab.async false
set_option linter.all false
set_option maxRecDepth 100000
set_option maxHeartbeats 8000000
/-! The plain law: the law's clock steps as the program does. -/
namespace BH

theorem rk_zero {L : List Int} (h : (0 : Int) ∈ L) (hp : ∀ x ∈ L, 0 ≤ x) : rk L 0 = 0 := by
  unfold rk
  have h2 := (setI_mem 0 L).mpr h
  have h3 := setI_asc L
  have h4 : ∀ x ∈ setI L, 0 ≤ x := fun x hx => hp x ((setI_mem x L).mp hx)
  cases hs : setI L with
  | nil => rw [hs] at h2; simp at h2
  | cons a xs =>
    rw [hs] at h2 h3 h4
    have : a = 0 := by
      rcases List.mem_cons.mp h2 with z | z
      · exact z.symm
      · have := (List.pairwise_cons.mp h3).1 0 z
        have := h4 a (by simp)
        omega
    subst this
    simp [List.findIdx_cons]
def clU (r : Ru) (now : Int) (c : Cl) : Cl :=
  let w := c.way.map fun w => (⟨w.kd, now - w.wait, if w.kd = .back then 0 else min r.use (now - w.since), w.num⟩ : Wy)
  if c.left > now then ⟨c.left - now, c.num, w⟩ else ⟨0, 0, w⟩
def standU (r : Ru) (s : LS) : Sd :=
  ⟨if s.h1 > s.now then s.holder else none, if s.holder ≠ none ∧ s.h1 > s.now then s.h1 - s.now else 0, if s.holder ≠ none ∧ s.h1 > s.now then 0 else max 0 (s.h2 - s.now), s.h3, s.used, clU r s.now s.a, clU r s.now s.b⟩
theorem wn_clU (r : Ru) (now : Int) (c : Cl) : wn (clU r now c) = wn c := by
  obtain ⟨left, num, way⟩ := c
  unfold clU
  by_cases h : left > now
  · cases way <;> simp [h, wn]
  · cases way <;> simp [h, wn]
theorem num_clU (r : Ru) (now : Int) (c : Cl) : (clU r now c).num = if c.left > now then c.num else 0 := by
  unfold clU
  dsimp only
  split <;> rfl
theorem keysU_mem (r : Ru) (s : LS) (j : Int) : j ∈ keysL s ↔ j ∈ numbersOf (standU r s) ++ [0] := by
  unfold keysL numL numbersOf
  simp only [standU, wn_clU, num_clU, List.mem_append, List.mem_cons, List.not_mem_nil, or_false]
  grind
theorem clL_U (r : Ru) (now : Int) (L : List Int) (c : Cl) (h : rk L 0 = 0) : clL r now L c = rkC L (clU r now c) := by
  obtain ⟨left, num, way⟩ := c
  unfold clL clU rkC
  dsimp only
  cases way <;> (dsimp only [Option.map]; split <;> simp [h])
theorem standL_eq (r : Ru) (s : LS) (hp : ∀ x ∈ keysL s, 0 ≤ x) : standL r s = rankedP (standU r s) := by
  have h0 : rk (keysL s) 0 = 0 := rk_zero (by simp [keysL]) hp
  have hc : ∀ x, rk (keysL s) x = rk (numbersOf (standU r s) ++ [0]) x := rk_congr (keysU_mem r s)
  unfold standL rankedP
  rw [clL_U r _ _ _ h0, clL_U r _ _ _ h0]
  unfold rkC
  simp only [hc]
  rfl

/-! ### the spots that a run stands at -/
structure CV (r : Ru) (c : Cl) : Prop where
  left : 0 ≤ c.left
  num : 0 ≤ c.num
  zero : c.left = 0 → c.num = 0
  way : ∀ w, c.way = some w → 0 ≤ w.since ∧ w.since ≤ r.use ∧ (w.kd = .back → w.since = 0) ∧ 0 ≤ w.num
structure VS (r : Ru) (s : Sd) : Prop where
  kept : 0 ≤ s.kept
  rest : 0 ≤ s.rest
  ho : s.holder = none → s.kept = 0
  hs : s.holder ≠ none → 0 < s.kept ∧ s.rest = 0
  last : 0 ≤ s.last
  used : 0 ≤ s.used
  a : CV r s.a
  b : CV r s.b
theorem clU_known (r : Ru) (c : Cl) (h : CV r c) : clU r 50 (knownC c) = c := by
  obtain ⟨left, num, way⟩ := c
  obtain ⟨h1, h2, h3, h4⟩ := h
  simp only at h1 h2 h3 h4
  unfold clU knownC
  cases way with
  | none =>
    by_cases h : left > 0
    · have : 50 + left > 50 := by omega
      simp [this]
      omega
    · have : left = 0 := by omega
      subst this
      simp [h3 rfl]
  | some w =>
    obtain ⟨a1, a2, a3, a4⟩ := h4 w rfl
    have e1 : (50 : Int) - (50 - w.wait) = w.wait := by omega
    have e2 : (if w.kd = .back then (0 : Int) else min r.use (50 - (50 - w.since))) = w.since := by
      split
      · rename_i z; exact (a3 z).symm
      · omega
    simp only [Option.map, e1, e2]
    by_cases h : left > 0
    · have : 50 + left > 50 := by omega
      rw [if_pos this]
      have : 50 + left - 50 = left := by omega
      rw [this]
    · have : left = 0 := by omega
      subst this
      simp [h3 rfl]
theorem clU_tick (r : Ru) (c : Cl) (h : CV r c) (hu : 1 ≤ r.use) : clU r 51 (knownC c) = laterP r c := by
  obtain ⟨left, num, way⟩ := c
  obtain ⟨h1, h2, h3, h4⟩ := h
  simp only at h1 h2 h3 h4
  have hw : (way.map fun w => (⟨w.kd, 50 - w.wait, 50 - w.since, w.num⟩ : Wy)).map (fun w => (⟨w.kd, 51 - w.wait, if w.kd = .back then 0 else min r.use (51 - w.since), w.num⟩ : Wy)) = way.map (laterW r) := by
    cases way with
    | none => rfl
    | some w =>
      simp only [Option.map, laterW]
      have e1 : (51 : Int) - (50 - w.wait) = w.wait + 1 := by omega
      have e2 : (51 : Int) - (50 - w.since) = w.since + 1 := by omega
      rw [e1, e2]
  unfold clU knownC laterP
  dsimp only
  rw [hw]
  by_cases h : left > 1
  · have : 50 + left > 51 := by omega
    rw [if_pos this, if_pos h]
    have : 50 + left - 51 = left - 1 := by omega
    rw [this]
  · have : ¬ 50 + left > 51 := by omega
    rw [if_neg this, if_neg h]
end BH
end

section
set_option Elab.async false
set_option linter.all false
set_option maxRecDepth 100000
set_option maxHeartbeats 8000000
/-! The plain law: each event. -/
namespace BH

def HoOk (s : Sd) (h : Option Bool) (h1 h2 : Int) : Prop :=
  (if h1 > 50 then h else none) = s.holder ∧ (if h ≠ none ∧ h1 > 50 then h1 - 50 else 0) = s.kept ∧ (if h ≠ none ∧ h1 > 50 then 0 else max 0 (h2 - 50)) = s.rest
theorem ho_known {r : Ru} {s : Sd} (v : VS r s) : HoOk s s.holder (50 + s.kept) (50 + s.rest) := by
  have h1 := v.ho
  have h2 := v.hs
  have h3 := v.rest
  have h4 := v.kept
  unfold HoOk
  cases hh : s.holder with
  | none =>
    have := h1 hh
    refine ⟨by simp, by simp; omega, by simp; omega⟩
  | some c =>
    have := h2 (by simp [hh])
    have g : 50 + s.kept > 50 := by omega
    refine ⟨by simp [g], by simp; omega, by simp; omega⟩
theorem standU_mk {r : Ru} {l : LS} {s : Sd} (hn : l.now = 50) (hh : HoOk s l.holder l.h1 l.h2) (h3 : l.h3 = s.last) (hu : l.used = s.used) (ha : clU r 50 l.a = s.a) (hb : clU r 50 l.b = s.b) : standU r l = s := by
  obtain ⟨e1, e2, e3⟩ := hh
  unfold standU
  rw [hn, e1, e2, e3, h3, hu, ha, hb]
theorem clU_num (r : Ru) (c : Cl) (h : CV r c) (hu : 1 ≤ r.use) (k : Option Wy) (k' : Option Wy)
    (hk : k'.map (fun w => (⟨w.kd, 50 - w.wait, if w.kd = .back then 0 else min r.use (50 - w.since), w.num⟩ : Wy)) = k) : clU r 50 ⟨50 + c.left, c.num, k'⟩ = ⟨c.left, c.num, k⟩ := by
  obtain ⟨left, num, way⟩ := c
  obtain ⟨h1, h2, h3, h4⟩ := h
  simp only at h1 h2 h3 h4
  unfold clU
  dsimp only
  rw [hk]
  by_cases h : left > 0
  · rw [if_pos (by omega)]
    congr 1
    omega
  · have : left = 0 := by omega
    subst this
    simp [h3 rfl]
/-- the law's clock and the program answer alike, numbers not ranked -/
def Same (r : Ru) (x : LS × Wd) (y : Sd × Wd) : Prop := standU r x.1 = y.1 ∧ x.2 = y.2
theorem same_tick (r : Ru) (s : Sd) (v : VS r s) (hu : 1 ≤ r.use) : Same r (happenL r (known s) .tick) (happenedP r s .tick) := by
  refine ⟨?_, rfl⟩
  show standU r { known s with now := 50 + 1 } = tickedP r s
  have ha := clU_tick r s.a v.a hu
  have hb := clU_tick r s.b v.b hu
  have h1 := v.ho
  have h2 := v.hs
  have h3 := v.rest
  have h4 := v.kept
  have e : (50 : Int) + 1 = 51 := rfl
  unfold standU tickedP known
  simp only [e, ha, hb]
  by_cases hk : s.kept > 1
  · rw [if_pos hk]
    have g : 50 + s.kept > 51 := by omega
    have hh : s.holder ≠ none := fun z => by have := h1 z; omega
    simp only [g, hh, if_true, not_false_eq_true, and_self, ne_eq]
    congr 1
    omega
  · rw [if_neg hk]
    have g : ¬ 50 + s.kept > 51 := by omega
    simp only [g, if_false, and_false]
    congr 1
    omega
theorem same_fall (r : Ru) (s : Sd) (v : VS r s) (hr : 0 ≤ r.rest) : Same r (happenL r (known s) .fall) (happenedP r s .fall) := by
  refine ⟨?_, rfl⟩
  apply standU_mk rfl ?_ rfl rfl (clU_known r _ v.a) (clU_known r _ v.b)
  refine ⟨by simp [happenL, happenedP], by simp [happenL, happenedP], ?_⟩
  simp [happenL, known, happenedP]
  omega
theorem same_use (r : Ru) (s : Sd) (v : VS r s) (c : Bool) : Same r (happenL r (known s) (.on .use c)) (happenedP r s (.on .use c)) := by
  have k1 : happenL r (known s) (.on .use c) = if r.number = true ∧ (s.cl c).num < s.used then (known s, .barred) else ({ known s with used := max (s.cl c).num s.used }, .used) := by cases c <;> rfl
  have k2 : happenedP r s (.on .use c) = if r.number = true ∧ (s.cl c).num < s.used then (s, .barred) else ({ s with used := max (s.cl c).num s.used }, .used) := rfl
  rw [k1, k2]
  by_cases h : r.number = true ∧ (s.cl c).num < s.used
  · rw [if_pos h, if_pos h]
    exact ⟨standU_mk rfl (show HoOk s s.holder (50 + s.kept) (50 + s.rest) from ho_known v) rfl rfl (clU_known r _ v.a) (clU_known r _ v.b), rfl⟩
  · rw [if_neg h, if_neg h]
    exact ⟨standU_mk rfl (show HoOk s s.holder (50 + s.kept) (50 + s.rest) from ho_known v) rfl rfl (clU_known r _ v.a) (clU_known r _ v.b), rfl⟩
theorem same_lose (r : Ru) (s : Sd) (v : VS r s) (hu : 1 ≤ r.use) (c : Bool) : Same r (happenL r (known s) (.on .lose c)) (happenedP r s (.on .lose c)) := by
  refine ⟨?_, rfl⟩
  cases c
  · exact standU_mk rfl (show HoOk s s.holder (50 + s.kept) (50 + s.rest) from ho_known v) rfl rfl (clU_num r _ v.a hu none none rfl) (clU_known r _ v.b)
  · exact standU_mk rfl (show HoOk s s.holder (50 + s.kept) (50 + s.rest) from ho_known v) rfl rfl (clU_known r _ v.a) (clU_num r _ v.b hu none none rfl)
theorem same_ask (r : Ru) (s : Sd) (v : VS r s) (hu : 1 ≤ r.use) (c : Bool) : Same r (happenL r (known s) (.on .ask c)) (happenedP r s (.on .ask c)) := by
  have m : (some (⟨.ask, 50, 50, 0⟩ : Wy)).map (fun w => (⟨w.kd, 50 - w.wait, if w.kd = .back then 0 else min r.use (50 - w.since), w.num⟩ : Wy)) = some ⟨.ask, 0, 0, 0⟩ := by
    simp; omega
  refine ⟨?_, rfl⟩
  cases c
  · exact standU_mk rfl (show HoOk s s.holder (50 + s.kept) (50 + s.rest) from ho_known v) rfl rfl (clU_num r _ v.a hu _ _ m) (clU_known r _ v.b)
  · exact standU_mk rfl (show HoOk s s.holder (50 + s.kept) (50 + s.rest) from ho_known v) rfl rfl (clU_known r _ v.a) (clU_num r _ v.b hu _ _ m)
theorem same_renew (r : Ru) (s : Sd) (v : VS r s) (hu : 1 ≤ r.use) (c : Bool) : Same r (happenL r (known s) (.on .renew c)) (happenedP r s (.on .renew c)) := by
  have m : (some (⟨.renew, 50, 50, 0⟩ : Wy)).map (fun w => (⟨w.kd, 50 - w.wait, if w.kd = .back then 0 else min r.use (50 - w.since), w.num⟩ : Wy)) = some ⟨.renew, 0, 0, 0⟩ := by
    simp; omega
  refine ⟨?_, rfl⟩
  cases c
  · exact standU_mk rfl (show HoOk s s.holder (50 + s.kept) (50 + s.rest) from ho_known v) rfl rfl (clU_num r _ v.a hu _ _ m) (clU_known r _ v.b)
  · exact standU_mk rfl (show HoOk s s.holder (50 + s.kept) (50 + s.rest) from ho_known v) rfl rfl (clU_known r _ v.a) (clU_num r _ v.b hu _ _ m)
theorem same_back (r : Ru) (s : Sd) (v : VS r s) (hu : 1 ≤ r.use) (c : Bool) : Same r (happenL r (known s) (.on .back c)) (happenedP r s (.on .back c)) := by
  have m : ∀ n : Int, clU r 50 ⟨50, n, some ⟨.back, 50, 50, 0⟩⟩ = ⟨0, 0, some ⟨.back, 0, 0, 0⟩⟩ := by
    intro n; simp [clU]
  refine ⟨?_, rfl⟩
  cases c
  · exact standU_mk rfl (show HoOk s s.holder (50 + s.kept) (50 + s.rest) from ho_known v) rfl rfl (m _) (clU_known r _ v.b)
  · exact standU_mk rfl (show HoOk s s.holder (50 + s.kept) (50 + s.rest) from ho_known v) rfl rfl (clU_known r _ v.a) (m _)
end BH
end

section
set_option Elab.async false
set_option linter.all false
set_option maxRecDepth 100000
set_option maxHeartbeats 8000000
/-! The plain law: a message arrives. -/
namespace BH

theorem known_ho {r : Ru} {s : Sd} (v : VS r s) : (if (known s).h1 > (known s).now then (known s).holder else none) = s.holder := (ho_known v).1
theorem cl_setc (l : LS) (c : Bool) (v : Cl) (s : Sd) (u : Cl) (r : Ru) (h : clU r 50 v = u) (ha : clU r 50 l.a = s.a) (hb : clU r 50 l.b = s.b) : clU r 50 (l.setc c v).a = (s.setc c u).a ∧ clU r 50 (l.setc c v).b = (s.setc c u).b := by
  cases c
  · exact ⟨h, hb⟩
  · exact ⟨ha, h⟩
theorem standU_set {r : Ru} {l : LS} {s : Sd} (c : Bool) (v u : Cl) (hn : l.now = 50) (hh : HoOk s l.holder l.h1 l.h2) (h3 : l.h3 = s.last) (hu : l.used = s.used) (ha : clU r 50 l.a = s.a) (hb : clU r 50 l.b = s.b) (h : clU r 50 v = u) : standU r (l.setc c v) = s.setc c u := by
  obtain ⟨e1, e2⟩ := cl_setc l c v s u r h ha hb
  cases c
  · exact standU_mk hn hh h3 hu e1 e2
  · exact standU_mk hn hh h3 hu e1 e2
theorem known_cl (s : Sd) (c : Bool) : (known s).cl c = knownC (s.cl c) := by cases c <;> rfl
theorem clU_held (r : Ru) (x y num : Int) (hx : x = 50 + y) (hy : 0 < y) : clU r 50 ⟨x, num, none⟩ = ⟨y, num, none⟩ := by
  subst hx
  unfold clU
  dsimp only
  rw [if_pos (by omega)]
  congr 1
  omega
/-- the law's answer to an ask or a renewal -/
def askL (r : Ru) (s : LS) (c : Bool) (w : Wy) : LS × Wd :=
  let ho := if s.h1 > s.now then s.holder else none
  if ho ≠ some c ∧ ¬ (ho = none ∧ s.h2 ≤ s.now ∧ (w.kd = .ask ∨ r.yes = true)) then (s.setc c ⟨(s.cl c).left, (s.cl c).num, none⟩, .refused)
    else (({ s with holder := some c, h1 := s.now + r.keep, h2 := s.now, h3 := s.h3 + (if ho = none ∧ s.h2 ≤ s.now ∧ (w.kd = .ask ∨ r.yes = true) then 1 else 0) } : LS).setc c
      ⟨(s.cl c).left, (s.cl c).num, some ⟨.yes, s.now, w.since, s.h3 + (if ho = none ∧ s.h2 ≤ s.now ∧ (w.kd = .ask ∨ r.yes = true) then 1 else 0)⟩⟩, .granted)
theorem same_asked (r : Ru) (s : Sd) (v : VS r s) (k1 : 1 ≤ r.keep) (u1 : 1 ≤ r.use) (c : Bool) (kd : Kd) (wait since num : Int) (hw : (s.cl c).way = some ⟨kd, wait, since, num⟩) (w1 : 0 ≤ since) (w2 : since ≤ r.use) (hk : kd = .ask ∨ kd = .renew) :
    Same r (comeL r (known s) c ⟨kd, 50 - wait, 50 - since, num⟩) (arrivedP r s c ⟨kd, wait, since, num⟩) := by
  have hv : CV r (s.cl c) := by cases c; exact v.a; exact v.b
  have ka := clU_known r _ v.a
  have kb := clU_known r _ v.b
  have hno := clU_num r _ hv u1 none none rfl
  have hcl := known_cl s c
  have hH : HoOk s s.holder (50 + s.kept) (50 + s.rest) := ho_known v
  have e1 : comeL r (known s) c ⟨kd, 50 - wait, 50 - since, num⟩ = askL r (known s) c ⟨kd, 50 - wait, 50 - since, num⟩ := by rcases hk with rfl | rfl <;> rfl
  have e2 : arrivedP r s c ⟨kd, wait, since, num⟩ = askedFor r s c ⟨kd, wait, since, num⟩ := by rcases hk with rfl | rfl <;> rfl
  rw [e1, e2]
  unfold askL askedFor
  dsimp only
  rw [known_ho v, hcl]
  have hs0 := v.rest
  have hyes : ∀ n : Int, clU r 50 ⟨(knownC (s.cl c)).left, (knownC (s.cl c)).num, some ⟨.yes, 50, 50 - since, n⟩⟩ = ⟨(s.cl c).left, (s.cl c).num, some ⟨.yes, 0, since, n⟩⟩ := fun n =>
    clU_num r _ hv u1 (some ⟨.yes, 0, since, n⟩) (some ⟨.yes, 50, 50 - since, n⟩) (by simp; omega)
  have hHo : ∀ s' : Sd, s'.holder = some c → s'.kept = r.keep → s'.rest = 0 → HoOk s' (some c) (50 + r.keep) 50 := by
    intro s' h1 h2 h3
    have g : 50 + r.keep > 50 := by omega
    refine ⟨?_, ?_, ?_⟩
    · rw [if_pos g, h1]
    · rw [if_pos ⟨by simp, g⟩, h2]; omega
    · rw [if_pos ⟨by simp, g⟩, h3]
  have ef : (s.holder = none ∧ (known s).h2 ≤ (known s).now ∧ (kd = .ask ∨ r.yes = true)) ↔ (s.holder = none ∧ s.rest = 0 ∧ (kd = .ask ∨ r.yes = true)) := by
    have : (known s).h2 ≤ (known s).now ↔ s.rest = 0 := by simp only [known]; omega
    rw [this]
  by_cases hf : s.holder = none ∧ s.rest = 0 ∧ (kd = .ask ∨ r.yes = true)
  · rw [if_pos hf, if_neg (fun z => z.2 (ef.mpr hf)), if_pos (ef.mpr hf)]
    exact ⟨standU_set c _ _ rfl (hHo _ rfl rfl rfl) rfl rfl ka kb (hyes _), rfl⟩
  · rw [if_neg hf, if_neg (c := s.holder = none ∧ (known s).h2 ≤ (known s).now ∧ (kd = .ask ∨ r.yes = true)) (fun z => hf (ef.mp z))]
    by_cases hh : s.holder = some c
    · rw [if_pos hh, if_neg (fun z => z.1 hh)]
      have e0 : (known s).h3 + 0 = s.last := by simp only [known]; omega
      rw [e0]
      exact ⟨standU_set c _ _ rfl (hHo _ rfl rfl rfl) rfl rfl ka kb (hyes _), rfl⟩
    · rw [if_neg hh, if_pos ⟨hh, fun z => hf (ef.mp z)⟩]
      exact ⟨standU_set c _ _ rfl hH rfl rfl ka kb hno, rfl⟩
theorem same_arrive (r : Ru) (s : Sd) (v : VS r s) (hr : r.ok = true) (c : Bool) (w : Wy) (hw : (s.cl c).way = some w) : Same r (comeL r (known s) c ⟨w.kd, 50 - w.wait, 50 - w.since, w.num⟩) (arrivedP r s c w) := by
  unfold Ru.ok at hr
  simp at hr
  obtain ⟨⟨⟨k1, k2⟩, u1, u2⟩, t1, t2⟩ := hr
  have hv : CV r (s.cl c) := by cases c; exact v.a; exact v.b
  obtain ⟨w1, w2, w3, w4⟩ := hv.way w hw
  have ka := clU_known r _ v.a
  have kb := clU_known r _ v.b
  have hno := clU_num r _ hv u1 none none rfl
  have hcl := known_cl s c
  have hH : HoOk s s.holder (50 + s.kept) (50 + s.rest) := ho_known v
  obtain ⟨kd, wait, since, num⟩ := w
  simp only at w1 w2 w3 w4
  cases kd with
  | back =>
    unfold comeL arrivedP
    rw [known_ho v, hcl]
    dsimp only
    by_cases h : s.holder = some c
    · rw [if_pos h, if_pos h]
      have z := (v.hs (by rw [h]; simp)).2
      refine ⟨standU_set c _ _ rfl ?_ rfl rfl ka kb hno, rfl⟩
      exact ⟨by simp [known], by simp [known], by simp [known, z]⟩
    · rw [if_neg h, if_neg h]
      exact ⟨standU_set c _ _ rfl hH rfl rfl ka kb hno, rfl⟩
  | yes =>
    unfold comeL arrivedP
    rw [known_ho v, hcl]
    dsimp only
    have e : ((if r.asked = true then 50 - since else (known s).now) + r.use ≤ max (knownC (s.cl c)).left (known s).now) ↔ ((if r.asked = true then r.use - since else r.use) ≤ (s.cl c).left) := by
      have := hv.left
      simp only [known, knownC]
      split <;> omega
    by_cases h : (if r.asked = true then r.use - since else r.use) ≤ (s.cl c).left
    · rw [if_pos h, if_pos (e.mpr h)]
      exact ⟨standU_set c _ _ rfl hH rfl rfl ka kb hno, rfl⟩
    · rw [if_neg h, if_neg (fun z => h (e.mp z))]
      refine ⟨standU_set c _ _ rfl hH rfl rfl ka kb ?_, rfl⟩
      have := hv.left
      exact clU_held r _ _ num (by simp only [known]; split <;> omega) (by omega)
  | ask => exact same_asked r s v k1 u1 c .ask wait since num hw w1 w2 (by decide)
  | renew => exact same_asked r s v k1 u1 c .renew wait since num hw w1 w2 (by decide)
end BH
end

section
set_option Elab.async false
set_option linter.all false
set_option maxRecDepth 100000
set_option maxHeartbeats 8000000
/-! The plain law: what holds stays, and the two steps are one. -/
namespace BH

theorem happen_arrive (r : Ru) (s : Sd) (c : Bool) (w : Wy) (hw : (s.cl c).way = some w) : happenL r (known s) (.on .arrive c) = comeL r (known s) c ⟨w.kd, 50 - w.wait, 50 - w.since, w.num⟩ := by
  have : ((known s).cl c).way = some ⟨w.kd, 50 - w.wait, 50 - w.since, w.num⟩ := by
    rw [known_cl]
    simp [knownC, hw]
  unfold happenL
  simp only [this]
theorem same_all (r : Ru) (s : Sd) (e : Ev) (v : VS r s) (hr : r.ok = true) (he : ∀ c, e = .on .arrive c → (s.cl c).way ≠ none) : Same r (happenL r (known s) e) (happenedP r s e) := by
  have hr' := hr
  unfold Ru.ok at hr'
  simp at hr'
  obtain ⟨⟨⟨k1, k2⟩, u1, u2⟩, t1, t2⟩ := hr'
  cases e with
  | tick => exact same_tick r s v u1
  | fall => exact same_fall r s v t1
  | on w c =>
    cases w with
    | arrive =>
      cases hw : (s.cl c).way with
      | none => exact absurd hw (he c rfl)
      | some w =>
        have h1 : happenedP r s (.on .arrive c) = arrivedP r s c w := by
          unfold happenedP
          simp only [hw]
        rw [happen_arrive r s c w hw, h1]
        exact same_arrive r s v hr c w hw
    | use => exact same_use r s v c
    | lose => exact same_lose r s v u1 c
    | back => exact same_back r s v u1 c
    | ask => exact same_ask r s v u1 c
    | renew => exact same_renew r s v u1 c
theorem vs_nonneg {r : Ru} {s : Sd} (v : VS r s) : ∀ x ∈ numbersOf s ++ [0], 0 ≤ x := by
  have hw : ∀ c : Cl, CV r c → ∀ x ∈ wn c, 0 ≤ x := by
    intro c h x hx
    unfold wn at hx
    cases hc : c.way with
    | none => rw [hc] at hx; simp at hx
    | some w => rw [hc] at hx; simp at hx; rw [hx]; exact (h.way w hc).2.2.2
  intro x hx
  unfold numbersOf at hx
  simp only [List.mem_append, List.mem_cons, List.not_mem_nil, or_false] at hx
  rcases hx with (((h | h | h | h) | h) | h) | h
  · rw [h]; exact v.last
  · rw [h]; exact v.used
  · rw [h]; exact v.a.num
  · rw [h]; exact v.b.num
  · exact hw _ v.a x h
  · exact hw _ v.b x h
  · omega
theorem rk_nn (L : List Int) (x : Int) : 0 ≤ rk L x := by unfold rk; omega
theorem cv_rk {r : Ru} {c : Cl} {L : List Int} (h : CV r c) (h0 : rk L 0 = 0) : CV r (rkC L c) := by
  refine ⟨h.left, rk_nn _ _, fun z => ?_, ?_⟩
  · show rk L c.num = 0
    rw [h.zero z, h0]
  · intro w hw
    unfold rkC at hw
    dsimp only at hw
    cases hc : c.way with
    | none => rw [hc] at hw; simp at hw
    | some u =>
      rw [hc] at hw
      simp only [Option.map, Option.some.injEq] at hw
      subst hw
      obtain ⟨a1, a2, a3, a4⟩ := h.way u hc
      exact ⟨a1, a2, a3, rk_nn _ _⟩
theorem vs_ranked {r : Ru} {s : Sd} (v : VS r s) : VS r (rankedP s) := by
  have h0 : rk (numbersOf s ++ [0]) 0 = 0 := rk_zero (by simp) (vs_nonneg v)
  exact ⟨v.kept, v.rest, v.ho, v.hs, rk_nn _ _, rk_nn _ _, cv_rk v.a h0, cv_rk v.b h0⟩
theorem vs_setc {r : Ru} {s : Sd} (v : VS r s) (c : Bool) {u : Cl} (h : CV r u) : VS r (s.setc c u) := by
  cases c
  · exact ⟨v.kept, v.rest, v.ho, v.hs, v.last, v.used, h, v.b⟩
  · exact ⟨v.kept, v.rest, v.ho, v.hs, v.last, v.used, v.a, h⟩
theorem vs_cl {r : Ru} {s : Sd} (v : VS r s) (c : Bool) : CV r (s.cl c) := by cases c; exact v.a; exact v.b
theorem cv_way {r : Ru} {c : Cl} (h : CV r c) (w : Option Wy) (hw : ∀ u, w = some u → 0 ≤ u.since ∧ u.since ≤ r.use ∧ (u.kd = .back → u.since = 0) ∧ 0 ≤ u.num) : CV r ⟨c.left, c.num, w⟩ := ⟨h.left, h.num, h.zero, hw⟩
theorem cv_none {r : Ru} {c : Cl} (h : CV r c) : CV r ⟨c.left, c.num, none⟩ := cv_way h none (by simp)
theorem cv_later {r : Ru} {c : Cl} (h : CV r c) (u1 : 1 ≤ r.use) : CV r (laterP r c) := by
  have hw : ∀ u, c.way.map (laterW r) = some u → 0 ≤ u.since ∧ u.since ≤ r.use ∧ (u.kd = .back → u.since = 0) ∧ 0 ≤ u.num := by
    intro u hu
    cases hc : c.way with
    | none => rw [hc] at hu; simp at hu
    | some w =>
      rw [hc] at hu
      simp only [Option.map, Option.some.injEq] at hu
      subst hu
      obtain ⟨a1, a2, a3, a4⟩ := h.way w hc
      refine ⟨?_, ?_, ?_, a4⟩
      · simp only [laterW]; split <;> omega
      · simp only [laterW]; split <;> omega
      · intro z
        simp only [laterW] at z ⊢
        rw [if_pos z]
  unfold laterP
  split
  · exact ⟨by show 0 ≤ c.left - 1; omega, h.num, fun z => by have : c.left - 1 = 0 := z; omega, hw⟩
  · exact ⟨by show (0:Int) ≤ 0; omega, by show (0:Int) ≤ 0; omega, fun _ => rfl, hw⟩
theorem vs_tick {r : Ru} {s : Sd} (v : VS r s) (u1 : 1 ≤ r.use) : VS r (tickedP r s) := by
  have h1 := v.ho
  have h2 := v.hs
  unfold tickedP
  split
  · rename_i g
    exact ⟨by show 0 ≤ s.kept - 1; omega, by show (0:Int) ≤ 0; omega, fun z => by have := h1 z; omega, fun _ => ⟨by show 0 < s.kept - 1; omega, rfl⟩, v.last, v.used, cv_later v.a u1, cv_later v.b u1⟩
  · exact ⟨by show (0:Int) ≤ 0; omega, by show 0 ≤ max 0 (s.rest - 1); omega, fun _ => rfl, fun z => absurd rfl z, v.last, v.used, cv_later v.a u1, cv_later v.b u1⟩
theorem vs_asked {r : Ru} {s : Sd} (v : VS r s) (k1 : 1 ≤ r.keep) (c : Bool) (w : Wy) (hw : (s.cl c).way = some w) : VS r (askedFor r s c w).1 := by
  have hc := vs_cl v c
  obtain ⟨a1, a2, a3, a4⟩ := hc.way w hw
  have hl := v.last
  unfold askedFor
  split
  · have b : VS r ({ s with holder := some c, kept := r.keep, rest := 0, last := s.last + 1 } : Sd) :=
      ⟨by show 0 ≤ r.keep; omega, by show (0:Int) ≤ 0; omega, (fun z => by cases z), fun _ => ⟨by show 0 < r.keep; omega, rfl⟩, by show 0 ≤ s.last + 1; omega, v.used, v.a, v.b⟩
    exact vs_setc b c (cv_way hc _ (fun u z => by injection z with z; subst z; exact ⟨a1, a2, (fun q => by cases q), by show 0 ≤ s.last + 1; omega⟩))
  · split
    · have b : VS r ({ s with holder := some c, kept := r.keep, rest := 0 } : Sd) :=
        ⟨by show 0 ≤ r.keep; omega, by show (0:Int) ≤ 0; omega, (fun z => by cases z), fun _ => ⟨by show 0 < r.keep; omega, rfl⟩, v.last, v.used, v.a, v.b⟩
      exact vs_setc b c (cv_way hc _ (fun u z => by injection z with z; subst z; exact ⟨a1, a2, (fun q => by cases q), hl⟩))
    · exact vs_setc v c (cv_none hc)
theorem vs_arrived {r : Ru} {s : Sd} (v : VS r s) (k1 : 1 ≤ r.keep) (u1 : 1 ≤ r.use) (c : Bool) (w : Wy) (hw : (s.cl c).way = some w) : VS r (arrivedP r s c w).1 := by
  have hc := vs_cl v c
  obtain ⟨a1, a2, a3, a4⟩ := hc.way w hw
  unfold arrivedP
  split
  · exact vs_asked v k1 c w hw
  · exact vs_asked v k1 c w hw
  · split
    · rename_i h
      have b : VS r ({ s with holder := none, kept := 0 } : Sd) :=
        ⟨by show (0:Int) ≤ 0; omega, v.rest, fun _ => rfl, fun z => absurd rfl z, v.last, v.used, v.a, v.b⟩
      exact vs_setc b c (cv_none hc)
    · exact vs_setc v c (cv_none hc)
  · by_cases g : (if r.asked = true then r.use - w.since else r.use) ≤ (s.cl c).left
    · rw [if_pos g]
      exact vs_setc v c (cv_none hc)
    · rw [if_neg g]
      have hl := hc.left
      generalize (if r.asked = true then r.use - w.since else r.use) = q at g
      exact vs_setc v c ⟨by show 0 ≤ q; omega, a4, fun z => by have z : q = 0 := z; omega, fun u z => nomatch z⟩
theorem vs_happened {r : Ru} {s : Sd} (v : VS r s) (hr : r.ok = true) (e : Ev) : VS r (happenedP r s e).1 := by
  unfold Ru.ok at hr
  simp at hr
  obtain ⟨⟨⟨k1, k2⟩, u1, u2⟩, t1, t2⟩ := hr
  cases e with
  | tick => exact vs_tick v u1
  | fall => exact ⟨by show (0:Int) ≤ 0; omega, t1, fun _ => rfl, fun z => absurd rfl z, v.last, v.used, v.a, v.b⟩
  | on w c =>
    have hc := vs_cl v c
    cases w with
    | arrive =>
      cases hw : (s.cl c).way with
      | none =>
        have h1 : happenedP r s (.on .arrive c) = (s, .done) := by
          unfold happenedP
          simp only [hw]
        rw [h1]; exact v
      | some w =>
        have h1 : happenedP r s (.on .arrive c) = arrivedP r s c w := by
          unfold happenedP
          simp only [hw]
        rw [h1]; exact vs_arrived v k1 u1 c w hw
    | use =>
      show VS r (if r.number = true ∧ (s.cl c).num < s.used then (s, .barred) else ({ s with used := max (s.cl c).num s.used }, .used) : Sd × Wd).1
      split
      · exact v
      · exact ⟨v.kept, v.rest, v.ho, v.hs, v.last, by show 0 ≤ max (s.cl c).num s.used; have := v.used; omega, v.a, v.b⟩
    | lose => exact vs_setc v c (cv_none hc)
    | back => exact vs_setc v c ⟨by show (0:Int) ≤ 0; omega, by show (0:Int) ≤ 0; omega, fun _ => rfl, fun u z => by injection z with z; subst z; exact ⟨by show (0:Int) ≤ 0; omega, by show (0:Int) ≤ r.use; omega, fun _ => rfl, by show (0:Int) ≤ 0; omega⟩⟩
    | ask => exact vs_setc v c (cv_way hc _ (fun u z => by injection z with z; subst z; exact ⟨by show (0:Int) ≤ 0; omega, by show (0:Int) ≤ r.use; omega, fun _ => rfl, by show (0:Int) ≤ 0; omega⟩))
    | renew => exact vs_setc v c (cv_way hc _ (fun u z => by injection z with z; subst z; exact ⟨by show (0:Int) ≤ 0; omega, by show (0:Int) ≤ r.use; omega, fun _ => rfl, by show (0:Int) ≤ 0; omega⟩))
theorem vs_step {r : Ru} {s : Sd} (v : VS r s) (hr : r.ok = true) (e : Ev) : VS r (stepP r s e).1 := vs_ranked (vs_happened v hr e)
theorem vs_first (r : Ru) : VS r first := by
  have c : CV r ⟨0, 0, none⟩ := ⟨by show (0:Int) ≤ 0; omega, by show (0:Int) ≤ 0; omega, fun _ => rfl, by simp⟩
  exact ⟨by show (0:Int) ≤ 0; omega, by show (0:Int) ≤ 0; omega, fun _ => rfl, fun z => absurd rfl z, by show (0:Int) ≤ 0; omega, by show (0:Int) ≤ 0; omega, c, c⟩
/-- the law's step is the program's step -/
theorem next_eq {r : Ru} {s : Sd} (v : VS r s) (hr : r.ok = true) (e : Ev) (he : ∀ c, e = .on .arrive c → (s.cl c).way ≠ none) : nextL r s e = stepP r s e := by
  obtain ⟨h1, h2⟩ := same_all r s e v hr he
  unfold nextL stepP
  rw [standL_eq r _ (fun x hx => by
    have hx := (keysU_mem r _ x).mp hx
    rw [h1] at hx
    exact vs_nonneg (vs_happened v hr e) x hx), h1, h2]
end BH
end

section
set_option Elab.async false
set_option linter.all false
set_option maxRecDepth 100000
set_option maxHeartbeats 8000000
/-! Drawing: the source and the pick. -/
namespace BH
open PySem L2

theorem r_is_bool (b c : Bool) (M : Store) : run 27 [.bl b, .bl c] M = .ok (.bl (b == c)) M := by
  rw [run, evm_eq tb supx t__law_is_bool]
  cases b <;> cases c <;> simp [c__law_is_bool, startD, getV, eqD_pu]
theorem r_first (M : Store) : run 37 [] M = .ok first.d M := by
  rw [run, evm_eq tb supx t__law_first]
  simp [c__law_first, startD, getV, first, Sd.d, Sd.house, Cl.d]
/-- a source of drawing in the store -/
def Src (N : Store) (l : Nat) : Prop := ∃ a b : Int, N[l]? = some (.lst [.int a, .int b]) ∧ 0 ≤ b ∧ b ≤ 2147490000
theorem int_i (a : Int) (N : Store) : biD .int [.int a] N = .ok (.int a) N := rfl
theorem mul_ii {a b : Int} (N : Store) (h : (big a || big b) = true) : binD .Mult (.int a) (.int b) N = .ok (.int (a * b)) N := by
  show (if big a || big b then Out.ok (D.int (a * b)) N else .bad) = _
  rw [if_pos h]
theorem mod_ii {a b : Int} (N : Store) (h : 0 < b) : binD .Mod (.int a) (.int b) N = .ok (.int (a % b)) N := by
  show (if 0 < b then Out.ok (D.int (a % b)) N else .bad) = _
  rw [if_pos h]
theorem div_ii {a b : Int} (N : Store) (h : 0 < b ∧ b < 1073741824) : binD .FloorDiv (.int a) (.int b) N = .ok (.int (a / b)) N := by
  show (if 0 < b ∧ b < 1073741824 then Out.ok (D.int (a / b)) N else .bad) = _
  rw [if_pos h]
theorem big_r {a : Int} (h : 0 ≤ a) (h2 : a ≤ 2147490000) : big a = true := by
  unfold big
  simp
  omega
theorem r_pick (l : Nat) (n : Int) (N : Store) (h : Src N l) (hn : 0 < n) (hn2 : n ≤ 1000) : ∃ i a b : Int, 0 ≤ i ∧ i < n ∧ 0 ≤ b ∧ b ≤ 2147490000 ∧ run 25 [.ll l, .int n] N = .ok (.int i) (N.set l (.lst [.int a, .int b])) := by
  obtain ⟨a, b, hl, b1, b2⟩ := h
  have ll : l < N.length := by
    rw [List.getElem?_eq_some_iff] at hl
    exact hl.1
  have hs : ∀ x, (N.set l x)[l]? = some x := fun x => by simp [ll]
  have gcs : ∀ x y i : Int, gcO N (.ok (.int i) (N.set l (.lst [.int x, .int y]))) = .ok (.int i) (N.set l (.lst [.int x, .int y])) := fun x y i => gc_set rfl (by simp [MO.lo])
  rw [run, evm_eq tb supx t__law_pick]
  by_cases ha : a > 0
  · refine ⟨a % n, a / n, b, Int.emod_nonneg _ (by omega), Int.emod_lt_of_pos _ hn, b1, b2, ?_⟩
    simp [c__law_pick, startD, getV, sub_ll, set_ll, hl, ha, int_i, mod_ii N hn, div_ii N ⟨hn, show n < 1073741824 by omega⟩, L2.ixN]
    exact gcs _ _ _
  · have m1 := mul_ii (a := b) (b := 44497) N (by rw [big_r b1 b2]; rfl)
    have z1 := Int.emod_nonneg (b * 44497 + 9973) (show (2147483647 : Int) ≠ 0 by decide)
    have z2 := Int.emod_lt_of_pos (b * 44497 + 9973) (show (0 : Int) < 2147483647 by decide)
    generalize hy : (b * 44497 + 9973) % 2147483647 = y at z1 z2
    have m2 := fun N => mul_ii (a := y) (b := y) N (by rw [big_r z1 (by omega)]; rfl)
    have m3 := fun N x => mod_ii (a := x) (b := 2147483647) N (by decide)
    have m4 := fun N x => mod_ii (a := x) (b := 2147483399) N (by decide)
    have m5 := fun N x => div_ii (a := x) (b := 11) N (by decide)
    have m6 := fun N x => mod_ii (a := x) (b := n) N hn
    refine ⟨(y * y) % 2147483399 / 11 % n, a, y, Int.emod_nonneg _ (by omega), Int.emod_lt_of_pos _ hn, z1, by omega, ?_⟩
    simp [c__law_pick, startD, getV, sub_ll, set_ll, hl, ha, int_i, L2.ixN, hs, m1, m2, m3, m4, m5, m6, hy]
    exact gcs _ _ _
theorem r_chosen (l m : Nat) (N : Store) (ds : List D) (h : Src N l) (hm : N[m]? = some (.lst ds)) (hml : m ≠ l) (h1 : 0 < ds.length) (h2 : ds.length ≤ 1000) (hlo : ∀ d ∈ ds, D.lo N.length d = true) :
    ∃ (d : D) (a b : Int), d ∈ ds ∧ 0 ≤ b ∧ b ≤ 2147490000 ∧ run 26 [.ll l, .ll m] N = .ok d (N.set l (.lst [.int a, .int b])) := by
  obtain ⟨i, a, b, i1, i2, b1, b2, hp⟩ := r_pick l ds.length N h (by omega) (by omega)
  obtain ⟨k, rfl⟩ := Int.eq_ofNat_of_zero_le i1
  have hk : k < ds.length := by omega
  rw [run, evm_eq tb supx t__law_chosen]
  have hlen : biD .len [.ll m] N = .ok (.int ds.length) N := by
    unfold biD
    dsimp only
    rw [hm]
  have hg : (N.set l (.lst [.int a, .int b]))[m]? = some (.lst ds) := by
    rw [List.getElem?_set_ne (by omega)]
    exact hm
  have hsub : subD (.ll m) (.int (k : Nat)) (N.set l (.lst [.int a, .int b])) = .ok ds[k] (N.set l (.lst [.int a, .int b])) := by
    rw [sub_ll, hg]
    show (match L2.atI ds (k : Nat) with
      | some v => Out.ok v _
      | none => .bad) = _
    have : L2.atI ds (k : Nat) = some ds[k] := by
      unfold L2.atI
      simp [L2.ixN, hk]
    rw [this]
  refine ⟨ds[k], a, b, List.getElem_mem hk, b1, b2, ?_⟩
  simp [c__law_chosen, startD, getV, hlen, hp, hsub]
  exact gc_set (hlo _ (List.getElem_mem hk)) (by simp [MO.lo])
end BH
end

section
set_option Elab.async false
set_option linter.all false
set_option maxRecDepth 100000
set_option maxHeartbeats 8000000
/-! Drawing: the source made, the world and the rule drawn. -/
namespace BH
open PySem L2

theorem big_true (a : Int) (h : -1000000 ≤ a) (h2 : a ≤ 1000000000000) : big a = true := by
  unfold big
  simp
  omega
theorem src_tail (k : Nat) (hk : k < 100) (x : Int) (M : Store) (g0 g3 : Option D) :
    ∃ a b : Int, 0 ≤ b ∧ b ≤ 2147490000 ∧
    gcO M (bodyO (evSs (evb tb supx 24) supx (c__law_source.drop 2) [g0, some (.int (k : Nat)), some (.int x), g3] M)) = .ok (.ll M.length) (M ++ [.lst [.int a, .int b]]) := by
  have m1 := mul_ii (a := x) (b := 16807) M (by rw [big_true 16807 (by decide) (by decide)]; simp)
  have m2 := mul_ii (a := 60919) (b := (k : Nat)) M (by rw [big_true 60919 (by decide) (by decide)]; simp)
  have m3 := fun x => mod_ii (a := x) (b := 2147481173) M (by decide)
  have m4 := fun x => mod_ii (a := x) (b := 2147481151) M (by decide)
  have z1 := Int.emod_nonneg (x * 16807 + 60919 * (k : Nat) + 31) (show (2147481173 : Int) ≠ 0 by decide)
  have z2 := Int.emod_lt_of_pos (x * 16807 + 60919 * (k : Nat) + 31) (show (0 : Int) < 2147481173 by decide)
  generalize hy : (x * 16807 + 60919 * ((k : Nat) : Int) + 31) % 2147481173 = y at z1 z2
  have m5 := mul_ii (a := y) (b := y) M (by rw [big_r z1 (by omega)]; rfl)
  have m6 := mul_ii (a := 2) (b := (k : Nat)) M (by rw [big_true 2 (by decide) (by decide)]; simp)
  have z3 := Int.emod_nonneg (y * y) (show (2147481151 : Int) ≠ 0 by decide)
  have z4 := Int.emod_lt_of_pos (y * y) (show (0 : Int) < 2147481151 by decide)
  have p1 : binD .Pow (.int 10) (.int 18) M = .ok (.int 1000000000000000000) M := rfl
  have gl : ∀ x y : Int, gcO M (.ok (.ll M.length) (M ++ [.lst [.int x, .int y]])) = .ok (.ll M.length) (M ++ [.lst [.int x, .int y]]) := fun x y => gc_l0 M [] (by simp [D.lo])
  refine ⟨if 1000000000000000000 ≤ x then x else 0, (y * y) % 2147481151 + 2 * (k : Nat) + 5, by omega, by omega, ?_⟩
  by_cases hx : 1000000000000000000 ≤ x
  · simp [c__law_source, startD, getV, m1, m2, m3, m4, m5, m6, hy, p1, newL, hx, gl]
  · simp [c__law_source, startD, getV, m1, m2, m3, m4, m5, m6, hy, p1, newL, hx, gl]
theorem len_lsf (ns : List Int) (M : Store) : biD .len [.lsf (ns.map D.int)] M = .ok (.int ns.length) M := by
  show Out.ok (D.int (ns.map D.int).length) M = _
  rw [List.length_map]
theorem sub_lsf (ns : List Int) (k : Nat) (h : k < ns.length) (M : Store) : subD (.lsf (ns.map D.int)) (.int (k : Nat)) M = .ok (.int ns[k]) M := by
  show (match L2.atI (ns.map D.int) (k : Nat) with
    | some v => Out.ok v M
    | none => .bad) = _
  have : L2.atI (ns.map D.int) (k : Nat) = some (D.int ns[k]) := by
    unfold L2.atI
    simp [L2.ixN, h]
  rw [this]
theorem src_a (ns : List Int) (k : Nat) (h : k < ns.length) (M : Store) : evSs (evb tb supx 24) supx (c__law_source.take 2) (startD 4 [.lsf (ns.map D.int), .int (k : Nat)]) M = .nx [some (.lsf (ns.map D.int)), some (.int (k : Nat)), some (.int ns[k]), none] M := by
  have hlen := len_lsf ns M
  have hsub := sub_lsf ns k h M
  simp [c__law_source, startD, getV, hlen, hsub, h, int_i]
theorem src_b (ns : List Int) (k : Nat) (h : ¬ k < ns.length) (M : Store) : evSs (evb tb supx 24) supx (c__law_source.take 2) (startD 4 [.lsf (ns.map D.int), .int (k : Nat)]) M = .nx [some (.lsf (ns.map D.int)), some (.int (k : Nat)), some (.int 0), none] M := by
  have hlen := len_lsf ns M
  simp [c__law_source, startD, getV, hlen, h, int_i]
theorem c_src_eq : c__law_source = c__law_source.take 2 ++ c__law_source.drop 2 := rfl
theorem src_run (a b : D) (M : Store) : run 24 [a, b] M = gcO M (bodyO ((evSs (evb tb supx 24) supx (c__law_source.take 2) (startD 4 [a, b]) M).seq (evSs (evb tb supx 24) supx (c__law_source.drop 2)))) := by
  rw [run, evm_eq tb supx t__law_source, ← evSs_app]
  rfl
theorem r_source (ns : List Int) (k : Nat) (hk : k < 100) (M : Store) : ∃ a b : Int, 0 ≤ b ∧ b ≤ 2147490000 ∧ run 24 [.lsf (ns.map D.int), .int (k : Nat)] M = .ok (.ll M.length) (M ++ [.lst [.int a, .int b]]) := by
  by_cases h : k < ns.length
  · obtain ⟨a, b, b1, b2, e⟩ := src_tail k hk ns[k] M (some (.lsf (ns.map D.int))) none
    refine ⟨a, b, b1, b2, ?_⟩
    rw [src_run, src_a ns k h M, seq_nxE]
    exact e
  · obtain ⟨a, b, b1, b2, e⟩ := src_tail k hk 0 M (some (.lsf (ns.map D.int))) none
    refine ⟨a, b, b1, b2, ?_⟩
    rw [src_run, src_b ns k h M, seq_nxE]
    exact e
end BH
end

section
set_option Elab.async false
set_option linter.all false
set_option maxRecDepth 100000
set_option maxHeartbeats 8000000
/-! Drawing: the world and the rule. -/
namespace BH
open PySem L2

theorem src_set {N : Store} {l : Nat} {a b : Int} (h : l < N.length) (b1 : 0 ≤ b) (b2 : b ≤ 2147490000) : Src (N.set l (.lst [.int a, .int b])) l := ⟨a, b, by simp [h], b1, b2⟩
theorem src_lt {N : Store} {l : Nat} (h : Src N l) : l < N.length := by
  obtain ⟨a, b, hl, _⟩ := h
  rw [List.getElem?_eq_some_iff] at hl
  exact hl.1
/-- drawings done: only the source has changed, and new places have come -/
structure Dr (M : Store) (l : Nat) (M' : Store) : Prop where
  len : M.length ≤ M'.length
  src : Src M' l
  lt : l < M.length
  eq : ∀ j, j < M.length → j ≠ l → M'[j]? = M[j]?
theorem dr_refl {M : Store} {l : Nat} (h : Src M l) : Dr M l M := ⟨by omega, h, src_lt h, fun _ _ _ => rfl⟩
theorem dr_set {M M' : Store} {l : Nat} {a b : Int} (h : Dr M l M') (b1 : 0 ≤ b) (b2 : b ≤ 2147490000) : Dr M l (M'.set l (.lst [.int a, .int b])) := by
  have := h.lt
  have := h.len
  exact ⟨by simp; omega, src_set (by omega) b1 b2, h.lt, fun j hj hn => by rw [List.getElem?_set_ne (by omega)]; exact h.eq j hj hn⟩
theorem dr_app {M M' : Store} {l : Nat} (h : Dr M l M') (X : Store) : Dr M l (M' ++ X) := by
  have h0 := h.lt
  have h1 := h.len
  obtain ⟨a, b, hl, b1, b2⟩ := h.src
  exact ⟨by simp; omega, ⟨a, b, by rw [List.getElem?_append_left (by omega)]; exact hl, b1, b2⟩, h.lt, fun j hj hn => by rw [List.getElem?_append_left (by omega)]; exact h.eq j hj hn⟩
theorem dr_take {M M' : Store} {l : Nat} (h : Dr M l M') : Dr M l (M'.take M.length) := by
  have h0 := h.lt
  have h1 := h.len
  obtain ⟨a, b, hl, b1, b2⟩ := h.src
  exact ⟨by simp; omega, ⟨a, b, by rw [List.getElem?_take_of_lt h0]; exact hl, b1, b2⟩, h.lt, fun j hj hn => by rw [List.getElem?_take_of_lt hj]; exact h.eq j hj hn⟩
theorem dr_pre {M M' : Store} {l : Nat} (h : Dr M l M') : Pre' M M' := by
  intro j mo hj e
  by_cases hl : j = l
  · subst hl
    obtain ⟨a, b, hl, _, _⟩ := h.src
    rw [hl] at e
    cases e
    exact .inr (by simp [MO.lo])
  · rw [h.eq j hj hl] at e
    exact .inl e
theorem gc_dr {M M' : Store} {l : Nat} {d : D} (h : Dr M l M') (hd : D.lo M.length d = true) : gcO M (.ok d M') = .ok d (M'.take M.length) := by
  unfold gcO
  dsimp only
  rw [if_pos ⟨dr_pre h, hd, h.len⟩]
theorem pick_dr {M N : Store} {l : Nat} (h : Dr M l N) (n : Int) (hn : 0 < n) (hn2 : n ≤ 1000) : ∃ (i : Int) (N' : Store), 0 ≤ i ∧ i < n ∧ Dr M l N' ∧ run 25 [.ll l, .int n] N = .ok (.int i) N' := by
  obtain ⟨i, a, b, i1, i2, b1, b2, e⟩ := r_pick l n N h.src hn hn2
  exact ⟨i, _, i1, i2, dr_set h b1 b2, e⟩
/-- drawing from a list just made -/
theorem chosen_dr {M N : Store} {l : Nat} (h : Dr M l N) (ds : List D) (h1 : 0 < ds.length) (h2 : ds.length ≤ 1000) (hlo : ∀ d ∈ ds, D.lo (N.length + 1) d = true) :
    ∃ (d : D) (N' : Store), d ∈ ds ∧ Dr M l N' ∧ run 26 [.ll l, .ll N.length] (N ++ [.lst ds]) = .ok d N' := by
  have g := dr_app h [.lst ds]
  have := h.lt
  have := h.len
  obtain ⟨d, a, b, hd, b1, b2, e⟩ := r_chosen l N.length (N ++ [.lst ds]) ds g.src (by simp) (by omega) h1 h2 (by simpa using hlo)
  exact ⟨d, _, hd, dr_set g b1 b2, e⟩
theorem r_terms (l : Nat) (N : Store) (h : Src N l) : ∃ (r : Ru) (N' : Store), r.ok = true ∧ Dr N l N' ∧ N'.length = N.length ∧ run 29 [.ll l, .int 4] N = .ok r.d N' := by
  have h0 := dr_refl h
  obtain ⟨i1, N1, a1, a2, d1, e1⟩ := pick_dr h0 4 (by decide) (by decide)
  obtain ⟨i2, N2, b1, b2, d2, e2⟩ := pick_dr d1 4 (by decide) (by decide)
  obtain ⟨c1, N3, c2, d3, e3⟩ := chosen_dr d2 [.str "asked", .str "came"] (by simp) (by simp) (by simp [D.lo])
  obtain ⟨y1, N4, y2, d4, e4⟩ := chosen_dr d3 [.str "no", .str "yes"] (by simp) (by simp) (by simp [D.lo])
  obtain ⟨z1, N5, z2, d5, e5⟩ := chosen_dr d4 [.str "no", .str "number"] (by simp) (by simp) (by simp [D.lo])
  obtain ⟨i6, N6, w1, w2, d6, e6⟩ := pick_dr d5 5 (by decide) (by decide)
  have hc : ∃ b : Bool, c1 = .str (if b then "asked" else "came") := by
    simp only [List.mem_cons, List.not_mem_nil, or_false] at c2
    rcases c2 with rfl | rfl
    · exact ⟨true, rfl⟩
    · exact ⟨false, rfl⟩
  have hy : ∃ b : Bool, y1 = .str (if b then "yes" else "no") := by
    simp only [List.mem_cons, List.not_mem_nil, or_false] at y2
    rcases y2 with rfl | rfl
    · exact ⟨false, rfl⟩
    · exact ⟨true, rfl⟩
  have hz : ∃ b : Bool, z1 = .str (if b then "number" else "no") := by
    simp only [List.mem_cons, List.not_mem_nil, or_false] at z2
    rcases z2 with rfl | rfl
    · exact ⟨false, rfl⟩
    · exact ⟨true, rfl⟩
  obtain ⟨bc, rfl⟩ := hc
  obtain ⟨by1, rfl⟩ := hy
  obtain ⟨bz, rfl⟩ := hz
  refine ⟨⟨1 + i1, 1 + i2, bc, by1, bz, i6⟩, N6.take N.length, ?_, dr_take d6, by have := d6.len; simp; omega, ?_⟩
  · unfold Ru.ok
    simp
    omega
  · rw [run, evm_eq tb supx t__law_terms]
    have hg := gc_dr d6 (lo_ru N.length ⟨1 + i1, 1 + i2, bc, by1, bz, i6⟩)
    simp [c__law_terms, startD, getV, newL, e1, e2, e3, e4, e5, e6]
    exact hg
theorem r_place (l : Nat) (N : Store) (h : Src N l) : ∃ (w : Wo) (N' : Store), 0 ≤ w.delay ∧ w.delay ≤ 2 ∧ Dr N l N' ∧ N'.length = N.length ∧ run 28 [.ll l, .bl false] N = .ok w.d N' := by
  have h0 := dr_refl h
  obtain ⟨c1, N1, c2, d1, e1⟩ := chosen_dr h0 [.int 0, .int 1, .int 1, .int 2] (by simp) (by simp) (by simp [D.lo])
  obtain ⟨i2, N2, b1, b2, d2, e2⟩ := pick_dr d1 5 (by decide) (by decide)
  have hc : ∃ i : Int, c1 = .int i ∧ 0 ≤ i ∧ i ≤ 2 := by
    simp only [List.mem_cons, List.not_mem_nil, or_false] at c2
    rcases c2 with rfl | rfl | rfl | rfl
    · exact ⟨0, rfl, by decide, by decide⟩
    · exact ⟨1, rfl, by decide, by decide⟩
    · exact ⟨1, rfl, by decide, by decide⟩
    · exact ⟨2, rfl, by decide, by decide⟩
  obtain ⟨i, rfl, i0, i1⟩ := hc
  refine ⟨⟨i, decide (i2 = 1 ∨ i2 = 4), decide (i2 = 2 ∨ i2 = 4)⟩, N2.take N.length, i0, i1, dr_take d2, by have := d2.len; simp; omega, ?_⟩
  rw [run, evm_eq tb supx t__law_place]
  have hg := gc_dr d2 (lo_wo N.length ⟨i, decide (i2 = 1 ∨ i2 = 4), decide (i2 = 2 ∨ i2 = 4)⟩)
  have q : i2 = 0 ∨ i2 = 1 ∨ i2 = 2 ∨ i2 = 3 ∨ i2 = 4 := by omega
  rcases q with rfl | rfl | rfl | rfl | rfl <;>
  · simp [c__law_place, startD, getV, newL, e1, e2, eqD_pu]
    exact hg
end BH
end

section
set_option Elab.async false
set_option linter.all false
set_option maxRecDepth 100000
set_option maxHeartbeats 8000000
/-! The plain law: no message waits longer than the delay. -/
namespace BH

def CW (w : Wo) (c : Cl) : Prop := ∀ u, c.way = some u → u.wait ≤ w.delay
def WV (w : Wo) (s : Sd) : Prop := CW w s.a ∧ CW w s.b
theorem tick_late {w : Wo} {s : Sd} (h : Ev.tick ∈ evsP w s) : lateOf w s.a = false ∧ lateOf w s.b = false := by
  unfold evsP onC at h
  simp only [List.mem_append, List.mem_map] at h
  rcases h with ((h | ⟨x, _, e⟩) | ⟨x, _, e⟩) | h
  · split at h <;> simp at h
  · cases e
  · cases e
  · by_cases g : (lateOf w s.a || lateOf w s.b) = true
    · rw [if_pos g] at h; simp at h
    · simpa using g
theorem cw_none (w : Wo) (x y : Int) : CW w ⟨x, y, none⟩ := fun u h => nomatch h
theorem cw_zero {w : Wo} (hd : 0 ≤ w.delay) (x y : Int) (k : Kd) (a b : Int) : CW w ⟨x, y, some ⟨k, 0, a, b⟩⟩ := fun u h => by
  injection h with h
  subst h
  exact hd
theorem wv_setc {w : Wo} {s : Sd} (v : WV w s) (c : Bool) {u : Cl} (h : CW w u) : WV w (s.setc c u) := by
  cases c
  · exact ⟨h, v.2⟩
  · exact ⟨v.1, h⟩
theorem cw_later {w : Wo} {r : Ru} {c : Cl} (h : CW w c) (hl : lateOf w c = false) : CW w (laterP r c) := by
  have hw : ∀ u, c.way.map (laterW r) = some u → u.wait ≤ w.delay := by
    intro u hu
    cases hc : c.way with
    | none => rw [hc] at hu; simp at hu
    | some v =>
      rw [hc] at hu
      simp only [Option.map, Option.some.injEq] at hu
      subst hu
      have h1 := h v hc
      unfold lateOf at hl
      rw [hc] at hl
      simp at hl
      show v.wait + 1 ≤ w.delay
      omega
  unfold laterP
  split
  · exact hw
  · exact hw
theorem cw_rk {w : Wo} {c : Cl} {L : List Int} (h : CW w c) : CW w (rkC L c) := by
  intro u hu
  unfold rkC at hu
  dsimp only at hu
  cases hc : c.way with
  | none => rw [hc] at hu; simp at hu
  | some v =>
    rw [hc] at hu
    simp only [Option.map, Option.some.injEq] at hu
    subst hu
    exact h v hc
theorem wv_asked {w : Wo} {r : Ru} {s : Sd} (v : WV w s) (hd : 0 ≤ w.delay) (c : Bool) (u : Wy) : WV w (askedFor r s c u).1 := by
  unfold askedFor
  split
  · exact wv_setc (s := { s with holder := some c, kept := r.keep, rest := 0, last := s.last + 1 }) v c (cw_zero hd _ _ _ _ _)
  · split
    · exact wv_setc (s := { s with holder := some c, kept := r.keep, rest := 0 }) v c (cw_zero hd _ _ _ _ _)
    · exact wv_setc v c (cw_none _ _ _)
theorem wv_arrived {w : Wo} {r : Ru} {s : Sd} (v : WV w s) (hd : 0 ≤ w.delay) (c : Bool) (u : Wy) : WV w (arrivedP r s c u).1 := by
  unfold arrivedP
  split
  · exact wv_asked v hd c u
  · exact wv_asked v hd c u
  · split
    · exact wv_setc (s := { s with holder := none, kept := 0 }) v c (cw_none _ _ _)
    · exact wv_setc v c (cw_none _ _ _)
  · by_cases g : (if r.asked = true then r.use - u.since else r.use) ≤ (s.cl c).left
    · rw [if_pos g]
      exact wv_setc v c (cw_none _ _ _)
    · rw [if_neg g]
      exact wv_setc v c (cw_none _ _ _)
theorem wv_step {w : Wo} {r : Ru} {s : Sd} (v : WV w s) (hd : 0 ≤ w.delay) (e : Ev) (he : e ∈ evsP w s) : WV w (stepP r s e).1 := by
  have key : WV w (happenedP r s e).1 := by
    cases e with
    | tick =>
      obtain ⟨l1, l2⟩ := tick_late he
      show WV w (tickedP r s)
      unfold tickedP
      split
      · exact ⟨cw_later v.1 l1, cw_later v.2 l2⟩
      · exact ⟨cw_later v.1 l1, cw_later v.2 l2⟩
    | fall => exact v
    | on k c =>
      cases k with
      | arrive =>
        cases hw : (s.cl c).way with
        | none => exact absurd hw (arrive_way he)
        | some u =>
          have h1 : happenedP r s (.on .arrive c) = arrivedP r s c u := by
            unfold happenedP
            simp only [hw]
          rw [h1]
          exact wv_arrived v hd c u
      | use =>
        show WV w (if r.number = true ∧ (s.cl c).num < s.used then (s, .barred) else ({ s with used := max (s.cl c).num s.used }, .used) : Sd × Wd).1
        split
        · exact v
        · exact v
      | lose => exact wv_setc v c (cw_none _ _ _)
      | back => exact wv_setc v c (cw_zero hd _ _ _ _ _)
      | ask => exact wv_setc v c (cw_zero hd _ _ _ _ _)
      | renew => exact wv_setc v c (cw_zero hd _ _ _ _ _)
  exact ⟨cw_rk key.1, cw_rk key.2⟩
theorem wv_first (w : Wo) : WV w first := ⟨cw_none _ _ _, cw_none _ _ _⟩
end BH
end

section
set_option Elab.async false
set_option linter.all false
set_option maxRecDepth 100000
set_option maxHeartbeats 8000000
/-! The law's clock: what may come. -/
namespace BH
open PySem L2

def leb : List CS := match c__law_events with
  | [_, .for_ _ _ b, _] => b
  | _ => []
/-- the events after one client's turn, as the law gathers them -/
def lawIt (w : Wo) (now : Int) (c : Bool) (cl : Cl) (F : List Ev) : List Ev :=
  let G := F ++ (if cl.left > now then [Ev.on .use c] else [])
  match cl.way with
  | none => G ++ onC c (if cl.left > now then [.renew, .back] else [.ask])
  | some v => let H := G ++ [Ev.on .arrive c] ++ (if w.loses then [Ev.on .lose c] else [])
    if now - v.wait ≥ w.delay then H.filter (fun e => decide (e ≠ .tick)) else H
/-- gathered twice from the tick: the same events as the program's -/
theorem lawIt_mem (w : Wo) (s : Sd) (v : WV w s) (e : Ev) :
    e ∈ lawIt w 50 true (knownC s.b) (lawIt w 50 false (knownC s.a) [.tick]) ++ (if w.falls then [.fall] else []) ↔ e ∈ evsP w s := by
  obtain ⟨va, vb⟩ := v
  obtain ⟨ho, kept, rest, last, used, ⟨la, na, wa⟩, ⟨lb, nb, wb⟩⟩ := s
  have ga : (50 + la > 50) = (la > 0) := propext ⟨fun h => by omega, fun h => by omega⟩
  have gb : (50 + lb > 50) = (lb > 0) := propext ⟨fun h => by omega, fun h => by omega⟩
  have gw : ∀ u : Wy, u.wait ≤ w.delay → ((50 - (50 - u.wait) ≥ w.delay) = (u.wait = w.delay)) := fun u h => propext ⟨fun h => by omega, fun h => by omega⟩
  obtain ⟨delay, loses, falls⟩ := w
  unfold evsP lawIt knownC wordsOf lateOf onC
  dsimp only
  simp only [ga, gb]
  have k0 : ∀ u, wa = some u → ((50 - (50 - u.wait) ≥ delay) = (u.wait = delay)) := fun u h => gw u (va u h)
  have k1 : ∀ u, wb = some u → ((50 - (50 - u.wait) ≥ delay) = (u.wait = delay)) := fun u h => gw u (vb u h)
  clear va vb gw ga gb
  by_cases h1 : la > 0 <;> by_cases h2 : lb > 0 <;> cases loses <;> cases falls <;> cases wa with
  | none =>
    cases wb with
    | none => simp [h1, h2] <;> grind
    | some u =>
      have q := k1 u rfl
      by_cases g : u.wait = delay <;> simp [h1, h2, q, g] <;> grind
  | some z =>
    have q0 := k0 z rfl
    by_cases g0 : z.wait = delay <;> cases wb with
    | none => simp [h1, h2, q0, g0] <;> grind
    | some u =>
      have q := k1 u rfl
      by_cases g : u.wait = delay <;> simp [h1, h2, q0, g0, q, g] <;> grind
end BH
end

section
set_option Elab.async false
set_option linter.all false
set_option maxRecDepth 100000
set_option maxHeartbeats 8000000
/-! The law's clock: the list of what may come, as the program's. -/
namespace BH
open PySem L2

/-! ### one order of events -/
def evRk : Ev → Nat
  | .on .arrive false => 0
  | .on .arrive true => 1
  | .on .ask false => 2
  | .on .ask true => 3
  | .on .back false => 4
  | .on .back true => 5
  | .fall => 6
  | .on .lose false => 7
  | .on .lose true => 8
  | .on .renew false => 9
  | .on .renew true => 10
  | .tick => 11
  | .on .use false => 12
  | .on .use true => 13
def evLe (a b : Ev) : Bool := srtLe (a.d.py, a.d) (b.d.py, b.d)
theorem evLe_rk (a b : Ev) : evLe a b = decide (evRk a ≤ evRk b) := by
  cases a with
  | tick => cases b with
    | tick => kernel_rfl
    | fall => kernel_rfl
    | on k c => cases k <;> cases c <;> kernel_rfl
  | fall => cases b with
    | tick => kernel_rfl
    | fall => kernel_rfl
    | on k c => cases k <;> cases c <;> kernel_rfl
  | on k c => cases b with
    | tick => cases k <;> cases c <;> kernel_rfl
    | fall => cases k <;> cases c <;> kernel_rfl
    | on k' c' => cases k <;> cases c <;> cases k' <;> cases c' <;> kernel_rfl
theorem evRk_inj {a b : Ev} (h : evRk a = evRk b) : a = b := by
  cases a with
  | tick => cases b with
    | tick => rfl
    | fall => simp [evRk] at h
    | on k c => cases k <;> cases c <;> simp [evRk] at h
  | fall => cases b with
    | tick => simp [evRk] at h
    | fall => rfl
    | on k c => cases k <;> cases c <;> simp [evRk] at h
  | on k c => cases b with
    | tick => cases k <;> cases c <;> simp [evRk] at h
    | fall => cases k <;> cases c <;> simp [evRk] at h
    | on k' c' => cases k <;> cases c <;> cases k' <;> cases c' <;> first | rfl | simp [evRk] at h
def sortE (es : List Ev) : List Ev := es.mergeSort evLe
theorem sortD_E (es : List Ev) : sortD (es.map Ev.d) = (sortE es).map Ev.d := by
  unfold sortD sortE
  rw [List.map_map]
  have e : ((fun d : D => (d.py, d)) ∘ Ev.d) = fun e : Ev => (e.d.py, e.d) := rfl
  rw [e, ← List.map_mergeSort (f := fun e : Ev => (e.d.py, e.d)) (r := evLe) (s := srtLe) fun a _ b _ => rfl, List.map_map]
  rfl
theorem sortE_perm (es : List Ev) : (sortE es).Perm es := List.mergeSort_perm _ _
theorem sortE_pw (es : List Ev) : (sortE es).Pairwise (fun a b => evRk a ≤ evRk b) := by
  have := List.pairwise_mergeSort (le := evLe) (fun a b c h1 h2 => by rw [evLe_rk] at *; simp only [decide_eq_true_eq] at *; omega) (fun a b => by rw [evLe_rk, evLe_rk]; simp only [Bool.or_eq_true, decide_eq_true_eq]; omega) es
  exact this.imp fun h => by rw [evLe_rk] at h; simpa using h
theorem sortE_eq {a b : List Ev} (h : a.Perm b) : sortE a = sortE b := by
  have p : (sortE a).Perm (sortE b) := (sortE_perm a).trans (h.trans (sortE_perm b).symm)
  exact List.Perm.eq_of_pairwise (fun x y _ _ h1 h2 => evRk_inj (by omega)) (sortE_pw a) (sortE_pw b) p
theorem sortD_ev {a b : List Ev} (h : a.Perm b) : sortD (a.map Ev.d) = sortD (b.map Ev.d) := by rw [sortD_E, sortD_E, sortE_eq h]
/-! ### nothing comes twice -/
theorem wordsOf_nd (w : Wo) (c : Cl) : (wordsOf w c).Nodup := by
  unfold wordsOf
  split <;> split <;> (try split) <;> simp
theorem onC_nd (c : Bool) {ws : List Ew} (h : ws.Nodup) : (onC c ws).Nodup := by
  unfold onC
  exact List.Pairwise.map _ (fun a b hab e => hab (by injection e)) h
theorem evsP_nd (w : Wo) (s : Sd) : (evsP w s).Nodup := by
  unfold evsP
  have h1 := onC_nd false (wordsOf_nd w s.a)
  have h2 := onC_nd true (wordsOf_nd w s.b)
  rw [List.nodup_append, List.nodup_append, List.nodup_append]
  refine ⟨⟨⟨by split <;> simp, h1, ?_⟩, h2, ?_⟩, by split <;> simp, ?_⟩
  · intro x hx y hy e
    subst e
    unfold onC at hy
    simp only [List.mem_map] at hy
    obtain ⟨z, _, rfl⟩ := hy
    split at hx <;> simp at hx
  · intro x hx y hy e
    subst e
    unfold onC at hy hx
    simp only [List.mem_map, List.mem_append] at hy hx
    obtain ⟨z, _, rfl⟩ := hy
    rcases hx with hx | ⟨z', _, e⟩
    · split at hx <;> simp at hx
    · injection e with _ e; cases e
  · intro x hx y hy e
    subst e
    have hy : x = .tick := by
      split at hy <;> simp at hy
      exact hy
    subst hy
    unfold onC at hx
    simp only [List.mem_map, List.mem_append] at hx
    rcases hx with (hx | ⟨z', _, e⟩) | ⟨z', _, e⟩
    · split at hx <;> simp at hx
    · cases e
    · cases e
/-- what a client adds is its own -/
theorem lawIt_nd (w : Wo) (now : Int) (c : Bool) (cl : Cl) (F : List Ev) (hF : F.Nodup) (hc : ∀ k, Ev.on k c ∉ F) : (lawIt w now c cl F).Nodup := by
  have key : ∀ G : List Ev, G.Nodup → (∀ e ∈ G, ∃ k, e = .on k c) → (F ++ G).Nodup := fun G hG h => by
    rw [List.nodup_append]
    refine ⟨hF, hG, fun x hx y hy e => ?_⟩
    subst e
    obtain ⟨k, rfl⟩ := h x hy
    exact hc k hx
  unfold lawIt
  dsimp only
  cases cl.way with
  | none =>
    dsimp only
    rw [List.append_assoc]
    by_cases h : cl.left > now
    · simp only [h, if_true]
      exact key _ (by simp [onC]) (by simp [onC])
    · simp only [h, if_false]
      exact key _ (by simp [onC]) (by simp [onC])
  | some v =>
    dsimp only
    have : (F ++ (if cl.left > now then [Ev.on .use c] else []) ++ [Ev.on .arrive c] ++ (if w.loses = true then [Ev.on .lose c] else [])).Nodup := by
      rw [List.append_assoc, List.append_assoc]
      by_cases h : cl.left > now <;> cases w.loses <;> simp only [h, if_true, if_false] <;> exact key _ (by simp) (by simp)
    split
    · exact this.filter _
    · exact this
theorem lawIt_not (w : Wo) (now : Int) (cl : Cl) (k : Ew) : Ev.on k true ∉ lawIt w now false cl [.tick] := by
  unfold lawIt onC
  dsimp only
  by_cases h : cl.left > now <;> cases cl.way <;> cases w.loses <;> simp [h] <;> split <;> simp
theorem lawIt_fall (w : Wo) (now : Int) (c : Bool) (cl : Cl) (F : List Ev) (hF : Ev.fall ∉ F) : Ev.fall ∉ lawIt w now c cl F := by
  unfold lawIt onC
  dsimp only
  by_cases h : cl.left > now <;> cases cl.way <;> cases w.loses <;> simp [h, hF] <;> split <;> simp [hF]
theorem lawIt_perm (w : Wo) (s : Sd) (v : WV w s) : (lawIt w 50 true (knownC s.b) (lawIt w 50 false (knownC s.a) [.tick]) ++ (if w.falls then [Ev.fall] else [])).Perm (evsP w s) := by
  refine (List.perm_ext_iff_of_nodup ?_ (evsP_nd w s)).mpr fun e => lawIt_mem w s v e
  have h0 : (lawIt w 50 false (knownC s.a) [.tick]).Nodup := lawIt_nd _ _ _ _ _ (by simp) (by simp)
  have h1 := lawIt_nd w 50 true (knownC s.b) _ h0 (lawIt_not w 50 (knownC s.a))
  rw [List.nodup_append]
  refine ⟨h1, by split <;> simp, fun x hx y hy e => ?_⟩
  subst e
  have : x = .fall := by
    split at hy <;> simp at hy
    exact hy
  subst this
  exact lawIt_fall _ _ _ _ _ (lawIt_fall _ _ _ _ _ (by simp)) hx
theorem lawIt_len (w : Wo) (now : Int) (c : Bool) (cl : Cl) (F : List Ev) : (lawIt w now c cl F).length ≤ F.length + 3 := by
  unfold lawIt onC
  dsimp only
  have hf := fun H : List Ev => List.length_filter_le (fun e => decide (e ≠ .tick)) H
  by_cases h : cl.left > now <;> cases cl.way <;> cases w.loses <;> simp [h] <;> split <;> simp <;> (try omega) <;> grind
end BH
end

section
set_option Elab.async false
set_option linter.all false
set_option maxRecDepth 100000
set_option maxHeartbeats 8000000
/-! The law's clock: its list of what may come is the program's. -/
namespace BH
open PySem L2

theorem lc_tick (m : Nat → List D → Store → Out D) (chk : Store → Bool) (N : Store) (hc : chk N = true) (σ : Env) (h11 : σ.length = 12) : ∀ (es acc : List Ev), es.length + acc.length ≤ 1000 →
    lcL chk (evG m (.nm 11)) (evIf m [.cmp .NotEq (.var 11) (.tup [.cst (.str "tick")])]) (evE m (.var 11)) σ (es.map Ev.d) (acc.map Ev.d) N = newL N ((acc ++ es.filter fun e => decide (e ≠ Ev.tick)).map Ev.d)
  | [], acc, hl => by
    simp [lcL, hc]
  | e :: es, acc, hl => by
    have h1 : getV (σ.set 11 (some e.d)) 11 N = .ok e.d N := by unfold getV; rw [List.getElem?_set_self (by omega)]
    have hq : eqD N e.d (.tup [.str "tick"]) = some (decide (e = .tick)) := by
      rw [show D.tup [.str "tick"] = Ev.d .tick from rfl, eqD_pu (by simp) (by simp), ev_eq]
    have ih := lc_tick m chk N hc σ h11 es
    rw [List.map_cons]
    unfold lcL
    rw [if_pos hc]
    by_cases ht : e = .tick
    · have := ih acc (by simp at hl; omega)
      simp at this
      simp [h1, hq]
      simp [ht]
      exact this
    · have := ih (acc ++ [e]) (by simp at hl ⊢; omega)
      simp at this
      simp [h1, hq, ht]
      exact this
theorem le_it1 (w : Wo) (N J : Store) (k : Nat) (F : List Ev) (now : Int) (c : Bool) (cl : Cl) (l lp la lb : Nat) (dr : D)
    (hJ : J[k]? = some (.lst (F.map Ev.d))) (hl : F.length ≤ 900) (hp : N[lp]? = some (.lst [.ll la, .ll lb])) (hc : N[if c then lb else la]? = some (.lst [.int cl.left, .int cl.num, dr])) (x6 x7 x8 x9 x10 x11 : Option D) :
    ∃ J', evSs (evb tb supx 32) supx (leb.take 2) [some w.d, some (.ll l), some (.int now), some (.ll lp), some (.ll (N.length + k)), some (.int (cI c)), x6, x7, x8, x9, x10, x11] (N ++ J) =
      .nx [some w.d, some (.ll l), some (.int now), some (.ll lp), some (.ll (N.length + k)), some (.int (cI c)), some (.int cl.left), some (.int cl.num), some dr, x9, x10, x11] (N ++ J') ∧ J'[k]? = some (.lst ((F ++ (if cl.left > now then [Ev.on .use c] else [])).map Ev.d)) := by
  have hp' := app_get hp J
  have hc' := app_get hc J
  have hk : k < J.length := (List.getElem?_eq_some_iff.mp hJ).1
  have hz : F.length < 16777216 := by omega
  have hs : subD (.ll lp) (.int (cI c)) (N ++ J) = .ok (.ll (if c then lb else la)) (N ++ J) := by
    rw [sub_ll, hp']
    cases c <;> simp
  by_cases h : cl.left > now
  · have h' : now < cl.left := h
    refine ⟨J.set k (.lst ((F ++ [Ev.on .use c]).map Ev.d)), ?_, by simp [h', hk]⟩
    simp [leb, c__law_events, getV, hs, g_tupl, hc', h', meD_app, hJ, hz, Ev.d]
  · have h' : ¬ now < cl.left := h
    refine ⟨J, ?_, by simp [h', hJ]⟩
    simp [leb, c__law_events, getV, hs, g_tupl, hc', h']
theorem le_it2 (w : Wo) (N J : Store) (k : Nat) (G : List Ev) (now : Int) (c : Bool) (cl : Cl) (l lp : Nat) (dr : D) 
    (hJ : J[k]? = some (.lst (G.map Ev.d))) (hl : G.length ≤ 900) (hr : RdS N dr cl.way) (x9 x10 x11 : Option D) :
    ∃ J' k' y9, evSs (evb tb supx 32) supx (leb.drop 2) [some w.d, some (.ll l), some (.int now), some (.ll lp), some (.ll (N.length + k)), some (.int (cI c)), some (.int cl.left), some (.int cl.num), some dr, x9, x10, x11] (N ++ J) =
      .nx [some w.d, some (.ll l), some (.int now), some (.ll lp), some (.ll (N.length + k')), some (.int (cI c)), some (.int cl.left), some (.int cl.num), some dr, y9, x10, x11] (N ++ J') ∧
      J'[k']? = some (.lst ((match cl.way with
        | none => G ++ onC c (if cl.left > now then [.renew, .back] else [.ask])
        | some v => if now - v.wait ≥ w.delay then (G ++ [Ev.on .arrive c] ++ (if w.loses then [Ev.on .lose c] else [])).filter (fun e => decide (e ≠ Ev.tick)) else G ++ [Ev.on .arrive c] ++ (if w.loses then [Ev.on .lose c] else [])).map Ev.d)) := by
  have hk : k < J.length := (List.getElem?_eq_some_iff.mp hJ).1
  have hJ' := app_get hJ
  have hz1 : G.length + 1 ≤ 16777216 := by omega
  have hz2 : G.length + 2 ≤ 16777216 := by omega
  have hz3 : G.length + 1 + 1 ≤ 16777216 := by omega
  have hb := D.beqL_refl
  obtain ⟨delay, loses, falls⟩ := w
  obtain ⟨left, num, way⟩ := cl
  generalize hq : evSs (evb tb supx 32) supx (leb.drop 2) _ _ = q
  cases way with
  | none =>
    cases hr
    dsimp only
    by_cases h : now < left
    · simp [leb, c__law_events, getV, h, newL, binD, lcL, Itm.chk, Itm.ds, itm_ll, wipeD, hJ', hJ, hz1, hz2, hb] at hq
      subst hq
      exact ⟨_, _, _, rfl, by simp [onC, h, Ev.d]⟩
    · simp [leb, c__law_events, getV, h, newL, binD, lcL, Itm.chk, Itm.ds, itm_ll, wipeD, hJ', hJ, hz1, hz2, hb] at hq
      subst hq
      exact ⟨_, _, _, rfl, by simp [onC, h, Ev.d]⟩
  | some v =>
    obtain ⟨q0, rfl, hq0⟩ := hr
    have hq0' := app_get hq0
    dsimp only
    have hgen : ∀ (H : List Ev), H.length ≤ 999 → ∀ (J : Store) (j : Nat), J[j]? = some (.lst (H.map Ev.d)) →
        lcL (Itm.chk (.lis (N.length + j) (H.map Ev.d))) (evG (evb tb supx 32) (.nm 11)) (evIf (evb tb supx 32) [.cmp .NotEq (.var 11) (.tup [.cst (.str "tick")])]) (evE (evb tb supx 32) (.var 11))
          [some (.tup [.int delay, .bl loses, .bl falls]), some (.ll l), some (.int now), some (.ll lp), some (.ll (N.length + j)), some (.int (cI c)), some (.int left), some (.int num), some (.ll q0), x9, x10, none] (H.map Ev.d) [] (N ++ J) = newL (N ++ J) ((H.filter fun e => decide (e ≠ Ev.tick)).map Ev.d) := fun H hH J j hj => by
      have := lc_tick (evb tb supx 32) (Itm.chk (.lis (N.length + j) (H.map Ev.d))) (N ++ J) (by rw [chk_ll, st_get, hj]; exact hb _) [some (.tup [.int delay, .bl loses, .bl falls]), some (.ll l), some (.int now), some (.ll lp), some (.ll (N.length + j)), some (.int (cI c)), some (.int left), some (.int num), some (.ll q0), x9, x10, none] rfl H [] (by simp; omega)
      simpa using this
    have e1 : leb.drop 2 = [.iff (.cmp .Is (.var 8) (.cst .non)) [(.asg (.nm 9) (.ife (.cmp .Gt (.var 6) (.var 2)) (.lst [(.cst (.str "renew")), (.cst (.str "back"))]) (.lst [(.cst (.str "ask"))]))), (.asg (.nm 4) (.bin .Add (.var 4) (.lc (.tup [(.var 10), (.var 5)]) (.nm 10) (.ex (.var 9)) [] [10])))]
      ([(.asg (.nm 4) (.bin .Add (.bin .Add (.var 4) (.lst [(.tup [(.cst (.str "arrive")), (.var 5)])])) (.bin .Mult (.lst [(.tup [(.cst (.str "lose")), (.var 5)])]) (.bi .int [(.sub (.var 0) (.cst (.int 1)))]))))] ++ [(.iff (.cmp .GtE (.bin .Sub (.var 2) (.sub (.var 8) (.cst (.int 1)))) (.sub (.var 0) (.cst (.int 0)))) [(.asg (.nm 4) (.lc (.var 11) (.nm 11) (.ex (.var 4)) [(.cmp .NotEq (.var 11) (.tup [(.cst (.str "tick"))]))] [11]))] [])])] := rfl
    obtain ⟨J1, j1, h1, h2⟩ : ∃ J1 j1, evSs (evb tb supx 32) supx [(.asg (.nm 4) (.bin .Add (.bin .Add (.var 4) (.lst [(.tup [(.cst (.str "arrive")), (.var 5)])])) (.bin .Mult (.lst [(.tup [(.cst (.str "lose")), (.var 5)])]) (.bi .int [(.sub (.var 0) (.cst (.int 1)))]))))]
        [some (.tup [.int delay, .bl loses, .bl falls]), some (.ll l), some (.int now), some (.ll lp), some (.ll (N.length + k)), some (.int (cI c)), some (.int left), some (.int num), some (.ll q0), x9, x10, x11] (N ++ J) =
        .nx [some (.tup [.int delay, .bl loses, .bl falls]), some (.ll l), some (.int now), some (.ll lp), some (.ll (N.length + j1)), some (.int (cI c)), some (.int left), some (.int num), some (.ll q0), x9, x10, x11] (N ++ J1) ∧ J1[j1]? = some (.lst ((G ++ [Ev.on .arrive c] ++ (if loses then [Ev.on .lose c] else [])).map Ev.d)) := by
      generalize hw : evSs (evb tb supx 32) supx _ _ _ = z
      cases loses
      · simp [getV, newL, binD, hJ', hJ, hz1, hz2] at hw
        subst hw
        exact ⟨_, _, rfl, by simp [Ev.d]⟩
      · simp [getV, newL, binD, hJ', hJ, hz1, hz2] at hw
        subst hw
        exact ⟨_, _, rfl, by simp [Ev.d]⟩
    generalize hH : G ++ [Ev.on .arrive c] ++ (if loses then [Ev.on .lose c] else []) = H at h2 ⊢
    have lH : H.length ≤ 902 := by rw [← hH]; cases loses <;> simp <;> omega
    have hg := hgen H (by omega) J1 j1 h2
    have lf : (H.filter fun e => decide (e ≠ Ev.tick)).length ≤ 16777216 := by have := List.length_filter_le (fun e => decide (e ≠ Ev.tick)) H; omega
    rw [e1] at hq
    have hq1 := app_get hq0 J1
    by_cases hw : now - v.wait ≥ delay
    · have hw' : delay ≤ now - v.wait := hw
      rw [if_pos hw]
      simp only [ss_consE, s_iffE, t_ev, e_cmp, e_var, getV, List.getElem?_cons_succ, List.getElem?_cons_zero, b_ok, k2E, e_cst, is_ln, truO_bl, so_okE, sIfE, Bool.false_eq_true, if_false] at hq
      rw [evSs_app] at hq
      rw [show Wo.d ⟨delay, loses, falls⟩ = .tup [.int delay, .bl loses, .bl falls] from rfl] at hq ⊢
      rw [h1] at hq
      simp [getV, sub_ll, hq1, hw', itm_ll, h2, Itm.ds, wipeD] at hq
      simp at hg
      rw [hg] at hq
      simp [newL, lf] at hq
      rw [if_pos (by simpa using lf)] at hq
      subst hq
      exact ⟨_, _, _, by rfl, by simp⟩
    · have hw' : ¬ delay ≤ now - v.wait := hw
      rw [if_neg hw]
      simp only [ss_consE, s_iffE, t_ev, e_cmp, e_var, getV, List.getElem?_cons_succ, List.getElem?_cons_zero, b_ok, k2E, e_cst, is_ln, truO_bl, so_okE, sIfE, Bool.false_eq_true, if_false] at hq
      rw [evSs_app] at hq
      rw [show Wo.d ⟨delay, loses, falls⟩ = .tup [.int delay, .bl loses, .bl falls] from rfl] at hq ⊢
      rw [h1] at hq
      simp [getV, sub_ll, hq1, hw'] at hq
      subst hq
      exact ⟨_, _, _, rfl, h2⟩
end BH
end

section
set_option Elab.async false
set_option linter.all false
set_option maxRecDepth 100000
set_option maxHeartbeats 8000000
/-! The law's clock: _law_events, _law_at. -/
namespace BH
open PySem L2

theorem leb_eq : leb = leb.take 2 ++ leb.drop 2 := rfl
theorem le_it (w : Wo) (N J : Store) (k : Nat) (F : List Ev) (now : Int) (c : Bool) (cl : Cl) (l lp la lb : Nat) (dr : D)
    (hJ : J[k]? = some (.lst (F.map Ev.d))) (hl : F.length ≤ 800) (hp : N[lp]? = some (.lst [.ll la, .ll lb])) (hc : N[if c then lb else la]? = some (.lst [.int cl.left, .int cl.num, dr])) (hr : RdS N dr cl.way) (x6 x7 x8 x9 x10 x11 : Option D) :
    ∃ J' k' y6 y7 y8 y9, evSs (evb tb supx 32) supx leb [some w.d, some (.ll l), some (.int now), some (.ll lp), some (.ll (N.length + k)), some (.int (cI c)), x6, x7, x8, x9, x10, x11] (N ++ J) =
      .nx [some w.d, some (.ll l), some (.int now), some (.ll lp), some (.ll (N.length + k')), some (.int (cI c)), y6, y7, y8, y9, x10, x11] (N ++ J') ∧ J'[k']? = some (.lst ((lawIt w now c cl F).map Ev.d)) := by
  obtain ⟨J1, h1, h2⟩ := le_it1 w N J k F now c cl l lp la lb dr hJ (by omega) hp hc x6 x7 x8 x9 x10 x11
  obtain ⟨J2, k2, y9, h3, h4⟩ := le_it2 w N J1 k _ now c cl l lp dr h2 (by simp; split <;> simp <;> omega) hr x9 x10 x11
  refine ⟨J2, k2, some (.int cl.left), some (.int cl.num), some dr, y9, ?_, ?_⟩
  · rw [leb_eq, evSs_app, h1]
    exact h3
  · rw [h4]
    unfold lawIt
    cases cl.way <;> rfl
theorem c_le_eq : c__law_events = c__law_events.take 1 ++ [.for_ (.nm 5) (.ex (.tup [(.cst (.int 0)), (.cst (.int 1))])) leb, (.ret (.srt (.bin .Add (.var 4) (.bin .Mult (.lst [(.tup [(.cst (.str "fall"))])]) (.bi .int [(.sub (.var 0) (.cst (.int 2)))])))))] := rfl
theorem r_events (w : Wo) (s : LS) (l : Nat) (N : Store) (h : LSt N l s) : run 32 [w.d, .ll l] N = .ok (.ll N.length) (N ++ [.lst (sortD ((lawIt w s.now true s.b (lawIt w s.now false s.a [.tick]) ++ (if w.falls then [Ev.fall] else [])).map Ev.d))]) := by
  obtain ⟨lh, lp, la, lb, da, db, hl, hh, hp, ha, hb, ra, rb⟩ := h.ex
  obtain ⟨J1, k1, y6, y7, y8, y9, h1, g1⟩ := le_it w N [.lst ([Ev.tick].map Ev.d)] 0 [.tick] s.now false s.a l lp la lb da rfl (by simp) hp ha ra none none none none none none
  have l1 := lawIt_len w s.now false s.a [.tick]
  obtain ⟨J2, k2, z6, z7, z8, z9, h2, g2⟩ := le_it w N J1 k1 _ s.now true s.b l lp la lb db g1 (by simp at l1; omega) hp hb rb y6 y7 y8 y9 none none
  have l2 := lawIt_len w s.now true s.b (lawIt w s.now false s.a [.tick])
  generalize lawIt w s.now true s.b (lawIt w s.now false s.a [.tick]) = G at g2 l2 ⊢
  have lG : G.length ≤ 7 := by simp at l1; omega
  clear l1 l2
  rw [run, evm_eq tb supx t__law_events, c_le_eq, evSs_app]
  have h0 : evSs (evb tb supx 32) supx (c__law_events.take 1) (startD 12 [w.d, .ll l]) N = .nx [some w.d, some (.ll l), some (.int s.now), some (.ll lp), some (.ll N.length), none, none, none, none, none, none, none] (N ++ [.lst ([Ev.tick].map Ev.d)]) := by
    simp [c__law_events, startD, getV, sub_ll, hl, newL, sPar, setAll, Ev.d]
  rw [h0]
  simp only [Nat.add_zero, cI_f, cI_t, List.map_cons, List.map_nil] at h1 h2
  simp only [seq_nxE]
  have g2' := app_get g2
  have hk : k2 < J2.length := (List.getElem?_eq_some_iff.mp g2).1
  obtain ⟨delay, loses, falls⟩ := w
  rw [show Wo.d ⟨delay, loses, falls⟩ = .tup [.int delay, .bl loses, .bl falls] from rfl] at h1 h2 ⊢
  have hz : G.length ≤ 16777216 := by omega
  have hz1 : G.length + 1 ≤ 16777216 := by omega
  cases falls
  · have hs := srtD_ok (M := N ++ (J2 ++ [MO.lst [D.tup [D.str (Str.ofString "fall")]], MO.lst [], MO.lst (G.map Ev.d)])) (l := N.length + (J2.length + 2)) (ds := G.map Ev.d) (by simp) (ev_puL 63 _) (ev_srt _)
    have hgc := gc_list (M := N) (J := J2 ++ [MO.lst [D.tup [D.str (Str.ofString "fall")]], MO.lst [], MO.lst (G.map Ev.d), MO.lst (sortD (G.map Ev.d))]) (k := J2.length + 3) (ds := sortD (G.map Ev.d)) (by simp) (by rw [loL_perm _ (sortD_perm _)]; exact loL_evs _ _)
    unfold newL at hs
    rw [if_pos (by rw [sortD_len]; simp; omega)] at hs
    generalize hR : sortD (G.map Ev.d) = R at hs hgc
    simp at hs
    simp [forL, Itm.chk, Itm.ds, itmD, h1, h2, getV, newL, binD, g2, g2', hz, hs]
    rw [hR]
    exact hgc
  · have e4 : (G ++ [Ev.fall]).map Ev.d = G.map Ev.d ++ [D.tup [D.str (Str.ofString "fall")]] := by simp [Ev.d]
    have hs := srtD_ok (M := N ++ (J2 ++ [MO.lst [D.tup [D.str (Str.ofString "fall")]], MO.lst [D.tup [D.str (Str.ofString "fall")]], MO.lst ((G ++ [Ev.fall]).map Ev.d)])) (l := N.length + (J2.length + 2)) (ds := (G ++ [Ev.fall]).map Ev.d) (by simp) (ev_puL 63 _) (ev_srt _)
    have hgc := gc_list (M := N) (J := J2 ++ [MO.lst [D.tup [D.str (Str.ofString "fall")]], MO.lst [D.tup [D.str (Str.ofString "fall")]], MO.lst ((G ++ [Ev.fall]).map Ev.d), MO.lst (sortD ((G ++ [Ev.fall]).map Ev.d))]) (k := J2.length + 3) (ds := sortD ((G ++ [Ev.fall]).map Ev.d)) (by simp) (by rw [loL_perm _ (sortD_perm _)]; exact loL_evs _ _)
    unfold newL at hs
    rw [if_pos (by rw [sortD_len]; simp; omega)] at hs
    generalize hR : sortD ((G ++ [Ev.fall]).map Ev.d) = R at hs hgc
    rw [e4] at hs hgc
    simp at hs
    simp [forL, Itm.chk, Itm.ds, itmD, h1, h2, getV, newL, binD, g2, g2', hz1, hs]
    rw [show G.map Ev.d ++ [Ev.fall.d] = (G ++ [Ev.fall]).map Ev.d by simp, hR]
    exact hgc
/-- the law's list is the program's -/
theorem r_at (w : Wo) (s : Sd) (v : WV w s) (M : Store) : run 36 [w.d, s.d] M = .ok (.ll M.length) (M ++ [.lst (sortD ((evsP w s).map Ev.d))]) := by
  rw [run, evm_eq tb supx t__law_at]
  obtain ⟨X, k, h1, h2⟩ := r_known M s
  have h3 := r_events w (known s) _ _ h2
  have e : sortD ((lawIt w (known s).now true (known s).b (lawIt w (known s).now false (known s).a [.tick]) ++ (if w.falls then [Ev.fall] else [])).map Ev.d) = sortD ((evsP w s).map Ev.d) := sortD_ev (lawIt_perm w s v)
  rw [e] at h3
  have hgc := gc_list (M := M) (J := X ++ [MO.lst (sortD ((evsP w s).map Ev.d))]) (k := X.length) (ds := sortD ((evsP w s).map Ev.d)) (by simp) (by rw [loL_perm _ (sortD_perm _)]; exact loL_evs _ _)
  generalize sortD ((evsP w s).map Ev.d) = R at h3 hgc ⊢
  simp at h3
  simp [c__law_at, startD, getV, h1, h3]
  exact hgc
end BH
end

section
set_option Elab.async false
set_option linter.all false
set_option maxRecDepth 100000
set_option maxHeartbeats 8000000
/-! The law's turns: a run is drawn. -/
namespace BH
open PySem L2

mutual
theorem D.eq_self : ∀ (n : Nat) (d : D), D.pu n d = true → D.eq d d = true
  | _, .non, _ => by simp
  | _, .bl _, _ => by simp
  | _, .int _, _ => by simp
  | _, .str _, _ => by simp
  | 0, .tup ds, h => by simp [D.pu] at h
  | n + 1, .tup ds, h => by rw [eq_tt]; exact D.eqL_self n ds (by simpa [D.pu] using h)
  | n, .ll _, h => by cases n <;> simp [D.pu] at h
  | n, .dl _, h => by cases n <;> simp [D.pu] at h
  | n, .ol _ _, h => by cases n <;> simp [D.pu] at h
  | n, .fn _, h => by cases n <;> simp [D.pu] at h
  | n, .lsf _, h => by cases n <;> simp [D.pu] at h
theorem D.eqL_self : ∀ (n : Nat) (ds : List D), D.puL n ds = true → D.eqL ds ds = true
  | _, [], _ => rfl
  | n, d :: ds, h => by
    simp only [D.puL, Bool.and_eq_true] at h
    rw [eqL_cc, D.eq_self n d h.1, D.eqL_self n ds h.2]
    rfl
end
theorem eqD_ll {M : Store} {a b : Nat} {xs ys : List D} (ha : M[a]? = some (.lst xs)) (hb : M[b]? = some (.lst ys)) (px : D.puL 63 xs = true) (py : D.puL 63 ys = true) : eqD M (.ll a) (.ll b) = some (D.eqL xs ys) := by
  have key : ∀ {l : Nat} {ds : List D}, M[l]? = some (.lst ds) → D.puL 63 ds = true → res 66 M (.ll l) = some (.list (D.pys ds)) ∧ shp (.list (D.pys ds)) = true := fun {l ds} hl hp => by
    obtain ⟨h1, h2, h3⟩ := res_puL M ds 63 65 hp (by omega)
    refine ⟨by simp only [res, hl, h1, Option.map_some], ?_⟩
    show ((PyData.list (D.pys ds)).canLay0 && decide ((PyData.list (D.pys ds)).depth ≤ 64)) = true
    simp only [PyData.canLay0, PyData.depth, h2]
    simp
    omega
  obtain ⟨a1, a2⟩ := key ha px
  obtain ⟨b1, b2⟩ := key hb py
  unfold eqD
  rw [a1, b1]
  dsimp only
  rw [a2, b2]
  simp only [Bool.and_self, if_true, PyData.eqv, eqvAll_pys]
theorem evsP_ne (w : Wo) (s : Sd) : 0 < (evsP w s).length := by
  unfold evsP
  by_cases h : (lateOf w s.a || lateOf w s.b) = true
  · rw [if_pos h]
    unfold onC wordsOf
    rw [Bool.or_eq_true] at h
    rcases h with h | h
    · unfold lateOf at h
      cases hw : s.a.way with
      | none => rw [hw] at h; simp at h
      | some v => cases w.loses <;> simp <;> omega
    · unfold lateOf at h
      cases hw : s.b.way with
      | none => rw [hw] at h; simp at h
      | some v => cases w.loses <;> simp <;> omega
  · rw [if_neg h]
    simp only [List.length_append, List.length_singleton]
    omega
theorem okR_snoc (w : Wo) (r : Ru) (e : Ev) : ∀ (es : List Ev) (s : Sd), OkR w r s es → e ∈ evsP w (lastR r s es) → OkR w r s (es ++ [e])
  | [], s, _, h => ⟨h, trivial⟩
  | x :: es, s, ok, h => ⟨ok.1, okR_snoc w r e es _ ok.2 h⟩
theorem lastR_snoc (r : Ru) (e : Ev) : ∀ (es : List Ev) (s : Sd), lastR r s (es ++ [e]) = (stepP r (lastR r s es) e).1
  | [], s => rfl
  | x :: es, s => lastR_snoc r e es _
theorem wordsR_snoc (r : Ru) (e : Ev) : ∀ (es : List Ev) (s : Sd), wordsR r s (es ++ [e]) = wordsR r s es ++ [(stepP r (lastR r s es) e).2]
  | [], s => rfl
  | x :: es, s => by
    show _ :: wordsR r _ (es ++ [e]) = _ :: (wordsR r _ es ++ _)
    rw [wordsR_snoc r e es]
    rfl
theorem wordsR_len (r : Ru) : ∀ (es : List Ev) (s : Sd), (wordsR r s es).length = es.length
  | [], _ => rfl
  | e :: es, s => by simp [wordsR, wordsR_len r es]
theorem vs_last {w : Wo} {r : Ru} (hr : r.ok = true) : ∀ (es : List Ev) (s : Sd), VS r s → VS r (lastR r s es)
  | [], _, v => v
  | e :: es, s, v => vs_last (w := w) hr es _ (vs_step v hr e)
theorem wv_last {w : Wo} (r : Ru) (hd : 0 ≤ w.delay) : ∀ (es : List Ev) (s : Sd), WV w s → OkR w r s es → WV w (lastR r s es)
  | [], _, v, _ => v
  | e :: es, s, v, ok => wv_last r hd es _ (wv_step v hd e ok.1) ok.2
def lawLoop : List CS := match c_law with
  | [.for_ _ _ b, _, _, _] => b
  | _ => []
def tbl : List CS := match lawLoop with
  | [_, _, _, .for_ _ _ b, _, _, _, _, _, _, _, _] => b
  | _ => []
def wdsD (r : Ru) (es : List Ev) : List D := (wordsR r first es).map fun x => .str x.s
theorem turn_it (w : Wo) (r : Ru) (hd : 0 ≤ w.delay) (hr : r.ok = true) (es : List Ev) (N : Store) (l t : Nat) (hS : Src N l) (ht : N[t]? = some (.lst (wdsD r es))) (ok : OkR w r first es) (hl : es.length ≤ 500) (x0 x1 x8 x9 x10 x11 x12 x13 x14 x15 : Option D) :
    ∃ e N' t' y9 y10, e ∈ evsP w (lastR r first es) ∧ evSs (evb tb supx 39) supx tbl [x0, x1, some (.ll l), some w.d, some r.d, some (lastR r first es).d, some (.tup (es.map Ev.d)), some (.ll t), x8, x9, x10, x11, x12, x13, x14, x15] N =
      .nx [x0, x1, some (.ll l), some w.d, some r.d, some (lastR r first (es ++ [e])).d, some (.tup ((es ++ [e]).map Ev.d)), some (.ll t'), x8, y9, y10, x11, x12, x13, x14, x15] N' ∧ Src N' l ∧ N'[t']? = some (.lst (wdsD r (es ++ [e]))) := by
  have vs := vs_last (w := w) hr es first (vs_first r)
  have wv := wv_last r hd es first (wv_first w) ok
  have hne := evsP_ne w (lastR r first es)
  have hat := r_at w (lastR r first es) wv N
  have hle : (evsP w (lastR r first es)).length ≤ 14 := by
    unfold evsP onC
    have a := wordsOf_len w (lastR r first es).a
    have b := wordsOf_len w (lastR r first es).b
    split <;> split <;> simp <;> omega
  obtain ⟨d, N', hdm, hdr, hch⟩ := chosen_dr (dr_refl hS) (sortD ((evsP w (lastR r first es)).map Ev.d)) (by rw [sortD_len]; simpa using hne) (by rw [sortD_len]; simp; omega) (fun d hd => by
    rw [(sortD_perm _).mem_iff] at hd
    simp only [List.mem_map] at hd
    obtain ⟨e, _, rfl⟩ := hd
    simp)
  rw [(sortD_perm _).mem_iff] at hdm
  simp only [List.mem_map] at hdm
  obtain ⟨e, he, rfl⟩ := hdm
  have hal : ∀ c, e = .on .arrive c → ((lastR r first es).cl c).way ≠ none := fun c z => by subst z; exact arrive_way he
  have hnx := r_next r (lastR r first es) e N' hal
  rw [next_eq vs hr e hal] at hnx
  have hstep := lastR_snoc r e es first
  have hwd : wdsD r (es ++ [e]) = wdsD r es ++ [.str (stepP r (lastR r first es) e).2.s] := by
    unfold wdsD
    rw [wordsR_snoc]
    simp
  have htlen : t < N.length := (List.getElem?_eq_some_iff.mp ht).1
  have hwl : (wdsD r es).length = es.length := by unfold wdsD; rw [List.length_map, wordsR_len]
  have hlt := hdr.lt
  have hlen := hdr.len
  obtain ⟨sa, sb, hsl, sb1, sb2⟩ := hdr.src
  have hz1 : es.length + 1 ≤ 16777216 := by omega
  refine ⟨e, ?_⟩
  rw [hstep, hwd]
  generalize (stepP r (lastR r first es) e) = st at *
  generalize hq : evSs (evb tb supx 39) supx tbl _ _ = q
  by_cases htl : t = l
  · subst htl
    obtain ⟨a, b, h1, _⟩ := hS
    rw [h1] at ht
    injection ht with ht
    injection ht with ht
    unfold wdsD at ht
    cases hw : wordsR r first es with
    | nil => rw [hw] at ht; simp at ht
    | cons x xs => rw [hw] at ht; simp at ht
  · have ht' : N'[t]? = some (.lst (wdsD r es)) := by rw [hdr.eq t htlen htl]; exact ht
    have ht2 := app_get ht'
    have hz2 : (wdsD r es).length + 1 ≤ 16777216 := by omega
    simp [tbl, lawLoop, c_law, getV, hat, hch, hnx, newL, binD, ht2, sPar, setAll, hwl, hz1] at hq
    subst hq
    exact ⟨N' ++ [MO.lst [D.str st.2.s], MO.lst (wdsD r es ++ [D.str st.2.s])], N'.length + 1, some e.d, some (.str st.2.s), he, by simp, ⟨sa, sb, by rw [List.getElem?_append_left (by omega)]; exact hsl, sb1, sb2⟩, by simp⟩
/-- all turns -/
theorem turns (w : Wo) (r : Ru) (hd : 0 ≤ w.delay) (hr : r.ok = true) (l : Nat) (x0 x1 x11 x12 x13 x14 x15 : Option D) : ∀ (xs : List D) (es : List Ev) (N : Store) (t : Nat) (x8 x9 x10 : Option D), Src N l → N[t]? = some (.lst (wdsD r es)) → OkR w r first es → es.length + xs.length ≤ 400 →
    ∃ fs N' t' y8 y9 y10, fs.length = es.length + xs.length ∧ OkR w r first fs ∧ forL (fun _ => true) (evG (evb tb supx 39) (.nm 8)) (evSs (evb tb supx 39) supx tbl) xs [x0, x1, some (.ll l), some w.d, some r.d, some (lastR r first es).d, some (.tup (es.map Ev.d)), some (.ll t), x8, x9, x10, x11, x12, x13, x14, x15] N =
      .nx [x0, x1, some (.ll l), some w.d, some r.d, some (lastR r first fs).d, some (.tup (fs.map Ev.d)), some (.ll t'), y8, y9, y10, x11, x12, x13, x14, x15] N' ∧ Src N' l ∧ N'[t']? = some (.lst (wdsD r fs))
  | [], es, N, t, x8, x9, x10, hS, ht, ok, hl => ⟨es, N, t, x8, x9, x10, rfl, ok, by rw [forL_nil], hS, ht⟩
  | x :: xs, es, N, t, x8, x9, x10, hS, ht, ok, hl => by
    simp only [List.length_cons] at hl
    obtain ⟨e, N', t', y9, y10, he, h1, h2, h3⟩ := turn_it w r hd hr es N l t hS ht ok (by omega) x0 x1 (some x) x9 x10 x11 x12 x13 x14 x15
    obtain ⟨fs, N2, t2, z8, z9, z10, g0, g1, g2, g3, g4⟩ := turns w r hd hr l x0 x1 x11 x12 x13 x14 x15 xs (es ++ [e]) N' t' (some x) y9 y10 h2 h3 (okR_snoc w r e es first ok he) (by simp; omega)
    refine ⟨fs, N2, t2, z8, z9, z10, by simp at g0 ⊢; omega, g1, ?_, g3, g4⟩
    rw [forL_cons]
    simp only [g_nm, soN_okE, forKE]
    show (SO.turn (evSs (evb tb supx 39) supx tbl [x0, x1, some (.ll l), some w.d, some r.d, some (lastR r first es).d, some (.tup (es.map Ev.d)), some (.ll t), some x, x9, x10, x11, x12, x13, x14, x15] N) _) = _
    rw [h1]
    simp only [turn_nxE]
    exact g2
end BH
end

section
set_option Elab.async false
set_option linter.all false
set_option maxRecDepth 100000
set_option maxHeartbeats 8000000
/-! The plain law: what a run stands at is a stand. -/
namespace BH

structure GC (r : Ru) (c : Cl) : Prop where
  lu : c.left ≤ r.use
  pos : 0 < c.left → 0 < c.num
  way : ∀ u, c.way = some u → 0 ≤ u.wait ∧ (u.kd ≠ .back → min u.wait r.use ≤ u.since) ∧ (0 < u.num ↔ u.kd = .yes)
structure GV (r : Ru) (s : Sd) : Prop where
  keep : s.kept ≤ r.keep
  rest : s.rest ≤ r.rest
  hl : s.holder ≠ none → 0 < s.last
  a : GC r s.a
  b : GC r s.b
  top : ∀ x ∈ numbersOf s, x ≤ s.last
/-- the numbers are told by 1, 2, 3 and so on -/
def KN (s : Sd) : Prop := ∃ m : Nat, m ≤ 6 ∧ s.last = m ∧ ∀ j : Int, (0 < j ∧ j ∈ numbersOf s) ↔ (1 ≤ j ∧ j ≤ m)
structure Inv (w : Wo) (r : Ru) (s : Sd) : Prop where
  vs : VS r s
  wv : WV w s
  gv : GV r s
  kn : KN s
theorem gc_way {r : Ru} {c : Cl} (h : GC r c) (w : Option Wy) (hw : ∀ u, w = some u → 0 ≤ u.wait ∧ (u.kd ≠ .back → min u.wait r.use ≤ u.since) ∧ (0 < u.num ↔ u.kd = .yes)) : GC r ⟨c.left, c.num, w⟩ := ⟨h.lu, h.pos, hw⟩
theorem gc_none {r : Ru} {c : Cl} (h : GC r c) : GC r ⟨c.left, c.num, none⟩ := gc_way h none (fun u z => nomatch z)
theorem gc_later {r : Ru} {c : Cl} (h : GC r c) (v : CV r c) (u1 : 1 ≤ r.use) : GC r (laterP r c) := by
  have hw : ∀ u, c.way.map (laterW r) = some u → 0 ≤ u.wait ∧ (u.kd ≠ .back → min u.wait r.use ≤ u.since) ∧ (0 < u.num ↔ u.kd = .yes) := by
    intro u hu
    cases hc : c.way with
    | none => rw [hc] at hu; simp at hu
    | some w =>
      rw [hc] at hu
      simp only [Option.map, Option.some.injEq] at hu
      subst hu
      obtain ⟨a1, a2, a3⟩ := h.way w hc
      refine ⟨by show 0 ≤ w.wait + 1; omega, fun z => ?_, a3⟩
      have z : w.kd ≠ .back := z
      have := a2 z
      simp only [laterW]
      rw [if_neg z]
      omega
  have h1 := h.lu
  have h2 := h.pos
  have h3 := v.left
  unfold laterP
  split
  · exact ⟨by show c.left - 1 ≤ r.use; omega, fun z => h2 (by omega), hw⟩
  · exact ⟨by show (0 : Int) ≤ r.use; omega, fun z => absurd z (by show ¬ (0 : Int) < 0; omega), hw⟩
theorem gc_rk {r : Ru} {c : Cl} {L : List Int} (h : GC r c) (hp : ∀ x ∈ c.num :: wn c, 0 < x ↔ 0 < rk L x) : GC r (rkC L c) := by
  refine ⟨h.lu, fun z => (hp _ (by simp)).mp (h.pos z), ?_⟩
  intro u hu
  unfold rkC at hu
  dsimp only at hu
  cases hc : c.way with
  | none => rw [hc] at hu; simp at hu
  | some w =>
    rw [hc] at hu
    simp only [Option.map, Option.some.injEq] at hu
    subst hu
    obtain ⟨a1, a2, a3⟩ := h.way w hc
    exact ⟨a1, a2, by rw [← a3]; exact (hp w.num (by simp [wn, hc])).symm⟩
theorem rk_at {L : List Int} {x : Int} (hx : x ∈ L) : ∃ k : Nat, ∃ h : k < (setI L).length, rk L x = k ∧ (setI L)[k] = x := by
  have hx2 := (setI_mem x L).mpr hx
  have lx : (setI L).findIdx (fun z => decide (z = x)) < (setI L).length := List.findIdx_lt_length_of_exists ⟨x, hx2, by simp⟩
  exact ⟨_, lx, rfl, by simpa using List.findIdx_getElem (w := lx)⟩
theorem rk_inj {L : List Int} {x y : Int} (hx : x ∈ L) (hy : y ∈ L) (h : rk L x = rk L y) : x = y := by
  obtain ⟨k, k1, k2, k3⟩ := rk_at hx
  obtain ⟨j, j1, j2, j3⟩ := rk_at hy
  have : k = j := by omega
  subst this
  rw [← k3, ← j3]
theorem rk_on {L : List Int} (k : Nat) (h : k < (setI L).length) : ∃ x ∈ L, rk L x = k := by
  refine ⟨(setI L)[k], (setI_mem _ L).mp (List.getElem_mem h), ?_⟩
  obtain ⟨j, j1, j2, j3⟩ := rk_at ((setI_mem _ L).mp (List.getElem_mem h))
  rw [j2]
  have asc := setI_asc L
  by_cases a : j < k
  · have := List.pairwise_iff_getElem.mp asc _ _ j1 h a
    omega
  · by_cases b : k < j
    · have := List.pairwise_iff_getElem.mp asc _ _ h j1 b
      omega
    · omega
theorem rk_mono {L : List Int} {x y : Int} (hx : x ∈ L) (hy : y ∈ L) (h : x ≤ y) : rk L x ≤ rk L y := by
  obtain ⟨k, k1, k2, k3⟩ := rk_at hx
  obtain ⟨j, j1, j2, j3⟩ := rk_at hy
  by_cases hlt : j < k
  · have := List.pairwise_iff_getElem.mp (setI_asc L) _ _ j1 k1 hlt
    omega
  · omega
theorem rk_pos {L : List Int} {x : Int} (h0 : (0 : Int) ∈ L) (hp : ∀ x ∈ L, 0 ≤ x) (hx : x ∈ L) : 0 < x ↔ 0 < rk L x := by
  have z := rk_zero h0 hp
  constructor
  · intro h
    have nn := rk_nn L x
    by_cases e : rk L x = 0
    · have := rk_inj hx h0 (by rw [e, z])
      omega
    · omega
  · intro h
    by_cases e : x = 0
    · subst e; omega
    · have := hp x hx; omega
theorem rkC_wn (L : List Int) (c : Cl) : wn (rkC L c) = (wn c).map (rk L) := by
  unfold wn rkC
  cases c.way <;> rfl
theorem num_ranked (s : Sd) : numbersOf (rankedP s) = (numbersOf s).map (rk (numbersOf s ++ [0])) := by
  have e : numbersOf (rankedP s) = [(rankedP s).last, (rankedP s).used, (rankedP s).a.num, (rankedP s).b.num] ++ wn (rankedP s).a ++ wn (rankedP s).b := rfl
  have e2 : numbersOf s = [s.last, s.used, s.a.num, s.b.num] ++ wn s.a ++ wn s.b := rfl
  rw [e]
  show [rk (numbersOf s ++ [0]) s.last, rk (numbersOf s ++ [0]) s.used, rk (numbersOf s ++ [0]) s.a.num, rk (numbersOf s ++ [0]) s.b.num] ++ wn (rkC (numbersOf s ++ [0]) s.a) ++ wn (rkC (numbersOf s ++ [0]) s.b) = _
  rw [rkC_wn, rkC_wn]
  generalize numbersOf s ++ [0] = L
  rw [e2]
  simp
theorem gv_ranked {r : Ru} {s : Sd} (v : VS r s) (g : GV r s) : GV r (rankedP s) := by
  have h0 : (0 : Int) ∈ numbersOf s ++ [0] := by simp
  have hp := vs_nonneg v
  have key : ∀ x ∈ numbersOf s, 0 < x ↔ 0 < rk (numbersOf s ++ [0]) x := fun x hx => rk_pos h0 hp (by simp [hx])
  have ml : s.last ∈ numbersOf s := by simp [numbersOf]
  refine ⟨g.keep, g.rest, fun z => (key _ ml).mp (g.hl z), gc_rk g.a fun x hx => key x ?_, gc_rk g.b fun x hx => key x ?_, ?_⟩
  · unfold numbersOf; simp only [List.mem_cons, List.mem_append] at hx ⊢; grind
  · unfold numbersOf; simp only [List.mem_cons, List.mem_append] at hx ⊢; grind
  · intro x hx
    rw [num_ranked] at hx
    obtain ⟨y, hy, rfl⟩ := List.mem_map.mp hx
    exact rk_mono (by simp [hy]) (by simp [ml]) (g.top y hy)
theorem kn_ranked {r : Ru} {s : Sd} (v : VS r s) (g : GV r s) : KN (rankedP s) := by
  have h0 : (0 : Int) ∈ numbersOf s ++ [0] := by simp
  have hp := vs_nonneg v
  have ml : s.last ∈ numbersOf s ++ [0] := by simp [numbersOf]
  have z := rk_zero h0 hp
  have hl := num_len s
  have hs := setI_len (numbersOf s ++ [0])
  have hne : 0 < (setI (numbersOf s ++ [0])).length := by
    obtain ⟨k, k1, _⟩ := rk_at h0
    omega
  have nn : 0 ≤ s.last := v.last
  have top : ∀ x ∈ numbersOf s ++ [0], x ≤ s.last := fun x hx => by
    rw [List.mem_append] at hx
    rcases hx with hx | hx
    · exact g.top x hx
    · have : x = 0 := by simpa using hx
      omega
  have hlast : rk (numbersOf s ++ [0]) s.last = ((setI (numbersOf s ++ [0])).length - 1 : Nat) := by
    obtain ⟨x, hx, hk⟩ := rk_on (L := numbersOf s ++ [0]) ((setI (numbersOf s ++ [0])).length - 1) (by omega)
    have h1 := rk_mono hx ml (top x hx)
    obtain ⟨k, k1, k2, _⟩ := rk_at ml
    omega
  refine ⟨(setI (numbersOf s ++ [0])).length - 1, by omega, hlast, fun j => ?_⟩
  rw [num_ranked]
  constructor
  · rintro ⟨h1, h2⟩
    obtain ⟨y, hy, rfl⟩ := List.mem_map.mp h2
    obtain ⟨k, k1, k2, _⟩ := rk_at (L := numbersOf s ++ [0]) (x := y) (by simp [hy])
    omega
  · rintro ⟨h1, h2⟩
    obtain ⟨x, hx, hk⟩ := rk_on (L := numbersOf s ++ [0]) j.toNat (by omega)
    refine ⟨by omega, List.mem_map.mpr ⟨x, ?_, by omega⟩⟩
    rw [List.mem_append] at hx
    rcases hx with hx | hx
    · exact hx
    · have : x = 0 := by simpa using hx
      subst this
      omega
/-! ### each event keeps it -/
theorem gv_setc {r : Ru} {s : Sd} (g : GV r s) (c : Bool) {u : Cl} (h : GC r u) (ht : ∀ x ∈ u.num :: wn u, x ≤ s.last) : GV r (s.setc c u) := by
  have t := g.top
  cases c
  · refine ⟨g.keep, g.rest, g.hl, h, g.b, fun x hx => ?_⟩
    have hx : x ∈ [s.last, s.used, u.num, s.b.num] ++ wn u ++ wn s.b := hx
    have t1 : x = s.last ∨ x = s.used ∨ x = s.b.num ∨ x ∈ wn s.b → x ≤ s.last := fun z => t x (by unfold numbersOf; simp only [List.mem_cons, List.mem_append]; grind)
    have t2 := ht x
    simp only [List.mem_cons, List.mem_append, List.not_mem_nil, or_false] at hx t2
    show x ≤ s.last
    grind
  · refine ⟨g.keep, g.rest, g.hl, g.a, h, fun x hx => ?_⟩
    have hx : x ∈ [s.last, s.used, s.a.num, u.num] ++ wn s.a ++ wn u := hx
    have t1 : x = s.last ∨ x = s.used ∨ x = s.a.num ∨ x ∈ wn s.a → x ≤ s.last := fun z => t x (by unfold numbersOf; simp only [List.mem_cons, List.mem_append]; grind)
    have t2 := ht x
    simp only [List.mem_cons, List.mem_append, List.not_mem_nil, or_false] at hx t2
    show x ≤ s.last
    grind
theorem gv_cl {r : Ru} {s : Sd} (g : GV r s) (c : Bool) : GC r (s.cl c) := by cases c; exact g.a; exact g.b
theorem cl_num {s : Sd} (c : Bool) : (s.cl c).num ∈ numbersOf s := by cases c <;> simp [numbersOf, Sd.cl]
theorem cl_wn {s : Sd} (c : Bool) {u : Wy} (h : (s.cl c).way = some u) : u.num ∈ numbersOf s := by
  cases c
  · have h : s.a.way = some u := h
    simp [numbersOf, wn, h]
  · have h : s.b.way = some u := h
    simp [numbersOf, wn, h]
/-- the house otherwise, its last number at least as great -/
theorem gv_house {r : Ru} {s : Sd} (g : GV r s) (ho : Option Bool) (k t l : Int) (hk : k ≤ r.keep) (ht : t ≤ r.rest) (hh : ho ≠ none → 0 < l) (hl : s.last ≤ l) : GV r { s with holder := ho, kept := k, rest := t, last := l } := by
  refine ⟨hk, ht, hh, g.a, g.b, fun x hx => ?_⟩
  have t := g.top x
  have hx : x ∈ [l, s.used, s.a.num, s.b.num] ++ wn s.a ++ wn s.b := hx
  unfold numbersOf at t
  simp only [List.mem_cons, List.mem_append, List.not_mem_nil, or_false] at hx t
  show x ≤ l
  by_cases e : x = l
  · omega
  · have := t (by grind)
    omega
theorem gv_asked {r : Ru} {s : Sd} (v : VS r s) (g : GV r s) (r0 : 0 ≤ r.rest) (c : Bool) (w : Wy) (hw : (s.cl c).way = some w) (hk : w.kd = .ask ∨ w.kd = .renew) : GV r (askedFor r s c w).1 := by
  have gc := gv_cl g c
  obtain ⟨a1, a2, a3⟩ := gc.way w hw
  obtain ⟨b1, b2, b3, b4⟩ := (vs_cl v c).way w hw
  have hn := g.top _ (cl_num c)
  have hla := v.last
  unfold askedFor
  split
  · have b := gv_house g (some c) r.keep 0 (s.last + 1) (by omega) r0 (fun _ => by omega) (by omega)
    refine gv_setc b c (gc_way gc _ fun u z => by injection z with z; subst z; exact ⟨by show (0:Int) ≤ 0; omega, fun _ => by show min 0 r.use ≤ w.since; omega, ⟨fun _ => rfl, fun _ => by show 0 < s.last + 1; omega⟩⟩) ?_
    intro x hx
    have hx : x ∈ [(s.cl c).num, s.last + 1] := hx
    show x ≤ s.last + 1
    simp only [List.mem_cons, List.not_mem_nil, or_false] at hx
    omega
  · split
    · rename_i h
      have hp := g.hl (by rw [h]; simp)
      have b := gv_house g (some c) r.keep 0 s.last (by omega) r0 (fun _ => hp) (by omega)
      refine gv_setc b c (gc_way gc _ fun u z => by injection z with z; subst z; exact ⟨by show (0:Int) ≤ 0; omega, fun _ => by show min 0 r.use ≤ w.since; omega, ⟨fun _ => rfl, fun _ => hp⟩⟩) ?_
      intro x hx
      have hx : x ∈ [(s.cl c).num, s.last] := hx
      show x ≤ s.last
      simp only [List.mem_cons, List.not_mem_nil, or_false] at hx
      omega
    · refine gv_setc g c (gc_none gc) ?_
      intro x hx
      have hx : x ∈ [(s.cl c).num] := hx
      simp only [List.mem_cons, List.not_mem_nil, or_false] at hx
      omega
theorem gv_arrived {r : Ru} {s : Sd} (v : VS r s) (g : GV r s) (k1 : 0 ≤ r.keep) (u1 : 1 ≤ r.use) (r0 : 0 ≤ r.rest) (c : Bool) (w : Wy) (hw : (s.cl c).way = some w) : GV r (arrivedP r s c w).1 := by
  have gc := gv_cl g c
  obtain ⟨a1, a2, a3⟩ := gc.way w hw
  obtain ⟨b1, b2, b3, b4⟩ := (vs_cl v c).way w hw
  have hn := g.top _ (cl_num c)
  have hwn := g.top _ (cl_wn c hw)
  have one : ∀ x ∈ (⟨(s.cl c).left, (s.cl c).num, none⟩ : Cl).num :: wn ⟨(s.cl c).left, (s.cl c).num, none⟩, x ≤ s.last := fun x hx => by
    have hx : x ∈ [(s.cl c).num] := hx
    simp only [List.mem_cons, List.not_mem_nil, or_false] at hx
    omega
  unfold arrivedP
  split
  · rename_i h; exact gv_asked v g r0 c w hw (.inl h)
  · rename_i h; exact gv_asked v g r0 c w hw (.inr h)
  · split
    · have b := gv_house g none 0 s.rest s.last k1 g.rest (fun z => absurd rfl z) (by omega)
      exact gv_setc b c (gc_none gc) one
    · exact gv_setc g c (gc_none gc) one
  · rename_i h
    by_cases q : (if r.asked = true then r.use - w.since else r.use) ≤ (s.cl c).left
    · rw [if_pos q]
      exact gv_setc g c (gc_none gc) one
    · rw [if_neg q]
      have hl := (vs_cl v c).left
      have hq : (if r.asked = true then r.use - w.since else r.use) ≤ r.use := by split <;> omega
      generalize (if r.asked = true then r.use - w.since else r.use) = q at hq
      refine gv_setc g c ⟨hq, fun _ => a3.mpr h, fun u z => nomatch z⟩ ?_
      intro x hx
      have hx : x ∈ [w.num] := hx
      simp only [List.mem_cons, List.not_mem_nil, or_false] at hx
      omega
theorem later_num (r : Ru) (c : Cl) (n : Int) (h : ∀ x ∈ c.num :: wn c, x ≤ n) (h0 : 0 ≤ n) : ∀ x ∈ (laterP r c).num :: wn (laterP r c), x ≤ n := by
  intro x hx
  have hw : wn (laterP r c) = wn c := by
    unfold laterP
    split
    · show wn ⟨c.left - 1, c.num, c.way.map (laterW r)⟩ = wn c
      unfold wn
      cases c.way <;> rfl
    · show wn ⟨0, 0, c.way.map (laterW r)⟩ = wn c
      unfold wn
      cases c.way <;> rfl
  rw [hw] at hx
  have hm : (laterP r c).num = c.num ∨ (laterP r c).num = 0 := by
    unfold laterP
    split
    · exact .inl rfl
    · exact .inr rfl
  simp only [List.mem_cons] at hx h
  rcases hx with hx | hx
  · rcases hm with e | e
    · exact h x (.inl (by omega))
    · omega
  · exact h x (.inr hx)
theorem gv_tick {r : Ru} {s : Sd} (v : VS r s) (g : GV r s) (k1 : 0 ≤ r.keep) (u1 : 1 ≤ r.use) (r0 : 0 ≤ r.rest) : GV r (tickedP r s) := by
  have ta : ∀ x ∈ s.a.num :: wn s.a, x ≤ s.last := fun x hx => g.top x (by unfold numbersOf; simp only [List.mem_cons, List.mem_append] at hx ⊢; grind)
  have tb : ∀ x ∈ s.b.num :: wn s.b, x ≤ s.last := fun x hx => g.top x (by unfold numbersOf; simp only [List.mem_cons, List.mem_append] at hx ⊢; grind)
  have tu : s.used ≤ s.last := g.top _ (by simp [numbersOf])
  have ta := later_num r s.a s.last ta v.last
  have tb := later_num r s.b s.last tb v.last
  have all : ∀ x ∈ [s.last, s.used, (laterP r s.a).num, (laterP r s.b).num] ++ wn (laterP r s.a) ++ wn (laterP r s.b), x ≤ s.last := fun x hx => by
    have t1 := ta x
    have t2 := tb x
    simp only [List.mem_cons, List.mem_append, List.not_mem_nil, or_false] at hx t1 t2
    by_cases e1 : x = s.last
    · omega
    · by_cases e2 : x = s.used
      · omega
      · grind
  have hk := g.keep
  have hr := g.rest
  have hv := v.rest
  unfold tickedP
  split
  · exact ⟨by show s.kept - 1 ≤ r.keep; omega, by show (0:Int) ≤ r.rest; omega, g.hl, gc_later g.a v.a u1, gc_later g.b v.b u1, all⟩
  · exact ⟨by show (0:Int) ≤ r.keep; omega, by show max 0 (s.rest - 1) ≤ r.rest; omega, fun z => absurd rfl z, gc_later g.a v.a u1, gc_later g.b v.b u1, all⟩
theorem gv_happened {r : Ru} {s : Sd} (v : VS r s) (g : GV r s) (hr : r.ok = true) (e : Ev) : GV r (happenedP r s e).1 := by
  unfold Ru.ok at hr
  simp at hr
  obtain ⟨⟨⟨k1, k2⟩, u1, u2⟩, t1, t2⟩ := hr
  have k0 : 0 ≤ r.keep := by omega
  have hlst := v.last
  cases e with
  | tick => exact gv_tick v g k0 u1 t1
  | fall => exact gv_house g none 0 r.rest s.last k0 (by omega) (fun z => absurd rfl z) (by omega)
  | on w c =>
    have gc := gv_cl g c
    have hn := g.top _ (cl_num c)
    have two : ∀ (k : Kd) x, x ∈ (⟨(s.cl c).left, (s.cl c).num, some ⟨k, 0, 0, 0⟩⟩ : Cl).num :: wn ⟨(s.cl c).left, (s.cl c).num, some ⟨k, 0, 0, 0⟩⟩ → x ≤ s.last := fun k x hx => by
      have hx : x ∈ [(s.cl c).num, 0] := hx
      simp only [List.mem_cons, List.not_mem_nil, or_false] at hx
      omega
    have way : ∀ k : Kd, k ≠ .yes → GC r ⟨(s.cl c).left, (s.cl c).num, some ⟨k, 0, 0, 0⟩⟩ := fun k hk => gc_way gc _ fun u z => by
      injection z with z; subst z
      exact ⟨by show (0:Int) ≤ 0; omega, fun _ => by show min 0 r.use ≤ (0:Int); omega, ⟨fun z => absurd z (by show ¬ (0:Int) < 0; omega), fun z => absurd z hk⟩⟩
    cases w with
    | arrive =>
      cases hw : (s.cl c).way with
      | none =>
        have h1 : happenedP r s (.on .arrive c) = (s, .done) := by
          unfold happenedP
          simp only [hw]
        rw [h1]; exact g
      | some w =>
        have h1 : happenedP r s (.on .arrive c) = arrivedP r s c w := by
          unfold happenedP
          simp only [hw]
        rw [h1]; exact gv_arrived v g k0 u1 t1 c w hw
    | use =>
      show GV r (if r.number = true ∧ (s.cl c).num < s.used then (s, .barred) else ({ s with used := max (s.cl c).num s.used }, .used) : Sd × Wd).1
      split
      · exact g
      · refine ⟨g.keep, g.rest, g.hl, g.a, g.b, fun x hx => ?_⟩
        have tu : s.used ≤ s.last := g.top _ (by simp [numbersOf])
        have t := g.top x
        have hx : x ∈ [s.last, max (s.cl c).num s.used, s.a.num, s.b.num] ++ wn s.a ++ wn s.b := hx
        unfold numbersOf at t
        simp only [List.mem_cons, List.mem_append, List.not_mem_nil, or_false] at hx t
        show x ≤ s.last
        by_cases e : x = max (s.cl c).num s.used
        · omega
        · exact t (by grind)
    | lose =>
      refine gv_setc g c (gc_none gc) fun x hx => ?_
      have hx : x ∈ [(s.cl c).num] := hx
      simp only [List.mem_cons, List.not_mem_nil, or_false] at hx
      omega
    | back =>
      refine gv_setc g c ⟨by show (0:Int) ≤ r.use; omega, fun z => absurd z (by show ¬ (0:Int) < 0; omega), fun u z => by
        injection z with z; subst z
        exact ⟨by show (0:Int) ≤ 0; omega, fun _ => by show min 0 r.use ≤ (0:Int); omega, ⟨fun z => absurd z (by show ¬ (0:Int) < 0; omega), fun z => nomatch z⟩⟩⟩ fun x hx => ?_
      have hx : x ∈ [(0 : Int), 0] := hx
      simp only [List.mem_cons, List.not_mem_nil, or_false] at hx
      omega
    | ask => exact gv_setc g c (way .ask (by simp)) (two .ask)
    | renew => exact gv_setc g c (way .renew (by simp)) (two .renew)
theorem inv_step {w : Wo} {r : Ru} {s : Sd} (i : Inv w r s) (hd : 0 ≤ w.delay) (hr : r.ok = true) (e : Ev) (he : e ∈ evsP w s) : Inv w r (stepP r s e).1 := by
  have v := vs_happened i.vs hr e
  have g := gv_happened i.vs i.gv hr e
  exact ⟨vs_ranked v, wv_step i.wv hd e he, gv_ranked v g, kn_ranked v g⟩
theorem inv_first (w : Wo) (r : Ru) (hr : r.ok = true) : Inv w r first := by
  unfold Ru.ok at hr
  simp at hr
  obtain ⟨⟨⟨k1, k2⟩, u1, u2⟩, t1, t2⟩ := hr
  have c : GC r ⟨0, 0, none⟩ := ⟨by show (0:Int) ≤ r.use; omega, fun z => absurd z (by show ¬ (0:Int) < 0; omega), fun u z => nomatch z⟩
  have e : numbersOf first = [0, 0, 0, 0] := rfl
  refine ⟨vs_first r, wv_first w, ⟨by show (0:Int) ≤ r.keep; omega, t1, fun z => absurd rfl z, c, c, fun x hx => ?_⟩, ⟨0, by omega, rfl, fun j => ?_⟩⟩
  · rw [e] at hx
    simp at hx
    show x ≤ (0 : Int)
    omega
  · rw [e]
    simp
    omega
end BH
end

section
set_option Elab.async false
set_option linter.all false
set_option maxRecDepth 100000
set_option maxHeartbeats 8000000
/-! What is_stand and its parts tell of any value. -/
namespace BH
open PySem L2

mutual
def D.vl : D → Bool
  | .non => true
  | .bl _ => true
  | .int _ => true
  | .str s => PyData.strOk s
  | .tup ds => D.vlL ds
  | .ll _ => true
  | .dl _ => false
  | .ol _ _ => false
  | .fn _ => false
  | .lsf _ => false
def D.vlL : List D → Bool
  | [] => true
  | d :: ds => D.vl d && D.vlL ds
end
@[simp] theorem vlL_nil : D.vlL [] = true := by simp only [D.vlL]
@[simp] theorem vlL_cons (d : D) (ds : List D) : D.vlL (d :: ds) = (D.vl d && D.vlL ds) := by simp only [D.vlL]
@[simp] theorem vl_tup (ds : List D) : D.vl (.tup ds) = D.vlL ds := by simp only [D.vl]
@[simp] theorem vl_non : D.vl .non = true := by simp only [D.vl]
@[simp] theorem vl_bl (b : Bool) : D.vl (.bl b) = true := by simp only [D.vl]
@[simp] theorem vl_int (b : Int) : D.vl (.int b) = true := by simp only [D.vl]
@[simp] theorem vl_ll (b : Nat) : D.vl (.ll b) = true := by simp only [D.vl]
@[simp] theorem vl_str (s : Str) : D.vl (.str s) = PyData.strOk s := by simp only [D.vl]
@[simp] theorem vl_dl (b : Nat) : D.vl (.dl b) = false := by simp only [D.vl]
@[simp] theorem vl_ol (a b : Nat) : D.vl (.ol a b) = false := by simp only [D.vl]
@[simp] theorem vl_fn (b : Nat) : D.vl (.fn b) = false := by simp only [D.vl]
@[simp] theorem vl_lsf (b : List D) : D.vl (.lsf b) = false := by simp only [D.vl]
@[simp] theorem vl_ho (h : Option Bool) : D.vl (hoD h) = true := by cases h <;> simp
@[simp] theorem vl_way (h : Option Wy) : D.vl (wayD h) = true := by cases h <;> simp [Wy.d]
@[simp] theorem vl_cl (c : Cl) : D.vl c.d = true := by simp [Cl.d]
@[simp] theorem vl_sd (s : Sd) : D.vl s.d = true := by simp [Sd.d, Sd.house]

def wholeB (lo hi : Int) : D → Bool
  | .int i => decide (lo ≤ i) && decide (i ≤ hi)
  | _ => false
def wideB (n : Int) : D → Bool
  | .tup ds => decide ((ds.length : Int) = n)
  | _ => false
def wordB (ws : List D) : D → Bool
  | .str s => ws.any fun z => D.eq z (.str s)
  | _ => false
section
variable (M : Store)
theorem g_whole {d : D} (h : d.vl = true) (lo hi : Int) : run 0 [d, .int lo, .int hi] M = .ok (.bl (wholeB lo hi d)) M := by
  rw [run, evm_eq tb supx t_is_whole]
  cases d <;> simp at h <;> simp [c_is_whole, startD, getV, wholeB]
theorem g_wide {d : D} (h : d.vl = true) (n : Int) : run 1 [d, .int n] M = .ok (.bl (wideB n d)) M := by
  rw [run, evm_eq tb supx t_is_wide]
  cases d <;> simp at h <;> simp [c_is_wide, startD, getV, eqD_pu, wideB]
theorem g_word {d : D} (h : d.vl = true) {ws : List D} (h2 : D.puL 63 ws = true) : run 2 [d, .tup ws] M = .ok (.bl (wordB ws d)) M := by
  rw [run, evm_eq tb supx t_is_word]
  cases d <;> simp at h <;> simp [c_is_word, startD, getV, wordB, inD_pu, h, h2]
end
theorem whole_eq {lo hi : Int} {d : D} (h : wholeB lo hi d = true) : ∃ i, d = .int i ∧ lo ≤ i ∧ i ≤ hi := by
  cases d <;> simp [wholeB] at h
  exact ⟨_, rfl, h.1, h.2⟩
def WyOk (w : Wo) (r : Ru) (u : Wy) : Prop := 0 ≤ u.wait ∧ u.wait ≤ w.delay ∧ 0 ≤ u.num ∧ u.num ≤ 9 ∧ (u.kd = .back → u.since = 0) ∧ (u.kd ≠ .back → min u.wait r.use ≤ u.since ∧ u.since ≤ r.use) ∧ (0 < u.num ↔ u.kd = .yes)
def ClOk (w : Wo) (r : Ru) (c : Cl) : Prop := 0 ≤ c.left ∧ c.left ≤ r.use ∧ 0 ≤ c.num ∧ c.num ≤ 9 ∧ (0 < c.left ↔ 0 < c.num) ∧ ∀ u, c.way = some u → WyOk w r u
def HsOk (r : Ru) (h : Option Bool) (kept rest last : Int) : Prop := 0 ≤ last ∧ last ≤ 9 ∧ (h = none → kept = 0 ∧ 0 ≤ rest ∧ rest ≤ r.rest) ∧ (h ≠ none → 1 ≤ kept ∧ kept ≤ r.keep ∧ rest = 0 ∧ 0 < last)
def SdOk (w : Wo) (r : Ru) (s : Sd) : Prop := HsOk r s.holder s.kept s.rest s.last ∧ 0 ≤ s.used ∧ s.used ≤ 9 ∧ ClOk w r s.a ∧ ClOk w r s.b ∧ KN s
theorem way_inj {o p : Option Wy} (h : wayD o = wayD p) : o = p := by
  cases o with
  | none => cases p with
    | none => rfl
    | some u => simp [wayD, Wy.d] at h
  | some v => cases p with
    | none => simp [wayD, Wy.d] at h
    | some u =>
      obtain ⟨a1, a2, a3, a4⟩ := u
      obtain ⟨b1, b2, b3, b4⟩ := v
      simp [wayD, Wy.d, kd_eq] at h
      simp [h]
theorem ho_inj {o p : Option Bool} (h : hoD o = hoD p) : o = p := by
  cases o <;> cases p <;> simp [hoD] at h <;> simp [h]
theorem word_kd {d : D} (h : wordB [.str "ask", .str "renew", .str "back", .str "yes"] d = true) : ∃ k : Kd, d = .str k.s := by
  cases d <;> simp [wordB] at h
  rcases h with h | h | h | h
  · exact ⟨.ask, by simp [← h]⟩
  · exact ⟨.renew, by simp [← h]⟩
  · exact ⟨.back, by simp [← h]⟩
  · exact ⟨.yes, by simp [← h]⟩
theorem kd_word (k : Kd) : wordB [.str "ask", .str "renew", .str "back", .str "yes"] (.str k.s) = true := by cases k <;> simp [wordB]
theorem g_way (M : Store) (w : Wo) (r : Ru) {d : D} (h : d.vl = true) : ∃ b, run 40 [w.d, r.d, d] M = .ok (.bl b) M ∧ (b = true ↔ ∃ o, d = wayD o ∧ ∀ u, o = some u → WyOk w r u) := by
  rw [run, evm_eq tb supx t_is_way]
  have hwd : subD w.d (.int 0) M = .ok (.int w.delay) M := by simp [Wo.d]
  by_cases hn : d = .non
  · subst hn
    exact ⟨true, by simp [c_is_way, startD, getV], by simp; exact ⟨none, rfl, fun u z => nomatch z⟩⟩
  have hisn : cmpD .Is d .non M = .ok (.bl false) M := by
    cases d <;> simp at h hn <;> rfl
  have g0 := g_wide M h 4
  by_cases hw : wideB 4 d = true
  · obtain ⟨k, a, s, n, rfl⟩ : ∃ k a s n, d = .tup [k, a, s, n] := by
      cases d <;> simp [wideB] at hw
      rename_i ds
      match ds, hw with
      | [k, a, s, n], _ => exact ⟨k, a, s, n, rfl⟩
      | [], h => simp at h
      | [_], h => simp at h
      | [_, _], h => simp at h
      | [_, _, _], h => simp at h
      | _ :: _ :: _ :: _ :: _ :: _, h => simp at h; omega
    simp at h
    obtain ⟨vk, va, vs, vn⟩ := h
    have g1 := g_word M vk (ws := [.str "ask", .str "renew", .str "back", .str "yes"]) (by simp)
    have g2 := g_whole M va 0 w.delay
    have g3 := g_whole M vn 0 9
    have g4 := g_whole M vs 0 0
    have no : ∀ P : Prop, (¬ ∃ o, (D.tup [k, a, s, n]) = wayD o ∧ ∀ u, o = some u → WyOk w r u) → (false = true ↔ ∃ o, (D.tup [k, a, s, n]) = wayD o ∧ ∀ u, o = some u → WyOk w r u) := fun _ z => by simp; exact fun o h1 => by simpa using fun h2 => z ⟨o, h1, h2⟩
    by_cases c1 : wordB [.str "ask", .str "renew", .str "back", .str "yes"] k = true
    · obtain ⟨kd, rfl⟩ := word_kd c1
      by_cases c2 : wholeB 0 w.delay a = true
      · obtain ⟨ai, rfl, a1, a2⟩ := whole_eq c2
        by_cases c3 : wholeB 0 9 n = true
        · obtain ⟨ni, rfl, n1, n2⟩ := whole_eq c3
          by_cases hk : kd = .back
          · have hk' : (kd = .back) = True := eq_true hk
            by_cases c4 : wholeB 0 0 s = true
            · obtain ⟨si, rfl, s1, s2⟩ := whole_eq c4
              refine ⟨decide (0 < ni) == decide (kd = .yes), by simp [c_is_way, startD, getV, hisn, g0, hw, g1, c1, hwd, g2, c2, g3, c3, g4, c4, eqD_pu, hk'], ?_⟩
              simp
              constructor
              · intro z
                refine ⟨some ⟨kd, ai, si, ni⟩, rfl, fun u hu => ?_⟩
                injection hu with hu; subst hu
                exact ⟨a1, a2, n1, n2, fun _ => by show si = 0; omega, fun q => absurd hk q, z⟩
              · rintro ⟨o, ho, hu⟩
                cases o with
                | none => simp [wayD] at ho
                | some u =>
                  obtain ⟨b1, b2, b3, b4⟩ := u
                  simp [wayD, Wy.d, kd_eq] at ho
                  obtain ⟨rfl, rfl, rfl, rfl⟩ := ho
                  exact (hu _ rfl).2.2.2.2.2.2
            · refine ⟨false, by simp [c_is_way, startD, getV, hisn, g0, hw, g1, c1, hwd, g2, c2, g3, c3, g4, c4, eqD_pu, hk'], no True ?_⟩
              rintro ⟨o, ho, hu⟩
              cases o with
              | none => simp [wayD] at ho
              | some u =>
                obtain ⟨b1, b2, b3, b4⟩ := u
                simp [wayD, Wy.d, kd_eq] at ho
                obtain ⟨rfl, rfl, rfl, rfl⟩ := ho
                have := (hu _ rfl).2.2.2.2.1 hk
                simp only at this
                subst this
                simp [wholeB] at c4
          · have g5 := g_whole M vs (min ai r.use) r.use
            by_cases c5 : wholeB (min ai r.use) r.use s = true
            · obtain ⟨si, rfl, s1, s2⟩ := whole_eq c5
              refine ⟨decide (0 < ni) == decide (kd = .yes), by simp [c_is_way, startD, getV, hisn, g0, hw, g1, c1, hwd, g2, c2, g3, c3, g4, g5, c5, eqD_pu, hk], ?_⟩
              simp
              constructor
              · intro z
                refine ⟨some ⟨kd, ai, si, ni⟩, rfl, fun u hu => ?_⟩
                injection hu with hu; subst hu
                exact ⟨a1, a2, n1, n2, fun q => absurd q hk, fun _ => ⟨s1, s2⟩, z⟩
              · rintro ⟨o, ho, hu⟩
                cases o with
                | none => simp [wayD] at ho
                | some u =>
                  obtain ⟨b1, b2, b3, b4⟩ := u
                  simp [wayD, Wy.d, kd_eq] at ho
                  obtain ⟨rfl, rfl, rfl, rfl⟩ := ho
                  exact (hu _ rfl).2.2.2.2.2.2
            · refine ⟨false, by simp [c_is_way, startD, getV, hisn, g0, hw, g1, c1, hwd, g2, c2, g3, c3, g4, g5, c5, eqD_pu, hk], no True ?_⟩
              rintro ⟨o, ho, hu⟩
              cases o with
              | none => simp [wayD] at ho
              | some u =>
                obtain ⟨b1, b2, b3, b4⟩ := u
                simp [wayD, Wy.d, kd_eq] at ho
                obtain ⟨rfl, rfl, rfl, rfl⟩ := ho
                have := (hu _ rfl).2.2.2.2.2.1 hk
                simp [wholeB] at c5
                simp at this
                omega
        · refine ⟨false, by simp [c_is_way, startD, getV, hisn, g0, hw, g1, c1, hwd, g2, c2, g3, c3], no True ?_⟩
          rintro ⟨o, ho, hu⟩
          cases o with
          | none => simp [wayD] at ho
          | some u =>
            obtain ⟨b1, b2, b3, b4⟩ := u
            simp [wayD, Wy.d, kd_eq] at ho
            obtain ⟨rfl, rfl, rfl, rfl⟩ := ho
            have := hu _ rfl
            simp [wholeB] at c3
            simp [WyOk] at this
            omega
      · refine ⟨false, by simp [c_is_way, startD, getV, hisn, g0, hw, g1, c1, hwd, g2, c2], no True ?_⟩
        rintro ⟨o, ho, hu⟩
        cases o with
        | none => simp [wayD] at ho
        | some u =>
          obtain ⟨b1, b2, b3, b4⟩ := u
          simp [wayD, Wy.d, kd_eq] at ho
          obtain ⟨rfl, rfl, rfl, rfl⟩ := ho
          have := hu _ rfl
          simp [wholeB] at c2
          simp [WyOk] at this
          omega
    · refine ⟨false, by simp [c_is_way, startD, getV, hisn, g0, hw, g1, c1], no True ?_⟩
      rintro ⟨o, ho, hu⟩
      cases o with
      | none => simp [wayD] at ho
      | some u =>
        obtain ⟨b1, b2, b3, b4⟩ := u
        simp [wayD, Wy.d] at ho
        obtain ⟨rfl, rfl, rfl, rfl⟩ := ho
        exact c1 (kd_word b1)
  · refine ⟨false, by simp [c_is_way, startD, getV, hisn, g0, hw], ?_⟩
    simp
    rintro o rfl
    cases o with
    | none => exact absurd rfl hn
    | some u => simp [wayD, Wy.d, wideB] at hw
end BH
end

section
set_option Elab.async false
set_option linter.all false
set_option maxRecDepth 100000
set_option maxHeartbeats 8000000
/-! What is_client, is_house and is_right_stand tell of any value. -/
namespace BH
open PySem L2

theorem wide3 {d : D} (h : wideB 3 d = true) : ∃ a b c, d = .tup [a, b, c] := by
  cases d <;> simp [wideB] at h
  rename_i ds
  match ds, h with
  | [a, b, c], _ => exact ⟨a, b, c, rfl⟩
  | [], h => simp at h
  | [_], h => simp at h
  | [_, _], h => simp at h
  | _ :: _ :: _ :: _ :: _, h => simp at h; omega
theorem wide4 {d : D} (h : wideB 4 d = true) : ∃ a b c e, d = .tup [a, b, c, e] := by
  cases d <;> simp [wideB] at h
  rename_i ds
  match ds, h with
  | [a, b, c, e], _ => exact ⟨a, b, c, e, rfl⟩
  | [], h => simp at h
  | [_], h => simp at h
  | [_, _], h => simp at h
  | [_, _, _], h => simp at h
  | _ :: _ :: _ :: _ :: _ :: _, h => simp at h; omega
theorem ff {P : Prop} (h : ¬ P) : (false = true ↔ P) := ⟨(fun z => nomatch z), fun z => absurd z h⟩
theorem g_client (M : Store) (w : Wo) (r : Ru) {d : D} (h : d.vl = true) : ∃ b, run 41 [w.d, r.d, d] M = .ok (.bl b) M ∧ (b = true ↔ ∃ c : Cl, d = c.d ∧ ClOk w r c) := by
  rw [run, evm_eq tb supx t_is_client]
  have g0 := g_wide M h 3
  by_cases hw : wideB 3 d = true
  · obtain ⟨x, y, z, rfl⟩ := wide3 hw
    simp at h
    obtain ⟨vx, vy, vz⟩ := h
    have g1 := g_whole M vx 0 r.use
    have g2 := g_whole M vy 0 9
    obtain ⟨b, g3, hb⟩ := g_way M w r vz
    by_cases c1 : wholeB 0 r.use x = true
    · obtain ⟨xi, rfl, x1, x2⟩ := whole_eq c1
      by_cases c2 : wholeB 0 9 y = true
      · obtain ⟨yi, rfl, y1, y2⟩ := whole_eq c2
        by_cases c3 : (decide (0 < xi) == decide (0 < yi)) = true
        · refine ⟨b, by simp [c_is_client, startD, getV, g0, hw, g1, c1, g2, c2, g3, eqD_pu]; exact fun _ => by simpa using c3, hb.trans ⟨?_, ?_⟩⟩
          · rintro ⟨o, ho, hu⟩
            exact ⟨⟨xi, yi, o⟩, by rw [ho]; rfl, x1, x2, y1, y2, by simpa using c3, hu⟩
          · rintro ⟨c, hc, ho⟩
            obtain ⟨a1, a2, a3⟩ := c
            simp [Cl.d] at hc
            obtain ⟨rfl, rfl, rfl⟩ := hc
            exact ⟨a3, rfl, ho.2.2.2.2.2⟩
        · refine ⟨false, by simp [c_is_client, startD, getV, g0, hw, g1, c1, g2, c2, g3, eqD_pu]; exact fun z => absurd (by simpa using z) c3, ff ?_⟩
          rintro ⟨c, hc, ho⟩
          obtain ⟨a1, a2, a3⟩ := c
          simp [Cl.d] at hc
          obtain ⟨rfl, rfl, rfl⟩ := hc
          exact c3 (by simpa using ho.2.2.2.2.1)
      · refine ⟨false, by simp [c_is_client, startD, getV, g0, hw, g1, c1, g2, c2], ff ?_⟩
        rintro ⟨c, hc, ho⟩
        obtain ⟨a1, a2, a3⟩ := c
        simp [Cl.d] at hc
        obtain ⟨rfl, rfl, rfl⟩ := hc
        simp [wholeB] at c2
        simp [ClOk] at ho
        omega
    · refine ⟨false, by simp [c_is_client, startD, getV, g0, hw, g1, c1], ff ?_⟩
      rintro ⟨c, hc, ho⟩
      obtain ⟨a1, a2, a3⟩ := c
      simp [Cl.d] at hc
      obtain ⟨rfl, rfl, rfl⟩ := hc
      simp [wholeB] at c1
      simp [ClOk] at ho
      omega
  · refine ⟨false, by simp [c_is_client, startD, getV, g0, hw], ff ?_⟩
    rintro ⟨c, rfl, _⟩
    simp [Cl.d, wideB] at hw
theorem g_house (M : Store) (r : Ru) {d : D} (h : d.vl = true) : ∃ b, run 42 [r.d, d] M = .ok (.bl b) M ∧ (b = true ↔ ∃ ho k t l, d = .tup [hoD ho, .int k, .int t, .int l] ∧ HsOk r ho k t l) := by
  rw [run, evm_eq tb supx t_is_house]
  have g0 := g_wide M h 4
  by_cases hw : wideB 4 d = true
  · obtain ⟨x, y, z, l, rfl⟩ := wide4 hw
    simp at h
    obtain ⟨vx, vy, vz, vl⟩ := h
    have g1 := g_whole M vl 0 9
    have g2 := g_whole M vy 0 0
    have g3 := g_whole M vz 0 r.rest
    have g4 := g_whole M vx 0 1
    have g5 := g_whole M vy 1 r.keep
    have g6 := g_whole M vz 0 0
    by_cases c1 : wholeB 0 9 l = true
    · obtain ⟨li, rfl, l1, l2⟩ := whole_eq c1
      by_cases hx : x = .non
      · subst hx
        refine ⟨wholeB 0 0 y && wholeB 0 r.rest z, by simp [c_is_house, startD, getV, g0, hw, g1, c1, g2, g3], ?_⟩
        simp only [Bool.and_eq_true]
        constructor
        · rintro ⟨a, b⟩
          obtain ⟨yi, rfl, y1, y2⟩ := whole_eq a
          obtain ⟨zi, rfl, z1, z2⟩ := whole_eq b
          exact ⟨none, yi, zi, li, rfl, l1, l2, fun _ => ⟨by omega, z1, z2⟩, fun q => absurd rfl q⟩
        · rintro ⟨ho, k, t, l, e, hk⟩
          simp at e
          obtain ⟨e0, rfl, rfl, rfl⟩ := e
          have : ho = none := ho_inj (p := none) e0.symm
          subst this
          have := hk.2.2.1 rfl
          simp [wholeB]
          omega
      · have hisn : cmpD .Is x .non M = .ok (.bl false) M := by
          cases x <;> simp at vx hx <;> rfl
        refine ⟨wholeB 0 1 x && wholeB 1 r.keep y && wholeB 0 0 z && decide (0 < li), ?_, ?_⟩
        · simp [c_is_house, startD, getV, g0, hw, g1, c1, g4, g5, g6, hisn]
          cases wholeB 0 1 x <;> cases wholeB 1 r.keep y <;> cases wholeB 0 0 z <;> simp
        · simp only [Bool.and_eq_true, decide_eq_true_eq]
          constructor
          · rintro ⟨⟨⟨a, b⟩, c⟩, e⟩
            obtain ⟨xi, rfl, x1, x2⟩ := whole_eq a
            obtain ⟨yi, rfl, y1, y2⟩ := whole_eq b
            obtain ⟨zi, rfl, z1, z2⟩ := whole_eq c
            refine ⟨some (decide (xi = 1)), yi, zi, li, ?_, l1, l2, (fun q => nomatch q), fun _ => ⟨y1, y2, by omega, e⟩⟩
            have : xi = 0 ∨ xi = 1 := by omega
            rcases this with rfl | rfl <;> simp
          · rintro ⟨ho, k, t, l, e, hk⟩
            simp at e
            obtain ⟨rfl, rfl, rfl, rfl⟩ := e
            cases ho with
            | none => exact absurd rfl hx
            | some c =>
              have := hk.2.2.2 (by simp)
              cases c <;> simp [wholeB] <;> omega
    · refine ⟨false, by simp [c_is_house, startD, getV, g0, hw, g1, c1], ff ?_⟩
      rintro ⟨ho, k, t, l, e, hk⟩
      simp at e
      obtain ⟨rfl, rfl, rfl, rfl⟩ := e
      simp [wholeB] at c1
      simp [HsOk] at hk
      omega
  · refine ⟨false, by simp [c_is_house, startD, getV, g0, hw], ff ?_⟩
    rintro ⟨ho, k, t, l, rfl, _⟩
    simp [wideB] at hw
/-! ### the numbers -/
theorem lc_pos (m : Nat → List D → Store → Out D) (chk : Store → Bool) (N : Store) (hc : chk N = true) (σ : Env) (h5 : σ.length = 5) : ∀ (es acc : List Int), es.length + acc.length ≤ 1000 →
    lcL chk (evG m (.nm 4)) (evIf m [.cmp .Gt (.var 4) (.cst (.int 0))]) (evE m (.var 4)) σ (es.map D.int) (acc.map D.int) N = newL N ((acc ++ es.filter fun e => decide (0 < e)).map D.int)
  | [], acc, hl => by
    simp [lcL, hc]
  | e :: es, acc, hl => by
    have h1 : getV (σ.set 4 (some (.int e))) 4 N = .ok (.int e) N := by unfold getV; rw [List.getElem?_set_self (by omega)]
    have ih := lc_pos m chk N hc σ h5 es
    rw [List.map_cons]
    unfold lcL
    rw [if_pos hc]
    by_cases ht : 0 < e
    · have := ih (acc ++ [e]) (by simp at hl ⊢; omega)
      simp at this
      simp [h1, ht]
      exact this
    · have := ih acc (by simp at hl; omega)
      simp at this
      simp [h1]
      simp [ht]
      exact this
theorem eqL_ints : ∀ (a b : List Int), D.eqL (a.map D.int) (b.map D.int) = decide (a = b)
  | [], [] => by simp
  | [], _ :: _ => by simp
  | _ :: _, [] => by simp
  | x :: xs, y :: ys => by simp [eqL_ints xs ys]
def KL (s : Sd) : List Int := setI ((numbersOf s).filter fun e => decide (0 < e))
def upto (n : Nat) : List Int := (List.range n).map fun (i : Nat) => (1 : Int) + i
theorem KL_len (s : Sd) : (KL s).length ≤ 6 := by
  unfold KL
  have h1 := setI_len ((numbersOf s).filter fun e => decide (0 < e))
  have h2 := List.length_filter_le (fun e => decide ((0 : Int) < e)) (numbersOf s)
  have h3 := num_len s
  simp at h3
  omega
theorem kn_iff (s : Sd) : KN s ↔ KL s = upto (KL s).length ∧ s.last = (KL s).length := by
  have hm : ∀ j, j ∈ KL s ↔ 0 < j ∧ j ∈ numbersOf s := fun j => by
    unfold KL
    rw [setI_mem, List.mem_filter]
    simp [and_comm]
  have um : ∀ (n : Nat) (j : Int), j ∈ upto n ↔ 1 ≤ j ∧ j ≤ n := fun n j => by
    unfold upto
    simp only [List.mem_map, List.mem_range]
    constructor
    · rintro ⟨a, h1, rfl⟩; omega
    · rintro ⟨h1, h2⟩; exact ⟨(j - 1).toNat, by omega, by omega⟩
  have ua : ∀ n : Nat, (upto n).Pairwise (· < ·) := fun n => by
    unfold upto
    rw [List.pairwise_map]
    exact List.pairwise_lt_range.imp fun h => by omega
  have ul : ∀ n : Nat, (upto n).length = n := fun n => by simp [upto]
  have hs : (KL s).Pairwise (· < ·) := setI_asc _
  constructor
  · rintro ⟨m, m6, e, h⟩
    have : KL s = upto m := asc_eq hs (ua m) fun j => by rw [hm, um]; exact h j
    rw [this, ul]
    exact ⟨rfl, e⟩
  · rintro ⟨h1, h2⟩
    refine ⟨(KL s).length, KL_len s, h2, fun j => ?_⟩
    rw [← hm, ← um, ← h1]
theorem lrgI_ok (n : Nat) (hn : n ≤ 1000) (N : Store) : lrgD (.int 1) (.int ((n : Int) + 1)) N = newL N ((upto n).map D.int) := by
  unfold lrgD
  dsimp only
  rw [if_pos (by omega)]
  unfold upto
  rw [show ((n : Int) + 1 - 1).toNat = n by omega, List.map_map]
  rfl
theorem bc {α β : Type} {x : Out α} {d : α} {N : Store} {y : Out β} {f : α → Store → Out β} (h : x = .ok d N) (h2 : f d N = y) : x.bind f = y := by rw [h, b_ok, h2]
theorem e_rng1 (m : Nat → List D → Store → Out D) (σ : Env) (N : Store) (l : Nat) (K : List Int) (h3 : σ[3]? = some (some (.ll l))) (hl : N[l]? = some (.lst (K.map D.int))) (hK : K.length ≤ 1000) :
    evE m (.lrg (.cst (.int 1)) (.bin .Add (.bi .len [(.var 3)]) (.cst (.int 1)))) σ N = newL N ((upto K.length).map D.int) := by
  rw [e_lrg]
  have e1 : evE m (.bin .Add (.bi .len [(.var 3)]) (.cst (.int 1))) σ N = .ok (.int ((K.length : Int) + 1)) N := by
    have hg : getV σ 3 N = .ok (.ll l) N := by unfold getV; rw [h3]
    have hb : biD .len [.ll l] N = .ok (.int K.length) N := by unfold biD; dsimp only; rw [hl]; simp
    simp [hg, hb]
  refine bc (d := .int 1) (N := N) (e_cst m σ N (.int 1)) ?_
  rw [k2E]
  exact bc e1 (lrgI_ok K.length hK N)
theorem g_stand (M : Store) (w : Wo) (r : Ru) {d : D} (h : d.vl = true) : ∃ b, run 43 [w.d, r.d, d] M = .ok (.bl b) M ∧ (b = true ↔ ∃ s : Sd, d = s.d ∧ SdOk w r s) := by
  rw [run, evm_eq tb supx t_is_right_stand]
  have g0 := g_wide M h 4
  by_cases hw : wideB 4 d = true
  · obtain ⟨x, y, z, v, rfl⟩ := wide4 hw
    simp at h
    obtain ⟨vx, vy, vz, vv⟩ := h
    obtain ⟨b1, e1, h1⟩ := g_house M r vx
    have e2 := g_whole M vy 0 9
    obtain ⟨b3, e3, h3⟩ := g_client M w r vz
    obtain ⟨b4, e4, h4⟩ := g_client M w r vv
    by_cases c1 : b1 = true
    · obtain ⟨ho, k, t, l, rfl, hk⟩ := h1.mp c1
      by_cases c2 : wholeB 0 9 y = true
      · obtain ⟨yi, rfl, y1, y2⟩ := whole_eq c2
        by_cases c3 : b3 = true
        · obtain ⟨a, rfl, ha⟩ := h3.mp c3
          by_cases c4 : b4 = true
          · obtain ⟨b, rfl, hb⟩ := h4.mp c4
            generalize hs : (⟨ho, k, t, l, yi, a, b⟩ : Sd) = s
            have hsd : D.tup [.tup [hoD ho, .int k, .int t, .int l], .int yi, a.d, b.d] = s.d := by rw [← hs]; rfl
            have e5 := r_numbers_in M s
            rw [hsd] at g0 hw ⊢
            have s0 : ∀ N, subD s.d (.int 0) N = .ok (.tup [hoD ho, .int k, .int t, .int l]) N := fun N => by rw [← hsd]; simp
            have s1 : ∀ N, subD s.d (.int 1) N = .ok (.int yi) N := fun N => by rw [← hsd]; simp
            have s2 : ∀ N, subD s.d (.int 2) N = .ok a.d N := fun N => by rw [← hsd]; simp
            have s3 : ∀ N, subD s.d (.int 3) N = .ok b.d N := fun N => by rw [← hsd]; simp
            have hn := num_len s
            have hlc := lc_pos (evb tb supx 43) (Itm.chk (.lis M.length ((numbersOf s).map D.int))) (M ++ [.lst ((numbersOf s).map D.int)]) (by rw [chk_ll]; simp; exact D.beqL_refl _) [some w.d, some r.d, some s.d, none, none] rfl (numbersOf s) [] (by simp at hn ⊢; omega)
            have hfl : ((numbersOf s).filter fun e => decide (0 < e)).length ≤ 6 := by
              have h2 := List.length_filter_le (fun e => decide ((0 : Int) < e)) (numbersOf s)
              simp at hn
              omega
            have hsr := srs_ok (l := M.length + 1) (L := (numbersOf s).filter fun e => decide (0 < e)) (M := M ++ [.lst ((numbersOf s).map D.int), .lst (((numbersOf s).filter fun e => decide (0 < e)).map D.int)]) (by simp) (by omega)
            have hKl := KL_len s
            have hlast : l = s.last := by rw [← hs]
            have hex : (∃ s' : Sd, s.d = s'.d ∧ SdOk w r s') ↔ KN s := by
              constructor
              · rintro ⟨s', e, ok⟩
                have : s' = s := by
                  rw [← hs]
                  obtain ⟨b1, b2, b3, b4, b5, ⟨b6, b7, b8⟩, ⟨b9, b10, b11⟩⟩ := s'
                  obtain ⟨a1, a2, a3⟩ := a
                  obtain ⟨d1, d2, d3⟩ := b
                  rw [← hsd] at e
                  simp [Sd.d, Sd.house, Cl.d] at e
                  obtain ⟨⟨e1, rfl, rfl, rfl⟩, rfl, ⟨rfl, rfl, e2⟩, rfl, rfl, e3⟩ := e
                  rw [ho_inj e1, way_inj e2, way_inj e3]
                subst this
                exact ok.2.2.2.2.2
              · intro kn
                refine ⟨s, rfl, ?_, ?_, ?_, ?_, ?_, kn⟩
                · rw [← hs]; exact hk
                · rw [← hs]; exact y1
                · rw [← hs]; exact y2
                · rw [← hs]; exact ha
                · rw [← hs]; exact hb
            rw [hex, kn_iff, ← hlast]
            have hu : setI ((numbersOf s).filter fun e => decide (0 < e)) = KL s := rfl
            rw [hu] at hsr
            have hK : KL s = KL s := rfl
            generalize hF : ((numbersOf s).filter fun e => decide (0 < e)) = F at hlc hsr hfl
            generalize KL s = K at hsr hKl ⊢
            have hrg := fun (A B : MO) (x4 : Option D) => e_rng1 (evb tb supx 43) [some w.d, some r.d, some s.d, some (.ll (M.length + 2)), x4] (M ++ [A, B, .lst (K.map D.int)]) (M.length + 2) K rfl (by simp) (by omega)
            simp only [newL, List.length_map] at hrg
            have hul : (upto K.length).length = K.length := by simp [upto]
            have hFl : F.length ≤ 16777216 := by omega
            have hKL : K.length ≤ 16777216 := by omega
            have heq : ∀ (A B : MO), eqD (M ++ [A, B, .lst (K.map D.int), .lst ((upto K.length).map D.int)]) (.ll (M.length + 2)) (.ll (M.length + 3)) = some (decide (K = upto K.length)) := fun A B => by
              rw [eqD_ll (xs := K.map D.int) (ys := (upto K.length).map D.int) (by simp) (by simp) (int_puL 63 _) (int_puL 63 _), eqL_ints]
            simp at hlc hsr
            simp [newL, hFl, hKL] at hlc hsr
            refine ⟨decide (K = upto K.length) && decide (l = K.length), ?_, by simp⟩
            simp [c_is_right_stand, startD, getV, g0, hw, s0, s1, s2, s3, e1, c1, e2, c2, e3, c3, e4, c4, e5, itm_ll, Itm.ds, wipeD, hlc, hsr, biD, -e_lrg, hrg, newL, hul, hKL, heq, eqD_pu]
            cases decide (K = upto K.length) <;> simp <;> exact gc_pure rfl
          · refine ⟨false, by simp [c_is_right_stand, startD, getV, g0, hw, e1, c1, e2, c2, e3, c3, e4, c4], ff ?_⟩
            rintro ⟨s, e, ok⟩
            refine c4 (h4.mpr ⟨s.b, ?_, ok.2.2.2.2.1⟩)
            simp [Sd.d] at e
            exact e.2.2.2
        · refine ⟨false, by simp [c_is_right_stand, startD, getV, g0, hw, e1, c1, e2, c2, e3, c3], ff ?_⟩
          rintro ⟨s, e, ok⟩
          refine c3 (h3.mpr ⟨s.a, ?_, ok.2.2.2.1⟩)
          simp [Sd.d] at e
          exact e.2.2.1
      · refine ⟨false, by simp [c_is_right_stand, startD, getV, g0, hw, e1, c1, e2, c2], ff ?_⟩
        rintro ⟨s, e, ok⟩
        simp [Sd.d] at e
        obtain ⟨_, rfl, _⟩ := e
        have h1 := ok.2.1
        have h2 := ok.2.2.1
        simp [wholeB] at c2
        omega
    · refine ⟨false, by simp [c_is_right_stand, startD, getV, g0, hw, e1, c1], ff ?_⟩
      rintro ⟨s, e, ok⟩
      refine c1 (h1.mpr ⟨s.holder, s.kept, s.rest, s.last, ?_, ok.1⟩)
      simp [Sd.d, Sd.house] at e
      exact e.1
  · refine ⟨false, by simp [c_is_right_stand, startD, getV, g0, hw], ff ?_⟩
    rintro ⟨s, rfl, _⟩
    simp [Sd.d, wideB] at hw
end BH
end

section
set_option Elab.async false
set_option linter.all false
set_option maxRecDepth 100000
set_option maxHeartbeats 8000000
/-! Worlds, rules and events recognized: the program's way, the law's way. -/
namespace BH
open PySem L2

def isB : D → Bool
  | .bl _ => true
  | _ => false
theorem isB_eq {d : D} (h : isB d = true) : ∃ b, d = .bl b := by
  cases d <;> simp [isB] at h
  exact ⟨_, rfl⟩
theorem g_isb (M : Store) {d : D} (h : d.vl = true) : isiD "bool" d M = .ok (.bl (isB d)) M := by
  cases d <;> simp at h <;> simp [isB]
theorem wide6 {d : D} (h : wideB 6 d = true) : ∃ a b c e f g, d = .tup [a, b, c, e, f, g] := by
  cases d <;> simp [wideB] at h
  rename_i ds
  match ds, h with
  | [a, b, c, e, f, g], _ => exact ⟨a, b, c, e, f, g, rfl⟩
  | [], h => simp at h
  | [_], h => simp at h
  | [_, _], h => simp at h
  | [_, _, _], h => simp at h
  | [_, _, _, _], h => simp at h
  | [_, _, _, _, _], h => simp at h
  | _ :: _ :: _ :: _ :: _ :: _ :: _ :: _, h => simp at h; omega
theorem wide2 {d : D} (h : wideB 2 d = true) : ∃ a b, d = .tup [a, b] := by
  cases d <;> simp [wideB] at h
  rename_i ds
  match ds, h with
  | [a, b], _ => exact ⟨a, b, rfl⟩
  | [], h => simp at h
  | [_], h => simp at h
  | _ :: _ :: _ :: _, h => simp at h; omega
section
variable (M : Store)
theorem g_lwide {d : D} (h : d.vl = true) (n : Int) : run 54 [d, .int n, .int n] M = .ok (.bl (wideB n d)) M := by
  rw [run, evm_eq tb supx t__law_wide]
  cases d <;> simp at h <;> simp [c__law_wide, startD, getV, wideB]
  rename_i ds
  by_cases c : n = ds.length
  · subst c; simp
  · have c2 : ¬ ((ds.length : Int) = n) := fun z => c z.symm
    by_cases c3 : n ≤ ds.length
    · have : ¬ ((ds.length : Int) ≤ n) := by omega
      simp [c2, c3, this]
    · simp [c2, c3]
theorem g_lwhole {d : D} (h : d.vl = true) (lo hi : Int) : run 65 [d, .int lo, .int hi] M = .ok (.bl (wholeB lo hi d)) M := by
  rw [run, evm_eq tb supx t__law_whole]
  cases d <;> simp at h <;> simp [c__law_whole, startD, getV, wholeB]
theorem g_lamong {d : D} (h : d.vl = true) {l : Nat} {ws : List D} (hl : M[l]? = some (.lst ws)) (h2 : D.puL 63 ws = true) : run 66 [d, .ll l] M = .ok (.bl (wordB ws d)) M := by
  rw [run, evm_eq tb supx t__law_among]
  cases d <;> simp at h <;> simp [c__law_among, startD, getV, wordB]
  rw [inD_ll hl (by simpa using h) h2]
  simp
/-! ### worlds -/
theorem w_iff {x y z : D} : ((wholeB 0 2 x && isB y && isB z) = true) ↔ ∃ w : Wo, D.tup [x, y, z] = w.d ∧ w.ok := by
  constructor
  · intro h
    simp only [Bool.and_eq_true] at h
    obtain ⟨xi, rfl, x1, x2⟩ := whole_eq h.1.1
    obtain ⟨b, rfl⟩ := isB_eq h.1.2
    obtain ⟨c, rfl⟩ := isB_eq h.2
    exact ⟨⟨xi, b, c⟩, rfl, x1, x2⟩
  · rintro ⟨⟨a, b, c⟩, e, ok⟩
    simp [Wo.d] at e
    obtain ⟨rfl, rfl, rfl⟩ := e
    simp [wholeB, isB]
    exact ok
theorem w_wide {d : D} (h : ¬ wideB 3 d = true) : ¬ ∃ w : Wo, d = w.d ∧ w.ok := by
  rintro ⟨w, rfl, _⟩
  simp [Wo.d, wideB] at h
theorem g_world {d : D} (h : d.vl = true) : ∃ b, run 3 [d] M = .ok (.bl b) M ∧ (b = true ↔ ∃ w : Wo, d = w.d ∧ w.ok) := by
  rw [run, evm_eq tb supx t_is_right_world]
  have g0 := g_wide M h 3
  by_cases hw : wideB 3 d = true
  · obtain ⟨x, y, z, rfl⟩ := wide3 hw
    simp at h
    obtain ⟨vx, vy, vz⟩ := h
    have g1 := g_whole M vx 0 2
    have g2 := g_isb M vy
    have g3 := g_isb M vz
    refine ⟨wholeB 0 2 x && isB y && isB z, ?_, w_iff⟩
    simp [c_is_right_world, startD, getV, g0, hw, g1, g2, g3]
    cases wholeB 0 2 x <;> cases isB y <;> simp
  · exact ⟨false, by simp [c_is_right_world, startD, getV, g0, hw], ff (w_wide hw)⟩
theorem g_lplace {d : D} (h : d.vl = true) : ∃ b, run 67 [d] M = .ok (.bl b) M ∧ (b = true ↔ ∃ w : Wo, d = w.d ∧ w.ok) := by
  rw [run, evm_eq tb supx t__law_good_place]
  have g0 := g_lwide M h 3
  by_cases hw : wideB 3 d = true
  · obtain ⟨x, y, z, rfl⟩ := wide3 hw
    simp at h
    obtain ⟨vx, vy, vz⟩ := h
    have g1 := g_lwhole M vx 0 2
    have g2 := g_isb M vy
    have g3 := g_isb M vz
    refine ⟨wholeB 0 2 x && isB y && isB z, ?_, w_iff⟩
    simp [c__law_good_place, startD, getV, g0, hw, g1, g2, g3]
    cases wholeB 0 2 x <;> cases isB y <;> simp
  · exact ⟨false, by simp [c__law_good_place, startD, getV, g0, hw], ff (w_wide hw)⟩
/-! ### rules -/
theorem two_words {a b : String} {d : D} (h : wordB [.str a, .str b] d = true) : d = .str a ∨ d = .str b := by
  cases d <;> simp [wordB] at h
  rcases h with h | h
  · exact .inl (by rw [h])
  · exact .inr (by rw [h])
theorem r_iff {a b c e f g : D} : ((wholeB 1 4 a && wholeB 1 4 b && wordB [.str "asked", .str "came"] c && wordB [.str "no", .str "yes"] e && wordB [.str "no", .str "number"] f && wholeB 0 4 g) = true) ↔ ∃ r : Ru, D.tup [a, b, c, e, f, g] = r.d ∧ r.ok = true := by
  constructor
  · intro h
    simp only [Bool.and_eq_true] at h
    obtain ⟨⟨⟨⟨⟨h1, h2⟩, h3⟩, h4⟩, h5⟩, h6⟩ := h
    obtain ⟨ai, rfl, a1, a2⟩ := whole_eq h1
    obtain ⟨bi, rfl, b1, b2⟩ := whole_eq h2
    obtain ⟨gi, rfl, c1, c2⟩ := whole_eq h6
    have h3' : ∃ x : Bool, c = .str (if x then "asked" else "came") := by rcases two_words h3 with rfl | rfl; exact ⟨true, rfl⟩; exact ⟨false, rfl⟩
    have h4' : ∃ x : Bool, e = .str (if x then "yes" else "no") := by rcases two_words h4 with rfl | rfl; exact ⟨false, rfl⟩; exact ⟨true, rfl⟩
    have h5' : ∃ x : Bool, f = .str (if x then "number" else "no") := by rcases two_words h5 with rfl | rfl; exact ⟨false, rfl⟩; exact ⟨true, rfl⟩
    obtain ⟨x, rfl⟩ := h3'
    obtain ⟨y, rfl⟩ := h4'
    obtain ⟨z, rfl⟩ := h5'
    exact ⟨⟨ai, bi, x, y, z, gi⟩, rfl, by simp [Ru.ok]; omega⟩
  · rintro ⟨⟨a1, a2, a3, a4, a5, a6⟩, h, ok⟩
    simp only [Ru.d, D.tup.injEq, List.cons.injEq, and_true] at h
    obtain ⟨rfl, rfl, rfl, rfl, rfl, rfl⟩ := h
    simp [Ru.ok] at ok
    cases a3 <;> cases a4 <;> cases a5 <;> simp [wholeB, wordB] <;> omega
theorem r_wide {d : D} (h : ¬ wideB 6 d = true) : ¬ ∃ r : Ru, d = r.d ∧ r.ok = true := by
  rintro ⟨w, rfl, _⟩
  simp [Ru.d, wideB] at h
theorem g_rule {d : D} (h : d.vl = true) : ∃ b, run 4 [d] M = .ok (.bl b) M ∧ (b = true ↔ ∃ r : Ru, d = r.d ∧ r.ok = true) := by
  rw [run, evm_eq tb supx t_is_right_rule]
  have g0 := g_wide M h 6
  by_cases hw : wideB 6 d = true
  · obtain ⟨a, b, c, e, f, g, rfl⟩ := wide6 hw
    simp at h
    obtain ⟨va, vb, vc, ve, vf, vg⟩ := h
    have g1 := g_whole M va 1 4
    have g2 := g_whole M vb 1 4
    have g3 := g_word M vc (ws := [.str "asked", .str "came"]) (by simp)
    have g4 := g_word M ve (ws := [.str "no", .str "yes"]) (by simp)
    have g5 := g_word M vf (ws := [.str "no", .str "number"]) (by simp)
    have g6 := g_whole M vg 0 4
    refine ⟨_, ?_, r_iff⟩
    simp [c_is_right_rule, startD, getV, g0, hw, g1, g2, g3, g4, g5, g6]
    cases wholeB 1 4 a <;> simp
    cases wholeB 1 4 b <;> simp
    cases wordB [.str "asked", .str "came"] c <;> simp
    cases wordB [.str "no", .str "yes"] e <;> simp
  · exact ⟨false, by simp [c_is_right_rule, startD, getV, g0, hw], ff (r_wide hw)⟩
theorem g_lterms {d : D} (h : d.vl = true) : ∃ b, run 68 [d] M = .ok (.bl b) M ∧ (b = true ↔ ∃ r : Ru, d = r.d ∧ r.ok = true) := by
  rw [run, evm_eq tb supx t__law_good_terms]
  have g0 := g_lwide M h 6
  by_cases hw : wideB 6 d = true
  · obtain ⟨a, b, c, e, f, g, rfl⟩ := wide6 hw
    simp at h
    obtain ⟨va, vb, vc, ve, vf, vg⟩ := h
    have g1 := g_lwhole M va 1 4
    have g2 := g_lwhole M vb 1 4
    have g3 := fun (X : Store) => g_lamong (M ++ (X ++ [.lst [.str "asked", .str "came"]])) vc (l := M.length + X.length) (ws := [.str "asked", .str "came"]) (by simp) (by simp)
    have g4 := fun (X : Store) => g_lamong (M ++ (X ++ [.lst [.str "no", .str "yes"]])) ve (l := M.length + X.length) (ws := [.str "no", .str "yes"]) (by simp) (by simp)
    have g5 := fun (X : Store) => g_lamong (M ++ (X ++ [.lst [.str "no", .str "number"]])) vf (l := M.length + X.length) (ws := [.str "no", .str "number"]) (by simp) (by simp)
    have g6 := fun X => g_lwhole (M ++ X) vg 0 4
    have g3 := g3 []
    have g4 := g4 [.lst [.str "asked", .str "came"]]
    have g5 := g5 [.lst [.str "asked", .str "came"], .lst [.str "no", .str "yes"]]
    simp at g3 g4 g5
    refine ⟨_, ?_, r_iff⟩
    simp [c__law_good_terms, startD, getV, g0, hw, g1, g2, newL, g3]
    cases wholeB 1 4 a <;> simp
    cases wholeB 1 4 b <;> simp
    cases wordB [.str "asked", .str "came"] c <;> simp
    · exact gc_pure rfl
    simp [getV, newL, g4]
    cases wordB [.str "no", .str "yes"] e <;> simp
    · exact gc_pure rfl
    simp [getV, newL, g5]
    cases wordB [.str "no", .str "number"] f <;> simp
    · exact gc_pure rfl
    simp [getV, g6]
    exact gc_pure rfl
  · exact ⟨false, by simp [c__law_good_terms, startD, getV, g0, hw], ff (r_wide hw)⟩
end
end BH
end

section
set_option Elab.async false
set_option linter.all false
set_option maxRecDepth 100000
set_option maxHeartbeats 2000000
/-! k71: texts as lists of signs: split, joined. -/
namespace BH
open PySem L2

abbrev St (a : List Nat) : Str := SX.S a
def lt (s : String) : List Nat := s.toList.map Char.toNat
theorem ofs_St (s : String) : Str.ofString s = St (lt s) := TL.ext_tl (TL.tl_ofString s)
theorem St_inj {a b : List Nat} : St a = St b ↔ a = b := ⟨SX.S_inj, fun h => by rw [h]⟩
theorem St_ok {a : List Nat} (h : ∀ c ∈ a, c < 128) : PyData.strOk (St a) = true := by
  unfold PyData.strOk
  rw [Array.all_eq_true']
  intro x hx
  have := h x (by simpa using hx)
  simp only [decide_eq_true_eq]
  omega
/-- a text no longer than B, of plain signs -/
def Tx (B : Nat) (a : List Nat) : Prop := a.length ≤ B ∧ ∀ c ∈ a, c < 128
theorem Tx.ok {B : Nat} {a : List Nat} (h : Tx B a) : PyData.strOk (St a) = true := St_ok h.2
theorem Tx.up {B C : Nat} {a : List Nat} (h : Tx B a) (hc : B ≤ C) : Tx C a := ⟨Nat.le_trans h.1 hc, h.2⟩
theorem Tx.app {B C : Nat} {a b : List Nat} (h : Tx B a) (g : Tx C b) : Tx (B + C) (a ++ b) := ⟨by rw [List.length_append]; have := h.1; have := g.1; omega, fun c hc => by
  rcases List.mem_append.mp hc with z | z
  · exact h.2 c z
  · exact g.2 c z⟩
theorem Tx.take {B : Nat} {a : List Nat} (h : Tx B a) (n : Nat) : Tx B (a.take n) := ⟨by rw [List.length_take]; have := h.1; omega, fun c hc => h.2 c (List.mem_of_mem_take hc)⟩
theorem Tx.drop {B : Nat} {a : List Nat} (h : Tx B a) (n : Nat) : Tx B (a.drop n) := ⟨by rw [List.length_drop]; have := h.1; omega, fun c hc => h.2 c (List.mem_of_mem_drop hc)⟩
/-! ### split -/
def sumL : List (List Nat) → Nat
  | [] => 0
  | p :: r => p.length + sumL r
theorem sumL_eq : ∀ l : List (List Nat), (l.map List.length).sum = sumL l
  | [] => rfl
  | p :: r => by rw [List.map_cons, List.sum_cons, sumL, sumL_eq r]
theorem sumL_app : ∀ a b : List (List Nat), sumL (a ++ b) = sumL a + sumL b
  | [], b => by simp [sumL]
  | p :: r, b => by rw [List.cons_append, sumL, sumL, sumL_app r b]; omega
theorem spl_all (s : List Nat) : ∀ (l : List Nat) (k : Nat) (acc : List Nat), (∀ p ∈ TL.spl s k acc l, ∀ c ∈ p, c ∈ acc ∨ c ∈ l) ∧ (TL.spl s k acc l).length ≤ l.length + 1 ∧ sumL (TL.spl s k acc l) ≤ acc.length + l.length ∧ TL.spl s k acc l ≠ []
  | [], k, acc => by rw [TL.spl_nil]; simp [sumL]
  | x :: r, 0, acc => by
    cases hp : TL.pre s (x :: r) with
    | true =>
      rw [TL.spl_hit hp]
      obtain ⟨i1, i2, i3, i4⟩ := spl_all s r (s.length - 1) []
      refine ⟨fun p hpp c hc => ?_, by simp; omega, by rw [sumL]; simp at i3 ⊢; omega, by simp⟩
      rcases List.mem_cons.mp hpp with z | z
      · subst z; exact .inl hc
      · rcases i1 p z c hc with q | q
        · simp at q
        · exact .inr (List.mem_cons_of_mem _ q)
    | false =>
      rw [TL.spl_miss hp]
      obtain ⟨i1, i2, i3, i4⟩ := spl_all s r 0 (acc ++ [x])
      refine ⟨fun p hpp c hc => ?_, by simp; omega, by simp at i3 ⊢; omega, i4⟩
      rcases i1 p hpp c hc with q | q
      · rcases List.mem_append.mp q with q | q
        · exact .inl q
        · rw [List.mem_singleton.mp q]; exact .inr List.mem_cons_self
      · exact .inr (List.mem_cons_of_mem _ q)
  | x :: r, k + 1, acc => by
    have e : TL.spl s (k + 1) acc (x :: r) = TL.spl s k acc r := rfl
    rw [e]
    obtain ⟨i1, i2, i3, i4⟩ := spl_all s r k acc
    refine ⟨fun p hpp c hc => ?_, by simp; omega, by simp; omega, i4⟩
    rcases i1 p hpp c hc with q | q
    · exact .inl q
    · exact .inr (List.mem_cons_of_mem _ q)
/-- the words of a text -/
def wds (a : List Nat) : List (List Nat) := TL.spl [32] 0 [] a
theorem wds_len (a : List Nat) : (wds a).length ≤ a.length + 1 := (spl_all [32] a 0 []).2.1
theorem wds_sum (a : List Nat) : sumL (wds a) ≤ a.length := by have := (spl_all [32] a 0 []).2.2.1; rw [List.length_nil, Nat.zero_add] at this; exact this
theorem wds_ne (a : List Nat) : wds a ≠ [] := (spl_all [32] a 0 []).2.2.2
theorem wds_mem {a p : List Nat} (h : p ∈ wds a) : ∀ c ∈ p, c ∈ a := fun c hc => by
  rcases (spl_all [32] a 0 []).1 p h c hc with z | z
  · simp at z
  · exact z
theorem sumL_mem {p : List Nat} : ∀ {l : List (List Nat)}, p ∈ l → p.length ≤ sumL l
  | q :: r, h => by
    rw [sumL]
    rcases List.mem_cons.mp h with z | z
    · subst z; omega
    · have := sumL_mem z; omega
theorem wds_tx {B : Nat} {a p : List Nat} (h : Tx B a) (hp : p ∈ wds a) : Tx B p := ⟨by have := sumL_mem hp; have := wds_sum a; have := h.1; omega, fun c hc => h.2 c (wds_mem hp c hc)⟩
/-! ### joined -/
def jn (l : List (List Nat)) : List Nat := TL.joinL [32] l
theorem jn_all : ∀ l : List (List Nat), (jn l).length ≤ sumL l + l.length ∧ ∀ c ∈ jn l, c = 32 ∨ ∃ p ∈ l, c ∈ p
  | [] => ⟨Nat.zero_le _, fun c hc => by simp [jn, TL.joinL] at hc⟩
  | [p] => by
    have e : jn [p] = p := rfl
    rw [e]
    exact ⟨by simp [sumL], fun c hc => .inr ⟨p, by simp, hc⟩⟩
  | p :: q :: r => by
    have e : jn (p :: q :: r) = p ++ ([32] ++ jn (q :: r)) := rfl
    rw [e]
    obtain ⟨i1, i2⟩ := jn_all (q :: r)
    refine ⟨?_, fun c hc => ?_⟩
    · have e : sumL (p :: q :: r) = p.length + sumL (q :: r) := rfl
      rw [e]
      simp at i1 ⊢
      omega
    · rcases List.mem_append.mp hc with z | z
      · exact .inr ⟨p, by simp, z⟩
      · rcases List.mem_append.mp z with z | z
        · exact .inl (by simpa using z)
        · rcases i2 c z with z | ⟨p', h1, h2⟩
          · exact .inl z
          · exact .inr ⟨p', List.mem_cons_of_mem _ h1, h2⟩
theorem jn_tx {B n : Nat} {l : List (List Nat)} (h1 : sumL l ≤ B) (h2 : l.length ≤ n) (h3 : ∀ p ∈ l, ∀ c ∈ p, c < 128) : Tx (B + n) (jn l) := by
  obtain ⟨i1, i2⟩ := jn_all l
  refine ⟨by omega, fun c hc => ?_⟩
  rcases i2 c hc with z | ⟨p, z1, z2⟩
  · omega
  · exact h3 p z1 c z2
theorem wds_jn {l : List (List Nat)} (h : l ≠ []) (hp : ∀ p ∈ l, 32 ∉ p) : wds (jn l) = l := TL.spl_join h hp
/-! ### the language's texts -/
section
variable (M : Store)
theorem add_St {a b : List Nat} (h : a.length + b.length ≤ 16777216) : binD .Add (.str (St a)) (.str (St b)) M = .ok (.str (St (a ++ b))) M := by
  show (if (St a).length + (St b).length ≤ szl then Out.ok (D.str (St a ++ St b)) M else .bad) = _
  rw [SX.S_len, SX.S_len, szl_v, if_pos h, SX.S_cat]
theorem len_St {a : List Nat} (h : a.length ≤ 16777216) : biD .len [.str (St a)] M = .ok (.int (a.length : Nat)) M := by
  show (if (St a).length ≤ szl then Out.ok (D.int ((St a).length : Nat)) M else .bad) = _
  rw [SX.S_len, szl_v, if_pos h]
theorem split_St {a : List Nat} (h : a.length ≤ 1000) : meD .split (.str (St a)) [.str (St [32])] M = newL M ((wds a).map fun p => D.str (St p)) := by
  show (if ((St [32]).length == 0) = false ∧ (St a).length + 2 ≤ szl then newL M ((Txt.split (St a) (St [32])).map .str) else .bad) = _
  rw [SX.S_len, SX.S_len, if_pos ⟨rfl, by simp; omega⟩, SX.split_S (by decide) (by decide), List.map_map]
  rfl
theorem strsD_St : ∀ l : List (List Nat), strsD (l.map fun p => D.str (St p)) = some (l.map St)
  | [] => rfl
  | p :: r => by
    rw [List.map_cons]
    show (strsD (r.map fun p => D.str (St p))).map (St p :: ·) = _
    rw [strsD_St r]
    rfl
theorem join_St {N : Store} {l : Nat} {ys : List (List Nat)} (hl : N[l]? = some (.lst (ys.map fun p => D.str (St p)))) (h : sumL ys + ys.length ≤ 16777216) : meD .join (.str (St [32])) [.ll l] N = .ok (.str (St (jn ys))) N := by
  show (match N[l]? with
    | some (.lst xs) => (match strsD xs with
      | some (zs : List Str) => if (zs.map fun (z : Str) => z.length).sum + zs.length * (St [32]).length ≤ 16777216 then Out.ok (D.str (Txt.join (St [32]) zs)) N else .bad
      | none => .bad)
    | _ => .bad) = _
  rw [hl]
  dsimp only
  rw [strsD_St]
  dsimp only
  rw [SX.lens, sumL_eq, SX.S_len, List.length_map, if_pos (by simpa using h), SX.join_S]
  rfl
theorem slc_to_St {a : List Nat} {i : Nat} (h : a.length ≤ 16777216) : slcD (.str (St a)) none (some (i : Int)) M = .ok (.str (St (a.take i))) M := by
  show (if (St a).length ≤ szl then Out.ok (D.str (Txt.slice (St a) none (some (i : Int)))) M else .bad) = _
  rw [SX.S_len, szl_v, if_pos h, SX.slice_to (by omega)]
  rfl
theorem slc_from_St {a : List Nat} {i : Nat} (h : a.length ≤ 16777216) : slcD (.str (St a)) (some (i : Int)) none M = .ok (.str (St (a.drop i))) M := by
  show (if (St a).length ≤ szl then Out.ok (D.str (Txt.slice (St a) (some (i : Int)) none)) M else .bad) = _
  rw [SX.S_len, szl_v, if_pos h, SX.slice_from (by omega)]
  rfl
theorem pu_St (n : Nat) {a : List Nat} (h : ∀ c ∈ a, c < 128) : D.pu n (.str (St a)) = true := by rw [pu_str]; exact St_ok h
end
end BH
end

section
set_option Elab.async false
set_option linter.all false
set_option maxRecDepth 100000
set_option maxHeartbeats 4000000
/-! k71: a rule's line. -/
namespace BH
open PySem L2

def dg (i : Int) : List Nat := [48 + i.toNat]
theorem str_dg {i : Int} (h : 0 ≤ i) (h2 : i ≤ 9) : (Str.ofString (toString i)) = St (dg i) := by
  obtain ⟨n, rfl⟩ := Int.eq_ofNat_of_zero_le h
  rw [SX.num_S, TL.numL_lt (by omega)]
  rfl
def org (b : Bool) : List Nat := lt (if b then "asked" else "came")
def yno (b : Bool) : List Nat := lt (if b then "yes" else "no")
def chk (b : Bool) : List Nat := lt (if b then "number" else "no")
def vals (r : Ru) : List (List Nat) := [dg r.keep, dg r.use, org r.asked, yno r.yes, chk r.number, dg r.rest]
def wordsL (r : Ru) : List (List Nat) := [lt "keep", dg r.keep, lt "trust", dg r.use, lt "from", org r.asked, lt "lapsed", yno r.yes, lt "check", chk r.number, lt "rest", dg r.rest]
def lineL (r : Ru) : List Nat := jn (wordsL r)
def pcs (r : Ru) : List (List Nat) := [lt "keep" ++ [32] ++ dg r.keep, lt "trust" ++ [32] ++ dg r.use, lt "from" ++ [32] ++ org r.asked, lt "lapsed" ++ [32] ++ yno r.yes, lt "check" ++ [32] ++ chk r.number, lt "rest" ++ [32] ++ dg r.rest]
theorem jn_pcs (r : Ru) : jn (pcs r) = lineL r := by simp [lineL, jn, pcs, wordsL, TL.joinL]
theorem len_dg (i : Int) : (dg i).length = 1 := rfl
theorem len_org (b : Bool) : (org b).length ≤ 5 := by cases b <;> decide
theorem len_yno (b : Bool) : (yno b).length ≤ 3 := by cases b <;> decide
theorem len_chk (b : Bool) : (chk b).length ≤ 6 := by cases b <;> decide
theorem ru_b {r : Ru} (h : r.ok = true) : 1 ≤ r.keep ∧ r.keep ≤ 4 ∧ 1 ≤ r.use ∧ r.use ≤ 4 ∧ 0 ≤ r.rest ∧ r.rest ≤ 4 := by
  unfold Ru.ok at h
  simp at h
  omega
theorem pcs_sum (r : Ru) : sumL (pcs r) ≤ 60 := by
  have h1 := len_org r.asked
  have h2 := len_yno r.yes
  have h3 := len_chk r.number
  simp only [pcs, sumL, List.length_append, len_dg, show (lt "keep").length = 4 from rfl, show (lt "trust").length = 5 from rfl, show (lt "from").length = 4 from rfl, show (lt "lapsed").length = 6 from rfl, show (lt "check").length = 5 from rfl, show (lt "rest").length = 4 from rfl, List.length_cons, List.length_nil]
  omega
theorem dg_lt {i : Int} (h : i ≤ 9) : ∀ c ∈ dg i, c < 128 ∧ c ≠ 32 := by
  intro c hc
  simp [dg] at hc
  omega
theorem words_lt {r : Ru} (h : r.ok = true) : ∀ p ∈ wordsL r, ∀ c ∈ p, c < 128 ∧ c ≠ 32 := by
  obtain ⟨b1, b2, b3, b4, b5, b6⟩ := ru_b h
  intro p hp
  simp only [wordsL, List.mem_cons, List.not_mem_nil, or_false] at hp
  rcases hp with rfl | rfl | rfl | rfl | rfl | rfl | rfl | rfl | rfl | rfl | rfl | rfl
  · decide
  · exact dg_lt (by omega)
  · decide
  · exact dg_lt (by omega)
  · decide
  · cases r.asked <;> decide
  · decide
  · cases r.yes <;> decide
  · decide
  · cases r.number <;> decide
  · decide
  · exact dg_lt (by omega)
theorem line_tx {r : Ru} (h : r.ok = true) : Tx 72 (lineL r) := by
  refine jn_tx (B := 60) (n := 12) ?_ (by simp [wordsL]) fun p hp c hc => (words_lt h p hp c hc).1
  have h1 := len_org r.asked
  have h2 := len_yno r.yes
  have h3 := len_chk r.number
  simp only [wordsL, sumL, len_dg, show (lt "keep").length = 4 from rfl, show (lt "trust").length = 5 from rfl, show (lt "from").length = 4 from rfl, show (lt "lapsed").length = 6 from rfl, show (lt "check").length = 5 from rfl, show (lt "rest").length = 4 from rfl]
  omega
theorem wds_line {r : Ru} (h : r.ok = true) : wds (lineL r) = wordsL r := wds_jn (by simp [wordsL]) fun p hp z => (words_lt h p hp 32 z).2 rfl
theorem odds_map {α β : Type} (f : α → β) : ∀ l : List α, oddsL (l.map f) = (oddsL l).map f
  | [] => rfl
  | [_] => rfl
  | _ :: b :: r => by
    show f b :: oddsL (r.map f) = f b :: (oddsL r).map f
    rw [odds_map f r]
theorem odds_line {r : Ru} (h : r.ok = true) : oddsL (wds (lineL r)) = vals r := by rw [wds_line h]; rfl
section
variable (M : Store)
theorem str_i {i : Int} (h : 0 ≤ i) (h2 : i ≤ 9) : biD .str [.int i] M = .ok (.str (St (dg i))) M := by
  show (if i.natAbs.log2 < 1920 then Out.ok (D.str (Str.ofString (toString i))) M else .bad) = _
  rw [if_pos, str_dg h h2]
  obtain ⟨n, rfl⟩ := Int.eq_ofNat_of_zero_le h
  have : n < 10 := by omega
  have : n.log2 ≤ n := Nat.log2_le_self n
  show n.log2 < 1920
  omega
theorem str_s (x : Str) : biD .str [.str x] M = .ok (.str x) M := rfl
theorem r_label (x : String) (h : x ≠ "origin") : run 82 [.str x] M = .ok (.str x) M := by
  rw [run, evm_eq tb supx t_label]
  simp [c_label, startD, getV, eqD_pu, h]
theorem r_label_o : run 82 [.str "origin"] M = .ok (.str "from") M := by
  rw [run, evm_eq tb supx t_label]
  simp [c_label, startD, getV, eqD_pu]
theorem ru_d (r : Ru) : r.d = .tup [.int r.keep, .int r.use, .str (St (org r.asked)), .str (St (yno r.yes)), .str (St (chk r.number)), .int r.rest] := by
  unfold Ru.d org yno chk
  rw [← ofs_St, ← ofs_St, ← ofs_St]
  cases r.asked <;> cases r.yes <;> cases r.number <;> rfl
theorem r_line_of {r : Ru} (h : r.ok = true) : run 83 [r.d] M = .ok (.str (St (lineL r))) M := by
  obtain ⟨b1, b2, b3, b4, b5, b6⟩ := ru_b h
  have l1 := len_org r.asked
  have l2 := len_yno r.yes
  have l3 := len_chk r.number
  have s1 := fun N => str_i N (i := r.keep) (by omega) (by omega)
  have s2 := fun N => str_i N (i := r.use) (by omega) (by omega)
  have s3 := fun N => str_i N (i := r.rest) (by omega) (by omega)
  rw [run, evm_eq tb supx t_line_of, ru_d]
  have p1 := fun N => add_St N (a := lt "keep") (b := [32]) (by decide)
  have p2 := fun N => add_St N (a := lt "trust") (b := [32]) (by decide)
  have p3 := fun N => add_St N (a := lt "from") (b := [32]) (by decide)
  have p4 := fun N => add_St N (a := lt "lapsed") (b := [32]) (by decide)
  have p5 := fun N => add_St N (a := lt "check") (b := [32]) (by decide)
  have p6 := fun N => add_St N (a := lt "rest") (b := [32]) (by decide)
  have q1 := fun N => add_St N (a := lt "keep" ++ [32]) (b := dg r.keep) (by rw [len_dg]; decide)
  have q2 := fun N => add_St N (a := lt "trust" ++ [32]) (b := dg r.use) (by rw [len_dg]; decide)
  have q3 := fun N => add_St N (a := lt "from" ++ [32]) (b := org r.asked) (by have : (lt "from" ++ [32] : List Nat).length = 5 := rfl; omega)
  have q4 := fun N => add_St N (a := lt "lapsed" ++ [32]) (b := yno r.yes) (by have : (lt "lapsed" ++ [32] : List Nat).length = 7 := rfl; omega)
  have q5 := fun N => add_St N (a := lt "check" ++ [32]) (b := chk r.number) (by have : (lt "check" ++ [32] : List Nat).length = 6 := rfl; omega)
  have q6 := fun N => add_St N (a := lt "rest" ++ [32]) (b := dg r.rest) (by rw [len_dg]; decide)
  have k1 := fun N => r_label N "keep" (by decide)
  have k2 := fun N => r_label N "trust" (by decide)
  have k4 := fun N => r_label N "lapsed" (by decide)
  have k5 := fun N => r_label N "check" (by decide)
  have k6 := fun N => r_label N "rest" (by decide)
  have k3 := r_label_o
  have hs := pcs_sum r
  have jj := join_St (N := M ++ [.lst ((pcs r).map fun p => D.str (St p))]) (l := M.length) (ys := pcs r) (by simp) (by rw [show (pcs r).length = 6 from rfl]; omega)
  rw [jn_pcs] at jj
  simp [pcs] at jj q1 q2 q3 q4 q5 q6
  simp only [ofs_St] at k1 k2 k3 k4 k5 k6
  simp only [c_line_of, ofs_St, show lt " " = [32] from rfl]
  simp [startD, getV, pairL, zipD, Itm.chk, Itm.ds, lcL, wipeD, newL, str_s, s1, s2, s3, p1, p2, p3, p4, p5, p6, k1, k2, k3, k4, k5, k6, q1, q2, q3, q4, q5, q6, jj]
  exact gc_pure rfl
end
end BH
end

section
set_option Elab.async false
set_option linter.all false
set_option maxRecDepth 100000
set_option maxHeartbeats 4000000
/-! k71: the law's line; the rule's line; words read. -/
namespace BH
open PySem L2
section
variable (M : Store)
theorem r_lline {r : Ru} (h : r.ok = true) : run 91 [r.d] M = .ok (.str (St (lineL r))) M := by
  obtain ⟨b1, b2, b3, b4, b5, b6⟩ := ru_b h
  have l1 := len_org r.asked
  have l2 := len_yno r.yes
  have l3 := len_chk r.number
  have s1 := fun N => str_i N (i := r.keep) (by omega) (by omega)
  have s2 := fun N => str_i N (i := r.use) (by omega) (by omega)
  have s3 := fun N => str_i N (i := r.rest) (by omega) (by omega)
  rw [run, evm_eq tb supx t__law_line, ru_d]
  have p1 := fun N => add_St N (a := lt "keep") (b := [32]) (by decide)
  have p2 := fun N => add_St N (a := lt "trust") (b := [32]) (by decide)
  have p3 := fun N => add_St N (a := lt "from") (b := [32]) (by decide)
  have p4 := fun N => add_St N (a := lt "lapsed") (b := [32]) (by decide)
  have p5 := fun N => add_St N (a := lt "check") (b := [32]) (by decide)
  have p6 := fun N => add_St N (a := lt "rest") (b := [32]) (by decide)
  have q1 := fun N => add_St N (a := lt "keep" ++ [32]) (b := dg r.keep) (by rw [len_dg]; decide)
  have q2 := fun N => add_St N (a := lt "trust" ++ [32]) (b := dg r.use) (by rw [len_dg]; decide)
  have q3 := fun N => add_St N (a := lt "from" ++ [32]) (b := org r.asked) (by have : (lt "from" ++ [32] : List Nat).length = 5 := rfl; omega)
  have q4 := fun N => add_St N (a := lt "lapsed" ++ [32]) (b := yno r.yes) (by have : (lt "lapsed" ++ [32] : List Nat).length = 7 := rfl; omega)
  have q5 := fun N => add_St N (a := lt "check" ++ [32]) (b := chk r.number) (by have : (lt "check" ++ [32] : List Nat).length = 6 := rfl; omega)
  have q6 := fun N => add_St N (a := lt "rest" ++ [32]) (b := dg r.rest) (by rw [len_dg]; decide)
  have hs := pcs_sum r
  have jj := fun X : MO => join_St (N := M ++ [X, .lst ((pcs r).map fun p => D.str (St p))]) (l := M.length + 1) (ys := pcs r) (by simp) (by rw [show (pcs r).length = 6 from rfl]; omega)
  rw [jn_pcs] at jj
  simp [pcs] at jj q1 q2 q3 q4 q5 q6
  simp only [c__law_line, ofs_St, show lt " " = [32] from rfl]
  simp [startD, getV, pairL, zipD, Itm.chk, Itm.ds, lcL, wipeD, newL, str_s, s1, s2, s3, p1, p2, p3, p4, p5, p6, q1, q2, q3, q4, q5, q6, D.beqL_refl, jj]
  exact gc_pure rfl
theorem r_rule_line {r : Ru} (h : r.ok = true) : run 85 [r.d] M = .ok (.str (St (lineL r))) M := by
  rw [run, evm_eq tb supx t_rule_line]
  simp [c_rule_line, startD, getV, r_need_rule M r h, r_line_of M h]
/-! ### words read by the program -/
def strD : D → Str
  | .int i => Str.ofString (toString i)
  | .str s => s
  | _ => Str.empty
def chs : List (List D) := [[.int 1, .int 2, .int 3, .int 4], [.int 1, .int 2, .int 3, .int 4], [.str "asked", .str "came"], [.str "no", .str "yes"], [.str "no", .str "number"], [.int 0, .int 1, .int 2, .int 3, .int 4]]
/-- a choice: small numbers, plain texts -/
def small : D → Bool
  | .int i => decide (0 ≤ i) && decide (i ≤ 9)
  | .str s => PyData.strOk s
  | _ => false
theorem chs_small : ∀ cs ∈ chs, ∀ c ∈ cs, small c = true := by
  intro cs h c hc
  simp only [chs, List.mem_cons, List.not_mem_nil, or_false] at h
  rcases h with rfl | rfl | rfl | rfl | rfl | rfl <;>
  · simp only [List.mem_cons, List.not_mem_nil, or_false] at hc
    rcases hc with rfl | rfl | rfl | rfl | rfl <;> simp [small]
def pk (w : List Nat) (cs : List D) : List D := cs.filter fun c => decide (strD c = St w)
/-- the choices whose text a word is -/
theorem lc_pk (m : Nat → List D → Store → Out D) (chk : Store → Bool) (N : Store) (hc : chk N = true) (w : List Nat) (hw : ∀ c ∈ w, c < 128) (x0 x1 x3 x4 : Option D) : ∀ (cs acc : List D), (∀ c ∈ cs, small c = true) → acc.length + cs.length ≤ 1000 →
    lcL chk (evG m (.nm 4)) (evIf m [(.cmp .Eq (.bi .str [(.var 4)]) (.var 2))]) (evE m (.var 4)) [x0, x1, some (.str (St w)), x3, x4] cs acc N = newL N (acc ++ pk w cs)
  | [], acc, _, _ => by simp [lcL, hc, pk]
  | c :: cs, acc, hs, hl => by
    have h0 := hs c List.mem_cons_self
    have hstr : biD .str [c] N = .ok (.str (strD c)) N ∧ PyData.strOk (strD c) = true := by
      cases c <;> simp [small] at h0
      · rename_i i
        refine ⟨?_, by show PyData.strOk (Str.ofString (toString i)) = true; exact ofs_ok _⟩
        rw [str_i N h0.1 h0.2, strD, str_dg h0.1 h0.2]
      · exact ⟨rfl, h0⟩
    obtain ⟨e1, e2⟩ := hstr
    have ih1 := lc_pk m chk N hc w hw x0 x1 x3 x4 cs (acc ++ [c]) (fun d hd => hs d (List.mem_cons_of_mem _ hd)) (by simp at hl ⊢; omega)
    have ih2 := lc_pk m chk N hc w hw x0 x1 x3 x4 cs acc (fun d hd => hs d (List.mem_cons_of_mem _ hd)) (by simp at hl ⊢; omega)
    have heq : eqD N (.str (strD c)) (.str (St w)) = some (decide (strD c = St w)) := by
      rw [eqD_pu (by simpa using e2) (pu_St 64 hw), eq_ss]
    unfold lcL
    rw [if_pos hc]
    simp [getV, e1, heq]
    have ep : pk w (c :: cs) = if strD c = St w then c :: pk w cs else pk w cs := by
      unfold pk
      rw [List.filter_cons]
      simp
    by_cases hh : strD c = St w
    · rw [if_pos hh, ih1, ep, if_pos hh]; simp
    · rw [if_neg hh, ih2, ep, if_neg hh]
/-- what is found in a text -/
def fnd (ws : List (List Nat)) : List D := (List.zipWith pk ws chs).flatten
theorem pk_mem {w : List Nat} {cs : List D} {d : D} (h : d ∈ pk w cs) : d ∈ cs := (List.mem_filter.mp h).1
theorem zip_mem : ∀ (ws : List (List Nat)) (l : List (List D)) {d : D}, d ∈ (List.zipWith pk ws l).flatten → ∃ cs ∈ l, d ∈ cs
  | [], _, d, h => by simp at h
  | _ :: _, [], d, h => by simp at h
  | w :: ws, cs :: l, d, h => by
    rw [List.zipWith_cons_cons, List.flatten_cons] at h
    rcases List.mem_append.mp h with z | z
    · exact ⟨cs, List.mem_cons_self, pk_mem z⟩
    · obtain ⟨c, h1, h2⟩ := zip_mem ws l z
      exact ⟨c, List.mem_cons_of_mem _ h1, h2⟩
theorem small_vl {d : D} (h : small d = true) : d.vl = true := by cases d <;> simp [small] at h <;> simp [h]
theorem small_lo {d : D} (n : Nat) (h : small d = true) : D.lo n d = true := by cases d <;> simp [small] at h <;> simp
theorem all_vl : ∀ {ds : List D}, (∀ d ∈ ds, small d = true) → D.vlL ds = true
  | [], _ => by simp
  | d :: ds, h => by simp [small_vl (h d (by simp)), all_vl fun e he => h e (List.mem_cons_of_mem _ he)]
theorem fnd_small (ws : List (List Nat)) : ∀ d ∈ fnd ws, small d = true := fun d hd => by
  obtain ⟨cs, h1, h2⟩ := zip_mem ws chs hd
  exact chs_small cs h1 d h2
theorem fnd_vl (ws : List (List Nat)) : D.vl (.tup (fnd ws)) = true := by rw [vl_tup]; exact all_vl (fnd_small ws)
theorem dg_inj {i j : Int} (hi : 0 ≤ i) (hj : 0 ≤ j) : dg i = dg j ↔ i = j := by
  simp [dg]
  omega
theorem pk_int {i : Int} : ∀ cs : List Int, (∀ c ∈ cs, 0 ≤ c ∧ c ≤ 9) → 0 ≤ i → pk (dg i) (cs.map D.int) = (cs.filter fun c => decide (c = i)).map D.int
  | [], _, _ => rfl
  | c :: cs, h, hi => by
    have h0 := h c List.mem_cons_self
    have e : strD (.int c) = St (dg i) ↔ c = i := by
      rw [strD, str_dg h0.1 h0.2, St_inj, dg_inj h0.1 hi]
    have ih := pk_int cs (fun d hd => h d (List.mem_cons_of_mem _ hd)) hi
    unfold pk at ih ⊢
    rw [List.map_cons, List.filter_cons, List.filter_cons, ih]
    by_cases q : c = i
    · rw [if_pos (decide_eq_true (e.mpr q)), if_pos (decide_eq_true q)]; rfl
    · rw [if_neg (fun z => q (e.mp (of_decide_eq_true z))), if_neg (fun z => q (of_decide_eq_true z))]
theorem fnd_line {r : Ru} (h : r.ok = true) : D.tup (fnd (oddsL (wds (lineL r)))) = r.d := by
  obtain ⟨b1, b2, b3, b4, b5, b6⟩ := ru_b h
  rw [odds_line h, ru_d]
  have k1 : pk (dg r.keep) [.int 1, .int 2, .int 3, .int 4] = [.int r.keep] := by
    refine (pk_int [1, 2, 3, 4] (by decide) (by omega)).trans ?_
    have : r.keep = 1 ∨ r.keep = 2 ∨ r.keep = 3 ∨ r.keep = 4 := by omega
    rcases this with q | q | q | q <;> rw [q] <;> rfl
  have k2 : pk (dg r.use) [.int 1, .int 2, .int 3, .int 4] = [.int r.use] := by
    refine (pk_int [1, 2, 3, 4] (by decide) (by omega)).trans ?_
    have : r.use = 1 ∨ r.use = 2 ∨ r.use = 3 ∨ r.use = 4 := by omega
    rcases this with q | q | q | q <;> rw [q] <;> rfl
  have k6 : pk (dg r.rest) [.int 0, .int 1, .int 2, .int 3, .int 4] = [.int r.rest] := by
    refine (pk_int [0, 1, 2, 3, 4] (by decide) (by omega)).trans ?_
    have : r.rest = 0 ∨ r.rest = 1 ∨ r.rest = 2 ∨ r.rest = 3 ∨ r.rest = 4 := by omega
    rcases this with q | q | q | q | q <;> rw [q] <;> rfl
  have k3 : pk (org r.asked) [.str "asked", .str "came"] = [.str (St (org r.asked))] := by
    cases r.asked <;> rfl
  have k4 : pk (yno r.yes) [.str "no", .str "yes"] = [.str (St (yno r.yes))] := by
    cases r.yes <;> rfl
  have k5 : pk (BH.chk r.number) [.str "no", .str "number"] = [.str (St (BH.chk r.number))] := by
    cases r.number <;> rfl
  simp only [fnd, vals, chs, List.zipWith_cons_cons, List.zipWith_nil_left, k1, k2, k3, k4, k5, k6]
  rfl
end
end BH
end

section
set_option Elab.async false
set_option linter.all false
set_option maxRecDepth 100000
set_option maxHeartbeats 4000000
/-! k71: a text read by the program. -/
namespace BH
open PySem L2
def sD (ws : List (List Nat)) : List D := ws.map fun p => D.str (St p)
def rinB : List CS := [(.asg (.nm 1) (.bin .Add (.var 1) (.bi .tuple [(.lc (.var 4) (.nm 4) (.ex (.var 3)) [(.cmp .Eq (.bi .str [(.var 4)]) (.var 2))] [4])])))]
theorem tup_ll {N : Store} {l : Nat} {xs : List D} (h : N[l]? = some (.lst xs)) : biD .tuple [.ll l] N = .ok (.tup xs) N := by
  unfold biD
  dsimp only
  rw [h]
theorem pkw_len (w : List Nat) (cs : List D) : (pk w cs).length ≤ cs.length := List.length_filter_le _ _
theorem lps_chk {N : Store} {l : Nat} {WS P0 : List D} (hl : N[l]? = some (.lst WS)) (J : Store) : Itm.chk (.lps l WS P0) (N ++ J) = true := by
  show (match (N ++ J)[l]? with
    | some (.lst xs) => D.beqL xs WS
    | _ => false) = true
  rw [List.getElem?_append_left (List.getElem?_eq_some_iff.mp hl).1, hl]
  exact D.beqL_refl _
theorem rin_loop (N : Store) (l : Nat) (WS P0 : List D) (hl : N[l]? = some (.lst WS)) (x0 x4 : Option D) : ∀ (ws : List (List Nat)) (css : List (List D)) (f : List D) (J : Store) (x2 x3 : Option D), (∀ w ∈ ws, ∀ c ∈ w, c < 128) → (∀ cs ∈ css, (∀ c ∈ cs, small c = true) ∧ cs.length ≤ 10) → f.length + 10 * css.length ≤ 1000 →
    ∃ y2 y3 J', forL (Itm.chk (.lps l WS P0)) (evG (evb tb supx 84) (.tup [.nm 2, .nm 3])) (evSs (evb tb supx 84) supx rinB) (pairL (sD ws) (css.map D.tup)) [x0, some (.tup f), x2, x3, x4] (N ++ J) = .nx [x0, some (.tup (f ++ (List.zipWith pk ws css).flatten)), y2, y3, x4] (N ++ J')
  | [], css, f, J, x2, x3, _, _, _ => ⟨x2, x3, J, by
      have hc : Itm.chk (.lps l WS P0) (N ++ J) = true := lps_chk hl J
      simp [pairL, sD, forL, hc]⟩
  | w :: ws, [], f, J, x2, x3, _, _, _ => ⟨x2, x3, J, by
      have hc : Itm.chk (.lps l WS P0) (N ++ J) = true := lps_chk hl J
      simp [pairL, sD, forL, hc]⟩
  | w :: ws, cs :: css, f, J, x2, x3, h1, h2, h3 => by
    have hc : Itm.chk (.lps l WS P0) (N ++ J) = true := lps_chk hl J
    obtain ⟨g1, g2⟩ := h2 cs List.mem_cons_self
    have hw := h1 w List.mem_cons_self
    have hp := pkw_len w cs
    simp at h3
    obtain ⟨y2, y3, J', ih⟩ := rin_loop N l WS P0 hl x0 x4 ws css (f ++ pk w cs) (J ++ [.lst (pk w cs)]) (some (.str (St w))) (some (.tup cs)) (fun v hv => h1 v (List.mem_cons_of_mem _ hv)) (fun v hv => h2 v (List.mem_cons_of_mem _ hv)) (by simp; omega)
    refine ⟨y2, y3, J', ?_⟩
    have lc := lc_pk (evb tb supx 84) (Itm.chk (.fix cs)) (N ++ J) rfl w hw x0 (some (.tup f)) (some (.tup cs)) none cs [] g1 (by simp; omega)
    have e1 : pairL (sD (w :: ws)) ((cs :: css).map D.tup) = .tup [.str (St w), .tup cs] :: pairL (sD ws) (css.map D.tup) := rfl
    have e2 : f ++ (List.zipWith pk (w :: ws) (cs :: css)).flatten = f ++ pk w cs ++ (List.zipWith pk ws css).flatten := by
      rw [List.zipWith_cons_cons, List.flatten_cons, List.append_assoc]
    have e3 : evSs (evb tb supx 84) supx rinB [x0, some (.tup f), some (.str (St w)), some (.tup cs), x4] (N ++ J) = .nx [x0, some (.tup (f ++ pk w cs)), some (.str (St w)), some (.tup cs), x4] (N ++ (J ++ [.lst (pk w cs)])) := by
      have nl : newL (N ++ J) (pk w cs) = .ok (.ll (N ++ J).length) (N ++ (J ++ [.lst (pk w cs)])) := by
        unfold newL
        rw [if_pos (by show _ ≤ 16777216; omega), List.append_assoc]
      have tl : biD .tuple [.ll (N ++ J).length] (N ++ (J ++ [.lst (pk w cs)])) = .ok (.tup (pk w cs)) (N ++ (J ++ [.lst (pk w cs)])) := tup_ll (by rw [← List.append_assoc]; simp)
      rw [List.nil_append, nl] at lc
      have lc2 : evE (evb tb supx 84) (.lc (.var 4) (.nm 4) (.ex (.var 3)) [(.cmp .Eq (.bi .str [(.var 4)]) (.var 2))] [4]) [x0, some (.tup f), some (.str (St w)), some (.tup cs), x4] (N ++ J) = .ok (.ll (N ++ J).length) (N ++ (J ++ [.lst (pk w cs)])) := by
        rw [e_lc, i_exE, e_var]
        exact lc
      have hsz : f.length + (pk w cs).length ≤ 16777216 := by omega
      simp [-e_lc] at lc2 tl
      simp [rinB, -e_lc, getV, lc2, tl, hsz]
    rw [e1, e2]
    unfold forL
    rw [if_pos hc]
    have e4 : evG (evb tb supx 84) (.tup [.nm 2, .nm 3]) (.tup [.str (St w), .tup cs]) [x0, some (.tup f), x2, x3, x4] (N ++ J) = .ok [x0, some (.tup f), some (.str (St w)), some (.tup cs), x4] (N ++ J) := by simp
    rw [e4, soN_okE, forKE, e3, turn_nxE]
    exact ih
theorem chs_ok : ∀ cs ∈ chs, (∀ c ∈ cs, small c = true) ∧ cs.length ≤ 10 := fun cs h => ⟨chs_small cs h, by
  simp only [chs, List.mem_cons, List.not_mem_nil, or_false] at h
  rcases h with rfl | rfl | rfl | rfl | rfl | rfl <;> simp⟩
theorem odds_mem {α : Type} {x : α} : ∀ {l : List α}, x ∈ oddsL l → x ∈ l
  | [], h => h
  | [_], h => by cases h
  | a :: b :: r, h => by
    have h : x ∈ b :: oddsL r := h
    rcases List.mem_cons.mp h with z | z
    · subst z; simp
    · exact List.mem_cons_of_mem _ (List.mem_cons_of_mem _ (odds_mem z))
theorem oddsw_len {α : Type} : ∀ l : List α, (oddsL l).length ≤ l.length
  | [] => Nat.le_refl _
  | [_] => Nat.zero_le _
  | _ :: b :: r => by
    have := oddsw_len r
    show (b :: oddsL r).length ≤ _
    simp
    omega
theorem odd_ll {N : Store} {l : Nat} {xs : List D} (h : N[l]? = some (.lst xs)) : oddD (.ll l) N = newL N (oddsL xs) := by
  unfold oddD
  dsimp only
  rw [h]
theorem newL_in {N : Store} {xs : List D} (h : xs.length ≤ 16777216) : newL N xs = .ok (.ll N.length) (N ++ [.lst xs]) := if_pos h
/-- the odd words, as the store has them -/
theorem e_odds (m : Nat → List D → Store → Out D) (σ : Env) (M : Store) {B : Nat} {a : List Nat} (h : Tx B a) (hB : B ≤ 900) (h0 : getV σ 0 M = .ok (.str (St a)) M) :
    evE m (.odd (.me .split (.var 0) [(.cst (.str " "))])) σ M = .ok (.ll (M.length + 1)) (M ++ [.lst (sD (wds a)), .lst (sD (oddsL (wds a)))]) := by
  have h1 := h.1
  have h2 := wds_len a
  have h3 := oddsw_len (wds a)
  have c32 : Str.ofString " " = St [32] := ofs_St " "
  have s1 := split_St M (a := a) (by omega)
  rw [newL_in (by rw [List.length_map]; omega)] at s1
  have s2 := odd_ll (N := M ++ [.lst (sD (wds a))]) (l := M.length) (xs := sD (wds a)) (by simp)
  rw [sD, odds_map, newL_in (by rw [List.length_map]; omega)] at s2
  simp [c32, h0, s1]
  simp [sD] at s2 ⊢
  exact s2
theorem ru_inj {r r' : Ru} (h : r.d = r'.d) : r = r' := by
  obtain ⟨a1, a2, a3, a4, a5, a6⟩ := r
  obtain ⟨c1, c2, c3, c4, c5, c6⟩ := r'
  simp only [Ru.d, D.tup.injEq, List.cons.injEq, D.int.injEq, D.str.injEq, and_true] at h
  obtain ⟨rfl, rfl, k3, k4, k5, rfl⟩ := h
  have q3 : a3 = c3 := by revert k3; cases a3 <;> cases c3 <;> simp
  have q4 : a4 = c4 := by revert k4; cases a4 <;> cases c4 <;> simp
  have q5 : a5 = c5 := by revert k5; cases a5 <;> cases c5 <;> simp
  rw [q3, q4, q5]
theorem told (M : Store) {B : Nat} {a : List Nat} (h : Tx B a) (hB : B ≤ 900) : (∃ r : Ru, r.ok = true ∧ a = lineL r ∧ run 84 [.str (St a)] M = .ok r.d M) ∨ ((∀ r : Ru, r.ok = true → a ≠ lineL r) ∧ run 84 [.str (St a)] M = .ex ⟨6, none⟩ M) := by
  have hsp : c_rule_in = c_rule_in.take 2 ++ [.for_ (.tup [.nm 2, .nm 3]) (.zip (.odd (.me .split (.var 0) [(.cst (.str " "))])) (.gcst "CHOICES" (.tup (chs.map D.tup)))) rinB] ++ c_rule_in.drop 3 := rfl
  have e0 : evSs (evb tb supx 84) supx (c_rule_in.take 2) (startD 5 [.str (St a)]) M = .nx [some (.str (St a)), some (.tup []), none, none, none] M := by simp [c_rule_in, startD, getV]
  have e1 := e_odds (evb tb supx 84) [some (.str (St a)), some (.tup []), none, none, none] M h hB rfl
  obtain ⟨y2, y3, J', e2⟩ := rin_loop (M ++ [.lst (sD (wds a)), .lst (sD (oddsL (wds a)))]) (M.length + 1) (sD (oddsL (wds a))) (pairL (sD (oddsL (wds a))) (chs.map D.tup)) (by simp) (some (.str (St a))) none (oddsL (wds a)) chs [] [] none none
    (fun w hw c hc => (wds_tx h (odds_mem hw)).2 c hc) chs_ok (by simp [chs])
  obtain ⟨b, g1, g2⟩ := g_rule (M ++ [.lst (sD (wds a)), .lst (sD (oddsL (wds a)))] ++ J') (fnd_vl (oddsL (wds a)))
  have ez : zipD (.ll (M.length + 1)) (.tup (chs.map D.tup)) (M ++ [.lst (sD (wds a)), .lst (sD (oddsL (wds a)))]) = .ok (.lps (M.length + 1) (sD (oddsL (wds a))) (pairL (sD (oddsL (wds a))) (chs.map D.tup))) (M ++ [.lst (sD (wds a)), .lst (sD (oddsL (wds a)))]) := by simp [zipD]
  have main : run 84 [.str (St a)] M = gcO M (bodyO (evSs (evb tb supx 84) supx (c_rule_in.drop 3) [some (.str (St a)), some (.tup (fnd (oddsL (wds a)))), y2, y3, none] (M ++ [.lst (sD (wds a)), .lst (sD (oddsL (wds a)))] ++ J'))) := by
    rw [run, evm_eq tb supx t_rule_in, hsp, evSs_app, evSs_app, e0, seq_nxE, ss_consE, s_forE, i_zipE, e1, b_ok, k2E, e_gcst, b_ok, ez, so_okE, sForE]
    rw [List.append_nil] at e2
    show gcO M (bodyO (SO.seq (SO.seq (forL _ _ _ (pairL (sD (oddsL (wds a))) (chs.map D.tup)) _ _) _) _)) = _
    rw [e2, seq_nxE, ss_nilE, seq_nxE, List.nil_append]
    rfl
  clear hsp e0 e1 e2 ez
  rw [List.append_assoc] at main g1
  generalize ([MO.lst (sD (wds a)), MO.lst (sD (oddsL (wds a)))] ++ J') = X at main g1
  rw [main]
  cases b with
  | true =>
    obtain ⟨r, e, ok⟩ := g2.mp rfl
    rw [e] at g1 ⊢
    have e3 := r_line_of (M ++ X) ok
    have lt8 := (line_tx ok).2
    have eq0 : eqD (M ++ X) (.str (St (lineL r))) (.str (St a)) = some (decide (lineL r = a)) := by
      rw [eqD_pu (pu_St 64 lt8) (pu_St 64 h.2), eq_ss]
      congr 1
      exact decide_eq_decide.mpr St_inj
    by_cases q : lineL r = a
    · subst q
      refine .inl ⟨r, ok, rfl, ?_⟩
      simp [c_rule_in, getV, g1, e3, eq0]
      exact gc_pure (lo_ru _ r)
    · refine .inr ⟨fun r' ok' z => q ?_, ?_⟩
      · have := fnd_line ok'
        rw [← z, e] at this
        have := ru_inj this
        rw [this, z]
      · simp [c_rule_in, getV, g1, e3, eq0, q]
        exact gc_ex
  | false =>
    refine .inr ⟨fun r' ok' z => ?_, ?_⟩
    · have := fnd_line ok'
      rw [← z] at this
      have := g2.mpr ⟨r', this, ok'⟩
      cases this
    · simp [c_rule_in, getV, g1]
      exact gc_ex
end BH
end

section
set_option Elab.async false
set_option linter.all false
set_option maxRecDepth 100000
set_option maxHeartbeats 4000000
/-! k71: read_rule, Terms.of(..).source. -/
namespace BH
open PySem L2
section
variable (m : Nat → List D → Store → Out D) (σ : Env) (M : Store)
@[simp] theorem e_prp (c f : Nat) (a : CE) : evE m (.prp c f a) σ M = (evE m a σ M).bind (kPrp m c f) := by simp only [evE]
@[simp] theorem e_fld (c : Nat) (x : Str) (a : CE) : evE m (.fld c x a) σ M = (evE m a σ M).bind (fldD c x) := by simp only [evE]
@[simp] theorem e_mkv (i c f : Nat) (es : List CE) : evE m (.mkv i c f es) σ M = (getV σ i M).bind (kMkv m c f (evEs m es σ)) := by simp only [evE]
@[simp] theorem g_fldt (c : Nat) (x : Str) (o : CE) (d : D) : evG m (.fld c x o) d σ M = (evE m o σ M).bind (kSetF σ c x d) := by simp only [evG]
end
section
variable (M : Store)
theorem six_in (l : Nat) {r : Ru} (h : r.ok = true) (hl : M[l]? = some (.ins 1000 [])) : run 87 [.ol 1000 l, .int r.keep, .int r.use, .str (St (org r.asked)), .str (St (yno r.yes)), .str (St (chk r.number)), .int r.rest] M = .ok .non (M.set l (.ins 1000 [("six", r.d)])) := by
  have e1 := r_need_rule M r h
  have e2 : setF 1000 "six" (.ol 1000 l) r.d M = .ok () (M.set l (.ins 1000 [("six", r.d)])) := by
    unfold setF
    dsimp only
    rw [hl]
    rfl
  rw [run, evm_eq tb supx t_Terms___init__]
  rw [ru_d] at e1 e2
  simp [c_Terms___init__, startD, getV, e1, kSetF, e2]
  rw [← ru_d]
  exact gc_set rfl (by simp [MO.lo])
theorem six_of {M : Store} {a : List Nat} {r : Ru} (h : r.ok = true) (h1 : run 84 [.str (St a)] M = .ok r.d M) : run 88 [.fn 1000, .str (St a)] M = .ok (.ol 1000 M.length) (M ++ [.ins 1000 [("six", r.d)]]) := by
  have e2 := six_in (M ++ [.ins 1000 []]) M.length h (by simp)
  rw [ru_d] at h1
  rw [run, evm_eq tb supx t_Terms_of]
  simp at e2
  simp [c_Terms_of, startD, getV, h1, kMkv, kMk, e2, kMk2]
  unfold gcO
  dsimp only
  rw [if_neg (by simp [D.lo])]
theorem six_no {M : Store} {x : D} (h1 : run 84 [x] M = .ex ⟨6, none⟩ M) : run 88 [.fn 1000, x] M = .ex ⟨6, none⟩ M := by
  rw [run, evm_eq tb supx t_Terms_of]
  simp [c_Terms_of, startD, getV, h1]
theorem six_src {l : Nat} {r : Ru} (hl : M[l]? = some (.ins 1000 [("six", r.d)])) : run 89 [.ol 1000 l] M = .ok r.d M := by
  have e : fldD 1000 "six" (.ol 1000 l) M = .ok r.d M := by
    unfold fldD
    dsimp only
    rw [if_pos rfl, hl]
    rfl
  rw [run, evm_eq tb supx t_Terms_source]
  simp [c_Terms_source, startD, getV, e]
  exact gc_pure0 (lo_ru _ r)
theorem r_rr {x d : D} (hd : D.lo M.length d = true) (h : run 84 [x] M = .ok d M) : run 86 [x] M = .ok d M := by
  rw [run, evm_eq tb supx t_read_rule]
  simp [c_read_rule, startD, getV, h]
  exact gc_pure0 hd
theorem r_rrx {x : D} (h : run 84 [x] M = .ex ⟨6, none⟩ M) : run 86 [x] M = .ex ⟨6, none⟩ M := by
  rw [run, evm_eq tb supx t_read_rule]
  simp [c_read_rule, startD, getV, h]
theorem r_told {x d : D} (hd : D.lo M.length d = true) (h : run 84 [x] M = .ok d M) : run 92 [x] M = .ok d M := by
  have := r_rr M hd h
  rw [run, evm_eq tb supx t__law_told]
  simp [c__law_told, startD, getV, this]
  exact gc_pure0 hd
theorem r_toldx {x : D} (h : run 84 [x] M = .ex ⟨6, none⟩ M) : run 92 [x] M = .ok (.str "line!") M := by
  have := r_rrx M h
  rw [run, evm_eq tb supx t__law_told]
  simp [c__law_told, startD, getV, this, evH, supx]
theorem r_read {a : List Nat} {r : Ru} (ok : r.ok = true) (h : run 84 [.str (St a)] M = .ok r.d M) : run 93 [.str (St a)] M = .ok r.d M := by
  have e1 := six_of ok h
  have e2 := six_src (M ++ [.ins 1000 [("six", r.d)]]) (l := M.length) (r := r) (by simp)
  rw [run, evm_eq tb supx t__law_read]
  simp [c__law_read, startD, getV, e1, kPrp, e2]
  exact gc_pure (lo_ru _ r)
theorem r_readx {x : D} (h : run 84 [x] M = .ex ⟨6, none⟩ M) : run 93 [x] M = .ok (.str "line!") M := by
  have e1 := six_no h
  rw [run, evm_eq tb supx t__law_read]
  simp [c__law_read, startD, getV, e1, evH, supx]
/-- what is no text -/
theorem no_text {x : D} (h : isiD "str" x M = .ok (.bl false) M) : run 84 [x] M = .ex ⟨6, none⟩ M := by
  rw [run, evm_eq tb supx t_rule_in]
  simp [c_rule_in, startD, getV, h]
end
end BH
end

section
set_option Elab.async false
set_option linter.all false
set_option maxRecDepth 100000
set_option maxHeartbeats 4000000
/-! k71: the law's own reading. -/
namespace BH
open PySem L2

def tb5 : List (Ky × D) := [(.inr (Str.ofString "0"), .int 0), (.inr (Str.ofString "1"), .int 1), (.inr (Str.ofString "2"), .int 2), (.inr (Str.ofString "3"), .int 3), (.inr (Str.ofString "4"), .int 4)]
def gtD (w : List Nat) : D := (valD tb5 (.inr (St w))).getD (.str (St w))
theorem tb5_v (w : List Nat) : valD tb5 (.inr (St w)) = if w = [48] then some (.int 0) else if w = [49] then some (.int 1) else if w = [50] then some (.int 2) else if w = [51] then some (.int 3) else if w = [52] then some (.int 4) else none := by
  have k : ∀ (s : String) (b : List Nat), lt s = b → ((Sum.inr (Str.ofString s) : Ky) = .inr (St w) ↔ w = b) := fun s b e => by
    rw [ofs_St, e, Sum.inr.injEq, St_inj]
    exact eq_comm
  unfold valD tb5
  simp only [List.find?_cons, k "0" [48] rfl, k "1" [49] rfl, k "2" [50] rfl, k "3" [51] rfl, k "4" [52] rfl]
  by_cases h0 : w = [48]
  · simp [h0]
  · by_cases h1 : w = [49]
    · simp [h1]
    · by_cases h2 : w = [50]
      · simp [h2]
      · by_cases h3 : w = [51]
        · simp [h3]
        · by_cases h4 : w = [52]
          · simp [h4]
          · simp [h0, h1, h2, h3, h4]
theorem gt_small {w : List Nat} (h : ∀ c ∈ w, c < 128) : small (gtD w) = true := by
  have := St_ok h
  unfold gtD
  rw [tb5_v]
  split
  · rfl
  split
  · rfl
  split
  · rfl
  split
  · rfl
  split
  · rfl
  · exact this
theorem gt_dg {i : Int} (h : 0 ≤ i) (h2 : i ≤ 4) : gtD (dg i) = .int i := by
  have : i = 0 ∨ i = 1 ∨ i = 2 ∨ i = 3 ∨ i = 4 := by omega
  unfold gtD
  rw [tb5_v]
  rcases this with rfl | rfl | rfl | rfl | rfl <;> rfl
theorem gt_line {r : Ru} (h : r.ok = true) : D.tup ((oddsL (wds (lineL r))).map gtD) = r.d := by
  obtain ⟨b1, b2, b3, b4, b5, b6⟩ := ru_b h
  rw [odds_line h, ru_d]
  have k3 : gtD (org r.asked) = .str (St (org r.asked)) := by
    unfold gtD
    rw [tb5_v]
    cases r.asked <;> rfl
  have k4 : gtD (yno r.yes) = .str (St (yno r.yes)) := by
    unfold gtD
    rw [tb5_v]
    cases r.yes <;> rfl
  have k5 : gtD (chk r.number) = .str (St (chk r.number)) := by
    unfold gtD
    rw [tb5_v]
    cases r.number <;> rfl
  simp only [vals, List.map_cons, List.map_nil, k3, k4, k5, gt_dg (show 0 ≤ r.keep by omega) b2, gt_dg (show 0 ≤ r.use by omega) b4, gt_dg b5 b6]
theorem get_dl {N : Store} {k : Nat} (hk : N[k]? = some (.dk tb5)) (w : List Nat) : meD .get (.dl k) [.str (St w), .str (St w)] N = .ok (gtD w) N := by
  unfold meD
  dsimp only [kyD]
  rw [hk]
  rfl
theorem lc_gt (m : Nat → List D → Store → Out D) (chk : Store → Bool) (N : Store) (hc : chk N = true) (k : Nat) (hk : N[k]? = some (.dk tb5)) (x0 x2 x3 : Option D) : ∀ (ws : List (List Nat)) (acc : List D), acc.length + ws.length ≤ 1000 →
    lcL chk (evG m (.nm 3)) (evIf m []) (evE m (.me .get (.var 1) [(.var 3), (.var 3)])) [x0, some (.dl k), x2, x3] (sD ws) acc N = newL N (acc ++ ws.map gtD)
  | [], acc, _ => by simp [lcL, hc, sD]
  | w :: ws, acc, hl => by
    have ih := lc_gt m chk N hc k hk x0 x2 x3 ws (acc ++ [gtD w]) (by simp at hl ⊢; omega)
    have e := get_dl hk w
    show lcL chk _ _ _ _ (.str (St w) :: sD ws) acc N = _
    unfold lcL
    rw [if_pos hc]
    simp [getV, e]
    simp at ih
    exact ih
theorem dic_tb5 (M : Store) : dicD [(.str (Str.ofString "0")), (.int 0), (.str (Str.ofString "1")), (.int 1), (.str (Str.ofString "2")), (.int 2), (.str (Str.ofString "3")), (.int 3), (.str (Str.ofString "4")), (.int 4)] M = .ok (.dl M.length) (M ++ [MO.dk tb5]) := by
  have : mergeD [] tb5 = tb5 := by
    unfold mergeD tb5
    simp [putD]
  unfold dicD
  show (if 5 ≤ 15 ∧ tb5 ≠ [] then Out.ok (D.dl M.length) (M ++ [.dk (mergeD [] tb5)]) else .bad) = _
  rw [if_pos ⟨by decide, by simp [tb5]⟩, this]
theorem mp_small {ws : List (List Nat)} (h : ∀ w ∈ ws, ∀ c ∈ w, c < 128) : ∀ d ∈ ws.map gtD, small d = true := fun d hd => by
  obtain ⟨w, h1, rfl⟩ := List.mem_map.mp hd
  exact gt_small (h w h1)
theorem reading (M : Store) {B : Nat} {a : List Nat} (h : Tx B a) (hB : B ≤ 900) : (∃ r : Ru, r.ok = true ∧ a = lineL r ∧ run 94 [.str (St a)] M = .ok r.d M) ∨ ((∀ r : Ru, r.ok = true → a ≠ lineL r) ∧ run 94 [.str (St a)] M = .ok (.str "line!") M) := by
  have hw : ∀ w ∈ oddsL (wds a), ∀ c ∈ w, c < 128 := fun w hw => (wds_tx h (odds_mem hw)).2
  have hlen : (oddsL (wds a)).length ≤ 901 := by
    have := oddsw_len (wds a)
    have := wds_len a
    have := h.1
    omega
  have e1 := e_odds (evb tb supx 94) [some (.str (St a)), some (.dl M.length), none, none] (M ++ [MO.dk tb5]) h hB rfl
  have lc := lc_gt (evb tb supx 94) (Itm.chk (.lis ((M ++ [MO.dk tb5]).length + 1) (sD (oddsL (wds a))))) (M ++ [MO.dk tb5] ++ [MO.lst (sD (wds a)), .lst (sD (oddsL (wds a)))]) (by
    show (match (M ++ [MO.dk tb5] ++ [MO.lst (sD (wds a)), .lst (sD (oddsL (wds a)))])[(M ++ [MO.dk tb5]).length + 1]? with
      | some (.lst xs) => D.beqL xs (sD (oddsL (wds a)))
      | _ => false) = true
    rw [List.getElem?_append_right (by simp)]
    simp [D.beqL_refl]) M.length (by simp) (some (.str (St a))) none none (oddsL (wds a)) [] (by simp; omega)
  rw [List.nil_append, newL_in (by rw [List.length_map]; omega)] at lc
  have lc2 : evE (evb tb supx 94) (.lc (.me .get (.var 1) [(.var 3), (.var 3)]) (.nm 3) (.ex (.odd (.me .split (.var 0) [(.cst (.str " "))]))) [] [3]) [some (.str (St a)), some (.dl M.length), none, none] (M ++ [MO.dk tb5]) = .ok (.ll (M.length + 3)) (M ++ [MO.dk tb5, .lst (sD (wds a)), .lst (sD (oddsL (wds a))), .lst ((oddsL (wds a)).map gtD)]) := by
    rw [e_lc, i_exE, e1, b_ok]
    have ei : itmD (.ll ((M ++ [MO.dk tb5]).length + 1)) (M ++ [MO.dk tb5] ++ [MO.lst (sD (wds a)), .lst (sD (oddsL (wds a)))]) = .ok (.lis ((M ++ [MO.dk tb5]).length + 1) (sD (oddsL (wds a)))) (M ++ [MO.dk tb5] ++ [MO.lst (sD (wds a)), .lst (sD (oddsL (wds a)))]) := by
      unfold itmD
      dsimp only
      rw [List.getElem?_append_right (by simp)]
      simp
    rw [ei, b_ok, kLcE]
    refine (show lcL _ _ _ _ _ (sD (oddsL (wds a))) [] _ = _ from lc).trans ?_
    simp
  obtain ⟨b, g1, g2⟩ := g_lterms (M ++ [MO.dk tb5, .lst (sD (wds a)), .lst (sD (oddsL (wds a))), .lst ((oddsL (wds a)).map gtD)]) (d := .tup ((oddsL (wds a)).map gtD)) (by rw [vl_tup]; exact all_vl (mp_small hw))
  have dt := dic_tb5 M
  have tp := tup_ll (N := M ++ [MO.dk tb5, .lst (sD (wds a)), .lst (sD (oddsL (wds a))), .lst ((oddsL (wds a)).map gtD)]) (l := M.length + 3) (xs := (oddsL (wds a)).map gtD) (by rw [List.getElem?_append_right (by omega)]; simp)
  have main : run 94 [.str (St a)] M = gcO M (bodyO (evSs (evb tb supx 94) supx (c__law_reading.drop 2) [some (.str (St a)), some (.dl M.length), some (.tup ((oddsL (wds a)).map gtD)), none] (M ++ [MO.dk tb5, .lst (sD (wds a)), .lst (sD (oddsL (wds a))), .lst ((oddsL (wds a)).map gtD)]))) := by
    rw [run, evm_eq tb supx t__law_reading]
    simp [c__law_reading, startD, getV, -e_lc, -e_dic, e_dic, dt, lc2, tp]
  clear lc lc2 e1 dt tp
  rw [main]
  generalize [MO.dk tb5, .lst (sD (wds a)), .lst (sD (oddsL (wds a))), .lst ((oddsL (wds a)).map gtD)] = X at g1 ⊢
  cases b with
  | true =>
    obtain ⟨r, e, ok⟩ := g2.mp rfl
    rw [e] at g1 ⊢
    have e3 := r_lline (M ++ X) ok
    have lt8 := (line_tx ok).2
    have eq0 : eqD (M ++ X) (.str (St (lineL r))) (.str (St a)) = some (decide (lineL r = a)) := by
      rw [eqD_pu (pu_St 64 lt8) (pu_St 64 h.2), eq_ss]
      congr 1
      exact decide_eq_decide.mpr St_inj
    by_cases q : lineL r = a
    · subst q
      refine .inl ⟨r, ok, rfl, ?_⟩
      simp [c__law_reading, getV, g1, e3, eq0]
      exact gc_pure (lo_ru _ r)
    · refine .inr ⟨fun r' ok' z => q ?_, ?_⟩
      · have := gt_line ok'
        rw [← z, e] at this
        have := ru_inj this
        rw [this, z]
      · simp [c__law_reading, getV, g1, e3, eq0, q]
        exact gc_pure rfl
  | false =>
    refine .inr ⟨fun r' ok' z => ?_, ?_⟩
    · have := gt_line ok'
      rw [← z] at this
      have := g2.mpr ⟨r', this, ok'⟩
      cases this
    · simp [c__law_reading, getV, g1]
      exact gc_pure rfl
end BH
end

section
set_option Elab.async false
set_option linter.all false
set_option maxRecDepth 100000
set_option maxHeartbeats 8000000
/-! k71: rules drawn, texts bent. -/
namespace BH
open PySem L2

theorem r_terms7 (l : Nat) (N : Store) (h : Src N l) : ∃ (r : Ru) (N' : Store), r.ok = true ∧ Dr N l N' ∧ N'.length = N.length ∧ run 90 [.ll l, .int 4] N = .ok r.d N' := by
  have h0 := dr_refl h
  obtain ⟨i1, N1, a1, a2, d1, e1⟩ := pick_dr h0 4 (by decide) (by decide)
  obtain ⟨i2, N2, b1, b2, d2, e2⟩ := pick_dr d1 4 (by decide) (by decide)
  obtain ⟨c1, N3, c2, d3, e3⟩ := chosen_dr d2 [.str "asked", .str "came"] (by simp) (by simp) (by simp [D.lo])
  obtain ⟨y1, N4, y2, d4, e4⟩ := chosen_dr d3 [.str "no", .str "yes"] (by simp) (by simp) (by simp [D.lo])
  obtain ⟨z1, N5, z2, d5, e5⟩ := chosen_dr d4 [.str "no", .str "number"] (by simp) (by simp) (by simp [D.lo])
  obtain ⟨i6, N6, w1, w2, d6, e6⟩ := pick_dr d5 5 (by decide) (by decide)
  have hc : ∃ b : Bool, c1 = .str (if b then "asked" else "came") := by
    simp only [List.mem_cons, List.not_mem_nil, or_false] at c2
    rcases c2 with rfl | rfl
    · exact ⟨true, rfl⟩
    · exact ⟨false, rfl⟩
  have hy : ∃ b : Bool, y1 = .str (if b then "yes" else "no") := by
    simp only [List.mem_cons, List.not_mem_nil, or_false] at y2
    rcases y2 with rfl | rfl
    · exact ⟨false, rfl⟩
    · exact ⟨true, rfl⟩
  have hz : ∃ b : Bool, z1 = .str (if b then "number" else "no") := by
    simp only [List.mem_cons, List.not_mem_nil, or_false] at z2
    rcases z2 with rfl | rfl
    · exact ⟨false, rfl⟩
    · exact ⟨true, rfl⟩
  obtain ⟨bc, rfl⟩ := hc
  obtain ⟨by1, rfl⟩ := hy
  obtain ⟨bz, rfl⟩ := hz
  refine ⟨⟨1 + i1, 1 + i2, bc, by1, bz, i6⟩, N6.take N.length, ?_, dr_take d6, by have := d6.len; simp; omega, ?_⟩
  · unfold Ru.ok
    simp
    omega
  · rw [run, evm_eq tb supx t__law_terms_k71]
    have hg := gc_dr d6 (lo_ru N.length ⟨1 + i1, 1 + i2, bc, by1, bz, i6⟩)
    simp [c__law_terms_k71, startD, getV, newL, e1, e2, e3, e4, e5, e6]
    exact hg
theorem sub_str {a : List Nat} {i : Nat} (M : Store) (h : i < a.length) (hl : a.length ≤ 1000) : subD (.str (St a)) (.int (i : Nat)) M = .ok (.str (St [a[i]])) M := by
  show (if (St a).length ≤ szl then
      (match L2.atI (St a).cps.toList (i : Nat) with
      | some c => Out.ok (D.str ⟨#[c]⟩) M
      | none => .bad)
    else .bad) = _
  rw [SX.S_len, szl_v, if_pos (by omega)]
  have : L2.atI (St a).cps.toList (i : Nat) = some a[i] := by
    unfold L2.atI
    simp [L2.ixN, h]
  rw [this]
def signs : List Nat := lt " 0125an"
theorem dr_tr {A B C : Store} {l : Nat} (h : Dr A l B) (g : Dr B l C) : Dr A l C := by
  have := h.len
  have := g.len
  exact ⟨by omega, g.src, h.lt, fun j hj hn => by rw [g.eq j (by omega) hn, h.eq j hj hn]⟩
theorem dr_hi {A B : Store} {l p : Nat} (h : Dr A l B) (hp : A.length ≤ p) (x : MO) : Dr A l (B.set p x) := by
  have h0 := h.lt
  obtain ⟨u, v, e, b1, b2⟩ := h.src
  exact ⟨by rw [List.length_set]; exact h.len, ⟨u, v, by rw [List.getElem?_set_ne (by omega)]; exact e, b1, b2⟩, h.lt, fun j hj hn => by rw [List.getElem?_set_ne (by omega)]; exact h.eq j hj hn⟩
/-- the answer of a text bent -/
def BentTo (l : Nat) (N : Store) (B : Nat) (o : Out D) : Prop := ∃ (z : List Nat) (N' : Store), Tx (3 * B + 20) z ∧ Dr N l N' ∧ N'.length = N.length ∧ o = .ok (.str (St z)) N'
theorem bent_gc {l : Nat} {N N' : Store} {B : Nat} {z : List Nat} (hz : Tx (3 * B + 20) z) (d : Dr N l N') : BentTo l N B (gcO N (.ok (.str (St z)) N')) :=
  ⟨z, N'.take N.length, hz, dr_take d, by have := d.len; simp; omega, gc_dr d rfl⟩
abbrev bS (l : Nat) (a : List Nat) (k i : Nat) (x5 x6 x7 : Option D) : Env := [some (.ll l), some (.str (St a)), some (.int (k : Nat)), some (.int (i : Nat)), some (.str (St signs)), x5, x6, x7]
/-- a sign otherwise, or one more -/
theorem bent_lo {l : Nat} {N N2 : Store} {B : Nat} {a : List Nat} (ha : Tx B a) (hB : B ≤ 400) (k i : Nat) (hk : k < 2) (d2 : Dr N l N2) : BentTo l N B (gcO N (bodyO (evSs (evb tb supx 95) supx (c__law_bent.drop 2) (bS l a k i none none none) N2))) := by
  obtain ⟨j0, N3, b1, b2, d3, e3⟩ := pick_dr d2 7 (by decide) (by decide)
  obtain ⟨j, rfl⟩ := Int.eq_ofNat_of_zero_le b1
  have la := ha.1
  have hj : j < signs.length := by show j < 7; omega
  have s1 := sub_str N3 hj (by decide)
  have s2 := slc_to_St N2 (a := a) (i := i) (by omega)
  have s3 := slc_from_St N3 (a := a) (i := i + k) (by omega)
  have ln := len_St N2 (a := signs) (by decide)
  have g1 := add_St N3 (a := a.take i) (b := [signs[j]]) (by rw [List.length_take]; simp; omega)
  have g2 := add_St N3 (a := a.take i ++ [signs[j]]) (b := a.drop (i + k)) (by simp; omega)
  have hs : ∀ c ∈ signs, c < 128 := by decide
  have hz : Tx (3 * B + 20) (a.take i ++ [signs[j]] ++ a.drop (i + k)) := by
    refine Tx.up (((ha.take i).app (C := 1) ⟨by simp, fun c hc => ?_⟩).app (ha.drop (i + k))) (by omega)
    rw [List.mem_singleton.mp hc]
    exact hs _ (List.getElem_mem hj)
  have := bent_gc hz d3
  have l7 : ((signs.length : Nat) : Int) = 7 := rfl
  rw [l7] at ln
  have e3 : run 25 [.ll l, .int 7] N2 = .ok (.int (j : Nat)) N3 := e3
  rw [Int.natCast_add] at s3
  have hk2 : ((k : Nat) : Int) < 2 := by omega
  simp only [bS, c__law_bent]
  simp at g2 this
  simp [getV, hk2, s1, s2, ln, e3, g1, s3, g2]
  exact this
end BH
end

section
set_option Elab.async false
set_option linter.all false
set_option maxRecDepth 100000
set_option maxHeartbeats 8000000
/-! k71: texts bent by words. -/
namespace BH
open PySem L2

theorem bent_2 {l : Nat} {N N2 : Store} {B : Nat} {a : List Nat} (ha : Tx B a) (hB : B ≤ 400) (i : Nat) (d2 : Dr N l N2) : BentTo l N B (gcO N (bodyO (evSs (evb tb supx 95) supx (c__law_bent.drop 2) (bS l a 2 i none none none) N2))) := by
  have la := ha.1
  have s2 := slc_to_St N2 (a := a) (i := i) (by omega)
  have s3 := slc_from_St N2 (a := a) (i := i + 1) (by omega)
  rw [Int.natCast_add] at s3
  have g2 := add_St N2 (a := a.take i) (b := a.drop (i + 1)) (by simp; omega)
  have hz : Tx (3 * B + 20) (a.take i ++ a.drop (i + 1)) := Tx.up ((ha.take i).app (ha.drop (i + 1))) (by omega)
  have := bent_gc hz d2
  simp only [bS, c__law_bent]
  have i1 : isNo (.bin .Add (.var 3) (.cst (.int 1))) = false := rfl
  simp at s3
  simp [getV, eqD_pu, s2, s3, g2]
  exact this
/-! ### words -/
theorem sumL_drop (n : Nat) (ws : List (List Nat)) : sumL (ws.take n) + sumL (ws.drop n) = sumL ws := by
  rw [← sumL_app, List.take_append_drop]
theorem sumL_rev : ∀ ws : List (List Nat), sumL ws.reverse = sumL ws
  | [] => rfl
  | w :: ws => by rw [List.reverse_cons, sumL_app, sumL_rev ws]; simp [sumL]; omega
theorem sumL_set : ∀ (ws : List (List Nat)) (n : Nat) (w : List Nat), sumL (ws.set n w) ≤ sumL ws + w.length
  | [], _, _ => by simp [sumL]
  | v :: ws, 0, w => by simp [sumL]; omega
  | v :: ws, n + 1, w => by
    have := sumL_set ws n w
    simp [sumL]
    omega
theorem len_ll {N : Store} {l : Nat} {xs : List D} (h : N[l]? = some (.lst xs)) : biD .len [.ll l] N = .ok (.int (xs.length : Nat)) N := by
  unfold biD
  dsimp only
  rw [h]
theorem set_llN {N : Store} {l i : Nat} {xs : List D} {v : D} (h : N[l]? = some (.lst xs)) (hi : i < xs.length) : setD (.ll l) (.int (i : Nat)) v N = .ok () (N.set l (.lst (xs.set i v))) := by
  unfold setD
  dsimp only
  rw [h]
  simp [L2.ixN, hi]
theorem sub_llN {N : Store} {l i : Nat} {xs : List D} (h : N[l]? = some (.lst xs)) (hi : i < xs.length) : subD (.ll l) (.int (i : Nat)) N = .ok xs[i] N := by
  rw [sub_ll, h]
  show (match L2.atI xs (i : Nat) with
    | some v => Out.ok v _
    | none => .bad) = _
  have : L2.atI xs (i : Nat) = some xs[i] := by
    unfold L2.atI
    simp [L2.ixN, hi]
  rw [this]
theorem slc_llN {N : Store} {l i c : Nat} {xs : List D} (h : N[l]? = some (.lst xs)) (hi : i ≤ xs.length) (hc : i ≤ c) (hn : xs.length ≤ 1000) : slcD (.ll l) (some (i : Nat)) (some (c : Nat)) N = .ok (.ll N.length) (N ++ [.lst ((xs.drop i).take (c - i))]) := by
  unfold slcD
  dsimp only
  rw [h]
  dsimp only
  have e : cutD xs (some (i : Nat)) (some (c : Nat)) = (xs.drop i).take (c - i) := by
    unfold cutD
    rw [HT.sIx_nat, HT.sIx_nat, Nat.min_eq_left hi]
    by_cases q : c ≤ xs.length
    · rw [Nat.min_eq_left q]
    · rw [Nat.min_eq_right (by omega), List.take_of_length_le (by simp), List.take_of_length_le (by simp; omega)]
  rw [e, newL_in (by simp; omega)]
theorem setSl_N {N : Store} {l k i c : Nat} {xs ys : List D} (h : N[l]? = some (.lst xs)) (h2 : N[k]? = some (.lst ys)) (hlk : l ≠ k) (hi : i ≤ xs.length) (hc : i ≤ c) (hn : xs.length + ys.length ≤ 16777216) :
    setSl (.ll l) (.int (i : Nat)) (.int (c : Nat)) (.ll k) N = .ok () (N.set l (.lst (xs.take i ++ ys ++ xs.drop (min c xs.length)))) := by
  unfold setSl
  dsimp only
  rw [h, h2]
  dsimp only
  rw [if_pos ⟨hlk, by omega, by omega, by omega, hn⟩]
  rfl
/-- the end: the words joined -/
theorem bent_end {l p : Nat} {N N' : Store} {B : Nat} {ys : List (List Nat)} {σ : Env} (d : Dr N l N') (hp : N'[p]? = some (.lst (sD ys))) (h5 : getV σ 5 N' = .ok (.ll p) N') (h1 : sumL ys + ys.length ≤ 3 * B + 20) (hB : B ≤ 400) (h3 : ∀ w ∈ ys, ∀ c ∈ w, c < 128) :
    BentTo l N B (gcO N (bodyO (evSs (evb tb supx 95) supx (c__law_bent.drop 7) σ N'))) := by
  have j := join_St hp (by omega)
  have hz : Tx (3 * B + 20) (jn ys) := Tx.up (jn_tx (Nat.le_refl _) (Nat.le_refl _) h3) h1
  have := bent_gc hz d
  simp [c__law_bent, h5, ofs_St, show lt " " = [32] from rfl, j]
  exact this
/-- ahead of the cases: the words stand, one is drawn -/
theorem bent_hi {l : Nat} {N N2 : Store} {B : Nat} {a : List Nat} (ha : Tx B a) (hB : B ≤ 400) (k i : Nat) (hk : 3 ≤ k) (d2 : Dr N l N2) :
    ∃ (e : Nat) (N3 : Store), e < (wds a).length ∧ Dr (N2 ++ [.lst (sD (wds a))]) l N3 ∧ N.length ≤ N2.length ∧
      evSs (evb tb supx 95) supx ((c__law_bent.drop 2).take 4) (bS l a k i none none none) N2 = .nx (bS l a k i (some (.ll N2.length)) (some (.int (e : Nat))) none) N3 := by
  have la := ha.1
  have wl := wds_len a
  have wn : 0 < (wds a).length := List.length_pos_iff.mpr (wds_ne a)
  have d3 := dr_refl (dr_app d2 [.lst (sD (wds a))]).src
  obtain ⟨e0, N3, b1, b2, d4, e4⟩ := pick_dr d3 ((wds a).length : Int) (by omega) (by omega)
  obtain ⟨e, rfl⟩ := Int.eq_ofNat_of_zero_le b1
  have e4 : run 25 [.ll l, .int ((wds a).length : Nat)] (N2 ++ [.lst (sD (wds a))]) = .ok (.int (e : Nat)) N3 := e4
  refine ⟨e, N3, by omega, d4, d2.len, ?_⟩
  have s1 := split_St N2 (a := a) (by omega)
  rw [newL_in (by rw [List.length_map]; omega)] at s1
  have ll := len_ll (N := N2 ++ [.lst (sD (wds a))]) (l := N2.length) (xs := sD (wds a)) (by simp)
  have hl : (sD (wds a)).length = (wds a).length := List.length_map _
  rw [hl] at ll
  have k2 : ¬ ((k : Nat) : Int) < 2 := by omega
  have k3 : ¬ ((k : Nat) : Int) = 2 := by omega
  have s1 : meD .split (.str (St a)) [.str (St [32])] N2 = .ok (.ll N2.length) (N2 ++ [.lst (sD (wds a))]) := s1
  simp [c__law_bent, getV, eqD_pu, k2, k3, ofs_St, show lt " " = [32] from rfl, s1, ll, e4]
end BH
end

section
set_option Elab.async false
set_option linter.all false
set_option maxRecDepth 100000
set_option maxHeartbeats 8000000
/-! k71: the three ways of words bent. -/
namespace BH
open PySem L2

def w14 : List (List Nat) := [lt "0", lt "1", lt "4", lt "5", lt "00", lt "asked", lt "came", lt "no", lt "yes", lt "number", lt "keep", lt "rest", lt "origin", lt ""]
theorem w14_ok : ∀ w ∈ w14, w.length ≤ 6 ∧ ∀ c ∈ w, c < 128 := by decide
theorem sD_len (ws : List (List Nat)) : (sD ws).length = ws.length := List.length_map _
section
variable {l : Nat} {N N2 N3 : Store} {B : Nat} {a : List Nat}
theorem part_at (d2 : Dr N l N2) (d3 : Dr (N2 ++ [.lst (sD (wds a))]) l N3) : N3[N2.length]? = some (.lst (sD (wds a))) := by
  have h1 := d2.lt
  have h2 := d2.len
  rw [d3.eq N2.length (by simp) (by omega)]
  simp
theorem bent_3 (ha : Tx B a) (hB : B ≤ 400) (i e : Nat) (he : e < (wds a).length) (d2 : Dr N l N2) (d3 : Dr (N2 ++ [.lst (sD (wds a))]) l N3) :
    BentTo l N B (gcO N (bodyO (evSs (evb tb supx 95) supx (c__law_bent.drop 6) (bS l a 3 i (some (.ll N2.length)) (some (.int (e : Nat))) none) N3))) := by
  have la := ha.1
  have wl := wds_len a
  have ws := wds_sum a
  obtain ⟨v, N4, hv, d4, e4⟩ := chosen_dr d3 (sD w14) (by rw [sD_len]; decide) (by rw [sD_len]; decide) (by
    intro d hd
    obtain ⟨w, _, rfl⟩ := List.mem_map.mp hd
    simp)
  obtain ⟨w, hw, rfl⟩ := List.mem_map.mp hv
  obtain ⟨w1, w2⟩ := w14_ok w hw
  have hp := part_at d2 d4
  have st := set_llN (v := .str (St w)) hp (i := e) (by rw [sD_len]; exact he)
  have es : (sD (wds a)).set e (.str (St w)) = sD ((wds a).set e w) := by unfold sD; rw [List.map_set]
  rw [es] at st
  have hlen : N2.length < N4.length := (List.getElem?_eq_some_iff.mp hp).1
  have fin := bent_end (B := B) (σ := bS l a 3 i (some (.ll N2.length)) (some (.int (e : Nat))) (some (.ll N3.length))) (dr_hi (dr_tr (dr_app d2 _) d4) d2.len (.lst (sD ((wds a).set e w)))) (p := N2.length) (ys := (wds a).set e w) (by simp [hlen]) rfl
    (by have := sumL_set (wds a) e w; rw [List.length_set]; omega) hB (fun u hu c hc => by
      rcases List.mem_or_eq_of_mem_set hu with z | z
      · exact (wds_tx ha z).2 c hc
      · subst z; exact w2 c hc)
  have hsp : c__law_bent.drop 6 = (c__law_bent.drop 6).take 1 ++ c__law_bent.drop 7 := rfl
  have p1 : evSs (evb tb supx 95) supx ((c__law_bent.drop 6).take 1) (bS l a 3 i (some (.ll N2.length)) (some (.int (e : Nat))) none) N3 = .nx (bS l a 3 i (some (.ll N2.length)) (some (.int (e : Nat))) (some (.ll N3.length))) (N4.set N2.length (.lst (sD ((wds a).set e w)))) := by
    simp [sD, w14] at e4
    simp [c__law_bent, getV, eqD_pu, ofs_St, newL, e4, st]
  rw [hsp, evSs_app, p1, seq_nxE]
  exact fin
theorem bent_4 (ha : Tx B a) (hB : B ≤ 400) (i e : Nat) (he : e < (wds a).length) (d2 : Dr N l N2) (d3 : Dr (N2 ++ [.lst (sD (wds a))]) l N3) :
    BentTo l N B (gcO N (bodyO (evSs (evb tb supx 95) supx (c__law_bent.drop 6) (bS l a 4 i (some (.ll N2.length)) (some (.int (e : Nat))) none) N3))) := by
  have la := ha.1
  have wl := wds_len a
  have ws := wds_sum a
  have hp := part_at d2 d3
  have hlen : N2.length < N3.length := (List.getElem?_eq_some_iff.mp hp).1
  have s1 := slc_llN hp (i := e) (c := e + 2) (by rw [sD_len]; omega) (by omega) (by rw [sD_len]; omega)
  have ec : ((sD (wds a)).drop e).take (e + 2 - e) = sD (((wds a).drop e).take 2) := by
    unfold sD
    rw [← List.map_drop, ← List.map_take, Nat.add_sub_cancel_left]
  rw [ec, Int.natCast_add] at s1
  have s2 : revD (.ll N3.length) (N3 ++ [.lst (sD (((wds a).drop e).take 2))]) = .ok (.ll (N3.length + 1)) (N3 ++ [.lst (sD (((wds a).drop e).take 2)), .lst (sD (((wds a).drop e).take 2).reverse)]) := by
    unfold revD
    dsimp only
    rw [List.getElem?_append_right (Nat.le_refl _)]
    simp
    rw [newL_in (by rw [List.length_reverse, sD_len]; simp; omega)]
    simp [sD]
  have q1 : (N3 ++ [MO.lst (sD (((wds a).drop e).take 2)), .lst (sD (((wds a).drop e).take 2).reverse)])[N2.length]? = some (.lst (sD (wds a))) := by rw [List.getElem?_append_left hlen]; exact hp
  have q2 : (N3 ++ [MO.lst (sD (((wds a).drop e).take 2)), .lst (sD (((wds a).drop e).take 2).reverse)])[N3.length + 1]? = some (.lst (sD (((wds a).drop e).take 2).reverse)) := by rw [List.getElem?_append_right (by omega)]; simp
  have s3 := setSl_N q1 q2 (i := e) (c := e + 2) (by omega) (by rw [sD_len]; omega) (by omega) (by rw [sD_len, sD_len]; simp; omega)
  have el : (sD (wds a)).take e ++ sD (((wds a).drop e).take 2).reverse ++ (sD (wds a)).drop (min (e + 2) (sD (wds a)).length) = sD ((wds a).take e ++ (((wds a).drop e).take 2).reverse ++ ((wds a).drop e).drop 2) := by
    rw [sD_len]
    unfold sD
    rw [List.map_append, List.map_append, List.map_take, List.drop_drop, ← List.map_drop]
    congr 2
    by_cases q : e + 2 ≤ (wds a).length
    · rw [Nat.min_eq_left q]
    · rw [Nat.min_eq_right (by omega), List.drop_eq_nil_of_le (Nat.le_refl _), List.drop_eq_nil_of_le (by omega)]
  rw [el, Int.natCast_add] at s3
  have dd := dr_hi (dr_app (dr_tr (dr_app d2 _) d3) [.lst (sD (((wds a).drop e).take 2)), .lst (sD (((wds a).drop e).take 2).reverse)]) d2.len (.lst (sD ((wds a).take e ++ (((wds a).drop e).take 2).reverse ++ ((wds a).drop e).drop 2)))
  have z1 := sumL_drop e (wds a)
  have z2 := sumL_drop 2 ((wds a).drop e)
  have fin := bent_end (B := B) (σ := bS l a 4 i (some (.ll N2.length)) (some (.int (e : Nat))) none) dd (p := N2.length) (by rw [List.getElem?_set_self (by simp; omega)]) rfl
    (by simp only [sumL_app, sumL_rev, List.length_append, List.length_take, List.length_drop, List.length_reverse]; omega) hB (fun u hu c hc => by
      have : u ∈ wds a := by
        rcases List.mem_append.mp hu with z | z
        · rcases List.mem_append.mp z with z | z
          · exact List.mem_of_mem_take z
          · exact List.mem_of_mem_drop (List.mem_of_mem_take (List.mem_reverse.mp z))
        · exact List.mem_of_mem_drop (List.mem_of_mem_drop z)
      exact (wds_tx ha this).2 c hc)
  have hsp : c__law_bent.drop 6 = (c__law_bent.drop 6).take 1 ++ c__law_bent.drop 7 := rfl
  have p1 : evSs (evb tb supx 95) supx ((c__law_bent.drop 6).take 1) (bS l a 4 i (some (.ll N2.length)) (some (.int (e : Nat))) none) N3 = .nx (bS l a 4 i (some (.ll N2.length)) (some (.int (e : Nat))) none) ((N3 ++ [MO.lst (sD (((wds a).drop e).take 2)), .lst (sD (((wds a).drop e).take 2).reverse)]).set N2.length (.lst (sD ((wds a).take e ++ (((wds a).drop e).take 2).reverse ++ ((wds a).drop e).drop 2)))) := by
    simp at s1 s2 s3
    simp [c__law_bent, getV, eqD_pu, s1, s2, s3]
  rw [hsp, evSs_app, p1, seq_nxE]
  exact fin
end
end BH
end

section
set_option Elab.async false
set_option linter.all false
set_option maxRecDepth 100000
set_option maxHeartbeats 8000000
/-! k71: words doubled or dropped; a text bent, whole. -/
namespace BH
open PySem L2
theorem sumL_rep (w : List Nat) : ∀ n : Nat, sumL (List.replicate n w) = n * w.length
  | 0 => by simp [sumL]
  | n + 1 => by rw [List.replicate_succ, sumL, sumL_rep w n]; rw [Nat.add_mul]; omega
theorem mul_llN {N : Store} {q : Nat} {v : D} (h : N[q]? = some (.lst [v])) (n : Nat) (hn : n ≤ 1000) : binD .Mult (.ll q) (.int (n : Nat)) N = .ok (.ll N.length) (N ++ [.lst (List.replicate n v)]) := by
  unfold binD
  dsimp only
  rw [h]
  dsimp only
  rw [if_pos ⟨by omega, by omega, by simp⟩]
  have : (List.replicate ((n : Int).toNat) [v]).flatten = List.replicate n v := by
    rw [Int.toNat_natCast]
    clear h hn
    induction n with
    | zero => rfl
    | succ n ih => rw [List.replicate_succ, List.replicate_succ, List.flatten_cons, ih]; rfl
  rw [this, newL_in (by simp; omega)]
section
variable {l : Nat} {N N2 N3 : Store} {B : Nat} {a : List Nat}
theorem bent_5 (ha : Tx B a) (hB : B ≤ 400) (i e : Nat) (he : e < (wds a).length) (d2 : Dr N l N2) (d3 : Dr (N2 ++ [.lst (sD (wds a))]) l N3) :
    BentTo l N B (gcO N (bodyO (evSs (evb tb supx 95) supx (c__law_bent.drop 6) (bS l a 5 i (some (.ll N2.length)) (some (.int (e : Nat))) none) N3))) := by
  have la := ha.1
  have wl := wds_len a
  have ws := wds_sum a
  have hp := part_at d2 d3
  have hlen : N2.length < N3.length := (List.getElem?_eq_some_iff.mp hp).1
  have hl2 : l < N2.length := by have := d2.lt; have := d2.len; omega
  have s1 : subD (.ll N2.length) (.int (e : Nat)) N3 = .ok (.str (St (wds a)[e])) N3 := by
    rw [sub_llN hp (by rw [sD_len]; exact he)]
    simp [sD]
  have d4 := dr_refl (dr_app d3 [.lst [.str (St (wds a)[e])]]).src
  obtain ⟨j0, N4, b1, b2, d5, e5⟩ := pick_dr d4 2 (by decide) (by decide)
  obtain ⟨j, rfl⟩ := Int.eq_ofNat_of_zero_le b1
  have e5 : run 25 [.ll l, .int 2] (N3 ++ [.lst [.str (St (wds a)[e])]]) = .ok (.int (j : Nat)) N4 := e5
  have hq : N4[N3.length]? = some (.lst [.str (St (wds a)[e])]) := by
    rw [d5.eq N3.length (by simp) (by omega)]
    simp
  have hp4 : N4[N2.length]? = some (.lst (sD (wds a))) := by
    rw [d5.eq N2.length (by simp; omega) (by omega), List.getElem?_append_left hlen]
    exact hp
  have m1 := mul_ii (a := 2) (b := (j : Nat)) N4 rfl
  have m2 := mul_llN hq (2 * j) (by omega)
  have hl4 : N2.length < N4.length := (List.getElem?_eq_some_iff.mp hp4).1
  have q1 : (N4 ++ [MO.lst (List.replicate (2 * j) (D.str (St (wds a)[e])))])[N2.length]? = some (.lst (sD (wds a))) := by rw [List.getElem?_append_left hl4]; exact hp4
  have q2 : (N4 ++ [MO.lst (List.replicate (2 * j) (D.str (St (wds a)[e])))])[N4.length]? = some (.lst (List.replicate (2 * j) (D.str (St (wds a)[e])))) := by simp
  have s3 := setSl_N q1 q2 (i := e) (c := e + 1) (by omega) (by rw [sD_len]; omega) (by omega) (by rw [sD_len]; simp; omega)
  have el : (sD (wds a)).take e ++ List.replicate (2 * j) (D.str (St (wds a)[e])) ++ (sD (wds a)).drop (min (e + 1) (sD (wds a)).length) = sD ((wds a).take e ++ List.replicate (2 * j) (wds a)[e] ++ (wds a).drop (e + 1)) := by
    rw [sD_len, Nat.min_eq_left (by omega)]
    unfold sD
    rw [List.map_append, List.map_append, List.map_take, List.map_replicate, List.map_drop]
  rw [el, Int.natCast_add] at s3
  have dd := dr_hi (dr_app (dr_tr (dr_app (dr_tr (dr_app d2 _) d3) _) d5) [.lst (List.replicate (2 * j) (D.str (St (wds a)[e])))]) d2.len (.lst (sD ((wds a).take e ++ List.replicate (2 * j) (wds a)[e] ++ (wds a).drop (e + 1))))
  have z1 := sumL_drop e (wds a)
  have z2 := sumL_drop 1 ((wds a).drop e)
  rw [List.drop_drop] at z2
  have z3 : (wds a)[e].length ≤ sumL (wds a) := sumL_mem (List.getElem_mem he)
  have z4 : sumL ((wds a).drop (e + 1)) + (wds a)[e].length ≤ sumL ((wds a).drop e) := by
    rw [List.drop_eq_getElem_cons he, sumL]
    omega
  have hj : j = 0 ∨ j = 1 := by omega
  have z5 : 2 * j * (wds a)[e].length ≤ (wds a)[e].length + sumL (wds a) := by
    rcases hj with rfl | rfl <;> omega
  have fin := bent_end (B := B) (σ := bS l a 5 i (some (.ll N2.length)) (some (.int (e : Nat))) none) dd (p := N2.length) (by rw [List.getElem?_set_self (by simp; omega)]) rfl
    (by simp only [sumL_app, sumL_rep, List.length_append, List.length_take, List.length_drop, List.length_replicate]; omega) hB (fun u hu c hc => by
      have : u ∈ wds a := by
        rcases List.mem_append.mp hu with z | z
        · rcases List.mem_append.mp z with z | z
          · exact List.mem_of_mem_take z
          · rw [(List.mem_replicate.mp z).2]; exact List.getElem_mem he
        · exact List.mem_of_mem_drop z
      exact (wds_tx ha this).2 c hc)
  have hsp : c__law_bent.drop 6 = (c__law_bent.drop 6).take 1 ++ c__law_bent.drop 7 := rfl
  have p1 : evSs (evb tb supx 95) supx ((c__law_bent.drop 6).take 1) (bS l a 5 i (some (.ll N2.length)) (some (.int (e : Nat))) none) N3 = .nx (bS l a 5 i (some (.ll N2.length)) (some (.int (e : Nat))) none) ((N4 ++ [MO.lst (List.replicate (2 * j) (D.str (St (wds a)[e])))]).set N2.length (.lst (sD ((wds a).take e ++ List.replicate (2 * j) (wds a)[e] ++ (wds a).drop (e + 1))))) := by
    have c2 : ((2 * j : Nat) : Int) = 2 * (j : Int) := by omega
    rw [c2] at m2
    have nl : newL N3 [.str (St (wds a)[e])] = .ok (.ll N3.length) (N3 ++ [.lst [.str (St (wds a)[e])]]) := newL_in (by simp)
    have s3 : setSl (.ll N2.length) (.int (e : Nat)) (.int ((e : Int) + 1)) (.ll N4.length) _ = _ := s3
    simp [c__law_bent, getV, eqD_pu, s1, nl, e5, m1, m2, s3]
  rw [hsp, evSs_app, p1, seq_nxE]
  exact fin
end
theorem r_bent (l : Nat) (N : Store) (h : Src N l) {B : Nat} {a : List Nat} (ha : Tx B a) (hB : B ≤ 400) : BentTo l N B (run 95 [.ll l, .str (St a)] N) := by
  have h0 := dr_refl h
  have la := ha.1
  obtain ⟨k0, N1, a1, a2, d1, e1⟩ := pick_dr h0 6 (by decide) (by decide)
  obtain ⟨i0, N2, b1, b2, d2, e2⟩ := pick_dr d1 ((a.length : Int) + 1) (by omega) (by omega)
  obtain ⟨k, rfl⟩ := Int.eq_ofNat_of_zero_le a1
  obtain ⟨i, rfl⟩ := Int.eq_ofNat_of_zero_le b1
  have ln := fun M => len_St M (a := a) (by omega)
  have hsp : c__law_bent = c__law_bent.take 2 ++ c__law_bent.drop 2 := rfl
  have p1 : evSs (evb tb supx 95) supx (c__law_bent.take 2) (startD 8 [.ll l, .str (St a)]) N = .nx (bS l a k i none none none) N2 := by
    have e1 : run 25 [.ll l, .int 6] N = .ok (.int (k : Nat)) N1 := e1
    have e2 : run 25 [.ll l, .int ((a.length : Int) + 1)] N1 = .ok (.int (i : Nat)) N2 := e2
    simp [c__law_bent, startD, getV, e1, e2, ln, sPar, setAll, signs, ofs_St]
  rw [run, evm_eq tb supx t__law_bent, hsp, evSs_app, p1, seq_nxE]
  have hk : k = 0 ∨ k = 1 ∨ k = 2 ∨ 3 ≤ k := by omega
  rcases hk with rfl | rfl | rfl | hk
  · exact bent_lo ha hB 0 i (by decide) d2
  · exact bent_lo ha hB 1 i (by decide) d2
  · exact bent_2 ha hB i d2
  · obtain ⟨e, N3, he, d3, _, q⟩ := bent_hi ha hB k i hk d2
    have hs2 : c__law_bent.drop 2 = (c__law_bent.drop 2).take 4 ++ c__law_bent.drop 6 := rfl
    rw [hs2, evSs_app, q, seq_nxE]
    have hk : k = 3 ∨ k = 4 ∨ k = 5 := by omega
    rcases hk with rfl | rfl | rfl
    · exact bent_3 ha hB i e he d2 d3
    · exact bent_4 ha hB i e he d2 d3
    · exact bent_5 ha hB i e he d2 d3
end BH
end

section
set_option Elab.async false
set_option linter.all false
set_option maxRecDepth 100000
set_option maxHeartbeats 8000000
/-! k71: what is told of a text; odd values. -/
namespace BH
open PySem L2

open Classical in
noncomputable def tell (a : List Nat) : D := if h : ∃ r : Ru, r.ok = true ∧ a = lineL r then (Classical.choose h).d else .str (Str.ofString "line!")
theorem line_inj {r r' : Ru} (h : r.ok = true) (h' : r'.ok = true) (e : lineL r = lineL r') : r = r' := by
  have h1 := fnd_line h
  have h2 := fnd_line h'
  rw [e] at h1
  exact ru_inj (h1.symm.trans h2)
theorem tell_line {r : Ru} (h : r.ok = true) : tell (lineL r) = r.d := by
  have hx : ∃ r' : Ru, r'.ok = true ∧ lineL r = lineL r' := ⟨r, h, rfl⟩
  unfold tell
  rw [dif_pos hx]
  obtain ⟨h1, h2⟩ := Classical.choose_spec hx
  rw [← line_inj h h1 h2]
theorem tell_no {a : List Nat} (h : ∀ r : Ru, r.ok = true → a ≠ lineL r) : tell a = .str (Str.ofString "line!") := by
  unfold tell
  rw [dif_neg]
  rintro ⟨r, h1, h2⟩
  exact h r h1 h2
theorem tell_or (a : List Nat) : (∃ r : Ru, r.ok = true ∧ tell a = r.d) ∨ tell a = .str (Str.ofString "line!") := by
  by_cases h : ∃ r : Ru, r.ok = true ∧ a = lineL r
  · obtain ⟨r, h1, rfl⟩ := h
    exact .inl ⟨r, h1, tell_line h1⟩
  · exact .inr (tell_no fun r h1 h2 => h ⟨r, h1, h2⟩)
theorem ru_pu (r : Ru) : D.pu 64 r.d = true := by
  obtain ⟨a1, a2, a3, a4, a5, a6⟩ := r
  cases a3 <;> cases a4 <;> cases a5 <;> simp [Ru.d]
theorem ru_eq (r : Ru) : D.eq r.d r.d = true := by
  obtain ⟨a1, a2, a3, a4, a5, a6⟩ := r
  simp [Ru.d]
theorem tell_eq (a : List Nat) (M : Store) : eqD M (tell a) (tell a) = some true := by
  rcases tell_or a with ⟨r, _, e⟩ | e
  · rw [e, eqD_pu (ru_pu r) (ru_pu r), ru_eq]
  · rw [e, eqD_pu (by simp) (by simp)]
    simp
section
variable (M : Store) {B : Nat} {a : List Nat}
theorem t92 (h : Tx B a) (hB : B ≤ 900) : run 92 [.str (St a)] M = .ok (tell a) M := by
  rcases told M h hB with ⟨r, h1, rfl, h2⟩ | ⟨h1, h2⟩
  · rw [tell_line h1]; exact r_told M (lo_ru _ r) h2
  · rw [tell_no h1]; exact r_toldx M h2
theorem t93 (h : Tx B a) (hB : B ≤ 900) : run 93 [.str (St a)] M = .ok (tell a) M := by
  rcases told M h hB with ⟨r, h1, rfl, h2⟩ | ⟨h1, h2⟩
  · rw [tell_line h1]; exact r_read M h1 h2
  · rw [tell_no h1]; exact r_readx M h2
theorem t94 (h : Tx B a) (hB : B ≤ 900) : run 94 [.str (St a)] M = .ok (tell a) M := by
  rcases reading M h hB with ⟨r, h1, rfl, h2⟩ | ⟨h1, h2⟩
  · rw [tell_line h1]; exact h2
  · rw [tell_no h1]; exact h2
end
/-! ### what no rule's text is -/
def Odd (v : D) : Prop := ∀ M, run 92 [v] M = .ok (.str (Str.ofString "line!")) M ∧ run 93 [v] M = .ok (.str (Str.ofString "line!")) M
theorem odd_no {v : D} (h : ∀ M, isiD "str" v M = .ok (.bl false) M) : Odd v := fun M => ⟨r_toldx M (no_text M (h M)), r_readx M (no_text M (h M))⟩
theorem odd_St {B : Nat} {a : List Nat} (h : Tx B a) (hB : B ≤ 900) (hn : ∀ r : Ru, r.ok = true → a ≠ lineL r) : Odd (.str (St a)) := fun M => by
  have := tell_no hn
  exact ⟨by rw [t92 M h hB, this], by rw [t93 M h hB, this]⟩
theorem line_head (r : Ru) : (lineL r).head? = some 107 := rfl
theorem line_last (r : Ru) : ∃ p, lineL r = p ++ dg r.rest := by
  refine ⟨lt "keep" ++ ([32] ++ (dg r.keep ++ ([32] ++ (lt "trust" ++ ([32] ++ (dg r.use ++ ([32] ++ (lt "from" ++ ([32] ++ (org r.asked ++ ([32] ++ (lt "lapsed" ++ ([32] ++ (yno r.yes ++ ([32] ++ (lt "check" ++ ([32] ++ (chk r.number ++ ([32] ++ (lt "rest" ++ [32])))))))))))))))))))), ?_⟩
  simp [lineL, jn, wordsL, TL.joinL]
theorem last_c {r : Ru} (h : r.ok = true) {p : List Nat} {c : Nat} (e : p ++ [c] = lineL r) : 48 ≤ c ∧ c ≤ 52 := by
  obtain ⟨q, hq⟩ := line_last r
  rw [hq] at e
  have := (List.append_inj_right' e rfl)
  simp [dg] at this
  have := ru_b h
  omega
theorem head_c {r : Ru} {p : List Nat} {c : Nat} (e : c :: p = lineL r) : c = 107 := by
  have := congrArg List.head? e
  rw [line_head] at this
  simpa using this
theorem odd_ends {r : Ru} (h : r.ok = true) : Odd (.str (St [])) ∧ Odd (.str (St (lineL r ++ [32]))) ∧ Odd (.str (St (32 :: lineL r))) ∧ Odd (.str (St (lineL r ++ [10]))) ∧ Odd (.str (St ((lineL r).map PyProof.Rows.up1))) ∧ Odd (.str (St ((lineL r).take ((lineL r).length - 1) ++ [53]))) := by
  have tx := line_tx h
  have one : ∀ c, c < 128 → Tx 1 [c] := fun c hc => ⟨by simp, fun d hd => by rw [List.mem_singleton.mp hd]; exact hc⟩
  refine ⟨odd_St (B := 0) ⟨by simp, fun _ z => by cases z⟩ (by decide) fun r' h' e => ?_, odd_St (tx.app (one 32 (by decide))) (by decide) fun r' h' e => ?_, odd_St (B := 73) ⟨by simp; have := tx.1; omega, fun c hc => ?_⟩ (by decide) fun r' h' e => ?_, odd_St (tx.app (one 10 (by decide))) (by decide) fun r' h' e => ?_,
    odd_St (B := 72) ⟨by simp; exact tx.1, fun c hc => ?_⟩ (by decide) fun r' h' e => ?_, odd_St ((tx.take _).app (one 53 (by decide))) (by decide) fun r' h' e => ?_⟩
  · have := line_head r'; rw [← e] at this; cases this
  · have := last_c h' e; omega
  · rcases List.mem_cons.mp hc with z | z
    · omega
    · exact tx.2 c z
  · have := head_c e; omega
  · have := last_c h' e; omega
  · obtain ⟨d, hd, rfl⟩ := List.mem_map.mp hc
    have := tx.2 d hd
    unfold PyProof.Rows.up1
    split <;> omega
  · have h1 := line_head r'
    rw [← e, List.head?_map, line_head] at h1
    cases h1
  · have := last_c h' e; omega
end BH
end

section
set_option Elab.async false
set_option linter.all false
set_option maxRecDepth 100000
set_option maxHeartbeats 8000000
/-! k71: the law's loops. -/
namespace BH
open PySem L2

def tB : List CS := [(.asg (.nm 6) (.call 95 [(.var 2), (.var 4)])), (.asg (.nm 6) (.ife (.cmp .Gt (.call 25 [(.var 2), (.cst (.int 3))]) (.cst (.int 0))) (.var 6) (.call 95 [(.var 2), (.var 6)]))), (.asg (.nm 7) (.call 92 [(.var 6)])), (.iff (.orv (.cmp .NotEq (.var 7) (.call 93 [(.var 6)])) (.cmp .NotEq (.var 7) (.call 94 [(.var 6)]))) [(.ret (.cst (.bl false)))] [])]
def oB : List CS := [(.iff (.orv (.cmp .NotEq (.call 92 [(.var 6)]) (.cst (.str "line!"))) (.cmp .NotEq (.call 93 [(.var 6)]) (.cst (.str "line!")))) [(.ret (.cst (.bl false)))] [])]
theorem forL_c {chk : Store → Bool} {gF : D → Env → Store → Out Env} {bF : Env → Store → SO} {x : D} {xs : List D} {σ σ' σ2 : Env} {M M' M2 : Store} (hc : chk M = true) (hg : gF x σ M = .ok σ' M') (hb : bF σ' M' = .nx σ2 M2) : forL chk gF bF (x :: xs) σ M = forL chk gF bF xs σ2 M2 := by
  show (if chk M = true then (gF x σ M).soN (forK bF (forL chk gF bF xs)) else .bad) = _
  rw [if_pos hc, hg, soN_okE, forKE, hb, turn_nxE]
theorem forL_n {chk : Store → Bool} {gF : D → Env → Store → Out Env} {bF : Env → Store → SO} {σ : Env} {M : Store} (hc : chk M = true) : forL chk gF bF [] σ M = .nx σ M := by
  show (if chk M = true then SO.nx σ M else .bad) = _
  rw [if_pos hc]
/-- one turn -/
theorem one_turn (m : Nat → List D → Store → Out D) (hm : ∀ j, j < 96 → m j = run j) {r : Ru} (ok : r.ok = true) {l : Nat} {N : Store} (h : Src N l) (x0 x1 x3 x5 x6 x7 x8 : Option D) :
    ∃ y6 y7 N', Src N' l ∧ evSs m supx tB [x0, x1, some (.ll l), x3, some (.str (St (lineL r))), x5, x6, x7, x8] N = .nx [x0, x1, some (.ll l), x3, some (.str (St (lineL r))), x5, y6, y7, x8] N' := by
  obtain ⟨z, N1, z1, d1, _, e1⟩ := r_bent l N h (line_tx ok) (by decide)
  obtain ⟨j, N2, j1, j2, d2, e2⟩ := pick_dr d1 3 (by decide) (by decide)
  have fin : ∀ (w : List Nat) (N3 : Store), Tx 728 w → Src N3 l → evSs m supx (tB.drop 2) [x0, x1, some (.ll l), x3, some (.str (St (lineL r))), x5, some (.str (St w)), x7, x8] N3 = .nx [x0, x1, some (.ll l), x3, some (.str (St (lineL r))), x5, some (.str (St w)), some (tell w), x8] N3 := fun w N3 hw hs => by
    have a1 := t92 N3 hw (by decide)
    have a2 := t93 N3 hw (by decide)
    have a3 := t94 N3 hw (by decide)
    have a4 := tell_eq w N3
    simp [tB, getV, hm, a1, a2, a3, a4]
  have hsp : tB = tB.take 2 ++ tB.drop 2 := rfl
  by_cases q : 0 < j
  · refine ⟨some (.str (St z)), some (tell z), N2, d2.src, ?_⟩
    have p1 : evSs m supx (tB.take 2) [x0, x1, some (.ll l), x3, some (.str (St (lineL r))), x5, x6, x7, x8] N = .nx [x0, x1, some (.ll l), x3, some (.str (St (lineL r))), x5, some (.str (St z)), x7, x8] N2 := by
      simp [tB, getV, hm, e1, e2, q]
    rw [hsp, evSs_app, p1, seq_nxE]
    exact fin z N2 (z1.up (by decide)) d2.src
  · obtain ⟨z', N3, z2, d3, _, e3⟩ := r_bent l N2 d2.src z1 (by decide)
    refine ⟨some (.str (St z')), some (tell z'), N3, d3.src, ?_⟩
    have p1 : evSs m supx (tB.take 2) [x0, x1, some (.ll l), x3, some (.str (St (lineL r))), x5, x6, x7, x8] N = .nx [x0, x1, some (.ll l), x3, some (.str (St (lineL r))), x5, some (.str (St z')), x7, x8] N3 := by
      simp [tB, getV, hm, e1, e2, q, e3]
    rw [hsp, evSs_app, p1, seq_nxE]
    exact fin z' N3 (z2.up (by decide)) d3.src
theorem k7_turns (m : Nat → List D → Store → Out D) (hm : ∀ j, j < 96 → m j = run j) {r : Ru} (ok : r.ok = true) {l : Nat} (x0 x1 x3 x8 : Option D) : ∀ (ks : List D) {N : Store}, Src N l → ∀ x5 x6 x7 : Option D,
    ∃ y5 y6 y7 N', Src N' l ∧ forL (fun _ => true) (evG m (.nm 5)) (evSs m supx tB) ks [x0, x1, some (.ll l), x3, some (.str (St (lineL r))), x5, x6, x7, x8] N = .nx [x0, x1, some (.ll l), x3, some (.str (St (lineL r))), y5, y6, y7, x8] N'
  | [], N, h, x5, x6, x7 => ⟨x5, x6, x7, N, h, forL_n rfl⟩
  | k :: ks, N, h, x5, x6, x7 => by
    obtain ⟨y6, y7, N1, h1, e1⟩ := one_turn m hm ok h x0 x1 x3 (some k) x6 x7 x8
    obtain ⟨z5, z6, z7, N2, h2, e2⟩ := k7_turns m hm ok x0 x1 x3 x8 ks h1 (some k) y6 y7
    exact ⟨z5, z6, z7, N2, h2, (forL_c rfl (by simp) e1).trans e2⟩
theorem odds_all (m : Nat → List D → Store → Out D) (hm : ∀ j, j < 96 → m j = run j) (chk : Store → Bool) (N : Store) (hc : chk N = true) (x0 x1 x2 x3 x4 x5 x7 x8 : Option D) : ∀ (vs : List D), (∀ v ∈ vs, Odd v) → ∀ x6 : Option D,
    ∃ y6, forL chk (evG m (.nm 6)) (evSs m supx oB) vs [x0, x1, x2, x3, x4, x5, x6, x7, x8] N = .nx [x0, x1, x2, x3, x4, x5, y6, x7, x8] N
  | [], _, x6 => ⟨x6, forL_n hc⟩
  | v :: vs, h, x6 => by
    obtain ⟨a1, a2⟩ := h v List.mem_cons_self N
    obtain ⟨y6, e⟩ := odds_all m hm chk N hc x0 x1 x2 x3 x4 x5 x7 x8 vs (fun w hw => h w (List.mem_cons_of_mem _ hw)) (some v)
    have a3 : eqD N (.str (Str.ofString "line!")) (.str (Str.ofString "line!")) = some true := by rw [eqD_pu (by simp) (by simp)]; simp
    have hb : evSs m supx oB [x0, x1, x2, x3, x4, x5, some v, x7, x8] N = .nx [x0, x1, x2, x3, x4, x5, some v, x7, x8] N := by simp [oB, getV, hm, a1, a2, a3]
    exact ⟨y6, (forL_c hc (by simp) hb).trans e⟩
end BH
end

section
set_option Elab.async false
set_option linter.all false
set_option maxRecDepth 100000
set_option maxHeartbeats 8000000
/-! k71: a turn of the law's outer loop. -/
namespace BH
open PySem L2

def k7Loop : List CS := match c_law_k71 with
  | .for_ _ _ b :: _ => b
  | _ => []
theorem rng_in (n : Nat) (hn : n ≤ 1000) (N : Store) : rngD (.int 0) (.int (n : Nat)) N = .ok (.fix ((List.range n).map fun (i : Nat) => D.int (0 + (i : Int)))) N := by
  unfold rngD
  dsimp only
  rw [if_pos (by omega), Int.sub_zero, Int.toNat_natCast]
theorem i_rngz (m : Nat → List D → Store → Out D) (N : Store) (X : CE) (σ : Env) : evI m (.rng (.cst (.int 0)) X) σ N = (evE m X σ N).bind (rngD (.int 0)) := by
  rw [i_rngE, e_cst, b_ok, k2E]
theorem hm96 : ∀ j, j < 96 → evb tb supx 96 j = run j := fun j h => by
  funext ds M
  rw [evb_at, if_pos h]
theorem k7_a (ns : List Int) (k : Nat) (hk : k < 100) (N : Store) (x2 x3 x4 x5 x6 x7 x8 : Option D) : ∃ (r : Ru) (N' : Store), r.ok = true ∧ Src N' N.length ∧
    evSs (evb tb supx 96) supx (k7Loop.take 4) [some (.lsf (ns.map D.int)), some (.int (k : Nat)), x2, x3, x4, x5, x6, x7, x8] N = .nx [some (.lsf (ns.map D.int)), some (.int (k : Nat)), some (.ll N.length), some r.d, some (.str (St (lineL r))), x5, x6, x7, x8] N' := by
  obtain ⟨a, b, b1, b2, e1⟩ := r_source ns k hk N
  obtain ⟨r, N', ok, d, _, e2⟩ := r_terms7 N.length (N ++ [.lst [.int a, .int b]]) ⟨a, b, by simp, b1, b2⟩
  refine ⟨r, N', ok, d.src, ?_⟩
  have e3 := r_lline N' ok
  have e4 := r_rule_line N' ok
  have e5 := t92 N' (line_tx ok) (by decide)
  have e6 := t93 N' (line_tx ok) (by decide)
  rw [tell_line ok] at e5 e6
  have q1 : eqD N' (.str (St (lineL r))) (.str (St (lineL r))) = some true := by
    rw [eqD_pu (pu_St 64 (line_tx ok).2) (pu_St 64 (line_tx ok).2)]
    simp
  have q2 : eqD N' r.d r.d = some true := by rw [eqD_pu (ru_pu r) (ru_pu r), ru_eq]
  simp [k7Loop, c_law_k71, getV, e1, e2, e3, e4, e5, e6, q1, q2]
theorem k7_b {r : Ru} (ok : r.ok = true) {l : Nat} {N : Store} (h : Src N l) (x0 x1 x3 x5 x6 x7 x8 : Option D) : ∃ y5 y6 y7 N', evSs (evb tb supx 96) supx ((k7Loop.drop 4).take 1) [x0, x1, some (.ll l), x3, some (.str (St (lineL r))), x5, x6, x7, x8] N = .nx [x0, x1, some (.ll l), x3, some (.str (St (lineL r))), y5, y6, y7, x8] N' := by
  obtain ⟨y5, y6, y7, N', _, e⟩ := k7_turns (evb tb supx 96) hm96 ok x0 x1 x3 x8 ((List.range 24).map fun (i : Nat) => D.int (0 + (i : Int))) h x5 x6 x7
  refine ⟨y5, y6, y7, N', ?_⟩
  have hsp : (k7Loop.drop 4).take 1 = [.for_ (.nm 5) (.rng (.cst (.int 0)) (.cst (.int (24 : Nat)))) tB] := rfl
  rw [hsp, ss_consE, s_forE, i_rngz, e_cst, b_ok, rng_in 24 (by decide), so_okE, sForE]
  show SO.seq (forL (fun _ => true) _ _ ((List.range 24).map fun (i : Nat) => D.int (0 + (i : Int))) _ _) _ = _
  rw [e, seq_nxE, ss_nilE]
def odd10 (r : Ru) : List D := [.non, .int 5, .tup [.str (St (lineL r))], r.d, .str (St []), .str (St (lineL r ++ [32])), .str (St (32 :: lineL r)), .str (St (lineL r ++ [10])), .str (St ((lineL r).map PyProof.Rows.up1)), .str (St ((lineL r).take ((lineL r).length - 1) ++ [53]))]
theorem odd10_ok {r : Ru} (ok : r.ok = true) : ∀ v ∈ odd10 r, Odd v := by
  obtain ⟨o1, o2, o3, o4, o5, o6⟩ := odd_ends ok
  intro v hv
  simp only [odd10, List.mem_cons, List.not_mem_nil, or_false] at hv
  rcases hv with rfl | rfl | rfl | rfl | rfl | rfl | rfl | rfl | rfl | rfl
  · exact odd_no fun M => isi_non_str M
  · exact odd_no fun M => isi_int_str M 5
  · exact odd_no fun M => isi_tup_str M _
  · exact odd_no fun M => isi_tup_str M _
  · exact o1
  · exact o2
  · exact o3
  · exact o4
  · exact o5
  · exact o6
theorem k7_c {r : Ru} (ok : r.ok = true) {N : Store} (x0 x1 x2 x5 x6 x7 x8 : Option D) : ∃ y6 N', evSs (evb tb supx 96) supx (k7Loop.drop 5) [x0, x1, x2, some r.d, some (.str (St (lineL r))), x5, x6, x7, x8] N = .nx [x0, x1, x2, some r.d, some (.str (St (lineL r))), x5, y6, x7, x8] N' := by
  have tx := line_tx ok
  have tl := tx.1
  have hne : lineL r ≠ [] := fun z => by have := line_head r; rw [z] at this; cases this
  have hc : (Itm.lis N.length (odd10 r)).chk (N ++ [.lst (odd10 r)]) = true := by
    rw [chk_ll, List.getElem?_append_right (Nat.le_refl _)]
    simp [D.beqL_refl]
  obtain ⟨y6, e⟩ := odds_all (evb tb supx 96) hm96 _ (N ++ [.lst (odd10 r)]) hc x0 x1 x2 (some r.d) (some (.str (St (lineL r)))) x5 x7 x8 (odd10 r) (odd10_ok ok) x6
  refine ⟨y6, N ++ [.lst (odd10 r)], ?_⟩
  have g1 := add_St N (a := lineL r) (b := [32]) (by simp; omega)
  have g2 := add_St N (a := [32]) (b := lineL r) (by simp; omega)
  have g3 := add_St N (a := lineL r) (b := [10]) (by simp; omega)
  have g4 := add_St N (a := (lineL r).take ((lineL r).length - 1)) (b := [53]) (by simp; omega)
  have g5 : meD .upper (.str (St (lineL r))) [] N = .ok (.str (St ((lineL r).map PyProof.Rows.up1))) N := by
    show (if (St (lineL r)).length ≤ 5592405 then Out.ok (D.str (Txt.upper (St (lineL r)))) N else .bad) = _
    rw [SX.S_len, if_pos (by omega), SX.upper_S (List.all_eq_true.mpr fun c hc => decide_eq_true (tx.2 c hc))]
  have g6 : slcD (.str (St (lineL r))) none (some (-1)) N = .ok (.str (St ((lineL r).take ((lineL r).length - 1)))) N := by
    show (if (St (lineL r)).length ≤ szl then Out.ok (D.str (Txt.slice (St (lineL r)) none (some (-1)))) N else .bad) = _
    rw [SX.S_len, szl_v, if_pos (by omega), SX.slice_butlast hne]
  have gn : negD (.int 1) N = .ok (.int (-1)) N := rfl
  have hx : evE (evb tb supx 96) (.lst [(.cst .non), (.cst (.int 5)), (.tup [(.var 4)]), (.var 3), (.cst (.str "")), (.bin .Add (.var 4) (.cst (.str " "))), (.bin .Add (.cst (.str " ")) (.var 4)), (.bin .Add (.var 4) (.cst (.str "\n"))), (.me .upper (.var 4) []), (.bin .Add (.slc (.var 4) (.cst .non) (.neg (.cst (.int 1)))) (.cst (.str "5")))]) [x0, x1, x2, some r.d, some (.str (St (lineL r))), x5, x6, x7, x8] N = newL N (odd10 r) := by
    have i1 : isNo (.neg (.cst (.int 1))) = false := rfl
    simp only [ofs_St, show lt " " = [32] from rfl, show lt "\n" = [10] from rfl, show lt "5" = [53] from rfl, show lt "" = [] from rfl]
    simp at g2
    simp [getV, g1, g2, g3, g4, g5, g6, gn, i1, odd10]
  have hsp : k7Loop.drop 5 = [.for_ (.nm 6) (.ex (.lst [(.cst .non), (.cst (.int 5)), (.tup [(.var 4)]), (.var 3), (.cst (.str "")), (.bin .Add (.var 4) (.cst (.str " "))), (.bin .Add (.cst (.str " ")) (.var 4)), (.bin .Add (.var 4) (.cst (.str "\n"))), (.me .upper (.var 4) []), (.bin .Add (.slc (.var 4) (.cst .non) (.neg (.cst (.int 1)))) (.cst (.str "5")))])) oB] := rfl
  rw [hsp, ss_consE, s_forE, i_exE, hx, newL_in (by simp [odd10]), b_ok, itm_ll, List.getElem?_append_right (Nat.le_refl _)]
  simp only [Nat.sub_self, List.getElem?_cons_zero, so_okE, sForE]
  show SO.seq (forL _ _ _ (odd10 r) _ _) _ = _
  rw [e, seq_nxE, ss_nilE]
theorem k7_turn (ns : List Int) (k : Nat) (hk : k < 100) (N : Store) (x2 x3 x4 x5 x6 x7 x8 : Option D) : ∃ (ys : List (Option D)) (N' : Store), ys.length = 6 ∧
    evSs (evb tb supx 96) supx k7Loop [some (.lsf (ns.map D.int)), some (.int (k : Nat)), x2, x3, x4, x5, x6, x7, x8] N = .nx (some (.lsf (ns.map D.int)) :: some (.int (k : Nat)) :: (ys ++ [x8])) N' := by
  obtain ⟨r, N1, ok, hS, e1⟩ := k7_a ns k hk N x2 x3 x4 x5 x6 x7 x8
  obtain ⟨y5, y6, y7, N2, e2⟩ := k7_b ok hS (some (.lsf (ns.map D.int))) (some (.int (k : Nat))) (some r.d) x5 x6 x7 x8
  obtain ⟨z6, N3, e3⟩ := k7_c ok (N := N2) (some (.lsf (ns.map D.int))) (some (.int (k : Nat))) (some (.ll N.length)) y5 y6 y7 x8
  refine ⟨[some (.ll N.length), some r.d, some (.str (St (lineL r))), y5, z6, y7], N3, rfl, ?_⟩
  have hsp : k7Loop = k7Loop.take 4 ++ (k7Loop.drop 4).take 1 ++ k7Loop.drop 5 := rfl
  rw [hsp, evSs_app, evSs_app, e1, seq_nxE, e2, seq_nxE, e3]
  rfl
end BH
end

section
set_option Elab.async false
set_option linter.all false
set_option maxRecDepth 100000
set_option maxHeartbeats 8000000
/-! k71: the law. -/
namespace BH
open PySem L2

theorem k7_all (ns : List Int) : ∀ (ks : List Nat), (∀ k ∈ ks, k < 100) → ∀ (x1 : Option D) (xs : List (Option D)) (x8 : Option D) (N : Store), xs.length = 6 →
    ∃ (y1 : Option D) (ys : List (Option D)) (N' : Store), ys.length = 6 ∧ forL (fun _ => true) (evG (evb tb supx 96) (.nm 1)) (evSs (evb tb supx 96) supx k7Loop) (ks.map fun (i : Nat) => D.int (0 + (i : Int))) (some (.lsf (ns.map D.int)) :: x1 :: (xs ++ [x8])) N =
      .nx (some (.lsf (ns.map D.int)) :: y1 :: (ys ++ [x8])) N'
  | [], _, x1, xs, x8, N, h => ⟨x1, xs, N, h, forL_n rfl⟩
  | k :: ks, hk, x1, xs, x8, N, h => by
    match xs, h with
    | [x2, x3, x4, x5, x6, x7], _ =>
      obtain ⟨ys, N1, h1, e1⟩ := k7_turn ns k (hk k List.mem_cons_self) N x2 x3 x4 x5 x6 x7 x8
      obtain ⟨z1, zs, N2, h2, e2⟩ := k7_all ns ks (fun j hj => hk j (List.mem_cons_of_mem _ hj)) (some (.int (k : Nat))) ys x8 N1 h1
      refine ⟨z1, zs, N2, h2, ?_⟩
      rw [List.map_cons, Int.zero_add]
      exact (forL_c rfl (by simp) e1).trans e2
theorem last_row (M : Store) : run 92 [.str (Str.ofString "keep 4 trust 1 from came lapsed yes check number rest 0")] M = .ok (.tup [.int 4, .int 1, .str (Str.ofString "came"), .str (Str.ofString "yes"), .str (Str.ofString "number"), .int 0]) M := by
  have ok : Ru.ok ⟨4, 1, false, true, true, 0⟩ = true := by decide
  have e : lineL ⟨4, 1, false, true, true, 0⟩ = lt "keep 4 trust 1 from came lapsed yes check number rest 0" := by decide +kernel
  have := t92 M (line_tx ok) (by decide)
  rw [tell_line ok, e, ← ofs_St] at this
  exact this
theorem law_ok (ns : List Int) (h : ns.length ≤ 63) : run 96 [.lsf (ns.map D.int)] [] = .ok (.bl true) [] := by
  rw [run, evm_eq tb supx t_law_k71]
  have hsp : c_law_k71 = [.for_ (.nm 1) (.rng (.cst (.int 0)) (.bi .max [(.cst (.int 6)), (.bi .min [(.cst (.int 24)), (.bi .len [(.var 0)])])])) k7Loop] ++ c_law_k71.drop 1 := rfl
  obtain ⟨n, hn, hn2⟩ : ∃ n : Nat, n ≤ 24 ∧ max 6 (min 24 (ns.length : Int)) = (n : Int) := ⟨max 6 (min 24 ns.length), by omega, by omega⟩
  obtain ⟨y1, ys, N', hy, hl⟩ := k7_all ns (List.range n) (fun k hk => by have := List.mem_range.mp hk; omega) none (List.replicate 6 none) none [] rfl
  have e1 : evE (evb tb supx 96) (.bi .max [(.cst (.int 6)), (.bi .min [(.cst (.int 24)), (.bi .len [(.var 0)])])]) (startD 9 [.lsf (ns.map D.int)]) [] = .ok (.int n) [] := by
    rw [← hn2]
    have := len_lsf ns []
    simp [startD, getV, this]
  have e2 : evSs (evb tb supx 96) supx (c_law_k71.drop 1) (some (.lsf (ns.map D.int)) :: y1 :: (ys ++ [none])) N' = .rt (.bl true) N' := by
    match ys, hy with
    | [x2, x3, x4, x5, x6, x7], _ =>
      have l1 := last_row N'
      have l2 : eqD N' (.tup [.int 4, .int 1, .str (Str.ofString "came"), .str (Str.ofString "yes"), .str (Str.ofString "number"), .int 0]) (.tup [.int 4, .int 1, .str (Str.ofString "came"), .str (Str.ofString "yes"), .str (Str.ofString "number"), .int 0]) = some true := by
        rw [eqD_pu (by simp) (by simp)]
        simp
      simp [c_law_k71, getV, l1, l2]
  rw [hsp, evSs_app, ss_consE, s_forE, i_rngz, e1, b_ok, rng_in n (by omega), so_okE, sForE]
  show gcO [] (bodyO (SO.seq (SO.seq (forL (fun _ => true) _ _ ((List.range n).map fun (i : Nat) => D.int (0 + (i : Int))) (some (.lsf (ns.map D.int)) :: none :: (List.replicate 6 none ++ [none])) []) _) _)) = _
  rw [hl, seq_nxE, ss_nilE, seq_nxE, e2, bodyO_rt]
  exact gc_pure (M := []) (J := N') rfl
end BH
end

section
set_option Elab.async false
set_option linter.all false
set_option maxRecDepth 100000
set_option maxHeartbeats 0
namespace BH
open PySem PySem.Spec L2
def fnl : List He.DefD := [dOf "is_whole" (tops 15), dOf "is_wide" (tops 16), dOf "is_word" (tops 17), dOf "is_right_world" (tops 18), dOf "is_right_rule" (tops 19), dOf "numbers_in" (tops 20), dOf "need_world" (tops 21), dOf "need_rule" (tops 22), dOf "with_client" (tops 24), dOf "ranked" (tops 25), dOf "events_at" (tops 26), dOf "asked_for" (tops 27), dOf "arrived" (tops 28), dOf "later" (tops 29), dOf "ticked" (tops 30), dOf "happened" (tops 31), dOf "step" (tops 32), dOf "_law_source" (tops 52), dOf "_law_pick" (tops 53), dOf "_law_chosen" (tops 54), dOf "_law_wide" (tops 55), dOf "_law_whole" (tops 56), dOf "_law_among" (tops 57), dOf "_law_good_terms" (tops 58), dOf "_wall" (tops 0), dOf "is_alone" (tops 34), dOf "comes" (tops 35), dOf "ways" (tops 36), dOf "harmful" (tops 37), dOf "harms_of" (tops 38), dOf "having" (tops 41), dOf "label" (tops 44), dOf "line_of" (tops 45), dOf "rule_in" (tops 46), dOf "rule_line" (tops 47), dOf "read_rule" (tops 48), dOf "_law_terms" (tops 59), dOf "_law_line" (tops 60), dOf "_law_told" (tops 61), dOf "_law_read" (tops 62), dOf "_law_reading" (tops 63), dOf "_law_bent" (tops 64), dOf "law" (tops 65)]
def fm0 : DefA := dOfA (.mem "Terms" "__init__") "__init__" "Terms.__init__" (mems 50 1) [.int 2, .int 2] [("origin", .str "asked"), ("lapsed", .str "no"), ("check", .str "no"), ("rest", .int 0)]
def fm1 : DefA := dOfA (.rc "Terms" "of" "classmethod") "of" "Terms.of" (mems 50 2) [] []
def fm2 : DefA := dOfA (.rc "Terms" "source" "property") "source" "Terms.source" (mems 50 3) [] []
def fml : List DefA := [fm0, fm1, fm2]
def whs : Whs := [(1000, .glo "Terms"), (87, .mem "Terms" "__init__"), (88, .rc "Terms" "of" "classmethod"), (89, .rc "Terms" "source" "property")]
theorem sc_is_whole : C8.scC n_is_whole ["value", "low", "high"] (L2.defScope (tops 15)) = true := by kernel_rfl
theorem sc_is_wide : C8.scC n_is_wide ["value", "size"] (L2.defScope (tops 16)) = true := by kernel_rfl
theorem sc_is_word : C8.scC n_is_word ["value", "words"] (L2.defScope (tops 17)) = true := by kernel_rfl
theorem sc_is_right_world : C8.scC n_is_right_world ["value"] (L2.defScope (tops 18)) = true := by kernel_rfl
theorem sc_is_right_rule : C8.scC n_is_right_rule ["value"] (L2.defScope (tops 19)) = true := by kernel_rfl
theorem sc_numbers_in : C8.scC n_numbers_in ["stand"] (L2.defScope (tops 20)) = true := by kernel_rfl
theorem sc_need_world : C8.scC n_need_world ["value"] (L2.defScope (tops 21)) = true := by kernel_rfl
theorem sc_need_rule : C8.scC n_need_rule ["value"] (L2.defScope (tops 22)) = true := by kernel_rfl
theorem sc_with_client : C8.scC n_with_client ["stand", "client", "value"] (L2.defScope (tops 24)) = true := by kernel_rfl
theorem sc_ranked : C8.scC n_ranked ["stand"] (L2.defScope (tops 25)) = true := by kernel_rfl
theorem sc_events_at : C8.scC n_events_at ["world", "stand"] (L2.defScope (tops 26)) = true := by kernel_rfl
theorem sc_asked_for : C8.scC n_asked_for ["rule", "stand", "client"] (L2.defScope (tops 27)) = true := by kernel_rfl
theorem sc_arrived : C8.scC n_arrived ["rule", "stand", "client"] (L2.defScope (tops 28)) = true := by kernel_rfl
theorem sc_later : C8.scC n_later ["rule", "client"] (L2.defScope (tops 29)) = true := by kernel_rfl
theorem sc_ticked : C8.scC n_ticked ["rule", "stand"] (L2.defScope (tops 30)) = true := by kernel_rfl
theorem sc_happened : C8.scC n_happened ["rule", "stand", "event"] (L2.defScope (tops 31)) = true := by kernel_rfl
theorem sc_step : C8.scC n_step ["rule", "stand", "event"] (L2.defScope (tops 32)) = true := by kernel_rfl
theorem sc__law_source : C8.scC n__law_source ["_law_script", "_law_k"] (L2.defScope (tops 52)) = true := by kernel_rfl
theorem sc__law_pick : C8.scC n__law_pick ["_law_source_here", "_law_many"] (L2.defScope (tops 53)) = true := by kernel_rfl
theorem sc__law_chosen : C8.scC n__law_chosen ["_law_source_here", "_law_things"] (L2.defScope (tops 54)) = true := by kernel_rfl
theorem sc__law_wide : C8.scC n__law_wide ["_law_value", "_law_low", "_law_high"] (L2.defScope (tops 55)) = true := by kernel_rfl
theorem sc__law_whole : C8.scC n__law_whole ["_law_value", "_law_low", "_law_high"] (L2.defScope (tops 56)) = true := by kernel_rfl
theorem sc__law_among : C8.scC n__law_among ["_law_value", "_law_some"] (L2.defScope (tops 57)) = true := by kernel_rfl
theorem sc__law_good_terms : C8.scC n__law_good_terms ["_law_value"] (L2.defScope (tops 58)) = true := by kernel_rfl
theorem sc__wall : C8.scC n__wall ["k"] (L2.defScope (tops 0)) = true := by kernel_rfl
theorem sc_is_alone : C8.scC n_is_alone ["stand"] (L2.defScope (tops 34)) = true := by kernel_rfl
theorem sc_comes : C8.scC n_comes ["harm", "stand", "event", "there", "word"] (L2.defScope (tops 35)) = true := by kernel_rfl
theorem sc_harms_of : C8.scC n_harms_of ["world", "rule"] (L2.defScope (tops 38)) = true := by kernel_rfl
theorem sc_having : C8.scC n_having ["rule", "at", "value"] (L2.defScope (tops 41)) = true := by kernel_rfl
theorem sc_label : C8.scC n_label ["name"] (L2.defScope (tops 44)) = true := by kernel_rfl
theorem sc_line_of : C8.scC n_line_of ["rule"] (L2.defScope (tops 45)) = true := by kernel_rfl
theorem sc_rule_in : C8.scC n_rule_in ["value"] (L2.defScope (tops 46)) = true := by kernel_rfl
theorem sc_rule_line : C8.scC n_rule_line ["rule"] (L2.defScope (tops 47)) = true := by kernel_rfl
theorem sc_read_rule : C8.scC n_read_rule ["value"] (L2.defScope (tops 48)) = true := by kernel_rfl
theorem sc_Terms___init__ : C8.scC n_Terms___init__ ["self", "keep", "trust", "origin", "lapsed", "check", "rest"] (L2.defScope (mems 50 1)) = true := by kernel_rfl
theorem sc_Terms_of : C8.scC n_Terms_of ["cls", "text"] (L2.defScope (mems 50 2)) = true := by kernel_rfl
theorem sc_Terms_source : C8.scC n_Terms_source ["self"] (L2.defScope (mems 50 3)) = true := by kernel_rfl
theorem sc__law_terms_k71 : C8.scC n__law_terms_k71 ["_law_source_here", "_law_most"] (L2.defScope (tops 59)) = true := by kernel_rfl
theorem sc__law_line : C8.scC n__law_line ["_law_terms_here"] (L2.defScope (tops 60)) = true := by kernel_rfl
theorem sc__law_told : C8.scC n__law_told ["_law_value"] (L2.defScope (tops 61)) = true := by kernel_rfl
theorem sc__law_read : C8.scC n__law_read ["_law_value"] (L2.defScope (tops 62)) = true := by kernel_rfl
theorem sc__law_reading : C8.scC n__law_reading ["_law_value"] (L2.defScope (tops 63)) = true := by kernel_rfl
theorem sc__law_bent : C8.scC n__law_bent ["_law_source_here", "_law_text"] (L2.defScope (tops 64)) = true := by kernel_rfl
theorem sc_law_k71 : C8.scC n_law_k71 ["_law_script"] (L2.defScope (tops 65)) = true := by kernel_rfl
theorem bn_is_whole {K : PySem.W.Frag} {f : Addr} {fd : FuncData} (F : L2.Fun K "is_whole" "is_whole" (tops 15) f fd) : Binds K fd ["value", "low", "high"] [] := F.binds fun _ _ _ _ _ _ us hl => match us, hl with | [_, _, _], _ => rfl
theorem bn_is_wide {K : PySem.W.Frag} {f : Addr} {fd : FuncData} (F : L2.Fun K "is_wide" "is_wide" (tops 16) f fd) : Binds K fd ["value", "size"] [] := F.binds fun _ _ _ _ _ _ us hl => match us, hl with | [_, _], _ => rfl
theorem bn_is_word {K : PySem.W.Frag} {f : Addr} {fd : FuncData} (F : L2.Fun K "is_word" "is_word" (tops 17) f fd) : Binds K fd ["value", "words"] [] := F.binds fun _ _ _ _ _ _ us hl => match us, hl with | [_, _], _ => rfl
theorem bn_is_right_world {K : PySem.W.Frag} {f : Addr} {fd : FuncData} (F : L2.Fun K "is_right_world" "is_right_world" (tops 18) f fd) : Binds K fd ["value"] [] := F.binds fun _ _ _ _ _ _ us hl => match us, hl with | [_], _ => rfl
theorem bn_is_right_rule {K : PySem.W.Frag} {f : Addr} {fd : FuncData} (F : L2.Fun K "is_right_rule" "is_right_rule" (tops 19) f fd) : Binds K fd ["value"] [] := F.binds fun _ _ _ _ _ _ us hl => match us, hl with | [_], _ => rfl
theorem bn_numbers_in {K : PySem.W.Frag} {f : Addr} {fd : FuncData} (F : L2.Fun K "numbers_in" "numbers_in" (tops 20) f fd) : Binds K fd ["stand"] [] := F.binds fun _ _ _ _ _ _ us hl => match us, hl with | [_], _ => rfl
theorem bn_need_world {K : PySem.W.Frag} {f : Addr} {fd : FuncData} (F : L2.Fun K "need_world" "need_world" (tops 21) f fd) : Binds K fd ["value"] [] := F.binds fun _ _ _ _ _ _ us hl => match us, hl with | [_], _ => rfl
theorem bn_need_rule {K : PySem.W.Frag} {f : Addr} {fd : FuncData} (F : L2.Fun K "need_rule" "need_rule" (tops 22) f fd) : Binds K fd ["value"] [] := F.binds fun _ _ _ _ _ _ us hl => match us, hl with | [_], _ => rfl
theorem bn_with_client {K : PySem.W.Frag} {f : Addr} {fd : FuncData} (F : L2.Fun K "with_client" "with_client" (tops 24) f fd) : Binds K fd ["stand", "client", "value"] [] := F.binds fun _ _ _ _ _ _ us hl => match us, hl with | [_, _, _], _ => rfl
theorem bn_ranked {K : PySem.W.Frag} {f : Addr} {fd : FuncData} (F : L2.Fun K "ranked" "ranked" (tops 25) f fd) : Binds K fd ["stand"] [] := F.binds fun _ _ _ _ _ _ us hl => match us, hl with | [_], _ => rfl
theorem bn_events_at {K : PySem.W.Frag} {f : Addr} {fd : FuncData} (F : L2.Fun K "events_at" "events_at" (tops 26) f fd) : Binds K fd ["world", "stand"] [] := F.binds fun _ _ _ _ _ _ us hl => match us, hl with | [_, _], _ => rfl
theorem bn_asked_for {K : PySem.W.Frag} {f : Addr} {fd : FuncData} (F : L2.Fun K "asked_for" "asked_for" (tops 27) f fd) : Binds K fd ["rule", "stand", "client"] [] := F.binds fun _ _ _ _ _ _ us hl => match us, hl with | [_, _, _], _ => rfl
theorem bn_arrived {K : PySem.W.Frag} {f : Addr} {fd : FuncData} (F : L2.Fun K "arrived" "arrived" (tops 28) f fd) : Binds K fd ["rule", "stand", "client"] [] := F.binds fun _ _ _ _ _ _ us hl => match us, hl with | [_, _, _], _ => rfl
theorem bn_later {K : PySem.W.Frag} {f : Addr} {fd : FuncData} (F : L2.Fun K "later" "later" (tops 29) f fd) : Binds K fd ["rule", "client"] [] := F.binds fun _ _ _ _ _ _ us hl => match us, hl with | [_, _], _ => rfl
theorem bn_ticked {K : PySem.W.Frag} {f : Addr} {fd : FuncData} (F : L2.Fun K "ticked" "ticked" (tops 30) f fd) : Binds K fd ["rule", "stand"] [] := F.binds fun _ _ _ _ _ _ us hl => match us, hl with | [_, _], _ => rfl
theorem bn_happened {K : PySem.W.Frag} {f : Addr} {fd : FuncData} (F : L2.Fun K "happened" "happened" (tops 31) f fd) : Binds K fd ["rule", "stand", "event"] [] := F.binds fun _ _ _ _ _ _ us hl => match us, hl with | [_, _, _], _ => rfl
theorem bn_step {K : PySem.W.Frag} {f : Addr} {fd : FuncData} (F : L2.Fun K "step" "step" (tops 32) f fd) : Binds K fd ["rule", "stand", "event"] [] := F.binds fun _ _ _ _ _ _ us hl => match us, hl with | [_, _, _], _ => rfl
theorem bn__law_source {K : PySem.W.Frag} {f : Addr} {fd : FuncData} (F : L2.Fun K "_law_source" "_law_source" (tops 52) f fd) : Binds K fd ["_law_script", "_law_k"] [] := F.binds fun _ _ _ _ _ _ us hl => match us, hl with | [_, _], _ => rfl
theorem bn__law_pick {K : PySem.W.Frag} {f : Addr} {fd : FuncData} (F : L2.Fun K "_law_pick" "_law_pick" (tops 53) f fd) : Binds K fd ["_law_source_here", "_law_many"] [] := F.binds fun _ _ _ _ _ _ us hl => match us, hl with | [_, _], _ => rfl
theorem bn__law_chosen {K : PySem.W.Frag} {f : Addr} {fd : FuncData} (F : L2.Fun K "_law_chosen" "_law_chosen" (tops 54) f fd) : Binds K fd ["_law_source_here", "_law_things"] [] := F.binds fun _ _ _ _ _ _ us hl => match us, hl with | [_, _], _ => rfl
theorem bn__law_wide {K : PySem.W.Frag} {f : Addr} {fd : FuncData} (F : L2.Fun K "_law_wide" "_law_wide" (tops 55) f fd) : Binds K fd ["_law_value", "_law_low", "_law_high"] [] := F.binds fun _ _ _ _ _ _ us hl => match us, hl with | [_, _, _], _ => rfl
theorem bn__law_whole {K : PySem.W.Frag} {f : Addr} {fd : FuncData} (F : L2.Fun K "_law_whole" "_law_whole" (tops 56) f fd) : Binds K fd ["_law_value", "_law_low", "_law_high"] [] := F.binds fun _ _ _ _ _ _ us hl => match us, hl with | [_, _, _], _ => rfl
theorem bn__law_among {K : PySem.W.Frag} {f : Addr} {fd : FuncData} (F : L2.Fun K "_law_among" "_law_among" (tops 57) f fd) : Binds K fd ["_law_value", "_law_some"] [] := F.binds fun _ _ _ _ _ _ us hl => match us, hl with | [_, _], _ => rfl
theorem bn__law_good_terms {K : PySem.W.Frag} {f : Addr} {fd : FuncData} (F : L2.Fun K "_law_good_terms" "_law_good_terms" (tops 58) f fd) : Binds K fd ["_law_value"] [] := F.binds fun _ _ _ _ _ _ us hl => match us, hl with | [_], _ => rfl
theorem bn__wall {K : PySem.W.Frag} {f : Addr} {fd : FuncData} (F : L2.Fun K "_wall" "_wall" (tops 0) f fd) : Binds K fd ["k"] [] := F.binds fun _ _ _ _ _ _ us hl => match us, hl with | [_], _ => rfl
theorem bn_is_alone {K : PySem.W.Frag} {f : Addr} {fd : FuncData} (F : L2.Fun K "is_alone" "is_alone" (tops 34) f fd) : Binds K fd ["stand"] [] := F.binds fun _ _ _ _ _ _ us hl => match us, hl with | [_], _ => rfl
theorem bn_comes {K : PySem.W.Frag} {f : Addr} {fd : FuncData} (F : L2.Fun K "comes" "comes" (tops 35) f fd) : Binds K fd ["harm", "stand", "event", "there", "word"] [] := F.binds fun _ _ _ _ _ _ us hl => match us, hl with | [_, _, _, _, _], _ => rfl
theorem bn_ways {K : PySem.W.Frag} {f : Addr} {fd : FuncData} (F : L2.Fun K "ways" "ways" (tops 36) f fd) : Binds K fd ["world", "rule"] [] := F.binds fun _ _ _ _ _ _ us hl => match us, hl with | [_, _], _ => rfl
theorem bn_harmful {K : PySem.W.Frag} {f : Addr} {fd : FuncData} (F : L2.Fun K "harmful" "harmful" (tops 37) f fd) : Binds K fd ["world", "rule"] [] := F.binds fun _ _ _ _ _ _ us hl => match us, hl with | [_, _], _ => rfl
theorem bn_harms_of {K : PySem.W.Frag} {f : Addr} {fd : FuncData} (F : L2.Fun K "harms_of" "harms_of" (tops 38) f fd) : Binds K fd ["world", "rule"] [] := F.binds fun _ _ _ _ _ _ us hl => match us, hl with | [_, _], _ => rfl
theorem bn_having {K : PySem.W.Frag} {f : Addr} {fd : FuncData} (F : L2.Fun K "having" "having" (tops 41) f fd) : Binds K fd ["rule", "at", "value"] [] := F.binds fun _ _ _ _ _ _ us hl => match us, hl with | [_, _, _], _ => rfl
theorem bn_label {K : PySem.W.Frag} {f : Addr} {fd : FuncData} (F : L2.Fun K "label" "label" (tops 44) f fd) : Binds K fd ["name"] [] := F.binds fun _ _ _ _ _ _ us hl => match us, hl with | [_], _ => rfl
theorem bn_line_of {K : PySem.W.Frag} {f : Addr} {fd : FuncData} (F : L2.Fun K "line_of" "line_of" (tops 45) f fd) : Binds K fd ["rule"] [] := F.binds fun _ _ _ _ _ _ us hl => match us, hl with | [_], _ => rfl
theorem bn_rule_in {K : PySem.W.Frag} {f : Addr} {fd : FuncData} (F : L2.Fun K "rule_in" "rule_in" (tops 46) f fd) : Binds K fd ["value"] [] := F.binds fun _ _ _ _ _ _ us hl => match us, hl with | [_], _ => rfl
theorem bn_rule_line {K : PySem.W.Frag} {f : Addr} {fd : FuncData} (F : L2.Fun K "rule_line" "rule_line" (tops 47) f fd) : Binds K fd ["rule"] [] := F.binds fun _ _ _ _ _ _ us hl => match us, hl with | [_], _ => rfl
theorem bn_read_rule {K : PySem.W.Frag} {f : Addr} {fd : FuncData} (F : L2.Fun K "read_rule" "read_rule" (tops 48) f fd) : Binds K fd ["value"] [] := F.binds fun _ _ _ _ _ _ us hl => match us, hl with | [_], _ => rfl
theorem bn__law_terms {K : PySem.W.Frag} {f : Addr} {fd : FuncData} (F : L2.Fun K "_law_terms" "_law_terms" (tops 59) f fd) : Binds K fd ["_law_source_here", "_law_most"] [] := F.binds fun _ _ _ _ _ _ us hl => match us, hl with | [_, _], _ => rfl
theorem bn__law_line {K : PySem.W.Frag} {f : Addr} {fd : FuncData} (F : L2.Fun K "_law_line" "_law_line" (tops 60) f fd) : Binds K fd ["_law_terms_here"] [] := F.binds fun _ _ _ _ _ _ us hl => match us, hl with | [_], _ => rfl
theorem bn__law_told {K : PySem.W.Frag} {f : Addr} {fd : FuncData} (F : L2.Fun K "_law_told" "_law_told" (tops 61) f fd) : Binds K fd ["_law_value"] [] := F.binds fun _ _ _ _ _ _ us hl => match us, hl with | [_], _ => rfl
theorem bn__law_read {K : PySem.W.Frag} {f : Addr} {fd : FuncData} (F : L2.Fun K "_law_read" "_law_read" (tops 62) f fd) : Binds K fd ["_law_value"] [] := F.binds fun _ _ _ _ _ _ us hl => match us, hl with | [_], _ => rfl
theorem bn__law_reading {K : PySem.W.Frag} {f : Addr} {fd : FuncData} (F : L2.Fun K "_law_reading" "_law_reading" (tops 63) f fd) : Binds K fd ["_law_value"] [] := F.binds fun _ _ _ _ _ _ us hl => match us, hl with | [_], _ => rfl
theorem bn__law_bent {K : PySem.W.Frag} {f : Addr} {fd : FuncData} (F : L2.Fun K "_law_bent" "_law_bent" (tops 64) f fd) : Binds K fd ["_law_source_here", "_law_text"] [] := F.binds fun _ _ _ _ _ _ us hl => match us, hl with | [_, _], _ => rfl
theorem bn_law {K : PySem.W.Frag} {f : Addr} {fd : FuncData} (F : L2.Fun K "law" "law" (tops 65) f fd) : Binds K fd ["_law_script"] [] := F.binds fun _ _ _ _ _ _ us hl => match us, hl with | [_], _ => rfl
abbrev Rw : PySem.W.OpenRow := PySem.W.OpenLaw.row PySem.Challenge.rw_believedheld_k71_whole_rules_written_and
abbrev hk : PySem.W.Hook := hookB 5 fnl fml gA whs supx
def ob (s : PySem.W.SharedT) : AlB := obsB 5 fnl fml gA whs supx (HandSHeadRun.getT s)
theorem ob_eq (s : PySem.W.SharedT) : ob s = hk.obs s.abs := obsB_eq (HandSHeadRun.getT_eq s)
def loose0 : List Str := ["_wall", "BeliefError", "InvalidWorld", "InvalidRule", "InvalidPart", "InvalidNumber", "InvalidLine", "NAMES", "HARMS", "CLIENTS", "FREE", "FAR", "FIRST", "is_whole", "is_wide", "is_word", "is_right_world", "is_right_rule", "numbers_in", "need_world", "need_rule", "with_client", "ranked", "events_at", "asked_for", "arrived", "later", "ticked", "happened", "step"]
def loose1 : List Str := ["is_alone", "comes", "ways", "harmful", "harms_of", "CHOICES", "having", "having_changes", "label", "line_of", "rule_in", "rule_line", "read_rule", "Terms", "_law_source", "_law_pick", "_law_chosen", "_law_wide", "_law_whole", "_law_among", "_law_good_terms", "_law_terms", "_law_line", "_law_told", "_law_read", "_law_reading", "_law_bent"]
def loose : List Str := loose0 ++ loose1
theorem runs (w : World) : HandSHeadRun.RunEq Rw (PySem.W.view Rw.prog [65]) hk ob 20000 loose w := by
  intro os
  kernel_rfl
theorem uniq : uniqB gA whs = true := by decide +kernel
theorem facts {P : Program} {w : World} {K : PySem.W.Frag} {h : Heap} {mg : Str → Option Value} {f : Addr} (X : K.In h) (G : h.Ns mainGlobals mg) (hfa : mg ("law" : Str) = some (.ref f)) (c : He.SaysD [] fnl K) (o : okB gA whs supx K = true) (cm : SaysA fml K) :
    ∃ fd : FuncData, (∀ (s : Shared) (v : Value), BindsTo s fd ⟨[v], []⟩ [("_law_script", v)]) ∧ ∀ base : Heap, FnOk P w K mg base CX0 49 f fd ["_law_script"] (spL (pmOf gA whs K) (run 96)) := by
  have g0 := glo_fn X G uniq o (x := "is_whole") (i := 0) (a := 3) (by decide +kernel)
  obtain ⟨fd0, D0⟩ := fun_of c 0 (x := "is_whole") (st := tops 15) rfl g0.2
  have g1 := glo_fn X G uniq o (x := "is_wide") (i := 1) (a := 2) (by decide +kernel)
  obtain ⟨fd1, D1⟩ := fun_of c 1 (x := "is_wide") (st := tops 16) rfl g1.2
  have g2 := glo_fn X G uniq o (x := "is_word") (i := 2) (a := 2) (by decide +kernel)
  obtain ⟨fd2, D2⟩ := fun_of c 2 (x := "is_word") (st := tops 17) rfl g2.2
  have g3 := glo_fn X G uniq o (x := "is_right_world") (i := 3) (a := 1) (by decide +kernel)
  obtain ⟨fd3, D3⟩ := fun_of c 3 (x := "is_right_world") (st := tops 18) rfl g3.2
  have g4 := glo_fn X G uniq o (x := "is_right_rule") (i := 4) (a := 1) (by decide +kernel)
  obtain ⟨fd4, D4⟩ := fun_of c 4 (x := "is_right_rule") (st := tops 19) rfl g4.2
  have g5 := glo_fn X G uniq o (x := "numbers_in") (i := 6) (a := 1) (by decide +kernel)
  obtain ⟨fd5, D5⟩ := fun_of c 5 (x := "numbers_in") (st := tops 20) rfl g5.2
  have g6 := glo_fn X G uniq o (x := "need_world") (i := 7) (a := 1) (by decide +kernel)
  obtain ⟨fd6, D6⟩ := fun_of c 6 (x := "need_world") (st := tops 21) rfl g6.2
  have g7 := glo_fn X G uniq o (x := "need_rule") (i := 8) (a := 1) (by decide +kernel)
  obtain ⟨fd7, D7⟩ := fun_of c 7 (x := "need_rule") (st := tops 22) rfl g7.2
  have g8 := glo_fn X G uniq o (x := "with_client") (i := 9) (a := 3) (by decide +kernel)
  obtain ⟨fd8, D8⟩ := fun_of c 8 (x := "with_client") (st := tops 24) rfl g8.2
  have g9 := glo_fn X G uniq o (x := "ranked") (i := 10) (a := 1) (by decide +kernel)
  obtain ⟨fd9, D9⟩ := fun_of c 9 (x := "ranked") (st := tops 25) rfl g9.2
  have g10 := glo_fn X G uniq o (x := "events_at") (i := 11) (a := 2) (by decide +kernel)
  obtain ⟨fd10, D10⟩ := fun_of c 10 (x := "events_at") (st := tops 26) rfl g10.2
  have g11 := glo_fn X G uniq o (x := "asked_for") (i := 12) (a := 3) (by decide +kernel)
  obtain ⟨fd11, D11⟩ := fun_of c 11 (x := "asked_for") (st := tops 27) rfl g11.2
  have g12 := glo_fn X G uniq o (x := "arrived") (i := 13) (a := 3) (by decide +kernel)
  obtain ⟨fd12, D12⟩ := fun_of c 12 (x := "arrived") (st := tops 28) rfl g12.2
  have g13 := glo_fn X G uniq o (x := "later") (i := 14) (a := 2) (by decide +kernel)
  obtain ⟨fd13, D13⟩ := fun_of c 13 (x := "later") (st := tops 29) rfl g13.2
  have g14 := glo_fn X G uniq o (x := "ticked") (i := 15) (a := 2) (by decide +kernel)
  obtain ⟨fd14, D14⟩ := fun_of c 14 (x := "ticked") (st := tops 30) rfl g14.2
  have g15 := glo_fn X G uniq o (x := "happened") (i := 16) (a := 3) (by decide +kernel)
  obtain ⟨fd15, D15⟩ := fun_of c 15 (x := "happened") (st := tops 31) rfl g15.2
  have g16 := glo_fn X G uniq o (x := "step") (i := 17) (a := 3) (by decide +kernel)
  obtain ⟨fd16, D16⟩ := fun_of c 16 (x := "step") (st := tops 32) rfl g16.2
  have g17 := glo_fn X G uniq o (x := "_law_source") (i := 24) (a := 2) (by decide +kernel)
  obtain ⟨fd17, D17⟩ := fun_of c 17 (x := "_law_source") (st := tops 52) rfl g17.2
  have g18 := glo_fn X G uniq o (x := "_law_pick") (i := 25) (a := 2) (by decide +kernel)
  obtain ⟨fd18, D18⟩ := fun_of c 18 (x := "_law_pick") (st := tops 53) rfl g18.2
  have g19 := glo_fn X G uniq o (x := "_law_chosen") (i := 26) (a := 2) (by decide +kernel)
  obtain ⟨fd19, D19⟩ := fun_of c 19 (x := "_law_chosen") (st := tops 54) rfl g19.2
  have g20 := glo_fn X G uniq o (x := "_law_wide") (i := 54) (a := 3) (by decide +kernel)
  obtain ⟨fd20, D20⟩ := fun_of c 20 (x := "_law_wide") (st := tops 55) rfl g20.2
  have g21 := glo_fn X G uniq o (x := "_law_whole") (i := 65) (a := 3) (by decide +kernel)
  obtain ⟨fd21, D21⟩ := fun_of c 21 (x := "_law_whole") (st := tops 56) rfl g21.2
  have g22 := glo_fn X G uniq o (x := "_law_among") (i := 66) (a := 2) (by decide +kernel)
  obtain ⟨fd22, D22⟩ := fun_of c 22 (x := "_law_among") (st := tops 57) rfl g22.2
  have g23 := glo_fn X G uniq o (x := "_law_good_terms") (i := 68) (a := 1) (by decide +kernel)
  obtain ⟨fd23, D23⟩ := fun_of c 23 (x := "_law_good_terms") (st := tops 58) rfl g23.2
  have g24 := glo_fn X G uniq o (x := "_wall") (i := 75) (a := 1) (by decide +kernel)
  obtain ⟨fd24, D24⟩ := fun_of c 24 (x := "_wall") (st := tops 0) rfl g24.2
  have g25 := glo_fn X G uniq o (x := "is_alone") (i := 76) (a := 1) (by decide +kernel)
  obtain ⟨fd25, D25⟩ := fun_of c 25 (x := "is_alone") (st := tops 34) rfl g25.2
  have g26 := glo_fn X G uniq o (x := "comes") (i := 77) (a := 5) (by decide +kernel)
  obtain ⟨fd26, D26⟩ := fun_of c 26 (x := "comes") (st := tops 35) rfl g26.2
  have g27 := glo_fn X G uniq o (x := "ways") (i := 78) (a := 2) (by decide +kernel)
  obtain ⟨fd27, D27⟩ := fun_of c 27 (x := "ways") (st := tops 36) rfl g27.2
  have g28 := glo_fn X G uniq o (x := "harmful") (i := 79) (a := 2) (by decide +kernel)
  obtain ⟨fd28, D28⟩ := fun_of c 28 (x := "harmful") (st := tops 37) rfl g28.2
  have g29 := glo_fn X G uniq o (x := "harms_of") (i := 80) (a := 2) (by decide +kernel)
  obtain ⟨fd29, D29⟩ := fun_of c 29 (x := "harms_of") (st := tops 38) rfl g29.2
  have g30 := glo_fn X G uniq o (x := "having") (i := 81) (a := 3) (by decide +kernel)
  obtain ⟨fd30, D30⟩ := fun_of c 30 (x := "having") (st := tops 41) rfl g30.2
  have g31 := glo_fn X G uniq o (x := "label") (i := 82) (a := 1) (by decide +kernel)
  obtain ⟨fd31, D31⟩ := fun_of c 31 (x := "label") (st := tops 44) rfl g31.2
  have g32 := glo_fn X G uniq o (x := "line_of") (i := 83) (a := 1) (by decide +kernel)
  obtain ⟨fd32, D32⟩ := fun_of c 32 (x := "line_of") (st := tops 45) rfl g32.2
  have g33 := glo_fn X G uniq o (x := "rule_in") (i := 84) (a := 1) (by decide +kernel)
  obtain ⟨fd33, D33⟩ := fun_of c 33 (x := "rule_in") (st := tops 46) rfl g33.2
  have g34 := glo_fn X G uniq o (x := "rule_line") (i := 85) (a := 1) (by decide +kernel)
  obtain ⟨fd34, D34⟩ := fun_of c 34 (x := "rule_line") (st := tops 47) rfl g34.2
  have g35 := glo_fn X G uniq o (x := "read_rule") (i := 86) (a := 1) (by decide +kernel)
  obtain ⟨fd35, D35⟩ := fun_of c 35 (x := "read_rule") (st := tops 48) rfl g35.2
  have e36 : (pmOf gA whs K).fa 87 = fm0.wh.ad K := fa_mem rfl
  obtain ⟨fd36, D36⟩ := cm.def_ 0 (d := fm0) rfl e36
  have e37 : (pmOf gA whs K).fa 88 = fm1.wh.ad K := fa_mem rfl
  obtain ⟨fd37, D37⟩ := cm.def_ 1 (d := fm1) rfl e37
  have e38 : (pmOf gA whs K).fa 89 = fm2.wh.ad K := fa_mem rfl
  obtain ⟨fd38, D38⟩ := cm.def_ 2 (d := fm2) rfl e38
  have g39 := glo_fn X G uniq o (x := "_law_terms") (i := 90) (a := 2) (by decide +kernel)
  obtain ⟨fd39, D39⟩ := fun_of c 36 (x := "_law_terms") (st := tops 59) rfl g39.2
  have g40 := glo_fn X G uniq o (x := "_law_line") (i := 91) (a := 1) (by decide +kernel)
  obtain ⟨fd40, D40⟩ := fun_of c 37 (x := "_law_line") (st := tops 60) rfl g40.2
  have g41 := glo_fn X G uniq o (x := "_law_told") (i := 92) (a := 1) (by decide +kernel)
  obtain ⟨fd41, D41⟩ := fun_of c 38 (x := "_law_told") (st := tops 61) rfl g41.2
  have g42 := glo_fn X G uniq o (x := "_law_read") (i := 93) (a := 1) (by decide +kernel)
  obtain ⟨fd42, D42⟩ := fun_of c 39 (x := "_law_read") (st := tops 62) rfl g42.2
  have g43 := glo_fn X G uniq o (x := "_law_reading") (i := 94) (a := 1) (by decide +kernel)
  obtain ⟨fd43, D43⟩ := fun_of c 40 (x := "_law_reading") (st := tops 63) rfl g43.2
  have g44 := glo_fn X G uniq o (x := "_law_bent") (i := 95) (a := 2) (by decide +kernel)
  obtain ⟨fd44, D44⟩ := fun_of c 41 (x := "_law_bent") (st := tops 64) rfl g44.2
  have g45 := glo_fn X G uniq o (x := "law") (i := 96) (a := 1) (by decide +kernel)
  obtain ⟨fd45, D45⟩ := fun_of c 42 (x := "law") (st := tops 65) rfl g45.2
  have e := hfa.symm.trans g45.1
  cases e
  refine ⟨fd45, fun s v => fun_bindsA (ps := ["_law_script"]) D45 (fun _ _ _ _ _ _ us hl => match us, hl with | [_], _ => rfl) s [v] rfl, fun base => ?_⟩
  have F0 : FitM (gK 0 0 0 0) (pmOf gA whs K) (evb tb supx 0) supx 0 P w mg base := fitm0 X G uniq o
  have F1 : FitM (gK 1 0 0 0) (pmOf gA whs K) (evb tb supx 1) supx 1 P w mg base := F0.step (b := 0) (i := 0) (b' := 1) (by decide +kernel) (by decide) (by decide) g0.1 D0 (bn_is_whole D0) (C8.fnScope_by sc_is_whole) cd_is_whole t_is_whole
  have F2 : FitM (gK 2 0 0 0) (pmOf gA whs K) (evb tb supx 2) supx 2 P w mg base := F1.step (b := 1) (i := 1) (b' := 2) (by decide +kernel) (by decide) (by decide) g1.1 D1 (bn_is_wide D1) (C8.fnScope_by sc_is_wide) cd_is_wide t_is_wide
  have F3 : FitM (gK 3 0 0 0) (pmOf gA whs K) (evb tb supx 3) supx 3 P w mg base := F2.step (b := 2) (i := 2) (b' := 3) (by decide +kernel) (by decide) (by decide) g2.1 D2 (bn_is_word D2) (C8.fnScope_by sc_is_word) cd_is_word t_is_word
  have F4 : FitM (gK 4 0 0 0) (pmOf gA whs K) (evb tb supx 4) supx 4 P w mg base := F3.step (b := 3) (i := 3) (b' := 4) (by decide +kernel) (by decide) (by decide) g3.1 D3 (bn_is_right_world D3) (C8.fnScope_by sc_is_right_world) cd_is_right_world t_is_right_world
  have F5 : FitM (gK 5 0 0 0) (pmOf gA whs K) (evb tb supx 5) supx 5 P w mg base := F4.step (b := 4) (i := 4) (b' := 5) (by decide +kernel) (by decide) (by decide) g4.1 D4 (bn_is_right_rule D4) (C8.fnScope_by sc_is_right_rule) cd_is_right_rule t_is_right_rule
  have F6 : FitM (gK 6 0 0 0) (pmOf gA whs K) (evb tb supx 7) supx 6 P w mg base := F5.step (b := 5) (i := 6) (b' := 7) (by decide +kernel) (by decide) (by decide) g5.1 D5 (bn_numbers_in D5) (C8.fnScope_by sc_numbers_in) cd_numbers_in t_numbers_in
  have F7 : FitM (gK 7 0 0 0) (pmOf gA whs K) (evb tb supx 8) supx 7 P w mg base := F6.step (b := 7) (i := 7) (b' := 8) (by decide +kernel) (by decide) (by decide) g6.1 D6 (bn_need_world D6) (C8.fnScope_by sc_need_world) cd_need_world t_need_world
  have F8 : FitM (gK 8 0 0 0) (pmOf gA whs K) (evb tb supx 9) supx 8 P w mg base := F7.step (b := 8) (i := 8) (b' := 9) (by decide +kernel) (by decide) (by decide) g7.1 D7 (bn_need_rule D7) (C8.fnScope_by sc_need_rule) cd_need_rule t_need_rule
  have F9 : FitM (gK 9 0 0 0) (pmOf gA whs K) (evb tb supx 10) supx 9 P w mg base := F8.step (b := 9) (i := 9) (b' := 10) (by decide +kernel) (by decide) (by decide) g8.1 D8 (bn_with_client D8) (C8.fnScope_by sc_with_client) cd_with_client t_with_client
  have F10 : FitM (gK 10 0 0 0) (pmOf gA whs K) (evb tb supx 11) supx 10 P w mg base := F9.step (b := 10) (i := 10) (b' := 11) (by decide +kernel) (by decide) (by decide) g9.1 D9 (bn_ranked D9) (C8.fnScope_by sc_ranked) cd_ranked t_ranked
  have F11 : FitM (gK 11 0 0 0) (pmOf gA whs K) (evb tb supx 12) supx 11 P w mg base := F10.step (b := 11) (i := 11) (b' := 12) (by decide +kernel) (by decide) (by decide) g10.1 D10 (bn_events_at D10) (C8.fnScope_by sc_events_at) cd_events_at t_events_at
  have F12 : FitM (gK 12 0 0 0) (pmOf gA whs K) (evb tb supx 13) supx 12 P w mg base := F11.step (b := 12) (i := 12) (b' := 13) (by decide +kernel) (by decide) (by decide) g11.1 D11 (bn_asked_for D11) (C8.fnScope_by sc_asked_for) cd_asked_for t_asked_for
  have F13 : FitM (gK 13 0 0 0) (pmOf gA whs K) (evb tb supx 14) supx 13 P w mg base := F12.step (b := 13) (i := 13) (b' := 14) (by decide +kernel) (by decide) (by decide) g12.1 D12 (bn_arrived D12) (C8.fnScope_by sc_arrived) cd_arrived t_arrived
  have F14 : FitM (gK 14 0 0 0) (pmOf gA whs K) (evb tb supx 15) supx 14 P w mg base := F13.step (b := 14) (i := 14) (b' := 15) (by decide +kernel) (by decide) (by decide) g13.1 D13 (bn_later D13) (C8.fnScope_by sc_later) cd_later t_later
  have F15 : FitM (gK 15 0 0 0) (pmOf gA whs K) (evb tb supx 16) supx 15 P w mg base := F14.step (b := 15) (i := 15) (b' := 16) (by decide +kernel) (by decide) (by decide) g14.1 D14 (bn_ticked D14) (C8.fnScope_by sc_ticked) cd_ticked t_ticked
  have F16 : FitM (gK 16 0 0 0) (pmOf gA whs K) (evb tb supx 17) supx 16 P w mg base := F15.step (b := 16) (i := 16) (b' := 17) (by decide +kernel) (by decide) (by decide) g15.1 D15 (bn_happened D15) (C8.fnScope_by sc_happened) cd_happened t_happened
  have F17 : FitM (gK 17 0 0 0) (pmOf gA whs K) (evb tb supx 18) supx 17 P w mg base := F16.step (b := 17) (i := 17) (b' := 18) (by decide +kernel) (by decide) (by decide) g16.1 D16 (bn_step D16) (C8.fnScope_by sc_step) cd_step t_step
  have F18 : FitM (gK 18 0 0 0) (pmOf gA whs K) (evb tb supx 25) supx 18 P w mg base := F17.step (b := 18) (i := 24) (b' := 25) (by decide +kernel) (by decide) (by decide) g17.1 D17 (bn__law_source D17) (C8.fnScope_by sc__law_source) cd__law_source t__law_source
  have F19 : FitM (gK 19 0 0 0) (pmOf gA whs K) (evb tb supx 26) supx 19 P w mg base := F18.step (b := 25) (i := 25) (b' := 26) (by decide +kernel) (by decide) (by decide) g18.1 D18 (bn__law_pick D18) (C8.fnScope_by sc__law_pick) cd__law_pick t__law_pick
  have F20 : FitM (gK 20 0 0 0) (pmOf gA whs K) (evb tb supx 27) supx 20 P w mg base := F19.step (b := 26) (i := 26) (b' := 27) (by decide +kernel) (by decide) (by decide) g19.1 D19 (bn__law_chosen D19) (C8.fnScope_by sc__law_chosen) cd__law_chosen t__law_chosen
  have F21 : FitM (gK 21 0 0 0) (pmOf gA whs K) (evb tb supx 55) supx 21 P w mg base := F20.step (b := 27) (i := 54) (b' := 55) (by decide +kernel) (by decide) (by decide) g20.1 D20 (bn__law_wide D20) (C8.fnScope_by sc__law_wide) cd__law_wide t__law_wide
  have F22 : FitM (gK 22 0 0 0) (pmOf gA whs K) (evb tb supx 66) supx 22 P w mg base := F21.step (b := 55) (i := 65) (b' := 66) (by decide +kernel) (by decide) (by decide) g21.1 D21 (bn__law_whole D21) (C8.fnScope_by sc__law_whole) cd__law_whole t__law_whole
  have F23 : FitM (gK 23 0 0 0) (pmOf gA whs K) (evb tb supx 67) supx 23 P w mg base := F22.step (b := 66) (i := 66) (b' := 67) (by decide +kernel) (by decide) (by decide) g22.1 D22 (bn__law_among D22) (C8.fnScope_by sc__law_among) cd__law_among t__law_among
  have F24 : FitM (gK 24 0 0 0) (pmOf gA whs K) (evb tb supx 69) supx 24 P w mg base := F23.step (b := 67) (i := 68) (b' := 69) (by decide +kernel) (by decide) (by decide) g23.1 D23 (bn__law_good_terms D23) (C8.fnScope_by sc__law_good_terms) cd__law_good_terms t__law_good_terms
  have F25 : FitM (gK 25 0 0 0) (pmOf gA whs K) (evb tb supx 76) supx 25 P w mg base := F24.step (b := 69) (i := 75) (b' := 76) (by decide +kernel) (by decide) (by decide) g24.1 D24 (bn__wall D24) (C8.fnScope_by sc__wall) cd__wall t__wall
  have F26 : FitM (gK 26 0 0 0) (pmOf gA whs K) (evb tb supx 77) supx 26 P w mg base := F25.step (b := 76) (i := 76) (b' := 77) (by decide +kernel) (by decide) (by decide) g25.1 D25 (bn_is_alone D25) (C8.fnScope_by sc_is_alone) cd_is_alone t_is_alone
  have F27 : FitM (gK 27 0 0 0) (pmOf gA whs K) (evb tb supx 78) supx 27 P w mg base := F26.step (b := 77) (i := 77) (b' := 78) (by decide +kernel) (by decide) (by decide) g26.1 D26 (bn_comes D26) (C8.fnScope_by sc_comes) cd_comes t_comes
  have F28 : FitM (gK 28 0 0 0) (pmOf gA whs K) (evb tb supx 79) supx 28 P w mg base := F27.void (b := 78) (i := 78) (b' := 79) (by decide +kernel) (by decide) (by decide) g27.1 D27 (bn_ways D27) rfl
  have F29 : FitM (gK 29 0 0 0) (pmOf gA whs K) (evb tb supx 80) supx 29 P w mg base := F28.void (b := 79) (i := 79) (b' := 80) (by decide +kernel) (by decide) (by decide) g28.1 D28 (bn_harmful D28) rfl
  have F30 : FitM (gK 30 0 0 0) (pmOf gA whs K) (evb tb supx 81) supx 30 P w mg base := F29.step (b := 80) (i := 80) (b' := 81) (by decide +kernel) (by decide) (by decide) g29.1 D29 (bn_harms_of D29) (C8.fnScope_by sc_harms_of) cd_harms_of t_harms_of
  have F31 : FitM (gK 31 0 0 0) (pmOf gA whs K) (evb tb supx 82) supx 31 P w mg base := F30.step (b := 81) (i := 81) (b' := 82) (by decide +kernel) (by decide) (by decide) g30.1 D30 (bn_having D30) (C8.fnScope_by sc_having) cd_having t_having
  have F32 : FitM (gK 32 0 0 0) (pmOf gA whs K) (evb tb supx 83) supx 32 P w mg base := F31.step (b := 82) (i := 82) (b' := 83) (by decide +kernel) (by decide) (by decide) g31.1 D31 (bn_label D31) (C8.fnScope_by sc_label) cd_label t_label
  have F33 : FitM (gK 33 0 0 0) (pmOf gA whs K) (evb tb supx 84) supx 33 P w mg base := F32.step (b := 83) (i := 83) (b' := 84) (by decide +kernel) (by decide) (by decide) g32.1 D32 (bn_line_of D32) (C8.fnScope_by sc_line_of) cd_line_of t_line_of
  have F34 : FitM (gK 34 0 0 0) (pmOf gA whs K) (evb tb supx 85) supx 34 P w mg base := F33.step (b := 84) (i := 84) (b' := 85) (by decide +kernel) (by decide) (by decide) g33.1 D33 (bn_rule_in D33) (C8.fnScope_by sc_rule_in) cd_rule_in t_rule_in
  have F35 : FitM (gK 35 0 0 0) (pmOf gA whs K) (evb tb supx 86) supx 35 P w mg base := F34.step (b := 85) (i := 85) (b' := 86) (by decide +kernel) (by decide) (by decide) g34.1 D34 (bn_rule_line D34) (C8.fnScope_by sc_rule_line) cd_rule_line t_rule_line
  have F36 : FitM (gK 36 0 0 0) (pmOf gA whs K) (evb tb supx 87) supx 36 P w mg base := F35.step (b := 86) (i := 86) (b' := 87) (by decide +kernel) (by decide) (by decide) g35.1 D35 (bn_read_rule D35) (C8.fnScope_by sc_read_rule) cd_read_rule t_read_rule
  have M36 := F36.mem (b := 87) (i := 87) (by decide +kernel) (by decide) D36 (C8.fnScope_by sc_Terms___init__) cd_Terms___init__ t_Terms___init__
  obtain ⟨hca36, hM36⟩ := ini_ok o (ks := ["origin", "lapsed", "check", "rest"]) (c := 1000) (g := 87) (n := 2) (by decide +kernel)
  obtain ⟨its36, mv36, B36⟩ := D36.kbinds (ps := ["self", "keep", "trust", "origin", "lapsed", "check", "rest"]) 3 ["origin", "lapsed", "check", "rest"] [] (fun vs _ _ zs => vs ++ zs) (List.cons_ne_nil _ _) (List.cons_ne_nil _ _) (fun _ z => nomatch z) (fun a _ _ b => a.append b) (fun _ _ _ _ _ _ _ us its mv ws l1 l2 l3 l4 => match us, its, mv, ws, l1, l2, l3, l4 with | [_, _, _], [_, _], [], [_, _, _, _], _, _, _, _ => ⟨_, rfl, rfl⟩)
  have F37 : FitM (gK 36 0 0 1) (pmOf gA whs K) (evb tb supx 88) supx 38 P w mg base := F36.stepI (b := 87) (i := 87) (b' := 88) (by decide +kernel) (by decide) (by decide) hca36 hM36 B36 rfl M36
  have M37 := F37.mem (b := 88) (i := 88) (by decide +kernel) (by decide) D37 (C8.fnScope_by sc_Terms_of) cd_Terms_of t_Terms_of
  have B37 : Binds K fd37 ["cls", "text"] [] := D37.bindsN fun _ _ _ _ _ _ us hl => match us, hl with | [_, _], _ => rfl
  obtain ⟨hv37, q37, hr37, hm37⟩ := clm_ok' X G o (x := "Terms") (mm := "of") (c := 1000) (g := 88) (n := 1) (by decide +kernel)
  have F38 : FitM (gK 36 0 1 1) (pmOf gA whs K) (evb tb supx 89) supx 40 P w mg base := F37.stepC (b := 88) (i := 88) (b' := 89) (by decide +kernel) (by decide) (by decide) hv37 hr37 hm37 B37 rfl M37
  have M38 := F38.mem (b := 89) (i := 89) (by decide +kernel) (by decide) D38 (C8.fnScope_by sc_Terms_source) cd_Terms_source t_Terms_source
  have B38 : Binds K fd38 ["self"] [] := D38.bindsN fun _ _ _ _ _ _ us hl => match us, hl with | [_], _ => rfl
  obtain ⟨hC38, q38, hp38⟩ := prp_ok o (x := "source") (c := 1000) (g := 89) (by decide +kernel)
  have F39 : FitM (gK 36 1 1 1) (pmOf gA whs K) (evb tb supx 90) supx 42 P w mg base := F38.stepP (b := 89) (i := 89) (b' := 90) (by decide +kernel) (by decide) (by decide) hC38 hp38 B38 rfl M38
  have F40 : FitM (gK 37 1 1 1) (pmOf gA whs K) (evb tb supx 91) supx 43 P w mg base := F39.step (b := 90) (i := 90) (b' := 91) (by decide +kernel) (by decide) (by decide) g39.1 D39 (bn__law_terms D39) (C8.fnScope_by sc__law_terms_k71) cd__law_terms_k71 t__law_terms_k71
  have F41 : FitM (gK 38 1 1 1) (pmOf gA whs K) (evb tb supx 92) supx 44 P w mg base := F40.step (b := 91) (i := 91) (b' := 92) (by decide +kernel) (by decide) (by decide) g40.1 D40 (bn__law_line D40) (C8.fnScope_by sc__law_line) cd__law_line t__law_line
  have F42 : FitM (gK 39 1 1 1) (pmOf gA whs K) (evb tb supx 93) supx 45 P w mg base := F41.step (b := 92) (i := 92) (b' := 93) (by decide +kernel) (by decide) (by decide) g41.1 D41 (bn__law_told D41) (C8.fnScope_by sc__law_told) cd__law_told t__law_told
  have F43 : FitM (gK 40 1 1 1) (pmOf gA whs K) (evb tb supx 94) supx 46 P w mg base := F42.step (b := 93) (i := 93) (b' := 94) (by decide +kernel) (by decide) (by decide) g42.1 D42 (bn__law_read D42) (C8.fnScope_by sc__law_read) cd__law_read t__law_read
  have F44 : FitM (gK 41 1 1 1) (pmOf gA whs K) (evb tb supx 95) supx 47 P w mg base := F43.step (b := 94) (i := 94) (b' := 95) (by decide +kernel) (by decide) (by decide) g43.1 D43 (bn__law_reading D43) (C8.fnScope_by sc__law_reading) cd__law_reading t__law_reading
  have F45 : FitM (gK 42 1 1 1) (pmOf gA whs K) (evb tb supx 96) supx 48 P w mg base := F44.step (b := 95) (i := 95) (b' := 96) (by decide +kernel) (by decide) (by decide) g44.1 D44 (bn__law_bent D44) (C8.fnScope_by sc__law_bent) cd__law_bent t__law_bent
  exact law_fn (def_ok (mf := run 96) (F45.lift (b := 96) (b' := 96) (by decide +kernel) (by decide) (Nat.le_refl _)) D45 (C8.fnScope_by sc_law_k71) cd_law_k71 fun ds M _ => by rw [run, evm_eq tb supx t_law_k71]; exact gc_rf M _)
end BH
open PySem PySem.W PySem.Calls PyProof.Rows
theorem law_holds : PySem.Challenge.rw_believedheld_k71_whole_rules_written_and.Holds := by
  w_on; o_law
  refine HandSHeadRun.head_any (r := OpenLaw.row PySem.Challenge.rw_believedheld_k71_whole_rules_written_and) (q := view (OpenLaw.row PySem.Challenge.rw_believedheld_k71_whole_rules_written_and).prog [65]) (H := BH.hk) (ob := BH.ob) (M := 20000) (loose := BH.loose) (d := HandSHeadRun.topDef (OpenLaw.row PySem.Challenge.rw_believedheld_k71_whole_rules_written_and).prog 65) (kwd := []) BH.ob_eq
    (by kernel_rfl) (fun s => by kernel_rfl) BH.runs (by kernel_rfl) (by kernel_rfl) (by kernel_rfl) (by rfl) (by first | assumption | decide +kernel) (by decide +kernel) ⟨rfl, rfl, rfl, rfl, rfl, by decide +kernel⟩ ?hw ?hc
  case hw => w_witness2
  case hc =>
    refine L2.walk_ofE (l := PySem.Challenge.rw_believedheld_k71_whole_rules_written_and) (n := 63) (k := 49) (x := "_law_script") (CX := L2.CX0) rfl (by decide) (by kernel_rfl) ⟨rfl, by decide, by decide⟩ ?F (fun _ _ _ _ z => z)
    intro w mg fa h Y G hmg0
    obtain ⟨K, KX, c, o, cm⟩ := Y
    have hmg : mg ("law" : PySem.Str) = some (.ref fa) := by
      have e : (HandSHeadRun.topDef (OpenLaw.row PySem.Challenge.rw_believedheld_k71_whole_rules_written_and).prog 65).name = ("law" : PySem.Str) := by kernel_rfl
      rw [← e]
      exact hmg0
    obtain ⟨fd, hb, hF⟩ := BH.facts (P := (PySem.Challenge.rw_believedheld_k71_whole_rules_written_and).prog) (w := w) KX G hmg c o cm
    exact ⟨K, fd, BH.spL (BH.pmOf BH.gA BH.whs K) (BH.run 96), KX, hb, fun H a ns hl hO hS => BH.law_sp (p := BH.pmOf BH.gA BH.whs K) hO hS (BH.law_ok ns hl), fun base _ _ => hF base⟩
end

set_option maxRecDepth 100000 in
set_option maxHeartbeats 0 in
theorem PySem.Challenge.cw_believedheld_k71_whole_rules_written_and_holds : PySem.Challenge.rw_believedheld_k71_whole_rules_written_and.Holds := by
  exact law_holds
