import PyProof.Rows.All
import Wide.All
import OpenK.AllK
import Wide.FinOn
import HandS.ForMost
import HandS.IsInst
import HandS.Flow
import HandS.TupAny
import HandS.TupMul
import HandS.TupLe
import HandS.Style
import HandS.Deep
import HandS.Zip
import HandS.Strs
import HandS.More
import HandS.Wide
import HandS.SetFor
import KE.KDictKeyed
import KE.DataAny
import KE.DataMinMax
import KE.DataFind
import KE.DataCmp
import KE.SortData
import PyProof.TupleOfSeq
import PyProof.Transfer
import HandS.SortInts
import KE.GoesMore
import KE.GoesEnum
import HandS.Conv
import HandS.Dict
import HandS.DictComp
import HandS.Ends
import PySem.Challenge.RW_suitsall_k77_whole_polls_on_turns
section
set_option linter.all false
set_option autoImplicit false
set_option maxRecDepth 100000
/-! MPCore: a small language of values; its meaning is a tree of draws. Own slots hold fresh lists, all else is a value that stands. -/
namespace MP

inductive Val where
  | non | bl (b : Bool) | int (i : Int) | str (s : List Nat)
  | tup (xs : List Val) | lst (xs : List Val) | ref (n : Nat) | box | fn (n : Nat)
instance : Inhabited Val := ⟨.non⟩

/-- what an expression gives: a value that stands, a fresh list, a look at an own list -/
inductive Rv where | v (x : Val) | new (xs : List Val) | vw (xs : List Val)
/-- an own list, an own dict with whole numbers as keys -/
inductive OL where | l (xs : List Val) | d (xs : List (Int × Val))
inductive Slot where | emp | val (x : Val) | own (xs : OL)
inductive Obj where | lst (xs : List Val)
abbrev Env := List Slot
abbrev Mem := List Obj

/-- a run with its draws open -/
inductive T (α : Type) where | ret (a : α) | bad | draw (m : Int) (k : Int → T α)
def T.bind {α β : Type} : T α → (α → T β) → T β
  | .ret a, f => f a
  | .bad, _ => .bad
  | .draw m k, f => .draw m fun d => (k d).bind f
def T.wp {α : Type} : T α → (α → Prop) → Prop
  | .ret a, Q => Q a
  | .bad, _ => False
  | .draw m k, Q => 0 < m ∧ ∀ d, 0 ≤ d → d < m → (k d).wp Q
/-- all ways, by trying -/
def T.all {α : Type} : T α → (α → Bool) → Bool
  | .ret a, p => p a
  | .bad, _ => false
  | .draw m k, p => decide (0 < m) && (List.range m.toNat).all fun d => (k d).all p
def T.ofO {α : Type} : Option α → T α
  | some a => .ret a
  | none => .bad

theorem T.wp_mono {α : Type} {t : T α} {Q Q' : α → Prop} (h : t.wp Q) (hq : ∀ a, Q a → Q' a) : t.wp Q' := by
  induction t with
  | ret a => exact hq a h
  | bad => exact h
  | draw m k ih => exact ⟨h.1, fun d h0 h1 => ih d (h.2 d h0 h1)⟩
theorem T.wp_bind {α β : Type} {t : T α} {f : α → T β} {Q : β → Prop} : (t.bind f).wp Q ↔ t.wp fun a => (f a).wp Q := by
  induction t with
  | ret a => exact Iff.rfl
  | bad => exact Iff.rfl
  | draw m k ih => exact ⟨fun h => ⟨h.1, fun d h0 h1 => (ih d).mp (h.2 d h0 h1)⟩, fun h => ⟨h.1, fun d h0 h1 => (ih d).mpr (h.2 d h0 h1)⟩⟩
theorem T.wp_ret {α : Type} {a : α} {Q : α → Prop} : (T.ret a).wp Q ↔ Q a := Iff.rfl
theorem T.wp_ofO {α : Type} {o : Option α} {Q : α → Prop} (h : (T.ofO o).wp Q) : ∃ a, o = some a ∧ Q a := by
  cases o with
  | none => exact h.elim
  | some a => exact ⟨a, rfl, h⟩
theorem T.all_wp {α : Type} {t : T α} {p : α → Bool} (h : t.all p = true) : t.wp fun a => p a = true := by
  induction t with
  | ret a => exact h
  | bad => cases h
  | draw m k ih =>
    simp only [T.all, Bool.and_eq_true, decide_eq_true_eq, List.all_eq_true] at h
    refine ⟨h.1, fun d h0 h1 => ih d ?_⟩
    have := h.2 d.toNat (List.mem_range.mpr (by omega))
    rwa [Int.toNat_of_nonneg h0] at this

/-! ### values -/
mutual
/-- Python's == of plain values -/
def Val.eq : Val → Val → Bool
  | .non, .non => true
  | .bl a, .bl b => a == b
  | .bl a, .int b => (if a then 1 else 0) == b
  | .int a, .bl b => a == (if b then 1 else 0)
  | .int a, .int b => a == b
  | .str a, .str b => a == b
  | .tup a, .tup b => Val.eqs a b
  | .lst a, .lst b => Val.eqs a b
  | _, _ => false
def Val.eqs : List Val → List Val → Bool
  | [], [] => true
  | x :: xs, y :: ys => Val.eq x y && Val.eqs xs ys
  | _, _ => false
end
mutual
/-- made of None, boolsOf, intsOf, texts, tuples, lists, at most n deep -/
def Val.plain : Nat → Val → Bool
  | _, .non => true
  | _, .bl _ => true
  | _, .int _ => true
  | _, .str s => s.all (· < 55296)
  | n + 1, .tup xs => Val.plains n xs
  | n + 1, .lst xs => Val.plains n xs
  | _, _ => false
def Val.plains : Nat → List Val → Bool
  | _, [] => true
  | n, x :: xs => Val.plain n x && Val.plains n xs
end
mutual
/-- no list within -/
def Val.noLst : Val → Bool
  | .lst _ => false
  | .tup xs => Val.noLsts xs
  | _ => true
def Val.noLsts : List Val → Bool
  | [] => true
  | x :: xs => Val.noLst x && Val.noLsts xs
end
def deepMax : Nat := 40
mutual
/-- the very same -/
def Val.beq : Val → Val → Bool
  | .non, .non => true
  | .bl a, .bl b => a == b
  | .int a, .int b => a == b
  | .str a, .str b => a == b
  | .tup a, .tup b => Val.beqs a b
  | .lst a, .lst b => Val.beqs a b
  | .ref a, .ref b => a == b
  | .box, .box => true
  | .fn a, .fn b => a == b
  | _, _ => false
def Val.beqs : List Val → List Val → Bool
  | [], [] => true
  | x :: xs, y :: ys => Val.beq x y && Val.beqs xs ys
  | _, _ => false
end
mutual
theorem Val.beq_self : ∀ v : Val, v.beq v = true
  | .non => rfl
  | .bl a => by simp [Val.beq]
  | .int a => by simp [Val.beq]
  | .str a => by simp [Val.beq]
  | .tup a => by simp only [Val.beq]; exact Val.beqs_self a
  | .lst a => by simp only [Val.beq]; exact Val.beqs_self a
  | .ref a => by simp [Val.beq]
  | .box => rfl
  | .fn a => by simp [Val.beq]
theorem Val.beqs_self : ∀ v : List Val, Val.beqs v v = true
  | [] => rfl
  | x :: xs => by simp only [Val.beqs, Val.beq_self x, Val.beqs_self xs, Bool.and_self]
end
mutual
theorem Val.eq_of_beq : ∀ {v w : Val}, v.beq w = true → v = w
  | .non, w, h => by cases w <;> simp [Val.beq] at h; rfl
  | .bl a, w, h => by cases w <;> simp [Val.beq] at h; rw [h]
  | .int a, w, h => by cases w <;> simp [Val.beq] at h; rw [h]
  | .str a, w, h => by cases w <;> simp [Val.beq] at h; rw [h]
  | .tup a, w, h => by cases w <;> simp [Val.beq] at h; rw [Val.eq_of_beqs h]
  | .lst a, w, h => by cases w <;> simp [Val.beq] at h; rw [Val.eq_of_beqs h]
  | .ref a, w, h => by cases w <;> simp [Val.beq] at h; rw [h]
  | .box, w, h => by cases w <;> simp [Val.beq] at h; rfl
  | .fn a, w, h => by cases w <;> simp [Val.beq] at h; rw [h]
theorem Val.eq_of_beqs : ∀ {v w : List Val}, Val.beqs v w = true → v = w
  | [], [], _ => rfl
  | [], _ :: _, h => by simp [Val.beqs] at h
  | _ :: _, [], h => by simp [Val.beqs] at h
  | x :: xs, y :: ys, h => by
    simp only [Val.beqs, Bool.and_eq_true] at h
    rw [Val.eq_of_beq h.1, Val.eq_of_beqs h.2]
end
mutual
/-- a dict's key, at most n deep -/
def Val.key : Nat → Val → Bool
  | _, .non => true
  | _, .int _ => true
  | _, .str _ => true
  | n + 1, .tup xs => Val.keys n xs
  | _, _ => false
def Val.keys : Nat → List Val → Bool
  | _, [] => true
  | n, x :: xs => Val.key n x && Val.keys n xs
end
def Val.imm : Val → Bool
  | .non => true
  | .bl _ => true
  | .int _ => true
  | _ => false
mutual
/-- Python's < of alike plain values -/
def Val.lt : Val → Val → Bool
  | .bl a, .bl b => !a && b
  | .int a, .int b => decide (a < b)
  | .str a, .str b => decide (a < b)
  | .tup a, .tup b => Val.lts a b
  | .lst a, .lst b => Val.lts a b
  | _, _ => false
def Val.lts : List Val → List Val → Bool
  | x :: xs, y :: ys => if x.eq y then Val.lts xs ys else x.lt y
  | [], _ :: _ => true
  | _, [] => false
end
mutual
/-- the two can be compared, place by place -/
def Val.alike : Val → Val → Bool
  | .non, .non => true
  | .bl _, .bl _ => true
  | .int _, .int _ => true
  | .str _, .str _ => true
  | .tup a, .tup b => Val.alikes a b
  | .lst a, .lst b => Val.alikes a b
  | _, _ => false
def Val.alikes : List Val → List Val → Bool
  | x :: xs, y :: ys => x.alike y && Val.alikes xs ys
  | [], _ => true
  | _ :: _, [] => true
end
def Val.isNon : Val → Bool
  | .non => true
  | _ => false
def Val.isTup : Val → Bool
  | .tup _ => true
  | _ => false
def Val.isTup1 : Val → Bool
  | .tup (_ :: _) => true
  | _ => false
def okMin (xs : List Val) : Bool := (xs.all fun x => !x.isNon && xs.all fun y => x.alike y) && Val.plains 39 xs
def okSort (xs : List Val) : Bool := okMin xs && ((xs.all fun x => x.isTup1) || xs.all fun x => !x.isTup)
def sortV (xs : List Val) : List Val := xs.mergeSort fun a b => !b.lt a
def minV : List Val → Option Val
  | [] => none
  | x :: xs => some (xs.foldl (fun a y => if y.lt a then y else a) x)
def maxV : List Val → Option Val
  | [] => none
  | x :: xs => some (xs.foldl (fun a y => if a.lt y then y else a) x)

def Rv.store : Rv → Option Val
  | .v x => some x
  | .new xs => some (.lst xs)
  | .vw _ => none
def Rv.arg : Rv → Val
  | .v x => x
  | .new xs => .lst xs
  | .vw xs => .lst xs
def Rv.isVw : Rv → Bool
  | .vw _ => true
  | _ => false
def Rv.noLst : Rv → Bool
  | .v x => x.noLst
  | .new xs => Val.noLsts xs
  | .vw _ => false
/-- the items of a tuple or a list -/
def Rv.items : Rv → Option (List Val)
  | .v (.tup xs) => some xs
  | .v (.lst xs) => some xs
  | .new xs => some xs
  | .vw xs => some xs
  | _ => none
/-- the items of a list -/
def Rv.lst : Rv → Option (List Val)
  | .v (.lst xs) => some xs
  | .new xs => some xs
  | .vw xs => some xs
  | _ => none
def Rv.truth : Rv → Option Bool
  | .v .non => some false
  | .v (.bl b) => some b
  | .v (.int i) => some (i != 0)
  | .v (.str s) => some (!s.isEmpty)
  | .v (.tup xs) => some (!xs.isEmpty)
  | .v (.lst xs) => some (!xs.isEmpty)
  | .new xs => some (!xs.isEmpty)
  | .vw xs => some (!xs.isEmpty)
  | _ => none
def stores : List Rv → Option (List Val)
  | [] => some []
  | r :: rs => match r.store, stores rs with
    | some x, some xs => some (x :: xs)
    | _, _ => none

def intsOf : List Val → Option (List Int)
  | [] => some []
  | .int i :: xs => (intsOf xs).map (i :: ·)
  | _ :: _ => none
def boolsOf : List Val → Option (List Bool)
  | [] => some []
  | .bl b :: xs => (boolsOf xs).map (b :: ·)
  | _ :: _ => none
def lexLt : List Int → List Int → Bool
  | [], [] => false
  | [], _ :: _ => true
  | _ :: _, [] => false
  | x :: xs, y :: ys => if x = y then lexLt xs ys else decide (x < y)
/-- Python's place of an index -/
def place (n : Nat) (i : Int) : Option Nat :=
  if 0 ≤ i then (if i < n then some i.toNat else none) else if -(n : Int) ≤ i then some (i + n).toNat else none
/-- a slice's bound -/
def bound (n : Nat) (d : Nat) : Option Int → Nat
  | none => d
  | some i => if i < 0 then (i + n).toNat else min i.toNat n
def cut {α : Type} (xs : List α) (lo hi : Option Int) : List α :=
  (xs.drop (bound xs.length 0 lo)).take (bound xs.length xs.length hi - bound xs.length 0 lo)
def big : Int := 2 ^ 64
def sizeMax : Nat := 16777216

inductive Un where | neg | isN | notN | isT | notT | isF | notF | rev
inductive Bn where | add | sub | mul | fdiv | mod | shl | shr | band | eq | ne | lt | le | gt | ge | inn | notin | idx
inductive Ty where | int | bool | str | tuple | list
inductive Ap where | len | tuple | list | sum | any | all | min | max | min2 | max2 | int | abs | str | isi (t : Ty) | sorted | sortSet
inductive Mt where | upper | count | index

def isNoneR : Rv → Bool
  | .v .non => true
  | _ => false
def negV : Rv → Option Rv
  | .v (.int i) => some (.v (.int (-i)))
  | _ => none
def blV (f : Bool → Bool) : Rv → Option Rv
  | .v (.bl b) => some (.v (.bl (f b)))
  | _ => none
def revV : Rv → Option Rv
  | .v (.tup xs) => some (.v (.tup xs.reverse))
  | r => r.lst.map fun xs => .new xs.reverse
def Un.ap : Un → Rv → Option Rv
  | .neg => negV
  | .isN => fun r => some (.v (.bl (isNoneR r)))
  | .notN => fun r => some (.v (.bl (!isNoneR r)))
  | .isT => blV fun b => b
  | .notT => blV fun b => !b
  | .isF => blV fun b => !b
  | .notF => blV fun b => b
  | .rev => revV

def isTy : Ty → Rv → Option Bool
  | .int, .v (.int _) => some true
  | .int, .v (.bl _) => some true
  | .bool, .v (.bl _) => some true
  | .str, .v (.str _) => some true
  | .tuple, .v (.tup _) => some true
  | .list, .v (.lst _) => some true
  | .list, .new _ => some true
  | .list, .vw _ => some true
  | _, .v (.ref _) => none
  | _, .v .box => none
  | _, .v (.fn _) => none
  | _, _ => some false

def okP (x y : Val) : Bool := Val.plain deepMax x && Val.plain deepMax y
def addV (r q : Rv) : Option Rv := match r, q with
  | .v (.int i), .v (.int j) => some (.v (.int (i + j)))
  | .v (.str a), .v (.str b) => if a.length + b.length ≤ sizeMax then some (.v (.str (a ++ b))) else none
  | .v (.tup a), .v (.tup b) => if a.length + b.length ≤ sizeMax then some (.v (.tup (a ++ b))) else none
  | r, q => match r.lst, q.lst with
    | some a, some b => if a.length + b.length ≤ sizeMax then some (.new (a ++ b)) else none
    | _, _ => none
def mulV (r q : Rv) : Option Rv := match r, q with
  | .v (.int i), .v (.int j) => if -big < i ∧ i < big ∨ -big < j ∧ j < big then some (.v (.int (i * j))) else none
  | .v (.tup a), .v (.int j) => if !a.isEmpty ∧ a.length ≤ 1000 ∧ 2 ≤ j ∧ j ≤ 1000 then some (.v (.tup (List.replicate j.toNat a).flatten)) else none
  | r, .v (.int j) => match r.lst with
    | some a => if a.length * j.toNat ≤ 100000 ∧ j < 1000000 ∧ -1000000 < j then some (.new (List.replicate j.toNat a).flatten) else none
    | none => none
  | _, _ => none
def eqV (neg : Bool) (r q : Rv) : Option Rv := if okP r.arg q.arg then some (.v (.bl (if neg then !r.arg.eq q.arg else r.arg.eq q.arg))) else none
def inV (neg : Bool) (r q : Rv) : Option Rv := match q.items with
  | some ys => if okP r.arg (.tup ys) then some (.v (.bl (if neg then !ys.any fun y => y.eq r.arg else ys.any fun y => y.eq r.arg))) else none
  | none => none
def ltV (r q : Rv) : Option Rv := match r, q with
  | .v (.int i), .v (.int j) => some (.v (.bl (decide (i < j))))
  | .v (.tup a), .v (.tup b) => match intsOf a, intsOf b with
    | some x, some y => some (.v (.bl (lexLt x y)))
    | _, _ => none
  | _, _ => none
/-- two whole numbers, or two tuples of such -/
def cmpV (f : Int → Int → Bool) (g : List Int → List Int → Bool) (r q : Rv) : Option Rv := match r, q with
  | .v (.int i), .v (.int j) => some (.v (.bl (f i j)))
  | .v (.tup a), .v (.tup b) => match intsOf a, intsOf b with
    | some x, some y => some (.v (.bl (g x y)))
    | _, _ => none
  | _, _ => none
def idxV (r q : Rv) : Option Rv := match r, q with
  | .v (.str s), .v (.int i) => (place s.length i).bind fun k => s[k]?.map fun c => .v (.str [c])
  | r, .v (.int i) => match r.items with
    | some xs => (place xs.length i).bind fun k => xs[k]?.map .v
    | none => none
  | _, _ => none
/-- two ints -/
def intV (f : Int → Int → Option Val) (r q : Rv) : Option Rv := match r, q with
  | .v (.int i), .v (.int j) => (f i j).map .v
  | _, _ => none
def Bn.ap : Bn → Rv → Rv → Option Rv
  | .add => addV
  | .sub => intV fun i j => some (.int (i - j))
  | .mul => mulV
  | .fdiv => intV fun i j => if 0 < j ∧ j < 1073741824 then some (.int (i / j)) else none
  | .mod => intV fun i j => if 0 < j then some (.int (i % j)) else none
  | .shl => intV fun i j => if 0 ≤ j ∧ j ≤ 1000 ∧ i.natAbs < 2 ^ 64 then some (.int (i * 2 ^ j.toNat)) else none
  | .shr => intV fun i j => if 0 ≤ j then some (.int (i / 2 ^ j.toNat)) else none
  | .band => intV fun i j => if 0 ≤ i ∧ 0 ≤ j then some (.int (Nat.land i.toNat j.toNat : Nat)) else none
  | .eq => eqV false
  | .ne => eqV true
  | .lt => ltV
  | .le => cmpV (fun i j => decide (i ≤ j)) fun x y => !lexLt y x
  | .gt => cmpV (fun i j => decide (j < i)) fun x y => lexLt y x
  | .ge => cmpV (fun i j => decide (j ≤ i)) fun x y => !lexLt x y
  | .inn => inV false
  | .notin => inV true
  | .idx => idxV

def slice (r : Rv) (lo hi : Option Int) : Option Rv :=
  match r with
  | .v (.str s) => some (.v (.str (cut s lo hi)))
  | .v (.tup xs) => some (.v (.tup (cut xs lo hi)))
  | r => r.lst.map fun xs => .new (cut xs lo hi)

def listMax : List Int → Option Int
  | [] => none
  | x :: xs => some (xs.foldl max x)
def listMin : List Int → Option Int
  | [] => none
  | x :: xs => some (xs.foldl min x)
def maxR (xs : List Val) : Option Rv := match intsOf xs with
  | some ns => (listMax ns).map fun m => .v (.int m)
  | none => if okMin xs then (maxV xs).map .v else none
def minR (xs : List Val) : Option Rv := match intsOf xs with
  | some ns => (listMin ns).map fun m => .v (.int m)
  | none => if okMin xs then (minV xs).map .v else none
def insU (x : Int) : List Int → List Int
  | [] => [x]
  | y :: ys => if x < y then x :: y :: ys else if x = y then y :: ys else y :: insU x ys
/-- the members, ascending -/
def setI : List Int → List Int
  | [] => []
  | x :: xs => insU x (setI xs)
def setR (xs : List Val) : Option Rv := (intsOf xs).bind fun ns => if ns.length < 64 then some (.new ((setI ns).map .int)) else none
def sortR (xs : List Val) : Option Rv := if okSort xs then some (.new (sortV xs)) else none

/-- a whole number's text -/
def decS (i : Int) : List Nat := (toString i).toList.map Char.toNat
def Ap.ap : Ap → List Rv → Option Rv
  | .len, [.v (.str s)] => some (.v (.int s.length))
  | .len, [r] => r.items.map fun xs => .v (.int xs.length)
  | .tuple, [r] => r.items.map fun xs => .v (.tup xs)
  | .list, [r] => r.items.map fun xs => .new xs
  | .sum, [r] => r.items.bind fun xs => (intsOf xs).map fun ns => .v (.int ns.sum)
  | .any, [r] => r.lst.bind fun xs => (boolsOf xs).map fun bs => .v (.bl (bs.any id))
  | .all, [r] => r.lst.bind fun xs => (boolsOf xs).map fun bs => .v (.bl (bs.all id))
  | .max, [r] => r.items.bind maxR
  | .min, [r] => r.items.bind minR
  | .max2, [.v (.int i), .v (.int j)] => some (.v (.int (if j > i then j else i)))
  | .min2, [.v (.int i), .v (.int j)] => some (.v (.int (if j < i then j else i)))
  | .int, [.v (.int i)] => some (.v (.int i))
  | .int, [.v (.bl b)] => some (.v (.int (if b then 1 else 0)))
  | .abs, [.v (.int i)] => some (.v (.int (if i < 0 then -i else i)))
  | .str, [.v (.int i)] => if -big < i ∧ i < big then some (.v (.str (decS i))) else none
  | .isi t, [r] => (isTy t r).map fun b => .v (.bl b)
  | .sorted, [r] => r.items.bind sortR
  | .sortSet, [.v (.tup xs)] => setR xs
  | _, _ => none

def up1 (c : Nat) : Nat := if 97 ≤ c ∧ c ≤ 122 then c - 32 else c
def firstEq (x : Val) : List Val → Option Nat
  | [] => none
  | y :: ys => if y.eq x then some 0 else (firstEq x ys).map (· + 1)
def Mt.ap : Mt → Rv → List Rv → Option Rv
  | .upper, .v (.str s), [] => if s.all (· < 128) && decide (s.length ≤ 1000000) then some (.v (.str (s.map up1))) else none
  | .index, r, [q] => match r.items with
    | some ys => if okP q.arg (.tup ys) then (firstEq q.arg ys).map fun k => .v (.int k) else none
    | none => none
  | .count, r, [q] => match r.items with
    | some ys => if okP q.arg (.tup ys) then some (.v (.int (ys.countP fun y => y.eq q.arg))) else none
    | none => none
  | _, _, _ => none

/-! ### the language -/
mutual
inductive Tg where | var (i : Nat) | tup (ts : Tgs)
inductive Tgs where | nil | cons (t : Tg) (ts : Tgs)
end
mutual
inductive E where
  | memo | const (c : Val) | glob (k : Nat) | var (i : Nat)
  | tup (es : Es) | list (es : Es)
  | un (u : Un) (a : E) | bin (o : Bn) (a b : E) | chain (a : E) (o : Bn) (b : E) (o' : Bn) (c : E)
  | slc (a : E) (lo hi : Eo)
  | and (a b : E) | or (a b : E) | not (a : E) | ite (c a b : E)
  | app (f : Ap) (es : Es) | meth (m : Mt) (a : E) (es : Es)
  | call (k : Nat) (es : Es) | draw (i : Nat) (m : E) | rngL (t : Bool) (lo : Eo) (hi : E)
  | comp (elt : E) (tg : Tg) (it : It) (cs : Es) (own : List Nat)
  | comp2 (elt : E) (tg : Tg) (it : It) (tg2 : Tg) (it2 : It) (own : List Nat)
  | din (neg : Bool) (k : E) (i : Nat) | dget (i : Nat) (k : E)
inductive Es where | nil | cons (e : E) (es : Es)
inductive Eo where | no | so (e : E)
inductive It where | seq (e : E) | rng1 (a : E) | rng2 (a b : E) | enum (a : E) | zip (a b : E)
end
mutual
inductive S where
  | asg (t : Tg) (e : E) | par (is : List Nat) (es : Es) | ret (e : E) | retOwn (i : Nat) | retN
  | ite (c : E) (a b : Ss) | for (t : Tg) (it : It) (b : Ss) | while (c : E) (b : Ss)
  | append (i : Nat) (e : E) | extend (i : Nat) (e : E) | setIdx (i : Nat) (k e : E) | popAt (i : Nat) (j : Nat) (e : Eo) | popPar (i i2 j : Nat) (e e2 : E) | insert (i : Nat) (k e : E)
  | aug (i : Nat) (o : Bn) (e : E) | augIdx (i : Nat) (k : E) (o : Bn) (e : E) | freeze (i : Nat) | forget (is : List Nat) | pass | brk | cont | never | memo (i : Nat) (key : E) (body : Ss) (v : E)
  | dnew (i : Nat) | dput (i : Nat) (k v : E) | dcomp (i : Nat) (kx vx : E) (tg : Tg) (it : It) (own : List Nat)
inductive Ss where | nil | cons (s : S) (r : Ss)
end

mutual
def Tg.set : Tg → Val → Env → Option Env
  | .var i, x, env => if i < env.length then some (List.set env i (.val x)) else none
  | .tup ts, .tup xs, env => Tgs.set ts xs env
  | .tup _, _, _ => none
def Tgs.set : Tgs → List Val → Env → Option Env
  | .nil, [], env => some env
  | .cons t ts, x :: xs, env => (t.set x env).bind fun e => ts.set xs e
  | _, _, _ => none
end

/-- what a dict of known answers holds: its keys, the answer for each -/
structure Known where
  dom : Val → Bool
  D : Val → Val
structure Ctx where
  G : Nat → Option Val
  C : Nat → List Val → Mem → T (Rv × Mem)
  W : Nat
  M : Known

def keyOk (K : Known) (v : Val) : Bool := v.isTup && v.key 8 && K.dom v && (K.D v).imm
/-- a key, and the dict -/
def memoK (K : Known) : Rv → Rv → Option Val
  | .v kv, .v (.ref _) => if keyOk K kv = true then some kv else none
  | _, _ => none
/-- the value at a key -/
def dFind (kvs : List (Int × Val)) (k : Int) : Option Val := (kvs.find? fun p => decide (p.1 = k)).map (·.2)
def dPut (kvs : List (Int × Val)) (k : Int) (v : Val) : List (Int × Val) :=
  if (kvs.any fun p => decide (p.1 = k)) = true then kvs.map (fun p => if p.1 = k then (p.1, v) else p) else kvs ++ [(k, v)]
def dicS (env : Env) (i : Nat) : Option (List (Int × Val)) :=
  match env[i]? with
  | some (.own (.d xs)) => some xs
  | _ => none
def loadS : Option Slot → Option Rv
  | some (.val x) => some (.v x)
  | some (.own (.l xs)) => some (.vw xs)
  | _ => none
def wipeE (env : Env) : List Nat → Env
  | [] => env
  | i :: is => List.set (wipeE env is) i .emp
def T.opt {α β : Type} : Option α → (α → T β) → T β
  | some a, f => f a
  | none, _ => .bad
def T.tru {β : Type} : Option Bool → T β → T β → T β
  | some true, t, _ => t
  | some false, _, e => e
  | none, _, _ => .bad
def T.iff {β : Type} (b : Bool) (t : T β) : T β := match b with
  | true => t
  | false => .bad
def callW (c : Ctx) (k : Nat) (rs : List Rv) (h : Mem) : T (Rv × Mem) :=
  (c.C k (rs.map Rv.arg) h).bind fun p => T.iff (!rs.any Rv.isVw || p.1.noLst) (.ret p)
/-- the items one by one: test, then the element -/
def compL (st : Val → Option Env) (test : Env → Mem → T (Bool × Mem)) (elt : Env → Mem → T (Rv × Mem)) : List Val → Mem → T (List Val × Mem)
  | [], h => .ret ([], h)
  | x :: xs, h => T.opt (st x) fun env => (test env h).bind fun p => match p.1 with
      | true => (elt env p.2).bind fun q => T.opt q.1.store fun y => (compL st test elt xs q.2).bind fun r => .ret (y :: r.1, r.2)
      | false => compL st test elt xs p.2
/-- a dict's entries, one by one -/
def dcompL (st : Val → Option Env) (kx : Env → Mem → T (Option Int × Mem)) (vx : Env → Mem → T (Rv × Mem)) : List Val → List (Int × Val) → Mem → T (List (Int × Val) × Mem)
  | [], acc, h => .ret (acc, h)
  | x :: xs, acc, h => T.opt (st x) fun env => (kx env h).bind fun p => T.opt p.1 fun k => (vx env p.2).bind fun q => T.opt q.1.store fun y => dcompL st kx vx xs (dPut acc k y) q.2
/-- .. the inner loop's lists joined -/
def compL2 (st : Val → Option Env) (inner : Env → Mem → T (List Val × Mem)) : List Val → Mem → T (List Val × Mem)
  | [], h => .ret ([], h)
  | x :: xs, h => T.opt (st x) fun env => (inner env h).bind fun q => (compL2 st inner xs q.2).bind fun r => .ret (q.1 ++ r.1, r.2)
def optI : Rv → Option Int
  | .v (.int i) => some i
  | _ => none
/-- what is walked; b: nothing is changed meanwhile -/
def optT (b : Bool) : Rv → Option (List Val)
  | .vw xs => if b then some xs else none
  | r => r.items
def enumF : Nat → List Val → List Val
  | _, [] => []
  | n, x :: xs => .tup [.int n, x] :: enumF (n + 1) xs
def zipF : List Val → List Val → List Val
  | x :: xs, y :: ys => .tup [x, y] :: zipF xs ys
  | _, _ => []
def rngF : Nat → Int → List Val
  | 0, _ => []
  | n + 1, a => .int a :: rngF n (a + 1)
def smallI (i : Int) : Bool := decide (-1000000 < i) && decide (i < 1000000)
/-- none of the slots is an own list -/
def noOwn (env : Env) (is : List Nat) : Bool := is.all fun i => match env[i]? with
  | some (.own _) => false
  | _ => true
def boxS : Option Slot → Bool
  | some (.val .box) => true
  | _ => false
def drawT (h : Mem) : Rv → T (Rv × Mem)
  | .v (.int m) => T.iff (decide (0 < m) && decide (m < 1073741824)) (.draw m fun d => .ret (.v (.int d), h))
  | _ => .bad
def chainT {β : Type} : Option Rv → T β → T β → T β
  | some (.v (.bl true)), t, _ => t
  | some (.v (.bl false)), _, e => e
  | _, _, _ => .bad

/-- a range as a tuple or a list -/
def rngR (t : Bool) (xs : List Val) : Rv := match t with
  | true => .v (.tup xs)
  | false => .new xs
mutual
def ev (c : Ctx) : E → Env → Mem → T (Rv × Mem)
  | .memo, _, h => .ret (.v (.ref 0), h)
  | .const x, _, h => .ret (.v x, h)
  | .glob k, _, h => T.opt (c.G k) fun x => .ret (.v x, h)
  | .var i, env, h => T.opt (loadS env[i]?) fun r => .ret (r, h)
  | .tup es, env, h => (evs c es env h).bind fun p => T.opt (stores p.1) fun xs => .ret (.v (.tup xs), p.2)
  | .list es, env, h => (evs c es env h).bind fun p => T.opt (stores p.1) fun xs => .ret (.new xs, p.2)
  | .un u a, env, h => (ev c a env h).bind fun p => T.opt (u.ap p.1) fun r => .ret (r, p.2)
  | .bin o a b, env, h => (ev c a env h).bind fun p => (ev c b env p.2).bind fun q => T.opt (o.ap p.1 q.1) fun r => .ret (r, q.2)
  | .chain a o b o' d, env, h => (ev c a env h).bind fun p => (ev c b env p.2).bind fun q => chainT (o.ap p.1 q.1)
      ((ev c d env q.2).bind fun s => T.opt (o'.ap q.1 s.1) fun r => .ret (r, s.2)) (.ret (.v (.bl false), q.2))
  | .slc a lo hi, env, h => (ev c a env h).bind fun p => (evo c lo env p.2).bind fun l => (evo c hi env l.2).bind fun u => T.opt (slice p.1 l.1 u.1) fun r => .ret (r, u.2)
  | .and a b, env, h => (ev c a env h).bind fun p => T.tru p.1.truth (ev c b env p.2) (.ret p)
  | .or a b, env, h => (ev c a env h).bind fun p => T.tru p.1.truth (.ret p) (ev c b env p.2)
  | .not a, env, h => (ev c a env h).bind fun p => T.opt p.1.truth fun t => .ret (.v (.bl (!t)), p.2)
  | .ite t a b, env, h => (ev c t env h).bind fun p => T.tru p.1.truth (ev c a env p.2) (ev c b env p.2)
  | .app f es, env, h => (evs c es env h).bind fun p => T.opt (f.ap p.1) fun r => .ret (r, p.2)
  | .meth m a es, env, h => (ev c a env h).bind fun p => (evs c es env p.2).bind fun q => T.opt (m.ap p.1 q.1) fun r => .ret (r, q.2)
  | .call k es, env, h => (evs c es env h).bind fun p => callW c k p.1 p.2
  | .draw i m, env, h => T.iff (boxS env[i]?) ((ev c m env h).bind fun p => drawT p.2 p.1)
  | .rngL t lo hi, env, h => (evo c lo env h).bind fun l => (ev c hi env l.2).bind fun p => T.opt (optI p.1) fun j => T.iff (smallI (l.1.getD 0) && smallI j) (.ret (rngR t (rngF (j - l.1.getD 0).toNat (l.1.getD 0)), p.2))
  | .comp elt tg it cs own, env, h => T.iff (noOwn env own) ((evit c true it env h).bind fun p =>
      (compL (fun x => tg.set x (wipeE env own)) (fun e h => evc c cs e h) (fun e h => ev c elt e h) p.1 p.2).bind fun q => .ret (.new q.1, q.2))
  | .comp2 elt tg it tg2 it2 own, env, h => T.iff (noOwn env own) ((evit c true it env h).bind fun p =>
      (compL2 (fun x => tg.set x (wipeE env own)) (fun e h => (evit c true it2 e h).bind fun p2 =>
        compL (fun x => tg2.set x e) (fun _ h => .ret (true, h)) (fun e h => ev c elt e h) p2.1 p2.2) p.1 p.2).bind fun q => T.iff (decide (q.1.length ≤ sizeMax)) (.ret (.new q.1, q.2)))
  | .din neg k i, env, h => (ev c k env h).bind fun p => T.opt (optI p.1) fun n => T.opt (dicS env i) fun kvs => .ret (.v (.bl (if neg then !(dFind kvs n).isSome else (dFind kvs n).isSome)), p.2)
  | .dget i k, env, h => (ev c k env h).bind fun p => T.opt (optI p.1) fun n => T.opt (dicS env i) fun kvs => T.opt (dFind kvs n) fun x => .ret (.v x, p.2)
def evs (c : Ctx) : Es → Env → Mem → T (List Rv × Mem)
  | .nil, _, h => .ret ([], h)
  | .cons e es, env, h => (ev c e env h).bind fun p => (evs c es env p.2).bind fun q => .ret (p.1 :: q.1, q.2)
/-- tests: all of them, from the left -/
def evc (c : Ctx) : Es → Env → Mem → T (Bool × Mem)
  | .nil, _, h => .ret (true, h)
  | .cons e es, env, h => (ev c e env h).bind fun p => T.tru p.1.truth (evc c es env p.2) (.ret (false, p.2))
def evo (c : Ctx) : Eo → Env → Mem → T (Option Int × Mem)
  | .no, _, h => .ret (none, h)
  | .so e, env, h => (ev c e env h).bind fun p => T.opt (optI p.1) fun i => .ret (some i, p.2)
def evit (c : Ctx) (b : Bool) : It → Env → Mem → T (List Val × Mem)
  | .seq e, env, h => (ev c e env h).bind fun p => T.opt (optT b p.1) fun xs => .ret (xs, p.2)
  | .rng1 a, env, h => (ev c a env h).bind fun p => T.opt (optI p.1) fun i => T.iff (smallI i) (.ret (rngF i.toNat 0, p.2))
  | .rng2 a d, env, h => (ev c a env h).bind fun p => (ev c d env p.2).bind fun q => T.opt (optI p.1) fun i => T.opt (optI q.1) fun j => T.iff (smallI i && smallI j) (.ret (rngF (j - i).toNat i, q.2))
  | .enum e, env, h => (ev c e env h).bind fun p => T.opt (optT b p.1) fun xs => .ret (enumF 0 xs, p.2)
  | .zip a d, env, h => (ev c a env h).bind fun p => (ev c d env p.2).bind fun q => T.opt (optT b p.1) fun xs => T.opt (optT b q.1) fun ys => .ret (zipF xs ys, q.2)
end

inductive Fl where | next | ret (r : Rv) | brk | cont
abbrev Out := Fl × Env × Mem
/-- behind a statement -/
def Fl.go (o : Out) (nx ct bk : Env → Mem → T Out) : T Out := match o with
  | (.next, e, h) => nx e h
  | (.cont, e, h) => ct e h
  | (.brk, e, h) => bk e h
  | (.ret r, e, h) => .ret (.ret r, e, h)

def forL (st : Val → Env → Option Env) (body : Env → Mem → T Out) : List Val → Env → Mem → T Out
  | [], env, h => .ret (.next, env, h)
  | x :: xs, env, h => T.opt (st x env) fun e => (body e h).bind fun o => Fl.go o (fun e h => forL st body xs e h) (fun e h => forL st body xs e h) fun e h => .ret (.next, e, h)
def whileL (test : Env → Mem → T (Rv × Mem)) (body : Env → Mem → T Out) : Nat → Env → Mem → T Out
  | 0, _, _ => .bad
  | n + 1, env, h => (test env h).bind fun p => T.tru p.1.truth
      ((body env p.2).bind fun o => Fl.go o (fun e h => whileL test body n e h) (fun e h => whileL test body n e h) fun e h => .ret (.next, e, h))
      (.ret (.next, env, p.2))
/-- a slot is bound to what an expression gives: a fresh list is owned -/
def bindS (env : Env) (i : Nat) (r : Rv) : Option Env :=
  if i < env.length then match r with
    | .v x => some (List.set env i (.val x))
    | .new xs => some (List.set env i (.own (.l xs)))
    | .vw _ => none
  else none
def bindSs : Env → List Nat → List Rv → Option Env
  | env, [], [] => some env
  | env, i :: is, r :: rs => (bindS env i r).bind fun e => bindSs e is rs
  | _, _, _ => none
def asgS (t : Tg) (r : Rv) (env : Env) : Option Env :=
  match t with
  | .var i => bindS env i r
  | .tup ts => r.store.bind fun x => (Tg.tup ts).set x env
def ownS (env : Env) (i : Nat) : Option (List Val) :=
  match env[i]? with
  | some (.own (.l xs)) => some xs
  | _ => none
def insertAt {α : Type} (xs : List α) (k : Int) (x : α) : List α :=
  xs.take k.toNat ++ [x] ++ xs.drop k.toNat
def outV : Rv → Option Rv
  | .vw _ => none
  | r => some r
/-- x += y, of whole numbers -/
def augI : Bn → Rv → Rv → Option Val
  | .add, .v (.int i), .v (.int j) => some (.int (i + j))
  | .sub, .v (.int i), .v (.int j) => some (.int (i - j))
  | _, _, _ => none
def shortL (xs : List Val) (k : Nat) : Bool := decide (xs.length + k < 1000000)

mutual
def ex (c : Ctx) : S → Env → Mem → T Out
  | .asg t e, env, h => (ev c e env h).bind fun p => T.opt (asgS t p.1 env) fun env' => .ret (.next, env', p.2)
  | .par is es, env, h => (evs c es env h).bind fun p => T.opt (bindSs env is p.1) fun env' => .ret (.next, env', p.2)
  | .ret e, env, h => (ev c e env h).bind fun p => T.opt (outV p.1) fun r => .ret (.ret r, env, p.2)
  | .retOwn i, env, h => T.opt (ownS env i) fun xs => .ret (.ret (.new xs), env, h)
  | .retN, env, h => .ret (.ret (.v .non), env, h)
  | .ite t a b, env, h => (ev c t env h).bind fun p => T.tru p.1.truth (exs c a env p.2) (exs c b env p.2)
  | .for t it b, env, h => (evit c false it env h).bind fun p => forL (fun x e => t.set x e) (fun e h => exs c b e h) p.1 env p.2
  | .while t b, env, h => whileL (fun e h => ev c t e h) (fun e h => exs c b e h) c.W env h
  | .append i e, env, h => (ev c e env h).bind fun p => T.opt (ownS env i) fun xs => T.opt p.1.store fun x => T.iff (shortL xs 1) (.ret (.next, List.set env i (.own (.l (xs ++ [x]))), p.2))
  | .extend i e, env, h => (ev c e env h).bind fun p => T.opt (ownS env i) fun xs => T.opt p.1.lst fun ys => T.iff (shortL xs ys.length) (.ret (.next, List.set env i (.own (.l (xs ++ ys))), p.2))
  | .setIdx i k e, env, h => (ev c e env h).bind fun p => (ev c k env p.2).bind fun q => T.opt (ownS env i) fun xs => T.opt (optI q.1) fun n => T.opt p.1.store fun x => T.opt (place xs.length n) fun j =>
      .ret (.next, List.set env i (.own (.l (xs.set j x))), q.2)
  | .popAt i j e, env, h => (evo c e env h).bind fun p => T.opt (ownS env j) fun xs => T.opt (place xs.length (p.1.getD (-1))) fun k => T.opt xs[k]? fun x =>
      T.opt (bindS (List.set env j (.own (.l (xs.eraseIdx k)))) i (.v x)) fun env' => .ret (.next, env', p.2)
  | .popPar i i2 j e e2, env, h => (ev c e env h).bind fun p => T.opt (ownS env j) fun xs => T.opt (optI p.1) fun n => T.opt (place xs.length n) fun k => T.opt xs[k]? fun x =>
      (ev c e2 (List.set env j (.own (.l (xs.eraseIdx k)))) p.2).bind fun q => T.opt (bindSs (List.set env j (.own (.l (xs.eraseIdx k)))) [i, i2] [.v x, q.1]) fun env' => .ret (.next, env', q.2)
  | .insert i k e, env, h => (ev c k env h).bind fun q => (ev c e env q.2).bind fun p => T.opt (ownS env i) fun xs => T.opt (optI q.1) fun n => T.opt p.1.store fun x =>
      T.iff (decide (0 ≤ n) && smallI n && shortL xs 1) (.ret (.next, List.set env i (.own (.l (insertAt xs n x))), p.2))
  | .aug i o e, env, h => T.opt (loadS env[i]?) fun r => (ev c e env h).bind fun p => T.opt (augI o r p.1) fun x => T.opt (bindS env i (.v x)) fun env' => .ret (.next, env', p.2)
  | .augIdx i k o e, env, h => (ev c k env h).bind fun q => T.opt (ownS env i) fun xs => T.opt (optI q.1) fun n => T.opt (place xs.length n) fun j => T.opt xs[j]? fun x =>
      (ev c e env q.2).bind fun p => T.opt (augI o (.v x) p.1) fun y => .ret (.next, List.set env i (.own (.l (xs.set j y))), p.2)
  | .freeze i, env, h => match ownS env i with
    | some xs => .ret (.next, List.set env i (.val (.lst xs)), h)
    | none => .ret (.next, env, h)
  | .forget is, env, h => .ret (.next, wipeE env is, h)
  | .pass, env, h => .ret (.next, env, h)
  | .brk, env, h => .ret (.brk, env, h)
  | .cont, env, h => .ret (.cont, env, h)
  | .never, _, _ => .bad
  | .memo i key body v, env, h => (ev c key env h).bind fun p => T.opt (loadS env[i]?) fun q => T.opt (memoK c.M p.1 q) fun kv => .draw 2 fun b => match decide (b = 0) with
      | true => (ev c key env p.2).bind fun p' => T.opt (memoK c.M p'.1 q) fun kv' => T.iff (kv'.beq kv) (.ret (.ret (.v (c.M.D kv)), env, p'.2))
      | false => (exs c body env p.2).bind fun o => Fl.go o (fun e h => (ev c v e h).bind fun r => T.opt (loadS e[i]?) fun q => (ev c key e r.2).bind fun p => T.opt (memoK c.M p.1 q) fun k2 => T.opt r.1.store fun x => T.iff (x.beq (c.M.D k2))
            ((ev c key e p.2).bind fun p' => T.opt (memoK c.M p'.1 q) fun k3 => T.iff (k3.beq k2) (.ret (.ret (.v (c.M.D k2)), e, p'.2))))
          (fun e h => .ret (.cont, e, h)) fun e h => .ret (.brk, e, h)
  | .dnew i, env, h => T.iff (decide (i < env.length)) (.ret (.next, List.set env i (.own (.d [])), h))
  | .dput i k v, env, h => (ev c v env h).bind fun p => (ev c k env p.2).bind fun q => T.opt (dicS env i) fun kvs => T.opt (optI q.1) fun n => T.opt p.1.store fun x => T.iff (decide (kvs.length < 1000000)) (.ret (.next, List.set env i (.own (.d (dPut kvs n x))), q.2))
  | .dcomp i kx vx tg it own, env, h => T.iff (noOwn env own) ((evit c true it env h).bind fun p =>
      (dcompL (fun x => tg.set x (wipeE env own)) (fun e h => (ev c kx e h).bind fun p => .ret (optI p.1, p.2)) (fun e h => ev c vx e h) p.1 [] p.2).bind fun q => T.iff (decide (i < env.length)) (.ret (.next, List.set env i (.own (.d q.1)), q.2)))
def exs (c : Ctx) : Ss → Env → Mem → T Out
  | .nil, env, h => .ret (.next, env, h)
  | .cons s r, env, h => (ex c s env h).bind fun o => Fl.go o (fun e h => exs c r e h) (fun e h => .ret (.cont, e, h)) fun e h => .ret (.brk, e, h)
end

structure Fn where
  np : Nat
  ns : Nat
  body : Ss
/-- a def's run: the arguments in the first slots -/
def endF : Out → T (Rv × Mem)
  | (.next, _, h) => .ret (.v .non, h)
  | (.ret r, _, h) => .ret (r, h)
  | _ => .bad
def runFn (c : Ctx) (f : Fn) (args : List Val) (h : Mem) : T (Rv × Mem) :=
  T.iff (args.length == f.np) ((exs c f.body (args.map .val ++ List.replicate (f.ns - f.np) .emp) h).bind endF)
structure Prog where
  G : Nat → Option Val
  F : Nat → Option Fn
  W : Nat
  M : Known
def Prog.call (P : Prog) : Nat → Nat → List Val → Mem → T (Rv × Mem)
  | 0, _, _, _ => .bad
  | n + 1, k, args, h => T.opt (P.F k) fun f => runFn ⟨P.G, P.call n, P.W, P.M⟩ f args h
abbrev Prog.ctx (P : Prog) (n : Nat) : Ctx := ⟨P.G, P.call n, P.W, P.M⟩
end MP
end
section
set_option Elab.async false
set_option linter.all false
set_option autoImplicit false
set_option maxRecDepth 100000
set_option maxHeartbeats 4000000
/-! MPRep: how values of the small language lie in the abstract heap. -/
namespace MP
open PySem PySem.Spec PyProof.Rows L2

/-- what stands fixed: the written part, where the defs are, the box (its list, the list of its cells), if there is one -/
structure Zx where
  K : PySem.W.Frag
  fa : Nat → Option Addr
  bx : Option (Addr × Addr)
  w : World
  M : Known
def Zx.Box (z : Zx) (a : Addr) : Prop := ∃ b c, z.bx = some (b, c) ∧ (a = b ∨ a = c)
abbrev AS := Addr → Prop

/-! ### dicts of known answers -/
mutual
def toKey : Val → NestedKey
  | .int i => .num i
  | .str s => .text ⟨s.toArray⟩
  | .tup xs => .tup (toKeys xs)
  | _ => .none
def toKeys : List Val → List NestedKey
  | [] => []
  | x :: xs => toKey x :: toKeys xs
end
mutual
theorem toKey_inj : ∀ {n m : Nat} {v w : Val}, v.key n = true → w.key m = true → toKey v = toKey w → v = w
  | n, m, .non, w, h, h', e => by cases w <;> cases m <;> simp [Val.key] at h' <;> simp [toKey] at e <;> rfl
  | n, m, .int i, w, h, h', e => by cases w <;> cases m <;> simp [Val.key] at h' <;> simp [toKey] at e <;> rw [e]
  | n, m, .str s, w, h, h', e => by cases w <;> cases m <;> simp [Val.key] at h' <;> simp [toKey] at e <;> rw [e]
  | n, m, .tup xs, w, h, h', e => by
    cases n with
    | zero => simp [Val.key] at h
    | succ n =>
      cases w <;> cases m <;> simp only [Val.key, Bool.false_eq_true] at h h' <;> simp only [toKey, reduceCtorEq, NestedKey.tup.injEq] at e
      rw [toKeys_inj h h' e]
  | n, m, .bl b, w, h, h', e => by cases n <;> simp [Val.key] at h
  | n, m, .lst b, w, h, h', e => by cases n <;> simp [Val.key] at h
  | n, m, .ref b, w, h, h', e => by cases n <;> simp [Val.key] at h
  | n, m, .box, w, h, h', e => by cases n <;> simp [Val.key] at h
  | n, m, .fn b, w, h, h', e => by cases n <;> simp [Val.key] at h
theorem toKeys_inj : ∀ {n m : Nat} {v w : List Val}, Val.keys n v = true → Val.keys m w = true → toKeys v = toKeys w → v = w
  | n, m, [], [], _, _, _ => rfl
  | n, m, [], _ :: _, _, _, e => by simp [toKeys] at e
  | n, m, _ :: _, [], _, _, e => by simp [toKeys] at e
  | n, m, x :: xs, y :: ys, h, h', e => by
    simp only [Val.keys, Bool.and_eq_true] at h h'
    simp only [toKeys, List.cons.injEq] at e
    rw [toKey_inj h.1 h'.1 e.1, toKeys_inj h.2 h'.2 e.2]
end
mutual
def KeyR (K : PySem.W.Frag) (H : Hp) : NestedKey → V → Prop
  | .none, v => v = .non
  | .num i, v => v = .int i
  | .text x, v => v = .str x
  | .tup ks, v => ∃ a vs, v = .ref a ∧ SqT K H a vs ∧ KeyRs K H ks vs
def KeyRs (K : PySem.W.Frag) (H : Hp) : List NestedKey → List V → Prop
  | [], vs => vs = []
  | k :: ks, vs => ∃ v ws, vs = v :: ws ∧ KeyR K H k v ∧ KeyRs K H ks ws
end
mutual
theorem KeyR.mono {K : PySem.W.Frag} {H H' : Hp} (hs : ∀ a vs, SqT K H a vs → SqT K H' a vs) : ∀ (k : NestedKey) {v : V}, KeyR K H k v → KeyR K H' k v
  | .none, v, h => by simpa only [KeyR] using h
  | .num i, v, h => by simpa only [KeyR] using h
  | .text x, v, h => by simpa only [KeyR] using h
  | .tup ks, v, h => by
    simp only [KeyR] at h ⊢
    obtain ⟨a, vs, e, q, r⟩ := h
    exact ⟨a, vs, e, hs a vs q, KeyRs.mono hs ks r⟩
theorem KeyRs.mono {K : PySem.W.Frag} {H H' : Hp} (hs : ∀ a vs, SqT K H a vs → SqT K H' a vs) : ∀ (k : List NestedKey) {v : List V}, KeyRs K H k v → KeyRs K H' k v
  | [], v, h => by simpa only [KeyRs] using h
  | k :: ks, vs, h => by
    simp only [KeyRs] at h ⊢
    obtain ⟨v, ws, e, q, r⟩ := h
    exact ⟨v, ws, e, KeyR.mono hs k q, KeyRs.mono hs ks r⟩
end
abbrev Ents := List (NestedKey × Addr × Value)
/-- the dict at a, its entries -/
def dictO (w : World) (a : Addr) (xs : Ents) : HO := .ext fun h => ∃ o es ep, h.get? a = some o ∧ o.ExactDict ∧ o.data = .dict es ep ∧ es.toList = xs.map (fun x => (⟨x.1.hash w, .ref x.2.1, x.2.2⟩ : DictEntry)) ∧ (xs.map (·.1)).Nodup
def immV : Val → Option V
  | .non => some .non
  | .bl b => some (.bl b)
  | .int i => some (.int i)
  | _ => none
def EntOk (z : Zx) (H : Hp) (x : NestedKey × Addr × Value) : Prop := ∃ kv, keyOk z.M kv = true ∧ x.1 = toKey kv ∧ KeyR z.K H x.1 (.ref x.2.1) ∧ ∃ iv, immV (z.M.D kv) = some iv ∧ RelV iv x.2.2
structure MemoX (z : Zx) (H : Hp) (a : Addr) (xs : Ents) : Prop where
  at_ : H a = some (dictO z.w a xs)
  ns : (a == sysModules) = false
  ent : ∀ x ∈ xs, EntOk z H x
def MemoAt (z : Zx) (H : Hp) (a : Addr) : Prop := ∃ xs, MemoX z H a xs
theorem MemoX.mono {z : Zx} {H H' : Hp} {a : Addr} {xs : Ents} (m : MemoX z H a xs) (ha : ∀ φ, H a = some (.ext φ) → H' a = some (.ext φ)) (hs : ∀ a vs, SqT z.K H a vs → SqT z.K H' a vs) : MemoX z H' a xs := by
  obtain ⟨e, n, q⟩ := m
  refine ⟨ha _ e, n, fun x m => ?_⟩
  obtain ⟨kv, k1, k2, k3, k4⟩ := q x m
  exact ⟨kv, k1, k2, KeyR.mono hs _ k3, k4⟩
theorem MemoAt.mono {z : Zx} {H H' : Hp} {a : Addr} (m : MemoAt z H a) (ha : ∀ φ, H a = some (.ext φ) → H' a = some (.ext φ)) (hs : ∀ a vs, SqT z.K H a vs → SqT z.K H' a vs) : MemoAt z H' a := by
  obtain ⟨xs, m⟩ := m
  exact ⟨xs, m.mono ha hs⟩
theorem sqT_same {K : PySem.W.Frag} {H H' : Hp} (s : ∀ a o, H a = some o → (∀ xs, o ≠ .lst xs) → H' a = some o) {a : Addr} {vs : List V} (h : SqT K H a vs) : SqT K H' a vs := by
  rcases h with (h | ⟨o, h⟩) | h
  · exact .inl (.inl (s _ _ h fun _ q => by cases q))
  · exact .inl (.inr ⟨o, s _ _ h fun _ q => by cases q⟩)
  · exact .inr h
/-- but at a changed list -/
theorem sqT_updL {K : PySem.W.Frag} {H : Hp} {b : Addr} {ws : List V} {o : HO} (hb : H b = some (.lst ws)) {a : Addr} {vs : List V} (h : SqT K H a vs) : SqT K (L2.upd H b o) a vs :=
  sqT_same (fun a o e n => by rw [upd_ne (fun q => by subst q; rw [hb] at e; exact n ws (Option.some.inj e).symm)]; exact e) h

mutual
def Rep (z : Zx) (M : AS) (H : Hp) : Val → V → Prop
  | .non, v => v = .non
  | .bl b, v => v = .bl b
  | .int i, v => v = .int i
  | .str s, v => s.length ≤ sizeMax ∧ v = .str ⟨s.toArray⟩
  | .tup xs, v => xs.length ≤ sizeMax ∧ ∃ a vs, v = .ref a ∧ SqT z.K H a vs ∧ Reps z M H xs vs
  | .lst xs, v => xs.length ≤ sizeMax ∧ ∃ a vs, v = .ref a ∧ H a = some (.lst vs) ∧ ¬ M a ∧ Reps z M H xs vs
  | .ref _, v => ∃ a, v = .ref a ∧ MemoAt z H a
  | .box, v => ∃ b c, z.bx = some (b, c) ∧ v = .ref b
  | .fn k, v => ∃ a, z.fa k = some a ∧ v = .ref a
def Reps (z : Zx) (M : AS) (H : Hp) : List Val → List V → Prop
  | [], vs => vs = []
  | x :: xs, vs => ∃ v ws, vs = v :: ws ∧ Rep z M H x v ∧ Reps z M H xs ws
end

/-- the box: its cells, a number, a number -/
def BoxAt (H : Hp) (b c : Addr) : Prop := b ≠ c ∧ ∃ (cs : List Int) (x y : Int), H b = some (.lst [.ref c, .int x, .int y]) ∧ H c = some (.lst (cs.map V.int)) ∧
  cs.length ≤ 1000 ∧ 0 ≤ x ∧ 0 ≤ y ∧ y < 2147483647
def BoxOk (z : Zx) (H : Hp) : Prop := ∀ b c, z.bx = some (b, c) → BoxAt H b c
/-- all but the box stays -/
structure Keeps (z : Zx) (H H' : Hp) : Prop where
  atx : ∀ a o, H a = some o → (∀ φ, o ≠ .ext φ) → ¬ z.Box a → H' a = some o
  trk : ∀ a, H' a = none → H a = none
  box : BoxOk z H → BoxOk z H'
  memx : BoxOk z H → ∀ a xs, MemoX z H a xs → ∃ ys, MemoX z H' a ys ∧ ∀ x ∈ xs, ∃ y ∈ ys, y.1 = x.1

section
variable {z : Zx} {M M' : AS} {H H' H1 H2 : Hp}
theorem Keeps.at_ (k : Keeps z H H') (a : Addr) (xs : List V) (h : H a = some (.lst xs)) (n : ¬ z.Box a) : H' a = some (.lst xs) := k.atx a _ h (fun φ q => by cases q) n
theorem Keeps.refl : Keeps z H H := ⟨fun _ _ h _ _ => h, fun _ h => h, fun h => h, fun _ _ xs m => ⟨xs, m, fun x q => ⟨x, q, rfl⟩⟩⟩
theorem Keeps.trans (a : Keeps z H H1) (b : Keeps z H1 H2) : Keeps z H H2 := ⟨fun x o h q n => b.atx x o (a.atx x o h q n) q n, fun x h => a.trk x (b.trk x h), fun h => b.box (a.box h), fun ok x xs m => by
  obtain ⟨ys, m1, q1⟩ := a.memx ok x xs m
  obtain ⟨zs, m2, q2⟩ := b.memx (a.box ok) x ys m1
  refine ⟨zs, m2, fun y hy => ?_⟩
  obtain ⟨y1, h1, e1⟩ := q1 y hy
  obtain ⟨y2, h2, e2⟩ := q2 y1 h1
  exact ⟨y2, h2, e2.trans e1⟩⟩
theorem Keeps.memo (k : Keeps z H H') (ok : BoxOk z H) (a : Addr) (m : MemoAt z H a) : MemoAt z H' a := by
  obtain ⟨xs, m⟩ := m
  obtain ⟨ys, m, _⟩ := k.memx ok a xs m
  exact ⟨ys, m⟩
theorem BoxAt.same {b c : Addr} (h : BoxAt H b c) (s : Same H H') : BoxAt H' b c := by
  obtain ⟨n, cs, x, y, h1, h2, r⟩ := h
  exact ⟨n, cs, x, y, s _ _ h1, s _ _ h2, r⟩
theorem Keeps.same (s : Same H H') : Keeps z H H' := ⟨fun a o h _ _ => s a o h, fun _ h => s.free h, fun h b c e => (h b c e).same s, fun _ a xs m => ⟨xs, m.mono (fun φ e => s a _ e) fun a vs q => sqT_same (fun a o e _ => s a o e) q, fun x q => ⟨x, q, rfl⟩⟩⟩
theorem same_new {p : Addr} {o : HO} (h : H p = none) : Same H (upd H p o) := fun b x e => by
  rw [upd_ne (ne_of_none e h)]
  exact e
theorem Keeps.new {p : Addr} {o : HO} (h : H p = none) : Keeps z H (upd H p o) := .same (same_new h)
theorem Zx.Box.lst {a : Addr} (h : z.Box a) (ok : BoxOk z H) : ∃ xs, H a = some (.lst xs) := by
  obtain ⟨b, c, e, r⟩ := h
  obtain ⟨_, cs, x, y, h1, h2, _⟩ := ok b c e
  rcases r with rfl | rfl
  · exact ⟨_, h1⟩
  · exact ⟨_, h2⟩
theorem sqT_keep {K : PySem.W.Frag} {a : Addr} {vs : List V} (ok : BoxOk z H) (k : Keeps z H H') (h : SqT K H a vs) : SqT K H' a vs := by
  have nb : ∀ {o}, H a = some o → (∀ xs, o ≠ .lst xs) → (∀ φ, o ≠ .ext φ) → H' a = some o := fun {o} e ne nx => k.atx a o e nx fun b => by
    obtain ⟨xs, e'⟩ := b.lst ok
    rw [e] at e'
    exact ne xs (Option.some.inj e')
  rcases h with (h | ⟨o, h⟩) | h
  · exact .inl (.inl (nb h (fun _ q => by cases q) fun _ q => by cases q))
  · exact .inl (.inr ⟨o, nb h (fun _ q => by cases q) fun _ q => by cases q⟩)
  · exact .inr h

mutual
/-- a value stays where all but the box stays, and new addresses may be closed -/
theorem Rep.mono (ok : BoxOk z H) (k : Keeps z H H') (hb : ∀ a, z.Box a → M a) (hm : ∀ a, M' a → M a ∨ H a = none) : ∀ (x : Val) {v : V}, Rep z M H x v → Rep z M' H' x v
  | .non, v, h => by simpa only [Rep] using h
  | .bl b, v, h => by simpa only [Rep] using h
  | .int i, v, h => by simpa only [Rep] using h
  | .str s, v, h => by simpa only [Rep] using h
  | .tup xs, v, h => by
    simp only [Rep] at h ⊢
    obtain ⟨l, a, vs, e, q, r⟩ := h
    exact ⟨l, a, vs, e, sqT_keep ok k q, Reps.mono ok k hb hm xs r⟩
  | .lst xs, v, h => by
    simp only [Rep] at h ⊢
    obtain ⟨l, a, vs, e, q, n, r⟩ := h
    refine ⟨l, a, vs, e, k.at_ a _ q fun b => n (hb a b), fun m => ?_, Reps.mono ok k hb hm xs r⟩
    rcases hm a m with m | m
    · exact n m
    · rw [q] at m; cases m
  | .ref _, v, h => by
    simp only [Rep] at h ⊢
    obtain ⟨a, e, m⟩ := h
    exact ⟨a, e, k.memo ok a m⟩
  | .box, v, h => by simpa only [Rep] using h
  | .fn _, v, h => by simpa only [Rep] using h
theorem Reps.mono (ok : BoxOk z H) (k : Keeps z H H') (hb : ∀ a, z.Box a → M a) (hm : ∀ a, M' a → M a ∨ H a = none) : ∀ (xs : List Val) {vs : List V}, Reps z M H xs vs → Reps z M' H' xs vs
  | [], vs, h => by simpa only [Reps] using h
  | x :: xs, vs, h => by
    simp only [Reps] at h ⊢
    obtain ⟨v, ws, e, r, s⟩ := h
    exact ⟨v, ws, e, Rep.mono ok k hb hm x r, Reps.mono ok k hb hm xs s⟩
end
mutual
theorem Rep.less (hm : ∀ a, M' a → M a) : ∀ (x : Val) {v : V}, Rep z M H x v → Rep z M' H x v
  | .non, v, h => by simpa only [Rep] using h
  | .bl b, v, h => by simpa only [Rep] using h
  | .int i, v, h => by simpa only [Rep] using h
  | .str s, v, h => by simpa only [Rep] using h
  | .tup xs, v, h => by
    simp only [Rep] at h ⊢
    obtain ⟨l, a, vs, e, q, r⟩ := h
    exact ⟨l, a, vs, e, q, Reps.less hm xs r⟩
  | .lst xs, v, h => by
    simp only [Rep] at h ⊢
    obtain ⟨l, a, vs, e, q, n, r⟩ := h
    exact ⟨l, a, vs, e, q, fun m => n (hm a m), Reps.less hm xs r⟩
  | .ref _, v, h => by simpa only [Rep] using h
  | .box, v, h => by simpa only [Rep] using h
  | .fn _, v, h => by simpa only [Rep] using h
theorem Reps.less (hm : ∀ a, M' a → M a) : ∀ (xs : List Val) {vs : List V}, Reps z M H xs vs → Reps z M' H xs vs
  | [], vs, h => by simpa only [Reps] using h
  | x :: xs, vs, h => by
    simp only [Reps] at h ⊢
    obtain ⟨v, ws, e, r, s⟩ := h
    exact ⟨v, ws, e, Rep.less hm x r, Reps.less hm xs s⟩
end
mutual
theorem Rep.free : ∀ (x : Val) {v : V}, x.noLst = true → Rep z M H x v → Rep z M' H x v
  | .non, v, _, h => by simpa only [Rep] using h
  | .bl b, v, _, h => by simpa only [Rep] using h
  | .int i, v, _, h => by simpa only [Rep] using h
  | .str s, v, _, h => by simpa only [Rep] using h
  | .tup xs, v, q, h => by
    simp only [Rep, Val.noLst] at h q ⊢
    obtain ⟨l, a, vs, e, t, r⟩ := h
    exact ⟨l, a, vs, e, t, Reps.free xs q r⟩
  | .lst xs, v, q, h => by cases q
  | .ref _, v, _, h => by simpa only [Rep] using h
  | .box, v, _, h => by simpa only [Rep] using h
  | .fn _, v, _, h => by simpa only [Rep] using h
theorem Reps.free : ∀ (xs : List Val) {vs : List V}, Val.noLsts xs = true → Reps z M H xs vs → Reps z M' H xs vs
  | [], vs, _, h => by simpa only [Reps] using h
  | x :: xs, vs, q, h => by
    simp only [Reps, Val.noLsts, Bool.and_eq_true] at h q ⊢
    obtain ⟨v, ws, e, r, s⟩ := h
    exact ⟨v, ws, e, Rep.free x q.1 r, Reps.free xs q.2 s⟩
end
theorem Reps.nil : Reps z M H [] [] := by simp only [Reps]
theorem Reps.cons {x : Val} {v : V} {xs : List Val} {vs : List V} (h : Rep z M H x v) (r : Reps z M H xs vs) : Reps z M H (x :: xs) (v :: vs) := by
  simp only [Reps]
  exact ⟨v, vs, rfl, h, r⟩
theorem Reps.length : ∀ {xs : List Val} {vs : List V}, Reps z M H xs vs → vs.length = xs.length
  | [], vs, h => by simp only [Reps] at h; rw [h]; rfl
  | x :: xs, vs, h => by
    simp only [Reps] at h
    obtain ⟨v, ws, rfl, r, s⟩ := h
    simp [Reps.length s]
theorem Reps.get : ∀ {xs : List Val} {vs : List V} {i : Nat} {x : Val}, Reps z M H xs vs → xs[i]? = some x → ∃ v, vs[i]? = some v ∧ Rep z M H x v
  | [], _, _, _, _, e => by simp at e
  | y :: ys, vs, i, x, h, e => by
    simp only [Reps] at h
    obtain ⟨v, ws, rfl, r, s⟩ := h
    cases i with
    | zero => simp at e; subst e; exact ⟨v, by simp, r⟩
    | succ i =>
      obtain ⟨w, e', r'⟩ := Reps.get (i := i) s (by simpa using e)
      exact ⟨w, by simpa using e', r'⟩
theorem Reps.append : ∀ {xs ys : List Val} {vs ws : List V}, Reps z M H xs vs → Reps z M H ys ws → Reps z M H (xs ++ ys) (vs ++ ws)
  | [], _, vs, _, h, r => by simp only [Reps] at h; subst h; simpa using r
  | x :: xs, ys, vs, ws, h, r => by
    simp only [Reps] at h
    obtain ⟨v, us, rfl, h1, h2⟩ := h
    exact Reps.cons h1 (Reps.append h2 r)
theorem Reps.take : ∀ {xs : List Val} {vs : List V} (n : Nat), Reps z M H xs vs → Reps z M H (xs.take n) (vs.take n)
  | _, _, 0, _ => by simpa using Reps.nil
  | [], vs, n + 1, h => by simp only [Reps] at h; subst h; simpa using Reps.nil
  | x :: xs, vs, n + 1, h => by
    simp only [Reps] at h
    obtain ⟨v, us, rfl, h1, h2⟩ := h
    exact Reps.cons h1 (Reps.take n h2)
theorem Reps.drop : ∀ {xs : List Val} {vs : List V} (n : Nat), Reps z M H xs vs → Reps z M H (xs.drop n) (vs.drop n)
  | _, _, 0, h => by simpa using h
  | [], vs, n + 1, h => by simp only [Reps] at h; subst h; simpa using Reps.nil
  | x :: xs, vs, n + 1, h => by
    simp only [Reps] at h
    obtain ⟨v, us, rfl, h1, h2⟩ := h
    simpa using Reps.drop n h2
theorem Reps.reverse : ∀ {xs : List Val} {vs : List V}, Reps z M H xs vs → Reps z M H xs.reverse vs.reverse
  | [], vs, h => by simp only [Reps] at h; subst h; simpa using Reps.nil
  | x :: xs, vs, h => by
    simp only [Reps] at h
    obtain ⟨v, us, rfl, h1, h2⟩ := h
    simpa using Reps.append (Reps.reverse h2) (Reps.cons h1 Reps.nil)
theorem Reps.set : ∀ {xs : List Val} {vs : List V} (i : Nat) {x : Val} {v : V}, Reps z M H xs vs → Rep z M H x v → Reps z M H (xs.set i x) (vs.set i v)
  | [], vs, i, x, v, h, r => by simp only [Reps] at h; subst h; simpa using Reps.nil
  | y :: ys, vs, i, x, v, h, r => by
    simp only [Reps] at h
    obtain ⟨w, us, rfl, h1, h2⟩ := h
    cases i with
    | zero => exact Reps.cons r h2
    | succ i => exact Reps.cons h1 (Reps.set i h2 r)
theorem Reps.eraseIdx : ∀ {xs : List Val} {vs : List V} (i : Nat), Reps z M H xs vs → Reps z M H (xs.eraseIdx i) (vs.eraseIdx i)
  | [], vs, i, h => by simp only [Reps] at h; subst h; simpa using Reps.nil
  | y :: ys, vs, i, h => by
    simp only [Reps] at h
    obtain ⟨w, us, rfl, h1, h2⟩ := h
    cases i with
    | zero => simpa using h2
    | succ i => exact Reps.cons h1 (Reps.eraseIdx i h2)
theorem Reps.replicate {xs : List Val} {vs : List V} (h : Reps z M H xs vs) : ∀ n : Nat, Reps z M H (List.replicate n xs).flatten (List.replicate n vs).flatten
  | 0 => by simpa using Reps.nil
  | n + 1 => by simpa [List.replicate_succ] using Reps.append h (Reps.replicate h n)
theorem Reps.intsOf : ∀ {xs : List Val} {vs : List V} {ns : List Int}, Reps z M H xs vs → intsOf xs = some ns → vs = ns.map V.int
  | [], vs, ns, h, e => by simp only [Reps] at h; simp only [MP.intsOf, Option.some.injEq] at e; subst h e; rfl
  | x :: xs, vs, ns, h, e => by
    simp only [Reps] at h
    obtain ⟨w, us, rfl, h1, h2⟩ := h
    cases x <;> simp only [MP.intsOf, reduceCtorEq, Option.map_eq_some_iff] at e
    obtain ⟨ms, e1, rfl⟩ := e
    simp only [Rep] at h1
    rw [h1, Reps.intsOf h2 e1]; rfl
theorem Reps.boolsOf : ∀ {xs : List Val} {vs : List V} {ns : List Bool}, Reps z M H xs vs → boolsOf xs = some ns → vs = ns.map V.bl
  | [], vs, ns, h, e => by simp only [Reps] at h; simp only [MP.boolsOf, Option.some.injEq] at e; subst h e; rfl
  | x :: xs, vs, ns, h, e => by
    simp only [Reps] at h
    obtain ⟨w, us, rfl, h1, h2⟩ := h
    cases x <;> simp only [MP.boolsOf, reduceCtorEq, Option.map_eq_some_iff] at e
    obtain ⟨ms, e1, rfl⟩ := e
    simp only [Rep] at h1
    rw [h1, Reps.boolsOf h2 e1]; rfl
theorem Reps.ofInts : ∀ (ns : List Int), Reps z M H (ns.map .int) (ns.map V.int)
  | [] => Reps.nil
  | n :: ns => Reps.cons (by simp only [Rep]) (Reps.ofInts ns)
end
end MP
end
section
set_option Elab.async false
set_option linter.all false
set_option autoImplicit false
set_option maxRecDepth 100000
set_option maxHeartbeats 4000000
/-! MPRel: slots and what an expression gives. -/
namespace MP
open PySem PySem.Spec PyProof.Rows L2
abbrev St := L2.St

def OwnA (env : Env) (σ : St) : AS := fun a => ∃ (i : Nat) (xs : OL), env[i]? = some (Slot.own xs) ∧ σ[i]? = some (some (.ref a))
/-- what stands fixed through a def's body: closed addresses, the heap at the entry -/
structure Fr where
  Mx : AS
  H0 : Hp
  pin : List (Val × V) := []
/-- closed: what must not be looked at by a value that stands -/
def Clo (R : Fr) (env : Env) (σ : St) : AS := fun a => R.Mx a ∨ OwnA env σ a
/-- a dict's entries -/
def DR (z : Zx) (M : AS) (H : Hp) : List (Int × Val) → List (Key × V) → Prop
  | [], ks => ks = []
  | p :: kvs, ks => ∃ v r, ks = ((.inl p.1 : Key), v) :: r ∧ Rep z M H p.2 v ∧ DR z M H kvs r
theorem DR.imp {z : Zx} {M M' : AS} {H H' : Hp} (f : ∀ (x : Val) {v : V}, Rep z M H x v → Rep z M' H' x v) : ∀ {kvs : List (Int × Val)} {ks : List (Key × V)}, DR z M H kvs ks → DR z M' H' kvs ks
  | [], ks, h => h
  | p :: kvs, ks, h => by
    obtain ⟨v, r, e, h1, h2⟩ := h
    exact ⟨v, r, e, f _ h1, DR.imp f h2⟩
theorem DR.len {z : Zx} {M : AS} {H : Hp} : ∀ {kvs : List (Int × Val)} {ks : List (Key × V)}, DR z M H kvs ks → ks.length = kvs.length
  | [], ks, h => by rw [show ks = [] from h]; rfl
  | p :: kvs, ks, h => by
    obtain ⟨v, r, rfl, h1, h2⟩ := h
    simp [DR.len h2]
/-- what an own slot's address holds -/
def OwnR (z : Zx) (M : AS) (H : Hp) : OL → Addr → Prop
  | .l xs, a => ∃ vs, H a = some (.lst vs) ∧ Reps z M H xs vs ∧ xs.length ≤ sizeMax
  | .d kvs, a => ∃ ks, H a = some (.dK ks) ∧ DR z M H kvs ks ∧ kvs.length ≤ sizeMax
/-- lists and dicts -/
def Wr (o : HO) : Prop := (∃ us, o = .lst us) ∨ ∃ ks, o = .dK ks
theorem OwnR.at_ {z : Zx} {M : AS} {H : Hp} : ∀ {o : OL} {a : Addr}, OwnR z M H o a → ∃ u, H a = some u ∧ Wr u
  | .l xs, a, h => by obtain ⟨vs, e, _⟩ := h; exact ⟨_, e, .inl ⟨_, rfl⟩⟩
  | .d xs, a, h => by obtain ⟨vs, e, _⟩ := h; exact ⟨_, e, .inr ⟨_, rfl⟩⟩
theorem OwnR.less {z : Zx} {M M' : AS} {H : Hp} (hm : ∀ a, M' a → M a) : ∀ {o : OL} {a : Addr}, OwnR z M H o a → OwnR z M' H o a
  | .l xs, a, h => by obtain ⟨vs, e, q, l⟩ := h; exact ⟨vs, e, Reps.less hm xs q, l⟩
  | .d xs, a, h => by obtain ⟨vs, e, q, l⟩ := h; exact ⟨vs, e, q.imp (fun x _ r => Rep.less hm x r), l⟩
theorem OwnR.keep {z : Zx} {M M' : AS} {H H' : Hp} (ok : BoxOk z H) (k : Keeps z H H') (hb : ∀ a, z.Box a → M a) (hm : ∀ a, M' a → M a ∨ H a = none) : ∀ {o : OL} {a : Addr}, ¬ z.Box a → OwnR z M H o a → OwnR z M' H' o a
  | .l xs, a, nb, h => by obtain ⟨vs, e, q, l⟩ := h; exact ⟨vs, k.at_ a _ e nb, Reps.mono ok k hb hm xs q, l⟩
  | .d xs, a, nb, h => by obtain ⟨vs, e, q, l⟩ := h; exact ⟨vs, k.atx a _ e (fun φ q => by cases q) nb, q.imp (fun x _ r => Rep.mono ok k hb hm x r), l⟩
def RelSlot (z : Zx) (M : AS) (H : Hp) : Slot → Option V → Prop
  | .emp, _ => True
  | .val x, some v => Rep z M H x v
  | .own xs, some (.ref a) => OwnR z M H xs a
  | _, _ => False
structure Rel (z : Zx) (R : Fr) (env : Env) (σ : St) (H : Hp) : Prop where
  len : σ.length = env.length
  slot : ∀ (i : Nat) (s : Slot) (o : Option V), env[i]? = some s → σ[i]? = some o → RelSlot z (Clo R env σ) H s o
  uniq : ∀ (i j : Nat) (a : Addr) (xs ys : OL), env[i]? = some (.own xs) → env[j]? = some (.own ys) → σ[i]? = some (some (.ref a)) → σ[j]? = some (some (.ref a)) → i = j
  mx : ∀ a, OwnA env σ a → ¬ R.Mx a
  own0 : ∀ a, OwnA env σ a → R.H0 a = none
  trk : ∀ a, R.Mx a → H a ≠ none
  keep : Keeps z R.H0 H
  box : BoxOk z H
  bxM : ∀ a, z.Box a → R.Mx a
  pins : ∀ p ∈ R.pin, Rep z (Clo R env σ) H p.1 p.2
section
variable {z : Zx} {R : Fr} {env : Env} {σ : St} {H H' H1 H2 : Hp}
theorem Rel.bxC (r : Rel z R env σ H) : ∀ a, z.Box a → Clo R env σ a := fun a b => .inl (r.bxM a b)
theorem Rel.own_at (r : Rel z R env σ H) {a : Addr} (h : OwnA env σ a) : ∃ u, H a = some u ∧ Wr u := by
  obtain ⟨i, xs, e1, e2⟩ := h
  exact OwnR.at_ (show OwnR z _ H xs a from r.slot i _ _ e1 e2)
theorem Rel.trkC (r : Rel z R env σ H) : ∀ a, Clo R env σ a → H a ≠ none := fun a h => by
  rcases h with h | h
  · exact r.trk a h
  · obtain ⟨u, e, _⟩ := r.own_at h
    rw [e]; simp
theorem Rel.own_nobox (r : Rel z R env σ H) {a : Addr} (h : OwnA env σ a) : ¬ z.Box a := fun b => r.mx a h (r.bxM a b)
theorem RelSlot.keep {M M' : AS} (ok : BoxOk z H) (k : Keeps z H H') (hb : ∀ a, z.Box a → M a) (hm : ∀ a, M' a → M a ∨ H a = none) {s : Slot} {o : Option V} (no : ∀ xs a, s = .own xs → o = some (.ref a) → ¬ z.Box a) (h : RelSlot z M H s o) : RelSlot z M' H' s o := by
  match s, o, h with
  | .emp, _, _ => trivial
  | .val x, some v, h => exact Rep.mono ok k hb hm x h
  | .own xs, some (.ref a), h => exact OwnR.keep ok k hb hm (no xs a rfl rfl) h
/-- behind what keeps all but the box -/
theorem Rel.of_keeps (r : Rel z R env σ H) (k : Keeps z H H') : Rel z R env σ H' :=
  ⟨r.len, fun i s o e1 e2 => (r.slot i s o e1 e2).keep r.box k r.bxC (fun a m => .inl m) (fun xs a q1 q2 => r.own_nobox ⟨i, xs, by rw [e1, q1], by rw [e2, q2]⟩), r.uniq, r.mx, r.own0,
    fun a m e => r.trk a m (k.trk a e), r.keep.trans k, k.box r.box, r.bxM, fun p hp => Rep.mono r.box k r.bxC (fun a m => .inl m) p.1 (r.pins p hp)⟩
/-- more is closed for a while: new addresses -/
def Fr.add (R : Fr) (N : AS) : Fr := ⟨fun a => R.Mx a ∨ N a, R.H0, R.pin⟩
theorem clo_add (R : Fr) (N : AS) (env : Env) (σ : St) : Clo (R.add N) env σ = fun a => Clo R env σ a ∨ N a := by
  funext a
  simp only [Clo, Fr.add, eq_iff_iff]
  constructor
  · rintro ((h | h) | h)
    · exact .inl (.inl h)
    · exact .inr h
    · exact .inl (.inr h)
  · rintro ((h | h) | h)
    · exact .inl (.inl h)
    · exact .inr h
    · exact .inl (.inr h)
theorem Rel.close (r : Rel z R env σ H) (N : AS) (hn : ∀ a, N a → ¬ OwnA env σ a ∧ H a ≠ none) (hs : ∀ (i : Nat) (s : Slot) (o : Option V), env[i]? = some s → σ[i]? = some o → RelSlot z (fun a => Clo R env σ a ∨ N a) H s o)
    (hp : ∀ p ∈ R.pin, Rep z (fun a => Clo R env σ a ∨ N a) H p.1 p.2) : Rel z (R.add N) env σ H := by
  refine ⟨r.len, fun i s o e1 e2 => ?_, r.uniq, fun a h m => ?_, r.own0, fun a m => ?_, r.keep, r.box, fun a b => .inl (r.bxM a b), fun p h => ?_⟩
  · rw [clo_add]
    exact hs i s o e1 e2
  · rcases m with m | m
    · exact r.mx a h m
    · exact (hn a m).1 h
  · rcases m with m | m
    · exact r.trk a m
    · exact (hn a m).2
  · rw [clo_add]
    exact hp p h
/-- .. new ones: from the heap ahead -/
theorem Rel.closeNew (r : Rel z R env σ H) (k : Keeps z H H') (N : AS) (hn : ∀ a, N a → H a = none ∧ H' a ≠ none) : Rel z (R.add N) env σ H' := by
  have r' := r.of_keeps k
  refine r'.close N (fun a m => ⟨fun o => r.trkC a (.inr o) (hn a m).1, (hn a m).2⟩) (fun i s o e1 e2 => ?_) fun p hp => ?_
  · refine (r.slot i s o e1 e2).keep r.box k r.bxC (fun a m => m.imp id fun m => (hn a m).1) fun xs a q1 q2 => r.own_nobox ⟨i, xs, by rw [e1, q1], by rw [e2, q2]⟩
  · exact Rep.mono r.box k r.bxC (fun a m => m.imp id fun m => (hn a m).1) p.1 (r.pins p hp)
/-- less is closed -/
theorem Rel.open {N : AS} (r : Rel z (R.add N) env σ H) (hb : ∀ a, z.Box a → R.Mx a) : Rel z R env σ H := by
  have hm : ∀ a, Clo R env σ a → Clo (R.add N) env σ a := fun a m => m.imp .inl id
  refine ⟨r.len, fun i s o e1 e2 => ?_, r.uniq, fun a h m => r.mx a h (.inl m), r.own0, fun a m => r.trk a (.inl m), r.keep, r.box, hb, fun p h => Rep.less hm p.1 (r.pins p h)⟩
  have h := r.slot i s o e1 e2
  match s, o, h with
  | .emp, _, _ => trivial
  | .val x, some v, h => exact Rep.less hm x h
  | .own xs, some (.ref a), h => exact OwnR.less hm h

/-! ### what an expression gives -/
/-- H: ahead, H': behind -/
def RepR (z : Zx) (M : AS) (O : AS) (H H' : Hp) : Rv → V → Prop
  | .v x, v => Rep z M H' x v
  | .new xs, v => xs.length ≤ sizeMax ∧ ∃ a vs, v = .ref a ∧ H a = none ∧ H' a = some (.lst vs) ∧ Reps z (fun b => M b ∨ b = a) H' xs vs
  | .vw xs, v => xs.length ≤ sizeMax ∧ ∃ a vs, v = .ref a ∧ O a ∧ H' a = some (.lst vs) ∧ Reps z M H' xs vs
/-- the new lists among results -/
def NewA : List Rv → List V → AS
  | [], _ => fun _ => False
  | _ :: _, [] => fun _ => False
  | r :: rs, v :: vs => fun a => ((∃ xs, r = .new xs) ∧ v = .ref a) ∨ NewA rs vs a
def RepRs (z : Zx) (M : AS) (O : AS) (H H' : Hp) : List Rv → List V → Prop
  | [], vs => vs = []
  | r :: rs, vs => ∃ v ws, vs = v :: ws ∧ RepR z (fun a => M a ∨ NewA rs ws a) O H H' r v ∧ RepRs z (fun a => M a ∨ ((∃ xs, r = .new xs) ∧ v = .ref a)) O H H' rs ws ∧
      (∀ a, ((∃ xs, r = .new xs) ∧ v = .ref a) → ¬ NewA rs ws a)
theorem RepR.mono {M M' O : AS} {H0 H H1 H2 : Hp} (ok : BoxOk z H1) (k : Keeps z H1 H2) (hb : ∀ a, z.Box a → M a) (hO : ∀ a, O a → ¬ z.Box a) (hs : ∀ a, H a = none → H0 a = none) (hn : ∀ a, H a = none → ¬ z.Box a) (hm : ∀ a, M' a → M a ∨ H1 a = none) {r : Rv} {v : V} (h : RepR z M O H H1 r v) : RepR z M' O H0 H2 r v := by
  match r, h with
  | .v x, h => exact Rep.mono ok k hb hm x h
  | .new xs, h =>
    obtain ⟨l, a, vs, e, n, q, w⟩ := h
    refine ⟨l, a, vs, e, hs a n, k.at_ a _ q (hn a n), Reps.mono ok k (fun b x => .inl (hb b x)) (fun b m => ?_) xs w⟩
    rcases m with m | m
    · rcases hm b m with m | m
      · exact .inl (.inl m)
      · exact .inr m
    · exact .inl (.inr m)
  | .vw xs, h =>
    obtain ⟨l, a, vs, e, n, q, w⟩ := h
    exact ⟨l, a, vs, e, n, k.at_ a _ q (hO a n), Reps.mono ok k hb hm xs w⟩
theorem NewA.fresh {M O : AS} : ∀ {rs : List Rv} {vs : List V} {M : AS}, RepRs z M O H H' rs vs → ∀ a, NewA rs vs a → H a = none ∧ H' a ≠ none
  | [], vs, M, _, a, h => h.elim
  | r :: rs, vs, M, h, a, n => by
    obtain ⟨v, ws, rfl, h1, h2, _⟩ := h
    rcases n with ⟨⟨xs, rfl⟩, e⟩ | n
    · obtain ⟨_, b, us, e', q1, q2, _⟩ := h1
      rw [e] at e'; cases e'
      exact ⟨q1, by rw [q2]; simp⟩
    · exact NewA.fresh (M := M) (O := O) h2 a n
theorem RepRs.less {O : AS} {H0 : Hp} (hs : ∀ a, H a = none → H0 a = none) : ∀ {rs : List Rv} {vs : List V} {M M' : AS}, (∀ a, M' a → M a) → RepRs z M O H H' rs vs → RepRs z M' O H0 H' rs vs
  | [], vs, M, M', _, h => h
  | r :: rs, vs, M, M', hm, h => by
    obtain ⟨v, ws, rfl, h1, h2, h3⟩ := h
    refine ⟨v, ws, rfl, ?_, RepRs.less hs (fun a m => m.imp (hm a) id) h2, h3⟩
    match r, h1 with
    | .v x, h => exact Rep.less (fun a m => m.imp (hm a) id) x h
    | .new xs, h =>
      obtain ⟨l, a, vs, e, n, q, w⟩ := h
      exact ⟨l, a, vs, e, hs a n, q, Reps.less (fun b m => m.imp (fun m => m.imp (hm b) id) id) xs w⟩
    | .vw xs, h =>
      obtain ⟨l, a, vs, e, n, q, w⟩ := h
      exact ⟨l, a, vs, e, n, q, Reps.less (fun b m => m.imp (hm b) id) xs w⟩
/-- as a value that stands -/
theorem RepR.store {M O : AS} (hM : ∀ a, M a → H a ≠ none) {r : Rv} {v : V} {x : Val} (h : RepR z M O H H' r v) (e : r.store = some x) : Rep z M H' x v := by
  match r, h with
  | .v y, h => cases e; exact h
  | .new xs, h =>
    obtain ⟨l, a, vs, e', n, q, w⟩ := h
    cases e
    simp only [Rep]
    exact ⟨l, a, vs, e', q, fun m => hM a m n, Reps.less (fun b m => .inl m) xs w⟩
  | .vw xs, h => cases e
theorem RepRs.stores {O : AS} : ∀ {rs : List Rv} {vs : List V} {xs : List Val} {M : AS}, (∀ a, M a → H a ≠ none) → RepRs z M O H H' rs vs → stores rs = some xs → Reps z M H' xs vs
  | [], vs, xs, M, hM, h, e => by
    have h : vs = [] := h
    simp only [MP.stores, Option.some.injEq] at e; subst e; subst h; exact Reps.nil
  | r :: rs, vs, xs, M, hM, h, e => by
    obtain ⟨v, ws, rfl, h1, h2, h3⟩ := h
    simp only [MP.stores] at e
    split at e
    · rename_i x ys e1 e2
      cases e
      refine Reps.cons ?_ (RepRs.stores hM (RepRs.less (fun a q => q) (fun a m => .inl m) h2) e2)
      match r, h1 with
      | .v y, h => cases e1; exact Rep.less (fun a m => .inl m) _ h
      | .new zs, h =>
        obtain ⟨l, a, vs, e', n, q, w⟩ := h
        cases e1
        simp only [Rep]
        exact ⟨l, a, vs, e', q, fun m => hM a m n, Reps.less (fun b m => .inl (.inl m)) zs w⟩
      | .vw zs, h => cases e1
    · cases e
/-- the items of a result, behind -/
theorem RepR.items {M O : AS} {r : Rv} {v : V} {xs : List Val} (h : RepR z M O H H' r v) (e : r.items = some xs) : ∃ a vs, v = .ref a ∧ (SqL z.K H' a vs ∨ SqT z.K H' a vs) ∧ Reps z M H' xs vs := by
  match r, h with
  | .v (.tup ys), h =>
    cases e
    simp only [RepR, Rep] at h
    obtain ⟨_, a, vs, e, q, w⟩ := h
    exact ⟨a, vs, e, .inr q, w⟩
  | .v (.lst ys), h =>
    cases e
    simp only [RepR, Rep] at h
    obtain ⟨_, a, vs, e, q, _, w⟩ := h
    exact ⟨a, vs, e, .inl (.of q), w⟩
  | .new ys, h =>
    cases e
    obtain ⟨_, a, vs, e, _, q, w⟩ := h
    exact ⟨a, vs, e, .inl (.of q), Reps.less (fun b m => .inl m) _ w⟩
  | .vw ys, h =>
    cases e
    obtain ⟨_, a, vs, e, _, q, w⟩ := h
    exact ⟨a, vs, e, .inl (.of q), w⟩
theorem RepR.lst {M O : AS} {r : Rv} {v : V} {xs : List Val} (h : RepR z M O H H' r v) (e : r.lst = some xs) : ∃ a vs, v = .ref a ∧ H' a = some (.lst vs) ∧ Reps z M H' xs vs := by
  match r, h with
  | .v (.tup ys), h => cases e
  | .v (.lst ys), h =>
    cases e
    simp only [RepR, Rep] at h
    obtain ⟨_, a, vs, e, q, _, w⟩ := h
    exact ⟨a, vs, e, q, w⟩
  | .new ys, h =>
    cases e
    obtain ⟨_, a, vs, e, _, q, w⟩ := h
    exact ⟨a, vs, e, q, Reps.less (fun b m => .inl m) _ w⟩
  | .vw ys, h =>
    cases e
    obtain ⟨_, a, vs, e, _, q, w⟩ := h
    exact ⟨a, vs, e, q, w⟩

theorem RepR.len {M O : AS} {r : Rv} {v : V} {xs : List Val} (h : RepR z M O H H' r v) (e : r.items = some xs) : xs.length ≤ sizeMax := by
  match r, h with
  | .v (.tup ys), h => cases e; simp only [RepR, Rep] at h; exact h.1
  | .v (.lst ys), h => cases e; simp only [RepR, Rep] at h; exact h.1
  | .new ys, h => cases e; exact h.1
  | .vw ys, h => cases e; exact h.1
theorem lst_items {r : Rv} {xs : List Val} (e : r.lst = some xs) : r.items = some xs := by
  cases r with
  | v x => cases x <;> first | (cases e; rfl) | cases e
  | new _ => cases e; rfl
  | vw _ => cases e; rfl

/-! ### readings -/
variable (z : Zx) (c : Ctx)
def tE (e : E) : TE := fun σ H Q => ∃ R env h, Rel z R env σ H ∧ (ev c e env h).wp fun p => ∀ v H', Keeps z H H' → RepR z (Clo R env σ) (OwnA env σ) H H' p.1 v → Q v H'
def tT (e : E) : TT := fun σ H Q => ∃ R env h, Rel z R env σ H ∧ (ev c e env h).wp fun p => ∃ b, p.1.truth = some b ∧ ∀ H', Keeps z H H' → Q b H'
def tEs (es : Es) : TA := fun σ H Q => ∃ R env h, Rel z R env σ H ∧ (evs c es env h).wp fun p => ∀ vs H', Keeps z H H' → RepRs z (Clo R env σ) (OwnA env σ) H H' p.1 vs → Q vs H'
def tEo (e : Eo) : TO := fun σ H Q => ∃ R env h, Rel z R env σ H ∧ (evo c e env h).wp fun p => ∀ H', Keeps z H H' → Q p.1 H'
end
end MP
end
section
set_option Elab.async false
set_option linter.all false
set_option autoImplicit false
set_option maxRecDepth 100000
set_option maxHeartbeats 4000000
/-! MPPrim: each operation of the small language is what Python's does. -/
namespace MP
open PySem PySem.Spec PyProof.Rows L2

structure Ok (z : Zx) (M : AS) (H : Hp) : Prop where
  box : BoxOk z H
  bxM : ∀ a, z.Box a → M a
  trk : ∀ a, M a → H a ≠ none
def Res (z : Zx) (M O : AS) (H : Hp) (rv : Rv) (Q : VK) : Prop := ∀ v H', Same H H' → RepR z M O H H' rv v → Q v H'
section
variable {z : Zx} {M O : AS} {H Hs : Hp} {Q : VK}
theorem Res.val {x : Val} {v : V} (h : Res z M O H (.v x) Q) (r : Rep z M H x v) : Q v H := h v H (Same.refl H) r
theorem Res.new {xs : List Val} {vs : List V} {p : Addr} (h : Res z M O H (.new xs) Q) (ok : Ok z M H) (hl : xs.length ≤ sizeMax) (r : Reps z M H xs vs) (hp : H p = none) : Q (.ref p) (upd H p (.lst vs)) :=
  h _ _ (same_new hp) ⟨hl, p, vs, rfl, hp, upd_same, Reps.mono ok.box (Keeps.new hp) ok.bxM (fun a m => m.imp id fun e => by rw [e]; exact hp) xs r⟩
theorem Res.tup {xs : List Val} {vs : List V} {p : Addr} (h : Res z M O H (.v (.tup xs)) Q) (ok : Ok z M H) (hl : xs.length ≤ sizeMax) (r : Reps z M H xs vs) (hp : H p = none) : Q (.ref p) (upd H p (.tup vs)) :=
  h _ _ (same_new hp) (by
    simp only [RepR, Rep]
    exact ⟨hl, p, vs, rfl, .of upd_same, Reps.mono ok.box (Keeps.new hp) ok.bxM (fun a m => .inl m) xs r⟩)
theorem RepR.int {r : V} {i : Int} (h : RepR z M O Hs H (.v (.int i)) r) : r = .int i := by simpa only [RepR, Rep] using h
theorem RepR.bl {r : V} {i : Bool} (h : RepR z M O Hs H (.v (.bl i)) r) : r = .bl i := by simpa only [RepR, Rep] using h
theorem RepR.non {r : V} (h : RepR z M O Hs H (.v .non) r) : r = .non := by simpa only [RepR, Rep] using h
theorem RepR.str {r : V} {s : List Nat} (h : RepR z M O Hs H (.v (.str s)) r) : s.length ≤ sizeMax ∧ r = .str ⟨s.toArray⟩ := by simpa only [RepR, Rep] using h
theorem RepR.tup {r : V} {xs : List Val} (h : RepR z M O Hs H (.v (.tup xs)) r) : ∃ a vs, r = .ref a ∧ SqT z.K H a vs ∧ Reps z M H xs vs := by
  simp only [RepR, Rep] at h
  exact h.2
theorem rep_bl (b : Bool) : Rep z M H (.bl b) (.bl b) := by simp only [Rep]
theorem rep_int (b : Int) : Rep z M H (.int b) (.int b) := by simp only [Rep]
theorem rep_non : Rep z M H .non .non := by simp only [Rep]
theorem rep_str {s : List Nat} (h : s.length ≤ sizeMax) : Rep z M H (.str s) (.str ⟨s.toArray⟩) := by simp only [Rep]; exact ⟨h, trivial⟩
theorem sizeMax_eq : sizeLine = sizeMax := by rw [sizeLine_eq]; rfl

def rBin (z : Zx) (f : Rv → Rv → Option Rv) : R2 := fun x y H Q => ∃ M O Hs r q rv, Ok z M H ∧ RepR z M O Hs H r x ∧ RepR z M O Hs H q y ∧ f r q = some rv ∧ Res z M O H rv Q
def rUn (z : Zx) (f : Rv → Option Rv) : V → Hp → VK → Prop := fun x H Q => ∃ M O Hs r rv, Ok z M H ∧ RepR z M O Hs H r x ∧ f r = some rv ∧ Res z M O H rv Q
end

/-! ### data -/
mutual
def toD : Val → PyData
  | .non => .none
  | .bl b => .bool b
  | .int i => .int i
  | .str s => .str ⟨s.toArray⟩
  | .tup xs => .tuple (toDs xs)
  | .lst xs => .list (toDs xs)
  | _ => .none
def toDs : List Val → List PyData
  | [] => []
  | x :: xs => toD x :: toDs xs
end
theorem toDs_map : ∀ xs : List Val, toDs xs = xs.map toD
  | [] => rfl
  | x :: xs => by simp only [toDs, List.map_cons, toDs_map xs]
mutual
theorem Rep.dp {z : Zx} {M : AS} {H : Hp} : ∀ (n : Nat) (x : Val) {v : V}, x.plain n = true → Rep z M H x v → Dp z.K H v (toD x)
  | _, .non, v, _, h => by simp only [Rep] at h; subst h; simp only [toD]; exact .non
  | _, .bl b, v, _, h => by simp only [Rep] at h; subst h; simp only [toD]; exact .bl b
  | _, .int i, v, _, h => by simp only [Rep] at h; subst h; simp only [toD]; exact .int i
  | _, .str s, v, _, h => by simp only [Rep] at h; rw [h.2]; simp only [toD]; exact .str _
  | 0, .tup xs, v, q, h => by simp [Val.plain] at q
  | n + 1, .tup xs, v, q, h => by
    simp only [Rep] at h
    simp only [Val.plain] at q
    obtain ⟨_, a, vs, rfl, e, r⟩ := h
    simp only [toD]
    exact .tup e (Reps.dp n xs q r)
  | 0, .lst xs, v, q, h => by simp [Val.plain] at q
  | n + 1, .lst xs, v, q, h => by
    simp only [Rep] at h
    simp only [Val.plain] at q
    obtain ⟨_, a, vs, rfl, e, _, r⟩ := h
    simp only [toD]
    exact .lst (.of e) (Reps.dp n xs q r)
  | n, .ref _, v, q, h => by cases n <;> simp [Val.plain] at q
  | n, .box, v, q, h => by cases n <;> simp [Val.plain] at q
  | n, .fn _, v, q, h => by cases n <;> simp [Val.plain] at q
theorem Reps.dp {z : Zx} {M : AS} {H : Hp} : ∀ (n : Nat) (xs : List Val) {vs : List V}, Val.plains n xs = true → Reps z M H xs vs → DpAll z.K H vs (toDs xs)
  | _, [], vs, _, h => by simp only [Reps] at h; subst h; simp only [toDs]; exact .nil
  | n, x :: xs, vs, q, h => by
    simp only [Reps] at h
    simp only [Val.plains, Bool.and_eq_true] at q
    obtain ⟨v, ws, rfl, r, s⟩ := h
    simp only [toDs]
    exact .cons (Rep.dp n x q.1 r) (Reps.dp n xs q.2 s)
end
theorem dpAll_len {K : PySem.W.Frag} {H : Hp} : True := trivial
mutual
theorem plain_lay : ∀ (n : Nat) (x : Val), x.plain n = true → (toD x).canLay0 = true ∧ (toD x).depth ≤ n
  | n, .non, _ => by simp [toD, PyData.canLay0, PyData.depth]
  | n, .bl b, _ => by simp [toD, PyData.canLay0, PyData.depth]
  | n, .int i, _ => by simp [toD, PyData.canLay0, PyData.depth]
  | n, .str s, h => by
    have q : s.all (· < 55296) = true := by cases n <;> simpa only [Val.plain] using h
    simp only [toD, PyData.canLay0, PyData.depth]
    refine ⟨?_, Nat.zero_le _⟩
    unfold PyData.strOk
    simp only [List.all_toArray, List.all_eq_true, decide_eq_true_eq] at q ⊢
    intro c hc
    have := q c hc
    omega
  | 0, .tup xs, q => by simp [Val.plain] at q
  | n + 1, .tup xs, q => by
    simp only [Val.plain] at q
    have := plains_lay n xs q
    simp only [toD, PyData.canLay0, PyData.depth]
    exact ⟨this.1, by omega⟩
  | 0, .lst xs, q => by simp [Val.plain] at q
  | n + 1, .lst xs, q => by
    simp only [Val.plain] at q
    have := plains_lay n xs q
    simp only [toD, PyData.canLay0, PyData.depth]
    exact ⟨this.1, by omega⟩
  | n, .ref _, q => by cases n <;> simp [Val.plain] at q
  | n, .box, q => by cases n <;> simp [Val.plain] at q
  | n, .fn _, q => by cases n <;> simp [Val.plain] at q
theorem plains_lay : ∀ (n : Nat) (xs : List Val), Val.plains n xs = true → PyData.canLayAll0 (toDs xs) = true ∧ PyData.depthAll (toDs xs) ≤ n
  | n, [], _ => by simp [toDs, PyData.canLayAll0, PyData.depthAll]
  | n, x :: xs, q => by
    simp only [Val.plains, Bool.and_eq_true] at q
    have h1 := plain_lay n x q.1
    have h2 := plains_lay n xs q.2
    simp only [toDs, PyData.canLayAll0, PyData.depthAll, Bool.and_eq_true]
    exact ⟨⟨h1.1, h2.1⟩, by omega⟩
end
theorem plain_shaped {x : Val} (h : x.plain deepMax = true) : SeqAt.shaped (toD x) = true := by
  have := plain_lay deepMax x h
  unfold SeqAt.shaped
  rw [this.1, Bool.true_and, decide_eq_true_eq]
  exact Nat.le_trans this.2 (by decide)
theorem str_beq (a b : List Nat) : ((⟨a.toArray⟩ : Str) == (⟨b.toArray⟩ : Str)) = (a == b) := by
  by_cases h : a = b
  · subst h; simp
  · have : ¬ (⟨a.toArray⟩ : Str) = ⟨b.toArray⟩ := fun e => h (by
      have := congrArg (fun s : Str => s.cps.toList) e
      simpa using this)
    rw [beq_eq_false_iff_ne.mpr this, beq_eq_false_iff_ne.mpr h]
mutual
theorem eqv_eq : ∀ (n : Nat) (x y : Val), x.plain n = true → (∃ m, y.plain m = true) → PyData.eqv (toD x) (toD y) = x.eq y
  | n, x, y, hx, ⟨m, hy⟩ => by
    cases x <;> cases y <;> first
      | (simp only [toD, PyData.eqv, Val.eq]; done)
      | (simp only [toD, PyData.eqv, Val.eq, str_beq]; done)
      | (exfalso; cases n <;> simp [Val.plain] at hx; done)
      | (exfalso; cases m <;> simp [Val.plain] at hy; done)
      | (simp only [toD, PyData.eqv, Val.eq]
         cases n with
         | zero => simp [Val.plain] at hx
         | succ n =>
           cases m with
           | zero => simp [Val.plain] at hy
           | succ m =>
             simp only [Val.plain] at hx hy
             exact eqvs_eq n _ _ hx ⟨m, hy⟩)
theorem eqvs_eq : ∀ (n : Nat) (xs ys : List Val), Val.plains n xs = true → (∃ m, Val.plains m ys = true) → PyData.eqvAll (toDs xs) (toDs ys) = Val.eqs xs ys
  | n, [], [], _, _ => by simp [toDs, PyData.eqvAll, Val.eqs]
  | n, [], y :: ys, _, _ => by simp [toDs, PyData.eqvAll, Val.eqs]
  | n, x :: xs, [], _, _ => by simp [toDs, PyData.eqvAll, Val.eqs]
  | n, x :: xs, y :: ys, hx, ⟨m, hy⟩ => by
    simp only [Val.plains, Bool.and_eq_true] at hx hy
    simp only [toDs, PyData.eqvAll, Val.eqs]
    rw [eqv_eq n x y hx.1 ⟨m, hy.1⟩, eqvs_eq n xs ys hx.2 ⟨m, hy.2⟩]
end
end MP
end
section
set_option Elab.async false
set_option linter.all false
set_option autoImplicit false
set_option maxRecDepth 100000
set_option maxHeartbeats 4000000
namespace MP
open PySem PySem.Spec PyProof.Rows L2
section
variable {X : Cx} {z : Zx}
theorem str_app (a b : List Nat) : (⟨a.toArray⟩ : Str) ++ (⟨b.toArray⟩ : Str) = ⟨(a ++ b).toArray⟩ := by
  show Str.mk (a.toArray ++ b.toArray) = _
  simp
theorem rep_len {xs : List Val} (n : Nat) : (List.replicate n xs).flatten.length = n * xs.length := by
  induction n with
  | zero => simp
  | succ n ih => rw [List.replicate_succ, List.flatten_cons, List.length_append, ih, Nat.succ_mul, Nat.add_comm]
theorem rep_len1 {xs : List Val} {j : Int} (h : xs.length ≤ 1000) (hj : j ≤ 1000) : (List.replicate j.toNat xs).flatten.length ≤ sizeMax := by
  rw [rep_len]
  have h1 : j.toNat ≤ 1000 := by omega
  exact Nat.le_trans (Nat.mul_le_mul h1 h) (by decide)
theorem rep_len2 {xs : List Val} {j : Int} (h : xs.length * j.toNat ≤ 100000) : (List.replicate j.toNat xs).flatten.length ≤ sizeMax := by
  rw [rep_len, Nat.mul_comm]
  exact Nat.le_trans h (by decide)
theorem op_addV (hK : z.K = X.K) : OpR X (binaryOp .Add) (rBin z addV) := by
  intro pins s σ H x y v u Q I rx ry h
  obtain ⟨M, O, Hs, r, q, rv, ok, h1, h2, e, res⟩ := h
  unfold addV at e
  split at e
  · cases e
    rw [h1.int] at rx; rw [h2.int] at ry
    exact op_add pins s σ H _ _ v u Q I rx ry ⟨_, _, rfl, rfl, res.val (rep_int _)⟩
  · split at e
    · rename_i hz
      cases e
      obtain ⟨l1, e1⟩ := h1.str
      obtain ⟨l2, e2⟩ := h2.str
      rw [e1] at rx; rw [e2] at ry
      refine op_add_str pins s σ H _ _ v u Q I rx ry ⟨_, _, rfl, rfl, ?_, ?_⟩
      · rw [sizeMax_eq]; simpa [Str.length] using hz
      · rw [str_app]
        exact res.val (rep_str (by rw [List.length_append]; exact hz))
    · cases e
  · split at e
    · rename_i hz
      cases e
      obtain ⟨a, vs, e1, q1, w1⟩ := h1.tup
      obtain ⟨b, ws, e2, q2, w2⟩ := h2.tup
      rw [e1] at rx; rw [e2] at ry
      rw [hK] at q1 q2
      refine op_catA pins s σ H _ _ v u Q I rx ry ⟨a, b, vs, ws, rfl, rfl, q1, q2, ?_, fun e => ?_, fun _ e => ?_, fun _ _ p hp => ?_⟩
      · rw [sizeMax_eq, w1.length, w2.length]; exact hz
      · refine res.val ?_
        simp only [Rep]
        refine ⟨by rw [List.length_append]; exact hz, b, _, rfl, by rw [hK]; exact q2, ?_⟩
        have := w1.append w2
        rw [e] at this
        exact this
      · refine res.val ?_
        simp only [Rep]
        refine ⟨by rw [List.length_append]; exact hz, a, _, rfl, by rw [hK]; exact q1, ?_⟩
        have := w1.append w2
        rw [e, List.append_nil] at this
        exact this
      · exact res.tup ok (by rw [List.length_append]; exact hz) (w1.append w2) hp
    · cases e
  · split at e
    · rename_i a b e1 e2
      split at e
      · rename_i hz
        cases e
        obtain ⟨a, vs, e3, q1, w1⟩ := h1.lst e1
        obtain ⟨b, ws, e4, q2, w2⟩ := h2.lst e2
        rw [e3] at rx; rw [e4] at ry
        exact op_cat pins s σ H _ _ v u Q I rx ry ⟨a, b, vs, ws, rfl, rfl, q1, q2, by rw [sizeMax_eq, w1.length, w2.length]; exact hz, fun p hp => res.new ok (by rw [List.length_append]; exact hz) (w1.append w2) hp⟩
      · cases e
    · cases e
theorem op_intV {op : Value → Value → Sem Value} {f : Int → Int → Option Val} {C : Int → Int → Prop} {g : Int → Int → V} (ho : OpR X op (rI C g))
    (hf : ∀ i j x, f i j = some x → C i j ∧ ∀ (M : AS) (H : Hp), Rep z M H x (g i j)) : OpR X op (rBin z (intV f)) := by
  intro pins s σ H x y v u Q I rx ry h
  obtain ⟨M, O, Hs, r, q, rv, ok, h1, h2, e, res⟩ := h
  unfold intV at e
  split at e
  · rename_i i j
    rw [Option.map_eq_some_iff] at e
    obtain ⟨x, e, rfl⟩ := e
    rw [h1.int] at rx; rw [h2.int] at ry
    obtain ⟨c, rr⟩ := hf i j x e
    exact ho pins s σ H _ _ v u Q I rx ry ⟨i, j, rfl, rfl, c, res.val (rr M H)⟩
  · cases e
theorem op_rI0 {op : Value → Value → Sem Value} {g : Int → Int → V} (ho : OpR X op (rI0 g)) : OpR X op (rI (fun _ _ => True) g) := by
  intro pins s σ H x y v u Q I rx ry ⟨i, j, e1, e2, _, q⟩
  exact ho pins s σ H x y v u Q I rx ry ⟨i, j, e1, e2, q⟩
theorem op_subV : OpR X (binaryOp .Sub) (rBin z (Bn.ap .sub)) := op_intV (op_rI0 op_sub) fun i j x e => by cases e; exact ⟨trivial, fun _ _ => rep_int _⟩
theorem op_fdivV : OpR X (binaryOp .FloorDiv) (rBin z (Bn.ap .fdiv)) := op_intV op_fdiv fun i j x e => by
  split at e
  · rename_i h; cases e; exact ⟨h, fun _ _ => rep_int _⟩
  · cases e
theorem op_modV : OpR X (binaryOp .Mod) (rBin z (Bn.ap .mod)) := op_intV op_mod fun i j x e => by
  split at e
  · rename_i h; cases e; exact ⟨h, fun _ _ => rep_int _⟩
  · cases e
theorem op_shlV : OpR X (binaryOp .LShift) (rBin z (Bn.ap .shl)) := op_intV op_shl fun i j x e => by
  split at e
  · rename_i h; cases e; exact ⟨⟨h.1, by have := h.2.1; omega, h.2.2⟩, fun _ _ => rep_int _⟩
  · cases e
theorem op_shrV : OpR X (binaryOp .RShift) (rBin z (Bn.ap .shr)) := op_intV op_shr fun i j x e => by
  split at e
  · rename_i h; cases e; exact ⟨h, fun _ _ => rep_int _⟩
  · cases e
theorem op_mulV (hK : z.K = X.K) : OpR X (binaryOp .Mult) (rBin z mulV) := by
  intro pins s σ H x y v u Q I rx ry h
  obtain ⟨M, O, Hs, r, q, rv, ok, h1, h2, e, res⟩ := h
  unfold mulV at e
  split at e
  · split at e
    · rename_i hz
      cases e
      rw [h1.int] at rx; rw [h2.int] at ry
      exact op_mul pins s σ H _ _ v u Q I rx ry ⟨_, _, rfl, rfl, hz, res.val (rep_int _)⟩
    · cases e
  · split at e
    · rename_i hz
      cases e
      obtain ⟨a, vs, e1, q1, w1⟩ := h1.tup
      rw [e1] at rx; rw [h2.int] at ry
      rw [hK] at q1
      refine op_repT pins s σ H _ _ v u Q I rx ry ⟨a, _, vs, rfl, rfl, q1, ?_, hz.2.2.1, hz.2.2.2, ?_, fun p hp => res.tup ok (rep_len1 hz.2.1 (by omega)) (w1.replicate _) hp⟩
      · have := hz.1
        intro e
        rw [e] at w1
        have := w1.length
        rename_i b _ _
        cases b <;> simp_all
      · rw [w1.length]; exact hz.2.1
    · cases e
  · split at e
    · rename_i a e1
      split at e
      · rename_i hz
        cases e
        obtain ⟨a, vs, e3, q1, w1⟩ := h1.lst e1
        rw [e3] at rx; rw [h2.int] at ry
        refine op_rep pins s σ H _ _ v u Q I rx ry ⟨a, _, vs, rfl, rfl, q1, by omega, by omega, ?_, fun p hp => res.new ok (rep_len2 hz.1) (w1.replicate _) hp⟩
        rw [sizeMax_eq, w1.length]; exact Nat.le_trans hz.1 (by decide)
      · cases e
    · cases e
  · cases e
end
end MP
end
section
set_option Elab.async false
set_option linter.all false
set_option autoImplicit false
set_option maxRecDepth 100000
set_option maxHeartbeats 4000000
namespace MP
open PySem PySem.Spec PyProof.Rows L2

/-! ### t[::-1] of a tuple -/
namespace TR
variable {prog : Program} {w : World} {A : Around} {E : Value → Shared → Prop} {s : Shared}
theorem adjust_rev (n : Nat) : Builtin.Slice.sliceAdjust none none (-1) (n : Int) = ((n : Int) - 1, -1) := by
  unfold Builtin.Slice.sliceAdjust
  simp
theorem places_rev (n : Nat) : Builtin.Slice.slicePlaces ((n : Int) - 1) (-1) (-1) = n := by
  unfold Builtin.Slice.slicePlaces
  rw [if_neg (by decide)]
  by_cases h : (n : Int) - 1 > -1
  · rw [if_pos h]
    have e : ((n : Int) - 1 - -1 - 1) / (- -1) + 1 = (n : Int) := by
      rw [show (- -1 : Int) = 1 by decide, Int.ediv_one]
      omega
    rw [e, Int.toNat_natCast]
  · rw [if_neg h]
    omega
theorem sliceApplied_rev {sl : Addr} {vl vu vs : Value} {n : Nat} {Q : Int × Int × Nat → Shared → Prop} (hs : s.heap.IsSliceOf sl vl vu vs) (pl : IsPart vl none) (pu : IsPart vu none) (ps : IsPart vs (some (-1)))
    (h : Q ((n : Int) - 1, -1, n) s) : wpAny (model prog w) A (Builtin.Slice.sliceApplied (.ref sl) (pure (n : Int))) Q E s := by
  obtain ⟨os, hos, hcs, hds⟩ := id hs
  unfold Builtin.Slice.sliceApplied Builtin.Slice.sliceFields
  refine wpAny_bind (wpAny_bind (wpAny_field hos hds (x := vl) rfl (wpAny_bind (wpAny_field hos hds (x := vu) rfl (wpAny_bind (wpAny_field hos hds (x := vs) rfl (wpAny_pure ?_)))))))
  refine wpAny_bind (HT.slicePart_ ps ?_)
  show wpAny _ _ (if ((-1 : Int) == 0) = true then _ else _) _ _ s
  rw [if_neg (by decide)]
  refine wpAny_bind (HT.slicePart_ pl (wpAny_bind (HT.slicePart_ pu (wpAny_bind (wpAny_pure ?_)))))
  show wpAny _ _ (match Builtin.Slice.sliceAdjust none none (-1) (n : Int) with | (lo, hi) => pure (lo, (-1 : Int), Builtin.Slice.slicePlaces lo hi (-1))) _ _ s
  rw [adjust_rev n]
  show wpAny _ _ (pure ((n : Int) - 1, (-1 : Int), Builtin.Slice.slicePlaces ((n : Int) - 1) (-1) (-1))) _ _ s
  rw [places_rev]
  exact wpAny_pure h
theorem pick_rev (xs : Array Value) : ((List.range xs.size).filterMap fun (m : Nat) => xs[(((xs.size : Int) - 1) + (m : Int) * (-1)).toNat]?).toArray = xs.toList.reverse.toArray := by
  have e : (fun (m : Nat) => xs[(((xs.size : Int) - 1) + (m : Int) * (-1)).toNat]?) = (fun k => xs[k]?) ∘ fun m => xs.size - 1 - m := by
    funext m
    have : (((xs.size : Int) - 1) + (m : Int) * (-1)).toNat = xs.size - 1 - m := by omega
    show xs[_]? = xs[_]?
    rw [this]
  rw [e, ← List.filterMap_map, PySem.W.krv_range, List.filterMap_reverse, PySem.W.krv_all]
theorem getItem_tuple_rev {t sl : Addr} {items : Array Value} {vl vu vs : Value} {Q : Value → Shared → Prop} (ht : IsTup s.heap t items) (hs : s.heap.IsSliceOf sl vl vu vs) (pl : IsPart vl none) (pu : IsPart vu none) (ps : IsPart vs (some (-1)))
    (h : Q (.ref s.heap.objs.size) { s with heap := s.heap.push { cls := .type "tuple", data := .seq items.toList.reverse.toArray } })
    (hsz : items.size ≤ sizeLine) : wpAny (model prog w) A (getItem (.ref t) (.ref sl)) Q E s := by
  have htake : sizeOk (.seq items.toList.reverse.toArray) := by
    show items.toList.reverse.toArray.size ≤ sizeLine
    rw [List.size_toArray, List.length_reverse, Array.length_toList]
    exact hsz
  obtain ⟨os, hos, hcs, hds⟩ := id hs
  have hTs : s.TypeIs (.ref sl) "slice" := ⟨os, hos, hcs⟩
  unfold getItem
  try with_reducible refine wpAny_holding ?_
  first | refine wpAny_bind (wpAny_pure ?_) | skip
  refine wpAny_bind (wpAny_sequenceKey ht.typeIs (by decide) ?_)
  refine wpAny_bind (wpAny_callSpecial?_slot (name := Str.ofString "__getitem__") ht.typeIs PyProof.Rows.slot_tuple_getitem
    (wpAny_call_entry PyProof.Rows.slot_tuple_getitem ht.typeIs entry_tuple_getitem ?_ (args_tuple_getitem _ _)))
  show wpAny _ _ (Builtin.Tuple.tupleItemsOf (.ref t) >>= _) _ _ s
  refine wpAny_bind (tupleItemsOf_ ht ?_)
  refine wpAny_bind (wpAny_typeOf hTs ?_)
  rw [if_pos (by decide)]
  refine wpAny_bind (sliceApplied_rev hs pl pu ps ?_)
  have hno : ¬ ((((items.size : Int) - 1) == 0 && (-1 : Int) == 1 && items.size == items.size) = true) := by
    intro q
    rw [Bool.and_eq_true, Bool.and_eq_true] at q
    exact absurd q.1.2 (by decide)
  show wpAny _ _ (if (((items.size : Int) - 1) == 0 && (-1 : Int) == 1 && items.size == items.size) = true then _ else _) _ _ s
  rw [if_neg hno, pick_rev]
  first
    | exact wpAny_bind (m := Builtin.Tuple.tupleExact _) (wpAny_newObj_type (wpAny_pure ⟨_, rfl, wpAny_pure h⟩) htake)
    | exact wpAny_bind (m := Builtin.Tuple.tupleExact _) (wpAny_newObj_type (wpAny_bind (wpAny_pure (wpAny_pure ⟨_, rfl, wpAny_pure h⟩))) htake)
    | exact wpAny_bind (wpAny_bind (m := Builtin.Tuple.tupleExact _) (wpAny_newObj_type (wpAny_pure (wpAny_pure ⟨_, rfl, wpAny_pure h⟩)) htake))
    | exact wpAny_bind (wpAny_bind (m := Builtin.Tuple.tupleExact _) (wpAny_newObj_type (wpAny_pure ⟨_, rfl, wpAny_pure h⟩) htake))
end TR

section
variable {X : Cx} {z : Zx}
theorem pe_revV {e : Expr} {te : TE} {k : Nat} {p1 p2 p3 pos : Pos} (hK : z.K = X.K) (he : PE X e te) :
    PE X (.Subscript e (.Slice none none (some (.UnaryOp .USub (.Constant (.int 1) k p1) p2)) p3) pos) (tUn (rUn z (Un.ap .rev)) te) := by
  refine ⟨fun pins s σ H Q I h => ?_⟩
  refine Subscript_ (thn (he.run pins s σ H _ I h) fun v s1 ⟨x, H1, I1, r1, q1⟩ => ?_)
  obtain ⟨M, O, Hs, r, rv, ok, h1, e1, res⟩ := q1
  have hst : PO X (some (.UnaryOp .USub (.Constant (.int 1) k p1) p2)) (tPart (tUn (rU fun i => .int (-i)) (tC (.int 1)))) := po_some (pe_un un_neg pe_int)
  refine wpAny_Slice (thn (po_none.run pins s1 σ H1 (fun o H2 => o = none ∧ H2 = H1) I1 ⟨rfl, rfl⟩) fun vl s2 ⟨l, H2, I2, pl, el, e2⟩ => ?_)
  subst el e2
  refine thn (po_none.run pins s2 σ H2 (fun o H3 => o = none ∧ H3 = H2) I2 ⟨rfl, rfl⟩) fun vu s3 ⟨u, H3, I3, pu, eu, e3⟩ => ?_
  subst eu e3
  refine thn (hst.run pins s3 σ H3 (fun o H4 => o = some (-1) ∧ H4 = H3) I3 ⟨1, rfl, -1, rfl, rfl, rfl⟩) fun vs s4 ⟨o, H4, I4, ps, eo, e4⟩ => ?_
  subst eo e4
  have I5 : Inv X pins σ H4 { s4 with heap := s4.heap.push { cls := .type "slice", data := .fields #[vl, vu, vs] } } := I4.kept (t' := s4.toks) fun b ob q => Heap.get?_push_of_some _ q
  have lists : ∀ {ys : List Val}, r.lst = some ys → rv = .new ys.reverse → wpAny (model X.prog X.w) X.A (subscriptTail e (.Slice none none (some (.UnaryOp .USub (.Constant (.int 1) k p1) p2)) p3) v (.ref s4.heap.objs.size)) (EP X pins σ Q) X.xe { s4 with heap := s4.heap.push { cls := .type "slice", data := .fields #[vl, vu, vs] } } := fun {ys} el er => by
    obtain ⟨a, xs, e3, hx, w⟩ := h1.lst el
    rw [e3] at r1
    cases r1
    obtain ⟨its, r, ht, hz⟩ := I5.list (SqL.of hx)
    have hlen := r.length
    refine tail_any (ops := [.ref a, .ref s4.heap.objs.size]) ht.isList.typeIs (PySem.slot_list_getitem.lookup) ?_ (by with_unfolding_all rfl)
    refine wpAny_getItem_list_slice ht.isList (Heap.IsSliceOf.new _ vl vu vs) pl pu ps (by decide) ?_ (by rw [List.size_toArray]; omega)
    rw [PySem.W.krv_pick]
    subst er
    refine ⟨.ref _, _, I5.laid (t' := s4.toks) (o := .lst xs.reverse) (fun b ob q => Heap.get?_push_of_some _ q) (Nat.le_refl _) ?_, rfl, res.new ok (by rw [List.length_reverse]; exact h1.len (lst_items el)) w.reverse (I5.hok.fresh (Nat.le_refl _))⟩
    exact ⟨by rw [List.length_reverse]; exact hz, _, 0, r.reverse, Heap.get?_push_size _ rfl⟩
  show wpAny (model X.prog X.w) X.A (subscriptTail e (.Slice none none (some (.UnaryOp .USub (.Constant (.int 1) k p1) p2)) p3) v (.ref s4.heap.objs.size)) (EP X pins σ Q) X.xe { s4 with heap := s4.heap.push { cls := .type "slice", data := .fields #[vl, vu, vs] } }
  match r, h1, e1 with
  | .v (.tup ys), h1, e1 =>
    cases e1
    obtain ⟨a, xs, e3, hx, w⟩ := h1.tup
    rw [e3] at r1
    cases r1
    rw [hK] at hx
    obtain ⟨its, r, ht, hz⟩ := I5.tuple hx
    have hlen := r.length
    refine tail_any (ops := [.ref a, .ref s4.heap.objs.size]) ht.typeIs (PySem.F.slot_tuple_getitem.lookup) ?_ (by with_unfolding_all rfl)
    refine TR.getItem_tuple_rev ht (Heap.IsSliceOf.new _ vl vu vs) pl pu ps ?_ (by rw [List.size_toArray]; omega)
    refine ⟨.ref _, _, I5.laid (t' := s4.toks) (o := .tup xs.reverse) (fun b ob q => Heap.get?_push_of_some _ q) (Nat.le_refl _) ?_, rfl, res.tup ok (by rw [List.length_reverse]; exact h1.len rfl) w.reverse (I5.hok.fresh (Nat.le_refl _))⟩
    exact ⟨by rw [List.length_reverse]; exact hz, _, r.reverse, ⟨_, Heap.get?_push_size _ rfl, rfl, _, rfl⟩⟩
  | .v (.lst ys), h1, e1 => exact lists rfl (by cases e1; rfl)
  | .new ys, h1, e1 => exact lists rfl (by cases e1; rfl)
  | .vw ys, h1, e1 => exact lists rfl (by cases e1; rfl)
  | .v .non, h1, e1 => cases e1
  | .v (.bl _), h1, e1 => cases e1
  | .v (.int _), h1, e1 => cases e1
  | .v (.str _), h1, e1 => cases e1
  | .v (.ref _), h1, e1 => cases e1
  | .v .box, h1, e1 => cases e1
  | .v (.fn _), h1, e1 => cases e1

/-! ### == and in -/
theorem RepR.arg_dp {M O : AS} {Hs H : Hp} {r : Rv} {v : V} (h : RepR z M O Hs H r v) (p : r.arg.plain deepMax = true) : Dp z.K H v (toD r.arg) := by
  match r, h with
  | .v x, h => exact Rep.dp deepMax x p h
  | .new xs, h =>
    obtain ⟨_, a, vs, rfl, _, e, w⟩ := h
    simp only [Rv.arg, deepMax, Val.plain] at p
    simp only [Rv.arg, toD]
    exact .lst (.of e) (Reps.dp 39 xs p w)
  | .vw xs, h =>
    obtain ⟨_, a, vs, rfl, _, e, w⟩ := h
    simp only [Rv.arg, deepMax, Val.plain] at p
    simp only [Rv.arg, toD]
    exact .lst (.of e) (Reps.dp 39 xs p w)
theorem op_eqVV (hK : z.K = X.K) (hu : X.A.units + 65 < cLine) : OpR X (compareOp .Eq) (rBin z (eqV false)) := by
  intro pins s σ H x y v u Q I rx ry h
  obtain ⟨M, O, Hs, r, q, rv, ok, h1, h2, e, res⟩ := h
  unfold eqV okP at e
  split at e
  · rename_i hp
    rw [Bool.and_eq_true] at hp
    cases e
    refine op_eqD (by omega) pins s σ H x y v u Q I rx ry ⟨_, _, by rw [← hK]; exact h1.arg_dp hp.1, by rw [← hK]; exact h2.arg_dp hp.2, plain_shaped hp.1, plain_shaped hp.2, ?_⟩
    rw [eqv_eq _ _ _ hp.1 ⟨_, hp.2⟩]
    exact res.val (rep_bl _)
  · cases e
theorem op_neVV (hK : z.K = X.K) (hu : X.A.units + 65 < cLine) : OpR X (compareOp .NotEq) (rBin z (eqV true)) := by
  intro pins s σ H x y v u Q I rx ry h
  obtain ⟨M, O, Hs, r, q, rv, ok, h1, h2, e, res⟩ := h
  unfold eqV okP at e
  split at e
  · rename_i hp
    rw [Bool.and_eq_true] at hp
    cases e
    refine op_neD (by omega) pins s σ H x y v u Q I rx ry ⟨_, _, by rw [← hK]; exact h1.arg_dp hp.1, by rw [← hK]; exact h2.arg_dp hp.2, plain_shaped hp.1, plain_shaped hp.2, ?_⟩
    rw [eqv_eq _ _ _ hp.1 ⟨_, hp.2⟩]
    exact res.val (rep_bl _)
  · cases e
/-- the items as data, and how the value reads -/
theorem RepR.items_dp {M O : AS} {Hs H : Hp} {r : Rv} {v : V} {ys : List Val} (h : RepR z M O Hs H r v) (e : r.items = some ys) (p : Val.plain deepMax (.tup ys) = true) : Dp z.K H v (.list (toDs ys)) ∨ Dp z.K H v (.tuple (toDs ys)) := by
  simp only [deepMax, Val.plain] at p
  obtain ⟨a, vs, rfl, q, w⟩ := h.items e
  rcases q with q | q
  · exact .inl (.lst q (Reps.dp 39 ys p w))
  · exact .inr (.tup q (Reps.dp 39 ys p w))
theorem any_eq {ys : List Val} {x : Val} (hy : Val.plain deepMax (.tup ys) = true) (hx : x.plain deepMax = true) : ((toDs ys).any fun d => PyData.eqv d (toD x)) = ys.any fun y => y.eq x := by
  simp only [deepMax, Val.plain] at hy
  have : ∀ ys : List Val, Val.plains 39 ys = true → ((toDs ys).any fun d => PyData.eqv d (toD x)) = ys.any fun y => y.eq x := by
    intro ys
    induction ys with
    | nil => intro _; rfl
    | cons y ys ih =>
      intro h
      simp only [Val.plains, Bool.and_eq_true] at h
      simp only [toDs, List.any_cons]
      rw [ih h.2, eqv_eq 39 y x h.1 ⟨_, hx⟩]
  exact this ys hy
theorem room_in {d : PyData} (h : SeqAt.shaped d = true) {ds : List PyData} {u : Nat} (hu : u + 65 < cLine) : u + 1 + min (PyData.depthAll ds) d.depth < cLine := by
  have h1 := SeqAt.depth_of_shaped h
  have := Nat.min_le_right (PyData.depthAll ds) d.depth
  omega
theorem lay_of_tup {ys : List Val} (hy : Val.plain deepMax (.tup ys) = true) : PyData.canLayAll0 (toDs ys) = true := by
  simp only [deepMax, Val.plain] at hy
  exact (plains_lay 39 ys hy).1
theorem op_inVV (hK : z.K = X.K) (hu : X.A.units + 65 < cLine) : OpR X (compareOp .In) (rBin z (inV false)) := by
  intro pins s σ H x y v u Q I rx ry h
  obtain ⟨M, O, Hs, r, q, rv, ok, h1, h2, e, res⟩ := h
  unfold inV okP at e
  split at e
  · rename_i ys ey
    split at e
    · rename_i hp
      rw [Bool.and_eq_true] at hp
      cases e
      obtain ⟨as, r1⟩ := Dp.reads I _ x v (by rw [← hK]; exact h1.arg_dp hp.1) rx
      have sd := plain_shaped hp.1
      have fin : EP X pins σ Q (.bool ((toDs ys).any fun d => PyData.eqv d (toD r.arg))) s := ⟨.bl _, H, I, rfl, by rw [any_eq hp.2 hp.1]; exact res.val (rep_bl _)⟩
      rcases h2.items_dp ey hp.2 with d | d
      · obtain ⟨bs, r2⟩ := Dp.reads I _ y u (by rw [← hK]; exact d) ry
        exact SeqAt.in_list_reads r2 r1 (lay_of_tup hp.2) (SeqAt.canLay_of_shaped sd) (room_in sd hu) fin
      · obtain ⟨bs, r2⟩ := Dp.reads I _ y u (by rw [← hK]; exact d) ry
        exact SeqAt.in_tuple_reads r2 r1 (lay_of_tup hp.2) (SeqAt.canLay_of_shaped sd) (room_in sd hu) fin
    · cases e
  · cases e
theorem op_notinVV (hK : z.K = X.K) (hu : X.A.units + 65 < cLine) : OpR X (compareOp .NotIn) (rBin z (inV true)) := by
  intro pins s σ H x y v u Q I rx ry h
  obtain ⟨M, O, Hs, r, q, rv, ok, h1, h2, e, res⟩ := h
  unfold inV okP at e
  split at e
  · rename_i ys ey
    split at e
    · rename_i hp
      rw [Bool.and_eq_true] at hp
      cases e
      obtain ⟨as, r1⟩ := Dp.reads I _ x v (by rw [← hK]; exact h1.arg_dp hp.1) rx
      have sd := plain_shaped hp.1
      have fin : EP X pins σ Q (.bool (!(toDs ys).any fun d => PyData.eqv d (toD r.arg))) s := ⟨.bl _, H, I, rfl, by rw [any_eq hp.2 hp.1]; exact res.val (rep_bl _)⟩
      rcases h2.items_dp ey hp.2 with d | d
      · obtain ⟨bs, r2⟩ := Dp.reads I _ y u (by rw [← hK]; exact d) ry
        exact SeqAt.notIn_list_reads r2 r1 (lay_of_tup hp.2) (SeqAt.canLay_of_shaped sd) (room_in sd hu) fin
      · obtain ⟨bs, r2⟩ := Dp.reads I _ y u (by rw [← hK]; exact d) ry
        exact SeqAt.notIn_tuple_reads r2 r1 (lay_of_tup hp.2) (SeqAt.canLay_of_shaped sd) (room_in sd hu) fin
    · cases e
  · cases e
theorem lexLt_eq : ∀ xs ys : List Int, HT.lexLt xs ys = MP.lexLt xs ys
  | [], [] => rfl
  | [], _ :: _ => rfl
  | _ :: _, [] => rfl
  | x :: xs, y :: ys => by rw [HT.lexLt_cons, MP.lexLt, lexLt_eq xs ys]
theorem op_ltVV (hK : z.K = X.K) (hu : X.A.units < cLine) : OpR X (compareOp .Lt) (rBin z ltV) := by
  intro pins s σ H x y v u Q I rx ry h
  obtain ⟨M, O, Hs, r, q, rv, ok, h1, h2, e, res⟩ := h
  unfold ltV at e
  split at e
  · cases e
    rw [h1.int] at rx; rw [h2.int] at ry
    exact op_lt pins s σ H _ _ v u Q I rx ry ⟨_, _, rfl, rfl, res.val (rep_bl _)⟩
  · split at e
    · rename_i ns ms e1 e2
      cases e
      obtain ⟨a, vs, e3, q1, w1⟩ := h1.tup
      obtain ⟨b, ws, e4, q2, w2⟩ := h2.tup
      rw [e3] at rx; rw [e4] at ry
      rw [hK] at q1 q2
      rw [w1.intsOf e1] at q1
      rw [w2.intsOf e2] at q2
      exact op_ltT hu pins s σ H _ _ v u Q I rx ry ⟨a, b, ns, ms, rfl, rfl, q1, q2, by rw [lexLt_eq]; exact res.val (rep_bl _)⟩
    · cases e
  · cases e
theorem lexAt_shift {e r e' r' : Nat → Bool} {z : Bool} : ∀ (k i j : Nat), (∀ d, d < k → e (i + d) = e' (j + d)) → (∀ d, d < k → r (i + d) = r' (j + d)) → Ob.lexAt e r z i k = Ob.lexAt e' r' z j k
  | 0, _, _, _, _ => rfl
  | k + 1, i, j, h1, h2 => by
    rw [Ob.lexAt_succ, Ob.lexAt_succ]
    have a := h1 0 (by omega)
    have b := h2 0 (by omega)
    simp only [Nat.add_zero] at a b
    rw [a, b, lexAt_shift k (i + 1) (j + 1) (fun d hd => by have := h1 (d + 1) (by omega); rwa [show i + 1 + d = i + (d + 1) by omega, show j + 1 + d = j + (d + 1) by omega]) (fun d hd => by have := h2 (d + 1) (by omega); rwa [show i + 1 + d = i + (d + 1) by omega, show j + 1 + d = j + (d + 1) by omega])]
/-- the tuples' compare by its items -/
theorem lexAt_list (f : Int → Int → Bool) (z : Nat → Nat → Bool) (g : List Int → List Int → Bool) (hn : ∀ ys, g [] ys = z 0 ys.length) (hc : ∀ x xs, g (x :: xs) [] = z (xs.length + 1) 0) (hs : ∀ n m, z (n + 1) (m + 1) = z n m) (hg : ∀ x y xs ys, g (x :: xs) (y :: ys) = if x = y then g xs ys else f x y) : ∀ (ns ms : List Int),
    Ob.lexAt (fun j => decide (ns.getD j 0 = ms.getD j 0)) (fun j => f (ns.getD j 0) (ms.getD j 0)) (z ns.length ms.length) 0 (min ns.length ms.length) = g ns ms
  | [], ms => by simp [Ob.lexAt_zero, hn]
  | n :: ns, [] => by simp [Ob.lexAt_zero, hc]
  | n :: ns, m :: ms => by
    rw [hg, List.length_cons, List.length_cons, Nat.succ_min_succ, Ob.lexAt_succ, hs]
    simp only [List.getD_cons_zero, decide_eq_true_eq]
    split
    · rw [← lexAt_list f z g hn hc hs hg ns ms]
      exact lexAt_shift _ 1 0 (fun d _ => by rw [Nat.zero_add, Nat.add_comm]; rfl) (fun d _ => by rw [Nat.zero_add, Nat.add_comm]; rfl)
    · rfl
def rCmpT (K : PySem.W.Frag) (f : Int → Int → Bool) (z : Nat → Nat → Bool) : R2 := fun x y H Q => ∃ (a b : Addr) (ns ms : List Int), x = .ref a ∧ y = .ref b ∧ SqT K H a (ns.map V.int) ∧ SqT K H b (ms.map V.int) ∧
  Q (.bl (Ob.lexAt (fun j => decide (ns.getD j 0 = ms.getD j 0)) (fun j => f (ns.getD j 0) (ms.getD j 0)) (z ns.length ms.length) 0 (min ns.length ms.length))) H
theorem op_cmpT {X : Cx} {op : CmpOp} {f : Int → Int → Bool} {zz : Nat → Nat → Bool} (hi : ∀ (A : Around) (s : Shared) (a b : Int) (t u : Tok), Ob.RcOp op A s (.int a t) (.int b u) (f a b))
    (ht : ∀ {A : Around} {s : Shared} {l b : Addr} {items items2 : Array Value} {e r : Nat → Bool}, s.heap.IsTuple l items → s.heap.IsTuple b items2 → A.units < cLine → (∀ j (h1 : j < items.size) (h2 : j < items2.size), SeqAt.EqAt A.in1 s items[j] items2[j] (e j)) → (∀ j (h1 : j < items.size) (h2 : j < items2.size), e j = false → Ob.RcOp op A.in1 s items[j] items2[j] (r j)) → Ob.RcOp op A s (.ref l) (.ref b) (Ob.lexAt e r (zz items.size items2.size) 0 (min items.size items2.size)))
    (hco : ∀ a b, compareOp op a b = richCompare op a b) (hu : X.A.units < cLine) : OpR X (compareOp op) (rCmpT X.K f zz) := by
  intro pins s σ H x y v u Q I rx ry h
  obtain ⟨a, b, ns, ms, rfl, rfl, ha, hb, q⟩ := h
  cases rx
  cases ry
  obtain ⟨its, r1, p1, _⟩ := I.tuple ha
  obtain ⟨its2, r2, p2, _⟩ := I.tuple hb
  have i1 : IntsAre its ns := Vals.ints r1
  have i2 : IntsAre its2 ms := Vals.ints r2
  have e1 : its.toArray.size = ns.length := by rw [List.size_toArray]; exact i1.length
  have e2 : its2.toArray.size = ms.length := by rw [List.size_toArray]; exact i2.length
  have at1 : ∀ j (h1 : j < its.toArray.size), ∃ t, its.toArray[j] = .int (ns.getD j 0) t := fun j h1 => PyProof.Rows.IntsAre.int_at i1 _ _ (by simp at h1; simp [h1])
  have at2 : ∀ j (h1 : j < its2.toArray.size), ∃ t, its2.toArray[j] = .int (ms.getD j 0) t := fun j h1 => PyProof.Rows.IntsAre.int_at i2 _ _ (by simp at h1; simp [h1])
  have R := ht (A := X.A) (s := s) (e := fun j => decide (ns.getD j 0 = ms.getD j 0)) (r := fun j => f (ns.getD j 0) (ms.getD j 0)) p1 p2 hu (fun j h1 h2 => by
    obtain ⟨t, et⟩ := at1 j h1
    obtain ⟨t', et'⟩ := at2 j h2
    rw [et, et']
    have z : (ns.getD j 0 == ms.getD j 0) = decide (ns.getD j 0 = ms.getD j 0) := by
      by_cases q : ns.getD j 0 = ms.getD j 0
      · rw [decide_eq_true q]; exact beq_iff_eq.mpr q
      · rw [decide_eq_false q]; exact beq_eq_false_iff_ne.mpr q
    rw [← z]
    exact SeqAt.EqAt.int_int _ _ _ _) (fun j h1 h2 _ => by
    obtain ⟨t, et⟩ := at1 j h1
    obtain ⟨t', et'⟩ := at2 j h2
    rw [et, et']
    exact hi _ _ _ _ _ _)
  rw [e1, e2] at R
  have z : wpAny (model X.prog X.w) X.A (compareOp op (.ref a) (.ref b)) (EP X pins σ Q) X.xe s := by
    rw [hco]
    exact R X.prog X.w X.xe (EP X pins σ Q) ⟨.bl _, H, I, rfl, q⟩
  exact z
theorem op_cmpVV {op : CmpOp} {f : Int → Int → Bool} {zz : Nat → Nat → Bool} {g : List Int → List Int → Bool} (hK : z.K = X.K) (hI : OpR X (compareOp op) (rI0 fun i j => .bl (f i j))) (hT : OpR X (compareOp op) (rCmpT X.K f zz)) (hg : ∀ ns ms : List Int, Ob.lexAt (fun j => decide (ns.getD j 0 = ms.getD j 0)) (fun j => f (ns.getD j 0) (ms.getD j 0)) (zz ns.length ms.length) 0 (min ns.length ms.length) = g ns ms) : OpR X (compareOp op) (rBin z (cmpV f g)) := by
  intro pins s σ H x y v u Q I rx ry h
  obtain ⟨M, O, Hs, r, q, rv, ok, h1, h2, e, res⟩ := h
  unfold cmpV at e
  split at e
  · cases e
    rw [h1.int] at rx; rw [h2.int] at ry
    exact hI pins s σ H _ _ v u Q I rx ry ⟨_, _, rfl, rfl, res.val (rep_bl _)⟩
  · split at e
    · rename_i ns ms e1 e2
      cases e
      obtain ⟨a, vs, e3, q1, w1⟩ := h1.tup
      obtain ⟨b, ws, e4, q2, w2⟩ := h2.tup
      rw [e3] at rx; rw [e4] at ry
      rw [hK] at q1 q2
      rw [w1.intsOf e1] at q1
      rw [w2.intsOf e2] at q2
      exact hT pins s σ H _ _ v u Q I rx ry ⟨a, b, ns, ms, rfl, rfl, q1, q2, by rw [hg]; exact res.val (rep_bl _)⟩
    · cases e
  · cases e
theorem op_leVV (hK : z.K = X.K) (hu : X.A.units < cLine) : OpR X (compareOp .LtE) (rBin z (Bn.ap .le)) :=
  op_cmpVV hK op_le (op_cmpT (zz := fun a b => decide (a ≤ b)) (fun _ _ _ _ _ _ => Ob.RcOp.le_int _ _ _ _) (fun a b c d e => Ob.RcOp.tuples_le a b c d e) (fun _ _ => rfl) hu) (lexAt_list (fun i j => decide (i ≤ j)) (fun a b => decide (a ≤ b)) (fun x y => !MP.lexLt y x)
    (fun ys => by cases ys <;> simp [MP.lexLt]) (fun x xs => by simp [MP.lexLt]) (fun n m => by simp) (fun x y xs ys => by
      simp only [MP.lexLt]
      by_cases h : x = y
      · subst h; simp
      · rw [if_neg h, if_neg (Ne.symm h)]
        by_cases h2 : y < x
        · simp [h2, Int.not_le.mpr h2]
        · simp [h2, Int.not_lt.mp h2]))
theorem op_gtVV (hK : z.K = X.K) (hu : X.A.units < cLine) : OpR X (compareOp .Gt) (rBin z (Bn.ap .gt)) :=
  op_cmpVV hK op_gt (op_cmpT (zz := fun a b => decide (a > b)) (fun _ _ _ _ _ _ => Ob.RcOp.gt_int _ _ _ _) (fun a b c d e => Ob.RcOp.tuples_gt a b c d e) (fun _ _ => rfl) hu) (lexAt_list (fun i j => decide (j < i)) (fun a b => decide (a > b)) (fun x y => MP.lexLt y x)
    (fun ys => by cases ys <;> simp [MP.lexLt]) (fun x xs => by simp [MP.lexLt]) (fun n m => by simp) (fun x y xs ys => by
      simp only [MP.lexLt]
      by_cases h : x = y
      · subst h; simp
      · rw [if_neg h, if_neg (Ne.symm h)]))
theorem op_geVV (hK : z.K = X.K) (hu : X.A.units < cLine) : OpR X (compareOp .GtE) (rBin z (Bn.ap .ge)) :=
  op_cmpVV hK op_ge (op_cmpT (zz := fun a b => decide (a ≥ b)) (fun _ _ _ _ _ _ => Ob.RcOp.ge_int _ _ _ _) (fun a b c d e => Ob.RcOp.tuples_ge a b c d e) (fun _ _ => rfl) hu) (lexAt_list (fun i j => decide (j ≤ i)) (fun a b => decide (a ≥ b)) (fun x y => !MP.lexLt x y)
    (fun ys => by cases ys <;> simp [MP.lexLt]) (fun x xs => by simp [MP.lexLt]) (fun n m => by simp) (fun x y xs ys => by
      simp only [MP.lexLt]
      by_cases h : x = y
      · subst h; simp
      · rw [if_neg h, if_neg h]
        by_cases h2 : x < y
        · simp [h2, Int.not_le.mpr h2]
        · simp [h2, Int.not_lt.mp h2]))
theorem op_bandV : OpR X (binaryOp .BitAnd) (rBin z (Bn.ap .band)) := op_intV (op_rI0 op_and) fun i j x e => by
  split at e
  · rename_i h
    cases e
    refine ⟨trivial, fun _ _ => ?_⟩
    simp only [Rep]
    rw [PyProof.Rows.bitAnd_pp h.1 h.2]
    rfl
  · cases e
theorem place_eq (n : Nat) (i : Int) : place n i = ixN n i := rfl
theorem ix_V (hK : z.K = X.K) : IxR X (rBin z idxV) := by
  intro value slice pins s σ H x y v u Q I rx ry h hs
  obtain ⟨M, O, Hs, r, q, rv, ok, h1, h2, e, res⟩ := h
  unfold idxV at e
  split at e
  · rename_i s' i
    rw [Option.bind_eq_some_iff] at e
    obtain ⟨k, e1, e⟩ := e
    rw [Option.map_eq_some_iff] at e
    obtain ⟨c, e2, rfl⟩ := e
    obtain ⟨l1, e3⟩ := h1.str
    rw [e3] at rx; rw [h2.int] at ry
    refine ix_str value slice pins s σ H _ _ v u Q I rx ry ⟨_, i, c, rfl, rfl, by rw [sizeMax_eq]; simpa [Str.length] using l1, ?_, ?_⟩ hs
    · unfold atI
      rw [← place_eq]
      simp [e1, e2]
    · exact res.val (rep_str (s := [c]) (by simp [sizeMax]))
  · rename_i i _
    split at e
    · rename_i xs e0
      rw [Option.bind_eq_some_iff] at e
      obtain ⟨k, e1, e⟩ := e
      rw [Option.map_eq_some_iff] at e
      obtain ⟨c, e2, rfl⟩ := e
      obtain ⟨a, vs, e3, q1, w⟩ := h1.items e0
      rw [e3] at rx; rw [h2.int] at ry
      obtain ⟨cv, e4, rc⟩ := w.get e2
      have hat : atI vs i = some cv := by
        unfold atI
        rw [← place_eq, w.length]
        simp [e1, e4]
      rcases q1 with q1 | q1
      · exact ix_list value slice pins s σ H _ _ v u Q I rx ry ⟨a, vs, i, cv, rfl, rfl, by rw [← hK]; exact q1, hat, res.val rc⟩ hs
      · exact ix_tup value slice pins s σ H _ _ v u Q I rx ry ⟨a, vs, i, cv, rfl, rfl, by rw [← hK]; exact q1, hat, res.val rc⟩ hs
    · cases e
  · cases e
end
end MP
end
section
set_option Elab.async false
set_option linter.all false
set_option autoImplicit false
set_option maxRecDepth 100000
set_option maxHeartbeats 4000000
namespace MP
open PySem PySem.Spec PyProof.Rows L2
section
variable {X : Cx} {z : Zx}
/-! ### one place -/
theorem RepR.isN {M O : AS} {Hs H : Hp} {r : Rv} {v : V} (h : RepR z M O Hs H r v) : decide (v = .non) = isNoneR r := by
  cases r with
  | v x =>
    cases x with
    | non => rw [h.non]; rfl
    | bl _ => rw [h.bl]; rfl
    | int _ => rw [h.int]; rfl
    | str _ => rw [h.str.2]; rfl
    | tup _ => obtain ⟨a, vs, e, _⟩ := h.tup; rw [e]; rfl
    | lst _ => simp only [RepR, Rep] at h; obtain ⟨_, a, vs, e, _⟩ := h; rw [e]; rfl
    | ref _ => simp only [RepR, Rep] at h; obtain ⟨a, e, _⟩ := h; rw [e]; rfl
    | box => simp only [RepR, Rep] at h; obtain ⟨a, vs, _, e⟩ := h; rw [e]; rfl
    | fn _ => simp only [RepR, Rep] at h; obtain ⟨a, _, e⟩ := h; rw [e]; rfl
  | new _ => obtain ⟨_, a, vs, e, _⟩ := h; rw [e]; rfl
  | vw _ => obtain ⟨_, a, vs, e, _⟩ := h; rw [e]; rfl
theorem un_negV : UnR X (unaryOp .USub) (rUn z negV) := by
  intro pins s σ H x v Q I rx h
  obtain ⟨M, O, Hs, r, rv, ok, h1, e, res⟩ := h
  unfold negV at e
  split at e
  · cases e
    rw [h1.int] at rx
    exact un_neg pins s σ H _ v Q I rx ⟨_, rfl, res.val (rep_int _)⟩
  · cases e
/-- a compare with a written None, True, False as an operation -/
def rC (z : Zx) (f : Rv → Option Rv) (w : V) : R2 := fun x y H Q => y = w ∧ rUn z f x H Q
theorem op_isNV : OpR X (compareOp .Is) (rC z (Un.ap .isN) .non) := by
  intro pins s σ H x y v u Q I rx ry h
  obtain ⟨rfl, M, O, Hs, r, rv, ok, h1, e, res⟩ := h
  cases e
  refine op_isN pins s σ H _ _ v u Q I rx ry ⟨rfl, ?_⟩
  rw [h1.isN]
  exact res.val (rep_bl _)
theorem op_notNV : OpR X (compareOp .IsNot) (rC z (Un.ap .notN) .non) := by
  intro pins s σ H x y v u Q I rx ry h
  obtain ⟨rfl, M, O, Hs, r, rv, ok, h1, e, res⟩ := h
  cases e
  refine op_notN pins s σ H _ _ v u Q I rx ry ⟨rfl, ?_⟩
  rw [h1.isN]
  exact res.val (rep_bl _)
theorem op_isBV {f : Bool → Bool} {w : Bool} (hf : ∀ b, decide (b = w) = f b) : OpR X (compareOp .Is) (rC z (blV f) (.bl w)) := by
  intro pins s σ H x y v u Q I rx ry h
  obtain ⟨rfl, M, O, Hs, r, rv, ok, h1, e, res⟩ := h
  unfold blV at e
  split at e
  · cases e
    rw [h1.bl] at rx
    exact op_is_bl pins s σ H _ _ v u Q I rx ry ⟨_, _, rfl, rfl, by rw [hf]; exact res.val (rep_bl _)⟩
  · cases e
theorem op_notBV {f : Bool → Bool} {w : Bool} (hf : ∀ b, (!decide (b = w)) = f b) : OpR X (compareOp .IsNot) (rC z (blV f) (.bl w)) := by
  intro pins s σ H x y v u Q I rx ry h
  obtain ⟨rfl, M, O, Hs, r, rv, ok, h1, e, res⟩ := h
  unfold blV at e
  split at e
  · cases e
    rw [h1.bl] at rx
    exact op_isnot_bl pins s σ H _ _ v u Q I rx ry ⟨_, _, rfl, rfl, by rw [hf]; exact res.val (rep_bl _)⟩
  · cases e
/-! ### slices -/
theorem cut_sub {α β : Type} (xs : List α) (ys : List β) (lo hi : Option Int) (h : xs.length = ys.length) : bound xs.length 0 lo = HT.sIx ys.length 0 lo ∧ bound xs.length xs.length hi = HT.sIx ys.length ys.length hi := by
  rw [h]; exact ⟨rfl, rfl⟩
theorem Reps.cut {M : AS} {H : Hp} {xs : List Val} {vs : List V} (h : Reps z M H xs vs) (lo hi : Option Int) : Reps z M H (cut xs lo hi) (cutV vs lo hi) := by
  have hl := h.length
  unfold MP.cut cutV
  rw [show bound xs.length 0 lo = HT.sIx vs.length 0 lo by rw [hl]; rfl, show bound xs.length xs.length hi = HT.sIx vs.length vs.length hi by rw [hl]; rfl]
  exact (h.drop _).take _
theorem cut_len {α : Type} (xs : List α) (lo hi : Option Int) : (MP.cut xs lo hi).length ≤ xs.length := by
  unfold MP.cut
  rw [List.length_take, List.length_drop]
  omega
def rSlV (z : Zx) : V → Option Int → Option Int → Hp → VK → Prop := fun x lo hi H Q => ∃ M O Hs r rv, Ok z M H ∧ RepR z M O Hs H r x ∧ slice r lo hi = some rv ∧ Res z M O H rv Q
theorem sl_V (hK : z.K = X.K) : SlR X (rSlV z) := by
  intro pins s σ H x v vl vu lo hi sl Q I rx hs pl pu h
  obtain ⟨M, O, Hs, r, rv, ok, h1, e, res⟩ := h
  unfold slice at e
  split at e
  · cases e
    rename_i t
    obtain ⟨l1, e1⟩ := h1.str
    rw [e1] at rx
    refine sl_str pins s σ H _ v vl vu lo hi sl Q I rx hs pl pu ⟨_, rfl, by rw [sizeMax_eq]; simpa [Str.length] using l1, ?_⟩
    have hc : cutS ⟨t.toArray⟩ lo hi = ⟨(MP.cut t lo hi).toArray⟩ := by
      unfold cutS MP.cut
      simp only [Str.length, List.size_toArray]
      rfl
    rw [hc]
    refine res.val (rep_str (Nat.le_trans ?_ l1))
    unfold MP.cut
    rw [List.length_take, List.length_drop]
    omega
  · cases e
    obtain ⟨a, xs, e3, hx, w⟩ := h1.tup
    rw [e3] at rx
    have hx' := hx
    rw [hK] at hx
    refine sl_tupA pins s σ H _ v vl vu lo hi sl Q I rx hs pl pu ⟨a, xs, rfl, hx, fun hw => ?_, fun hw p hp => res.tup ok (Nat.le_trans (cut_len _ lo hi) (h1.len rfl)) (w.cut lo hi) hp⟩
    refine res.val ?_
    simp only [Rep]
    refine ⟨Nat.le_trans (cut_len _ lo hi) (h1.len rfl), a, xs, rfl, hx', ?_⟩
    have hc := w.cut lo hi
    have : cutV xs lo hi = xs := by
      unfold cutV
      rw [hw.1, hw.2, List.drop_zero, Nat.sub_zero, List.take_length]
    rw [this] at hc
    exact hc
  · rw [Option.map_eq_some_iff] at e
    obtain ⟨ys, e1, rfl⟩ := e
    obtain ⟨a, xs, e3, hx, w⟩ := h1.lst e1
    rw [e3] at rx
    exact sl_list pins s σ H _ v vl vu lo hi sl Q I rx hs pl pu ⟨a, xs, rfl, SqL.of hx, fun p hp => res.new ok (Nat.le_trans (cut_len _ lo hi) (h1.len (lst_items e1))) (w.cut lo hi) hp⟩

/-! ### calls of built-ins -/
/-- arguments read, a result -/
def rAp (z : Zx) (f : List Rv → Option Rv) : List V → Hp → VK → Prop := fun xs H Q => ∃ M O Hs rs rv, Ok z M H ∧ RepRs z M O Hs H rs xs ∧ f rs = some rv ∧ Res z M O H rv Q
theorem RepRs.one {M O : AS} {Hs H : Hp} {r : Rv} {xs : List V} (h : RepRs z M O Hs H [r] xs) : ∃ x, xs = [x] ∧ RepR z M O Hs H r x := by
  obtain ⟨v, ws, rfl, h1, h2, _⟩ := h
  have h2 : ws = [] := h2
  subst h2
  refine ⟨v, rfl, ?_⟩
  match r, h1 with
  | .v x, h => exact Rep.less (fun a m => .inl m) x h
  | .new xs, h =>
    obtain ⟨l, a, vs, e, n, q, w⟩ := h
    exact ⟨l, a, vs, e, n, q, Reps.less (fun b m => m.imp .inl id) xs w⟩
  | .vw xs, h =>
    obtain ⟨l, a, vs, e, n, q, w⟩ := h
    exact ⟨l, a, vs, e, n, q, Reps.less (fun b m => .inl m) xs w⟩
theorem RepRs.two_int {M O : AS} {Hs H : Hp} {i j : Int} {xs : List V} (h : RepRs z M O Hs H [.v (.int i), .v (.int j)] xs) : xs = [.int i, .int j] := by
  obtain ⟨v, ws, rfl, h1, h2, _⟩ := h
  obtain ⟨w, rfl, h3⟩ := h2.one
  rw [h1.int, h3.int]
theorem SqL.ofOr {K : PySem.W.Frag} {H : Hp} {a : Addr} {vs : List V} : True := trivial
theorem cr_len (hK : z.K = X.K) : CallR X (.builtin "len") (rAp z (Ap.ap .len)) := by
  intro pins s σ H vs us Q I r h
  obtain ⟨M, O, Hs, rs, rv, ok, h1, e, res⟩ := h
  unfold Ap.ap at e
  split at e <;> try (exfalso; simp_all; done)
  · cases e
    obtain ⟨x, rfl, h2⟩ := h1.one
    obtain ⟨l1, e1⟩ := h2.str
    rw [e1] at r
    refine call_len_str pins s σ H _ us Q I r ⟨_, rfl, by rw [sizeMax_eq]; simpa [Str.length] using l1, ?_⟩
    simp only [Str.length, List.size_toArray]
    exact res.val (rep_int _)
  · rename_i r0 _
    rw [Option.map_eq_some_iff] at e
    obtain ⟨xs, e1, rfl⟩ := e
    obtain ⟨x, rfl, h2⟩ := h1.one
    obtain ⟨a, vs, e3, q, w⟩ := h2.items e1
    rw [e3] at r
    rw [hK] at q
    refine call_len_seq pins s σ H _ us Q I r ⟨a, vs, rfl, q, ?_⟩
    rw [w.length]
    exact res.val (rep_int _)
theorem cr_tuple (hK : z.K = X.K) : CallR X (.type "tuple") (rAp z (Ap.ap .tuple)) := by
  intro pins s σ H vs us Q I r h
  obtain ⟨M, O, Hs, rs, rv, ok, h1, e, res⟩ := h
  unfold Ap.ap at e
  split at e <;> try (exfalso; simp_all; done)
  rw [Option.map_eq_some_iff] at e
  obtain ⟨xs, e1, rfl⟩ := e
  obtain ⟨x, rfl, h2⟩ := h1.one
  obtain ⟨a, vs, e3, q, w⟩ := h2.items e1
  rw [e3] at r
  rw [hK] at q
  refine call_tuple_of pins s σ H _ us Q I r ⟨a, vs, rfl, ?_⟩
  rcases q with q | q
  · exact .inl ⟨q, fun l hl => res.tup ok (h2.len e1) w hl⟩
  · refine .inr ⟨q, res.val ?_⟩
    simp only [Rep]
    exact ⟨h2.len e1, a, vs, rfl, by rw [hK]; exact q, w⟩
theorem cr_list (hK : z.K = X.K) : CallR X (.type "list") (rAp z (Ap.ap .list)) := by
  intro pins s σ H vs us Q I r h
  obtain ⟨M, O, Hs, rs, rv, ok, h1, e, res⟩ := h
  unfold Ap.ap at e
  split at e <;> try (exfalso; simp_all; done)
  rw [Option.map_eq_some_iff] at e
  obtain ⟨xs, e1, rfl⟩ := e
  obtain ⟨x, rfl, h2⟩ := h1.one
  obtain ⟨a, vs, e3, q, w⟩ := h2.items e1
  rw [e3] at r
  rw [hK] at q
  exact call_list_of pins s σ H _ us Q I r ⟨a, vs, rfl, q, fun l hl => res.new ok (h2.len e1) w hl⟩
theorem sum_tup {prog : Program} {w : World} {A : Around} {E : Value → Shared → Prop} {s : Shared} {l : Addr} {its : List Value} {ns : List Int} {Q : Value → Shared → Prop} (hh : A.handled = none) (hl : s.heap.IsTuple l its.toArray) (hi : IntsAre its ns)
    (h : ∀ h' tk t', (∀ b o, s.heap.get? b = some o → h'.get? b = some o) → Q (.int ns.sum t') { s with heap := h', toks := tk }) : wpAny (model prog w) A (call (.builtin "sum") [.ref l]) Q E s := by
  refine call_sum_walkAnyS (PySem.W.iter_tupleW (A := A.in1) hh hl fun s₂ e W st hfp hw hk => ?_)
  refine ⟨_, _, _, _, _, _, _, fun i => ns.getD i 0, rfl, W, st, hfp, fun i v hv => ?_, fun s' t' m => ?_⟩
  · have hv' : its[i]? = some v := by simpa using hv
    have := PyProof.Rows.IntsAre.int_at hi i v hv'
    exact this
  · obtain ⟨h', tk, rfl, hk'⟩ := PySem.W.moved_old e rfl m
    rw [PyProof.Rows.preSum_getD, List.take_of_length_le (by rw [List.size_toArray, hi.length]; exact Nat.le_refl _)]
    exact h h' tk t' hk'
theorem cr_sumV (hK : z.K = X.K) (hc : X.calm = true) : CallR X (.builtin "sum") (rAp z (Ap.ap .sum)) := by
  intro pins s σ H vs us Q I r h
  obtain ⟨M, O, Hs, rs, rv, ok, h1, e, res⟩ := h
  unfold Ap.ap at e
  split at e <;> try (exfalso; simp_all; done)
  rw [Option.bind_eq_some_iff] at e
  obtain ⟨xs, e1, e⟩ := e
  rw [Option.map_eq_some_iff] at e
  obtain ⟨ns, e2, rfl⟩ := e
  obtain ⟨x, rfl, h2⟩ := h1.one
  obtain ⟨a, vs, e3, q, w⟩ := h2.items e1
  rw [w.intsOf e2] at q
  rw [e3] at r
  rw [hK] at q
  rcases q with q | q
  · exact cr_sum hc pins s σ H _ us Q I r ⟨a, ns, rfl, q, res.val (rep_int _)⟩
  · obtain ⟨its, rv, hl, _⟩ := I.tuple q
    rw [Vals.ref1 r]
    exact sum_tup (I.ok.hd hc) hl rv.ints fun h' tk t' hk => ⟨.int _, H, I.kept hk, ⟨_, rfl⟩, res.val (rep_int _)⟩
theorem cr_anyV (hK : z.K = X.K) (hc : X.calm = true) : CallR X (.builtin "any") (rAp z (Ap.ap .any)) := by
  intro pins s σ H vs us Q I r h
  obtain ⟨M, O, Hs, rs, rv, ok, h1, e, res⟩ := h
  unfold Ap.ap at e
  split at e <;> try (exfalso; simp_all; done)
  rw [Option.bind_eq_some_iff] at e
  obtain ⟨xs, e1, e⟩ := e
  rw [Option.map_eq_some_iff] at e
  obtain ⟨ns, e2, rfl⟩ := e
  obtain ⟨x, rfl, h2⟩ := h1.one
  obtain ⟨a, vs, e3, q, w⟩ := h2.lst e1
  rw [w.boolsOf e2] at q
  rw [e3] at r
  exact cr_any hc pins s σ H _ us Q I r ⟨a, ns, rfl, SqL.of q, res.val (rep_bl _)⟩
theorem cr_allV (hK : z.K = X.K) (hc : X.calm = true) : CallR X (.builtin "all") (rAp z (Ap.ap .all)) := by
  intro pins s σ H vs us Q I r h
  obtain ⟨M, O, Hs, rs, rv, ok, h1, e, res⟩ := h
  unfold Ap.ap at e
  split at e <;> try (exfalso; simp_all; done)
  rw [Option.bind_eq_some_iff] at e
  obtain ⟨xs, e1, e⟩ := e
  rw [Option.map_eq_some_iff] at e
  obtain ⟨ns, e2, rfl⟩ := e
  obtain ⟨x, rfl, h2⟩ := h1.one
  obtain ⟨a, vs, e3, q, w⟩ := h2.lst e1
  rw [w.boolsOf e2] at q
  rw [e3] at r
  exact cr_all hc pins s σ H _ us Q I r ⟨a, ns, rfl, SqL.of q, res.val (rep_bl _)⟩
theorem foldl_max_ge : ∀ (xs : List Int) (x : Int), x ≤ xs.foldl max x ∧ (∀ y ∈ xs, y ≤ xs.foldl max x) ∧ (xs.foldl max x = x ∨ xs.foldl max x ∈ xs)
  | [], x => ⟨Int.le_refl _, by simp, .inl rfl⟩
  | y :: ys, x => by
    obtain ⟨h1, h2, h3⟩ := foldl_max_ge ys (max x y)
    simp only [List.foldl_cons, List.mem_cons]
    refine ⟨by omega, fun w hw => ?_, ?_⟩
    · rcases hw with rfl | hw
      · omega
      · exact h2 w hw
    · rcases h3 with h3 | h3
      · rw [h3]
        by_cases h : x ≤ y
        · exact .inr (.inl (by omega))
        · exact .inl (by omega)
      · exact .inr (.inr h3)
theorem foldl_min_le : ∀ (xs : List Int) (x : Int), xs.foldl min x ≤ x ∧ (∀ y ∈ xs, xs.foldl min x ≤ y) ∧ (xs.foldl min x = x ∨ xs.foldl min x ∈ xs)
  | [], x => ⟨Int.le_refl _, by simp, .inl rfl⟩
  | y :: ys, x => by
    obtain ⟨h1, h2, h3⟩ := foldl_min_le ys (min x y)
    simp only [List.foldl_cons, List.mem_cons]
    refine ⟨by omega, fun w hw => ?_, ?_⟩
    · rcases hw with rfl | hw
      · omega
      · exact h2 w hw
    · rcases h3 with h3 | h3
      · rw [h3]
        by_cases h : y ≤ x
        · exact .inr (.inl (by omega))
        · exact .inl (by omega)
      · exact .inr (.inr h3)
theorem listMax_of {ns : List Int} {m : Int} (h : listMax ns = some m) : 0 < ns.length ∧ ∀ k, k ∈ ns → (∀ y, y ∈ ns → y ≤ k) → k = m := by
  cases ns with
  | nil => cases h
  | cons x xs =>
    simp only [listMax, Option.some.injEq] at h
    obtain ⟨h1, h2, h3⟩ := foldl_max_ge xs x
    refine ⟨by simp, fun k hk hb => ?_⟩
    rw [← h]
    have a1 := hb x (by simp)
    have a2 : xs.foldl max x ≤ k := by
      rcases h3 with h3 | h3
      · omega
      · exact hb _ (List.mem_cons_of_mem _ h3)
    rcases List.mem_cons.mp hk with rfl | hk
    · omega
    · have := h2 k hk; omega
theorem listMin_of {ns : List Int} {m : Int} (h : listMin ns = some m) : 0 < ns.length ∧ ∀ k, k ∈ ns → (∀ y, y ∈ ns → k ≤ y) → k = m := by
  cases ns with
  | nil => cases h
  | cons x xs =>
    simp only [listMin, Option.some.injEq] at h
    obtain ⟨h1, h2, h3⟩ := foldl_min_le xs x
    refine ⟨by simp, fun k hk hb => ?_⟩
    rw [← h]
    have a1 := hb x (by simp)
    have a2 : k ≤ xs.foldl min x := by
      rcases h3 with h3 | h3
      · omega
      · exact hb _ (List.mem_cons_of_mem _ h3)
    rcases List.mem_cons.mp hk with rfl | hk
    · omega
    · have := h2 k hk; omega
theorem cr_max2V (hc : X.calm = true) : CallR X (.builtin "max") (rAp z (Ap.ap .max2)) := by
  intro pins s σ H vs us Q I r h
  obtain ⟨M, O, Hs, rs, rv, ok, h1, e, res⟩ := h
  unfold Ap.ap at e
  split at e <;> try (exfalso; simp_all; done)
  cases e
  rw [h1.two_int] at r
  exact call_max2 hc pins s σ H _ us Q I r ⟨_, _, rfl, res.val (rep_int _)⟩
theorem cr_min2V (hc : X.calm = true) : CallR X (.builtin "min") (rAp z (Ap.ap .min2)) := by
  intro pins s σ H vs us Q I r h
  obtain ⟨M, O, Hs, rs, rv, ok, h1, e, res⟩ := h
  unfold Ap.ap at e
  split at e <;> try (exfalso; simp_all; done)
  cases e
  rw [h1.two_int] at r
  exact call_min2 hc pins s σ H _ us Q I r ⟨_, _, rfl, res.val (rep_int _)⟩
theorem cr_intV : CallR X (.type "int") (rAp z (Ap.ap .int)) := by
  intro pins s σ H vs us Q I r h
  obtain ⟨M, O, Hs, rs, rv, ok, h1, e, res⟩ := h
  unfold Ap.ap at e
  split at e <;> try (exfalso; simp_all; done)
  · cases e
    obtain ⟨x, rfl, h2⟩ := h1.one
    rw [h2.int] at r
    exact call_int1 pins s σ H _ us Q I r (.inl ⟨_, rfl, res.val (rep_int _)⟩)
  · cases e
    obtain ⟨x, rfl, h2⟩ := h1.one
    rw [h2.bl] at r
    exact call_int1 pins s σ H _ us Q I r (.inr ⟨_, rfl, res.val (rep_int _)⟩)
theorem cr_strV : CallR X (.type "str") (rAp z (Ap.ap .str)) := by
  intro pins s σ H vs us Q I r h
  obtain ⟨M, O, Hs, rs, rv, ok, h1, e, res⟩ := h
  unfold Ap.ap at e
  split at e <;> try (exfalso; simp_all; done)
  split at e
  · rename_i hb
    cases e
    obtain ⟨x, rfl, h2⟩ := h1.one
    rw [h2.int] at r
    have lg : ∀ i : Int, -big < i ∧ i < big → i.natAbs.log2 < 1920 := fun i hb => by
      have h1 : -18446744073709551616 < i ∧ i < 18446744073709551616 := hb
      by_cases h0 : i.natAbs = 0
      · rw [h0]; decide
      · refine Nat.lt_of_lt_of_le ((Nat.log2_lt h0).mpr (show i.natAbs < 2 ^ 64 from ?_)) (by decide)
        show _ < 18446744073709551616
        omega
    have hl := lg _ hb
    have hf := PySem.int_text_fits hl
    rw [Str.ofString_eq_toList] at hf
    refine call_str_int pins s σ H _ us Q I r ⟨_, rfl, hl, ?_⟩
    rw [Str.ofString_eq_toList]
    refine res.val (rep_str ?_)
    rw [sizeMax_eq] at hf
    simpa [Str.length, decS] using hf
  · cases e
theorem cr_absV : CallR X (.builtin "abs") (rAp z (Ap.ap .abs)) := by
  intro pins s σ H vs us Q I r h
  obtain ⟨M, O, Hs, rs, rv, ok, h1, e, res⟩ := h
  unfold Ap.ap at e
  split at e <;> try (exfalso; simp_all; done)
  cases e
  obtain ⟨x, rfl, h2⟩ := h1.one
  rw [h2.int] at r
  exact call_abs pins s σ H _ us Q I r ⟨_, rfl, res.val (rep_int _)⟩

/-! ### isinstance -/
def tyName : Ty → String
  | .int => "int" | .bool => "bool" | .str => "str" | .tuple => "tuple" | .list => "list"
theorem tyX_tup {K : PySem.W.Frag} {H : Hp} {a : Addr} {vs : List V} (h : SqT K H a vs) : TyX K H (.ref a) (.type "tuple") := by
  rcases h with (h | ⟨o, h⟩) | ⟨o, its, n, h1, h2, _⟩
  · exact .base (.tup h)
  · exact .fTuple h
  · exact .kTuple h1 h2
def clsName : Rv → Option String
  | .v .non => some "NoneType"
  | .v (.bl _) => some "bool"
  | .v (.int _) => some "int"
  | .v (.str _) => some "str"
  | .v (.tup _) => some "tuple"
  | .v (.lst _) => some "list"
  | .new _ => some "list"
  | .vw _ => some "list"
  | _ => none
theorem RepR.tyX {M O : AS} {Hs H : Hp} {r : Rv} {v : V} {n : String} (h : RepR z M O Hs H r v) (e : clsName r = some n) : TyX z.K H v (.type n) := by
  cases r with
  | v x =>
    cases x <;> simp only [clsName, Option.some.injEq, reduceCtorEq] at e <;> subst e
    · rw [h.non]; exact .base .non
    · rw [h.bl]; exact .base (.bl _)
    · rw [h.int]; exact .base (.int _)
    · rw [h.str.2]; exact .base (.str _)
    · obtain ⟨a, vs, e, q, _⟩ := h.tup
      rw [e]; exact tyX_tup q
    · simp only [RepR, Rep] at h
      obtain ⟨_, a, vs, e, q, _⟩ := h
      rw [e]; exact .base (.lst q)
  | new _ =>
    simp only [clsName, Option.some.injEq] at e
    subst e
    obtain ⟨_, a, vs, e, _, q, _⟩ := h
    rw [e]; exact .base (.lst q)
  | vw _ =>
    simp only [clsName, Option.some.injEq] at e
    subst e
    obtain ⟨_, a, vs, e, _, q, _⟩ := h
    rw [e]; exact .base (.lst q)
theorem kit_all : ∀ t : Ty, kitB "NoneType" (tyName t) = some false ∧ kitB "bool" (tyName t) = some (match t with | .int => true | .bool => true | _ => false) ∧ kitB "int" (tyName t) = some (match t with | .int => true | _ => false) ∧
    kitB "str" (tyName t) = some (match t with | .str => true | _ => false) ∧ kitB "tuple" (tyName t) = some (match t with | .tuple => true | _ => false) ∧ kitB "list" (tyName t) = some (match t with | .list => true | _ => false) := by
  intro t
  cases t <;> decide +kernel
theorem kit_is {t : Ty} {r : Rv} {b : Bool} (e : isTy t r = some b) : ∃ n, clsName r = some n ∧ kitB n (tyName t) = some b := by
  obtain ⟨k0, k1, k2, k3, k4, k5⟩ := kit_all t
  cases r with
  | v x => cases x <;> cases t <;> first
      | (simp only [isTy, Option.some.injEq] at e; subst e; first | exact ⟨_, rfl, k0⟩ | exact ⟨_, rfl, k1⟩ | exact ⟨_, rfl, k2⟩ | exact ⟨_, rfl, k3⟩ | exact ⟨_, rfl, k4⟩ | exact ⟨_, rfl, k5⟩)
      | (simp only [isTy, reduceCtorEq] at e)
  | new _ => cases t <;> (simp only [isTy, Option.some.injEq] at e; subst e; exact ⟨_, rfl, k5⟩)
  | vw _ => cases t <;> (simp only [isTy, Option.some.injEq] at e; subst e; exact ⟨_, rfl, k5⟩)
/-- the second argument is the class itself -/
theorem cr_isi (hK : z.K = X.K) (t : Ty) : CallR X (.builtin "isinstance") (fun xs H Q => ∃ x, xs = [x, .ty (tyName t)] ∧ rAp z (Ap.ap (.isi t)) [x] H Q) := by
  intro pins s σ H vs us Q I r h
  obtain ⟨x, rfl, M, O, Hs, rs, rv, ok, h1, e, res⟩ := h
  unfold Ap.ap at e
  split at e <;> try (exfalso; simp_all; done)
  rename_i t' r0 et
  cases et
  rw [Option.map_eq_some_iff] at e
  obtain ⟨b, e1, rfl⟩ := e
  obtain ⟨y, ey, h2⟩ := h1.one
  cases ey
  obtain ⟨n, e2, e3⟩ := kit_is e1
  have ty := h2.tyX e2
  rw [hK] at ty
  exact call_isi pins s σ H _ us Q I r ⟨x, _, _, _, b, rfl, .ty _, ty, kit_ty e3, res.val (rep_bl _)⟩

/-! ### methods -/
def rMt (z : Zx) (f : Rv → List Rv → Option Rv) : V → List V → Hp → VK → Prop := fun x xs H Q => ∃ M O Hs r rs rv, Ok z M H ∧ RepR z M O Hs H r x ∧ RepRs z M O Hs H rs xs ∧ f r rs = some rv ∧ Res z M O H rv Q
theorem up1_eq (c : Nat) : PyProof.Rows.up1 c = MP.up1 c := by
  unfold PyProof.Rows.up1 MP.up1
  by_cases h : 97 ≤ c ∧ c ≤ 122
  · simp [h]
  · simp [h]
theorem mt_upperV : MtR X "str.upper" (rMt z (Mt.ap .upper)) := by
  intro pins s σ H x xs v us Q I rx rs h
  obtain ⟨M, O, Hs, r, rs', rv, ok, h1, h2, e, res⟩ := h
  unfold Mt.ap at e
  split at e <;> try (exfalso; simp_all; done)
  split at e
  · rename_i t hl
    cases e
    obtain ⟨l1, e1⟩ := h1.str
    have h2 : xs = [] := h2
    subst h2
    rw [e1] at rx
    rw [Bool.and_eq_true, decide_eq_true_eq] at hl
    refine mt_upper pins s σ H _ _ v us Q I rx rs ⟨_, rfl, rfl, ?_, ?_⟩
    · simp only [Str.length, List.size_toArray]
      exact Nat.le_trans hl.2 (by decide)
    · rw [PyProof.Rows.upper_ascii (fun c hc => by
        have := List.all_eq_true.mp hl.1 c (by simpa using hc)
        simpa using this)]
      rw [show PyProof.Rows.up1 = MP.up1 from funext up1_eq, List.map_toArray]
      exact res.val (rep_str (by rw [List.length_map]; exact l1))
  · cases e
end
end MP
end
section
set_option Elab.async false
set_option linter.all false
set_option autoImplicit false
set_option maxRecDepth 100000
set_option maxHeartbeats 4000000
/-! MPSort: sorted, min, max of data. -/
namespace MPS
open PySem PySem.Spec PyProof.Rows L2
section
variable {prog : Program} {w : World} {A : Around} {E : Value → Shared → Prop} {s : Shared}
theorem collect_at {Q : List Value → Shared → Prop} (it : Addr) {T : String} {o : Obj} {items : Array Value} {n : Nat} (hT : T = "list" ∨ T = "tuple") (ho : s.heap.get? it = some o) (hc : o.cls = .type T) (hd : o.data = .seq items n)
    (hQ : ∀ h', (∀ b o', s.heap.get? b = some o' → h'.get? b = some o') → s.heap.objs.size ≤ h'.objs.size → Q items.toList { s with heap := h' }) (hsz : items.size ≤ sizeLine) : wpAny (model prog w) A (collect (.ref it)) Q E s := by
  have hS : (s.heap.push { cls := .type "list", data := .seq ([] : List Value).toArray }).get? s.heap.objs.size = some { cls := .type "list", data := .seq #[] 0 } := Heap.get?_push_size _ rfl
  have hS2 := Heap.get?_update_self (Obj.mapSeq (· ++ items)) hS rfl
  have e : ((#[] : Array Value) ++ items).toList = items.toList := by simp
  have fin : wpAny (model prog w) A (match Value.ref s.heap.objs.size with
      | Value.ref a => do
        match (← load a).data with
          | Data.seq xs _ => pure xs.toList
          | _ => unsupported "internal:collect"
      | _ => unsupported "internal:collect") Q E { s with heap := (s.heap.push { cls := .type "list", data := .seq ([] : List Value).toArray }).update s.heap.objs.size (Obj.mapSeq (· ++ items)) } := by
    refine wpAny_bind (wpAny_load hS2 (wpAny_pure ?_))
    show Q ((#[] : Array Value) ++ items).toList _
    rw [e]
    refine hQ _ (fun b o' hb => (Heap.get?_update_other _ _ (Nat.ne_of_gt (Heap.lt_size hb))).trans (Heap.get?_push_of_some _ hb)) ?_
    rw [Heap.size_update, size_push']
    exact Nat.le_succ _
  unfold collect
  refine wpAny_bind (wpAny_runValue (codeAny_builtin F.entry_proto_collect ?_))
  rw [Around.under_plainId F.plain_proto_collect _]
  refine wpAny_bind (wpAny_newObj_type (wpAny_pure ⟨plainId_quiet F.plain_list_iadd _, codeAny_builtin F.entry_list_iadd ?_⟩))
  rw [Around.under_plainId F.plain_list_iadd _]
  refine wpAny_mono (wpAny_extend_seq (hsz := hsz) (A := A) (R := fun r s' => r = .ok (.ret (.ref s.heap.objs.size)) ∧ s' = { s with heap := (s.heap.push { cls := .type "list", data := .seq ([] : List Value).toArray }).update s.heap.objs.size (Obj.mapSeq (· ++ items)) })
    (s := { s with heap := s.heap.push { cls := .type "list", data := .seq ([] : List Value).toArray } }) _ it _ 0 hT hS (Heap.get?_push_of_some _ ho) hc hd ⟨rfl, rfl⟩) (fun f s' h => ?_) (fun x s' h => ?_)
  · cases f with
    | done f =>
      obtain ⟨q, rfl⟩ := h
      cases q
      exact fin
    | again c' => exact ⟨h.1, codeAny_mono h.2 fun r s'' hr => by obtain ⟨rfl, rfl⟩ := hr; exact fin⟩
  · exact absurd h.1 (by simp)
end
section
variable {X : Cx}
def rSortedD (K : PySem.W.Frag) : List V → Hp → VK → Prop := fun vs H Q => ∃ (a : Addr) (bs : List (PyData × V)), vs = [V.ref a] ∧ (SqL K H a (bs.map (·.2)) ∨ SqT K H a (bs.map (·.2))) ∧ DpAll K H (bs.map (·.2)) (bs.map (·.1)) ∧
  PySem.W.AllAlike (bs.map (·.1)) ∧ PySem.W.Sortable (bs.map (·.1)) ∧ (∀ b ∈ bs, b.1.depth ≤ 40) ∧
  ∀ p, H p = none → Q (.ref p) (upd H p (.lst ((bs.mergeSort (PySem.W.dataLe false (·.1))).map (·.2))))
theorem seq_at {pins : List (Addr × Obj)} {σ : L2.St} {H : Hp} {s : Shared} {a : Addr} {xs : List V} (I : L2.Inv X pins σ H s) (h : SqL X.K H a xs ∨ SqT X.K H a xs) :
    ∃ (its : List Value) (T : String) (o : Obj) (n : Nat), Vals xs its ∧ (T = "list" ∨ T = "tuple") ∧ s.heap.get? a = some o ∧ o.cls = .type T ∧ o.data = .seq its.toArray n ∧ xs.length ≤ sizeLine := by
  rcases h with h | h
  · obtain ⟨its, r, ⟨o, n, e, c, d, q⟩, z⟩ := I.list h
    exact ⟨its, "list", o, n, r, .inl rfl, e, c, q, z⟩
  · obtain ⟨its, r, ⟨o, e, c, n, q⟩, z⟩ := I.tuple h
    exact ⟨its, "tuple", o, n, r, .inr rfl, e, c, q, z⟩
theorem each_of {pins : List (Addr × Obj)} {σ : L2.St} {H : Hp} {s : Shared} (I : L2.Inv X pins σ H s) : ∀ {bs : List (PyData × V)} {its : List Value}, Vals (bs.map (·.2)) its → DpAll X.K H (bs.map (·.2)) (bs.map (·.1)) →
    PySem.W.EachIs (fun v (b : PyData × V) => RelV b.2 v) its bs ∧ PySem.W.EachIs (fun v (b : PyData × V) => ∃ as, Reads s.heap v b.1 as) its bs
  | [], its, r, d => by
    cases r
    exact ⟨.nil, .nil⟩
  | b :: bs, its, r, d => by
    rw [List.map_cons] at r
    rw [List.map_cons, List.map_cons] at d
    cases r with
    | cons rv rs =>
      cases d with
      | cons d1 d2 =>
        obtain ⟨e1, e2⟩ := each_of I rs d2
        exact ⟨.cons rv e1, .cons (Dp.reads I _ _ _ d1 rv) e2⟩
theorem vals_each : ∀ {bs : List (PyData × V)} {its : List Value}, PySem.W.EachIs (fun v (b : PyData × V) => RelV b.2 v) its bs → Vals (bs.map (·.2)) its
  | _, _, .nil => .nil
  | _, _, .cons r t => .cons r (vals_each t)
theorem cr_sortedD (hu : X.A.units + 64 < cLine) : CallR X (.builtin "sorted") (rSortedD X.K) := by
  intro pins s σ H vs us Q I r h
  obtain ⟨a, bs, rfl, hs, hd, hal, hk, hdep, q⟩ := h
  rw [Vals.ref1 r]
  obtain ⟨its, T, o, n, rv, hT, ho, hc, hdat, hz⟩ := seq_at I hs
  have hz' : its.length ≤ sizeLine := by rw [← rv.length]; exact hz
  obtain ⟨e, er⟩ := each_of I rv hd
  refine PySem.Calls.call_function_entry kind_sorted plain_sorted entry_sorted (args_sorted1 _) ?_
  unfold Builtin.«sorted»
  refine wpAny_bind (m := checkCount "sorted" 1 1 _) (wpAny_pure ?_)
  refine wpAny_bind (collect_at a hT ho hc hdat (fun h' k hsz => ?_) (by simpa using hz'))
  have eL : its.toArray.toList = its := by simp
  rw [eL]
  refine wpAny_bind (wpAny_newList ?_ hz')
  have hoL : (h'.push (seqObj "list" its.toArray 0)).get? h'.objs.size = some (seqObj "list" its.toArray 0) := Heap.get?_push_size _ rfl
  have kp : ∀ b u, s.heap.get? b = some u → (h'.push (seqObj "list" its.toArray 0)).get? b = some u ∧ b ≠ h'.objs.size := fun b u hb => ⟨Heap.get?_push_of_some _ (k b u hb), Nat.ne_of_lt (Heap.lt_size (k b u hb))⟩
  have er' : PySem.W.EachIs (fun v (b : PyData × V) => ∃ as, Reads (h'.push (seqObj "list" its.toArray 0)) v b.1 as ∧ h'.objs.size ∉ as) its bs := er.mono fun v b ⟨as, rd⟩ =>
    ⟨as, Reads.keeps (fun b u hb => (kp b u hb).1) rd, fun m => by
      obtain ⟨u, hu⟩ := PyProof.On.reads_mem_get rd _ m
      exact (kp _ _ hu).2 rfl⟩
  have hL : bs.length ≤ sizeLine := by simpa using hz
  refine wpAny_bind (wpAny_holding (PySem.W.list_sort_data (s := { s with heap := h'.push (seqObj "list" its.toArray 0) }) hoL e er' hal hk hL (fun b hb => by
    have := hdep b hb
    show X.A.units + 1 + 1 + b.1.depth < cLine
    omega) fun out hlen eo => ?_))
  refine wpAny_pure ⟨_, rfl, ?_⟩
  obtain ⟨c, hat⟩ := sortedHeap_at (vs := its) (out := out.toArray) hoL
  have hlen' : ((bs.mergeSort (PySem.W.dataLe false (·.1))).map (·.2)).length ≤ sizeLine := by
    rw [List.length_map, List.length_mergeSort]; exact hL
  refine ⟨.ref h'.objs.size, upd H h'.objs.size (.lst ((bs.mergeSort (PySem.W.dataLe false (·.1))).map (·.2))), I.laid (t' := s.toks) (fun b u hb => ?_) hsz ⟨hlen', out, c, vals_each eo, hat⟩, rfl, q _ (I.hok.fresh hsz)⟩
  rw [sortedHeap_old (kp b u hb).2 (Heap.lt_size (kp b u hb).1)]
  exact (kp b u hb).1
/-- min(xs): an item that reads as the least -/
def rMinD (K : PySem.W.Frag) : List V → Hp → VK → Prop := fun vs H Q => ∃ (a : Addr) (b : PyData × V) (bs : List (PyData × V)), vs = [V.ref a] ∧ (SqL K H a ((b :: bs).map (·.2)) ∨ SqT K H a ((b :: bs).map (·.2))) ∧ DpAll K H ((b :: bs).map (·.2)) ((b :: bs).map (·.1)) ∧
  PySem.W.AlikeAll ((b :: bs).map (·.1)) ∧ PyData.depthAll ((b :: bs).map (·.1)) ≤ 40 ∧ ∀ c ∈ b :: bs, c.1 = PySem.W.minD b.1 (bs.map (·.1)) → Q c.2 H
theorem cr_minD (hc : X.calm = true) (hu : X.A.units + 64 < cLine) : CallR X (.builtin "min") (rMinD X.K) := by
  intro pins s σ H vs us Q I r h
  obtain ⟨a, b, bs, rfl, hs, hd, hal, hdep, q⟩ := h
  rw [Vals.ref1 r]
  have hh : X.A.handled = none := I.ok.hd hc
  have end_ : ∀ (its : Array Value), Vals ((b :: bs).map (·.2)) its.toList → ∀ (i : Nat) (v : Value) (h' : Heap) (tk : Nat) (as : List Addr), its[i]? = some v → Reads h' v (PySem.W.minD b.1 (bs.map (·.1))) as → (∀ b o, s.heap.get? b = some o → h'.get? b = some o) →
      (fun v s' => ∃ x H', L2.Inv X pins σ H' s' ∧ RelV x v ∧ Q x H') v { s with heap := h', toks := tk } := by
    intro its rv i v h' tk as hv rd kp
    obtain ⟨e, er⟩ := each_of I rv hd
    have hi : i < its.toList.length := by
      have := (Array.getElem?_eq_some_iff.mp hv).1
      simpa using this
    have hl : its.toList.length = (b :: bs).length := by rw [← rv.length, List.length_map]
    have hz : (v, (b :: bs)[i]'(by omega)) ∈ its.toList.zip (b :: bs) := List.mem_of_getElem? (i := i) (by
      rw [List.getElem?_zip_eq_some]
      exact ⟨by simpa using hv, List.getElem?_eq_getElem (by omega)⟩)
    obtain ⟨as', rd'⟩ := er.zip _ hz
    have k1 := (Reads.unique (Reads.keeps kp rd') _ _ rd).1
    exact ⟨_, H, I.kept kp, e.zip _ hz, q _ (List.getElem_mem _) k1⟩
  rcases hs with hs | hs
  · obtain ⟨its, rv, hl, hz⟩ := I.list hs
    obtain ⟨e, er⟩ := each_of I rv hd
    obtain ⟨as, ra⟩ := PySem.W.each_readsAll (β := PyData × V) (·.1) er
    exact PySem.W.min_list_data hh hl.isList (by simpa using ra) hal (by rw [List.map_cons] at hdep; show X.A.units + 1 + _ < _; exact Nat.lt_of_le_of_lt (Nat.add_le_add_left hdep _) (by omega)) fun i v h' tk as hv rd kp => end_ its.toArray (by simpa using rv) i v h' tk as hv rd kp
  · obtain ⟨its, rv, hl, hz⟩ := I.tuple hs
    obtain ⟨e, er⟩ := each_of I rv hd
    obtain ⟨as, ra⟩ := PySem.W.each_readsAll (β := PyData × V) (·.1) er
    exact PySem.W.min_tuple_data hh hl (by simpa using ra) hal (by rw [List.map_cons] at hdep; show X.A.units + 1 + _ < _; exact Nat.lt_of_le_of_lt (Nat.add_le_add_left hdep _) (by omega)) fun i v h' tk as hv rd kp => end_ its.toArray (by simpa using rv) i v h' tk as hv rd kp
/-- max(xs): an item that reads as the greatest -/
def rMaxD (K : PySem.W.Frag) : List V → Hp → VK → Prop := fun vs H Q => ∃ (a : Addr) (b : PyData × V) (bs : List (PyData × V)), vs = [V.ref a] ∧ (SqL K H a ((b :: bs).map (·.2)) ∨ SqT K H a ((b :: bs).map (·.2))) ∧ DpAll K H ((b :: bs).map (·.2)) ((b :: bs).map (·.1)) ∧
  PySem.W.AlikeAll ((b :: bs).map (·.1)) ∧ PyData.depthAll ((b :: bs).map (·.1)) ≤ 40 ∧ ∀ c ∈ b :: bs, c.1 = PySem.W.maxD b.1 (bs.map (·.1)) → Q c.2 H
theorem cr_maxD (hc : X.calm = true) (hu : X.A.units + 64 < cLine) : CallR X (.builtin "max") (rMaxD X.K) := by
  intro pins s σ H vs us Q I r h
  obtain ⟨a, b, bs, rfl, hs, hd, hal, hdep, q⟩ := h
  rw [Vals.ref1 r]
  have hh : X.A.handled = none := I.ok.hd hc
  have end_ : ∀ (its : Array Value), Vals ((b :: bs).map (·.2)) its.toList → ∀ (i : Nat) (v : Value) (h' : Heap) (tk : Nat) (as : List Addr), its[i]? = some v → Reads h' v (PySem.W.maxD b.1 (bs.map (·.1))) as → (∀ b o, s.heap.get? b = some o → h'.get? b = some o) →
      (fun v s' => ∃ x H', L2.Inv X pins σ H' s' ∧ RelV x v ∧ Q x H') v { s with heap := h', toks := tk } := by
    intro its rv i v h' tk as hv rd kp
    obtain ⟨e, er⟩ := each_of I rv hd
    have hi : i < its.toList.length := by
      have := (Array.getElem?_eq_some_iff.mp hv).1
      simpa using this
    have hl : its.toList.length = (b :: bs).length := by rw [← rv.length, List.length_map]
    have hz : (v, (b :: bs)[i]'(by omega)) ∈ its.toList.zip (b :: bs) := List.mem_of_getElem? (i := i) (by
      rw [List.getElem?_zip_eq_some]
      exact ⟨by simpa using hv, List.getElem?_eq_getElem (by omega)⟩)
    obtain ⟨as', rd'⟩ := er.zip _ hz
    have k1 := (Reads.unique (Reads.keeps kp rd') _ _ rd).1
    exact ⟨_, H, I.kept kp, e.zip _ hz, q _ (List.getElem_mem _) k1⟩
  rcases hs with hs | hs
  · obtain ⟨its, rv, hl, hz⟩ := I.list hs
    obtain ⟨e, er⟩ := each_of I rv hd
    obtain ⟨as, ra⟩ := PySem.W.each_readsAll (β := PyData × V) (·.1) er
    exact PySem.W.max_list_data hh hl.isList (by simpa using ra) hal (by rw [List.map_cons] at hdep; show X.A.units + 1 + _ < _; exact Nat.lt_of_le_of_lt (Nat.add_le_add_left hdep _) (by omega)) fun i v h' tk as hv rd kp => end_ its.toArray (by simpa using rv) i v h' tk as hv rd kp
  · obtain ⟨its, rv, hl, hz⟩ := I.tuple hs
    obtain ⟨e, er⟩ := each_of I rv hd
    obtain ⟨as, ra⟩ := PySem.W.each_readsAll (β := PyData × V) (·.1) er
    exact PySem.W.max_tuple_data hh hl (by simpa using ra) hal (by rw [List.map_cons] at hdep; show X.A.units + 1 + _ < _; exact Nat.lt_of_le_of_lt (Nat.add_le_add_left hdep _) (by omega)) fun i v h' tk as hv rd kp => end_ its.toArray (by simpa using rv) i v h' tk as hv rd kp
/-- set(t) of a tuple of ints -/
def rSetI (K : PySem.W.Frag) (w : World) : List V → Hp → VK → Prop := fun vs H Q => ∃ (p : Addr) (ns : List Int), vs = [V.ref p] ∧ SqT K H p (ns.map V.int) ∧ ns.length ≤ 1000 ∧
  ∀ (a : Addr) (n : Nat), H a = none → n ≤ ns.length → Q (.ref a) (upd H a (SetO w a (fun j => decide (j ∈ ns)) n))
theorem cr_setI (hc : X.calm = true) : CallR X (.type "set") (rSetI X.K X.w) := by
  intro pins s σ H vs us Q I r h
  obtain ⟨p, ns, rfl, hs, hl, q⟩ := h
  obtain ⟨its, rv, pt, hz⟩ := I.tuple hs
  rw [Vals.ref1 r]
  refine call_set_tupI ns (I.ok.hd hc) (show s.heap.IsTuple p its.toArray from pt) (by simpa using ints_of_vals rv) (by unfold scanBound; omega) fun h' tk c R1 hcn k => ?_
  have hn : H s.heap.objs.size = none := I.hok.fresh (Nat.le_refl _)
  exact ⟨.ref _, upd H s.heap.objs.size (SetO X.w s.heap.objs.size (fun j => decide (j ∈ ns)) c), I.laid (t' := tk) k (Nat.le_refl _) (setO_new R1), rfl, q _ _ hn hcn⟩
end
end MPS

namespace MP
open PySem PySem.Spec PyProof.Rows L2
/-! ### as values of the small language -/
mutual
theorem toD_alike : ∀ x y : Val, x.alike y = true → PySem.W.alike (toD x) (toD y) = true
  | x, y, h => by
    cases x <;> cases y <;> first
      | (simp only [Val.alike, Bool.false_eq_true] at h; done)
      | (simp only [toD, PySem.W.alike]; done)
      | (simp only [Val.alike] at h; simp only [toD, PySem.W.alike]; exact toD_alikes _ _ h)
theorem toD_alikes : ∀ xs ys : List Val, Val.alikes xs ys = true → PySem.W.alikeAll (toDs xs) (toDs ys) = true
  | [], ys, _ => by simp [toDs, PySem.W.alikeAll]
  | x :: xs, [], _ => by simp [toDs, PySem.W.alikeAll]
  | x :: xs, y :: ys, h => by
    simp only [Val.alikes, Bool.and_eq_true] at h
    simp only [toDs, PySem.W.alikeAll, Bool.and_eq_true]
    exact ⟨toD_alike x y h.1, toD_alikes xs ys h.2⟩
end
theorem rowLt_nil : PyProof.Rows.lexLt PyProof.Rows.itemOrd (PySem.W.keyToksAll []) (PySem.W.keyToksAll []) = false := PyProof.Rows.lex_irrefl _
theorem rowLt_nc (y : PyData) (ys : List PyData) : PyProof.Rows.lexLt PyProof.Rows.itemOrd (PySem.W.keyToksAll []) (PySem.W.keyToksAll (y :: ys)) = true := by
  simp only [PySem.W.keyToksAll]
  rw [PyProof.Rows.lex_diff (O := PyProof.Rows.itemOrd) (by simp)]
  rfl
theorem rowLt_cn (y : PyData) (ys : List PyData) : PyProof.Rows.lexLt PyProof.Rows.itemOrd (PySem.W.keyToksAll (y :: ys)) (PySem.W.keyToksAll []) = false := by
  simp only [PySem.W.keyToksAll]
  rw [PyProof.Rows.lex_diff (O := PyProof.Rows.itemOrd) (by simp)]
  rfl
mutual
theorem lt_toD : ∀ (n : Nat) (x y : Val), x.plain n = true → (∃ m, y.plain m = true) → x.alike y = true → PySem.W.dataLt (toD x) (toD y) = x.lt y
  | n, x, y, hx, ⟨m, hy⟩, h => by
    cases x <;> cases y <;> first
      | (simp only [Val.alike, Bool.false_eq_true] at h; done)
      | (simp only [toD, Val.lt]; exact PyProof.Rows.lex_irrefl _)
      | (rename_i a b
         simp only [toD, Val.lt]
         rw [PySem.W.dataLt_bool]
         cases a <;> cases b <;> rfl)
      | (simp only [toD, Val.lt]; rw [PySem.W.dataLt_int]; done)
      | (simp only [toD, Val.lt]; rw [PySem.W.dataLt_str]; done)
      | (simp only [Val.alike] at h
         simp only [toD, Val.lt]
         first | rw [PySem.W.dataLt_tuple] | rw [PySem.W.dataLt_list]
         cases n with
         | zero => simp [Val.plain] at hx
         | succ n =>
           cases m with
           | zero => simp [Val.plain] at hy
           | succ m =>
             simp only [Val.plain] at hx hy
             exact lts_toD n _ _ hx ⟨m, hy⟩ h)
theorem lts_toD : ∀ (n : Nat) (xs ys : List Val), Val.plains n xs = true → (∃ m, Val.plains m ys = true) → Val.alikes xs ys = true →
    PyProof.Rows.lexLt PyProof.Rows.itemOrd (PySem.W.keyToksAll (toDs xs)) (PySem.W.keyToksAll (toDs ys)) = Val.lts xs ys
  | n, [], [], _, _, _ => by simp only [toDs, Val.lts]; exact rowLt_nil
  | n, [], y :: ys, _, _, _ => by simp only [toDs, Val.lts]; exact rowLt_nc _ _
  | n, x :: xs, [], _, _, _ => by simp only [toDs, Val.lts]; exact rowLt_cn _ _
  | n, x :: xs, y :: ys, hx, ⟨m, hy⟩, h => by
    simp only [Val.plains, Bool.and_eq_true] at hx hy
    simp only [Val.alikes, Bool.and_eq_true] at h
    simp only [toDs, Val.lts]
    rw [PySem.W.dataLt_cons (toD_alike x y h.1), eqv_eq n x y hx.1 ⟨m, hy.1⟩, lts_toD n xs ys hx.2 ⟨m, hy.2⟩ h.2, lt_toD n x y hx.1 ⟨m, hy.1⟩ h.1]
end
end MP
end
section
set_option Elab.async false
set_option linter.all false
set_option autoImplicit false
set_option maxRecDepth 100000
set_option maxHeartbeats 4000000
/-! MPSort2: sorted, min, max. -/
namespace MP
open PySem PySem.Spec PyProof.Rows L2
theorem plains_mem : ∀ {n : Nat} {xs : List Val} {x : Val}, Val.plains n xs = true → x ∈ xs → x.plain n = true
  | n, [], x, _, h => by simp at h
  | n, y :: ys, x, h, m => by
    simp only [Val.plains, Bool.and_eq_true] at h
    rcases List.mem_cons.mp m with rfl | m
    · exact h.1
    · exact plains_mem h.2 m
structure OkMin (xs : List Val) : Prop where
  al : ∀ x ∈ xs, ∀ y ∈ xs, x.alike y = true
  nn : ∀ x ∈ xs, x.isNon = false
  pl : Val.plains 39 xs = true
theorem okMin_of {xs : List Val} (h : okMin xs = true) : OkMin xs := by
  unfold okMin at h
  simp only [Bool.and_eq_true, List.all_eq_true, Bool.not_eq_true'] at h
  exact ⟨fun x hx y hy => (h.1 x hx).2 y hy, fun x hx => (h.1 x hx).1, h.2⟩
theorem okMin_ints {xs : List Val} {ns : List Int} (h : intsOf xs = some ns) : OkMin xs ∧ xs = ns.map .int := by
  have e : xs = ns.map .int := by
    induction xs generalizing ns with
    | nil => cases h; rfl
    | cons x xs ih =>
      cases x <;> simp only [intsOf, reduceCtorEq, Option.map_eq_some_iff] at h
      obtain ⟨ms, e1, rfl⟩ := h
      rw [ih e1]; rfl
  refine ⟨⟨fun x hx y hy => ?_, fun x hx => ?_, ?_⟩, e⟩
  · rw [e] at hx hy
    obtain ⟨i, _, rfl⟩ := List.mem_map.mp hx
    obtain ⟨j, _, rfl⟩ := List.mem_map.mp hy
    rfl
  · rw [e] at hx
    obtain ⟨i, _, rfl⟩ := List.mem_map.mp hx
    rfl
  · rw [e]
    clear h e
    induction ns with
    | nil => rfl
    | cons n ns ih => simp only [List.map_cons, Val.plains, Val.plain, ih, Bool.and_self]
theorem toD_non {x : Val} (p : x.plain 39 = true) (h : x.isNon = false) : toD x ≠ .none := by
  cases x <;> simp_all [toD, Val.isNon, Val.plain]
theorem OkMin.alike {xs : List Val} (h : OkMin xs) : PySem.W.AlikeAll (toDs xs) := by
  rw [toDs_map]
  refine ⟨fun d hd d' hd' => ?_, fun d hd => ?_⟩
  · obtain ⟨x, hx, rfl⟩ := List.mem_map.mp hd
    obtain ⟨y, hy, rfl⟩ := List.mem_map.mp hd'
    exact toD_alike x y (h.al x hx y hy)
  · obtain ⟨x, hx, rfl⟩ := List.mem_map.mp hd
    exact toD_non (plains_mem h.pl hx) (h.nn x hx)
theorem OkMin.depth {xs : List Val} (h : OkMin xs) : PyData.depthAll (toDs xs) ≤ 39 := (plains_lay 39 xs h.pl).2
/-- the items with what they read as -/
theorem zip_maps : ∀ (xs : List Val) (vs : List V), vs.length = xs.length → ((toDs xs).zip vs).map (·.2) = vs ∧ ((toDs xs).zip vs).map (·.1) = toDs xs
  | [], [], _ => ⟨rfl, rfl⟩
  | [], _ :: _, h => by simp at h
  | _ :: _, [], h => by simp at h
  | x :: xs, v :: vs, h => by
    obtain ⟨a, b⟩ := zip_maps xs vs (by simpa using h)
    simp only [toDs, List.zip_cons_cons, List.map_cons]
    exact ⟨by rw [a], by rw [b]⟩
mutual
theorem toD_inj : ∀ (n : Nat) (x y : Val), x.plain n = true → (∃ m, y.plain m = true) → toD x = toD y → x = y
  | n, x, y, hx, ⟨m, hy⟩, e => by
    cases x <;> cases y <;> first
      | rfl
      | (simp [toD] at e; done)
      | (exfalso; cases n <;> simp [Val.plain] at hx; done)
      | (exfalso; cases m <;> simp [Val.plain] at hy; done)
      | (simp only [toD, PyData.bool.injEq, PyData.int.injEq, PyData.str.injEq, Str.mk.injEq] at e; first | (rw [e]; done) | (congr 1; simpa using e))
      | (cases n with
         | zero => simp [Val.plain] at hx
         | succ n =>
           cases m with
           | zero => simp [Val.plain] at hy
           | succ m =>
             simp only [Val.plain] at hx hy
             simp only [toD, PyData.tuple.injEq, PyData.list.injEq] at e
             congr 1
             exact toDs_inj n _ _ hx ⟨m, hy⟩ e)
theorem toDs_inj : ∀ (n : Nat) (xs ys : List Val), Val.plains n xs = true → (∃ m, Val.plains m ys = true) → toDs xs = toDs ys → xs = ys
  | n, [], [], _, _, _ => rfl
  | n, [], y :: ys, _, _, e => by simp [toDs] at e
  | n, x :: xs, [], _, _, e => by simp [toDs] at e
  | n, x :: xs, y :: ys, hx, ⟨m, hy⟩, e => by
    simp only [Val.plains, Bool.and_eq_true] at hx hy
    simp only [toDs, List.cons.injEq] at e
    rw [toD_inj n x y hx.1 ⟨m, hy.1⟩ e.1, toDs_inj n xs ys hx.2 ⟨m, hy.2⟩ e.2]
end
theorem Reps.zip_mem {z : Zx} {M : AS} {H : Hp} : ∀ {xs : List Val} {vs : List V}, Reps z M H xs vs → ∀ c ∈ (toDs xs).zip vs, ∃ x ∈ xs, c.1 = toD x ∧ Rep z M H x c.2
  | [], vs, h, c, hc => by simp [toDs] at hc
  | x :: xs, vs, h, c, hc => by
    simp only [Reps] at h
    obtain ⟨v, ws, rfl, r, s⟩ := h
    simp only [toDs, List.zip_cons_cons] at hc
    rcases List.mem_cons.mp hc with rfl | hc
    · exact ⟨x, List.mem_cons_self, rfl, r⟩
    · obtain ⟨y, m, e, q⟩ := Reps.zip_mem s c hc
      exact ⟨y, List.mem_cons_of_mem _ m, e, q⟩
theorem minD_toD : ∀ (ys : List Val) (x : Val), (∀ a ∈ x :: ys, ∀ b ∈ x :: ys, a.alike b = true) → Val.plains 39 (x :: ys) = true →
    PySem.W.minD (toD x) (toDs ys) = toD (ys.foldl (fun a y => if y.lt a then y else a) x) ∧ ys.foldl (fun a y => if y.lt a then y else a) x ∈ x :: ys
  | [], x, _, _ => ⟨rfl, List.mem_cons_self⟩
  | y :: ys, x, ha, hp => by
    simp only [Val.plains, Bool.and_eq_true] at hp
    have e : PySem.W.dataLt (toD y) (toD x) = y.lt x := lt_toD 39 y x hp.2.1 ⟨39, hp.1⟩ (ha _ (by simp) _ (by simp))
    have k : PySem.W.minD (toD x) (toDs (y :: ys)) = PySem.W.minD (toD (if y.lt x then y else x)) (toDs ys) := by
      unfold PySem.W.minD
      simp only [toDs, List.foldl_cons, e]
      split <;> rfl
    have sub : ∀ a ∈ (if y.lt x then y else x) :: ys, a ∈ x :: y :: ys := fun a h => by
      rcases List.mem_cons.mp h with rfl | h
      · split <;> simp
      · simp [h]
    obtain ⟨h1, h2⟩ := minD_toD ys (if y.lt x then y else x) (fun a h b h' => ha a (sub a h) b (sub b h')) (by
      simp only [Val.plains, Bool.and_eq_true]
      refine ⟨?_, hp.2.2⟩
      split
      · exact hp.2.1
      · exact hp.1)
    rw [k, h1, List.foldl_cons]
    exact ⟨rfl, sub _ h2⟩
theorem maxD_toD : ∀ (ys : List Val) (x : Val), (∀ a ∈ x :: ys, ∀ b ∈ x :: ys, a.alike b = true) → Val.plains 39 (x :: ys) = true →
    PySem.W.maxD (toD x) (toDs ys) = toD (ys.foldl (fun a y => if a.lt y then y else a) x) ∧ ys.foldl (fun a y => if a.lt y then y else a) x ∈ x :: ys
  | [], x, _, _ => ⟨rfl, List.mem_cons_self⟩
  | y :: ys, x, ha, hp => by
    simp only [Val.plains, Bool.and_eq_true] at hp
    have e : PySem.W.dataLt (toD x) (toD y) = x.lt y := lt_toD 39 x y hp.1 ⟨39, hp.2.1⟩ (ha _ (by simp) _ (by simp))
    have k : PySem.W.maxD (toD x) (toDs (y :: ys)) = PySem.W.maxD (toD (if x.lt y then y else x)) (toDs ys) := by
      unfold PySem.W.maxD
      simp only [toDs, List.foldl_cons, e]
      split <;> rfl
    have sub : ∀ a ∈ (if x.lt y then y else x) :: ys, a ∈ x :: y :: ys := fun a h => by
      rcases List.mem_cons.mp h with rfl | h
      · split <;> simp
      · simp [h]
    obtain ⟨h1, h2⟩ := maxD_toD ys (if x.lt y then y else x) (fun a h b h' => ha a (sub a h) b (sub b h')) (by
      simp only [Val.plains, Bool.and_eq_true]
      refine ⟨?_, hp.2.2⟩
      split
      · exact hp.2.1
      · exact hp.1)
    rw [k, h1, List.foldl_cons]
    exact ⟨rfl, sub _ h2⟩
theorem maxV_ints : ∀ (ns : List Int) (n : Int), (ns.map Val.int).foldl (fun a y => if a.lt y then y else a) (.int n) = .int (ns.foldl max n)
  | [], n => rfl
  | m :: ns, n => by
    have e : (if (Val.int n).lt (.int m) then Val.int m else .int n) = .int (max n m) := by
      simp only [Val.lt, decide_eq_true_eq]
      split
      · congr 1; omega
      · congr 1; omega
    rw [List.map_cons, List.foldl_cons, List.foldl_cons, e]
    exact maxV_ints ns _
theorem minV_ints : ∀ (ns : List Int) (n : Int), (ns.map Val.int).foldl (fun a y => if y.lt a then y else a) (.int n) = .int (ns.foldl min n)
  | [], n => rfl
  | m :: ns, n => by
    have e : (if (Val.int m).lt (.int n) then Val.int m else .int n) = .int (min n m) := by
      simp only [Val.lt, decide_eq_true_eq]
      split
      · congr 1; omega
      · congr 1; omega
    rw [List.map_cons, List.foldl_cons, List.foldl_cons, e]
    exact minV_ints ns _
theorem maxR_of {xs : List Val} {rv : Rv} (h : maxR xs = some rv) : OkMin xs ∧ ∃ x ys, xs = x :: ys ∧ rv = .v (ys.foldl (fun a y => if a.lt y then y else a) x) := by
  unfold maxR at h
  split at h
  · rename_i ns e
    obtain ⟨o, e⟩ := okMin_ints e
    refine ⟨o, ?_⟩
    cases ns with
    | nil => cases h
    | cons n ns =>
      simp only [listMax, Option.map_some, Option.some.injEq] at h
      exact ⟨.int n, ns.map .int, e, by rw [maxV_ints, h]⟩
  · split at h
    · rename_i o
      refine ⟨okMin_of o, ?_⟩
      cases xs with
      | nil => cases h
      | cons x xs =>
        simp only [maxV, Option.map_some, Option.some.injEq] at h
        exact ⟨x, xs, rfl, h.symm⟩
    · cases h
theorem minR_of {xs : List Val} {rv : Rv} (h : minR xs = some rv) : OkMin xs ∧ ∃ x ys, xs = x :: ys ∧ rv = .v (ys.foldl (fun a y => if y.lt a then y else a) x) := by
  unfold minR at h
  split at h
  · rename_i ns e
    obtain ⟨o, e⟩ := okMin_ints e
    refine ⟨o, ?_⟩
    cases ns with
    | nil => cases h
    | cons n ns =>
      simp only [listMin, Option.map_some, Option.some.injEq] at h
      exact ⟨.int n, ns.map .int, e, by rw [minV_ints, h]⟩
  · split at h
    · rename_i o
      refine ⟨okMin_of o, ?_⟩
      cases xs with
      | nil => cases h
      | cons x xs =>
        simp only [minV, Option.map_some, Option.some.injEq] at h
        exact ⟨x, xs, rfl, h.symm⟩
    · cases h
section
variable {X : Cx} {z : Zx}
theorem cr_maxV (hK : z.K = X.K) (hc : X.calm = true) (hu : X.A.units + 64 < cLine) : CallR X (.builtin "max") (rAp z (Ap.ap .max)) := by
  intro pins s σ H vs us Q I r h
  obtain ⟨M, O, Hs, rs, rv, ok, h1, e, res⟩ := h
  unfold Ap.ap at e
  split at e <;> try (exfalso; simp_all; done)
  rw [Option.bind_eq_some_iff] at e
  obtain ⟨xs, e1, e⟩ := e
  obtain ⟨o, x, ys, rfl, rfl⟩ := maxR_of e
  obtain ⟨w, rfl, h2⟩ := h1.one
  obtain ⟨a, ws, e3, q, rp⟩ := h2.items e1
  have hl := rp.length
  obtain ⟨m1, m2⟩ := zip_maps (x :: ys) ws hl
  have mem := rp.zip_mem
  have d := Reps.dp 39 (x :: ys) o.pl rp
  rw [hK] at d q
  rw [e3] at r
  cases ws with
  | nil => simp at hl
  | cons v ws =>
    simp only [toDs, List.zip_cons_cons] at m1 m2 mem d
    obtain ⟨k1, k2⟩ := maxD_toD ys x o.al o.pl
    refine MPS.cr_maxD hc hu pins s σ H _ us Q I r ⟨a, (toD x, v), (toDs ys).zip ws, rfl, by rw [m1]; exact q, by rw [m1, m2]; exact d, by rw [m2]; exact o.alike, by rw [m2]; exact Nat.le_trans o.depth (by decide), fun c hc hm => ?_⟩
    obtain ⟨y, hy, ey, ry⟩ := mem c hc
    have e5 : ((toDs ys).zip ws).map (·.1) = toDs ys := by simpa using m2
    rw [ey, e5, k1] at hm
    have : y = _ := toD_inj 39 y _ (plains_mem o.pl hy) ⟨39, plains_mem o.pl k2⟩ hm
    subst this
    exact res.val ry
theorem cr_minV (hK : z.K = X.K) (hc : X.calm = true) (hu : X.A.units + 64 < cLine) : CallR X (.builtin "min") (rAp z (Ap.ap .min)) := by
  intro pins s σ H vs us Q I r h
  obtain ⟨M, O, Hs, rs, rv, ok, h1, e, res⟩ := h
  unfold Ap.ap at e
  split at e <;> try (exfalso; simp_all; done)
  rw [Option.bind_eq_some_iff] at e
  obtain ⟨xs, e1, e⟩ := e
  obtain ⟨o, x, ys, rfl, rfl⟩ := minR_of e
  obtain ⟨w, rfl, h2⟩ := h1.one
  obtain ⟨a, ws, e3, q, rp⟩ := h2.items e1
  have hl := rp.length
  obtain ⟨m1, m2⟩ := zip_maps (x :: ys) ws hl
  have mem := rp.zip_mem
  have d := Reps.dp 39 (x :: ys) o.pl rp
  rw [hK] at d q
  rw [e3] at r
  cases ws with
  | nil => simp at hl
  | cons v ws =>
    simp only [toDs, List.zip_cons_cons] at m1 m2 mem d
    obtain ⟨k1, k2⟩ := minD_toD ys x o.al o.pl
    refine MPS.cr_minD hc hu pins s σ H _ us Q I r ⟨a, (toD x, v), (toDs ys).zip ws, rfl, by rw [m1]; exact q, by rw [m1, m2]; exact d, by rw [m2]; exact o.alike, by rw [m2]; exact Nat.le_trans o.depth (by decide), fun c hc hm => ?_⟩
    obtain ⟨y, hy, ey, ry⟩ := mem c hc
    have e5 : ((toDs ys).zip ws).map (·.1) = toDs ys := by simpa using m2
    rw [ey, e5, k1] at hm
    have : y = _ := toD_inj 39 y _ (plains_mem o.pl hy) ⟨39, plains_mem o.pl k2⟩ hm
    subst this
    exact res.val ry
theorem reps_pairs {M : AS} {H : Hp} : ∀ {ts : List (Val × V)}, Reps z M H (ts.map (·.1)) (ts.map (·.2)) ↔ ∀ p ∈ ts, Rep z M H p.1 p.2
  | [] => by simp [Reps]
  | p :: ts => by
    have ih := reps_pairs (M := M) (H := H) (ts := ts)
    simp only [List.map_cons, Reps, List.mem_cons, forall_eq_or_imp]
    constructor
    · rintro ⟨v, ws, e, r, s⟩
      cases e
      exact ⟨r, ih.mp s⟩
    · rintro ⟨r, s⟩
      exact ⟨_, _, rfl, r, ih.mpr s⟩
theorem zip_fst : ∀ (xs : List Val) (vs : List V), vs.length = xs.length → (xs.zip vs).map (·.1) = xs ∧ (xs.zip vs).map (·.2) = vs ∧ (toDs xs).zip vs = (xs.zip vs).map fun p => (toD p.1, p.2)
  | [], [], _ => ⟨rfl, rfl, rfl⟩
  | [], _ :: _, h => by simp at h
  | _ :: _, [], h => by simp at h
  | x :: xs, v :: vs, h => by
    obtain ⟨a, b, c⟩ := zip_fst xs vs (by simpa using h)
    simp only [toDs, List.zip_cons_cons, List.map_cons]
    exact ⟨by rw [a], by rw [b], by rw [c]⟩
theorem cr_sortedV (hK : z.K = X.K) (hu : X.A.units + 64 < cLine) : CallR X (.builtin "sorted") (rAp z (Ap.ap .sorted)) := by
  intro pins s σ H vs us Q I r h
  obtain ⟨M, O, Hs, rs, rv, ok, h1, e, res⟩ := h
  unfold Ap.ap at e
  split at e <;> try (exfalso; simp_all; done)
  rw [Option.bind_eq_some_iff] at e
  obtain ⟨xs, e1, e⟩ := e
  unfold sortR at e
  split at e
  rotate_left
  · cases e
  rename_i os
  cases e
  unfold okSort at os
  rw [Bool.and_eq_true] at os
  have o := okMin_of os.1
  obtain ⟨w, rfl, h2⟩ := h1.one
  obtain ⟨a, ws, e3, q, rp⟩ := h2.items e1
  have hlen := h2.len e1
  have hl := rp.length
  obtain ⟨m1, m2⟩ := zip_maps xs ws hl
  obtain ⟨f1, f2, f3⟩ := zip_fst xs ws hl
  have d := Reps.dp 39 xs o.pl rp
  rw [hK] at d q
  rw [e3] at r
  have pr : ∀ p ∈ xs.zip ws, Rep z M H p.1 p.2 := reps_pairs.mp (by rw [f1, f2]; exact rp)
  have mx : ∀ p ∈ xs.zip ws, p.1 ∈ xs := fun p hp => by
    have := List.mem_map_of_mem (f := fun p : Val × V => p.1) hp
    rwa [f1] at this
  have g1 : ((toDs xs).zip ws).mergeSort (PySem.W.dataLe false (·.1)) = ((xs.zip ws).mergeSort fun p q => !q.1.lt p.1).map fun p => (toD p.1, p.2) := by
    rw [f3]
    refine (List.map_mergeSort fun p hp q hq => ?_).symm
    show (!q.1.lt p.1) = (!PySem.W.dataLt (toD q.1) (toD p.1))
    rw [lt_toD 39 q.1 p.1 (plains_mem o.pl (mx q hq)) ⟨39, plains_mem o.pl (mx p hp)⟩ (o.al _ (mx q hq) _ (mx p hp))]
  have g2 : sortV xs = ((xs.zip ws).mergeSort fun p q => !q.1.lt p.1).map (·.1) := by
    unfold sortV
    conv => lhs; rw [← f1]
    exact (List.map_mergeSort (r := fun (p q : Val × V) => !q.1.lt p.1) (s := fun a b : Val => !b.lt a) (f := fun p : Val × V => p.1) fun p hp q hq => rfl).symm
  refine MPS.cr_sortedD hu pins s σ H _ us Q I r ⟨a, (toDs xs).zip ws, rfl, by rw [m1]; exact q, by rw [m1, m2]; exact d, by rw [m2]; exact o.alike.1, ?_, fun b hb => ?_, fun p hp => ?_⟩
  · rw [m2, toDs_map]
    rw [Bool.or_eq_true] at os
    rcases os.2 with h | h
    · refine .inl fun d hd => ?_
      obtain ⟨x, hx, rfl⟩ := List.mem_map.mp hd
      have := List.all_eq_true.mp h x hx
      cases x <;> try cases this
      rename_i ys
      cases ys with
      | nil => cases this
      | cons y ys => exact ⟨toD y, toDs ys, by simp only [toD, toDs]⟩
    · refine .inr fun d hd => ?_
      obtain ⟨x, hx, rfl⟩ := List.mem_map.mp hd
      have := List.all_eq_true.mp h x hx
      refine ⟨toD_non (plains_mem o.pl hx) (o.nn x hx), fun ys => ?_⟩
      cases x <;> simp_all [toD, Val.isTup]
  · obtain ⟨x, hx, e, _⟩ := rp.zip_mem b hb
    rw [e]
    exact Nat.le_trans (plain_lay 39 x (plains_mem o.pl hx)).2 (by decide)
  · have rr : Reps z M H (sortV xs) ((((toDs xs).zip ws).mergeSort (PySem.W.dataLe false (·.1))).map (·.2)) := by
      rw [g1, g2, List.map_map]
      exact reps_pairs.mpr fun p hp => pr p ((List.mergeSort_perm _ _).mem_iff.mp hp)
    refine res.new ok ?_ rr hp
    unfold sortV
    rw [List.length_mergeSort]
    exact hlen
theorem insU_mem {x k : Int} : ∀ {xs : List Int}, k ∈ insU x xs ↔ k = x ∨ k ∈ xs
  | [] => by simp [insU]
  | y :: ys => by
    unfold insU
    split
    · simp
    · split
      · rename_i e; subst e; simp
      · simp only [List.mem_cons, insU_mem (xs := ys)]
        constructor
        · rintro (h | h | h) <;> simp [h]
        · rintro (h | h | h) <;> simp [h]
theorem insU_asc {x : Int} : ∀ {xs : List Int}, xs.Pairwise (· < ·) → (insU x xs).Pairwise (· < ·)
  | [], _ => by simp [insU]
  | y :: ys, h => by
    have h1 := List.pairwise_cons.mp h
    unfold insU
    split
    · rename_i lt
      refine List.pairwise_cons.mpr ⟨fun z hz => ?_, h⟩
      rcases List.mem_cons.mp hz with rfl | hz
      · exact lt
      · exact Int.lt_trans lt (h1.1 z hz)
    · split
      · exact h
      · rename_i n1 n2
        refine List.pairwise_cons.mpr ⟨fun z hz => ?_, insU_asc h1.2⟩
        rcases insU_mem.mp hz with rfl | hz
        · omega
        · exact h1.1 z hz
theorem setI_mem {k : Int} : ∀ {xs : List Int}, k ∈ setI xs ↔ k ∈ xs
  | [] => by simp [setI]
  | x :: xs => by simp only [setI, insU_mem, List.mem_cons, setI_mem (xs := xs)]
theorem setI_asc : ∀ (xs : List Int), (setI xs).Pairwise (· < ·)
  | [] => List.Pairwise.nil
  | x :: xs => insU_asc (setI_asc xs)
theorem asc_ext : ∀ {xs ys : List Int}, xs.Pairwise (· < ·) → ys.Pairwise (· < ·) → (∀ k, k ∈ xs ↔ k ∈ ys) → xs = ys
  | [], [], _, _, _ => rfl
  | [], y :: ys, _, _, h => by have := (h y).mpr (by simp); simp at this
  | x :: xs, [], _, _, h => by have := (h x).mp (by simp); simp at this
  | x :: xs, y :: ys, hx, hy, h => by
    have a1 := List.pairwise_cons.mp hx
    have a2 := List.pairwise_cons.mp hy
    have e : x = y := by
      rcases List.mem_cons.mp ((h x).mp (by simp)) with e | m
      · exact e
      · rcases List.mem_cons.mp ((h y).mpr (by simp)) with e | m'
        · exact e.symm
        · have := a1.1 y m'; have := a2.1 x m; omega
    subst e
    rw [asc_ext a1.2 a2.2 fun k => ?_]
    constructor
    · intro m
      rcases List.mem_cons.mp ((h k).mp (List.mem_cons_of_mem _ m)) with e | m'
      · have := a1.1 k m; omega
      · exact m'
    · intro m
      rcases List.mem_cons.mp ((h k).mpr (List.mem_cons_of_mem _ m)) with e | m'
      · have := a2.1 k m; omega
      · exact m'
theorem setI_len (xs : List Int) : (setI xs).length ≤ xs.length := by
  have ins : ∀ (x : Int) (ys : List Int), (insU x ys).length ≤ ys.length + 1 := fun x ys => by
    induction ys with
    | nil => simp [insU]
    | cons y ys ih =>
      unfold insU
      split
      · simp
      · split
        · simp
        · simp only [List.length_cons]; omega
  induction xs with
  | nil => simp [setI]
  | cons x xs ih =>
    have := ins x (setI xs)
    simp only [setI, List.length_cons]
    omega
/-- sorted(set(t)) -/
theorem r_sortSet {w : World} {vs : List V} {H : Hp} {Q : VK} (h : rAp z (Ap.ap .sortSet) vs H Q) : MPS.rSetI z.K w vs H fun v H2 => rSortedSet w [v] H2 Q := by
  obtain ⟨M, O, Hs, rs, rv, ok, h1, e, res⟩ := h
  unfold Ap.ap at e
  split at e <;> try (exfalso; simp_all; done)
  rename_i xs _ _
  unfold setR at e
  rw [Option.bind_eq_some_iff] at e
  obtain ⟨ns, e1, e⟩ := e
  split at e
  rotate_left
  · cases e
  rename_i hlt
  cases e
  obtain ⟨u, rfl, h2⟩ := h1.one
  obtain ⟨p, ws, rfl, q, w2⟩ := h2.tup
  rw [w2.intsOf e1] at q
  refine ⟨p, ns, rfl, q, by omega, fun a n ha hn => ⟨a, _, n, rfl, upd_same, by omega, fun out b asc mem len hb => ?_⟩⟩
  have eo : out = setI ns := asc_ext asc (setI_asc ns) fun k => by rw [mem k, setI_mem, decide_eq_true_eq]
  have hba : b ≠ a := fun q => by rw [q, upd_same] at hb; cases hb
  have hb0 : H b = none := by rwa [upd_ne hba] at hb
  have s1 : Same H (upd H a (SetO w a (fun j => decide (j ∈ ns)) n)) := same_new ha
  refine res _ _ (s1.trans (same_new hb)) ⟨?_, b, _, rfl, ?_, upd_same, ?_⟩
  · rw [List.length_map]
    have := setI_len ns
    unfold sizeMax
    omega
  · exact hb0
  · rw [eo]
    exact Reps.ofInts _
end
end MP
end
section
set_option Elab.async false
set_option linter.all false
set_option autoImplicit false
set_option maxRecDepth 100000
set_option maxHeartbeats 4000000
/-! MPExp: expressions of the text against those of the small language. -/
namespace MP
open PySem PySem.Spec PyProof.Rows L2
abbrev Expr := PySem.Expr

section
variable {z : Zx} {R : Fr} {env : Env} {σ : St} {H H' H1 H2 : Hp}
theorem Rel.ok (r : Rel z R env σ H) : Ok z (Clo R env σ) H := ⟨r.box, r.bxC, r.trkC⟩
theorem Ok.keeps {M : AS} (o : Ok z M H) (k : Keeps z H H') : Ok z M H' := ⟨k.box o.box, o.bxM, fun a m e => o.trk a m (k.trk a e)⟩
/-- a result at a later heap -/
theorem RepR.later (r : Rel z R env σ H) (k1 : Keeps z H H1) (k2 : Keeps z H1 H2) {x : Rv} {v : V} (h : RepR z (Clo R env σ) (OwnA env σ) H H1 x v) : RepR z (Clo R env σ) (OwnA env σ) H H2 x v :=
  RepR.mono (k1.box r.box) k2 r.bxC (fun a o => r.own_nobox o) (fun a e => e) (fun a e b => r.trkC a (r.bxC a b) e) (fun a m => .inl m) h
/-- .. from an earlier one -/
theorem RepR.since {M O : AS} (k : Keeps z H H1) {x : Rv} {v : V} (h : RepR z M O H1 H2 x v) : RepR z M O H H2 x v := by
  match x, h with
  | .v x, h => exact h
  | .new xs, h =>
    obtain ⟨l, a, vs, e, n, q, w⟩ := h
    exact ⟨l, a, vs, e, k.trk a n, q, w⟩
  | .vw xs, h => exact h
theorem RepRs.since {O : AS} (k : Keeps z H H1) : ∀ {rs : List Rv} {vs : List V} {M : AS}, RepRs z M O H1 H2 rs vs → RepRs z M O H H2 rs vs
  | [], vs, M, h => h
  | r :: rs, vs, M, h => by
    obtain ⟨v, ws, e, h1, h2, h3⟩ := h
    exact ⟨v, ws, e, h1.since k, RepRs.since k h2, h3⟩
theorem PE.imp {X : Cx} {e : Expr} {t t' : TE} (h : PE X e t) (i : ∀ σ H Q, t' σ H Q → t σ H Q) : PE X e t' := ⟨fun pins s σ H Q I q => h.run pins s σ H Q I (i σ H Q q)⟩
theorem PT.imp {X : Cx} {e : Expr} {t t' : TT} (h : PT X e t) (i : ∀ σ H Q, t' σ H Q → t σ H Q) : PT X e t' := ⟨fun pins s σ H Q I q => h.run pins s σ H Q I (i σ H Q q)⟩
theorem PW.imp {X : Cx} {e : Expr} {t t' : TT} (h : PW X e t) (i : ∀ σ H Q, t' σ H Q → t σ H Q) : PW X e t' := ⟨fun w pins s σ H Q I q => h.run w pins s σ H Q I (i σ H Q q)⟩
theorem PA.imp {X : Cx} {e : List Expr} {t t' : TA} (h : PA X e t) (i : ∀ σ H Q, t' σ H Q → t σ H Q) : PA X e t' := ⟨fun p pins s σ H Q I q => h.run p pins s σ H Q I (i σ H Q q)⟩
theorem PO.imp {X : Cx} {e : Option Expr} {t t' : TO} (h : PO X e t) (i : ∀ σ H Q, t' σ H Q → t σ H Q) : PO X e t' := ⟨fun pins s σ H Q I q => h.run pins s σ H Q I (i σ H Q q)⟩
end

section
variable {z : Zx} {c : Ctx}
theorem wp_opt {α β : Type} {o : Option α} {f : α → T β} {Q : β → Prop} (h : (T.opt o f).wp Q) : ∃ a, o = some a ∧ (f a).wp Q := by
  cases o with
  | none => exact h.elim
  | some a => exact ⟨a, rfl, h⟩
theorem wp_tru {β : Type} {o : Option Bool} {t e : T β} {Q : β → Prop} (h : (T.tru o t e).wp Q) : (o = some true ∧ t.wp Q) ∨ (o = some false ∧ e.wp Q) := by
  cases o with
  | none => exact h.elim
  | some b =>
    cases b with
    | true => exact .inl ⟨rfl, h⟩
    | false => exact .inr ⟨rfl, h⟩
theorem wp_iff {β : Type} {b : Bool} {t : T β} {Q : β → Prop} (h : (T.iff b t).wp Q) : b = true ∧ t.wp Q := by
  cases b with
  | true => exact ⟨rfl, h⟩
  | false => exact h.elim
theorem wp_chain {β : Type} {o : Option Rv} {t e : T β} {Q : β → Prop} (h : (chainT o t e).wp Q) : (o = some (.v (.bl true)) ∧ t.wp Q) ∨ (o = some (.v (.bl false)) ∧ e.wp Q) := by
  unfold chainT at h
  split at h
  · exact .inl ⟨rfl, h⟩
  · exact .inr ⟨rfl, h⟩
  · exact h.elim
/-- two expressions, then an operation -/
theorem rd_bin {a b : E} {f : Rv → Rv → Option Rv} {R : Fr} {env : Env} {h : Mem} {σ : St} {H : Hp} {Q : VK} {G : Rv × Mem → Prop} (rel : Rel z R env σ H)
    (w : (ev c a env h).wp fun p => (ev c b env p.2).wp fun q => ∃ rv, f p.1 q.1 = some rv ∧ G (rv, q.2))
    (hG : ∀ p, G p → ∀ v H', Keeps z H H' → RepR z (Clo R env σ) (OwnA env σ) H H' p.1 v → Q v H') : tOp (rBin z f) (tE z c a) (tE z c b) σ H Q := by
  refine ⟨R, env, h, rel, T.wp_mono w fun p wp v H1 k1 r1 => ⟨R, env, p.2, rel.of_keeps k1, T.wp_mono wp fun q ⟨rv, e, g⟩ u H2 k2 r2 => ?_⟩⟩
  refine ⟨Clo R env σ, OwnA env σ, H, p.1, q.1, rv, rel.ok.keeps (k1.trans k2), r1.later rel k1 k2, r2.since k1, e, fun v H3 s r3 => ?_⟩
  exact hG _ g v H3 ((k1.trans k2).trans (.same s)) (r3.since (k1.trans k2))
theorem rd_un {a : E} {f : Rv → Option Rv} {R : Fr} {env : Env} {h : Mem} {σ : St} {H : Hp} {Q : VK} {G : Rv × Mem → Prop} (rel : Rel z R env σ H)
    (w : (ev c a env h).wp fun p => ∃ rv, f p.1 = some rv ∧ G (rv, p.2))
    (hG : ∀ p, G p → ∀ v H', Keeps z H H' → RepR z (Clo R env σ) (OwnA env σ) H H' p.1 v → Q v H') : tUn (rUn z f) (tE z c a) σ H Q := by
  refine ⟨R, env, h, rel, T.wp_mono w fun p ⟨rv, e, g⟩ v H1 k1 r1 => ?_⟩
  exact ⟨Clo R env σ, OwnA env σ, H, p.1, rv, rel.ok.keeps k1, r1, e, fun v H3 s r3 => hG _ g v H3 (k1.trans (.same s)) (r3.since k1)⟩
/-- arguments, then a function -/
theorem rd_ap {es : Es} {f : List Rv → Option Rv} {R : Fr} {env : Env} {h : Mem} {σ : St} {H : Hp} {Q : VK} {G : Rv × Mem → Prop} (rel : Rel z R env σ H)
    (w : (evs c es env h).wp fun p => ∃ rv, f p.1 = some rv ∧ G (rv, p.2))
    (hG : ∀ p, G p → ∀ v H', Keeps z H H' → RepR z (Clo R env σ) (OwnA env σ) H H' p.1 v → Q v H') : tCB (rAp z f) (tEs z c es) σ H Q := by
  refine ⟨R, env, h, rel, T.wp_mono w fun p ⟨rv, e, g⟩ v H1 k1 r1 => ?_⟩
  exact ⟨Clo R env σ, OwnA env σ, H, p.1, rv, rel.ok.keeps k1, r1, e, fun v H3 s r3 => hG _ g v H3 (k1.trans (.same s)) (r3.since k1)⟩
theorem rd_mt {a : E} {es : Es} {f : Rv → List Rv → Option Rv} {R : Fr} {env : Env} {h : Mem} {σ : St} {H : Hp} {Q : VK} {G : Rv × Mem → Prop} (rel : Rel z R env σ H)
    (w : (ev c a env h).wp fun p => (evs c es env p.2).wp fun q => ∃ rv, f p.1 q.1 = some rv ∧ G (rv, q.2))
    (hG : ∀ p, G p → ∀ v H', Keeps z H H' → RepR z (Clo R env σ) (OwnA env σ) H H' p.1 v → Q v H') :
    tE z c a σ H fun x H1 => tEs z c es σ H1 fun xs H2 => rMt z f x xs H2 Q := by
  refine ⟨R, env, h, rel, T.wp_mono w fun p wp v H1 k1 r1 => ⟨R, env, p.2, rel.of_keeps k1, T.wp_mono wp fun q ⟨rv, e, g⟩ u H2 k2 r2 => ?_⟩⟩
  refine ⟨Clo R env σ, OwnA env σ, H, p.1, q.1, rv, rel.ok.keeps (k1.trans k2), r1.later rel k1 k2, r2.since k1, e, fun v H3 s r3 => ?_⟩
  exact hG _ g v H3 ((k1.trans k2).trans (.same s)) (r3.since (k1.trans k2))
/-- a slice -/
theorem rd_slc {a : E} {lo hi : Eo} {R : Fr} {env : Env} {h : Mem} {σ : St} {H : Hp} {Q : VK} {G : Rv × Mem → Prop} (rel : Rel z R env σ H)
    (w : (ev c a env h).wp fun p => (evo c lo env p.2).wp fun l => (evo c hi env l.2).wp fun u => ∃ rv, slice p.1 l.1 u.1 = some rv ∧ G (rv, u.2))
    (hG : ∀ p, G p → ∀ v H', Keeps z H H' → RepR z (Clo R env σ) (OwnA env σ) H H' p.1 v → Q v H') : tSl (rSlV z) (tE z c a) (tEo z c lo) (tEo z c hi) σ H Q := by
  refine ⟨R, env, h, rel, T.wp_mono w fun p wp v H1 k1 r1 => ⟨R, env, p.2, rel.of_keeps k1, T.wp_mono wp fun l wl H2 k2 => ⟨R, env, l.2, (rel.of_keeps k1).of_keeps k2, T.wp_mono wl fun u ⟨rv, e, g⟩ H3 k3 => ?_⟩⟩⟩
  have k13 := k2.trans k3
  exact ⟨Clo R env σ, OwnA env σ, H, p.1, rv, rel.ok.keeps (k1.trans k13), r1.later rel k1 k13, e, fun v H4 s r4 => hG _ g v H4 ((k1.trans k13).trans (.same s)) (r4.since (k1.trans k13))⟩
/-- a value's truth -/
theorem truV {K : PySem.W.Frag} {M O : AS} {Hs H : Hp} {r : Rv} {v : V} {b : Bool} (hK : z.K = K) (h : RepR z M O Hs H r v) (e : r.truth = some b) : TruV K v H b := by
  cases r with
  | v x =>
    cases x with
    | non => cases e; rw [h.non]; rfl
    | bl _ => cases e; rw [h.bl]; rfl
    | int _ => cases e; rw [h.int]; rfl
    | str t =>
      cases e
      obtain ⟨l, e⟩ := h.str
      rw [e]
      refine ⟨by rw [sizeMax_eq]; simpa [Str.length] using l, ?_⟩
      cases t <;> simp [Str.length]
      omega
    | tup xs =>
      cases e
      obtain ⟨a, vs, e, q, w⟩ := h.tup
      rw [e]
      refine .inr (.inl ⟨vs, by rw [← hK]; exact q, ?_⟩)
      have := w.length
      cases xs <;> cases vs <;> simp_all
    | lst xs =>
      cases e
      simp only [RepR, Rep] at h
      obtain ⟨_, a, vs, e, q, _, w⟩ := h
      rw [e]
      refine .inl ⟨vs, SqL.of q, ?_⟩
      have := w.length
      cases xs <;> cases vs <;> simp_all
    | ref _ => cases e
    | box => cases e
    | fn _ => cases e
  | new xs =>
    cases e
    obtain ⟨_, a, vs, e, _, q, w⟩ := h
    rw [e]
    refine .inl ⟨vs, SqL.of q, ?_⟩
    have := w.length
    cases xs <;> cases vs <;> simp_all
  | vw xs =>
    cases e
    obtain ⟨_, a, vs, e, _, q, w⟩ := h
    rw [e]
    refine .inl ⟨vs, SqL.of q, ?_⟩
    have := w.length
    cases xs <;> cases vs <;> simp_all
/-- a test by a value's truth -/
theorem PE.test {X : Cx} {e : Expr} {a : E} (hK : z.K = X.K) (h : PE X e (tE z c a)) (he : ∀ whole, isTrue e X.env whole = (do let v ← whole; standAt e.pos; holding [v] (truthy v))) : PT X e (tT z c a) := by
  refine PT.imp (pt_truth h he) fun σ H Q ⟨R, env, m, rel, w⟩ => ⟨R, env, m, rel, T.wp_mono w fun p ⟨b, e1, q⟩ v H' k r => ⟨b, truV hK r e1, q H' k⟩⟩
end
end MP
end
section
set_option Elab.async false
set_option linter.all false
set_option autoImplicit false
set_option maxRecDepth 100000
set_option maxHeartbeats 4000000
/-! MPIter: targets, and what is walked. -/
namespace MP
open PySem PySem.Spec PyProof.Rows L2

structure Chk where
  N : List Str
  sc : Scope
  tgt : Str → Bool
  fn : Nat → Option Str
  gl : Nat → Option Str
  dr : Str
  blt : List Str
def visB (sc : Scope) (x : Str) : Bool := match sc.names.lookup x with
  | some .local => true | some .cell => true | some .free => true | _ => false
def glB (sc : Scope) (x : Str) : Bool := match sc.names.lookup x with
  | some .globalImplicit => true | _ => false
def locB (sc : Scope) (x : Str) : Bool := match sc.names.lookup x with
  | some .local => true | some .cell => true | _ => false
def plainName (x : Str) : Bool := !(x == ("__debug__" : Str)) && !(x == ("__classdict__" : Str)) && !(x == ("__name__" : Str))
theorem vis_of {sc : Scope} {x : Str} (h : visB sc x = true) : Vis sc x := by
  unfold visB at h
  split at h <;> first | cases h | skip
  · exact .inl (by assumption)
  · exact .inr (.inl (by assumption))
  · exact .inr (.inr (by assumption))
theorem loc_of {sc : Scope} {x : Str} (h : locB sc x = true) : Loc sc x := by
  unfold locB at h
  split at h <;> first | cases h | skip
  · exact .inl (by assumption)
  · exact .inr (by assumption)

/-! ### the slots -/
section
variable {z : Zx} {R : Fr} {env : Env} {σ : St} {H H' : Hp}
theorem own_set {i : Nat} {x : Val} {v : V} {a : Addr} (h : OwnA (List.set env i (.val x)) (List.set σ i (some v)) a) : OwnA env σ a ∧ ∀ (j : Nat) xs, (List.set env i (.val x))[j]? = some (.own xs) → j ≠ i := by
  refine ⟨?_, fun j xs e q => ?_⟩
  · obtain ⟨j, xs, e1, e2⟩ := h
    by_cases hj : i = j
    · subst hj
      rw [List.getElem?_set] at e1
      simp at e1
    · rw [List.getElem?_set_ne hj] at e1 e2
      exact ⟨j, xs, e1, e2⟩
  · subst q
    rw [List.getElem?_set] at e
    simp at e
theorem Rel.set (r : Rel z R env σ H) {i : Nat} {x : Val} {v : V} (hx : Rep z (Clo R env σ) H x v) : Rel z R (List.set env i (.val x)) (List.set σ i (some v)) H := by
  have sub : ∀ a, Clo R (List.set env i (.val x)) (List.set σ i (some v)) a → Clo R env σ a := fun a m => m.imp id fun m => (own_set m).1
  refine ⟨by rw [List.length_set, List.length_set]; exact r.len, fun j s o e1 e2 => ?_, fun j k a xs ys e1 e2 e3 e4 => ?_, fun a m => r.mx a (own_set m).1, fun a m => r.own0 a (own_set m).1, r.trk, r.keep, r.box, r.bxM, fun p hp => Rep.less sub p.1 (r.pins p hp)⟩
  · by_cases hj : i = j
    · subst hj
      rw [List.getElem?_set] at e1 e2
      simp only [if_true] at e1 e2
      split at e1
      · split at e2
        · cases e1; cases e2
          exact Rep.less sub x hx
        · cases e2
      · cases e1
    · rw [List.getElem?_set_ne hj] at e1 e2
      have h := r.slot j s o e1 e2
      match s, o, h with
      | .emp, _, _ => trivial
      | .val x, some v, h => exact Rep.less sub x h
      | .own xs, some (.ref a), h => exact OwnR.less sub h
  · have n1 : i ≠ j := fun q => by subst q; rw [List.getElem?_set] at e1; simp at e1
    have n2 : i ≠ k := fun q => by subst q; rw [List.getElem?_set] at e2; simp at e2
    rw [List.getElem?_set_ne n1] at e1 e3
    rw [List.getElem?_set_ne n2] at e2 e4
    exact r.uniq j k a xs ys e1 e2 e3 e4
/-- a fresh list is owned -/
theorem Rel.setOwnR (r : Rel z R env σ H) (k : Keeps z H H') {i : Nat} {xs : OL} {a : Addr} (hn : H a = none) (hx : OwnR z (fun b => Clo R env σ b ∨ b = a) H' xs a) : Rel z R (List.set env i (.own xs)) (List.set σ i (some (.ref a))) H' := by
  have own : ∀ b, OwnA (List.set env i (.own xs)) (List.set σ i (some (.ref a))) b → OwnA env σ b ∨ b = a := fun b ⟨j, ys, e1, e2⟩ => by
    by_cases hj : i = j
    · subst hj
      rw [List.getElem?_set] at e2
      simp only [if_true] at e2
      split at e2
      · cases e2; exact .inr rfl
      · cases e2
    · rw [List.getElem?_set_ne hj] at e1 e2
      exact .inl ⟨j, ys, e1, e2⟩
  have sub : ∀ b, Clo R (List.set env i (.own xs)) (List.set σ i (some (.ref a))) b → Clo R env σ b ∨ b = a := fun b m => by
    rcases m with m | m
    · exact .inl (.inl m)
    · rcases own b m with m | m
      · exact .inl (.inr m)
      · exact .inr m
  have hm : ∀ b, Clo R (List.set env i (.own xs)) (List.set σ i (some (.ref a))) b → Clo R env σ b ∨ H b = none := fun b m => (sub b m).imp id fun e => by rw [e]; exact hn
  have na : ¬ OwnA env σ a := fun o => r.trkC a (.inr o) hn
  refine ⟨by rw [List.length_set, List.length_set]; exact r.len, fun j s o e1 e2 => ?_, fun j k' b ys zs e1 e2 e3 e4 => ?_, fun b m q => ?_, fun b m => ?_, fun b m e => r.trk b m (k.trk b e), r.keep.trans k, k.box r.box, r.bxM, fun p hp => Rep.mono r.box k r.bxC hm p.1 (r.pins p hp)⟩
  · by_cases hj : i = j
    · subst hj
      rw [List.getElem?_set] at e1 e2
      simp only [if_true] at e1 e2
      split at e1
      · split at e2
        · cases e1; cases e2
          exact OwnR.less sub hx
        · cases e2
      · cases e1
    · rw [List.getElem?_set_ne hj] at e1 e2
      exact (r.slot j s o e1 e2).keep r.box k r.bxC hm fun ys b q1 q2 => r.own_nobox ⟨j, ys, by rw [e1, q1], by rw [e2, q2]⟩
  · by_cases h1 : i = j
    · by_cases h2 : i = k'
      · rw [← h1, ← h2]
      · exfalso
        subst h1
        rw [List.getElem?_set] at e3
        simp only [if_true] at e3
        split at e3
        · cases e3
          rw [List.getElem?_set_ne h2] at e2 e4
          exact na ⟨k', zs, e2, e4⟩
        · cases e3
    · by_cases h2 : i = k'
      · exfalso
        subst h2
        rw [List.getElem?_set] at e4
        simp only [if_true] at e4
        split at e4
        · cases e4
          rw [List.getElem?_set_ne h1] at e1 e3
          exact na ⟨j, ys, e1, e3⟩
        · cases e4
      · rw [List.getElem?_set_ne h1] at e1 e3
        rw [List.getElem?_set_ne h2] at e2 e4
        exact r.uniq j k' b ys zs e1 e2 e3 e4
  · rcases own b m with m | m
    · exact r.mx b m q
    · subst m; exact r.trk b q hn
  · rcases own b m with m | m
    · exact r.own0 b m
    · subst m; exact r.keep.trk b hn
theorem Rel.setOwn (r : Rel z R env σ H) (k : Keeps z H H') {i : Nat} {xs : List Val} {vs : List V} {a : Addr} (hl : xs.length ≤ sizeMax) (hn : H a = none) (ha : H' a = some (.lst vs)) (hx : Reps z (fun b => Clo R env σ b ∨ b = a) H' xs vs) : Rel z R (List.set env i (.own (.l xs))) (List.set σ i (some (.ref a))) H' :=
  r.setOwnR k hn ⟨vs, ha, hx, hl⟩
end

/-! ### targets -/
mutual
def Tg.slots : Tg → List Nat
  | .var i => [i]
  | .tup ts => ts.slots
def Tgs.slots : Tgs → List Nat
  | .nil => []
  | .cons t ts => t.slots ++ ts.slots
end
mutual
def okTg (cx : Chk) : Tg → PySem.Expr → Bool
  | .var i, .Name x _ => decide (cx.N[i]? = some x) && cx.tgt x && locB cx.sc x
  | .tup ts, .Tuple es _ _ => okTgs cx ts es
  | _, _ => false
def okTgs (cx : Chk) : Tgs → List PySem.Expr → Bool
  | .nil, [] => true
  | .cons t ts, e :: es => okTg cx t e && okTgs cx ts es
  | _, _ => false
end
def tG (z : Zx) (t : Tg) : TG := fun v σ H Q => ∃ R env x env', Rel z R env σ H ∧ Rep z (Clo R env σ) H x v ∧ t.set x env = some env' ∧
  ∀ σ', Rel z R env' σ' H → σ'.length = σ.length → (∀ j : Nat, j ∉ t.slots → σ'[j]? = σ[j]?) → (∀ a, Clo R env' σ' a → Clo R env σ a) → Q σ' H
def tGs (z : Zx) (t : Tgs) : TGs := fun vs σ H Q => ∃ R env xs env', Rel z R env σ H ∧ Reps z (Clo R env σ) H xs vs ∧ t.set xs env = some env' ∧
  ∀ σ', Rel z R env' σ' H → σ'.length = σ.length → (∀ j : Nat, j ∉ t.slots → σ'[j]? = σ[j]?) → (∀ a, Clo R env' σ' a → Clo R env σ a) → Q σ' H
theorem PG.imp {X : Cx} {e : Expr} {t t' : TG} (h : PG X e t) (i : ∀ v σ H Q, t' v σ H Q → t v σ H Q) : PG X e t' := ⟨fun pins s σ H v u Q I r q => h.run pins s σ H v u Q I r (i v σ H Q q)⟩
theorem PGs.imp {X : Cx} {e : List Expr} {t t' : TGs} (h : PGs X e t) (i : ∀ v σ H Q, t' v σ H Q → t v σ H Q) : PGs X e t' := ⟨fun pins s σ H v u Q I r q => h.run pins s σ H v u Q I r (i v σ H Q q)⟩
/-- the target names of the context -/
structure TgOk (X : Cx) (cx : Chk) : Prop where
  N : X.N = cx.N
  sc : X.env.scope = cx.sc
  nd : X.N.Nodup
  calm : X.calm = true
  tgt : ∀ x, cx.tgt x = true → X.fn x = true ∨ X.env.scope.names.lookup x = some .local
theorem okTgs_each {cx : Chk} : ∀ {ts : Tgs} {es : List Expr} (env : PySem.Env), okTgs cx ts es = true → (assignEach es env).findIdx? (·.1) = none ∧ (∀ e r, es = e :: r → (assignEach (e :: r) env).map (·.2) = assign e env :: (assignEach r env).map (·.2))
  | .nil, [], env, _ => ⟨rfl, fun e r h => by cases h⟩
  | .nil, _ :: _, env, h => by simp [okTgs] at h
  | .cons t ts, [], env, h => by simp [okTgs] at h
  | .cons t ts, e :: es, env, h => by
    simp only [okTgs, Bool.and_eq_true] at h
    obtain ⟨h1, h2⟩ := okTgs_each env h.2
    have key : assignEach (e :: es) env = (false, assign e env) :: assignEach es env := by
      cases t <;> cases e <;> first | rfl | (simp [okTg] at h)
    refine ⟨?_, fun e' r q => ?_⟩
    · rw [key, List.findIdx?_cons]
      simp [h1]
    · cases q; rw [key]; rfl
theorem assignEach_len (env : PySem.Env) : ∀ es : List Expr, (assignEach es env).length = es.length
  | [] => rfl
  | e :: es => by
    have ih := assignEach_len env es
    cases e <;> simp [assignEach, ih]
theorem okTgs_len {cx : Chk} {z : Zx} {M : AS} {H : Hp} : ∀ {ts : Tgs} {es : List Expr} {xs : List Val} {vs : List V} {env env' : Env}, okTgs cx ts es = true → ts.set xs env = some env' → Reps z M H xs vs → vs.length = es.length
  | .nil, [], [], vs, env, env', _, _, r => r.length
  | .nil, [], _ :: _, vs, env, env', _, e, r => by simp [Tgs.set] at e
  | .nil, _ :: _, _, vs, env, env', h, _, r => by simp [okTgs] at h
  | .cons t ts, [], _, vs, env, env', h, _, r => by simp [okTgs] at h
  | .cons t ts, e :: es, [], vs, env, env', h, q, r => by simp [Tgs.set] at q
  | .cons t ts, e :: es, x :: xs, vs, env, env', h, q, r => by
    simp only [okTgs, Bool.and_eq_true] at h
    simp only [Tgs.set, Option.bind_eq_some_iff] at q
    obtain ⟨e1, q1, q2⟩ := q
    simp only [Reps] at r
    obtain ⟨v, ws, rfl, _, r⟩ := r
    simp [okTgs_len h.2 q2 r]
mutual
theorem sTg {X : Cx} {cx : Chk} {z : Zx} (ok : TgOk X cx) (hK : z.K = X.K) : ∀ (t : Tg) (e : Expr), okTg cx t e = true → PG X e (tG z t)
  | .var i, e, h => by
    cases e <;> simp only [okTg, Bool.false_eq_true] at h
    rename_i x pos
    simp only [Bool.and_eq_true, decide_eq_true_eq] at h
    obtain ⟨⟨h1, h2⟩, h3⟩ := h
    refine PG.imp (pg_name (i := i) ok.nd (by rw [ok.N]; exact h1) (by rw [ok.sc]; exact loc_of h3) (ok.tgt x h2)) fun v σ H Q ⟨R, env, x, env', rel, rep, e, q⟩ => ?_
    simp only [Tg.set] at e
    split at e
    · cases e
      exact q _ (rel.set rep) (by rw [List.length_set]) (fun j hj => by
        have : i ≠ j := fun e => hj (by simp [Tg.slots, e])
        rw [List.getElem?_set_ne this]) fun a m => m.imp id fun m => (own_set m).1
    · cases e
  | .tup ts, e, h => by
    cases e <;> simp only [okTg, Bool.false_eq_true] at h
    rename_i es k pos
    refine PG.imp (pg_tup (n := es.length) ok.calm (sTgs ok hK ts es h) (assignEach_len _ _) (okTgs_each X.env h).1) fun v σ H Q ⟨R, env, x, env', rel, rep, e, q⟩ => ?_
    cases x <;> simp only [Tg.set, reduceCtorEq] at e
    simp only [Rep] at rep
    obtain ⟨_, a, vs, rfl, hs, rs⟩ := rep
    refine ⟨a, vs, rfl, by rw [← hK]; exact hs, okTgs_len h e rs, R, env, _, env', rel, rs, e, fun σ' r l o cl => q σ' r l (fun j hj => o j fun m => hj ?_) cl⟩
    simpa [Tg.slots] using m
theorem sTgs {X : Cx} {cx : Chk} {z : Zx} (ok : TgOk X cx) (hK : z.K = X.K) : ∀ (t : Tgs) (e : List Expr), okTgs cx t e = true → PGs X e (tGs z t)
  | .nil, [], _ => PGs.imp pgs_nil fun vs σ H Q ⟨R, env, xs, env', rel, rep, e, q⟩ => by
    cases xs with
    | nil =>
      simp only [Tgs.set, Option.some.injEq] at e
      subst e
      simp only [Reps] at rep
      exact ⟨rep, q σ rel rfl (fun _ _ => rfl) fun _ m => m⟩
    | cons x xs => simp [Tgs.set] at e
  | .nil, _ :: _, h => by simp [okTgs] at h
  | .cons t ts, [], h => by simp [okTgs] at h
  | .cons t ts, e :: es, h => by
    have h0 := h
    simp only [okTgs, Bool.and_eq_true] at h
    refine PGs.imp (pgs_cons (sTg ok hK t e h.1) (sTgs ok hK ts es h.2) ((okTgs_each X.env h0).2 e es rfl)) fun vs σ H Q ⟨R, env, xs, env', rel, rep, e, q⟩ => ?_
    cases xs with
    | nil => simp [Tgs.set] at e
    | cons x xs =>
      simp only [Tgs.set, Option.bind_eq_some_iff] at e
      obtain ⟨e1, q1, q2⟩ := e
      simp only [Reps] at rep
      obtain ⟨v, ws, rfl, rx, rs⟩ := rep
      refine ⟨v, ws, rfl, R, env, x, e1, rel, rx, q1, fun σ1 r1 l1 o1 c1 => ⟨R, e1, xs, env', r1, Reps.less c1 xs rs, q2, fun σ2 r2 l2 o2 c2 => q σ2 r2 (l2.trans l1) (fun j hj => ?_) fun a m => c1 a (c2 a m)⟩⟩
      · rw [o2 j fun m => hj (by simp [Tgs.slots, m]), o1 j fun m => hj (by simp [Tgs.slots, m])]
end
end MP
end
section
set_option Elab.async false
set_option linter.all false
set_option autoImplicit false
set_option maxRecDepth 100000
set_option maxHeartbeats 4000000
/-! MPEnum: enumerate of a tuple. -/
namespace MP
open PySem PySem.Spec PyProof.Rows L2
open Sem (wp)
open AutoSeq1 (wpAny_loadPart')
namespace EN
theorem meets_enumerate_newT (l : Addr) (items : Array Value) (o : PySem.Obj) (ho : o.cls = .type "tuple") (n : Nat) (hd : o.data = .seq items n) :
    Meets (Builtin.«enumerate.__new__» ⟨[.type "enumerate", .ref l], []⟩) (fun _ R s => s.heap.get? l = some o ∧
      R (.ok (.ret (.ref (s.heap.push { cls := .type "tuple_iterator", data := .fields #[.ref l, .int 0 0] }).objs.size)))
        { s with heap := (s.heap.push { cls := .type "tuple_iterator", data := .fields #[.ref l, .int 0 0] }).push { cls := .type "enumerate", data := .fields #[.none, .bool false, .ref s.heap.objs.size, rawInt 0, .none, .none] } }) :=
  .of_wp fun prog w A R s h => by
    obtain ⟨hp, g, d, tk, os⟩ := s; obtain ⟨hl, h⟩ := h
    have hsub := sub_enumerate
    have hL : Heap.IsTuple (Shared.heap ⟨hp, g, d, tk, os⟩) l items := ⟨_, hl, ho, n, hd⟩
    wp_walk using wpAny_loadPart' hl
    refine wpAny_stack_any fun st => wpAny_pure ?_
    split
    · rename_i c _ _ _ _ _
      cases (c == Value.type "enumerate")
      · wp_walk using wpAny_loadPart' hl, wpAny_pyIter_tuple hL
        exact ⟨_, rfl, h⟩
      · wp_walk using wpAny_loadPart' hl, wpAny_pyIter_tuple hL
        exact ⟨_, rfl, h⟩
    · wp_walk using wpAny_loadPart' hl, wpAny_pyIter_tuple hL
      exact ⟨_, rfl, h⟩

theorem call_enumerate_tuple {prog : Program} {w : World} {A : Around} {E : Value → Shared → Prop} {s : Shared} {l : Addr} {items : Array Value} {Q : Value → Shared → Prop} (hL : s.heap.IsTuple l items)
    (h : ∀ h', IsEnum h' (s.heap.objs.size + 1) s.heap.objs.size 0 .none → h'.IsTupleIter s.heap.objs.size l 0 → h'.objs.size = s.heap.objs.size + 2 →
      (∀ b o, s.heap.get? b = some o → h'.get? b = some o) → Q (.ref (s.heap.objs.size + 1)) { s with heap := h' }) :
    wpAny (model prog w) A (call (.type "enumerate") [.ref l]) Q E s := by
  obtain ⟨o, hl, hc, n, hd⟩ := hL
  refine callType_new F.called_enumerate (by decide) (F.typeCall_enumerate_1 _) (F.newCall_enumerate_1 _) (fun obj => F.args_object_init_2 obj _) F.entry_enumerate_new
    (meets_enumerate_newT l items o hc n hd) ⟨hl, ?_⟩
  have hz : (s.heap.push { cls := .type "tuple_iterator", data := .fields #[.ref l, .int 0 0] }).objs.size = s.heap.objs.size + 1 := Heap.size_push ..
  show _ ∧ _
  rw [hz]
  have he : IsEnum ((s.heap.push { cls := .type "tuple_iterator", data := .fields #[.ref l, .int 0 0] }).push
      { cls := .type "enumerate", data := .fields #[.none, .bool false, .ref s.heap.objs.size, rawInt 0, .none, .none] }) (s.heap.objs.size + 1) s.heap.objs.size 0 .none := by
    have := Heap.get?_push_size (s.heap.push { cls := .type "tuple_iterator", data := .fields #[.ref l, .int 0 0] })
      (o := { cls := .type "enumerate", data := .fields #[.none, .bool false, .ref s.heap.objs.size, rawInt 0, .none, .none] }) rfl
    rw [hz] at this; exact this
  refine ⟨⟨_, he, rfl⟩, h _ he ⟨_, Heap.get?_push_of_some _ (Heap.get?_push_size _ rfl), rfl, rfl⟩ (by rw [Heap.size_push, hz]) fun b o x => Heap.get?_push_of_some _ (Heap.get?_push_of_some _ x)⟩
/-- the tuple at a, each item in a new pair -/
def IteT (K : PySem.W.Frag) (a : Addr) : L2.It :=
  ⟨fun i H => ∃ (xs : List V) (x : V), SqT K H a xs ∧ xs[i]? = some x, fun i H v H' => ∃ T x, v = .ref T ∧ H T = none ∧ H' = upd H T (.tup [.int (i : Nat), x]) ∧ ∀ xs, SqT K H a xs → xs[i]? = some x, fun i H => ∃ xs : List V, SqT K H a xs ∧ xs.length = i⟩
theorem turn_enumT {P : Program} {w : World} {K : PySem.W.Frag} {elts : List Expr} {kk : Nat} {tpos : Pos} (a e it : Addr) :
    Turn P w K (.Tuple elts kk tpos) (IteT K a) [e, it] e (fun i h => (∃ old, IsEnum h e it ((i : Nat) : Int) old) ∧ h.IsTupleIter it a i ∧ e ≠ it ∧ a ≠ it ∧ a ≠ e) where
  mem := by simp
  obj := fun i h st b hb => by
    obtain ⟨⟨old, he⟩, ⟨o, ho, hc, hd⟩, _⟩ := st
    have e' : b = e ∨ b = it := by simpa using hb
    rcases e' with z | z
    · rw [z]; exact ⟨_, he, fun v q => nomatch q⟩
    · rw [z]; exact ⟨o, ho, fun v q => by rw [hd] at q; cases q⟩
  keep := fun i h h' st k => let ⟨⟨old, he⟩, hi, hne⟩ := st; ⟨⟨old, k e (by simp) _ he⟩, hi.at fun o q => k it (by simp) o q, hne⟩
  item := by
    intro X hP hw hK hc i pins s σ H E I hf st hg
    subst hP hw hK
    obtain ⟨⟨old, he⟩, hit, hne, hai, hae⟩ := st
    obtain ⟨xs, x, hq, hx⟩ := hg
    obtain ⟨its, rv, p, hz⟩ := I.tuple hq
    obtain ⟨u, hu, ru⟩ := rv.get hx
    have hel : e < s.heap.objs.size := Heap.lt_size he
    have hil : it < s.heap.objs.size := by obtain ⟨_, q, _⟩ := hit; exact Heap.lt_size q
    have hlt : i < its.toArray.size := by
      obtain ⟨q, _⟩ := List.getElem?_eq_some_iff.mp hu
      simpa using q
    refine wpAny_pyNext_enum_itemD (Draws.tuple (A := X.A.in1) (I.ok.hd hc) it a hai its.toArray) he ⟨hit, p⟩ hlt hne (by simp [hne, Ne.symm hae]) fun v h' tk hv ho hit' hT hsz hk => ?_
    have ev : v = u := by
      have hv' : its[i]? = some v := by simpa using hv
      rw [hu] at hv'
      exact (Option.some.inj hv').symm
    subst ev
    refine ⟨_, rfl, wpAny_letOwnedTupleGo_enum (s := { s with heap := h', toks := tk + 1 }) ho fun h'' he' sb => ?_⟩
    have hT2 : h''.get? s.heap.objs.size = some { cls := .type "tuple", data := .seq #[.int i tk, v] } := (sb.2 _ (Nat.ne_of_gt hel)).trans hT
    have new : ObjOk X.prog X.w (upd H s.heap.objs.size (.tup [.int (i : Nat), x])) h'' s.heap.objs.size (.tup [.int (i : Nat), x]) :=
      ⟨by show 2 ≤ sizeLine; decide, [.int i tk, v], .cons ⟨_, rfl⟩ (.cons ru .nil), ⟨_, hT2, rfl, _, rfl⟩⟩
    have I1 : Inv X pins σ (upd H s.heap.objs.size (.tup [.int (i : Nat), x])) { s with heap := h'', toks := tk + 1 } :=
      I.turnedNew (ch := [e, it]) (fun b ob hb q => (sb.2 b (fun z => hb (by simp [z]))).trans (hk b ob (fun z => hb (by simp [z])) (fun z => hb (by simp [z])) q)) hf (Nat.le_refl _) new
    refine ⟨.ref s.heap.objs.size, _, I1, rfl, ⟨_, x, rfl, I.hok.fresh (Nat.le_refl _), rfl, fun ys hy => by rw [I.tuple_inj hy hq]; exact hx⟩, ⟨⟨v, ?_⟩, hit'.1.at fun o q => (sb.2 it (Ne.symm hne)).trans q, hne, hai, hae⟩, fun b hb => ?_⟩
    · have e1 : ((i + 1 : Nat) : Int) = (i : Int) + 1 := by omega
      rw [e1]; exact he'
    · have hb' : b < s.heap.objs.size := by
        have e' : b = e ∨ b = it := by simpa using hb
        rcases e' with z | z
        · rw [z]; exact hel
        · rw [z]; exact hil
      rw [upd_ne (Nat.ne_of_lt hb')]
      exact (hf b hb).1
  done := by
    intro X hP hw hK hc i pins s σ H E I hf st hg
    subst hP hw hK
    obtain ⟨⟨old, he⟩, hit, hne, hai, hae⟩ := st
    obtain ⟨xs, hq, hx⟩ := hg
    obtain ⟨its, rv, p, hz⟩ := I.tuple hq
    obtain ⟨f0, f1, f2, f3, f4, f5⟩ := hf it (by simp)
    have hl := rv.length
    have hi : i = its.length := by omega
    subst hi
    exact wpAny_pyNext_enum_endD (n := its.toArray.size) (Draws.tuple (A := X.A.in1) (I.ok.hd hc) it a hai its.toArray) he ⟨by simpa using hit, p⟩ fun h' eb => ⟨rfl, I.turned (t' := s.toks) (fun b o hb q => eb b o hb q) f0 f1 f3 f4 f5⟩
  self := fun A i s Q E st h => let ⟨⟨_, he⟩, _⟩ := st; wpAny_pyIter_enum he h
end EN
/-! ### what is walked, as a list of values -/
/-- what is walked stays: it avoids A -/
def Pn (z : Zx) (A M : AS) (H : Hp) : Val × V → Prop
  | (.lst xs, v) => xs.length ≤ sizeMax ∧ ∃ a vs, v = .ref a ∧ H a = some (.lst vs) ∧ ¬ A a ∧ Reps z M H xs vs
  | (x, v) => Rep z M H x v
theorem Pn.of {z : Zx} {M : AS} {H : Hp} {x : Val} {v : V} (h : Rep z M H x v) : Pn z M M H (x, v) := by
  cases x <;> first | exact h | (simp only [Pn]; simpa only [Rep] using h)
theorem Pn.rep {z : Zx} {M : AS} {H : Hp} {x : Val} {v : V} (h : Pn z M M H (x, v)) : Rep z M H x v := by
  cases x <;> first | exact h | (simp only [Pn] at h; simpa only [Rep] using h)
theorem Pn.mono {z : Zx} {A M A' M' : AS} {H H' : Hp} (ok : BoxOk z H) (k : Keeps z H H') (hb : ∀ a, z.Box a → M a) (hA : ∀ a, z.Box a → A a) (hm : ∀ a, M' a → M a ∨ H a = none) (ha : ∀ a, A' a → A a ∨ H a = none) {p : Val × V} (h : Pn z A M H p) : Pn z A' M' H' p := by
  obtain ⟨x, v⟩ := p
  cases x with
  | lst xs =>
    simp only [Pn] at h ⊢
    obtain ⟨l, a, vs, e, q, n, r⟩ := h
    refine ⟨l, a, vs, e, k.at_ a _ q fun b => n (hA a b), fun m => ?_, Reps.mono ok k hb hm xs r⟩
    rcases ha a m with m | m
    · exact n m
    · rw [q] at m; cases m
  | tup xs => exact Rep.mono (v := v) ok k hb hm (.tup xs) h
  | non => exact Rep.mono (v := v) ok k hb hm .non h
  | bl b => exact Rep.mono (v := v) ok k hb hm (.bl b) h
  | int i => exact Rep.mono (v := v) ok k hb hm (.int i) h
  | str s => exact Rep.mono (v := v) ok k hb hm (.str s) h
  | ref n => exact Rep.mono (v := v) ok k hb hm (.ref n) h
  | box => exact Rep.mono (v := v) ok k hb hm .box h
  | fn n => exact Rep.mono (v := v) ok k hb hm (.fn n) h
structure Src (z : Zx) (J : L2.It) (xs : List Val) (pins : List (Val × V)) : Prop where
  stop : ∀ A M H, (∀ p ∈ pins, Pn z A M H p) → J.stop xs.length H
  go : ∀ (i : Nat) A M H, (∀ p ∈ pins, Pn z A M H p) → i < xs.length → J.go i H
  yld : ∀ (i : Nat) A M H v H', Ok z M H → (∀ p ∈ pins, Pn z A M H p) → i < xs.length → J.yld i H v H' → Same H H' ∧ ∃ x, xs[i]? = some x ∧ Rep z M H' x v
section
variable {z : Zx}
theorem Reps.get_of {M : AS} {H : Hp} {xs : List Val} {vs : List V} (r : Reps z M H xs vs) {i : Nat} (h : i < xs.length) : ∃ v, vs[i]? = some v ∧ xs[i]? = some xs[i] ∧ Rep z M H xs[i] v := by
  have e : xs[i]? = some xs[i] := List.getElem?_eq_getElem h
  obtain ⟨v, e2, r2⟩ := r.get e
  exact ⟨v, e2, e, r2⟩
theorem src_list {xs : List Val} {a : Addr} : Src z (Itl z.K a) xs [(.lst xs, .ref a)] := by
  refine ⟨fun A M H hp => ?_, fun i A M H hp hi => ?_, fun i A M H v H' ok hp hi hy => ?_⟩
  all_goals
    have h := hp _ (List.mem_singleton.mpr rfl)
    simp only [Pn, Rep] at h
    obtain ⟨_, a', vs, e, q, n, w⟩ := h
    cases e
  · exact ⟨vs, SqL.of q, by rw [w.length]; exact Nat.le_refl _⟩
  · obtain ⟨v, e, _, _⟩ := w.get_of hi
    exact ⟨vs, v, SqL.of q, e⟩
  · obtain ⟨rfl, hy⟩ := hy
    obtain ⟨u, e1, e2, e3⟩ := w.get_of hi
    have := hy vs (SqL.of q)
    rw [e1] at this
    cases this
    exact ⟨Same.refl _, _, e2, e3⟩
theorem src_tup {xs : List Val} {a : Addr} : Src z (Itt z.K a) xs [(.tup xs, .ref a)] := by
  refine ⟨fun A M H hp => ?_, fun i A M H hp hi => ?_, fun i A M H v H' ok hp hi hy => ?_⟩
  all_goals
    have h := hp _ (List.mem_singleton.mpr rfl)
    simp only [Pn, Rep] at h
    obtain ⟨_, a', vs, e, q, w⟩ := h
    cases e
  · exact ⟨vs, q, by rw [w.length]; exact Nat.le_refl _⟩
  · obtain ⟨v, e, _, _⟩ := w.get_of hi
    exact ⟨vs, v, q, e⟩
  · obtain ⟨rfl, hy⟩ := hy
    obtain ⟨u, e1, e2, e3⟩ := w.get_of hi
    have := hy vs q
    rw [e1] at this
    cases this
    exact ⟨Same.refl _, _, e2, e3⟩
theorem rngF_len : ∀ (n : Nat) (a : Int), (rngF n a).length = n
  | 0, _ => rfl
  | n + 1, a => by simp [rngF, rngF_len n]
theorem rngF_get : ∀ (n : Nat) (a : Int) (i : Nat), i < n → (rngF n a)[i]? = some (.int (a + i))
  | n + 1, a, 0, _ => by simp [rngF]
  | n + 1, a, i + 1, h => by
    simp only [rngF, List.getElem?_cons_succ]
    rw [rngF_get n (a + 1) i (by omega)]
    congr 2
    omega
theorem src_rng {n : Nat} {lo : Int} : Src z (Itr lo n) (rngF n lo) [] := by
  refine ⟨fun A M H hp => ?_, fun i A M H hp hi => ?_, fun i A M H v H' ok hp hi hy => ?_⟩
  · show n ≤ _
    rw [rngF_len]; exact Nat.le_refl _
  · show i < n
    rwa [rngF_len] at hi
  · rw [rngF_len] at hi
    obtain ⟨e1, e2⟩ := hy
    subst e1 e2
    exact ⟨Same.refl _, _, rngF_get n lo i hi, rep_int _⟩
theorem enumF_len : ∀ (n : Nat) (xs : List Val), (enumF n xs).length = xs.length
  | _, [] => rfl
  | n, x :: xs => by simp [enumF, enumF_len (n + 1) xs]
theorem enumF_get : ∀ (n : Nat) (xs : List Val) (i : Nat) (x : Val), xs[i]? = some x → (enumF n xs)[i]? = some (.tup [.int ((n + i : Nat) : Int), x])
  | n, [], i, x, h => by simp at h
  | n, y :: ys, 0, x, h => by
    simp at h; subst h; simp [enumF]
  | n, y :: ys, i + 1, x, h => by
    simp only [List.getElem?_cons_succ] at h
    simp only [enumF, List.getElem?_cons_succ]
    rw [enumF_get (n + 1) ys i x h]
    congr 5
    omega
theorem pair_new {M : AS} {H : Hp} {x y : Val} {v w : V} {T : Addr} (ok : Ok z M H) (hT : H T = none) (hx : Rep z M H x v) (hy : Rep z M H y w) : Same H (upd H T (.tup [v, w])) ∧ Rep z M (upd H T (.tup [v, w])) (.tup [x, y]) (.ref T) := by
  refine ⟨same_new hT, ?_⟩
  simp only [Rep]
  have k := Keeps.new (z := z) (o := .tup [v, w]) hT
  exact ⟨by show 2 ≤ sizeMax; decide, T, _, rfl, .of upd_same, Reps.cons (Rep.mono ok.box k ok.bxM (fun a m => .inl m) x hx) (Reps.cons (Rep.mono ok.box k ok.bxM (fun a m => .inl m) y hy) Reps.nil)⟩
theorem src_enumL {xs : List Val} {a : Addr} : Src z (Ite z.K a) (enumF 0 xs) [(.lst xs, .ref a)] := by
  refine ⟨fun A M H hp => ?_, fun i A M H hp hi => ?_, fun i A M H v H' ok hp hi hy => ?_⟩
  all_goals
    have h := hp _ (List.mem_singleton.mpr rfl)
    simp only [Pn, Rep] at h
    obtain ⟨_, a', vs, e, q, n, w⟩ := h
    cases e
    try rw [enumF_len] at hi
  · exact ⟨vs, SqL.of q, by rw [w.length, enumF_len]; exact Nat.le_refl _⟩
  · obtain ⟨v, e, _, _⟩ := w.get_of hi
    exact ⟨vs, v, SqL.of q, e⟩
  · obtain ⟨T, x, rfl, hT, rfl, hy⟩ := hy
    obtain ⟨u, e1, e2, e3⟩ := w.get_of hi
    have := hy vs (SqL.of q)
    rw [e1] at this
    cases this
    have g := enumF_get 0 xs i _ e2
    rw [Nat.zero_add] at g
    obtain ⟨s1, r1⟩ := pair_new ok hT (rep_int (i : Int)) e3
    exact ⟨s1, _, g, r1⟩
theorem src_enumT {xs : List Val} {a : Addr} : Src z (EN.IteT z.K a) (enumF 0 xs) [(.tup xs, .ref a)] := by
  refine ⟨fun A M H hp => ?_, fun i A M H hp hi => ?_, fun i A M H v H' ok hp hi hy => ?_⟩
  all_goals
    have h := hp _ (List.mem_singleton.mpr rfl)
    simp only [Pn, Rep] at h
    obtain ⟨_, a', vs, e, q, w⟩ := h
    cases e
    try rw [enumF_len] at hi
  · exact ⟨vs, q, by rw [w.length, enumF_len]⟩
  · obtain ⟨v, e, _, _⟩ := w.get_of hi
    exact ⟨vs, v, q, e⟩
  · obtain ⟨T, x, rfl, hT, rfl, hy⟩ := hy
    obtain ⟨u, e1, e2, e3⟩ := w.get_of hi
    have := hy vs q
    rw [e1] at this
    cases this
    have g := enumF_get 0 xs i _ e2
    rw [Nat.zero_add] at g
    obtain ⟨s1, r1⟩ := pair_new ok hT (rep_int (i : Int)) e3
    exact ⟨s1, _, g, r1⟩
end

/-! ### how a walk begins -/
def tIt (z : Zx) (c : Ctx) (b : Bool) (it : It) : TI := fun σ H R' => ∃ R env h, Rel z R env σ H ∧ (evit c b it env h).wp fun p => ∀ J pins H', Keeps z H H' → Src z J p.1 pins → p.1.length ≤ sizeMax → (∀ q ∈ pins, Pn z (if b then R.Mx else Clo R env σ) (Clo R env σ) H' q) → R' J H'
theorem PI.imp {X : Cx} {tg e : Expr} {t t' : TI} (h : PI X tg e t) (i : ∀ σ H Q, t' σ H Q → t σ H Q) : PI X tg e t' := ⟨fun pins s σ H R I q => h.run pins s σ H R I (i σ H R q)⟩
section
variable {X : Cx} {z : Zx} {c : Ctx} {tg : Expr}
/-- a list or a tuple -/
theorem pi_any {l : Expr} {tl : TE} (hl : PE X l tl) : PI X tg l (fun σ H R => tl σ H fun x H1 => ∃ a, x = .ref a ∧ (((∃ xs, SqL X.K H1 a xs) ∧ R (Itl X.K a) H1) ∨ ((∃ xs, SqT X.K H1 a xs) ∧ R (Itt X.K a) H1))) := by
  refine ⟨fun pins s σ H R I h => ?_⟩
  refine thn (hl.run pins s σ H _ I h) fun v s1 ⟨x, H1, I1, r1, q1⟩ => ?_
  obtain ⟨a, e, q⟩ := q1
  subst e
  cases r1
  rcases q with ⟨⟨xs, hq⟩, q⟩ | ⟨⟨xs, hq⟩, q⟩
  · obtain ⟨its, rv, p, hz⟩ := I1.list hq
    refine wpAny_pyIter_list p.isList ?_
    refine ⟨s1.heap.objs.size, [s1.heap.objs.size], _, _, H1, rfl, I1.kept (t' := s1.toks) fun b o e => Heap.get?_push_of_some _ e, turn_list a _, ⟨_, Heap.get?_push_size _ rfl, rfl, rfl⟩, fun b hb => ?_, q⟩
    have e : b = s1.heap.objs.size := by simpa using hb
    subst e
    exact I1.fpOk (Nat.le_refl _) (I1.hok.fresh (Nat.le_refl _))
  · obtain ⟨its, rv, p, hz⟩ := I1.tuple hq
    refine wpAny_pyIter_tuple (show s1.heap.IsTuple a its.toArray from p) ?_
    refine ⟨s1.heap.objs.size, [s1.heap.objs.size], _, _, H1, rfl, I1.kept (t' := s1.toks) fun b o e => Heap.get?_push_of_some _ e, turn_tuple a _, ⟨_, Heap.get?_push_size _ rfl, rfl, rfl⟩, fun b hb => ?_, q⟩
    have e : b = s1.heap.objs.size := by simpa using hb
    subst e
    exact I1.fpOk (Nat.le_refl _) (I1.hok.fresh (Nat.le_refl _))
theorem pi_enumAny {e : Expr} {ta : TA} {p pos tpos : Pos} {elts : List Expr} {kk : Nat} (hg : Gl X "enumerate") (hm : X.mg "enumerate" = none) (ha : PA X [e] ta) (hs : starEach [e] X.env = [(false, eval e X.env)]) :
    PI X (.Tuple elts kk tpos) (.Call (.Name "enumerate" p) [e] [] pos) (fun σ H R => ta σ H fun vs H1 => ∃ a, vs = [.ref a] ∧ (((∃ xs, SqL X.K H1 a xs) ∧ R (Ite X.K a) H1) ∨ ((∃ xs, SqT X.K H1 a xs) ∧ R (EN.IteT X.K a) H1))) := by
  refine ⟨fun pins s σ H R I h => ?_⟩
  refine Call_ (ld_blt I hg hm boot_enumerate (PyProof.Rows.callWith_type1 (thn (ha.run pos pins s σ H _ I h) fun us s1 ⟨vs, H1, I1, r1, q1⟩ => ?_) hs rfl))
  obtain ⟨a, ex, q⟩ := q1
  subst ex
  cases r1 with
  | cons r rr =>
    cases rr
    cases r
    have fp : ∀ b ∈ [s1.heap.objs.size + 1, s1.heap.objs.size], FpOk X pins H1 b := fun b hb => by
      have e' : b = s1.heap.objs.size + 1 ∨ b = s1.heap.objs.size := by simpa using hb
      have hle : s1.heap.objs.size ≤ b := by
        rcases e' with z | z
        · rw [z]; exact Nat.le_add_right _ _
        · rw [z]; exact Nat.le_refl _
      exact I1.fpOk hle (I1.hok.fresh hle)
    rcases q with ⟨⟨xs, hq⟩, q⟩ | ⟨⟨xs, hq⟩, q⟩
    · obtain ⟨its, rv, p', hz⟩ := I1.list hq
      refine call_enumerate_list p'.isList fun h' he hit hsz hk => wpAny_pyIter_enum he ?_
      have I2 : Inv X pins σ H1 { s1 with heap := h' } := I1.kept (t' := s1.toks) hk
      exact ⟨s1.heap.objs.size + 1, [s1.heap.objs.size + 1, s1.heap.objs.size], _, _, H1, rfl, I2, turn_enum a (s1.heap.objs.size + 1) s1.heap.objs.size, ⟨⟨.none, he⟩, hit, Nat.succ_ne_self _⟩, fp, q⟩
    · obtain ⟨its, rv, p', hz⟩ := I1.tuple hq
      have hlt : a < s1.heap.objs.size := p'.lt
      refine EN.call_enumerate_tuple (show s1.heap.IsTuple a its.toArray from p') fun h' he hit hsz hk => wpAny_pyIter_enum he ?_
      have I2 : Inv X pins σ H1 { s1 with heap := h' } := I1.kept (t' := s1.toks) hk
      exact ⟨s1.heap.objs.size + 1, [s1.heap.objs.size + 1, s1.heap.objs.size], _, _, H1, rfl, I2, EN.turn_enumT a (s1.heap.objs.size + 1) s1.heap.objs.size, ⟨⟨.none, he⟩, hit, Nat.succ_ne_self _, Nat.ne_of_lt hlt, Nat.ne_of_lt (Nat.lt_succ_of_lt hlt)⟩, fp, q⟩
/-- the pinned value of a result that is walked -/
theorem RepR.pinned {M A O : AS} {H H' : Hp} (hM : ∀ a, M a → H a ≠ none) (hA : ∀ a, A a → M a) {r : Rv} {v : V} {xs : List Val} (h : RepR z M O H H' r v) (nv : r.isVw = false ∨ ∀ a, O a → ¬ A a) (e : r.items = some xs) :
    ∃ a, v = .ref a ∧ (((∃ vs, SqL z.K H' a vs) ∧ Pn z A M H' (.lst xs, .ref a)) ∨ ((∃ vs, SqT z.K H' a vs) ∧ Pn z A M H' (.tup xs, .ref a))) := by
  match r, h with
  | .v (.tup ys), h =>
    cases e
    have h' := h
    obtain ⟨a, vs, e, q, w⟩ := h'.tup
    subst e
    exact ⟨a, rfl, .inr ⟨⟨vs, q⟩, h⟩⟩
  | .v (.lst ys), h =>
    cases e
    have h' := h
    simp only [RepR, Rep] at h'
    obtain ⟨l, a, vs, e, q, n, w⟩ := h'
    subst e
    exact ⟨a, rfl, .inl ⟨⟨vs, SqL.of q⟩, l, a, vs, rfl, q, fun m => n (hA a m), w⟩⟩
  | .new ys, h =>
    cases e
    obtain ⟨l, a, vs, e, n, q, w⟩ := h
    subst e
    exact ⟨a, rfl, .inl ⟨⟨vs, SqL.of q⟩, l, a, vs, rfl, q, fun m => hM a (hA a m) n, Reps.less (fun b m => .inl m) _ w⟩⟩
  | .vw ys, h =>
    cases e
    obtain ⟨l, a, vs, e, o, q, w⟩ := h
    subst e
    refine ⟨a, rfl, .inl ⟨⟨vs, SqL.of q⟩, l, a, vs, rfl, q, ?_, w⟩⟩
    rcases nv with nv | nv
    · cases nv
    · exact nv a o
end
end MP
end
section
set_option Elab.async false
set_option linter.all false
set_option autoImplicit false
set_option maxRecDepth 100000
set_option maxHeartbeats 8000000
/-! MPSound: an expression of the text does what that of the small language says. -/
namespace MP
open PySem PySem.Spec PyProof.Rows L2

/-! ### promises -/
def spF (z : Zx) (np : Nat) (C : List Val → Mem → T (Rv × Mem)) : Sp := fun vs H Q _ => ∃ M args h, Ok z M H ∧ Reps z M H args vs ∧ args.length = np ∧ (C args h).wp fun p => ∀ V H', Keeps z H H' → RepR z M (fun _ => False) H H' p.1 V → Q V H'
def spDraw (z : Zx) : Sp := fun vs H Q _ => ∃ b c m, z.bx = some (b, c) ∧ vs = [.ref b, .int m] ∧ 0 < m ∧ m < 1073741824 ∧ BoxOk z H ∧ ∀ d H', 0 ≤ d → d < m → Keeps z H H' → Q (.int d) H'
structure Callee (X : Cx) (z : Zx) (n : Nat) (C : List Val → Mem → T (Rv × Mem)) (x : Str) : Prop where
  ex : ∃ (np : Nat) (f : Addr) (fd : FuncData) (ps : List Str), FnOk X.prog X.w X.K X.mg X.base CX0 n f fd ps (spF z np C) ∧ X.mg x = some (.ref f) ∧ PySem.W.keepIn X.K (.ref f) = true ∧ Binds X.K fd ps [] ∧ ∀ args m, args.length ≠ np → C args m = .bad
structure Drawer (X : Cx) (z : Zx) (n : Nat) (x : Str) : Prop where
  ex : ∃ (f : Addr) (fd : FuncData) (ps : List Str), FnOk X.prog X.w X.K X.mg X.base CX0 n f fd ps (spDraw z) ∧ X.mg x = some (.ref f) ∧ PySem.W.keepIn X.K (.ref f) = true ∧ Binds X.K fd ps []
/-- dicts of known answers: what they hold is told alike, not too many keys -/
structure MemoOk (w : World) (z : Zx) (c : Ctx) : Prop where
  w : z.w = w
  m : c.M = z.M
  lim : ∀ ks : List Val, ks.Nodup → (∀ k ∈ ks, z.M.dom k = true) → ks.length ≤ 16000000
structure Good (X : Cx) (z : Zx) (cx : Chk) (c : Ctx) (n : Nat) : Prop where
  tg : TgOk X cx
  K : z.K = X.K
  hr : Room n X.A
  blt : ∀ x, x ∈ cx.blt → X.mg x = none
  gl : ∀ k x v, cx.gl k = some x → c.G k = some v → ∃ u w, X.mg x = some u ∧ RelV w u ∧ ∀ M H, Rep z M H v w
  fn : ∀ k x, cx.fn k = some x → Callee X z n (c.C k) x
  dr : Drawer X z n cx.dr
  mm : MemoOk X.w z c

/-! ### the check -/
def apName : Ap → String
  | .len => "len" | .tuple => "tuple" | .list => "list" | .sum => "sum" | .any => "any" | .all => "all" | .max => "max" | .min => "min" | .max2 => "max" | .min2 => "min" | .int => "int" | .abs => "abs" | .str => "str" | .isi _ => "isinstance" | .sorted => "sorted" | .sortSet => "sorted"
def mtName : Mt → String
  | .upper => "upper" | .count => "count" | .index => "index"
def binOp : Bn → Option Operator
  | .add => some .Add | .sub => some .Sub | .mul => some .Mult | .fdiv => some .FloorDiv | .mod => some .Mod | .shl => some .LShift | .shr => some .RShift | .band => some .BitAnd | _ => none
def cmpOp : Bn → Option CmpOp
  | .eq => some .Eq | .ne => some .NotEq | .lt => some .Lt | .le => some .LtE | .gt => some .Gt | .ge => some .GtE | .inn => some .In | .notin => some .NotIn | _ => none
def opEq : Operator → Operator → Bool
  | .Add, .Add => true | .Sub, .Sub => true | .Mult, .Mult => true | .FloorDiv, .FloorDiv => true | .Mod, .Mod => true | .LShift, .LShift => true | .RShift, .RShift => true | .BitAnd, .BitAnd => true | _, _ => false
def cmpEq : CmpOp → CmpOp → Bool
  | .Eq, .Eq => true | .NotEq, .NotEq => true | .Lt, .Lt => true | .LtE, .LtE => true | .Gt, .Gt => true | .GtE, .GtE => true | .In, .In => true | .NotIn, .NotIn => true | _, _ => false
theorem opEq_of {a b : Operator} (h : opEq a b = true) : a = b := by cases a <;> cases b <;> first | rfl | cases h
theorem cmpEq_of {a b : CmpOp} (h : cmpEq a b = true) : a = b := by cases a <;> cases b <;> first | rfl | cases h
def isB (o : Bn) (op : Operator) : Bool := match binOp o with | some p => opEq p op | none => false
def isC (o : Bn) (op : CmpOp) : Bool := match cmpOp o with | some p => cmpEq p op | none => false
def glbB (cx : Chk) (x : Str) : Bool := glB cx.sc x && plainName x
def bltB (cx : Chk) (x : Str) (n : String) : Bool := decide (x = Str.ofString n) && glB cx.sc x && decide (x ∈ cx.blt)
def recv : PySem.Expr → Bool
  | .Name _ _ => true | .Subscript _ _ _ => true | .Constant _ _ _ => true | _ => false
def Chk.blk (cx : Chk) (scope : Scope) : Chk := { cx with sc := relS scope cx.sc, tgt := fun x => locB scope x }
def ownOf (N : List Str) (own : List Nat) : List (Str × Nat) := own.map fun i => (N.getD i Str.empty, i)
def noSet : PySem.Expr → Bool
  | .Set _ _ _ => false | _ => true
def isSlice : PySem.Expr → Bool
  | .Slice _ _ _ _ => true | _ => false
def isTup : PySem.Expr → Bool
  | .Tuple _ _ _ => true | _ => false
mutual
def okE (cx : Chk) : E → PySem.Expr → Bool
  | .memo, e => match e with
    | .Dict [] [] _ => true
    | _ => false
  | .const x, e => match x, e with
    | .non, .Constant .none _ _ => true
    | .bl b, .Constant (.bool b') _ _ => b == b'
    | .int i, .Constant (.int i') _ _ => i == i'
    | .str s, .Constant (.str y) _ _ => decide (y.cps.toList = s) && decide (s.length ≤ sizeMax)
    | _, _ => false
  | .glob k, e => match e with
    | .Name x _ => glbB cx x && decide (cx.gl k = some x)
    | _ => false
  | .var i, e => match e with
    | .Name x _ => decide (cx.N[i]? = some x) && visB cx.sc x && plainName x
    | _ => false
  | .tup es, e => match e with
    | .Tuple l _ _ => decide (l.length ≤ 100000) && okEs cx es l
    | _ => false
  | .list es, e => match e with
    | .List l _ => decide (l.length ≤ 100000) && okEs cx es l
    | _ => false
  | .un u a, e => match u, e with
    | .neg, .UnaryOp .USub x _ => okE cx a x
    | .isN, .Compare x [.Is] [.Constant .none _ _] _ => okE cx a x
    | .notN, .Compare x [.IsNot] [.Constant .none _ _] _ => okE cx a x
    | .isT, .Compare x [.Is] [.Constant (.bool true) _ _] _ => okE cx a x
    | .notT, .Compare x [.IsNot] [.Constant (.bool true) _ _] _ => okE cx a x
    | .isF, .Compare x [.Is] [.Constant (.bool false) _ _] _ => okE cx a x
    | .notF, .Compare x [.IsNot] [.Constant (.bool false) _ _] _ => okE cx a x
    | .rev, .Subscript x (.Slice none none (some (.UnaryOp .USub (.Constant (.int 1) _ _) _)) _) _ => okE cx a x
    | _, _ => false
  | .bin o a b, e => match e with
    | .BinOp x op y _ => isB o op && okE cx a x && okE cx b y
    | .Compare x [op] [y] _ => isC o op && okE cx a x && okE cx b y
    | .Subscript x y _ => (match o with | .idx => true | _ => false) && !isSlice y && okE cx a x && okE cx b y
    | _ => false
  | .chain a o b o' d, e => match e with
    | .Compare x [op, op'] [y, w] _ => isC o op && isC o' op' && okE cx a x && okE cx b y && okE cx d w
    | _ => false
  | .slc a lo hi, e => match e with
    | .Subscript x (.Slice l h none _) _ => okE cx a x && okEo cx lo l && okEo cx hi h
    | _ => false
  | .and a b, e => match e with
    | .BoolOp .And [x, y] _ => okE cx a x && okE cx b y
    | .BoolOp .And (x :: y :: w :: r) p => okE cx a x && okE cx b (.BoolOp .And (y :: w :: r) p)
    | _ => false
  | .or a b, e => match e with
    | .BoolOp .Or [x, y] _ => okE cx a x && okE cx b y
    | .BoolOp .Or (x :: y :: w :: r) p => okE cx a x && okE cx b (.BoolOp .Or (y :: w :: r) p)
    | _ => false
  | .not a, e => match e with
    | .UnaryOp .Not x _ => okE cx a x
    | _ => false
  | .ite t a b, e => match e with
    | .IfExp t' x y _ => okE cx t t' && okE cx a x && okE cx b y
    | _ => false
  | .app f es, e => match e with
    | .Call (.Name x _) args [] _ => bltB cx x (apName f) && (match f, args with
      | .isi t, [a, .Name y _] => okEs cx es [a] && bltB cx y (tyName t)
      | .isi _, _ => false
      | .sortSet, [.Call (.Name y _) [a] [] _] => okEs cx es [a] && bltB cx y "set"
      | .sortSet, _ => false
      | _, [] => false
      | _, l => okEs cx es l)
    | _ => false
  | .meth m a es, e => match e with
    | .Call (.Attribute o nm ap) [] [] cp => (match m, es with | .upper, .nil => true | _, _ => false) && decide (nm = Str.ofString (mtName m)) && (ap.endLine == cp.line) && recv o && okE cx a o
    | _ => false
  | .call k es, e => match e with
    | .Call (.Name x _) args [] _ => glbB cx x && decide (cx.fn k = some x) && okEs cx es args
    | _ => false
  | .draw i m, e => match e with
    | .Call (.Name x _) [.Name b _, y] [] _ => glbB cx x && decide (x = cx.dr) && decide (cx.N[i]? = some b) && visB cx.sc b && plainName b && okE cx m y
    | _ => false
  | .rngL t lo hi, e => match e with
    | .Call (.Name x _) [.Call (.Name y _) [w] [] _] [] _ => bltB cx x (if t then "tuple" else "list") && bltB cx y "range" && (match lo with | .no => true | _ => false) && okE cx hi w
    | .Call (.Name x _) [.Call (.Name y _) [v, w] [] _] [] _ => bltB cx x (if t then "tuple" else "list") && bltB cx y "range" && (match lo with | .no => false | _ => true) && okEo cx lo (some v) && okE cx hi w
    | _ => false
  | .comp elt tg it cs own, e => match e with
    | .ListComp x [⟨t, i, ifs, 0⟩] scope _ => blkC cx.N cx.sc scope (ownOf cx.N own) && okIt cx it t i && okTg (cx.blk scope) tg t && tg.slots.all (fun j => own.contains j) && (match cs, ifs with
        | .nil, [] => true
        | .cons c .nil, [y] => okE (cx.blk scope) c y
        | _, _ => false) && okE (cx.blk scope) elt x
    | _ => false
  | .comp2 elt tg it tg2 it2 own, e => match e with
    | .ListComp x [⟨t, i, [], 0⟩, ⟨t2, i2, [], 0⟩] scope _ => blkC cx.N cx.sc scope (ownOf cx.N own) && okIt cx it t i && okTg (cx.blk scope) tg t && okIt (cx.blk scope) it2 t2 i2 && okTg (cx.blk scope) tg2 t2 &&
        tg.slots.all (fun j => own.contains j) && tg2.slots.all (fun j => own.contains j) && tg.slots.all (fun j => !tg2.slots.contains j) && okE (cx.blk scope) elt x
    | _ => false
  | .din neg k i, e => match e with
    | .Compare x [op] [.Name y _] _ => (match neg, op with | false, .In => true | true, .NotIn => true | _, _ => false) && okE cx k x && (decide (cx.N[i]? = some y) && visB cx.sc y && plainName y)
    | _ => false
  | .dget i k, e => match e with
    | .Subscript (.Name y _) kx _ => (decide (cx.N[i]? = some y) && visB cx.sc y && plainName y) && !isSlice kx && okE cx k kx
    | _ => false
def okEs (cx : Chk) : Es → List PySem.Expr → Bool
  | .nil, l => match l with | [] => true | _ => false
  | .cons e es, l => match l with | x :: xs => okE cx e x && okEs cx es xs | [] => false
def okEo (cx : Chk) : Eo → Option PySem.Expr → Bool
  | .no, o => match o with | none => true | _ => false
  | .so e, o => match o with | some x => okE cx e x | none => false
def okIt (cx : Chk) : It → PySem.Expr → PySem.Expr → Bool
  | .seq a, _, e => noSet e && okE cx a e
  | .rng1 a, _, e => match e with
    | .Call (.Name x _) [y] [] _ => bltB cx x "range" && okE cx a y
    | _ => false
  | .rng2 a b, _, e => match e with
    | .Call (.Name x _) [y, w] [] _ => bltB cx x "range" && okE cx a y && okE cx b w
    | _ => false
  | .enum a, t, e => match e with
    | .Call (.Name x _) [y] [] _ => bltB cx x "enumerate" && isTup t && okE cx a y
    | _ => false
  | .zip a b, t, e => false
end

/-! ### what the check gives -/
theorem okE_star {cx : Chk} {a : E} {e : Expr} (h : okE cx a e = true) : ∀ (es : List Expr) (env : PySem.Env), starEach (e :: es) env = (false, eval e env) :: starEach es env := by
  intro es env
  cases e <;> first | rfl | (cases a <;> simp [okE] at h)
theorem okEs_star {cx : Chk} : ∀ {a : Es} {es : List Expr} (env : PySem.Env), okEs cx a es = true → ∀ pos, (backTo pos (starEach es env)).any (·.1) = false
  | .nil, es, env, h, pos => by
    cases es with
    | nil => rfl
    | cons e es => simp [okEs] at h
  | .cons a as, es, env, h, pos => by
    cases es with
    | nil => simp [okEs] at h
    | cons e es =>
      simp only [okEs, Bool.and_eq_true] at h
      rw [okE_star h.1]
      have ih := okEs_star (es := es) env h.2 pos
      unfold backTo at ih ⊢
      rw [List.map_cons, List.any_cons, ih]
      rfl
theorem okE_ix {cx : Chk} {a : E} {e : Expr} (h : isSlice e = false) : PlainIx e := by
  intro o i
  cases e <;> first | rfl | simp [isSlice] at h
theorem okE_swap {cx : Chk} {a : E} {e : Expr} (h : okE cx a e = true) (hc : ∀ x t it cs o, a ≠ .comp x t it cs o) (hc2 : ∀ x t it t2 it2 o, a ≠ .comp2 x t it t2 it2 o) (tg : Option Expr) (l : Nat) (env : PySem.Env) : swapsWith e tg l env = pure false := by
  cases e <;> first
    | rfl
    | (exfalso
       cases a <;> first
         | exact hc _ _ _ _ _ rfl
         | exact hc2 _ _ _ _ _ _ rfl
         | (simp only [okE, Bool.false_eq_true] at h; done)
         | (unfold okE at h; split at h <;> first | cases h | simp_all))
theorem okE_mark {cx : Chk} {a : E} {e : Expr} (h : okE cx a e = true) (op : CmpOp) : behindInMarks op e = false := by
  cases e <;> first | rfl | (cases a <;> simp [okE] at h)
theorem bltB_of {cx : Chk} {x : Str} {n : String} (h : bltB cx x n = true) : x = Str.ofString n ∧ glB cx.sc x = true ∧ x ∈ cx.blt := by
  unfold bltB at h
  simp only [Bool.and_eq_true, decide_eq_true_eq] at h
  exact ⟨h.1.1, h.1.2, h.2⟩
theorem gl_of {X : Cx} {cx : Chk} {x : Str} (hs : X.env.scope = cx.sc) (h : glB cx.sc x = true) : Gl X x := by
  unfold glB at h
  show X.env.scope.names.lookup x = some .globalImplicit
  rw [hs]
  split at h
  · assumption
  · cases h
theorem plain_of {x : Str} (h : plainName x = true) : (x == ("__debug__" : Str)) = false ∧ (x == ("__classdict__" : Str)) = false ∧ x ≠ ("__name__" : Str) := by
  unfold plainName at h
  rw [Bool.and_eq_true, Bool.and_eq_true, Bool.not_eq_true', Bool.not_eq_true', Bool.not_eq_true'] at h
  exact ⟨h.1.1, h.1.2, fun e => by rw [e, beq_self_eq_true] at h; exact absurd h.2 (by decide)⟩
end MP
end
section
set_option Elab.async false
set_option linter.all false
set_option autoImplicit false
set_option maxRecDepth 100000
set_option maxHeartbeats 8000000
namespace MP
open PySem PySem.Spec PyProof.Rows L2
def isBool : PySem.Expr → Prop
  | .BoolOp _ _ _ => True
  | _ => False
section
variable {z : Zx} {c : Ctx} {n : Nat} {X : Cx} {cx : Chk}
theorem Good.hu (g : Good X z cx c n) : X.A.units + 65 < cLine := by
  have := g.hr.un
  omega
theorem Good.gl' (g : Good X z cx c n) {x : Str} (h : glB cx.sc x = true) : Gl X x := gl_of g.tg.sc h
theorem op_of (g : Good X z cx c n) {o : Bn} {op : Operator} (h : isB o op = true) : OpR X (binaryOp op) (rBin z o.ap) := by
  unfold isB at h
  cases o <;> simp only [binOp] at h <;> first | cases h | (have e := opEq_of h; subst e)
  · exact op_addV g.K
  · exact op_subV
  · exact op_mulV g.K
  · exact op_fdivV
  · exact op_modV
  · exact op_shlV
  · exact op_shrV
  · exact op_bandV
theorem cmp_of (g : Good X z cx c n) {o : Bn} {op : CmpOp} (h : isC o op = true) : OpR X (compareOp op) (rBin z o.ap) := by
  unfold isC at h
  cases o <;> simp only [cmpOp] at h <;> first | cases h | (have e := cmpEq_of h; subst e)
  · exact op_eqVV g.K g.hu
  · exact op_neVV g.K g.hu
  · exact op_ltVV g.K (by have := g.hu; omega)
  · exact op_leVV g.K (by have := g.hu; omega)
  · exact op_gtVV g.K (by have := g.hu; omega)
  · exact op_geVV g.K (by have := g.hu; omega)
  · exact op_inVV g.K g.hu
  · exact op_notinVV g.K g.hu
theorem intV_bl {f : Int → Int → Option Val} (hf : ∀ i j x, f i j = some x → ∃ k, x = .bl k) {r q rv : Rv} (h : intV f r q = some rv) : ∃ k, rv = .v (.bl k) := by
  unfold intV at h
  split at h
  · rw [Option.map_eq_some_iff] at h
    obtain ⟨x, e, rfl⟩ := h
    obtain ⟨k, rfl⟩ := hf _ _ _ e
    exact ⟨k, rfl⟩
  · cases h
theorem cmpV_bl {f : Int → Int → Bool} {g : List Int → List Int → Bool} {r q rv : Rv} (h : cmpV f g r q = some rv) : ∃ k, rv = .v (.bl k) := by
  unfold cmpV at h
  split at h
  · cases h; exact ⟨_, rfl⟩
  · split at h <;> cases h; exact ⟨_, rfl⟩
  · cases h
theorem cmp_bl {o : Bn} {op : CmpOp} (h : isC o op = true) {r q rv : Rv} (e : o.ap r q = some rv) : ∃ k, rv = .v (.bl k) := by
  unfold isC at h
  cases o <;> simp only [cmpOp] at h <;> first | cases h | skip
  · simp only [Bn.ap, eqV] at e; split at e <;> cases e; exact ⟨_, rfl⟩
  · simp only [Bn.ap, eqV] at e; split at e <;> cases e; exact ⟨_, rfl⟩
  · simp only [Bn.ap, ltV] at e
    split at e
    · cases e; exact ⟨_, rfl⟩
    · split at e <;> cases e; exact ⟨_, rfl⟩
    · cases e
  · exact cmpV_bl e
  · exact cmpV_bl e
  · exact cmpV_bl e
  · simp only [Bn.ap, inV] at e
    split at e
    · split at e <;> cases e; exact ⟨_, rfl⟩
    · cases e
  · simp only [Bn.ap, inV] at e
    split at e
    · split at e <;> cases e; exact ⟨_, rfl⟩
    · cases e
theorem wp_bin {α : Type} {a b : E} {env : Env} {h : Mem} {f : Rv → Rv → Option Rv} {k : Rv × Mem → T α} {Q : α → Prop}
    (w : ((ev c a env h).bind fun p => (ev c b env p.2).bind fun q => T.opt (f p.1 q.1) fun r => k (r, q.2)).wp Q) :
    (ev c a env h).wp fun p => (ev c b env p.2).wp fun q => ∃ rv, f p.1 q.1 = some rv ∧ (k (rv, q.2)).wp Q := by
  rw [T.wp_bind] at w
  refine T.wp_mono w fun p wp => ?_
  rw [T.wp_bind] at wp
  exact T.wp_mono wp fun q wq => wp_opt wq
/-- the three forms of what is shown -/
def Three (X : Cx) (z : Zx) (c : Ctx) (a : E) (e : Expr) : Prop := PE X e (tE z c a) ∧ PT X e (tT z c a) ∧ (isBool e → PW X e (tT z c a))
theorem Three.plain (hK : z.K = X.K) {a : E} {e : Expr} (h : PE X e (tE z c a)) (he : ∀ whole, isTrue e X.env whole = (do let v ← whole; standAt e.pos; holding [v] (truthy v))) (nb : ¬ isBool e) : Three X z c a e :=
  ⟨h, PE.test hK h he, fun b => absurd b nb⟩
/-- a compare -/
theorem Three.cmp (g : Good X z cx c n) {a b : E} {o : Bn} {op : CmpOp} {x y : Expr} {pos : Pos} (h : isC o op = true) (ha : PE X x (tE z c a)) (hb : PE X y (tE z c b)) (hm : behindInMarks op y = false) : Three X z c (.bin o a b) (.Compare x [op] [y] pos) := by
  refine ⟨PE.imp (pe_cmpR (cmp_of g h) ha hb hm) fun σ H Q ⟨R, env, m, rel, w⟩ => ?_, PT.imp (pt_cmpR (cmp_of g h) ha hb hm) fun σ H Q ⟨R, env, m, rel, w⟩ => ?_, fun q => q.elim⟩
  · simp only [ev] at w
    exact rd_bin (G := fun p => ∀ v H', Keeps z H H' → RepR z (Clo R env σ) (OwnA env σ) H H' p.1 v → Q v H') rel (wp_bin (k := T.ret) w) (fun p hp v H' k r => hp v H' k r)
  · simp only [ev] at w
    refine rd_bin (G := fun p => ∃ k, p.1 = .v (.bl k) ∧ ∀ H', Keeps z H H' → Q k H') rel (T.wp_mono (wp_bin (k := T.ret) w) fun p wp => T.wp_mono wp fun q ⟨rv, e, b, e2, wq⟩ => ?_) fun p ⟨k, e, hk⟩ v H' kp r => ?_
    · obtain ⟨k, rfl⟩ := cmp_bl h e
      cases e2
      exact ⟨_, e, _, rfl, wq⟩
    · rw [e] at r
      exact ⟨k, r.bl, hk H' kp⟩
/-- .. with a written None, True, False -/
theorem Three.cmpC (g : Good X z cx c n) {a : E} {u : Un} {op : CmpOp} {x y : Expr} {pos : Pos} {w : V} (ho : OpR X (compareOp op) (rC z u.ap w)) (hb : ∀ r rv, u.ap r = some rv → ∃ k, rv = .v (.bl k)) (ha : PE X x (tE z c a)) (hy : PE X y (tC w)) (hm : behindInMarks op y = false) :
    Three X z c (.un u a) (.Compare x [op] [y] pos) := by
  have rd : ∀ {σ H} {Q : VK} {R env m} {G : Rv × Mem → Prop}, Rel z R env σ H → (ev c a env m).wp (fun p => ∃ rv, u.ap p.1 = some rv ∧ G (rv, p.2)) → (∀ p, G p → ∀ v H', Keeps z H H' → RepR z (Clo R env σ) (OwnA env σ) H H' p.1 v → Q v H') → tOp (rC z u.ap w) (tE z c a) (tC w) σ H Q := fun {σ H Q R env m G} rel w hG => by
    refine ⟨R, env, m, rel, T.wp_mono w fun p ⟨rv, e, g'⟩ v H1 k1 r1 => ⟨rfl, ?_⟩⟩
    exact ⟨Clo R env σ, OwnA env σ, H, p.1, rv, rel.ok.keeps k1, r1, e, fun v H3 s r3 => hG _ g' v H3 (k1.trans (.same s)) (r3.since k1)⟩
  have wpu : ∀ {α : Type} {env m} {k : Rv × Mem → T α} {Q : α → Prop}, ((ev c a env m).bind fun p => T.opt (u.ap p.1) fun r => k (r, p.2)).wp Q → (ev c a env m).wp fun p => ∃ rv, u.ap p.1 = some rv ∧ (k (rv, p.2)).wp Q := fun {α env m k Q} w => by
    rw [T.wp_bind] at w
    exact T.wp_mono w fun p wp => wp_opt wp
  refine ⟨PE.imp (pe_cmpR ho ha hy hm) fun σ H Q ⟨R, env, m, rel, w⟩ => ?_, PT.imp (pt_cmpR ho ha hy hm) fun σ H Q ⟨R, env, m, rel, w⟩ => ?_, fun q => q.elim⟩
  · simp only [ev] at w
    exact rd (G := fun p => ∀ v H', Keeps z H H' → RepR z (Clo R env σ) (OwnA env σ) H H' p.1 v → Q v H') rel (wpu (k := T.ret) w) (fun p hp v H' k r => hp v H' k r)
  · simp only [ev] at w
    refine rd (G := fun p => ∃ k, p.1 = .v (.bl k) ∧ ∀ H', Keeps z H H' → Q k H') rel (T.wp_mono (wpu (k := T.ret) w) fun p ⟨rv, e, b, e2, wq⟩ => ?_) fun p ⟨k, e, hk⟩ v H' kp r => ?_
    · obtain ⟨k, rfl⟩ := hb _ _ e
      cases e2
      exact ⟨_, e, _, rfl, wq⟩
    · rw [e] at r
      exact ⟨k, r.bl, hk H' kp⟩
/-- a chain -/
theorem Three.chain (g : Good X z cx c n) {a b d : E} {o o' : Bn} {op op' : CmpOp} {x y w : Expr} {pos : Pos} (h : isC o op = true) (h' : isC o' op' = true) (ha : PE X x (tE z c a)) (hb : PE X y (tE z c b)) (hd : PE X w (tE z c d)) (hm : lastMarks [op, op'] [y, w] = false) :
    Three X z c (.chain a o b o' d) (.Compare x [op, op'] [y, w] pos) := by
  have rd : ∀ {σ H} {Q : VK} {R env m} {P : Rv × Mem → Prop}, Rel z R env σ H → (ev c (.chain a o b o' d) env m).wp P → (∀ p, P p → ∀ v H', Keeps z H H' → RepR z (Clo R env σ) (OwnA env σ) H H' p.1 v → Q v H') →
      tChain (rBin z o.ap) (rBin z o'.ap) (tE z c a) (tE z c b) (tE z c d) σ H Q := fun {σ H Q R env m P} rel w' hP => by
    simp only [ev] at w'
    rw [T.wp_bind] at w'
    refine ⟨R, env, m, rel, T.wp_mono w' fun p wp v H1 k1 r1 => ⟨R, env, p.2, rel.of_keeps k1, ?_⟩⟩
    rw [T.wp_bind] at wp
    refine T.wp_mono wp fun q wq u H2 k2 r2 => ?_
    have k12 := k1.trans k2
    rcases wp_chain wq with ⟨e, wq⟩ | ⟨e, wq⟩
    · refine ⟨Clo R env σ, OwnA env σ, H, p.1, q.1, _, rel.ok.keeps k12, r1.later rel k1 k2, r2.since k1, e, fun v3 H3 s3 r3 => ⟨true, r3.bl, ?_⟩⟩
      rw [if_pos rfl]
      rw [T.wp_bind] at wq
      have k3 : Keeps z H2 H3 := .same s3
      refine ⟨R, env, q.2, (rel.of_keeps k12).of_keeps k3, T.wp_mono wq fun t wt v4 H4 k4 r4 => ?_⟩
      obtain ⟨rv, e5, w5⟩ := wp_opt wt
      have k34 := k3.trans k4
      refine ⟨Clo R env σ, OwnA env σ, H, q.1, t.1, rv, rel.ok.keeps (k12.trans k34), (r2.since k1).later rel k12 k34, r4.since (k12.trans k3), e5, fun v5 H5 s5 r5 => ?_⟩
      exact hP _ w5 v5 H5 ((k12.trans k34).trans (.same s5)) (r5.since (k12.trans k34))
    · refine ⟨Clo R env σ, OwnA env σ, H, p.1, q.1, _, rel.ok.keeps k12, r1.later rel k1 k2, r2.since k1, e, fun v3 H3 s3 r3 => ⟨false, r3.bl, ?_⟩⟩
      rw [if_neg (by decide)]
      exact hP _ wq _ H3 (k12.trans (.same s3)) (by simp only [RepR, Rep])
  refine ⟨PE.imp (pe_chain (cmp_of g h) (cmp_of g h') ha hb hd hm) fun σ H Q ⟨R, env, m, rel, w⟩ => rd rel w fun p hp v H' k r => hp v H' k r, PT.imp (pt_chain (cmp_of g h) (cmp_of g h') ha hb hd hm) fun σ H Q ⟨R, env, m, rel, w⟩ => ?_, fun q => q.elim⟩
  have w2 : (ev c (.chain a o b o' d) env m).wp fun p => ∃ k, p.1 = .v (.bl k) ∧ ∀ H', Keeps z H H' → Q k H' := by
    simp only [ev] at w ⊢
    rw [T.wp_bind] at w ⊢
    refine T.wp_mono w fun p wp => ?_
    rw [T.wp_bind] at wp ⊢
    refine T.wp_mono wp fun q wq => ?_
    rcases wp_chain wq with ⟨e, wq⟩ | ⟨e, wq⟩
    · simp only [e, chainT]
      rw [T.wp_bind] at wq ⊢
      refine T.wp_mono wq fun t wt => ?_
      obtain ⟨rv, e5, b5, e6, w5⟩ := wp_opt wt
      simp only [e5, T.opt]
      obtain ⟨k, rfl⟩ := cmp_bl h' e5
      cases e6
      exact ⟨_, rfl, w5⟩
    · simp only [e, chainT]
      obtain ⟨b5, e6, w5⟩ := wq
      cases e6
      exact ⟨false, rfl, w5⟩
  refine rd rel w2 fun p ⟨k, e, hk⟩ v H' kp r => ?_
  rw [e] at r
  exact ⟨k, r.bl, hk H' kp⟩
end
end MP
end
section
set_option Elab.async false
set_option linter.all false
set_option autoImplicit false
set_option maxRecDepth 100000
set_option maxHeartbeats 8000000
/-! MPLoop: comprehensions. -/
namespace MP
open PySem PySem.Spec PyProof.Rows L2

theorem T.wp_ex {α : Type} {t : T α} {Q : α → Prop} (h : t.wp Q) : ∃ a, Q a := by
  induction t with
  | ret a => exact ⟨a, h⟩
  | bad => exact h.elim
  | draw m k ih => exact ih 0 (h.2 0 (Int.le_refl 0) h.1)

/-! ### a closed list is changed -/
section
variable {z : Zx} {M : AS} {H : Hp} {D : Addr} {us ws : List V}
variable {o0 o1 : HO}
theorem sqT_updW {K : PySem.W.Frag} {a : Addr} {vs : List V} (wr : Wr o0) (e : H D = some o0) (h : SqT K H a vs) : SqT K (upd H D o1) a vs := by
  have ne : ∀ {o}, H a = some o → ¬ Wr o → upd H D o1 a = some o := fun {o} q n => by
    rw [upd_ne (fun q' => by subst q'; rw [e] at q; exact n (by rw [← Option.some.inj q]; exact wr))]
    exact q
  rcases h with (h | ⟨o, h⟩) | h
  · exact .inl (.inl (ne h fun q => by rcases q with ⟨_, q⟩ | ⟨_, q⟩ <;> cases q))
  · exact .inl (.inr ⟨o, ne h fun q => by rcases q with ⟨_, q⟩ | ⟨_, q⟩ <;> cases q⟩)
  · exact .inr h
theorem sqT_upd {K : PySem.W.Frag} {a : Addr} {vs : List V} (e : H D = some (.lst us)) (h : SqT K H a vs) : SqT K (upd H D (.lst ws)) a vs := sqT_updW (.inl ⟨us, rfl⟩) e h
mutual
theorem Rep.updW (m : M D) (wr : Wr o0) (e : H D = some o0) : ∀ (x : Val) {v : V}, Rep z M H x v → Rep z M (L2.upd H D o1) x v
  | .non, v, h => by simpa only [Rep] using h
  | .bl b, v, h => by simpa only [Rep] using h
  | .int i, v, h => by simpa only [Rep] using h
  | .str s, v, h => by simpa only [Rep] using h
  | .tup xs, v, h => by
    simp only [Rep] at h ⊢
    obtain ⟨l, a, vs, e', q, r⟩ := h
    exact ⟨l, a, vs, e', sqT_updW wr e q, Reps.updW m wr e xs r⟩
  | .lst xs, v, h => by
    simp only [Rep] at h ⊢
    obtain ⟨l, a, vs, e', q, n, r⟩ := h
    exact ⟨l, a, vs, e', by rw [upd_ne (fun q' => by subst q'; exact n m)]; exact q, n, Reps.updW m wr e xs r⟩
  | .ref _, v, h => by
    simp only [Rep] at h ⊢
    obtain ⟨a, e', q⟩ := h
    refine ⟨a, e', q.mono (fun φ q' => ?_) fun a vs => sqT_updW wr e⟩
    rw [upd_ne (fun q2 => by subst q2; rw [e] at q'; rcases wr with ⟨_, w⟩ | ⟨_, w⟩ <;> (rw [w] at q'; cases q'))]
    exact q'
  | .box, v, h => by simpa only [Rep] using h
  | .fn _, v, h => by simpa only [Rep] using h
theorem Reps.updW (m : M D) (wr : Wr o0) (e : H D = some o0) : ∀ (xs : List Val) {vs : List V}, Reps z M H xs vs → Reps z M (L2.upd H D o1) xs vs
  | [], vs, h => by simpa only [Reps] using h
  | x :: xs, vs, h => by
    simp only [Reps] at h ⊢
    obtain ⟨v, ws', e', r, s⟩ := h
    exact ⟨v, ws', e', Rep.updW m wr e x r, Reps.updW m wr e xs s⟩
end
theorem Rep.upd (m : M D) (e : H D = some (.lst us)) (x : Val) {v : V} (h : Rep z M H x v) : Rep z M (L2.upd H D (.lst ws)) x v := Rep.updW m (.inl ⟨us, rfl⟩) e x h
theorem Reps.upd (m : M D) (e : H D = some (.lst us)) (xs : List Val) {vs : List V} (h : Reps z M H xs vs) : Reps z M (L2.upd H D (.lst ws)) xs vs := Reps.updW m (.inl ⟨us, rfl⟩) e xs h
theorem OwnR.updW (m : M D) (wr : Wr o0) (e : H D = some o0) : ∀ {o : OL} {a : Addr}, a ≠ D → OwnR z M H o a → OwnR z M (L2.upd H D o1) o a
  | .l xs, a, ne, h => by obtain ⟨vs, e', q, l⟩ := h; exact ⟨vs, by rw [upd_ne ne]; exact e', Reps.updW m wr e xs q, l⟩
  | .d xs, a, ne, h => by obtain ⟨vs, e', q, l⟩ := h; exact ⟨vs, by rw [upd_ne ne]; exact e', q.imp (fun x _ r => Rep.updW m wr e x r), l⟩
theorem Pn.updW {A : AS} (ma : A D) (m : M D) (wr : Wr o0) (e : H D = some o0) {p : Val × V} (h : Pn z A M H p) : Pn z A M (L2.upd H D o1) p := by
  obtain ⟨x, v⟩ := p
  cases x with
  | lst xs =>
    simp only [Pn] at h ⊢
    obtain ⟨l, a, vs, e', q, n, r⟩ := h
    exact ⟨l, a, vs, e', by rw [upd_ne (fun q' => by subst q'; exact n ma)]; exact q, n, Reps.updW m wr e xs r⟩
  | tup xs => exact Rep.updW (z := z) (o1 := o1) (v := v) m wr e (.tup xs) h
  | non => exact Rep.updW (z := z) (o1 := o1) (v := v) m wr e .non h
  | bl b => exact Rep.updW (z := z) (o1 := o1) (v := v) m wr e (.bl b) h
  | int i => exact Rep.updW (z := z) (o1 := o1) (v := v) m wr e (.int i) h
  | str s => exact Rep.updW (z := z) (o1 := o1) (v := v) m wr e (.str s) h
  | ref n => exact Rep.updW (z := z) (o1 := o1) (v := v) m wr e (.ref n) h
  | box => exact Rep.updW (z := z) (o1 := o1) (v := v) m wr e .box h
  | fn n => exact Rep.updW (z := z) (o1 := o1) (v := v) m wr e (.fn n) h
theorem Pn.upd {A : AS} (ma : A D) (m : M D) (e : H D = some (.lst us)) {p : Val × V} (h : Pn z A M H p) : Pn z A M (L2.upd H D (.lst ws)) p := Pn.updW ma m (.inl ⟨us, rfl⟩) e h
theorem BoxOk.upd (ok : BoxOk z H) (n : ¬ z.Box D) {o : HO} : BoxOk z (L2.upd H D o) := fun b c e => by
  obtain ⟨ne, cs, x, y, h1, h2, r⟩ := ok b c e
  refine ⟨ne, cs, x, y, ?_, ?_, r⟩
  · rw [upd_ne (fun q => n ⟨b, c, e, .inl q.symm⟩)]; exact h1
  · rw [upd_ne (fun q => n ⟨b, c, e, .inr q.symm⟩)]; exact h2
theorem Keeps.updNewW {H0 : Hp} (k : Keeps z H0 H) (h0 : H0 D = none) (n : ¬ z.Box D) (wr : Wr o0) (hD : H D = some o0) : Keeps z H0 (L2.upd H D o1) := by
  refine ⟨fun a x e nx nb => ?_, fun a e => ?_, fun ok => (k.box ok).upd n, fun ok a xs m => ?_⟩
  · rw [upd_ne (fun q => by subst q; rw [h0] at e; cases e)]
    exact k.atx a x e nx nb
  · by_cases q : a = D
    · rw [q]; exact h0
    · rw [upd_ne q] at e
      exact k.trk a e
  · obtain ⟨ys, m, q⟩ := k.memx ok a xs m
    refine ⟨ys, m.mono (fun φ q' => ?_) fun a vs => sqT_updW wr hD, q⟩
    rw [upd_ne (fun q2 => by subst q2; rw [hD] at q'; rcases wr with ⟨_, w⟩ | ⟨_, w⟩ <;> (rw [w] at q'; cases q'))]
    exact q'
theorem Keeps.updNew {H0 : Hp} (k : Keeps z H0 H) (h0 : H0 D = none) (n : ¬ z.Box D) (hD : H D = some (.lst us)) : Keeps z H0 (L2.upd H D (.lst ws)) := k.updNewW h0 n (.inl ⟨us, rfl⟩) hD
end
section
variable {z : Zx} {R : Fr} {env : Env} {σ : St} {H H' : Hp} {D : Addr} {us ws : List V}
theorem Rel.updW {o0 o1 : HO} (r : Rel z R env σ H) (m : R.Mx D) (wr : Wr o0) (e : H D = some o0) (h0 : R.H0 D = none) (n : ¬ z.Box D) : Rel z R env σ (L2.upd H D o1) := by
  have no : ∀ b, OwnA env σ b → b ≠ D := fun b o q => r.mx b o (by rw [q]; exact m)
  refine ⟨r.len, fun i s o e1 e2 => ?_, r.uniq, r.mx, r.own0, fun a ma => ?_, r.keep.updNewW h0 n wr e, r.box.upd n, r.bxM, fun p hp => Rep.updW (.inl m) wr e p.1 (r.pins p hp)⟩
  · have h := r.slot i s o e1 e2
    match s, o, h with
    | .emp, _, _ => trivial
    | .val x, some v, h => exact Rep.updW (.inl m) wr e x h
    | .own xs, some (.ref a), h => exact OwnR.updW (.inl m) wr e (no a ⟨i, xs, e1, e2⟩) h
  · by_cases q : a = D
    · rw [q, upd_same]; simp
    · rw [upd_ne q]; exact r.trk a ma
theorem Rel.upd (r : Rel z R env σ H) (m : R.Mx D) (e : H D = some (.lst us)) (h0 : R.H0 D = none) (n : ¬ z.Box D) : Rel z R env σ (L2.upd H D (.lst ws)) := r.updW m (.inl ⟨us, rfl⟩) e h0 n
def Fr.pinned (R : Fr) (ps : List (Val × V)) : Fr := ⟨R.Mx, R.H0, ps ++ R.pin⟩
theorem Rel.pinned (r : Rel z R env σ H) {ps : List (Val × V)} (h : ∀ p ∈ ps, Rep z (Clo R env σ) H p.1 p.2) : Rel z (R.pinned ps) env σ H :=
  ⟨r.len, r.slot, r.uniq, r.mx, r.own0, r.trk, r.keep, r.box, r.bxM, fun p hp => by
    rcases List.mem_append.mp hp with m | m
    · exact h p m
    · exact r.pins p m⟩

/-! ### wiped slots -/
theorem wipeE_len (env : Env) : ∀ is : List Nat, (wipeE env is).length = env.length
  | [] => rfl
  | i :: is => by simp [wipeE, wipeE_len env is]
theorem wipeE_at (env : Env) : ∀ (is : List Nat) (j : Nat), j ∈ is → ∀ s, (wipeE env is)[j]? = some s → s = .emp
  | i :: is, j, h, s, e => by
    simp only [wipeE] at e
    by_cases q : i = j
    · subst q
      rw [List.getElem?_set] at e
      simp only [if_true] at e
      split at e
      · cases e; rfl
      · cases e
    · rw [List.getElem?_set_ne q] at e
      rcases List.mem_cons.mp h with m | m
      · exact absurd m.symm q
      · exact wipeE_at env is j m s e
theorem wipeE_ne (env : Env) : ∀ (is : List Nat) (j : Nat), j ∉ is → (wipeE env is)[j]? = env[j]?
  | [], j, _ => rfl
  | i :: is, j, h => by
    simp only [wipeE]
    rw [List.getElem?_set_ne (fun q => h (by simp [q]))]
    exact wipeE_ne env is j fun m => h (by simp [m])
theorem wipe_ne (σ : St) : ∀ (is : List Nat) (j : Nat), j ∉ is → (wipe σ is)[j]? = σ[j]?
  | [], j, _ => rfl
  | i :: is, j, h => by
    unfold wipe
    rw [List.getElem?_set_ne (fun q => h (by simp [q]))]
    exact wipe_ne σ is j fun m => h (by simp [m])
theorem wipe_at (σ : St) : ∀ (is : List Nat) (j : Nat), j ∈ is → j < σ.length → (wipe σ is)[j]? = some none
  | i :: is, j, h, l => by
    unfold wipe
    by_cases q : i = j
    · subst q
      rw [List.getElem?_set_self (by rw [wipe_length]; exact l)]
    · rw [List.getElem?_set_ne q]
      rcases List.mem_cons.mp h with m | m
      · exact absurd m.symm q
      · exact wipe_at σ is j m l
theorem wipe_congr {σ τ : St} {is : List Nat} (l : τ.length = σ.length) (h : ∀ j, j ∉ is → τ[j]? = σ[j]?) : wipe τ is = wipe σ is := by
  apply List.ext_getElem?
  intro j
  by_cases m : j ∈ is
  · by_cases q : j < σ.length
    · rw [wipe_at σ is j m q, wipe_at τ is j m (by omega)]
    · rw [List.getElem?_eq_none (by rw [wipe_length]; omega), List.getElem?_eq_none (by rw [wipe_length]; omega)]
  · rw [wipe_ne σ is j m, wipe_ne τ is j m, h j m]
theorem noOwn_at {env : Env} {is : List Nat} (h : noOwn env is = true) {j : Nat} (m : j ∈ is) {xs : OL} : env[j]? ≠ some (.own xs) := fun e => by
  unfold noOwn at h
  have := List.all_eq_true.mp h j m
  rw [e] at this
  cases this
theorem own_wipe {is : List Nat} (h : noOwn env is = true) (a : Addr) : OwnA (wipeE env is) (wipe σ is) a ↔ OwnA env σ a := by
  constructor
  · rintro ⟨i, xs, e1, e2⟩
    have m : i ∉ is := fun m => by cases wipeE_at env is i m _ e1
    rw [wipeE_ne env is i m] at e1
    rw [wipe_ne σ is i m] at e2
    exact ⟨i, xs, e1, e2⟩
  · rintro ⟨i, xs, e1, e2⟩
    have m : i ∉ is := fun m => noOwn_at h m e1
    exact ⟨i, xs, by rw [wipeE_ne env is i m]; exact e1, by rw [wipe_ne σ is i m]; exact e2⟩
theorem clo_wipe {is : List Nat} (h : noOwn env is = true) : Clo R (wipeE env is) (wipe σ is) = Clo R env σ := by
  funext a
  simp only [Clo, eq_iff_iff, own_wipe h]
theorem Rel.wipe (r : Rel z R env σ H) {is : List Nat} (h : noOwn env is = true) : Rel z R (wipeE env is) (L2.wipe σ is) H := by
  have c := clo_wipe (R := R) (σ := σ) h
  refine ⟨by rw [wipe_length, wipeE_len, r.len], fun i s o e1 e2 => ?_, fun i j a xs ys e1 e2 e3 e4 => ?_, fun a o => r.mx a ((own_wipe h a).mp o), fun a o => r.own0 a ((own_wipe h a).mp o), r.trk, r.keep, r.box, r.bxM, fun p hp => by rw [c]; exact r.pins p hp⟩
  · by_cases m : i ∈ is
    · have := wipeE_at env is i m _ e1
      subst this; trivial
    · rw [wipeE_ne env is i m] at e1
      rw [wipe_ne σ is i m] at e2
      rw [c]; exact r.slot i s o e1 e2
  · have m1 : i ∉ is := fun m => by cases wipeE_at env is i m _ e1
    have m2 : j ∉ is := fun m => by cases wipeE_at env is j m _ e2
    rw [wipeE_ne env is i m1] at e1
    rw [wipeE_ne env is j m2] at e2
    rw [wipe_ne σ is i m1] at e3
    rw [wipe_ne σ is j m2] at e4
    exact r.uniq i j a xs ys e1 e2 e3 e4
end
/-! ### targets -/
mutual
theorem Tg.set_ne : ∀ (t : Tg) (x : Val) (env env' : Env), t.set x env = some env' → env'.length = env.length ∧ ∀ j, j ∉ t.slots → env'[j]? = env[j]?
  | .var i, x, env, env', h => by
    simp only [Tg.set] at h
    split at h
    · cases h
      exact ⟨by simp, fun j hj => by rw [List.getElem?_set_ne (fun q => hj (by simp [Tg.slots, q]))]⟩
    · cases h
  | .tup ts, x, env, env', h => by
    cases x <;> simp only [Tg.set, reduceCtorEq] at h
    obtain ⟨l, o⟩ := Tgs.set_ne ts _ env env' h
    exact ⟨l, fun j hj => o j (by simpa [Tg.slots] using hj)⟩
theorem Tgs.set_ne : ∀ (t : Tgs) (xs : List Val) (env env' : Env), t.set xs env = some env' → env'.length = env.length ∧ ∀ j, j ∉ t.slots → env'[j]? = env[j]?
  | .nil, [], env, env', h => by simp only [Tgs.set, Option.some.injEq] at h; subst h; exact ⟨rfl, fun _ _ => rfl⟩
  | .nil, _ :: _, env, env', h => by simp [Tgs.set] at h
  | .cons t ts, [], env, env', h => by simp [Tgs.set] at h
  | .cons t ts, x :: xs, env, env', h => by
    simp only [Tgs.set, Option.bind_eq_some_iff] at h
    obtain ⟨e1, h1, h2⟩ := h
    obtain ⟨l1, o1⟩ := Tg.set_ne t x env e1 h1
    obtain ⟨l2, o2⟩ := Tgs.set_ne ts xs e1 env' h2
    exact ⟨l2.trans l1, fun j hj => by rw [o2 j fun m => hj (by simp [Tgs.slots, m]), o1 j fun m => hj (by simp [Tgs.slots, m])]⟩
end
mutual
theorem Tg.set_val : ∀ (t : Tg) (x : Val) (env env' : Env), t.set x env = some env' → ∀ j, j ∈ t.slots → ∀ xs : OL, env'[j]? ≠ some (.own xs)
  | .var i, x, env, env', h, j, hj, xs => by
    simp only [Tg.set] at h
    split at h
    · cases h
      have : j = i := by simpa [Tg.slots] using hj
      subst this
      rw [List.getElem?_set_self (by assumption)]
      simp
    · cases h
  | .tup ts, x, env, env', h, j, hj, xs => by
    cases x <;> simp only [Tg.set, reduceCtorEq] at h
    exact Tgs.set_val ts _ env env' h j (by simpa [Tg.slots] using hj) xs
theorem Tgs.set_val : ∀ (t : Tgs) (ys : List Val) (env env' : Env), t.set ys env = some env' → ∀ j, j ∈ t.slots → ∀ xs : OL, env'[j]? ≠ some (.own xs)
  | .nil, [], env, env', h, j, hj, xs => by simp [Tgs.slots] at hj
  | .nil, _ :: _, env, env', h, j, hj, xs => by simp [Tgs.set] at h
  | .cons t ts, [], env, env', h, j, hj, xs => by simp [Tgs.set] at h
  | .cons t ts, x :: ys, env, env', h, j, hj, xs => by
    simp only [Tgs.set, Option.bind_eq_some_iff] at h
    obtain ⟨e1, h1, h2⟩ := h
    by_cases m : j ∈ ts.slots
    · exact Tgs.set_val ts ys e1 env' h2 j m xs
    · have m1 : j ∈ t.slots := by
        simp only [Tgs.slots, List.mem_append] at hj
        exact hj.resolve_right m
      rw [(Tgs.set_ne ts ys e1 env' h2).2 j m]
      exact Tg.set_val t x env e1 h1 j m1 xs
end
end MP
end
section
set_option Elab.async false
set_option linter.all false
set_option autoImplicit false
set_option maxRecDepth 100000
set_option maxHeartbeats 8000000
/-! MPRel2: slots that are bound, lists that are changed. -/
namespace MP
open PySem PySem.Spec PyProof.Rows L2
section
variable {z : Zx} {R : Fr} {env : Env} {σ : St} {H H' : Hp}
theorem Rel.unpin {ps : List (Val × V)} (r : Rel z (R.pinned ps) env σ H) : Rel z R env σ H :=
  ⟨r.len, r.slot, r.uniq, r.mx, r.own0, r.trk, r.keep, r.box, r.bxM, fun p hp => r.pins p (List.mem_append_right _ hp)⟩
/-- an own list is changed -/
theorem Rel.updOwnR (r : Rel z R env σ H) {i : Nat} {xs ys : OL} {a : Addr} {o1 : HO} (e : env[i]? = some (.own xs)) (s : σ[i]? = some (some (.ref a))) (hw : OwnR z (Clo R env σ) (L2.upd H a o1) ys a) : Rel z R (List.set env i (.own ys)) σ (L2.upd H a o1) := by
  have hi : i < env.length := (List.getElem?_eq_some_iff.mp e).1
  have oa : OwnA env σ a := ⟨i, xs, e, s⟩
  obtain ⟨u, eH, wr⟩ := OwnR.at_ (show OwnR z (Clo R env σ) H xs a from r.slot i _ _ e s)
  have own : OwnA (List.set env i (.own ys)) σ = OwnA env σ := by
    funext b
    simp only [eq_iff_iff]
    constructor
    · rintro ⟨j, zs, e1, e2⟩
      by_cases q : i = j
      · subst q
        exact ⟨i, xs, e, e2⟩
      · rw [List.getElem?_set_ne q] at e1
        exact ⟨j, zs, e1, e2⟩
    · rintro ⟨j, zs, e1, e2⟩
      by_cases q : i = j
      · subst q
        exact ⟨i, ys, by rw [List.getElem?_set_self hi], e2⟩
      · exact ⟨j, zs, by rw [List.getElem?_set_ne q]; exact e1, e2⟩
  have clo : Clo R (List.set env i (.own ys)) σ = Clo R env σ := by
    funext b; unfold Clo; rw [own]
  have ca : Clo R env σ a := .inr oa
  refine ⟨by rw [List.length_set]; exact r.len, fun j t o e1 e2 => ?_, fun j k b zs ts e1 e2 e3 e4 => ?_, fun b m => r.mx b (by rwa [own] at m), fun b m => r.own0 b (by rwa [own] at m), fun b m => ?_, r.keep.updNewW (r.own0 a oa) (r.own_nobox oa) wr eH, r.box.upd (r.own_nobox oa), r.bxM, fun p hp => by rw [clo]; exact Rep.updW ca wr eH p.1 (r.pins p hp)⟩
  · rw [clo]
    by_cases q : i = j
    · subst q
      rw [List.getElem?_set_self hi] at e1
      cases e1
      rw [s] at e2
      cases e2
      exact hw
    · rw [List.getElem?_set_ne q] at e1
      have h := r.slot j t o e1 e2
      match t, o, h with
      | .emp, _, _ => trivial
      | .val x, some v, h => exact Rep.updW ca wr eH x h
      | .own zs, some (.ref b), h => exact OwnR.updW ca wr eH (fun q' => by subst q'; exact q (r.uniq i j b xs zs e e1 s e2)) h
  · have back : ∀ (j : Nat) (zs : OL), (List.set env i (Slot.own ys))[j]? = some (Slot.own zs) → ∃ zs', env[j]? = some (Slot.own zs') := fun j zs e1 => by
      by_cases q : i = j
      · subst q; exact ⟨xs, e⟩
      · rw [List.getElem?_set_ne q] at e1; exact ⟨zs, e1⟩
    obtain ⟨z1, f1⟩ := back j zs e1
    obtain ⟨z2, f2⟩ := back k ts e2
    exact r.uniq j k b z1 z2 f1 f2 e3 e4
  · by_cases q : b = a
    · rw [q, upd_same]; simp
    · rw [upd_ne q]; exact r.trk b m
theorem Rel.updOwn (r : Rel z R env σ H) {i : Nat} {xs ys : List Val} {a : Addr} {ws : List V} (e : env[i]? = some (.own (.l xs))) (s : σ[i]? = some (some (.ref a))) (hw : Reps z (Clo R env σ) H ys ws) (hl : ys.length ≤ sizeMax) : Rel z R (List.set env i (.own (.l ys))) σ (L2.upd H a (.lst ws)) := by
  obtain ⟨us, eH, _, _⟩ : ∃ vs, H a = some (.lst vs) ∧ Reps z (Clo R env σ) H xs vs ∧ xs.length ≤ sizeMax := r.slot i _ _ e s
  exact r.updOwnR e s ⟨ws, upd_same, Reps.upd (.inr ⟨i, .l xs, e, s⟩) eH ys hw, hl⟩
/-- a closed new list is owned -/
theorem Rel.ownN {N : AS} {a : Addr} {i : Nat} {xs : List Val} {vs : List V} (r : Rel z (R.add fun b => b = a ∨ N b) env σ H) (hN : ¬ N a) (hM : ¬ R.Mx a) (h0 : R.H0 a = none) (hb : ∀ b, z.Box b → R.Mx b) (hl : xs.length ≤ sizeMax) (ha : H a = some (.lst vs)) (hx : Reps z (fun b => (Clo R env σ b ∨ N b) ∨ b = a) H xs vs) :
    Rel z (R.add N) (List.set env i (.own (.l xs))) (List.set σ i (some (.ref a))) H := by
  have na : ¬ OwnA env σ a := fun o => r.mx a o (.inr (.inl rfl))
  have own : ∀ b, OwnA (List.set env i (.own (.l xs))) (List.set σ i (some (.ref a))) b → OwnA env σ b ∨ b = a := fun b ⟨j, ys, e1, e2⟩ => by
    by_cases hj : i = j
    · subst hj
      rw [List.getElem?_set] at e2
      simp only [if_true] at e2
      split at e2
      · cases e2; exact .inr rfl
      · cases e2
    · rw [List.getElem?_set_ne hj] at e1 e2
      exact .inl ⟨j, ys, e1, e2⟩
  have sub : ∀ b, Clo (R.add N) (List.set env i (.own (.l xs))) (List.set σ i (some (.ref a))) b → (Clo R env σ b ∨ N b) ∨ b = a := fun b m => by
    rcases m with (m | m) | m
    · exact .inl (.inl (.inl m))
    · exact .inl (.inr m)
    · rcases own b m with m | m
      · exact .inl (.inl (.inr m))
      · exact .inr m
  have sub2 : ∀ b, Clo (R.add N) (List.set env i (.own (.l xs))) (List.set σ i (some (.ref a))) b → Clo (R.add fun b => b = a ∨ N b) env σ b := fun b m => by
    rcases sub b m with (m | m) | m
    · exact m.imp .inl id
    · exact .inl (.inr (.inr m))
    · exact .inl (.inr (.inl m))
  refine ⟨by rw [List.length_set, List.length_set]; exact r.len, fun j s o e1 e2 => ?_, fun j k b ys zs e1 e2 e3 e4 => ?_, fun b m q => ?_, fun b m => ?_, fun b m => ?_, r.keep, r.box, fun b q => .inl (hb b q), fun p hp => Rep.less sub2 p.1 (r.pins p hp)⟩
  · by_cases hj : i = j
    · subst hj
      rw [List.getElem?_set] at e1 e2
      simp only [if_true] at e1 e2
      split at e1
      · split at e2
        · cases e1; cases e2
          exact ⟨vs, ha, Reps.less sub xs hx, hl⟩
        · cases e2
      · cases e1
    · rw [List.getElem?_set_ne hj] at e1 e2
      have h := r.slot j s o e1 e2
      match s, o, h with
      | .emp, _, _ => trivial
      | .val x, some v, h => exact Rep.less sub2 x h
      | .own ys, some (.ref b), h => exact OwnR.less sub2 h
  · by_cases h1 : i = j
    · by_cases h2 : i = k
      · rw [← h1, ← h2]
      · exfalso
        subst h1
        rw [List.getElem?_set] at e3
        simp only [if_true] at e3
        split at e3
        · cases e3
          rw [List.getElem?_set_ne h2] at e2 e4
          exact na ⟨k, zs, e2, e4⟩
        · cases e3
    · by_cases h2 : i = k
      · exfalso
        subst h2
        rw [List.getElem?_set] at e4
        simp only [if_true] at e4
        split at e4
        · cases e4
          rw [List.getElem?_set_ne h1] at e1 e3
          exact na ⟨j, ys, e1, e3⟩
        · cases e4
      · rw [List.getElem?_set_ne h1] at e1 e3
        rw [List.getElem?_set_ne h2] at e2 e4
        exact r.uniq j k b ys zs e1 e2 e3 e4
  · rcases own b m with m | m
    · rcases q with q | q
      · exact r.mx b m (.inl q)
      · exact r.mx b m (.inr (.inr q))
    · subst m
      rcases q with q | q
      · exact hM q
      · exact hN q
  · rcases own b m with m | m
    · exact r.own0 b m
    · rw [m]; exact h0
  · rcases m with m | m
    · exact r.trk b (.inl m)
    · exact r.trk b (.inr (.inr m))
theorem add_false (R : Fr) : R.add (fun _ => False) = R := by
  unfold Fr.add
  simp only [or_false]
def setAll (σ : St) : List Nat → List V → St
  | i :: is, v :: vs => setAll (List.set σ i (some v)) is vs
  | _, _ => σ
theorem own_set2 {i : Nat} {xs : OL} {a b : Addr} (h : OwnA (List.set env i (.own xs)) (List.set σ i (some (.ref a))) b) : OwnA env σ b ∨ b = a := by
  obtain ⟨j, ys, e1, e2⟩ := h
  by_cases hj : i = j
  · subst hj
    rw [List.getElem?_set] at e2
    simp only [if_true] at e2
    split at e2
    · cases e2; exact .inr rfl
    · cases e2
  · rw [List.getElem?_set_ne hj] at e1 e2
    exact .inl ⟨j, ys, e1, e2⟩
/-- slots are bound to results -/
theorem Rel.bindAll {O : AS} {Hs : Hp} (hM : ∀ a, R.Mx a → Hs a ≠ none) (h0 : ∀ a, Hs a = none → R.H0 a = none) (hb : ∀ b, z.Box b → R.Mx b) : ∀ {is : List Nat} {rs : List Rv} {vs : List V} {env env' : Env} {σ : St}, Rel z (R.add (NewA rs vs)) env σ H → RepRs z (Clo R env σ) O Hs H rs vs → bindSs env is rs = some env' →
    Rel z R env' (setAll σ is vs) H
  | [], [], vs, env, env', σ, rel, r, e => by
    have r : vs = [] := r
    subst r
    simp only [bindSs, Option.some.injEq] at e
    subst e
    have : R.add (NewA [] []) = R := add_false R
    rw [this] at rel
    exact rel
  | [], _ :: _, vs, env, env', σ, rel, r, e => by simp [bindSs] at e
  | i :: is, [], vs, env, env', σ, rel, r, e => by simp [bindSs] at e
  | i :: is, rv :: rs, vs, env, env', σ, rel, r, e => by
    obtain ⟨v, ws, rfl, r1, r2, r3⟩ := r
    simp only [bindSs, Option.bind_eq_some_iff] at e
    obtain ⟨env1, e1, e2⟩ := e
    unfold bindS at e1
    split at e1
    · split at e1
      · rename_i x
        cases e1
        have en : NewA (.v x :: rs) (v :: ws) = NewA rs ws := by
          funext a
          simp [NewA]
        rw [en] at rel
        have rel2 := rel.set (i := i) (x := x) (v := v) (by rw [clo_add]; exact r1)
        show Rel z R env' (setAll (List.set σ i (some v)) is ws) H
        refine Rel.bindAll hM h0 hb rel2 (r2.less (fun a q => q) fun a m => ?_) e2
        rcases m with m | m
        · exact .inl (.inl m)
        · exact .inl (.inr (own_set m).1)
      · rename_i xs
        cases e1
        obtain ⟨l, a, us, rfl, ha, hH, hx⟩ := r1
        have en : NewA (.new xs :: rs) (.ref a :: ws) = fun b => b = a ∨ NewA rs ws b := by
          funext b
          simp only [NewA, eq_iff_iff]
          constructor
          · rintro (⟨_, e⟩ | e)
            · cases e; exact .inl rfl
            · exact .inr e
          · rintro (e | e)
            · exact .inl ⟨⟨xs, rfl⟩, by rw [e]⟩
            · exact .inr e
        rw [en] at rel
        have rel2 := rel.ownN (i := i) (r3 a ⟨⟨xs, rfl⟩, rfl⟩) (fun m => hM a m ha) (h0 a ha) hb l hH hx
        show Rel z R env' (setAll (List.set σ i (some (.ref a))) is ws) H
        refine Rel.bindAll hM h0 hb rel2 (r2.less (fun a q => q) fun b m => ?_) e2
        rcases m with m | m
        · exact .inl (.inl m)
        · rcases own_set2 m with m | m
          · exact .inl (.inr m)
          · exact .inr ⟨⟨xs, rfl⟩, by rw [m]⟩
      · cases e1
    · cases e1
/-- all at once, behind an evaluation -/
theorem Rel.binds (rel : Rel z R env σ H) (k : Keeps z H H') {is : List Nat} {rs : List Rv} {vs : List V} {env' : Env} (r : RepRs z (Clo R env σ) (OwnA env σ) H H' rs vs) (e : bindSs env is rs = some env') : Rel z R env' (setAll σ is vs) H' :=
  Rel.bindAll (Hs := H) rel.trk (fun a q => rel.keep.trk a q) rel.bxM (rel.closeNew k _ fun a m => NewA.fresh (M := fun _ => False) (O := OwnA env σ) r a m) r e
theorem RepR.toRs {M O : AS} {r : Rv} {v : V} (h : RepR z M O H H' r v) : RepRs z M O H H' [r] [v] := by
  refine ⟨v, [], rfl, ?_, rfl, fun a _ q => q⟩
  have : (fun a => M a ∨ NewA [] [] a) = M := by funext a; simp [NewA]
  rw [this]; exact h
theorem Rel.bind (rel : Rel z R env σ H) (k : Keeps z H H') {i : Nat} {r : Rv} {v : V} {env' : Env} (h : RepR z (Clo R env σ) (OwnA env σ) H H' r v) (e : bindS env i r = some env') : Rel z R env' (List.set σ i (some v)) H' :=
  rel.binds k (is := [i]) h.toRs (by simp [bindSs, e])
/-! ### ghosts -/
theorem Rel.freeze (r : Rel z R env σ H) {i : Nat} {xs : List Val} (e : env[i]? = some (.own (.l xs))) : Rel z R (List.set env i (.val (.lst xs))) σ H := by
  have hi : i < env.length := (List.getElem?_eq_some_iff.mp e).1
  have own : ∀ b, OwnA (List.set env i (.val (.lst xs))) σ b → OwnA env σ b ∧ σ[i]? ≠ some (some (.ref b)) := fun b ⟨j, ys, e1, e2⟩ => by
    by_cases q : i = j
    · subst q
      rw [List.getElem?_set_self hi] at e1
      cases e1
    · rw [List.getElem?_set_ne q] at e1
      exact ⟨⟨j, ys, e1, e2⟩, fun e3 => q (r.uniq i j b (.l xs) ys e e1 e3 e2)⟩
  have sub : ∀ b, Clo R (List.set env i (.val (.lst xs))) σ b → Clo R env σ b := fun b m => m.imp id fun m => (own b m).1
  refine ⟨by rw [List.length_set]; exact r.len, fun j s o e1 e2 => ?_, fun j k b ys zs e1 e2 e3 e4 => ?_, fun b m => r.mx b (own b m).1, fun b m => r.own0 b (own b m).1, r.trk, r.keep, r.box, r.bxM, fun p hp => Rep.less sub p.1 (r.pins p hp)⟩
  · by_cases q : i = j
    · subst q
      rw [List.getElem?_set_self hi] at e1
      cases e1
      have h := r.slot i _ _ e e2
      match o, h with
      | some (.ref a), h =>
        obtain ⟨vs, e3, w, l⟩ := h
        simp only [RelSlot, Rep]
        refine ⟨l, a, vs, rfl, e3, fun m => ?_, Reps.less sub xs w⟩
        rcases m with m | m
        · exact r.mx a ⟨i, .l xs, e, e2⟩ m
        · exact (own a m).2 e2
    · rw [List.getElem?_set_ne q] at e1
      have h := r.slot j s o e1 e2
      match s, o, h with
      | .emp, _, _ => trivial
      | .val x, some v, h => exact Rep.less sub x h
      | .own ys, some (.ref b), h => exact OwnR.less sub h
  · have n1 : i ≠ j := fun q => by subst q; rw [List.getElem?_set_self hi] at e1; cases e1
    have n2 : i ≠ k := fun q => by subst q; rw [List.getElem?_set_self hi] at e2; cases e2
    rw [List.getElem?_set_ne n1] at e1
    rw [List.getElem?_set_ne n2] at e2
    exact r.uniq j k b ys zs e1 e2 e3 e4
theorem Rel.forget (r : Rel z R env σ H) (is : List Nat) : Rel z R (wipeE env is) σ H := by
  have own : ∀ b, OwnA (wipeE env is) σ b → OwnA env σ b := fun b ⟨j, ys, e1, e2⟩ => by
    have m : j ∉ is := fun m => by cases wipeE_at env is j m _ e1
    rw [wipeE_ne env is j m] at e1
    exact ⟨j, ys, e1, e2⟩
  have sub : ∀ b, Clo R (wipeE env is) σ b → Clo R env σ b := fun b m => m.imp id (own b)
  refine ⟨by rw [wipeE_len]; exact r.len, fun j s o e1 e2 => ?_, fun j k b ys zs e1 e2 e3 e4 => ?_, fun b m => r.mx b (own b m), fun b m => r.own0 b (own b m), r.trk, r.keep, r.box, r.bxM, fun p hp => Rep.less sub p.1 (r.pins p hp)⟩
  · by_cases m : j ∈ is
    · have := wipeE_at env is j m _ e1
      subst this; trivial
    · rw [wipeE_ne env is j m] at e1
      have h := r.slot j s o e1 e2
      match s, o, h with
      | .emp, _, _ => trivial
      | .val x, some v, h => exact Rep.less sub x h
      | .own ys, some (.ref b), h => exact OwnR.less sub h
  · have m1 : j ∉ is := fun m => by cases wipeE_at env is j m _ e1
    have m2 : k ∉ is := fun m => by cases wipeE_at env is k m _ e2
    rw [wipeE_ne env is j m1] at e1
    rw [wipeE_ne env is k m2] at e2
    exact r.uniq j k b ys zs e1 e2 e3 e4
end
end MP
end
section
set_option Elab.async false
set_option linter.all false
set_option autoImplicit false
set_option maxRecDepth 100000
set_option maxHeartbeats 8000000
/-! MPComp: comprehensions. -/
namespace MP
open PySem PySem.Spec PyProof.Rows L2
section
variable {z : Zx} {c : Ctx}
theorem clo_set {R : Fr} {env env2 : Env} {σ σ2 : St} {vs : List Nat} {tg : Tg} {x : Val} (no : noOwn env vs = true) (sl : ∀ j ∈ tg.slots, j ∈ vs) (e : tg.set x (wipeE env vs) = some env2)
    (o : ∀ j : Nat, j ∉ tg.slots → σ2[j]? = (L2.wipe σ vs)[j]?) (cl : ∀ a, Clo R env2 σ2 a → Clo R (wipeE env vs) (L2.wipe σ vs) a) : Clo R env2 σ2 = Clo R env σ ∧ OwnA env2 σ2 = OwnA env σ := by
  have h2 := (Tg.set_ne tg x _ _ e).2
  have up : ∀ a, OwnA env σ a → OwnA env2 σ2 a := fun a q => by
    obtain ⟨i, ys, e1, e2⟩ := (own_wipe no a).mpr q
    have m : i ∉ vs := fun m => by cases wipeE_at env vs i m _ e1
    exact ⟨i, ys, by rw [h2 i fun q => m (sl i q)]; exact e1, by rw [o i fun q => m (sl i q)]; exact e2⟩
  have dn : ∀ a, OwnA env2 σ2 a → OwnA env σ a := fun a ⟨i, ys, e1, e2⟩ => by
    by_cases m : i ∈ tg.slots
    · exfalso
      exact Tg.set_val tg x _ _ e i m _ e1
    · rw [h2 i m] at e1
      rw [o i m] at e2
      exact (own_wipe no a).mp ⟨i, ys, e1, e2⟩
  constructor
  · funext a
    simp only [Clo, eq_iff_iff]
    exact ⟨fun q => q.imp id (dn a), fun q => q.imp id (up a)⟩
  · funext a
    simp only [eq_iff_iff]
    exact ⟨dn a, up a⟩
def GI (z : Zx) (R : Fr) (pins : List (Val × V)) (env : Env) (σ : St) (Hs : Hp) (D : Addr) (acc : List Val) (H : Hp) : Prop := (Rel z R env σ H ∧ ∀ p ∈ pins, Pn z R.Mx (Clo R env σ) H p) ∧ Keeps z Hs H ∧ ∃ av, H D = some (.lst av) ∧ Reps z (Clo R env σ) H acc av
theorem loopC {J : L2.It} {xs : List Val} {pins : List (Val × V)} {R : Fr} {env : Env} {σ : St} {Hs H0 : Hp} {D : Addr} {tg : Tg} {vs : List Nat} {test : Env → Mem → T (Bool × Mem)} {elt : E} {tt : TT} {acc0 : List Val} {h0 : Mem} {Fin : Hp → Prop} {I : Hp → Prop} (hI1 : ∀ H H', I H → Keeps z H H' → I H') (hI2 : ∀ H us ws, I H → H D = some (.lst us) → I (upd H D (.lst ws)))
    (src : Src z J xs pins) (hD : R.Mx D) (hR : R.H0 D = none) (hs : Hs D = none) (nb : ¬ z.Box D) (no : noOwn env vs = true) (sl : ∀ j ∈ tg.slots, j ∈ vs)
    (htt : ∀ (R : Fr) (env : Env) (σ : St) (H : Hp) (h : Mem) (K : Bool → Hp → Prop), Rel z R env σ H → (test env h).wp (fun p => ∀ H', Keeps z H H' → K p.1 H') → tt σ H K)
    (w : (compL (fun x => tg.set x (wipeE env vs)) test (fun e h => ev c elt e h) xs h0).wp fun r => (acc0 ++ r.1).length ≤ sizeMax ∧ ∀ H, GI z R pins env σ Hs D (acc0 ++ r.1) H → I H → Fin H) (gi : GI z R pins env σ Hs D acc0 H0) (i0 : I H0) :
    ∃ W : Nat → Nat → Hp → Prop, (∃ m, W 0 m H0) ∧ ∀ i m H, W i m H → (J.stop i H ∧ Fin H) ∨ (J.go i H ∧ ∃ Nx : Hp → Prop, (∀ H', Nx H' → ∃ m', m' < m ∧ W (i + 1) m' H') ∧ ∀ x H', J.yld i H x H' → tG z tg x (L2.wipe σ vs) H' fun σ2 H2 => L2.wipe σ2 vs = L2.wipe σ vs ∧ tt σ2 H2 fun b H3 =>
      if b = true then tE z c elt σ2 H3 fun y H4 => ∃ acc, H4 D = some (.lst acc) ∧ acc.length < sizeLine ∧ Nx (upd H4 D (.lst (acc ++ [y]))) else Nx H3) := by
  refine ⟨fun i m H => m = xs.length - i ∧ i ≤ xs.length ∧ ∃ acc h, GI z R pins env σ Hs D acc H ∧ I H ∧ (compL (fun x => tg.set x (wipeE env vs)) test (fun e h => ev c elt e h) (xs.drop i) h).wp fun r => (acc ++ r.1).length ≤ sizeMax ∧ ∀ H, GI z R pins env σ Hs D (acc ++ r.1) H → I H → Fin H,
    ⟨xs.length, by omega, Nat.zero_le _, acc0, h0, gi, i0, by simpa using w⟩, fun i m H ⟨hm, hi, acc, h, gi, iH, w⟩ => ?_⟩
  have hpin : ∀ p ∈ pins, Pn z R.Mx (Clo R env σ) H p := gi.1.2
  by_cases hlt : i < xs.length
  · refine .inr ⟨src.go i _ _ H hpin hlt, fun H' => ((xs.length - i - 1) = xs.length - (i + 1) ∧ i + 1 ≤ xs.length ∧ ∃ acc h, GI z R pins env σ Hs D acc H' ∧ I H' ∧ (compL (fun x => tg.set x (wipeE env vs)) test (fun e h => ev c elt e h) (xs.drop (i + 1)) h).wp fun r => (acc ++ r.1).length ≤ sizeMax ∧ ∀ H, GI z R pins env σ Hs D (acc ++ r.1) H → I H → Fin H),
      fun H' q => ⟨xs.length - i - 1, by omega, q⟩, fun v H' hy => ?_⟩
    obtain ⟨⟨rel, _⟩, ks, av, eD, ra⟩ := gi
    obtain ⟨sm, x, ex, rx⟩ := src.yld i _ _ H v H' rel.ok hpin hlt hy
    have k1 : Keeps z H H' := .same sm
    have rel1 := rel.of_keeps k1
    have ed : xs.drop i = x :: xs.drop (i + 1) := by
      rw [List.drop_eq_getElem_cons hlt]
      rw [List.getElem?_eq_getElem hlt] at ex
      rw [Option.some.inj ex]
    rw [ed] at w
    simp only [compL] at w
    obtain ⟨env2, e2, w⟩ := wp_opt w
    refine ⟨R, wipeE env vs, x, env2, rel1.wipe no, by rw [clo_wipe no]; exact rx, e2, fun σ2 r2 l2 o2 c2 => ⟨?_, ?_⟩⟩
    · have l : σ2.length = (L2.wipe σ vs).length := l2
      rw [wipe_congr (σ := L2.wipe σ vs) l fun j hj => o2 j fun q => hj (sl j q)]
      exact wipe_congr (wipe_length σ vs) fun j hj => wipe_ne σ vs j hj
    obtain ⟨hc, ho⟩ := clo_set no sl e2 o2 c2
    rw [T.wp_bind] at w
    refine htt R env2 σ2 H' h _ r2 (T.wp_mono w fun p wp H3 k3 => ?_)
    have rel3 := rel1.of_keeps k3
    have ks3 := (ks.trans k1).trans k3
    have eD3 : H3 D = some (.lst av) := k3.at_ D _ (k1.at_ D _ eD nb) nb
    have ra3 : Reps z (Clo R env σ) H3 acc av := Reps.mono rel1.box k3 rel1.bxC (fun a m => .inl m) _ (Reps.mono rel.box k1 rel.bxC (fun a m => .inl m) _ ra)
    have iH3 : I H3 := hI1 _ _ (hI1 _ _ iH k1) k3
    have pn3 : ∀ q ∈ pins, Pn z R.Mx (Clo R env σ) H3 q := fun q m => Pn.mono rel1.box k3 rel1.bxC rel1.bxM (fun a m => .inl m) (fun a m => .inl m) (Pn.mono rel.box k1 rel.bxC rel.bxM (fun a m => .inl m) (fun a m => .inl m) (hpin q m))
    cases hb : p.1 with
    | false =>
      rw [if_neg (by decide)]
      rw [hb] at wp
      exact ⟨by omega, by omega, acc, p.2, ⟨⟨rel3, pn3⟩, ks3, av, eD3, ra3⟩, iH3, wp⟩
    | true =>
      rw [if_pos rfl]
      rw [hb] at wp
      simp only [] at wp
      rw [T.wp_bind] at wp
      refine ⟨R, env2, p.2, r2.of_keeps k3, T.wp_mono wp fun q wq y H4 k4 ry => ?_⟩
      obtain ⟨yv, ey, wq⟩ := wp_opt wq
      rw [T.wp_bind] at wq
      rw [hc] at ry
      have ry := ry.store rel3.trkC ey
      have rel4 := rel3.of_keeps k4
      have eD4 := k4.at_ D _ eD3 nb
      have pn4 : ∀ q ∈ pins, Pn z R.Mx (Clo R env σ) H4 q := fun q m => Pn.mono rel3.box k4 rel3.bxC rel3.bxM (fun a m => .inl m) (fun a m => .inl m) (pn3 q m)
      have ra4 : Reps z (Clo R env σ) H4 acc av := Reps.mono rel3.box k4 rel3.bxC (fun a m => .inl m) _ ra3
      have wq : ((compL (fun x => tg.set x (wipeE env vs)) test (fun e h => ev c elt e h) (xs.drop (i + 1)) q.2).wp fun r => ((acc ++ [yv]) ++ r.1).length ≤ sizeMax ∧ ∀ H, GI z R pins env σ Hs D ((acc ++ [yv]) ++ r.1) H → I H → Fin H) := by
        refine T.wp_mono wq fun r hr => ?_
        simp only [T.wp, List.append_assoc, List.cons_append, List.nil_append] at hr ⊢
        exact hr
      obtain ⟨r, hr, _⟩ := T.wp_ex wq
      refine ⟨av, eD4, ?_, by omega, by omega, acc ++ [yv], q.2, ⟨⟨rel4.upd hD eD4 hR nb, fun q m => Pn.upd hD (.inl hD) eD4 (pn4 q m)⟩, (ks3.trans k4).updNew hs nb eD4, av ++ [y], upd_same, ?_⟩, hI2 _ _ _ (hI1 _ _ iH3 k4) eD4, wq⟩
      · rw [ra.length, sizeMax_eq]
        simp only [List.length_append, List.length_cons, List.length_nil] at hr
        omega
      · exact Reps.upd (.inl hD) eD4 _ (ra4.append (Reps.cons ry Reps.nil))
  · have e : i = xs.length := by omega
    subst e
    rw [List.drop_length] at w
    simp only [compL, T.wp, List.append_nil] at w
    exact .inl ⟨src.stop _ _ H hpin, w.2 H gi iH⟩
theorem compL_len {st : Val → Option Env} {test : Env → Mem → T (Bool × Mem)} {elt : Env → Mem → T (Rv × Mem)} : ∀ {xs : List Val} {h : Mem} {Q : List Val × Mem → Prop}, (compL st test elt xs h).wp Q → (compL st test elt xs h).wp fun r => r.1.length ≤ xs.length ∧ Q r
  | [], h, Q, w => ⟨Nat.le_refl _, w⟩
  | x :: xs, h, Q, w => by
    simp only [compL] at w ⊢
    cases e : st x with
    | none => rw [e] at w; exact w.elim
    | some env =>
      rw [e] at w
      simp only [T.opt] at w ⊢
      rw [T.wp_bind] at w ⊢
      refine T.wp_mono w fun p wp => ?_
      cases hb : p.1 with
      | false =>
        rw [hb] at wp
        exact T.wp_mono (compL_len (xs := xs) wp) fun r hr => ⟨Nat.le_succ_of_le hr.1, hr.2⟩
      | true =>
        rw [hb] at wp
        simp only [] at wp ⊢
        rw [T.wp_bind] at wp ⊢
        refine T.wp_mono wp fun q wq => ?_
        cases e2 : q.1.store with
        | none => rw [e2] at wq; exact wq.elim
        | some y =>
          rw [e2] at wq
          simp only [T.opt] at wq ⊢
          rw [T.wp_bind] at wq ⊢
          exact T.wp_mono (compL_len (xs := xs) wq) fun r hr => ⟨Nat.succ_le_succ hr.1, hr.2⟩

theorem noSet_fold {e : Expr} (h : noSet e = true) (env : PySem.Env) (x : Value) : foldedSetIterable e env x = pure x := by
  cases e <;> first | rfl | cases h
theorem ownOf_map (N : List Str) : ∀ own : List Nat, (ownOf N own).map (·.2) = own
  | [] => rfl
  | i :: is => by
    have := ownOf_map N is
    unfold ownOf at this ⊢
    simp only [List.map_cons, this]
/-- behind the start of a comprehension -/
theorem Rel.startO (o : HO) {R : Fr} {env : Env} {σ : St} {H H1 : Hp} {D : Addr} {pins : List (Val × V)} (rel : Rel z R env σ H) (k1 : Keeps z H H1) (hD : H1 D = none) (hp : ∀ q ∈ pins, Pn z R.Mx (Clo R env σ) H1 q) :
    (Rel z (R.add fun a => a = D) env σ (L2.upd H1 D o) ∧ ∀ q ∈ pins, Pn z (R.add fun a => a = D).Mx (Clo (R.add fun a => a = D) env σ) (L2.upd H1 D o) q) ∧ (Clo (R.add fun a => a = D) env σ = fun a => Clo R env σ a ∨ a = D) ∧ R.H0 D = none ∧ H D = none ∧ ¬ z.Box D := by
  have rel1 := rel.of_keeps k1
  have c := clo_add R (fun a => a = D) env σ
  refine ⟨⟨rel1.closeNew (Keeps.new hD) _ fun a e => by rw [e]; exact ⟨hD, by rw [upd_same]; simp⟩, fun p m => ?_⟩, c, rel1.keep.trk D hD, k1.trk D hD, fun b => rel1.trkC D (rel1.bxC D b) hD⟩
  rw [c]
  exact Pn.mono rel1.box (Keeps.new hD) rel1.bxC rel1.bxM (fun a m => m.imp id fun e => by rw [e]; exact hD) (fun a m => m.imp id fun e => by rw [e]; exact hD) (hp p m)
theorem Rel.start {R : Fr} {env : Env} {σ : St} {H H1 : Hp} {D : Addr} {pins : List (Val × V)} (rel : Rel z R env σ H) (k1 : Keeps z H H1) (hD : H1 D = none) (hp : ∀ q ∈ pins, Pn z R.Mx (Clo R env σ) H1 q) :
    (Rel z (R.add fun a => a = D) env σ (L2.upd H1 D (.lst [])) ∧ ∀ q ∈ pins, Pn z (R.add fun a => a = D).Mx (Clo (R.add fun a => a = D) env σ) (L2.upd H1 D (.lst [])) q) ∧ (Clo (R.add fun a => a = D) env σ = fun a => Clo R env σ a ∨ a = D) ∧ R.H0 D = none ∧ H D = none ∧ ¬ z.Box D := rel.startO (.lst []) k1 hD hp
variable {X : Cx} {cx : Chk} {n : Nat}
theorem lcImp {σ : St} {H : Hp} {Q : VK} {elt : E} {tg : Tg} {it : It} {cs : Es} {own : List Nat} {tt : TT} (hsl : tg.slots.all (fun j => own.contains j) = true)
    (htt : ∀ (R : Fr) (env : Env) (σ : St) (H : Hp) (h : Mem) (K : Bool → Hp → Prop), Rel z R env σ H → (evc c cs env h).wp (fun p => ∀ H', Keeps z H H' → K p.1 H') → tt σ H K) (w : tE z c (.comp elt tg it cs own) σ H Q) : tLc (tIt z c true it) (tG z tg) tt (tE z c elt) own σ H Q := by
  obtain ⟨R, env, h, rel, w⟩ := w
  simp only [ev] at w
  obtain ⟨no, w⟩ := wp_iff w
  rw [T.wp_bind] at w
  refine ⟨R, env, h, rel, T.wp_mono w fun p wp J pins H1 k1 src hl hp D hD => ?_⟩
  rw [T.wp_bind] at wp
  obtain ⟨rel', hc, hR, hs, nb⟩ := rel.start k1 hD hp
  refine loopC (R := R.add fun a => a = D) (I := fun _ => True) (Hs := H) (fun _ _ _ _ => trivial) (fun _ _ _ _ _ => trivial) src (.inr rfl) hR hs nb no (fun j hj => by simpa using List.all_eq_true.mp hsl j hj) htt
    (acc0 := []) (T.wp_mono (compL_len wp) fun r ⟨l, hr⟩ => ⟨by simp only [List.nil_append]; omega, fun H3 ⟨rel3, ks3, av, eD, ra⟩ _ => ?_⟩) ⟨rel', k1.trans (Keeps.new hD), [], upd_same, Reps.nil⟩ trivial
  rw [hc] at ra
  exact hr (.ref D) H3 ks3 ⟨by show r.1.length ≤ sizeMax; omega, D, av, rfl, hs, eD, ra⟩
theorem sComp (g : Good X z cx c n) {x t i : Expr} {ifs : List Expr} {scope : Scope} {pos : Pos} {elt : E} {tg : Tg} {it : It} {cs : Es} {own : List Nat} {tt : TT}
    (hb : blkC cx.N cx.sc scope (ownOf cx.N own) = true) (hi : PI X t i (tIt z c true it)) (hn : noSet i = true) (hsl : tg.slots.all (fun j => own.contains j) = true)
    (hg : ∀ (s : Shared) (H : Hp) (C : Addr) (cl : List (Str × Addr)) (fp : List Addr), PG (X.blk s H scope (compEnvC scope cl C X.env) fp) t (tG z tg))
    (ht : ∀ (s : Shared) (H : Hp) (C : Addr) (cl : List (Str × Addr)) (fp : List Addr), PTs (X.blk s H scope (compEnvC scope cl C X.env) fp) ifs tt)
    (he : ∀ (s : Shared) (H : Hp) (C : Addr) (cl : List (Str × Addr)) (fp : List Addr), PE (X.blk s H scope (compEnvC scope cl C X.env) fp) x (tE z c elt))
    (htt : ∀ (R : Fr) (env : Env) (σ : St) (H : Hp) (h : Mem) (K : Bool → Hp → Prop), Rel z R env σ H → (evc c cs env h).wp (fun p => ∀ H', Keeps z H H' → K p.1 H') → tt σ H K) :
    PE X (.ListComp x [⟨t, i, ifs, 0⟩] scope pos) (tE z c (.comp elt tg it cs own)) := by
  have ok : BlkOk X.N X.env.scope scope (ownOf cx.N own) := by rw [g.tg.N, g.tg.sc]; exact blkOk_by hb
  have base := pe_lc (pos := pos) g.tg.calm g.tg.nd hi ok hg ht he (fun x => noSet_fold hn X.env x)
  rw [ownOf_map] at base
  exact PE.imp base fun σ H Q w => lcImp hsl htt w
theorem lc2Imp {σ : St} {H : Hp} {Q : VK} {elt : E} {tg tg2 : Tg} {it it2 : It} {own : List Nat} (hsl : tg.slots.all (fun j => own.contains j) = true) (hsl2 : tg2.slots.all (fun j => own.contains j) = true) (hdj : tg.slots.all (fun j => !tg2.slots.contains j) = true)
    (w : tE z c (.comp2 elt tg it tg2 it2 own) σ H Q) : tLc2 (tIt z c true it) (tG z tg) tYes (tIt z c true it2) (tG z tg2) tYes (tE z c elt) own tg2.slots σ H Q := by
  have s1 : ∀ j ∈ tg.slots, j ∈ own := fun j hj => by simpa using List.all_eq_true.mp hsl j hj
  have s2 : ∀ j ∈ tg2.slots, j ∈ own := fun j hj => by simpa using List.all_eq_true.mp hsl2 j hj
  obtain ⟨R, env, h, rel, w⟩ := w
  simp only [ev] at w
  obtain ⟨no, w⟩ := wp_iff w
  rw [T.wp_bind] at w
  refine ⟨R, env, h, rel, T.wp_mono w fun p wp J pins H1 k1 src hl hp D hD => ?_⟩
  rw [T.wp_bind] at wp
  obtain ⟨rel', hc, hR, hs, nb⟩ := rel.start k1 hD hp
  generalize hR' : (R.add fun a => a = D) = R' at rel' hc
  have hDx : R'.Mx D := by rw [← hR']; exact .inr rfl
  have hR : R'.H0 D = none := by rw [← hR']; exact hR
  generalize hS : (fun x => tg.set x (wipeE env own)) = S at wp
  generalize hN : (fun (e : Env) (h : Mem) => (evit c true it2 e h).bind fun p2 => compL (fun x => tg2.set x e) (fun _ h => T.ret (true, h)) (fun e h => ev c elt e h) p2.1 p2.2) = N at wp
  have w0 : (compL2 S N p.1 p.2).wp fun r => ([] ++ r.1).length ≤ sizeMax ∧ ∀ H, GI z R' pins env σ H D ([] ++ r.1) H → True := T.wp_mono wp fun r hr => ⟨by
    have := (wp_iff hr).1
    simpa using this, fun _ _ => trivial⟩
  clear w0
  have w1 : (compL2 S N p.1 p.2).wp fun r => ([] ++ r.1).length ≤ sizeMax ∧ ∀ H3, GI z R' pins env σ H D ([] ++ r.1) H3 → Q (.ref D) H3 := T.wp_mono wp fun r hr => by
    obtain ⟨l, hr⟩ := wp_iff hr
    have l : r.1.length ≤ sizeMax := by simpa using l
    refine ⟨l, fun H3 ⟨rel3, ks3, av, eD, ra⟩ => ?_⟩
    rw [hc] at ra
    exact hr (.ref D) H3 ks3 ⟨l, D, av, rfl, hs, eD, ra⟩
  refine ⟨fun i m H3 => m = p.1.length - i ∧ i ≤ p.1.length ∧ ∃ acc h, GI z R' pins env σ H D acc H3 ∧ (compL2 S N (p.1.drop i) h).wp fun r => (acc ++ r.1).length ≤ sizeMax ∧ ∀ H3, GI z R' pins env σ H D (acc ++ r.1) H3 → Q (.ref D) H3,
    ⟨p.1.length, by omega, Nat.zero_le _, [], p.2, ⟨rel', k1.trans (Keeps.new hD), [], upd_same, Reps.nil⟩, by simpa using w1⟩, fun i m H3 ⟨hm, hi, acc, h, gi, w⟩ => ?_⟩
  have hpin : ∀ q ∈ pins, Pn z R'.Mx (Clo R' env σ) H3 q := gi.1.2
  by_cases hlt : i < p.1.length
  · refine .inr ⟨src.go i _ _ H3 hpin hlt, fun H' => ((p.1.length - i - 1) = p.1.length - (i + 1) ∧ i + 1 ≤ p.1.length ∧ ∃ acc h, GI z R' pins env σ H D acc H' ∧ (compL2 S N (p.1.drop (i + 1)) h).wp fun r => (acc ++ r.1).length ≤ sizeMax ∧ ∀ H3, GI z R' pins env σ H D (acc ++ r.1) H3 → Q (.ref D) H3),
      fun H' q => ⟨p.1.length - i - 1, by omega, q⟩, fun v H' hy => ?_⟩
    obtain ⟨⟨rel3, _⟩, ks, av, eD, ra⟩ := gi
    obtain ⟨sm, x, ex, rx⟩ := src.yld i _ _ H3 v H' rel3.ok hpin hlt hy
    have k3 : Keeps z H3 H' := .same sm
    have rel4 := rel3.of_keeps k3
    have ed : p.1.drop i = x :: p.1.drop (i + 1) := by
      rw [List.drop_eq_getElem_cons hlt]
      rw [List.getElem?_eq_getElem hlt] at ex
      rw [Option.some.inj ex]
    rw [ed] at w
    simp only [compL2] at w
    obtain ⟨env2, e2, w⟩ := wp_opt w
    rw [← hS] at e2
    refine ⟨R', wipeE env own, x, env2, rel4.wipe no, by rw [clo_wipe no]; exact rx, e2, fun σ2 r2 l2 o2 c2 => ⟨?_, ?_⟩⟩
    · have l : σ2.length = (L2.wipe σ own).length := l2
      rw [wipe_congr (σ := L2.wipe σ own) l fun j hj => o2 j fun q => hj (s1 j q)]
      exact wipe_congr (wipe_length σ own) fun j hj => wipe_ne σ own j hj
    obtain ⟨hc2, ho2⟩ := clo_set no s1 e2 o2 c2
    unfold tYes; dsimp only []
    rw [if_pos rfl]
    rw [T.wp_bind, ← hN] at w
    simp only [] at w
    rw [T.wp_bind] at w
    refine ⟨R', env2, h, r2, T.wp_mono w fun p2 w2 J1 pins1 H4 k4 src1 hl1 hp1 => ?_⟩
    have em : ∀ j ∈ tg2.slots, ∀ s, env2[j]? = some s → s = .emp := fun j hj s e => by
      have nj : j ∉ tg.slots := fun q => by
        have := List.all_eq_true.mp hdj j q
        simp [hj] at this
      rw [(Tg.set_ne tg x _ _ e2).2 j nj] at e
      exact wipeE_at env own j (s2 j hj) s e
    have we : wipeE env2 tg2.slots = env2 := by
      apply List.ext_getElem?
      intro j
      by_cases m : j ∈ tg2.slots
      · cases q : env2[j]? with
        | none =>
          rw [List.getElem?_eq_none_iff] at q ⊢
          rw [wipeE_len]; exact q
        | some s =>
          have := em j m s q
          subst this
          have hj : j < (wipeE env2 tg2.slots).length := by
            rw [wipeE_len]
            exact (List.getElem?_eq_some_iff.mp q).1
          have h5 := wipeE_at env2 tg2.slots j m _ (List.getElem?_eq_getElem hj)
          rw [List.getElem?_eq_getElem hj, h5]
      · exact wipeE_ne env2 _ j m
    have no2 : noOwn env2 tg2.slots = true := by
      unfold noOwn
      refine List.all_eq_true.mpr fun j hj => ?_
      split
      · have := em j hj _ (by assumption)
        cases this
      · rfl
    have rel5 := r2.of_keeps k4
    have eD4 : H4 D = some (.lst av) := k4.at_ D _ (k3.at_ D _ eD nb) nb
    have ra4 : Reps z (Clo R' env σ) H4 acc av := Reps.mono rel4.box k4 rel4.bxC (fun a m => .inl m) _ (Reps.mono rel3.box k3 rel3.bxC (fun a m => .inl m) _ ra)
    have pn4 : ∀ q ∈ pins, Pn z R'.Mx (Clo R' env σ) H4 q := fun q m => Pn.mono rel4.box k4 rel4.bxC rel4.bxM (fun a m => .inl m) (fun a m => .inl m) (Pn.mono rel3.box k3 rel3.bxC rel3.bxM (fun a m => .inl m) (fun a m => .inl m) (hpin q m))
    refine loopC (R := R') (I := fun H => Rel z R' env σ H ∧ ∀ q ∈ pins, Pn z R'.Mx (Clo R' env σ) H q) (Hs := H) (vs := tg2.slots) (tt := tYes) (test := fun _ h => T.ret (true, h)) (fun H H' r k => ⟨r.1.of_keeps k, fun q m => Pn.mono r.1.box k r.1.bxC r.1.bxM (fun a m => .inl m) (fun a m => .inl m) (r.2 q m)⟩) (fun H us ws r e => ⟨Rel.upd r.1 hDx e hR nb, fun q m => Pn.upd hDx (.inl hDx) e (r.2 q m)⟩) src1 hDx hR hs nb no2 (fun j hj => hj) (fun R env σ H h K r w => w H Keeps.refl)
      (acc0 := acc) (h0 := p2.2) ?_ ⟨⟨rel5, hp1⟩, (ks.trans k3).trans k4, av, eD4, by rw [hc2]; exact ra4⟩ ⟨rel4.of_keeps k4, pn4⟩
    rw [we]
    refine T.wp_mono w2 fun r hr => ?_
    rw [T.wp_bind] at hr
    have hr : (compL2 S N (p.1.drop (i + 1)) r.2).wp fun q => ((acc ++ r.1) ++ q.1).length ≤ sizeMax ∧ ∀ H3, GI z R' pins env σ H D ((acc ++ r.1) ++ q.1) H3 → Q (.ref D) H3 := by
      rw [hN] at hr
      refine T.wp_mono hr fun q hq => ?_
      simp only [T.wp, ← List.append_assoc] at hq
      exact hq
    obtain ⟨q, hq, _⟩ := T.wp_ex hr
    refine ⟨by simp only [List.length_append] at hq ⊢; omega, fun H5 ⟨rel6, ks6, av6, eD6, ra6⟩ i6 => ⟨by omega, by omega, acc ++ r.1, r.2, ⟨i6, ks6, av6, eD6, by rw [hc2] at ra6; exact ra6⟩, hr⟩⟩
  · have e : i = p.1.length := by omega
    subst e
    rw [List.drop_length] at w
    simp only [compL2, T.wp, List.append_nil] at w
    exact .inl ⟨src.stop _ _ H3 hpin, w.2 H3 gi⟩
theorem sComp2 (g : Good X z cx c n) {x t i t2 i2 : Expr} {scope : Scope} {pos : Pos} {elt : E} {tg tg2 : Tg} {it it2 : It} {own : List Nat}
    (hb : blkC cx.N cx.sc scope (ownOf cx.N own) = true) (hi : PI X t i (tIt z c true it)) (hn : noSet i = true) (hn2 : noSet i2 = true) (hsl : tg.slots.all (fun j => own.contains j) = true) (hsl2 : tg2.slots.all (fun j => own.contains j) = true) (hdj : tg.slots.all (fun j => !tg2.slots.contains j) = true)
    (hg : ∀ (s : Shared) (H : Hp) (C : Addr) (cl : List (Str × Addr)) (fp : List Addr), PG (X.blk s H scope (compEnvC scope cl C X.env) fp) t (tG z tg))
    (hi2 : ∀ (s : Shared) (H : Hp) (C : Addr) (cl : List (Str × Addr)) (fp : List Addr), PI (X.blk s H scope (compEnvC scope cl C X.env) fp) t2 i2 (tIt z c true it2))
    (hg2 : ∀ (s : Shared) (H : Hp) (C : Addr) (cl : List (Str × Addr)) (fp : List Addr), PG (X.blk s H scope (compEnvC scope cl C X.env) fp) t2 (tG z tg2))
    (he : ∀ (s : Shared) (H : Hp) (C : Addr) (cl : List (Str × Addr)) (fp : List Addr), PE (X.blk s H scope (compEnvC scope cl C X.env) fp) x (tE z c elt)) :
    PE X (.ListComp x [⟨t, i, [], 0⟩, ⟨t2, i2, [], 0⟩] scope pos) (tE z c (.comp2 elt tg it tg2 it2 own)) := by
  have ok : BlkOk X.N X.env.scope scope (ownOf cx.N own) := by rw [g.tg.N, g.tg.sc]; exact blkOk_by hb
  have s1 : ∀ j ∈ tg.slots, j ∈ own := fun j hj => by simpa using List.all_eq_true.mp hsl j hj
  have s2 : ∀ j ∈ tg2.slots, j ∈ own := fun j hj => by simpa using List.all_eq_true.mp hsl2 j hj
  have base := pe_lc2 (pos := pos) (vs1 := tg2.slots) g.tg.calm g.tg.nd hi ok (fun j hj => by rw [ownOf_map]; exact s2 j hj) hg (fun _ _ _ _ _ => pts_nil) hi2 hg2 (fun _ _ _ _ _ => pts_nil) he (fun x => noSet_fold hn X.env x) (fun env x => noSet_fold hn2 env x)
  rw [ownOf_map] at base
  exact PE.imp base fun σ H Q w => lc2Imp hsl hsl2 hdj w
end
end MP
end
section
set_option Elab.async false
set_option linter.all false
set_option autoImplicit false
set_option maxRecDepth 100000
set_option maxHeartbeats 8000000
/-! MPExpr: every expression. -/
namespace MP
open PySem PySem.Spec PyProof.Rows L2

/-! ### blocks -/
theorem lookup_map {f : Str → NameKind → NameKind} (x : Str) : ∀ l : List (Str × NameKind), (l.map fun p => (p.1, f p.1 p.2)).lookup x = (l.lookup x).map (f x)
  | [] => rfl
  | (y, k) :: l => by
    simp only [List.map_cons, List.lookup_cons]
    cases e : x == y with
    | true => rw [eq_of_beq e]; rfl
    | false => exact lookup_map x l
theorem relS_names (scope sc : Scope) (x : Str) (h : scope.names.lookup x = some .local) : (relS scope sc).names.lookup x = some .local := by
  have e : (relS scope sc).names = scope.names.map fun p => (p.1, (fun n k => if (k == .free && sc.kind == .function && sc.names.lookup n == some .cell) = true then NameKind.cell else k) p.1 p.2) := by
    unfold relS
    simp only []
    refine List.map_congr_left fun p _ => ?_
    obtain ⟨n, k⟩ := p
    simp only []
    split <;> rfl
  rw [e]
  refine (lookup_map (f := fun n k => if (k == .free && sc.kind == .function && sc.names.lookup n == some .cell) = true then NameKind.cell else k) x scope.names).trans ?_
  rw [h]
  rfl
section
variable {z : Zx} {c : Ctx} {n : Nat} {X : Cx} {cx : Chk}
theorem Good.blk (g : Good X z cx c n) (s : Shared) (H : Hp) (scope : Scope) (cl : List (Str × Addr)) (C : Addr) (fp : List Addr) : Good (X.blk s H scope (compEnvC scope cl C X.env) fp) z (cx.blk scope) c n := by
  refine ⟨⟨g.tg.N, ?_, g.tg.nd, g.tg.calm, fun x h => ?_⟩, g.K, g.hr, g.blt, g.gl, fun k x e => ⟨(g.fn k x e).ex⟩, ⟨g.dr.ex⟩, g.mm⟩
  · show relS scope X.env.scope = relS scope cx.sc
    rw [g.tg.sc]
  · have h : locB scope x = true := h
    unfold locB at h
    split at h
    · exact .inr (relS_names scope X.env.scope x (by assumption))
    · refine .inl ?_
      show (scope.names.lookup x == some .cell) = true
      rw [show scope.names.lookup x = some .cell by assumption]
      rfl
    · cases h

/-! ### lengths -/
theorem stores_len : ∀ {rs : List Rv} {xs : List Val}, stores rs = some xs → xs.length = rs.length
  | [], xs, e => by simp only [stores, Option.some.injEq] at e; subst e; rfl
  | r :: rs, xs, e => by
    simp only [stores] at e
    split at e
    · rename_i e2
      cases e
      simp [stores_len e2]
    · cases e
def Es.len : Es → Nat
  | .nil => 0
  | .cons _ es => es.len + 1
theorem evs_len : ∀ (es : Es) {env : Env} {h : Mem} {Q : List Rv × Mem → Prop}, (evs c es env h).wp Q → (evs c es env h).wp fun p => p.1.length = es.len ∧ Q p
  | .nil, env, h, Q, w => by
    simp only [evs, T.wp] at w ⊢
    exact ⟨rfl, w⟩
  | .cons e es, env, h, Q, w => by
    simp only [evs] at w ⊢
    rw [T.wp_bind] at w ⊢
    refine T.wp_mono w fun p wp => ?_
    rw [T.wp_bind] at wp ⊢
    exact T.wp_mono (evs_len es wp) fun q ⟨l, hq⟩ => ⟨by simp [Es.len, l], hq⟩
theorem okEs_len : ∀ (es : Es) (l : List Expr), okEs cx es l = true → es.len = l.length
  | .nil, [], _ => rfl
  | .nil, _ :: _, h => by simp [okEs] at h
  | .cons e es, [], h => by simp [okEs] at h
  | .cons e es, x :: xs, h => by
    simp only [okEs, Bool.and_eq_true] at h
    simp [Es.len, okEs_len es xs h.2]

/-! ### the cases -/
theorem cConst (g : Good X z cx c n) {x : Val} {e : Expr} (h : okE cx (.const x) e = true) : Three X z c (.const x) e := by
  have im : ∀ {v : V}, (∀ M H, Rep z M H x v) → PE X e (tC v) → PE X e (tE z c (.const x)) := fun {v} hr hp => PE.imp hp fun σ H Q ⟨R, env, m, rel, w⟩ => by
    simp only [ev, T.wp] at w
    exact w v H Keeps.refl (hr _ _)
  simp only [okE] at h
  split at h
  · exact Three.plain g.K (im (fun _ _ => rep_non) pe_non) (fun _ => rfl) id
  · have := eq_of_beq h; subst this
    exact Three.plain g.K (im (fun _ _ => rep_bl _) pe_bl) (fun _ => rfl) id
  · have := eq_of_beq h; subst this
    exact Three.plain g.K (im (fun _ _ => rep_int _) pe_int) (fun _ => rfl) id
  · simp only [Bool.and_eq_true, decide_eq_true_eq] at h
    rename_i s y _ _
    have ey : y = ⟨s.toArray⟩ := by
      cases y with
      | mk cps => congr 1; rw [← h.1]
    subst ey
    exact Three.plain g.K (im (fun _ _ => rep_str h.2) pe_str) (fun _ => rfl) id
  · cases h
theorem cGlob (g : Good X z cx c n) {k : Nat} {e : Expr} (h : okE cx (.glob k) e = true) : Three X z c (.glob k) e := by
  simp only [okE] at h
  split at h
  · rename_i x pos
    simp only [Bool.and_eq_true, decide_eq_true_eq, glbB] at h
    obtain ⟨⟨h1, h2⟩, h3⟩ := h
    refine Three.plain g.K ?_ (fun _ => rfl) id
    cases hv : c.G k with
    | none => exact ⟨fun pins s σ H Q I ⟨R, env, m, rel, w⟩ => by
        simp only [ev, hv, T.opt, T.wp] at w⟩
    | some v =>
      obtain ⟨u, w', hm, hr, hrep⟩ := g.gl k x v h3 hv
      refine PE.imp (pe_glob (g.gl' h1) hm hr (plain_of h2).1) fun σ H Q ⟨R, env, m, rel, w⟩ => ?_
      simp only [ev, hv, T.opt, T.wp] at w
      exact w _ H Keeps.refl (hrep _ _)
  · cases h
theorem Rel.load {R : Fr} {env : Env} {σ : St} {H : Hp} (rel : Rel z R env σ H) {i : Nat} {r : Rv} (e : loadS env[i]? = some r) : ∃ v, σ[i]? = some (some v) ∧ RepR z (Clo R env σ) (OwnA env σ) H H r v := by
  cases hs : env[i]? with
  | none => rw [hs] at e; cases e
  | some s =>
    have hi : i < σ.length := by
      rw [rel.len]
      exact (List.getElem?_eq_some_iff.mp hs).1
    have ho := List.getElem?_eq_getElem hi
    have q := rel.slot i s _ hs ho
    rw [hs] at e
    generalize σ[i] = o at ho q
    match s, o, q with
    | .emp, _, _ => cases e
    | .val x, some v, q =>
      cases e
      exact ⟨v, ho, q⟩
    | .own (.d xs), some (.ref a), q => cases e
    | .own (.l xs), some (.ref a), q =>
      cases e
      obtain ⟨vs, e1, e2, l⟩ := q
      exact ⟨_, ho, l, a, vs, rfl, ⟨i, .l xs, hs, ho⟩, e1, e2⟩
theorem pVar (g : Good X z cx c n) {i : Nat} {x : Str} {pos : Pos} (h1 : cx.N[i]? = some x) (h2 : visB cx.sc x = true) (h3 : plainName x = true) : PE X (.Name x pos) (tVar i) :=
  pe_var (by rw [g.tg.N]; exact h1) (by rw [g.tg.sc]; exact vis_of h2) (plain_of h3).1 (plain_of h3).2.1
theorem cVar (g : Good X z cx c n) {i : Nat} {e : Expr} (h : okE cx (.var i) e = true) : Three X z c (.var i) e := by
  simp only [okE] at h
  split at h
  · rename_i x pos
    simp only [Bool.and_eq_true, decide_eq_true_eq] at h
    obtain ⟨⟨h1, h2⟩, h3⟩ := h
    refine Three.plain g.K (PE.imp (pVar g h1 h2 h3) fun σ H Q ⟨R, env, m, rel, w⟩ => ?_) (fun _ => rfl) id
    simp only [ev] at w
    obtain ⟨r, e, w⟩ := wp_opt w
    obtain ⟨v, e1, r1⟩ := rel.load e
    exact ⟨v, e1, w v H Keeps.refl r1⟩
  · cases h
theorem cTup (g : Good X z cx c n) {es : Es} {l : List Expr} {k : Nat} {pos : Pos} (hl : l.length ≤ 100000) (ho : es.len = l.length) (ha : PA X l (tEs z c es)) : Three X z c (.tup es) (.Tuple l k pos) := by
  refine Three.plain g.K (PE.imp (pe_tup ha) fun σ H Q ⟨R, env, m, rel, w⟩ => ?_) (fun _ => rfl) id
  simp only [ev] at w
  rw [T.wp_bind] at w
  refine ⟨R, env, m, rel, T.wp_mono (evs_len es w) fun p ⟨hlen, wp⟩ vs H' k r => ?_⟩
  obtain ⟨xs, e, wp⟩ := wp_opt wp
  have rx := r.stores rel.trkC e
  have hx : xs.length = p.1.length := stores_len e
  have l1 : xs.length ≤ sizeMax := by
    rw [hx, hlen, ho]
    exact Nat.le_trans hl (by decide)
  refine ⟨by rw [rx.length, sizeMax_eq]; exact l1, fun q hq => ?_⟩
  refine wp (.ref q) _ (k.trans (Keeps.new hq)) ?_
  simp only [RepR, Rep]
  exact ⟨l1, q, vs, rfl, .of upd_same, Reps.mono (k.box rel.box) (Keeps.new hq) rel.bxC (fun a m => .inl m) xs rx⟩
theorem cLst (g : Good X z cx c n) {es : Es} {l : List Expr} {pos : Pos} (hl : l.length ≤ 100000) (ho : es.len = l.length) (ha : PA X l (tEs z c es)) : Three X z c (.list es) (.List l pos) := by
  refine Three.plain g.K (PE.imp (pe_lst ha) fun σ H Q ⟨R, env, m, rel, w⟩ => ?_) (fun _ => rfl) id
  simp only [ev] at w
  rw [T.wp_bind] at w
  refine ⟨R, env, m, rel, T.wp_mono (evs_len es w) fun p ⟨hlen, wp⟩ vs H' k r => ?_⟩
  obtain ⟨xs, e, wp⟩ := wp_opt wp
  have rx := r.stores rel.trkC e
  have hx : xs.length = p.1.length := stores_len e
  have l1 : xs.length ≤ sizeMax := by
    rw [hx, hlen, ho]
    exact Nat.le_trans hl (by decide)
  refine ⟨by rw [rx.length, sizeMax_eq]; exact l1, fun q hq => ?_⟩
  refine wp (.ref q) _ (k.trans (Keeps.new hq)) ?_
  exact ⟨l1, q, vs, rfl, k.trk q hq, upd_same, Reps.mono (k.box rel.box) (Keeps.new hq) rel.bxC (fun a m => m.imp id fun e => by rw [e]; exact hq) xs rx⟩
theorem cUn (g : Good X z cx c n) {a : E} {u : Un} {e : Expr} (h : PE X e (tUn (rUn z u.ap) (tE z c a))) (he : ∀ whole, isTrue e X.env whole = (do let v ← whole; standAt e.pos; holding [v] (truthy v))) (nb : ¬ isBool e) : Three X z c (.un u a) e := by
  refine Three.plain g.K (PE.imp h fun σ H Q ⟨R, env, m, rel, w⟩ => ?_) he nb
  simp only [ev] at w
  rw [T.wp_bind] at w
  exact rd_un (G := fun p => ∀ v H', Keeps z H H' → RepR z (Clo R env σ) (OwnA env σ) H H' p.1 v → Q v H') rel (T.wp_mono w fun p wp => wp_opt wp) fun p hp v H' k r => hp v H' k r
theorem cBin (g : Good X z cx c n) {a b : E} {o : Bn} {e : Expr} (h : PE X e (tOp (rBin z o.ap) (tE z c a) (tE z c b))) (he : ∀ whole, isTrue e X.env whole = (do let v ← whole; standAt e.pos; holding [v] (truthy v))) (nb : ¬ isBool e) : Three X z c (.bin o a b) e := by
  refine Three.plain g.K (PE.imp h fun σ H Q ⟨R, env, m, rel, w⟩ => ?_) he nb
  simp only [ev] at w
  exact rd_bin (G := fun p => ∀ v H', Keeps z H H' → RepR z (Clo R env σ) (OwnA env σ) H H' p.1 v → Q v H') rel (wp_bin (k := T.ret) w) fun p hp v H' k r => hp v H' k r
theorem cSlc (g : Good X z cx c n) {a : E} {lo hi : Eo} {x : Expr} {l h : Option Expr} {pos p2 : Pos} (ha : PE X x (tE z c a)) (hl : PO X l (tEo z c lo)) (hh : PO X h (tEo z c hi)) : Three X z c (.slc a lo hi) (.Subscript x (.Slice l h none p2) pos) := by
  refine Three.plain g.K (PE.imp (pe_slice (sl_V g.K) ha hl hh) fun σ H Q ⟨R, env, m, rel, w⟩ => ?_) (fun _ => rfl) id
  simp only [ev] at w
  rw [T.wp_bind] at w
  refine rd_slc (G := fun p => ∀ v H', Keeps z H H' → RepR z (Clo R env σ) (OwnA env σ) H H' p.1 v → Q v H') rel (T.wp_mono w fun p wp => ?_) fun p hp v H' k r => hp v H' k r
  rw [T.wp_bind] at wp
  refine T.wp_mono wp fun q wq => ?_
  rw [T.wp_bind] at wq
  exact T.wp_mono wq fun u wu => wp_opt wu
/-- and, or -/
theorem rdAnd {a b : E} {R : Fr} {env : Env} {σ : St} {H : Hp} {m : Mem} {P : Rv × Mem → Prop} {Q : VK} (hK : z.K = X.K) (rel : Rel z R env σ H) (w : (ev c (.and a b) env m).wp P) (hP : ∀ p, P p → ∀ v H', Keeps z H H' → RepR z (Clo R env σ) (OwnA env σ) H H' p.1 v → Q v H') :
    tAndT X.K (tE z c a) (tE z c b) σ H Q := by
  simp only [ev] at w
  rw [T.wp_bind] at w
  refine ⟨R, env, m, rel, T.wp_mono w fun p wp v H1 k1 r1 => ?_⟩
  rcases wp_tru wp with ⟨e, wp⟩ | ⟨e, wp⟩
  · refine ⟨true, truV hK r1 e, ?_⟩
    rw [if_pos rfl]
    exact ⟨R, env, p.2, rel.of_keeps k1, T.wp_mono wp fun q hq v H2 k2 r2 => hP q hq v H2 (k1.trans k2) (r2.since k1)⟩
  · refine ⟨false, truV hK r1 e, ?_⟩
    rw [if_neg (by decide)]
    exact hP p wp v H1 k1 r1
theorem rdOr {a b : E} {R : Fr} {env : Env} {σ : St} {H : Hp} {m : Mem} {P : Rv × Mem → Prop} {Q : VK} (hK : z.K = X.K) (rel : Rel z R env σ H) (w : (ev c (.or a b) env m).wp P) (hP : ∀ p, P p → ∀ v H', Keeps z H H' → RepR z (Clo R env σ) (OwnA env σ) H H' p.1 v → Q v H') :
    tOrT X.K (tE z c a) (tE z c b) σ H Q := by
  simp only [ev] at w
  rw [T.wp_bind] at w
  refine ⟨R, env, m, rel, T.wp_mono w fun p wp v H1 k1 r1 => ?_⟩
  rcases wp_tru wp with ⟨e, wp⟩ | ⟨e, wp⟩
  · refine ⟨true, truV hK r1 e, ?_⟩
    rw [if_pos rfl]
    exact hP p wp v H1 k1 r1
  · refine ⟨false, truV hK r1 e, ?_⟩
    rw [if_neg (by decide)]
    exact ⟨R, env, p.2, rel.of_keeps k1, T.wp_mono wp fun q hq v H2 k2 r2 => hP q hq v H2 (k1.trans k2) (r2.since k1)⟩
theorem rdAndT {a b : E} {σ : St} {H : Hp} {Q : Bool → Hp → Prop} (w : tT z c (.and a b) σ H Q) : tAnd (tT z c a) (tT z c b) σ H Q := by
  obtain ⟨R, env, m, rel, w⟩ := w
  simp only [ev] at w
  rw [T.wp_bind] at w
  refine ⟨R, env, m, rel, T.wp_mono w fun p wp => ?_⟩
  rcases wp_tru wp with ⟨e, wp⟩ | ⟨e, wp⟩
  · refine ⟨true, e, fun H1 k1 => ?_⟩
    dsimp only []
    rw [if_pos rfl]
    exact ⟨R, env, p.2, rel.of_keeps k1, T.wp_mono wp fun q ⟨t, e2, hq⟩ => ⟨t, e2, fun H2 k2 => hq H2 (k1.trans k2)⟩⟩
  · refine ⟨false, e, fun H1 k1 => ?_⟩
    dsimp only []
    rw [if_neg (by decide)]
    obtain ⟨t, e2, hq⟩ := wp
    rw [e] at e2; cases e2
    exact hq H1 k1
theorem rdOrT {a b : E} {σ : St} {H : Hp} {Q : Bool → Hp → Prop} (w : tT z c (.or a b) σ H Q) : tOr (tT z c a) (tT z c b) σ H Q := by
  obtain ⟨R, env, m, rel, w⟩ := w
  simp only [ev] at w
  rw [T.wp_bind] at w
  refine ⟨R, env, m, rel, T.wp_mono w fun p wp => ?_⟩
  rcases wp_tru wp with ⟨e, wp⟩ | ⟨e, wp⟩
  · refine ⟨true, e, fun H1 k1 => ?_⟩
    dsimp only []
    rw [if_pos rfl]
    obtain ⟨t, e2, hq⟩ := wp
    rw [e] at e2; cases e2
    exact hq H1 k1
  · refine ⟨false, e, fun H1 k1 => ?_⟩
    dsimp only []
    rw [if_neg (by decide)]
    exact ⟨R, env, p.2, rel.of_keeps k1, T.wp_mono wp fun q ⟨t, e2, hq⟩ => ⟨t, e2, fun H2 k2 => hq H2 (k1.trans k2)⟩⟩
theorem cAnd2 (g : Good X z cx c n) {a b : E} {x y : Expr} {rest : List Expr} {pos : Pos} (ha : Three X z c a x) (hb : PE X (.BoolOp .And (y :: rest) pos) (tE z c b)) (hw : PW X (.BoolOp .And (y :: rest) pos) (tT z c b)) : Three X z c (.and a b) (.BoolOp .And (x :: y :: rest) pos) := by
  have pw : PW X (.BoolOp .And (x :: y :: rest) pos) (tT z c (.and a b)) := PW.imp (pw_and ha.2.1 hw) fun σ H Q w => rdAndT w
  exact ⟨PE.imp (pe_andT ha.1 hb) fun σ H Q ⟨R, env, m, rel, w⟩ => rdAnd g.K rel w fun p hp v H' k r => hp v H' k r, pw.pt, fun _ => pw⟩
theorem cOr2 (g : Good X z cx c n) {a b : E} {x y : Expr} {rest : List Expr} {pos : Pos} (ha : Three X z c a x) (hb : PE X (.BoolOp .Or (y :: rest) pos) (tE z c b)) (hw : PW X (.BoolOp .Or (y :: rest) pos) (tT z c b)) : Three X z c (.or a b) (.BoolOp .Or (x :: y :: rest) pos) := by
  have pw : PW X (.BoolOp .Or (x :: y :: rest) pos) (tT z c (.or a b)) := PW.imp (pw_or ha.2.1 hw) fun σ H Q w => rdOrT w
  exact ⟨PE.imp (pe_orT ha.1 hb) fun σ H Q ⟨R, env, m, rel, w⟩ => rdOr g.K rel w fun p hp v H' k r => hp v H' k r, pw.pt, fun _ => pw⟩
theorem cNot (g : Good X z cx c n) {a : E} {x : Expr} {pos : Pos} (ha : Three X z c a x) : Three X z c (.not a) (.UnaryOp .Not x pos) := by
  refine ⟨PE.imp (pe_notT ha.1) fun σ H Q ⟨R, env, m, rel, w⟩ => ?_, PT.imp (pt_not ha.2.1) fun σ H Q ⟨R, env, m, rel, w⟩ => ?_, fun q => q.elim⟩
  · simp only [ev] at w
    rw [T.wp_bind] at w
    refine ⟨R, env, m, rel, T.wp_mono w fun p wp v H1 k1 r1 => ?_⟩
    obtain ⟨t, e, wp⟩ := wp_opt wp
    exact ⟨t, truV g.K r1 e, wp _ H1 k1 (by simp only [RepR, Rep])⟩
  · simp only [ev] at w
    rw [T.wp_bind] at w
    refine ⟨R, env, m, rel, T.wp_mono w fun p wp => ?_⟩
    obtain ⟨t, e, b, e2, wp⟩ := wp_opt wp
    cases e2
    exact ⟨t, e, wp⟩
theorem pt_ifE {x y t : Expr} {pos : Pos} {tA ta tb : TT} (ht : PT X t tA) (ha : PT X x ta) (hb : PT X y tb) : PT X (.IfExp t x y pos) (fun σ H Q => tA σ H fun c H1 => if c = true then ta σ H1 Q else tb σ H1 Q) := by
  refine ⟨fun pins s σ H Q I h => ?_⟩
  refine isTrue_IfExp (thn (ht.run pins s σ H _ I h) fun k s1 ⟨H1, I1, q⟩ => ?_)
  cases k with
  | true =>
    rw [if_pos rfl] at q ⊢
    exact ha.run pins s1 σ H1 Q I1 q
  | false =>
    rw [if_neg (by decide)] at q ⊢
    exact hb.run pins s1 σ H1 Q I1 q
theorem cIte (g : Good X z cx c n) {t a b : E} {t' x y : Expr} {pos : Pos} (ht : Three X z c t t') (ha : Three X z c a x) (hb : Three X z c b y) : Three X z c (.ite t a b) (.IfExp t' x y pos) := by
  refine ⟨PE.imp (pe_ifExp ht.2.1 ha.1 hb.1) fun σ H Q ⟨R, env, m, rel, w⟩ => ?_, PT.imp (pt_ifE ht.2.1 ha.2.1 hb.2.1) fun σ H Q ⟨R, env, m, rel, w⟩ => ?_, fun q => q.elim⟩
  · simp only [ev] at w
    rw [T.wp_bind] at w
    refine ⟨R, env, m, rel, T.wp_mono w fun p wp => ?_⟩
    rcases wp_tru wp with ⟨e, wp⟩ | ⟨e, wp⟩
    · refine ⟨true, e, fun H1 k1 => ?_⟩
      dsimp only []
      rw [if_pos rfl]
      exact ⟨R, env, p.2, rel.of_keeps k1, T.wp_mono wp fun q hq v H2 k2 r2 => hq v H2 (k1.trans k2) (r2.since k1)⟩
    · refine ⟨false, e, fun H1 k1 => ?_⟩
      dsimp only []
      rw [if_neg (by decide)]
      exact ⟨R, env, p.2, rel.of_keeps k1, T.wp_mono wp fun q hq v H2 k2 r2 => hq v H2 (k1.trans k2) (r2.since k1)⟩
  · simp only [ev] at w
    rw [T.wp_bind] at w
    refine ⟨R, env, m, rel, T.wp_mono w fun p wp => ?_⟩
    rcases wp_tru wp with ⟨e, wp⟩ | ⟨e, wp⟩
    · refine ⟨true, e, fun H1 k1 => ?_⟩
      dsimp only []
      rw [if_pos rfl]
      exact ⟨R, env, p.2, rel.of_keeps k1, T.wp_mono wp fun q ⟨b, e2, hq⟩ => ⟨b, e2, fun H2 k2 => hq H2 (k1.trans k2)⟩⟩
    · refine ⟨false, e, fun H1 k1 => ?_⟩
      dsimp only []
      rw [if_neg (by decide)]
      exact ⟨R, env, p.2, rel.of_keeps k1, T.wp_mono wp fun q ⟨b, e2, hq⟩ => ⟨b, e2, fun H2 k2 => hq H2 (k1.trans k2)⟩⟩
end
end MP
end
section
set_option Elab.async false
set_option linter.all false
set_option autoImplicit false
set_option maxRecDepth 100000
set_option maxHeartbeats 8000000
/-! MPExpr2: calls, what is walked, all expressions. -/
namespace MP
open PySem PySem.Spec PyProof.Rows L2
section
variable {z : Zx} {c : Ctx} {n : Nat} {X : Cx} {cx : Chk}
/-- the arguments of a call, one by one -/
def PEs (X : Cx) (z : Zx) (c : Ctx) : Es → List Expr → Prop
  | .nil, [] => True
  | .cons e es, x :: xs => PE X x (tE z c e) ∧ PEs X z c es xs
  | _, _ => False
theorem PEs.pa : ∀ {es : Es} {l : List Expr}, okEs cx es l = true → PEs X z c es l → PA X l (tEs z c es)
  | .nil, [], _, _ => PA.imp pa_nil fun σ H Q ⟨R, env, m, rel, w⟩ => by
    simp only [evs, T.wp] at w
    exact w [] H Keeps.refl rfl
  | .nil, _ :: _, _, h => h.elim
  | .cons e es, [], _, h => h.elim
  | .cons e es, x :: xs, ho, h => by
    simp only [okEs, Bool.and_eq_true] at ho
    refine PA.imp (pa_cons h.1 (PEs.pa ho.2 h.2) (okE_star ho.1 xs X.env)) fun σ H Q ⟨R, env, m, rel, w⟩ => ?_
    simp only [evs] at w
    rw [T.wp_bind] at w
    refine ⟨R, env, m, rel, T.wp_mono w fun p wp v H1 k1 r1 => ?_⟩
    rw [T.wp_bind] at wp
    -- what the first gave, if it is a new list, is closed
    have fresh : ∀ a, ((∃ ys, p.1 = .new ys) ∧ v = .ref a) → H a = none ∧ H1 a ≠ none := fun a ⟨⟨ys, e1⟩, e2⟩ => by
      rw [e1] at r1
      obtain ⟨_, b, vs, e3, q1, q2, _⟩ := r1
      rw [e2] at e3; cases e3
      exact ⟨q1, by rw [q2]; simp⟩
    refine ⟨R.add fun a => (∃ ys, p.1 = .new ys) ∧ v = .ref a, env, p.2, rel.closeNew k1 _ fresh, T.wp_mono wp fun q wq ws H2 k2 rs => ?_⟩
    rw [clo_add] at rs
    refine wq (v :: ws) H2 (k1.trans k2) ⟨v, ws, rfl, ?_, RepRs.since k1 rs, fun a h1 h2 => ?_⟩
    · have hm : ∀ a, (Clo R env σ a ∨ NewA q.1 ws a) → Clo R env σ a ∨ H1 a = none := fun a m => m.imp id fun m => (NewA.fresh (M := fun _ => False) (O := OwnA env σ) rs a m).1
      exact RepR.mono (k1.box rel.box) k2 rel.bxC (fun a o => rel.own_nobox o) (fun a e => e) (fun a e b => rel.trkC a (rel.bxC a b) e) hm r1
    · exact (fresh a h1).2 (NewA.fresh (M := fun _ => False) (O := OwnA env σ) rs a h2).1

/-! ### functions that are built in -/
theorem cApp (g : Good X z cx c n) {f : Ap} {es : Es} {e : Expr} (h : PE X e (tCB (rAp z f.ap) (tEs z c es))) (he : ∀ whole, isTrue e X.env whole = (do let v ← whole; standAt e.pos; holding [v] (truthy v))) (nb : ¬ isBool e) : Three X z c (.app f es) e := by
  refine Three.plain g.K (PE.imp h fun σ H Q ⟨R, env, m, rel, w⟩ => ?_) he nb
  simp only [ev] at w
  rw [T.wp_bind] at w
  exact rd_ap (G := fun p => ∀ v H', Keeps z H H' → RepR z (Clo R env σ) (OwnA env σ) H H' p.1 v → Q v H') rel (T.wp_mono w fun p wp => wp_opt wp) fun p hp v H' k r => hp v H' k r
theorem cAppB (g : Good X z cx c n) {f : Ap} {es : Es} {x : Str} {e : Expr} {l : List Expr} {p pos : Pos} {id : String} (hcr : CallR X (.builtin id) (rAp z f.ap)) (hx : bltB cx x (apName f) = true) (hv : bootBuiltins (Str.ofString (apName f)) = some (.builtin id))
    (h1 : Str.ofString (apName f) ≠ ("__name__" : Str)) (h2 : (Str.ofString (apName f) == ("__debug__" : Str)) = false) (ho : okEs cx es (e :: l) = true) (ha : PEs X z c es (e :: l)) : Three X z c (.app f es) (.Call (.Name x p) (e :: l) [] pos) := by
  obtain ⟨rfl, h3, h4⟩ := bltB_of hx
  cases es with
  | nil => exact ha.elim
  | cons a as =>
    have ho' := ho
    simp only [okEs, Bool.and_eq_true] at ho'
    exact cApp g (pe_callB hcr (g.gl' h3) (g.blt _ h4) hv (PEs.pa ho ha) h1 h2 (okE_star ho'.1 l X.env) (okEs_star X.env ho'.2 pos)) (fun _ => rfl) (fun q => q)
theorem cAppT (g : Good X z cx c n) {f : Ap} {es : Es} {x : Str} {e : Expr} {l : List Expr} {p pos : Pos} {id : String} (hcr : CallR X (.type id) (rAp z f.ap)) (hx : bltB cx x (apName f) = true) (hv : bootBuiltins (Str.ofString (apName f)) = some (.type id))
    (h1 : Str.ofString (apName f) ≠ ("__name__" : Str)) (h2 : (Str.ofString (apName f) == ("__debug__" : Str)) = false) (ho : okEs cx es (e :: l) = true) (ha : PEs X z c es (e :: l)) : Three X z c (.app f es) (.Call (.Name x p) (e :: l) [] pos) := by
  obtain ⟨rfl, h3, h4⟩ := bltB_of hx
  cases es with
  | nil => exact ha.elim
  | cons a as =>
    have ho' := ho
    simp only [okEs, Bool.and_eq_true] at ho'
    exact cApp g (pe_callTy hcr (g.gl' h3) (g.blt _ h4) hv (PEs.pa ho ha) h1 h2 (okE_star ho'.1 l X.env) (okEs_star X.env ho'.2 pos)) (fun _ => rfl) (fun q => q)
theorem cIsi (g : Good X z cx c n) {t : Ty} {es : Es} {x y : Str} {e : Expr} {p p2 pos : Pos} (hx : bltB cx x "isinstance" = true) (hy : bltB cx y (tyName t) = true) (ho : okEs cx es [e] = true) (ha : PEs X z c es [e]) : Three X z c (.app (.isi t) es) (.Call (.Name x p) [e, .Name y p2] [] pos) := by
  obtain ⟨rfl, h3, h4⟩ := bltB_of hx
  obtain ⟨rfl, h5, h6⟩ := bltB_of hy
  cases es with
  | nil => exact ha.elim
  | cons a as =>
    cases as with
    | cons b bs => exact ha.2.elim
    | nil =>
      simp only [okEs, Bool.and_eq_true] at ho
      have ty : PE X (.Name (Str.ofString (tyName t)) p2) (tC (.ty (tyName t))) := by
        cases t <;> exact pe_bltn (u := .type _) (g.gl' h5) (g.blt _ h6) (by decide +kernel) rfl (by decide) (by decide)
      have pa : PA X [e, .Name (Str.ofString (tyName t)) p2] (tCons (tE z c a) (tCons (tC (.ty (tyName t))) tNil)) := pa_cons ha.1 (pa_cons ty pa_nil rfl) (okE_star ho.1 _ X.env)
      refine Three.plain g.K (PE.imp (pe_callB (cr_isi g.K t) (g.gl' h3) (g.blt _ h4) boot_isinstance pa (by decide) (by decide) (okE_star ho.1 _ X.env) rfl) fun σ H Q ⟨R, env, m, rel, w⟩ => ?_) (fun _ => rfl) (fun q => q)
      simp only [ev, evs] at w
      rw [T.wp_bind, T.wp_bind] at w
      refine ⟨R, env, m, rel, T.wp_mono w fun p wp v H1 k1 r1 => ?_⟩
      rw [T.wp_bind] at wp
      simp only [T.wp] at wp
      obtain ⟨rv, e2, wp⟩ := wp_opt wp
      simp only [T.wp] at wp
      refine ⟨v, rfl, Clo R env σ, OwnA env σ, H, [p.1], rv, rel.ok.keeps k1, ?_, e2, fun u H3 s r3 => wp u H3 (k1.trans (.same s)) (r3.since k1)⟩
      exact ⟨v, [], rfl, by
        have : (fun a => Clo R env σ a ∨ NewA [] [] a) = Clo R env σ := by funext a; simp [NewA]
        rw [this]; exact r1, rfl, fun a _ q => q⟩
theorem cSortSet (g : Good X z cx c n) {es : Es} {x y : Str} {e : Expr} {p p2 pos pos2 : Pos} (hx : bltB cx x "sorted" = true) (hy : bltB cx y "set" = true) (ho : okEs cx es [e] = true) (ha : PEs X z c es [e]) : Three X z c (.app .sortSet es) (.Call (.Name x p) [.Call (.Name y p2) [e] [] pos2] [] pos) := by
  obtain ⟨rfl, h3, h4⟩ := bltB_of hx
  obtain ⟨rfl, h5, h6⟩ := bltB_of hy
  have he : starEach [e] X.env = [(false, eval e X.env)] := by
    cases es with
    | nil => exact ha.elim
    | cons a as =>
      simp only [okEs, Bool.and_eq_true] at ho
      exact okE_star ho.1 [] X.env
  have inner : PE X (.Call (.Name (Str.ofString "set") p2) [e] [] pos2) (tCB (MPS.rSetI X.K X.w) (tEs z c es)) :=
    pe_callTy (MPS.cr_setI g.tg.calm) (g.gl' h5) (g.blt _ h6) (by decide +kernel) (PEs.pa ho ha) (by decide) (by decide) (by rw [he]; rfl) rfl
  have pa : PA X [.Call (.Name (Str.ofString "set") p2) [e] [] pos2] (tCons (tCB (MPS.rSetI X.K X.w) (tEs z c es)) tNil) := pa_cons inner pa_nil rfl
  refine cApp g (PE.imp (pe_callB (cr_sortedSet g.tg.calm) (g.gl' h3) (g.blt _ h4) (by decide +kernel) pa (by decide) (by decide) rfl rfl) fun σ H Q w => ?_) (fun _ => rfl) (fun q => q)
  obtain ⟨R, env, m, rel, w⟩ := w
  refine ⟨R, env, m, rel, T.wp_mono w fun q hq vs H1 k1 r1 => ?_⟩
  have := r_sortSet (w := X.w) (hq vs H1 k1 r1)
  rw [g.K] at this
  exact this
theorem cUpper (g : Good X z cx c n) {a : E} {o : Expr} {nm : Str} {ap cp : Pos} (hn : nm = Str.ofString "upper") (hl : (ap.endLine == cp.line) = true) (hr : recv o = true) (ha : PE X o (tE z c a)) : Three X z c (.meth .upper a .nil) (.Call (.Attribute o nm ap) [] [] cp) := by
  subst hn
  have hb : attributeBase o (Str.ofString "upper") X.env (eval o X.env) = eval o X.env := by
    cases o <;> first | rfl | cases hr
  refine Three.plain g.K (PE.imp (pe_bm0 PySem.F.plainAttrs_str PySem.F.slot_str_upper PySem.F.type_str_upper (mt_upperV (z := z)) ha hb hl) fun σ H Q ⟨R, env, m, rel, w⟩ => ?_) (fun _ => rfl) (fun q => q)
  simp only [ev, evs] at w
  rw [T.wp_bind] at w
  refine ⟨R, env, m, rel, T.wp_mono w fun p wp v H1 k1 r1 => ?_⟩
  rw [T.wp_bind] at wp
  simp only [T.wp] at wp
  obtain ⟨rv, e, wp⟩ := wp_opt wp
  simp only [T.wp] at wp
  refine ⟨?_, Clo R env σ, OwnA env σ, H, p.1, [], rv, rel.ok.keeps k1, r1, rfl, e, fun u H3 s r3 => wp u H3 (k1.trans (.same s)) (r3.since k1)⟩
  have ex : ∃ s, p.1 = .v (.str s) := by
    generalize p.1 = q at e
    cases q with
    | v y =>
      cases y with
      | str s => exact ⟨s, rfl⟩
      | _ => cases e
    | new _ => cases e
    | vw _ => cases e
  obtain ⟨s, es⟩ := ex
  rw [es] at r1
  rw [r1.str.2]
  rfl

/-! ### defs -/
theorem RepRs.args {M M' O : AS} {Hs H : Hp} : ∀ {rs : List Rv} {vs : List V} {M : AS}, (∀ a, M' a → M a) → (∀ a, M' a → Hs a ≠ none) → (rs.any Rv.isVw = true → ∀ a, O a → ¬ M' a) → RepRs z M O Hs H rs vs → Reps z M' H (rs.map Rv.arg) vs
  | [], vs, M, _, _, _, h => by
    have h : vs = [] := h
    subst h; exact Reps.nil
  | r :: rs, vs, M, hM, hs, ho, h => by
    obtain ⟨v, ws, rfl, h1, h2, _⟩ := h
    refine Reps.cons ?_ (RepRs.args (M := fun a => M a ∨ ((∃ xs, r = .new xs) ∧ v = .ref a)) (fun a m => .inl (hM a m)) hs (fun e => ho (by simp [e])) h2)
    match r, h1 with
    | .v x, h => exact Rep.less (fun a m => .inl (hM a m)) x h
    | .new xs, h =>
      obtain ⟨l, a, vs, e, n, q, w⟩ := h
      simp only [Rv.arg, Rep]
      exact ⟨l, a, vs, e, q, fun m => hs a m n, Reps.less (fun b m => .inl (.inl (hM b m))) xs w⟩
    | .vw xs, h =>
      obtain ⟨l, a, vs, e, o, q, w⟩ := h
      simp only [Rv.arg, Rep]
      exact ⟨l, a, vs, e, q, ho (by simp [Rv.isVw]) a o, Reps.less (fun b m => .inl (hM b m)) xs w⟩
theorem RepR.ofFree {M M' O : AS} {H H' : Hp} {r : Rv} {v : V} (h : RepR z M (fun _ => False) H H' r v) (e : r.noLst = true) : RepR z M' O H H' r v := by
  match r, h with
  | .v x, h => exact Rep.free x e h
  | .new xs, h =>
    obtain ⟨l, a, vs, e1, n, q, w⟩ := h
    exact ⟨l, a, vs, e1, n, q, Reps.free xs e w⟩
  | .vw xs, h =>
    obtain ⟨_, a, vs, _, o, _⟩ := h
    exact o.elim
theorem RepR.anyO {M O : AS} {H H' : Hp} {r : Rv} {v : V} (h : RepR z M (fun _ => False) H H' r v) : RepR z M O H H' r v := by
  match r, h with
  | .v x, h => exact h
  | .new xs, h => exact h
  | .vw xs, h =>
    obtain ⟨_, a, vs, _, o, _⟩ := h
    exact o.elim
/-- what a call asks -/
theorem rdCall {k np : Nat} {R : Fr} {env : Env} {σ : St} {H H1 : Hp} {rs : List Rv} {m : Mem} {vs : List V} {P : Rv × Mem → Prop} {Q : VK} {E : XK} (hbad : ∀ args m, args.length ≠ np → c.C k args m = .bad) (rel : Rel z R env σ H) (w : (callW c k rs m).wp P)
    (k1 : Keeps z H H1) (r1 : RepRs z (Clo R env σ) (OwnA env σ) H H1 rs vs) (hP : ∀ p, P p → ∀ v H', Keeps z H H' → RepR z (Clo R env σ) (OwnA env σ) H H' p.1 v → Q v H') : spF z np (c.C k) vs H1 Q E := by
  unfold callW at w
  rw [T.wp_bind] at w
  have rel1 := rel.of_keeps k1
  have hl : (rs.map Rv.arg).length = np := Classical.byContradiction fun q => by
    rw [hbad _ _ q] at w
    exact w
  cases hv : rs.any Rv.isVw with
  | false =>
    refine ⟨Clo R env σ, _, m, rel1.ok, r1.args (M' := Clo R env σ) (M := Clo R env σ) (fun a q => q) rel.trkC (fun q => by rw [hv] at q; cases q), hl, T.wp_mono w fun p wp v H2 k2 r2 => ?_⟩
    exact hP p (wp_iff wp).2 v H2 (k1.trans k2) (r2.anyO.since k1)
  | true =>
    refine ⟨R.Mx, _, m, ⟨rel1.box, rel1.bxM, rel1.trk⟩, r1.args (M' := R.Mx) (M := Clo R env σ) (fun a q => .inl q) rel.trk (fun _ a o q => rel.mx a o q), hl, T.wp_mono w fun p wp v H2 k2 r2 => ?_⟩
    obtain ⟨hn, wp⟩ := wp_iff wp
    rw [hv] at hn
    exact hP p wp v H2 (k1.trans k2) ((r2.ofFree hn).since k1)
theorem cCall (g : Good X z cx c n) {k : Nat} {es : Es} {x : Str} {l : List Expr} {p pos : Pos} (hx : glbB cx x = true) (hk : cx.fn k = some x) (ho : okEs cx es l = true) (ha : PEs X z c es l) : Three X z c (.call k es) (.Call (.Name x p) l [] pos) := by
  obtain ⟨np, f, fd, ps, F, hm, kp, hb, hbad⟩ := (g.fn k x hk).ex
  unfold glbB at hx
  rw [Bool.and_eq_true] at hx
  cases l with
  | nil =>
    cases es with
    | cons _ _ => exact ha.elim
    | nil =>
      refine Three.plain g.K (PE.imp (pe_call0 (E := fun _ _ _ => False) (dvs := []) F g.hr (g.gl' hx.1) hm kp hb .nil (fun _ _ _ _ _ _ _ q => q.elim) (plain_of hx.2).1) fun σ H Q ⟨R, env, m, rel, w⟩ => ?_) (fun _ => rfl) (fun q => q)
      simp only [ev, evs] at w
      rw [T.wp_bind] at w
      simp only [T.wp] at w
      exact rdCall (E := fun _ _ _ => False) hbad rel w Keeps.refl rfl fun p hp v H' k r => hp v H' k r
  | cons e l =>
    cases es with
    | nil => exact ha.elim
    | cons a as =>
      have ho' := ho
      simp only [okEs, Bool.and_eq_true] at ho'
      refine Three.plain g.K (PE.imp (pe_call (E := fun _ _ _ => False) (dvs := []) F g.hr (g.gl' hx.1) hm kp hb .nil (fun _ _ _ _ _ _ _ q => q.elim) (PEs.pa ho ha) (plain_of hx.2).1 (okE_star ho'.1 l X.env) (okEs_star X.env ho'.2 pos)) fun σ H Q ⟨R, env, m, rel, w⟩ => ?_) (fun _ => rfl) (fun q => q)
      rw [ev] at w
      rw [T.wp_bind] at w
      refine ⟨R, env, m, rel, T.wp_mono w fun p wp vs H1 k1 r1 => ?_⟩
      dsimp only []
      rw [List.append_nil]
      exact rdCall (E := fun _ _ _ => False) hbad rel wp k1 r1 fun p hp v H' k r => hp v H' k r
theorem cDraw (g : Good X z cx c n) {i : Nat} {a : E} {x b : Str} {y : Expr} {p p2 pos : Pos} (hx : glbB cx x = true) (hk : x = cx.dr) (h1 : cx.N[i]? = some b) (h2 : visB cx.sc b = true) (h3 : plainName b = true) (ho : okE cx a y = true) (ha : PE X y (tE z c a)) : Three X z c (.draw i a) (.Call (.Name x p) [.Name b p2, y] [] pos) := by
  subst hk
  obtain ⟨f, fd, ps, F, hm, kp, hb⟩ := g.dr.ex
  unfold glbB at hx
  rw [Bool.and_eq_true] at hx
  refine Three.plain g.K (PE.imp (pe_call (E := fun _ _ _ => False) (dvs := []) F g.hr (g.gl' hx.1) hm kp hb .nil (fun _ _ _ _ _ _ _ q => q.elim) (pa_cons (pVar g h1 h2 h3) (pa_cons ha pa_nil (okE_star ho [] X.env)) rfl) (plain_of hx.2).1 rfl ?_) fun σ H Q ⟨R, env, m, rel, w⟩ => ?_) (fun _ => rfl) (fun q => q)
  · rw [okE_star ho]; rfl
  · simp only [ev] at w
    obtain ⟨hbx, w⟩ := wp_iff w
    rw [T.wp_bind] at w
    have hl : loadS env[i]? = some (.v .box) := by
      unfold boxS at hbx
      split at hbx
      · rename_i e; rw [e]; rfl
      · cases hbx
    obtain ⟨v, e1, r1⟩ := rel.load hl
    simp only [RepR, Rep] at r1
    obtain ⟨bb, cc, ez, rfl⟩ := r1
    refine ⟨_, e1, R, env, m, rel, T.wp_mono w fun p wp v H1 k1 r1 => ?_⟩
    unfold drawT at wp
    split at wp
    · rename_i mm hq
      rw [hq] at r1
      obtain ⟨hm, wp⟩ := wp_iff wp
      rw [Bool.and_eq_true, decide_eq_true_eq, decide_eq_true_eq] at hm
      refine ⟨bb, cc, mm, ez, by rw [r1.int]; rfl, hm.1, hm.2, (rel.of_keeps k1).box, fun d H2 d0 d1 k2 => ?_⟩
      exact wp.2 d d0 d1 _ H2 (k1.trans k2) (by simp only [RepR, Rep])
    · exact wp.elim

/-! ### what is walked -/
theorem optT_vw {b : Bool} {r : Rv} {xs : List Val} (h : optT b r = some xs) : (r.isVw = false ∨ b = true) ∧ r.items = some xs := by
  cases r with
  | v x => exact ⟨.inl rfl, h⟩
  | new ys => exact ⟨.inl rfl, h⟩
  | vw ys =>
    cases b with
    | true => exact ⟨.inr rfl, h⟩
    | false => cases h
/-- what the walked thing avoids -/
theorem avoid {R : Fr} {env : Env} {σ : St} {H : Hp} (rel : Rel z R env σ H) {b : Bool} {r : Rv} (h : r.isVw = false ∨ b = true) : (∀ a, (if b = true then R.Mx else Clo R env σ) a → Clo R env σ a) ∧ (r.isVw = false ∨ ∀ a, OwnA env σ a → ¬ (if b = true then R.Mx else Clo R env σ) a) := by
  cases b with
  | true =>
    simp only [if_true]
    exact ⟨fun a m => .inl m, .inr fun a o => rel.mx a o⟩
  | false =>
    simp only [Bool.false_eq_true, if_false, or_false] at h ⊢
    exact ⟨fun a m => m, .inl h⟩
theorem iSeq (bb : Bool) (g : Good X z cx c n) {a : E} {t e : Expr} (ha : PE X e (tE z c a)) : PI X t e (tIt z c bb (.seq a)) := by
  refine PI.imp (pi_any ha) fun σ H Q ⟨R, env, m, rel, w⟩ => ?_
  simp only [evit] at w
  rw [T.wp_bind] at w
  refine ⟨R, env, m, rel, T.wp_mono w fun p wp v H1 k1 r1 => ?_⟩
  obtain ⟨xs, e, wp⟩ := wp_opt wp
  simp only [T.wp] at wp
  obtain ⟨nv, e⟩ := optT_vw e
  have hl := r1.len e
  obtain ⟨av1, av2⟩ := avoid rel nv
  obtain ⟨a, rfl, h⟩ := r1.pinned rel.trkC av1 av2 e
  rw [← g.K]
  refine ⟨a, rfl, ?_⟩
  rcases h with ⟨h1, h2⟩ | ⟨h1, h2⟩
  · exact .inl ⟨h1, wp _ _ H1 k1 src_list hl fun q m => by rw [List.mem_singleton.mp m]; exact h2⟩
  · exact .inr ⟨h1, wp _ _ H1 k1 src_tup hl fun q m => by rw [List.mem_singleton.mp m]; exact h2⟩
theorem iEnum (bb : Bool) (g : Good X z cx c n) {a : E} {t e : Expr} {x : Str} {p pos : Pos} (hx : bltB cx x "enumerate" = true) (ht : isTup t = true) (ho : okE cx a e = true) (ha : PE X e (tE z c a)) : PI X t (.Call (.Name x p) [e] [] pos) (tIt z c bb (.enum a)) := by
  obtain ⟨rfl, h3, h4⟩ := bltB_of hx
  cases t <;> first | cases ht | skip
  refine PI.imp (pi_enumAny (g.gl' h3) (g.blt _ h4) (pa_cons ha pa_nil (okE_star ho [] X.env)) (okE_star ho [] X.env)) fun σ H Q ⟨R, env, m, rel, w⟩ => ?_
  simp only [evit] at w
  rw [T.wp_bind] at w
  refine ⟨R, env, m, rel, T.wp_mono w fun p wp v H1 k1 r1 => ?_⟩
  obtain ⟨xs, e, wp⟩ := wp_opt wp
  simp only [T.wp] at wp
  obtain ⟨nv, e⟩ := optT_vw e
  have hl := r1.len e
  obtain ⟨av1, av2⟩ := avoid rel nv
  obtain ⟨a, rfl, h⟩ := r1.pinned rel.trkC av1 av2 e
  rw [← g.K]
  refine ⟨a, rfl, ?_⟩
  rcases h with ⟨h1, h2⟩ | ⟨h1, h2⟩
  · exact .inl ⟨h1, wp _ _ H1 k1 src_enumL (by rw [enumF_len]; exact hl) fun q m => by rw [List.mem_singleton.mp m]; exact h2⟩
  · exact .inr ⟨h1, wp _ _ H1 k1 src_enumT (by rw [enumF_len]; exact hl) fun q m => by rw [List.mem_singleton.mp m]; exact h2⟩
theorem optI_of {r : Rv} {i : Int} (h : optI r = some i) : r = .v (.int i) := by
  unfold optI at h
  split at h
  · cases h; rfl
  · cases h
theorem small_of {i : Int} (h : smallI i = true) : -1000000 < i ∧ i < 1000000 := by
  unfold smallI at h
  rwa [Bool.and_eq_true, decide_eq_true_eq, decide_eq_true_eq] at h
theorem iRng1V (bb : Bool) (g : Good X z cx c n) {a : E} {t e : Expr} {x : Str} {p pos : Pos} (hx : bltB cx x "range" = true) (ho : okE cx a e = true) (ha : PE X e (tE z c a)) : PI X t (.Call (.Name x p) [e] [] pos) (tIt z c bb (.rng1 a)) := by
  obtain ⟨rfl, h3, h4⟩ := bltB_of hx
  refine PI.imp (pi_range1 (g.gl' h3) (g.blt _ h4) (pa_cons ha pa_nil (okE_star ho [] X.env)) (okE_star ho [] X.env)) fun σ H Q ⟨R, env, m, rel, w⟩ => ?_
  simp only [evit] at w
  rw [T.wp_bind] at w
  refine ⟨R, env, m, rel, T.wp_mono w fun p wp v H1 k1 r1 => ?_⟩
  obtain ⟨i, e, wp⟩ := wp_opt wp
  obtain ⟨hs, wp⟩ := wp_iff wp
  simp only [T.wp] at wp
  have hs := small_of hs
  rw [optI_of e] at r1
  refine ⟨i, by rw [r1.int], by omega, by omega, ?_⟩
  exact wp _ [] H1 k1 src_rng (by rw [rngF_len]; show i.toNat ≤ 16777216; omega) (fun q m => by cases m)
theorem iRng2V (bb : Bool) (g : Good X z cx c n) {a b : E} {t e e2 : Expr} {x : Str} {p pos : Pos} (hx : bltB cx x "range" = true) (ho : okE cx a e = true) (ho2 : okE cx b e2 = true) (ha : PE X e (tE z c a)) (hb : PE X e2 (tE z c b)) : PI X t (.Call (.Name x p) [e, e2] [] pos) (tIt z c bb (.rng2 a b)) := by
  obtain ⟨rfl, h3, h4⟩ := bltB_of hx
  refine PI.imp (pi_range2 (g.gl' h3) (g.blt _ h4) (pa_cons ha (pa_cons hb pa_nil (okE_star ho2 [] X.env)) (okE_star ho _ X.env)) (by rw [okE_star ho, okE_star ho2]; rfl) (okE_star ho2 [] X.env)) fun σ H Q ⟨R, env, m, rel, w⟩ => ?_
  simp only [evit] at w
  rw [T.wp_bind] at w
  refine ⟨R, env, m, rel, T.wp_mono w fun p wp v H1 k1 r1 => ?_⟩
  rw [T.wp_bind] at wp
  refine ⟨R, env, p.2, rel.of_keeps k1, T.wp_mono wp fun q wq u H2 k2 r2 => ?_⟩
  obtain ⟨i, e1, wq⟩ := wp_opt wq
  obtain ⟨j, e2, wq⟩ := wp_opt wq
  obtain ⟨hs, wq⟩ := wp_iff wq
  simp only [T.wp] at wq
  rw [Bool.and_eq_true] at hs
  have hs1 := small_of hs.1
  have hs2 := small_of hs.2
  rw [optI_of e1] at r1
  rw [optI_of e2] at r2
  refine ⟨i, j, by rw [r1.int, r2.int], by omega, ?_⟩
  exact wq _ [] H2 (k1.trans k2) src_rng (by rw [rngF_len]; show (j - i).toNat ≤ 16777216; omega) (fun q m => by cases m)
theorem reps_rng {M : AS} {H : Hp} : ∀ (k : Nat) (a : Int), Reps z M H (rngF k a) ((List.range k).map fun i => V.int (a + (i : Nat)))
  | 0, _ => Reps.nil
  | k + 1, a => by
    rw [List.range_succ_eq_map, List.map_cons, List.map_map, rngF]
    refine Reps.cons (by simp only [Rep]; simp) ?_
    have := reps_rng (M := M) (H := H) k (a + 1)
    have e : ((fun i : Nat => V.int (a + (i : Nat))) ∘ Nat.succ) = fun i : Nat => V.int (a + 1 + (i : Nat)) := by
      funext i; simp only [Function.comp]; congr 1; omega
    rw [e]; exact this
theorem rngVal {R : Fr} {env : Env} {σ : St} {H H1 : Hp} {t : Bool} {i j : Int} {Q : VK} (rel : Rel z R env σ H) (k : Keeps z H H1) (hi : smallI i = true) (hj : smallI j = true)
    (w : ∀ v H', Keeps z H H' → RepR z (Clo R env σ) (OwnA env σ) H H' (rngR t (rngF (j - i).toNat i)) v → Q v H') {q : Addr} (hq : H1 q = none) : Q (.ref q) (upd H1 q (if t = true then .tup (rgV i j) else .lst (rgV i j))) := by
  have h1 := small_of hi
  have h2 := small_of hj
  have res : Res z (Clo R env σ) (OwnA env σ) H1 (rngR t (rngF (j - i).toNat i)) Q := fun v H3 s r3 => w v H3 (k.trans (.same s)) (r3.since k)
  have l : (rngF (j - i).toNat i).length ≤ sizeMax := by rw [rngF_len]; show _ ≤ 16777216; omega
  cases t with
  | true => exact res.tup (rel.ok.keeps k) l (reps_rng _ _) hq
  | false => exact res.new (rel.ok.keeps k) l (reps_rng _ _) hq
theorem cRng1 (g : Good X z cx c n) {t : Bool} {a : E} {w : Expr} {x y : Str} {p p2 p3 pos : Pos} (hx : bltB cx x (if t then "tuple" else "list") = true) (hy : bltB cx y "range" = true) (ho : okE cx a w = true) (ha : PE X w (tE z c a)) : Three X z c (.rngL t .no a) (.Call (.Name x p) [.Call (.Name y p2) [w] [] p3] [] pos) := by
  obtain ⟨rfl, h3, h4⟩ := bltB_of hx
  obtain ⟨rfl, h5, h6⟩ := bltB_of hy
  have rg := prg_1 (p := p2) (pos := p3) (g.gl' h5) (g.blt _ h6) ha (okE_star ho [] X.env)
  have go : ∀ (σ : St) (H : Hp) (Q : VK), tE z c (.rngL t .no a) σ H Q → tRg1 (tE z c a) σ H fun i j H1 => RgOk i j ∧ ∀ q, H1 q = none → Q (.ref q) (upd H1 q (if t = true then .tup (rgV i j) else .lst (rgV i j))) := fun σ H Q ⟨R, env, m, rel, w⟩ => by
    simp only [ev, evo, T.bind] at w
    rw [T.wp_bind] at w
    refine ⟨R, env, m, rel, T.wp_mono w fun p wp v H1 k1 r1 => ?_⟩
    obtain ⟨j, e, wp⟩ := wp_opt wp
    obtain ⟨hs, wp⟩ := wp_iff wp
    simp only [T.wp] at wp
    rw [Bool.and_eq_true] at hs
    rw [optI_of e] at r1
    have b := small_of hs.2
    exact ⟨j, r1.int, ⟨by omega, by omega, by omega, by omega, by omega⟩, fun q hq => rngVal rel k1 hs.1 hs.2 wp hq⟩
  cases t with
  | true => exact Three.plain g.K (PE.imp (pe_tupRg g.tg.calm (g.gl' h3) (g.blt _ h4) rg) fun σ H Q h => go σ H Q h) (fun _ => rfl) (fun q => q)
  | false => exact Three.plain g.K (PE.imp (pe_listRg g.tg.calm (g.gl' h3) (g.blt _ h4) rg) fun σ H Q h => go σ H Q h) (fun _ => rfl) (fun q => q)
theorem cRng2 (g : Good X z cx c n) {t : Bool} {a b : E} {v w : Expr} {x y : Str} {p p2 p3 pos : Pos} (hx : bltB cx x (if t then "tuple" else "list") = true) (hy : bltB cx y "range" = true) (ho : okE cx a v = true) (ho2 : okE cx b w = true) (ha : PE X v (tE z c a)) (hb : PE X w (tE z c b)) : Three X z c (.rngL t (.so a) b) (.Call (.Name x p) [.Call (.Name y p2) [v, w] [] p3] [] pos) := by
  obtain ⟨rfl, h3, h4⟩ := bltB_of hx
  obtain ⟨rfl, h5, h6⟩ := bltB_of hy
  have rg := prg_2 (p := p2) (pos := p3) (g.gl' h5) (g.blt _ h6) ha hb (okE_star ho _ X.env) (okE_star ho2 [] X.env) (by rw [okE_star ho2]; rfl)
  have go : ∀ (σ : St) (H : Hp) (Q : VK), tE z c (.rngL t (.so a) b) σ H Q → tRg2 (tE z c a) (tE z c b) σ H fun i j H1 => RgOk i j ∧ ∀ q, H1 q = none → Q (.ref q) (upd H1 q (if t = true then .tup (rgV i j) else .lst (rgV i j))) := fun σ H Q ⟨R, env, m, rel, w⟩ => by
    simp only [ev, evo] at w
    rw [T.wp_bind, T.wp_bind] at w
    refine ⟨R, env, m, rel, T.wp_mono w fun p wp v H1 k1 r1 => ?_⟩
    obtain ⟨i, e1, wp⟩ := wp_opt wp
    simp only [T.wp] at wp
    rw [T.wp_bind] at wp
    refine ⟨R, env, p.2, rel.of_keeps k1, T.wp_mono wp fun q wq u H2 k2 r2 => ?_⟩
    obtain ⟨j, e2, wq⟩ := wp_opt wq
    obtain ⟨hs, wq⟩ := wp_iff wq
    simp only [T.wp] at wq
    rw [Bool.and_eq_true] at hs
    rw [optI_of e1] at r1
    rw [optI_of e2] at r2
    have b1 := small_of hs.1
    have b2 := small_of hs.2
    simp only [Option.getD_some] at b1 wq hs
    exact ⟨i, j, r1.int, r2.int, ⟨by omega, by omega, by omega, by omega, by omega⟩, fun q hq => rngVal rel (k1.trans k2) hs.1 hs.2 wq hq⟩
  cases t with
  | true => exact Three.plain g.K (PE.imp (pe_tupRg g.tg.calm (g.gl' h3) (g.blt _ h4) rg) fun σ H Q h => go σ H Q h) (fun _ => rfl) (fun q => q)
  | false => exact Three.plain g.K (PE.imp (pe_listRg g.tg.calm (g.gl' h3) (g.blt _ h4) rg) fun σ H Q h => go σ H Q h) (fun _ => rfl) (fun q => q)
end
end MP
end
section
set_option Elab.async false
set_option linter.all false
set_option autoImplicit false
set_option maxRecDepth 100000
set_option maxHeartbeats 8000000
/-! MPMemo: dicts of known answers. -/
namespace MP
open PySem PySem.Spec PyProof.Rows L2
section
variable {z : Zx} {M : AS} {H : Hp}
mutual
theorem Rep.keyR : ∀ {n : Nat} (x : Val) {v : V}, x.key n = true → Rep z M H x v → KeyR z.K H (toKey x) v
  | n, .non, v, h, r => by simp only [Rep] at r; simp only [toKey, KeyR]; exact r
  | n, .int i, v, h, r => by simp only [Rep] at r; simp only [toKey, KeyR]; exact r
  | n, .str s, v, h, r => by simp only [Rep] at r; simp only [toKey, KeyR]; exact r.2
  | n, .tup xs, v, h, r => by
    cases n with
    | zero => simp [Val.key] at h
    | succ n =>
      simp only [Val.key] at h
      simp only [Rep] at r
      simp only [toKey, KeyR]
      obtain ⟨_, a, vs, e, q, rs⟩ := r
      exact ⟨a, vs, e, q, Reps.keyRs xs h rs⟩
  | n, .bl b, v, h, r => by cases n <;> simp [Val.key] at h
  | n, .lst b, v, h, r => by cases n <;> simp [Val.key] at h
  | n, .ref b, v, h, r => by cases n <;> simp [Val.key] at h
  | n, .box, v, h, r => by cases n <;> simp [Val.key] at h
  | n, .fn b, v, h, r => by cases n <;> simp [Val.key] at h
theorem Reps.keyRs : ∀ {n : Nat} (x : List Val) {v : List V}, Val.keys n x = true → Reps z M H x v → KeyRs z.K H (toKeys x) v
  | n, [], v, h, r => by simp only [Reps] at r; simp only [toKeys, KeyRs]; exact r
  | n, x :: xs, v, h, r => by
    simp only [Val.keys, Bool.and_eq_true] at h
    simp only [Reps] at r
    simp only [toKeys, KeyRs]
    obtain ⟨w, ws, e, r1, r2⟩ := r
    exact ⟨w, ws, e, Rep.keyR x h.1 r1, Reps.keyRs xs h.2 r2⟩
end
mutual
theorem key_depth : ∀ {n : Nat} (x : Val), x.key n = true → (toKey x).depth ≤ n
  | n, .non, h => by simp [toKey, NestedKey.depth]
  | n, .int i, h => by simp [toKey, NestedKey.depth]
  | n, .str s, h => by simp [toKey, NestedKey.depth]
  | n, .tup xs, h => by
    cases n with
    | zero => simp [Val.key] at h
    | succ n =>
      simp only [Val.key] at h
      simp only [toKey, NestedKey.depth]
      have := keys_depth xs h
      omega
  | n, .bl b, h => by cases n <;> simp [Val.key] at h
  | n, .lst b, h => by cases n <;> simp [Val.key] at h
  | n, .ref b, h => by cases n <;> simp [Val.key] at h
  | n, .box, h => by cases n <;> simp [Val.key] at h
  | n, .fn b, h => by cases n <;> simp [Val.key] at h
theorem keys_depth : ∀ {n : Nat} (x : List Val), Val.keys n x = true → NestedKey.depthAll (toKeys x) ≤ n
  | n, [], h => by simp [toKeys, NestedKey.depthAll]
  | n, x :: xs, h => by
    simp only [Val.keys, Bool.and_eq_true] at h
    simp only [toKeys, NestedKey.depthAll]
    have a := key_depth x h.1
    have b := keys_depth xs h.2
    omega
end
theorem keyOk_of {K : Known} {v : Val} (h : keyOk K v = true) : v.isTup = true ∧ v.key 8 = true ∧ K.dom v = true ∧ (K.D v).imm = true := by
  unfold keyOk at h
  simp only [Bool.and_eq_true] at h
  exact ⟨h.1.1.1, h.1.1.2, h.1.2, h.2⟩
theorem imm_V {v : Val} (h : v.imm = true) : ∃ iv, immV v = some iv := by
  cases v <;> simp [Val.imm] at h <;> exact ⟨_, rfl⟩
theorem imm_rep {v : Val} {iv : V} (h : immV v = some iv) : Rep z M H v iv := by
  cases v <;> simp only [immV, Option.some.injEq, reduceCtorEq] at h <;> subst h <;> simp only [Rep]
theorem imm_of {v : Val} {iv u : V} (h : immV v = some iv) (r : Rep z M H v u) : u = iv := by
  cases v <;> simp only [immV, Option.some.injEq, reduceCtorEq] at h <;> subst h <;> simpa only [Rep] using r
end
section
variable {X : Cx} {z : Zx} {pins : List (Addr × PySem.Obj)} {σ : L2.St} {H : Hp} {s : Shared}
mutual
theorem KeyR.is (I : Inv X pins σ H s) : ∀ (k : NestedKey) {v : V} {u : Value}, KeyR X.K H k v → RelV v u → NestedIs s.heap k u
  | .none, v, u, h, r => by
    simp only [KeyR] at h; subst h
    obtain rfl : u = Value.none := r
    exact .none
  | .num i, v, u, h, r => by
    simp only [KeyR] at h; subst h
    obtain ⟨t, rfl⟩ := (show ∃ t, u = Value.int i t from r)
    exact .int i t
  | .text x, v, u, h, r => by
    simp only [KeyR] at h; subst h
    obtain ⟨t, rfl⟩ := (show ∃ t, u = Value.str x t from r)
    exact .text x t
  | .tup ks, v, u, h, r => by
    simp only [KeyR] at h
    obtain ⟨a, vs, rfl, q, rs⟩ := h
    obtain rfl : u = Value.ref a := r
    obtain ⟨its, ri, ⟨o, h1, h2, n, h3⟩, _⟩ := I.tuple q
    exact .tup h1 h2 h3 (by simpa using KeyRs.is I ks rs ri)
theorem KeyRs.is (I : Inv X pins σ H s) : ∀ (k : List NestedKey) {v : List V} {u : List Value}, KeyRs X.K H k v → Vals v u → NestedAll s.heap k u
  | [], v, u, h, r => by
    simp only [KeyRs] at h; subst h
    cases r
    exact .nil
  | k :: ks, v, u, h, r => by
    simp only [KeyRs] at h
    obtain ⟨w, ws, rfl, h1, h2⟩ := h
    cases r with
    | cons r1 r2 => exact .cons (KeyR.is I k h1 r1) (KeyRs.is I ks h2 r2)
end
theorem MemoX.dict {a : Addr} {xs : Ents} (I : Inv X pins σ H s) (hK : z.K = X.K) (hw : z.w = X.w) (m : MemoX z H a xs) : s.heap.DictOfH (nestedKind X.prog X.w) a xs := by
  obtain ⟨⟨o, es, ep, h1, h2, h3, h4, h5⟩, _, _⟩ := I.hok a _ m.at_
  refine ⟨o, es, ep, h1, h2, h3, ?_, fun x hx => ?_, h5⟩
  · rw [hw] at h4
    exact h4
  · obtain ⟨kv, k1, k2, k3, _⟩ := m.ent x hx
    rw [hK] at k3
    refine ⟨KeyR.is I _ k3 rfl, ?_⟩
    rw [k2]
    exact key_depth kv (keyOk_of k1).2.1
theorem atKey_some {xs : Ents} {k : NestedKey} {p : Addr × Value} (h : atKey xs k = some p) : (k, p) ∈ xs := by
  unfold atKey at h
  rw [Option.map_eq_some_iff] at h
  obtain ⟨x, e, rfl⟩ := h
  have := List.find?_some e
  have e2 : x.1 = k := by simpa using this
  have m := List.mem_of_find?_eq_some e
  rw [← e2]
  exact m
theorem atKey_isSome {xs : Ents} {k : NestedKey} : (atKey xs k).isSome = true ↔ ∃ x ∈ xs, x.1 = k := by
  unfold atKey
  rw [Option.isSome_map, List.find?_isSome]
  simp only [decide_eq_true_eq]
/-- what is told of a key that is there -/
theorem MemoX.val {a : Addr} {xs : Ents} {kv : Val} {p : Addr × Value} (m : MemoX z H a xs) (hk : keyOk z.M kv = true) (h : atKey xs (toKey kv) = some p) : ∃ iv, immV (z.M.D kv) = some iv ∧ RelV iv p.2 := by
  obtain ⟨kv', k1, k2, _, k4⟩ := m.ent _ (atKey_some h)
  have : kv = kv' := toKey_inj (keyOk_of hk).2.1 (keyOk_of k1).2.1 k2
  subst this
  exact k4
theorem MemoX.keys {a : Addr} {xs : Ents} (m : MemoX z H a xs) : ∃ ks : List Val, ks.map toKey = xs.map (·.1) ∧ ∀ k ∈ ks, keyOk z.M k = true := by
  have key : ∀ ys : Ents, (∀ x ∈ ys, EntOk z H x) → ∃ ks : List Val, ks.map toKey = ys.map (·.1) ∧ ∀ k ∈ ks, keyOk z.M k = true := fun ys => by
    induction ys with
    | nil => intro _; exact ⟨[], rfl, by simp⟩
    | cons y ys ih =>
      intro h
      obtain ⟨ks, e, q⟩ := ih fun x hx => h x (List.mem_cons_of_mem _ hx)
      obtain ⟨kv, k1, k2, _⟩ := h y List.mem_cons_self
      exact ⟨kv :: ks, by rw [List.map_cons, List.map_cons, e, k2], fun k hk => by
        rcases List.mem_cons.mp hk with rfl | hk
        · exact k1
        · exact q k hk⟩
  exact key xs m.ent
theorem nodup_of_map {α β : Type} (f : α → β) {l : List α} (h : (l.map f).Nodup) : l.Nodup := by
  rw [List.Nodup, List.pairwise_map] at h
  exact h.imp fun q e => q (by rw [e])
theorem MemoX.len {a : Addr} {xs : Ents} (I : Inv X pins σ H s) (m : MemoX z H a xs) (lim : ∀ ks : List Val, ks.Nodup → (∀ k ∈ ks, z.M.dom k = true) → ks.length ≤ 16000000) : xs.length ≤ 16000000 := by
  obtain ⟨ks, e, q⟩ := m.keys
  obtain ⟨⟨o, es, ep, h1, h2, h3, h4, h5⟩, _, _⟩ := I.hok a _ m.at_
  have : xs.length = ks.length := by
    have := congrArg List.length e
    simpa using this.symm
  rw [this]
  refine lim ks (nodup_of_map toKey (by rw [e]; exact h5)) fun k hk => (keyOk_of (q k hk)).2.2.1
/-- two readings of one dict have the same keys -/
theorem MemoX.uniq {a : Addr} {xs ys : Ents} (I : Inv X pins σ H s) (hK : z.K = X.K) (m : MemoX z H a xs) (m' : MemoX z H a ys) : xs.map (·.1) = ys.map (·.1) := by
  obtain ⟨⟨o, es, ep, h1, h2, h3, h4, h5⟩, _, _⟩ := I.hok a _ m.at_
  obtain ⟨⟨o', es', ep', h1', h2', h3', h4', h5'⟩, _, _⟩ := I.hok a _ m'.at_
  rw [h1] at h1'
  cases h1'
  rw [h3] at h3'
  cases h3'
  rw [h4] at h4'
  have key : ∀ xs ys : Ents, (∀ x ∈ xs, EntOk z H x) → (∀ x ∈ ys, EntOk z H x) → xs.map (fun x => (⟨x.1.hash z.w, .ref x.2.1, x.2.2⟩ : DictEntry)) = ys.map (fun x => (⟨x.1.hash z.w, .ref x.2.1, x.2.2⟩ : DictEntry)) → xs.map (·.1) = ys.map (·.1) := fun xs => by
    induction xs with
    | nil =>
      intro ys _ _ e
      cases ys with
      | nil => rfl
      | cons y ys => simp at e
    | cons x xs ih =>
      intro ys hx hy e
      cases ys with
      | nil => simp at e
      | cons y ys =>
        rw [List.map_cons, List.map_cons] at e
        injection e with e1 e2
        rw [List.map_cons, List.map_cons, ih ys (fun x h => hx x (List.mem_cons_of_mem _ h)) (fun x h => hy x (List.mem_cons_of_mem _ h)) e2]
        congr 1
        injection e1 with e3 e4 e5
        injection e4 with e4
        obtain ⟨kv, _, _, k3, _⟩ := hx x List.mem_cons_self
        obtain ⟨kv', _, _, k3', _⟩ := hy y List.mem_cons_self
        rw [hK] at k3 k3'
        have n1 := KeyR.is I _ k3 (show RelV (.ref x.2.1) (.ref x.2.1) from rfl)
        have n2 := KeyR.is I _ k3' (show RelV (.ref y.2.1) (.ref y.2.1) from rfl)
        rw [← e4] at n2
        exact NestedIs.inj _ _ _ n1 n2
  exact key xs ys m.ent m'.ent h4'
end
theorem dictO_new {P : Program} {w w' : World} {H : Hp} (h : Heap) : ObjOk P w' H (h.push { cls := .type "dict", data := .dict #[] }) h.objs.size (dictO w h.objs.size []) :=
  ⟨⟨_, #[], 0, Heap.get?_push_size _ rfl, ⟨rfl, rfl, rfl⟩, rfl, rfl, List.nodup_nil⟩, ⟨_, Heap.get?_push_size _ rfl⟩, fun h1 h2 ⟨o, es, ep, a, r⟩ st => ⟨o, es, ep, st o a, r⟩⟩
section
variable {X : Cx} {z : Zx} {c : Ctx} {n : Nat} {cx : Chk}
theorem cMemo (g : Good X z cx c n) {pos : Pos} : Three X z c .memo (.Dict [] [] pos) := by
  refine Three.plain g.K ⟨fun pins s σ H Q I ⟨R, env, m, rel, w⟩ => ?_⟩ (fun _ => rfl) id
  have fr : H s.heap.objs.size = none := I.hok.fresh (Nat.le_refl _)
  refine wpAny_Dict_empty ⟨.ref s.heap.objs.size, _, I.laid (a := s.heap.objs.size) (o := dictO z.w s.heap.objs.size []) (t' := s.toks) (fun _ _ q => Heap.get?_push_of_some _ q) (Nat.le_refl _) (dictO_new s.heap), rfl, ?_⟩
  have w : ∀ v H', Keeps z H H' → RepR z (Clo R env σ) (OwnA env σ) H H' (.v (.ref 0)) v → Q v H' := w
  refine w _ _ (Keeps.new fr) ?_
  simp only [RepR, Rep]
  exact ⟨_, rfl, [], upd_same, beq_eq_false_iff_ne.mpr (Ne.symm (Nat.ne_of_lt I.big)), fun x hx => by cases hx⟩
/-- k not in d -/
def rNotInM (z : Zx) : R2 := fun x y H Q => ∃ (kv : Val) (a b : Addr) (xs : Ents) (M : AS), x = .ref b ∧ keyOk z.M kv = true ∧ Rep z M H kv x ∧ y = .ref a ∧ MemoX z H a xs ∧ Q (.bl (!(atKey xs (toKey kv)).isSome)) H
theorem room_of {A : Around} (h : A.units + 65 < cLine) (P : Program) (w : World) : (nestedKind P w).room A.in1 := by
  show A.units + 1 + 8 < cLine
  omega
theorem key_is {pins : List (Addr × PySem.Obj)} {σ : L2.St} {H : Hp} {s : Shared} {kv : Val} {b : Addr} {M : AS} (I : Inv X pins σ H s) (hK : z.K = X.K) (hk : keyOk z.M kv = true) (r : Rep z M H kv (.ref b)) : (nestedKind X.prog X.w).is s.heap (toKey kv) b := by
  have k := Rep.keyR kv (keyOk_of hk).2.1 r
  rw [hK] at k
  exact ⟨KeyR.is I _ k rfl, key_depth kv (keyOk_of hk).2.1⟩
theorem op_notinM (hK : z.K = X.K) (hw : z.w = X.w) (hu : X.A.units + 65 < cLine) : OpR X (compareOp .NotIn) (rNotInM z) := by
  intro pins s σ H x y v u Q I rx ry h
  obtain ⟨kv, a, b, xs, M, rfl, hk, r, rfl, m, q⟩ := h
  obtain rfl : v = Value.ref b := rx
  obtain rfl : u = Value.ref a := ry
  exact wpAny_notIn_heap (room_of hu X.prog X.w) (key_is I hK hk r) m.ns (m.dict I hK hw) ⟨.bl (!(atKey xs (toKey kv)).isSome), H, I.tok _, rfl, q⟩
/-- d[k], there -/
def tGetM (z : Zx) (td ty : TE) : TE := fun σ H Q => td σ H fun x H1 => ty σ H1 fun y H2 => ∃ (kv : Val) (a b : Addr) (xs : Ents) (M : AS), x = .ref a ∧ y = .ref b ∧ keyOk z.M kv = true ∧ Rep z M H2 kv y ∧ MemoX z H2 a xs ∧ (∃ e ∈ xs, e.1 = toKey kv) ∧ ∀ iv, immV (z.M.D kv) = some iv → Q iv H2
theorem pe_getM {o i : Expr} {pos : Pos} {td ty : TE} (hK : z.K = X.K) (hw : z.w = X.w) (hu : X.A.units + 65 < cLine) (ho : PE X o td) (hi : PE X i ty) (hs : NoSl i) : PE X (.Subscript o i pos) (tGetM z td ty) := by
  refine ⟨fun pins s σ H Q I h => ?_⟩
  refine subD_of PySem.F.slot_dict_getitem.lookup hs (thn (ho.run pins s σ H _ I h) fun u s1 ⟨x, H1, I1, rx, q1⟩ => thn (hi.run pins s1 σ H1 _ I1 q1) fun iv s2 ⟨y, H2, I2, ry, kv, a, b, xs, M, ex, ey, hk, r, m, hp, q2⟩ => ?_)
  subst ex ey
  obtain rfl : u = Value.ref a := rx
  obtain rfl : iv = Value.ref b := ry
  have dd := m.dict I2 hK hw
  obtain ⟨p, hp⟩ := Option.isSome_iff_exists.mp (atKey_isSome.mpr hp)
  obtain ⟨jv, e1, e2⟩ := m.val hk hp
  exact ⟨dd.typeIs, wpAny_getItem_heap (room_of hu X.prog X.w) (key_is I2 hK hk r) dd hp ⟨jv, H2, I2.tok _, e2, q2 jv e1⟩⟩
/-- d[k] = v -/
def tPutM (z : Zx) (td ty tv : TE) : TS := fun D σ H => tv σ H fun v H1 => td σ H1 fun x H2 => ty σ H2 fun y H3 => ∃ (kv : Val) (a b : Addr) (xs : Ents) (M : AS), x = .ref a ∧ y = .ref b ∧ keyOk z.M kv = true ∧ Rep z M H3 kv y ∧ MemoX z H3 a xs ∧ immV (z.M.D kv) = some v ∧
  ∀ ys, MemoX z (L2.upd H3 a (dictO z.w a ys)) a ys → (∃ e ∈ ys, e.1 = toKey kv) → (∀ zs, MemoX z H3 a zs → ∀ x ∈ zs, ∃ y ∈ ys, y.1 = x.1) → D.nx σ (L2.upd H3 a (dictO z.w a ys))
theorem ps_putM {o i value : Expr} {pos pos' : Pos} {td ty tv : TE} (hK : z.K = X.K) (hw : z.w = X.w) (hu : X.A.units + 65 < cLine) (lim : ∀ ks : List Val, ks.Nodup → (∀ k ∈ ks, z.M.dom k = true) → ks.length ≤ 16000000) (ho : PE X o td) (hi : PE X i ty) (hv : PE X value tv) (hs : swapsWith value (some (.Subscript o i pos')) pos.line X.env = pure false) :
    PS X (.Assign [.Subscript o i pos'] value pos) (tPutM z td ty tv) := by
  refine ⟨fun pins s σ H D I h => ?_⟩
  refine wpAny_Assign_Subscript (thn (hv.run pins s σ H _ I h) fun r s1 ⟨v, H1, I1, rv, q1⟩ => thn (ho.run pins s1 σ H1 _ I1 q1) fun u s2 ⟨x, H2, I2, rx, q2⟩ => thn (hi.run pins s2 σ H2 _ I2 q2) fun iv s3 ⟨y, H3, I3, ry, kv, a, b, xs, M, ex, ey, hk, rk, m, hd, q3⟩ => ?_) hs
  subst ex ey
  obtain rfl : u = Value.ref a := rx
  obtain rfl : iv = Value.ref b := ry
  have dd := m.dict I3 hK hw
  have hl := m.len I3 lim
  have key := Rep.keyR kv (keyOk_of hk).2.1 rk
  have hz : xs.length ≤ sizeLine := by rw [sizeLine_eq]; omega
  refine wpAny_setItem_heap (hsz := hz) (room_of hu X.prog X.w) (key_is I3 hK hk rk) dd fun h' dd' hs => ?_
  obtain ⟨q, es, ep, hq, h2, h3, h4, _, h5⟩ := dd'
  have ms : ∀ x ∈ storedH xs (toKey kv) b r, EntOk z H3 x := fun x hx => by
    unfold storedH at hx
    split at hx
    · obtain ⟨w, hw', rfl⟩ := List.mem_map.mp hx
      unfold putAt
      split
      · rename_i e
        obtain ⟨kv', k1, k2, k3, _⟩ := m.ent w hw'
        have : kv = kv' := toKey_inj (keyOk_of hk).2.1 (keyOk_of k1).2.1 (by rw [← e, k2])
        subst this
        exact ⟨kv, k1, k2, k3, v, hd, rv⟩
      · exact m.ent w hw'
    · rcases List.mem_append.mp hx with hx | hx
      · exact m.ent x hx
      · cases List.mem_singleton.mp hx
        exact ⟨kv, hk, rfl, key, v, hd, rv⟩
  have hsub : ∀ x ∈ xs, ∃ y ∈ storedH xs (toKey kv) b r, y.1 = x.1 := fun x hx => by
    unfold storedH
    split
    · refine ⟨putAt (toKey kv) r x, List.mem_map_of_mem hx, ?_⟩
      unfold putAt; split <;> rfl
    · exact ⟨x, List.mem_append_left _ hx, rfl⟩
  have hthere : ∃ e ∈ storedH xs (toKey kv) b r, e.1 = toKey kv := by
    unfold storedH
    split
    · rename_i hi
      obtain ⟨x, hx, e⟩ := atKey_isSome.mp hi
      refine ⟨putAt (toKey kv) r x, List.mem_map_of_mem hx, ?_⟩
      unfold putAt; split
      · exact e
      · exact e
    · exact ⟨(toKey kv, b, r), List.mem_append_right _ (by simp), rfl⟩
  have at3 := m.at_
  have nl : ∀ ws, H3 a ≠ some (.lst ws) := fun ws e => by rw [at3] at e; cases e
  have nt : ∀ c ws, SqT z.K H3 c ws → SqT z.K (L2.upd H3 a (dictO z.w a (storedH xs (toKey kv) b r))) c ws := fun c ws h => by
    rcases h with (h | ⟨o, h⟩) | h
    · exact .inl (.inl (by rw [upd_ne (fun q => by subst q; rw [at3] at h; cases h)]; exact h))
    · exact .inl (.inr ⟨o, by rw [upd_ne (fun q => by subst q; rw [at3] at h; cases h)]; exact h⟩)
    · exact .inr h
  have I4 : Inv X pins σ (L2.upd H3 a (dictO z.w a (storedH xs (toKey kv) b r))) { s3 with heap := h', toks := s3.toks + (nestedKind X.prog X.w).draws (toKey kv) } := by
    refine d_write I3 (by rw [at3]; exact True.intro) hs ⟨q, hq⟩ ⟨⟨q, es, ep, hq, h2, h3, ?_, h5⟩, ⟨q, hq⟩, fun h1 h2 ⟨o, es, ep, a, r⟩ st => ⟨o, es, ep, st o a, r⟩⟩
    rw [hw]
    exact h4
  refine ⟨σ, _, I4, q3 (storedH xs (toKey kv) b r) ⟨upd_same, m.ns, fun x hx => ?_⟩ hthere fun zs mz x hx => ?_⟩
  · obtain ⟨kv', k1, k2, k3, k4⟩ := ms x hx
    exact ⟨kv', k1, k2, KeyR.mono nt _ k3, k4⟩
  · have e := mz.uniq I3 hK m
    have : x.1 ∈ zs.map (·.1) := List.mem_map_of_mem hx
    rw [e] at this
    obtain ⟨y, hy, ey⟩ := List.mem_map.mp this
    obtain ⟨w, hw', ew⟩ := hsub y hy
    exact ⟨w, hw', ew.trans ey⟩
end
end MP
end
section
set_option Elab.async false
set_option linter.all false
set_option autoImplicit false
set_option maxRecDepth 100000
set_option maxHeartbeats 8000000
/-! MPDic: own dicts with whole numbers as keys. -/
namespace MP
open PySem PySem.Spec PyProof.Rows L2
section
variable {z : Zx} {M : AS} {H : Hp}
theorem DR.find {n : Int} : ∀ {kvs : List (Int × Val)} {ks : List (Key × V)}, DR z M H kvs ks → (dFind kvs n = none ∧ valV ks (.inl n : Key) = none) ∨ ∃ x v, dFind kvs n = some x ∧ valV ks (.inl n : Key) = some v ∧ Rep z M H x v
  | [], ks, h => by rw [show ks = [] from h]; exact .inl ⟨rfl, rfl⟩
  | p :: kvs, ks, h => by
    obtain ⟨v, r, rfl, h1, h2⟩ := h
    by_cases e : p.1 = n
    · refine .inr ⟨p.2, v, ?_, ?_, h1⟩
      · unfold dFind; rw [List.find?_cons_of_pos (by simpa using e)]; rfl
      · unfold valV; rw [List.find?_cons_of_pos (by simp [e])]; rfl
    · have e1 : dFind (p :: kvs) n = dFind kvs n := by unfold dFind; rw [List.find?_cons_of_neg (by simpa using e)]
      have e2 : valV (((.inl p.1 : Key), v) :: r) (.inl n : Key) = valV r (.inl n : Key) := by unfold valV; rw [List.find?_cons_of_neg (by simpa using e)]
      rw [e1, e2]
      exact DR.find h2
theorem DR.any {n : Int} {kvs : List (Int × Val)} {ks : List (Key × V)} (h : DR z M H kvs ks) : (ks.any fun kv => decide (kv.1 = (.inl n : Key))) = kvs.any fun p => decide (p.1 = n) := by
  induction kvs generalizing ks with
  | nil => rw [show ks = [] from h]; rfl
  | cons p kvs ih =>
    obtain ⟨v, r, rfl, h1, h2⟩ := h
    rw [List.any_cons, List.any_cons, ih h2]
    congr 1
    simp
theorem DR.repl {n : Int} {x : Val} {v : V} (rx : Rep z M H x v) : ∀ {kvs : List (Int × Val)} {ks : List (Key × V)}, DR z M H kvs ks → DR z M H (kvs.map fun p => if p.1 = n then (p.1, x) else p) (ks.map fun kv => if kv.1 = (.inl n : Key) then (kv.1, v) else kv)
  | [], ks, h => by rw [show ks = [] from h]; rfl
  | p :: kvs, ks, h => by
    obtain ⟨u, r, rfl, h1, h2⟩ := h
    rw [List.map_cons, List.map_cons]
    by_cases e : p.1 = n
    · rw [if_pos e, if_pos (by rw [e])]
      exact ⟨v, _, rfl, rx, DR.repl rx h2⟩
    · rw [if_neg e, if_neg (by simpa using e)]
      exact ⟨u, _, rfl, h1, DR.repl rx h2⟩
theorem DR.snoc {n : Int} {x : Val} {v : V} (rx : Rep z M H x v) : ∀ {kvs : List (Int × Val)} {ks : List (Key × V)}, DR z M H kvs ks → DR z M H (kvs ++ [(n, x)]) (ks ++ [((.inl n : Key), v)])
  | [], ks, h => by rw [show ks = [] from h]; exact ⟨v, [], rfl, rx, rfl⟩
  | p :: kvs, ks, h => by
    obtain ⟨u, r, rfl, h1, h2⟩ := h
    exact ⟨u, _, rfl, h1, DR.snoc rx h2⟩
theorem DR.put {n : Int} {x : Val} {v : V} {kvs : List (Int × Val)} {ks : List (Key × V)} (h : DR z M H kvs ks) (rx : Rep z M H x v) : DR z M H (dPut kvs n x) (putK ks (.inl n : Key) v) := by
  unfold dPut putK
  rw [h.any]
  split
  · exact h.repl rx
  · exact h.snoc rx
theorem dPut_len (kvs : List (Int × Val)) (k : Int) (v : Val) : (dPut kvs k v).length ≤ kvs.length + 1 := by
  unfold dPut
  split
  · simp
  · simp
theorem dicS_of {env : Env} {i : Nat} {kvs : List (Int × Val)} (h : dicS env i = some kvs) : env[i]? = some (.own (.d kvs)) := by
  unfold dicS at h
  split at h
  · rename_i e; rw [e]; cases h; rfl
  · cases h
theorem Rel.dic {R : Fr} {env : Env} {σ : St} {H : Hp} (rel : Rel z R env σ H) {i : Nat} {kvs : List (Int × Val)} (h : dicS env i = some kvs) : ∃ a ks, env[i]? = some (.own (.d kvs)) ∧ σ[i]? = some (some (.ref a)) ∧ H a = some (.dK ks) ∧ DR z (Clo R env σ) H kvs ks ∧ kvs.length ≤ sizeMax := by
  have e := dicS_of h
  have hi : i < σ.length := by
    rw [rel.len]
    exact (List.getElem?_eq_some_iff.mp e).1
  have ho := List.getElem?_eq_getElem hi
  have q := rel.slot i _ _ e ho
  generalize σ[i] = o at ho q
  match o, q with
  | some (.ref a), q =>
    obtain ⟨ks, e1, e2, e3⟩ := (show OwnR z _ H (.d kvs) a from q)
    exact ⟨a, ks, e, ho, e1, e2, e3⟩
end
section
variable {X : Cx} {z : Zx} {c : Ctx} {n : Nat} {cx : Chk}
/-- k in d, k not in d -/
def rInD (neg : Bool) : R2 := fun x y H Q => ∃ (a : Addr) (o : Option V), y = .ref a ∧ DGet H a x o ∧ Q (.bl (if neg then !o.isSome else o.isSome)) H
theorem op_inD (hu : X.A.units + 1 < cLine) : OpR X (compareOp .In) (rInD false) := by
  intro pins s σ H x y v u Q I rx ry ⟨a, o, e, g, q⟩
  subst e
  obtain rfl : u = Value.ref a := ry
  exact d_in hu I g rx fun s3 I3 => ⟨.bl o.isSome, H, I3, rfl, q⟩
theorem op_ninD (hu : X.A.units + 1 < cLine) : OpR X (compareOp .NotIn) (rInD true) := by
  intro pins s σ H x y v u Q I rx ry ⟨a, o, e, g, q⟩
  subst e
  obtain rfl : u = Value.ref a := ry
  exact d_notIn hu I g rx fun s3 I3 => ⟨.bl (!o.isSome), H, I3, rfl, q⟩
theorem rdIn {neg : Bool} {k : E} {i : Nat} {R : Fr} {env : Env} {σ : St} {H : Hp} {m : Mem} {P : Rv × Mem → Prop} {Q : VK} (rel : Rel z R env σ H) (w : (ev c (.din neg k i) env m).wp P) (hP : ∀ p b, P p → p.1 = .v (.bl b) → ∀ H', Keeps z H H' → Q (.bl b) H') : tOp (rInD neg) (tE z c k) (tVar i) σ H Q := by
  simp only [ev] at w
  rw [T.wp_bind] at w
  refine ⟨R, env, m, rel, T.wp_mono w fun p wp v H1 k1 r1 => ?_⟩
  obtain ⟨j, ej, wp⟩ := wp_opt wp
  obtain ⟨kvs, ed, wp⟩ := wp_opt wp
  obtain ⟨a, ks, e1, e2, e3, e4, e5⟩ := (rel.of_keeps k1).dic ed
  rw [optI_of ej] at r1
  have hv : v = V.int j := r1.int
  subst hv
  refine ⟨_, e2, a, valV ks (.inl j : Key), rfl, DGet.k (k := .inl j) e3, ?_⟩
  rcases e4.find (n := j) with ⟨f1, f2⟩ | ⟨x, v, f1, f2, _⟩
  · rw [f1] at wp
    rw [f2]
    exact hP _ _ wp rfl H1 k1
  · rw [f1] at wp
    rw [f2]
    exact hP _ _ wp rfl H1 k1
theorem cDin (g : Good X z cx c n) {neg : Bool} {k : E} {i : Nat} {op : CmpOp} {x : Expr} {y : Str} {p1 pos : Pos} (ho : OpR X (compareOp op) (rInD neg)) (hk : PE X x (tE z c k)) (hy : PE X (.Name y p1) (tVar i)) : Three X z c (.din neg k i) (.Compare x [op] [.Name y p1] pos) := by
  refine ⟨PE.imp (pe_cmpR ho hk hy rfl) fun σ H Q ⟨R, env, m, rel, w⟩ => ?_, PT.imp (pt_cmpR ho hk hy rfl) fun σ H Q ⟨R, env, m, rel, w⟩ => ?_, fun q => q.elim⟩
  · refine rdIn rel w fun p b wp e H' kp => wp _ _ kp ?_
    rw [e]
    simp only [RepR, Rep]
  · refine rdIn rel w fun p b ⟨t, e1, wp⟩ e H' kp => ⟨b, rfl, ?_⟩
    rw [e] at e1
    cases e1
    exact wp H' kp
theorem cDget (g : Good X z cx c n) {k : E} {i : Nat} {x : Expr} {y : Str} {p1 pos : Pos} (hk : PE X x (tE z c k)) (hs : NoSl x) (hy : PE X (.Name y p1) (tVar i)) : Three X z c (.dget i k) (.Subscript (.Name y p1) x pos) := by
  refine Three.plain g.K (PE.imp (pe_dget (by have := g.hu; omega) hy hk hs) fun σ H Q ⟨R, env, m, rel, w⟩ => ?_) (fun _ => rfl) id
  simp only [ev] at w
  rw [T.wp_bind] at w
  have w2 : ∃ kvs, dicS env i = some kvs := by
    obtain ⟨p, wp⟩ := T.wp_ex w
    obtain ⟨j, ej, wp⟩ := wp_opt wp
    obtain ⟨kvs, ed, wp⟩ := wp_opt wp
    exact ⟨kvs, ed⟩
  obtain ⟨kvs, ed⟩ := w2
  obtain ⟨a, ks, e1, e2, e3, e4, e5⟩ := rel.dic ed
  refine ⟨.ref a, e2, R, env, m, rel, T.wp_mono w fun p wp v H1 k1 r1 => ?_⟩
  obtain ⟨j, ej, wp⟩ := wp_opt wp
  rw [ed] at wp
  obtain ⟨x, ex, wp⟩ := wp_opt (show (T.opt (dFind kvs j) _).wp _ from wp)
  obtain ⟨a', ks', f1, f2, f3, f4, f5⟩ := (rel.of_keeps k1).dic ed
  rw [e2] at f2
  cases f2
  rw [optI_of ej] at r1
  have hv : v = V.int j := r1.int
  subst hv
  rcases f4.find (n := j) with ⟨g1, g2⟩ | ⟨x', v, g1, g2, g3⟩
  · rw [g1] at ex; cases ex
  · rw [g1] at ex
    cases ex
    exact ⟨a, v, rfl, by rw [← g2]; exact DGet.k (k := .inl j) f3, wp v H1 k1 g3⟩
end
end MP
end
section
set_option Elab.async false
set_option linter.all false
set_option autoImplicit false
set_option maxRecDepth 100000
set_option maxHeartbeats 8000000
/-! MPSoundE: all expressions. -/
namespace MP
open PySem PySem.Spec PyProof.Rows L2
section
variable {z : Zx} {c : Ctx} {n : Nat}
theorem okIt_noSet {cx : Chk} {it : It} {t e : Expr} (h : okIt cx it t e = true) : noSet e = true := by
  cases e <;> first | rfl | (cases it <;> simp [okIt, noSet] at h)
theorem sApp {X : Cx} {cx : Chk} (g : Good X z cx c n) {f : Ap} {es : Es} (ih : ∀ l, okEs cx es l = true → PEs X z c es l) (e : Expr) (h : okE cx (.app f es) e = true) : Three X z c (.app f es) e := by
  simp only [okE] at h
  split at h
  · rename_i x p args pos
    rw [Bool.and_eq_true] at h
    obtain ⟨hx, h⟩ := h
    split at h
    · rw [Bool.and_eq_true] at h
      exact cIsi g hx h.2 h.1 (ih _ h.1)
    · cases h
    · rw [Bool.and_eq_true] at h
      exact cSortSet g hx h.2 h.1 (ih _ h.1)
    · cases h
    · cases h
    · cases args with
      | nil => first | (rename_i q; exact (q rfl).elim) | (rename_i q _; exact (q rfl).elim) | (rename_i q _ _; exact (q rfl).elim) | (rename_i q _ _ _; exact (q rfl).elim) | (rename_i q _ _ _ _; exact (q rfl).elim) | (rename_i q _ _ _ _ _; exact (q rfl).elim)
      | cons e l =>
        have ha := ih _ h
        have hc := g.tg.calm
        have hK := g.K
        have hu : X.A.units + 64 < cLine := by have := g.hu; omega
        cases f with
        | len => exact cAppB g (cr_len hK) hx (by decide +kernel) (by decide) (by decide) h ha
        | tuple => exact cAppT g (cr_tuple hK) hx (by decide +kernel) (by decide) (by decide) h ha
        | list => exact cAppT g (cr_list hK) hx (by decide +kernel) (by decide) (by decide) h ha
        | sum => exact cAppB g (cr_sumV hK hc) hx (by decide +kernel) (by decide) (by decide) h ha
        | any => exact cAppB g (cr_anyV hK hc) hx (by decide +kernel) (by decide) (by decide) h ha
        | all => exact cAppB g (cr_allV hK hc) hx (by decide +kernel) (by decide) (by decide) h ha
        | min => exact cAppB g (cr_minV hK hc hu) hx (by decide +kernel) (by decide) (by decide) h ha
        | max => exact cAppB g (cr_maxV hK hc hu) hx (by decide +kernel) (by decide) (by decide) h ha
        | min2 => exact cAppB g (cr_min2V hc) hx (by decide +kernel) (by decide) (by decide) h ha
        | max2 => exact cAppB g (cr_max2V hc) hx (by decide +kernel) (by decide) (by decide) h ha
        | int => exact cAppT g cr_intV hx (by decide +kernel) (by decide) (by decide) h ha
        | abs => exact cAppB g cr_absV hx (by decide +kernel) (by decide) (by decide) h ha
        | str => exact cAppT g cr_strV hx (by decide +kernel) (by decide) (by decide) h ha
        | isi t => first | (rename_i q; exact (q t rfl).elim) | (rename_i q _; exact (q t rfl).elim) | (rename_i q _ _; exact (q t rfl).elim) | (rename_i q _ _ _; exact (q t rfl).elim) | (rename_i q _ _ _ _; exact (q t rfl).elim) | (rename_i q _ _ _ _ _; exact (q t rfl).elim)
        | sortSet => first | (rename_i q; exact (q rfl).elim) | (rename_i q _; exact (q rfl).elim) | (rename_i q _ _; exact (q rfl).elim) | (rename_i q _ _ _; exact (q rfl).elim) | (rename_i q _ _ _ _; exact (q rfl).elim) | (rename_i q _ _ _ _ _; exact (q rfl).elim)
        | sorted => exact cAppB g (cr_sortedV hK hu) hx (by decide +kernel) (by decide) (by decide) h ha
  · cases h
theorem sUn {X : Cx} {cx : Chk} (g : Good X z cx c n) {u : Un} {a : E} (ih : ∀ e, okE cx a e = true → Three X z c a e) (e : Expr) (h : okE cx (.un u a) e = true) : Three X z c (.un u a) e := by
  have hbN : ∀ r rv, Un.ap .isN r = some rv → ∃ k, rv = .v (.bl k) := fun r rv q => by cases q; exact ⟨_, rfl⟩
  have hbM : ∀ r rv, Un.ap .notN r = some rv → ∃ k, rv = .v (.bl k) := fun r rv q => by cases q; exact ⟨_, rfl⟩
  have hbB : ∀ (f : Bool → Bool) r rv, blV f r = some rv → ∃ k, rv = .v (.bl k) := fun f r rv q => by
    unfold blV at q
    split at q
    · cases q; exact ⟨_, rfl⟩
    · cases q
  simp only [okE] at h
  split at h
  · exact cUn g (pe_un un_negV (ih _ h).1) (fun _ => rfl) (fun q => q)
  · exact Three.cmpC g op_isNV hbN (ih _ h).1 pe_non rfl
  · exact Three.cmpC g op_notNV hbM (ih _ h).1 pe_non rfl
  · exact Three.cmpC (w := .bl true) g (op_isBV (f := fun b => b) fun b => by cases b <;> rfl) (hbB _) (ih _ h).1 pe_bl rfl
  · exact Three.cmpC (w := .bl true) g (op_notBV (f := fun b => !b) fun b => by cases b <;> rfl) (hbB _) (ih _ h).1 pe_bl rfl
  · exact Three.cmpC (w := .bl false) g (op_isBV (f := fun b => !b) fun b => by cases b <;> rfl) (hbB _) (ih _ h).1 pe_bl rfl
  · exact Three.cmpC (w := .bl false) g (op_notBV (f := fun b => b) fun b => by cases b <;> rfl) (hbB _) (ih _ h).1 pe_bl rfl
  · exact cUn g (pe_revV g.K (ih _ h).1) (fun _ => rfl) (fun q => q)
  · cases h
theorem sBin {X : Cx} {cx : Chk} (g : Good X z cx c n) {o : Bn} {a b : E} (iha : ∀ e, okE cx a e = true → Three X z c a e) (ihb : ∀ e, okE cx b e = true → Three X z c b e) (e : Expr) (h : okE cx (.bin o a b) e = true) : Three X z c (.bin o a b) e := by
  simp only [okE] at h
  split at h
  · rw [Bool.and_eq_true, Bool.and_eq_true] at h
    exact cBin g (pe_op (op_of g h.1.1) (iha _ h.1.2).1 (ihb _ h.2).1) (fun _ => rfl) (fun q => q)
  · rw [Bool.and_eq_true, Bool.and_eq_true] at h
    exact Three.cmp g h.1.1 (iha _ h.1.2).1 (ihb _ h.2).1 (okE_mark h.2 _)
  · rw [Bool.and_eq_true, Bool.and_eq_true, Bool.and_eq_true, Bool.not_eq_true'] at h
    obtain ⟨⟨⟨ho, hs⟩, h1⟩, h2⟩ := h
    cases o <;> first | cases ho | skip
    exact cBin g (pe_ix (ix_V g.K) (iha _ h1).1 (ihb _ h2).1 (okE_ix (cx := cx) (a := a) hs)) (fun _ => rfl) (fun q => q)
  · cases h
theorem sChain {X : Cx} {cx : Chk} (g : Good X z cx c n) {o o' : Bn} {a b d : E} (iha : ∀ e, okE cx a e = true → Three X z c a e) (ihb : ∀ e, okE cx b e = true → Three X z c b e) (ihd : ∀ e, okE cx d e = true → Three X z c d e) (e : Expr) (h : okE cx (.chain a o b o' d) e = true) : Three X z c (.chain a o b o' d) e := by
  simp only [okE] at h
  split at h
  · simp only [Bool.and_eq_true] at h
    obtain ⟨⟨⟨⟨h1, h2⟩, h3⟩, h4⟩, h5⟩ := h
    refine Three.chain g h1 h2 (iha _ h3).1 (ihb _ h4).1 (ihd _ h5).1 ?_
    first
      | (unfold lastMarks; simp [lastMarks, okE_mark h4, okE_mark h5]; done)
      | skip
  · cases h

mutual
theorem sE : ∀ (a : E) {X : Cx} {cx : Chk} (g : Good X z cx c n) (e : Expr), okE cx a e = true → Three X z c a e
  | .memo, X, cx, g, e, h => by
    simp only [okE] at h
    split at h
    · exact cMemo g
    · cases h
  | .din neg k i, X, cx, g, e, h => by
    unfold okE at h
    split at h
    · rename_i x op y p1 pos
      simp only [Bool.and_eq_true, decide_eq_true_eq] at h
      obtain ⟨⟨h1, h2⟩, ⟨h3, h4⟩, h5⟩ := h
      have hu : X.A.units + 1 < cLine := by have := g.hu; omega
      split at h1
      · exact cDin g (op_inD hu) (sE k g _ h2).1 (pVar g h3 h4 h5)
      · exact cDin g (op_ninD hu) (sE k g _ h2).1 (pVar g h3 h4 h5)
      · cases h1
    · cases h
  | .dget i k, X, cx, g, e, h => by
    unfold okE at h
    split at h
    · rename_i y p1 x pos
      simp only [Bool.and_eq_true, Bool.not_eq_true', decide_eq_true_eq] at h
      obtain ⟨⟨⟨⟨h3, h4⟩, h5⟩, h1⟩, h2⟩ := h
      exact cDget g (sE k g _ h2).1 (okE_ix (cx := cx) (a := k) h1) (pVar g h3 h4 h5)
    · cases h
  | .const x, X, cx, g, e, h => cConst g h
  | .glob k, X, cx, g, e, h => cGlob g h
  | .var i, X, cx, g, e, h => cVar g h
  | .tup es, X, cx, g, e, h => by
    simp only [okE] at h
    split at h
    · rw [Bool.and_eq_true, decide_eq_true_eq] at h
      exact cTup g h.1 (okEs_len es _ h.2) (PEs.pa h.2 (sEs es g _ h.2))
    · cases h
  | .list es, X, cx, g, e, h => by
    simp only [okE] at h
    split at h
    · rw [Bool.and_eq_true, decide_eq_true_eq] at h
      exact cLst g h.1 (okEs_len es _ h.2) (PEs.pa h.2 (sEs es g _ h.2))
    · cases h
  | .un u a, X, cx, g, e, h => sUn g (fun e h => sE a g e h) e h
  | .bin o a b, X, cx, g, e, h => sBin g (fun e h => sE a g e h) (fun e h => sE b g e h) e h
  | .chain a o b o' d, X, cx, g, e, h => sChain g (fun e h => sE a g e h) (fun e h => sE b g e h) (fun e h => sE d g e h) e h
  | .slc a lo hi, X, cx, g, e, h => by
    simp only [okE] at h
    split at h
    · rw [Bool.and_eq_true, Bool.and_eq_true] at h
      exact cSlc g (sE a g _ h.1.1).1 (sEo lo g _ h.1.2) (sEo hi g _ h.2)
    · cases h
  | .and a b, X, cx, g, e, h => by
    simp only [okE] at h
    split at h
    · rw [Bool.and_eq_true] at h
      exact cAnd2 g (sE a g _ h.1) (pe_one (sE b g _ h.2).1) (pw_and1 (sE b g _ h.2).2.1)
    · rw [Bool.and_eq_true] at h
      exact cAnd2 g (sE a g _ h.1) (sE b g _ h.2).1 ((sE b g _ h.2).2.2 trivial)
    · cases h
  | .or a b, X, cx, g, e, h => by
    simp only [okE] at h
    split at h
    · rw [Bool.and_eq_true] at h
      exact cOr2 g (sE a g _ h.1) (pe_one (sE b g _ h.2).1) (pw_or1 (sE b g _ h.2).2.1)
    · rw [Bool.and_eq_true] at h
      exact cOr2 g (sE a g _ h.1) (sE b g _ h.2).1 ((sE b g _ h.2).2.2 trivial)
    · cases h
  | .not a, X, cx, g, e, h => by
    simp only [okE] at h
    split at h
    · exact cNot g (sE a g _ h)
    · cases h
  | .ite t a b, X, cx, g, e, h => by
    simp only [okE] at h
    split at h
    · rw [Bool.and_eq_true, Bool.and_eq_true] at h
      exact cIte g (sE t g _ h.1.1) (sE a g _ h.1.2) (sE b g _ h.2)
    · cases h
  | .app f es, X, cx, g, e, h => sApp g (fun l h => sEs es g l h) e h
  | .meth m a es, X, cx, g, e, h => by
    simp only [okE] at h
    split at h
    · rw [Bool.and_eq_true, Bool.and_eq_true, Bool.and_eq_true, Bool.and_eq_true] at h
      obtain ⟨⟨⟨⟨h1, h2⟩, h3⟩, h4⟩, h5⟩ := h
      split at h1
      · exact cUpper g (of_decide_eq_true h2) h3 h4 (sE a g _ h5).1
      · cases h1
    · cases h
  | .call k es, X, cx, g, e, h => by
    simp only [okE] at h
    split at h
    · rw [Bool.and_eq_true, Bool.and_eq_true, decide_eq_true_eq] at h
      exact cCall g h.1.1 h.1.2 h.2 (sEs es g _ h.2)
    · cases h
  | .draw i m, X, cx, g, e, h => by
    simp only [okE] at h
    split at h
    · simp only [Bool.and_eq_true, decide_eq_true_eq] at h
      obtain ⟨⟨⟨⟨⟨h1, h2⟩, h3⟩, h4⟩, h5⟩, h6⟩ := h
      exact cDraw g h1 h2 h3 h4 h5 h6 (sE m g _ h6).1
    · cases h
  | .rngL t lo hi, X, cx, g, e, h => by
    unfold okE at h
    split at h
    · simp only [Bool.and_eq_true] at h
      obtain ⟨⟨⟨h1, h2⟩, h3⟩, h4⟩ := h
      cases lo with
      | no => exact cRng1 g h1 h2 h4 (sE hi g _ h4).1
      | so _ => cases h3
    · simp only [Bool.and_eq_true] at h
      obtain ⟨⟨⟨⟨h1, h2⟩, h3⟩, h4⟩, h5⟩ := h
      cases lo with
      | no => cases h3
      | so a =>
        unfold okEo at h4
        exact cRng2 g h1 h2 h4 h5 (sE a g _ h4).1 (sE hi g _ h5).1
    · cases h
  | .comp elt tg it .nil own, X, cx, g, e, h => by
    unfold okE at h
    split at h
    · rename_i x t' i' ifs scope pos
      simp only [Bool.and_eq_true] at h
      obtain ⟨⟨⟨⟨⟨h1, h2⟩, h3⟩, h4⟩, h5⟩, h6⟩ := h
      cases ifs with
      | cons y ys => cases h5
      | nil =>
        refine Three.plain g.K (sComp g h1 (sIt it true g _ _ h2) (okIt_noSet h2) h4 (fun s H C cl fp => sTg (g.blk s H _ cl C fp).tg g.K tg _ h3) (fun _ _ _ _ _ => pts_nil) (fun s H C cl fp => (sE elt (g.blk s H _ cl C fp) _ h6).1) fun R env σ H m K r w => ?_) (fun _ => rfl) (fun q => q)
        unfold evc at w
        exact w H Keeps.refl
    · cases h
  | .comp elt tg it (.cons t .nil) own, X, cx, g, e, h => by
    unfold okE at h
    split at h
    · rename_i x t' i' ifs scope pos
      simp only [Bool.and_eq_true] at h
      obtain ⟨⟨⟨⟨⟨h1, h2⟩, h3⟩, h4⟩, h5⟩, h6⟩ := h
      cases ifs with
      | nil => cases h5
      | cons y ys =>
        cases ys with
        | cons _ _ => cases h5
        | nil =>
          refine Three.plain g.K (sComp g h1 (sIt it true g _ _ h2) (okIt_noSet h2) h4 (fun s H C cl fp => sTg (g.blk s H _ cl C fp).tg g.K tg _ h3) (fun s H C cl fp => pts_one (sE t (g.blk s H _ cl C fp) _ h5).2.1) (fun s H C cl fp => (sE elt (g.blk s H _ cl C fp) _ h6).1) fun R env σ H m K r w => ?_) (fun _ => rfl) (fun q => q)
          unfold evc at w
          rw [T.wp_bind] at w
          refine ⟨R, env, m, r, T.wp_mono w fun p wp => ?_⟩
          rcases wp_tru wp with ⟨e, wp⟩ | ⟨e, wp⟩
          · unfold evc at wp
            exact ⟨true, e, wp⟩
          · exact ⟨false, e, wp⟩
    · cases h
  | .comp elt tg it (.cons t (.cons u us)) own, X, cx, g, e, h => by
    exfalso
    unfold okE at h
    split at h
    · rename_i x t' i' ifs scope pos
      simp only [Bool.and_eq_true] at h
      obtain ⟨⟨⟨⟨⟨h1, h2⟩, h3⟩, h4⟩, h5⟩, h6⟩ := h
      cases ifs with
      | nil => cases h5
      | cons y ys => cases ys <;> cases h5
    · cases h
  | .comp2 elt tg it tg2 it2 own, X, cx, g, e, h => by
    unfold okE at h
    split at h
    · simp only [Bool.and_eq_true] at h
      obtain ⟨⟨⟨⟨⟨⟨⟨⟨h1, h2⟩, h3⟩, h4⟩, h5⟩, h6⟩, h7⟩, h8⟩, h9⟩ := h
      exact Three.plain g.K (sComp2 g h1 (sIt it true g _ _ h2) (okIt_noSet h2) (okIt_noSet h4) h6 h7 h8 (fun s H C cl fp => sTg (g.blk s H _ cl C fp).tg g.K tg _ h3) (fun s H C cl fp => sIt it2 true (g.blk s H _ cl C fp) _ _ h4)
        (fun s H C cl fp => sTg (g.blk s H _ cl C fp).tg g.K tg2 _ h5) (fun s H C cl fp => (sE elt (g.blk s H _ cl C fp) _ h9).1)) (fun _ => rfl) (fun q => q)
    · cases h
theorem sEs : ∀ (es : Es) {X : Cx} {cx : Chk} (g : Good X z cx c n) (l : List Expr), okEs cx es l = true → PEs X z c es l
  | .nil, X, cx, g, l, h => by
    cases l with
    | nil => trivial
    | cons _ _ => simp [okEs] at h
  | .cons e es, X, cx, g, l, h => by
    cases l with
    | nil => simp [okEs] at h
    | cons x xs =>
      simp only [okEs, Bool.and_eq_true] at h
      exact ⟨(sE e g x h.1).1, sEs es g xs h.2⟩
theorem sEo : ∀ (o : Eo) {X : Cx} {cx : Chk} (g : Good X z cx c n) (e : Option Expr), okEo cx o e = true → PO X e (tEo z c o)
  | .no, X, cx, g, e, h => by
    cases e with
    | some _ => simp [okEo] at h
    | none =>
      refine PO.imp po_none fun σ H Q ⟨R, env, m, rel, w⟩ => ?_
      simp only [evo, T.wp] at w
      exact w H Keeps.refl
  | .so a, X, cx, g, e, h => by
    cases e with
    | none => simp [okEo] at h
    | some x =>
      simp only [okEo] at h
      refine PO.imp (po_some (sE a g x h).1) fun σ H Q ⟨R, env, m, rel, w⟩ => ?_
      simp only [evo] at w
      rw [T.wp_bind] at w
      refine ⟨R, env, m, rel, T.wp_mono w fun p wp v H1 k1 r1 => ?_⟩
      obtain ⟨i, e, wp⟩ := wp_opt wp
      rw [optI_of e] at r1
      exact ⟨i, r1.int, wp H1 k1⟩
theorem sIt : ∀ (it : It) (bb : Bool) {X : Cx} {cx : Chk} (g : Good X z cx c n) (t e : Expr), okIt cx it t e = true → PI X t e (tIt z c bb it)
  | .seq a, bb, X, cx, g, t, e, h => by
    simp only [okIt, Bool.and_eq_true] at h
    exact iSeq bb g (sE a g e h.2).1
  | .rng1 a, bb, X, cx, g, t, e, h => by
    simp only [okIt] at h
    split at h
    · rw [Bool.and_eq_true] at h
      exact iRng1V bb g h.1 h.2 (sE a g _ h.2).1
    · cases h
  | .rng2 a b, bb, X, cx, g, t, e, h => by
    simp only [okIt] at h
    split at h
    · rw [Bool.and_eq_true, Bool.and_eq_true] at h
      exact iRng2V bb g h.1.1 h.1.2 h.2 (sE a g _ h.1.2).1 (sE b g _ h.2).1
    · cases h
  | .enum a, bb, X, cx, g, t, e, h => by
    simp only [okIt] at h
    split at h
    · rw [Bool.and_eq_true, Bool.and_eq_true] at h
      exact iEnum bb g h.1.1 h.1.2 h.2 (sE a g _ h.2).1
    · cases h
  | .zip a b, bb, X, cx, g, t, e, h => by simp [okIt] at h
end
end
end MP
end
section
set_option Elab.async false
set_option linter.all false
set_option autoImplicit false
set_option maxRecDepth 100000
set_option maxHeartbeats 8000000
/-! MPStmt: statements. -/
namespace MP
open PySem PySem.Spec PyProof.Rows L2

/-! ### the check -/
def kindB (sc : Scope) : ScopeKind := if sc.kind.isAnnotationScope then .function else sc.kind
def swB (sc : Scope) : PySem.Expr → PySem.Expr → Bool
  | .DictComp _ _ _ s vp, .Name t tp => kindB sc == .function && sc.names.lookup t == some .local && tp.line == vp.line && !(s.names.any fun (n, k) => n == t && (k == .local || k == .cell))
  | .ListComp _ _ s vp, .Name t tp => kindB sc == .function && sc.names.lookup t == some .local && tp.line == vp.line && !(s.names.any fun (n, k) => n == t && (k == .local || k == .cell))
  | _, _ => false
def swS (sc : Scope) (ts vs : List PySem.Expr) : Option (List Str) :=
  if !(ts.length == 2 || ts.length == 3) || vs.length != ts.length || kindB sc != .function then none else
  if vs.any fun | .Starred .. => true | _ => false then none else
  let line := (ts.head?.map (·.pos.line)).getD 0
  let names := ts.filterMap fun
    | .Name id pos => if sc.names.lookup id == some .local && pos.line == line then some id else none
    | _ => none
  if names.length != ts.length || names.eraseDups.length != names.length then none else
  if vs.all (foldedForSure 8) then none else
  some names
def swOk (sc : Scope) (ts vs : List PySem.Expr) : Bool := !(vs.all (constantsAlone 8)) || (swS sc ts vs).isNone
theorem sw_aux (c1 b2 c3 c4 c5 : Bool) (names : List Str) (w : Sem (Option (List Str))) (h : (!c5 || (if c1 = true then none else if b2 = true then none else if c3 = true then none else if c4 = true then none else some names).isNone) = true) :
    (if c1 = true then pure none else if b2 = true then pure none else if c3 = true then pure none else if c4 = true then pure none else if c5 = true then w else pure (some names) : Sem (Option (List Str))) = pure (if c1 = true then none else if b2 = true then none else if c3 = true then none else if c4 = true then none else some names) := by
  cases c1
  · cases b2
    · cases c3
      · cases c4
        · cases c5
          · rfl
          · simp at h
        · rfl
      · rfl
    · rfl
  · rfl
theorem swapped_eq (sc : Scope) (ts vs : List PySem.Expr) (k k2 : Nat) (p p2 : Pos) (env : PySem.Env) (he : env.scope = sc) (h : swOk sc ts vs = true) : swappedStores [.Tuple ts k p] (.Tuple vs k2 p2) env = pure (swS sc ts vs) := by
  subst he
  exact sw_aux _ _ _ _ _ _ _ h
def noTup : PySem.Expr → Bool
  | .Tuple _ _ _ => false
  | _ => true
def noSwap (cx : Chk) (tg v : PySem.Expr) : Bool := match tg, v with
  | .Tuple ts _ _, .Tuple vs _ _ => swOk cx.sc ts vs && (swS cx.sc ts vs).isNone
  | _, _ => true
def okIdx (cx : Chk) (i : Nat) (x : Str) : Bool := decide (cx.N[i]? = some x) && visB cx.sc x && plainName x
def okLoc (cx : Chk) (i : Nat) (x : Str) : Bool := decide (cx.N[i]? = some x) && locB cx.sc x && cx.tgt x
/-- the targets of a parallel store -/
def parT (cx : Chk) : List Nat → List PySem.Expr → List Str → Bool
  | [], [], [] => true
  | i :: is, .Name x _ :: ts, y :: ys => decide (x = y) && decide (cx.N[i]? = some x) && decide (cx.sc.names.lookup x = some .local) && !is.contains i && parT cx is ts ys
  | _, _, _ => false
def okPar (cx : Chk) (is : List Nat) (ts vs : List PySem.Expr) : Bool := swOk cx.sc ts vs && (match swS cx.sc ts vs with
  | some names => parT cx is ts names
  | none => false)
def varsT : List Nat → Tgs
  | [] => .nil
  | i :: is => .cons (.var i) (varsT is)
/-- the same by a tuple of its own -/
def okParT (cx : Chk) (is : List Nat) (ts vs : List PySem.Expr) : Bool := okTgs cx (varsT is) ts && swOk cx.sc ts vs && (swS cx.sc ts vs).isNone && decide (vs.length ≤ 100000)
/-- xs.name(..) -/
def okMeth (cx : Chk) (i : Nat) (name : String) (o : PySem.Expr) (nm : Str) (ap cp : Pos) : Bool := match o with
  | .Name x _ => okIdx cx i x && decide (nm = Str.ofString name) && (ap.endLine == cp.line)
  | _ => false
mutual
def okS (cx : Chk) : S → Stmt → Bool
  | .asg t e, st => match st with
    | .Assign [tg] v pos => okE cx e v && okTg cx t tg && noSwap cx tg v && (match t with
      | .var i => true
      | .tup _ => true)
    | _ => false
  | .par is es, st => match st with
    | .Assign [.Tuple ts _ _] (.Tuple vs _ _) pos => (okPar cx is ts vs || okParT cx is ts vs) && okEs cx es vs
    | _ => false
  | .ret e, st => match st with
    | .Return (some v) _ => okE cx e v
    | _ => false
  | .retOwn i, st => match st with
    | .Return (some (.Name x _)) _ => okIdx cx i x
    | _ => false
  | .retN, st => match st with
    | .Return none _ => true
    | _ => false
  | .ite c a b, st => match st with
    | .If c' a' b' _ => okE cx c c' && okSs cx a a' && okSs cx b b'
    | _ => false
  | .for t it b, st => match st with
    | .For tg iter body [] _ => okIt cx it tg iter && okTg cx t tg && okSs cx b body
    | _ => false
  | .while c b, st => match st with
    | .While c' body [] _ => okE cx c c' && okSs cx b body
    | _ => false
  | .append i e, st => match st with
    | .Expr (.Call (.Attribute o nm ap) [v] [] cp) _ => okMeth cx i "append" o nm ap cp && okE cx e v
    | _ => false
  | .extend i e, st => match st with
    | .Expr (.Call (.Attribute o nm ap) [v] [] cp) _ => okMeth cx i "extend" o nm ap cp && okE cx e v
    | _ => false
  | .insert i k e, st => match st with
    | .Expr (.Call (.Attribute o nm ap) [v, w] [] cp) _ => okMeth cx i "insert" o nm ap cp && okE cx k v && okE cx e w
    | _ => false
  | .setIdx i k e, st => match st with
    | .Assign [.Subscript (.Name x _) k' _] v pos => okIdx cx i x && okE cx k k' && okE cx e v
    | _ => false
  | .popAt i j e, st => match st with
    | .Assign [.Name x _] (.Call (.Attribute o nm ap) l [] cp) pos => okLoc cx i x && okMeth cx j "pop" o nm ap cp && (match e, l with
      | .no, [] => true
      | .so e, [v] => okE cx e v
      | _, _ => false)
    | _ => false
  | .popPar i i2 j e e2, st => match st with
    | .Assign [.Tuple ts _ _] (.Tuple [.Call (.Attribute o nm ap) [v] [] cp, w] k2 p2) pos => okPar cx [i, i2] ts [.Call (.Attribute o nm ap) [v] [] cp, w] && okMeth cx j "pop" o nm ap cp && okE cx e v && okE cx e2 w
    | _ => false
  | .aug i o e, st => match st with
    | .AugAssign (.Name x _) op v _ => okLoc cx i x && okIdx cx i x && (match o with | .add => true | .sub => true | _ => false) && isB o op && okE cx e v
    | _ => false
  | .augIdx i k o e, st => false
  | .freeze i, st => false
  | .forget i, st => false
  | .pass, st => match st with
    | .Pass _ => true
    | .Expr (.Constant (.str _) _ _) _ => true
    | _ => false
  | .brk, st => match st with
    | .Break _ => true
    | _ => false
  | .cont, st => match st with
    | .Continue _ => true
    | _ => false
  | .never, st => true
  | .memo i key body v, st => false
  | .dnew i, st => match st with
    | .Assign [.Name x px] (.Dict [] [] _) pos => okLoc cx i x
    | _ => false
  | .dput i k v, st => match st with
    | .Assign [.Subscript (.Name x _) k' _] v' pos => okIdx cx i x && okE cx k k' && okE cx v v' && !isSlice k'
    | _ => false
  | .dcomp i kx vx tg it own, st => match st with
    | .Assign [.Name x px] (.DictComp k v [⟨t, i', [], 0⟩] scope vp) pos => okLoc cx i x && blkC cx.N cx.sc scope (ownOf cx.N own) && okIt cx it t i' && okTg (cx.blk scope) tg t && tg.slots.all (fun j => own.contains j) && okE (cx.blk scope) kx k && okE (cx.blk scope) vx v
    | _ => false
def okSs (cx : Chk) : Ss → List Stmt → Bool
  | .nil, l => match l with | [] => true | _ => false
  | .cons s r, l => match s with
    | .freeze _ => okSs cx r l
    | .forget _ => okSs cx r l
    | .memo i key body v => match r, l with
      | .nil, [.If (.Compare kx [.NotIn] [.Name x _] _) bl [] _, .Return (some (.Subscript (.Name x2 _) kx2 _)) _] => okE cx key kx && okIdx cx i x && okIdx cx i x2 && !isSlice kx2 && okE cx key kx2 && okBody cx i key v body bl
      | _, _ => false
    | s => match l with | x :: xs => okS cx s x && okSs cx r xs | [] => false
/-- a body that ends in a store of a known answer -/
def okBody (cx : Chk) (i : Nat) (key v : E) : Ss → List Stmt → Bool
  | .nil, l => match l with
    | [.Assign [.Subscript (.Name x _) kx _] vx _] => okE cx v vx && okIdx cx i x && okE cx key kx
    | _ => false
  | .cons s r, l => match s with
    | .freeze _ => okBody cx i key v r l
    | .forget _ => okBody cx i key v r l
    | .memo _ _ _ _ => false
    | s => match l with | x :: xs => okS cx s x && okBody cx i key v r xs | [] => false
end

/-! ### what a statement does -/
def endP (z : Zx) (D : Ends) (R : Fr) (o : Out) : Prop := match o.1 with
  | .next => ∀ σ' H', Rel z R o.2.1 σ' H' → D.nx σ' H'
  | .brk => ∀ σ' H', Rel z R o.2.1 σ' H' → D.bk σ' H'
  | .cont => ∀ σ' H', Rel z R o.2.1 σ' H' → D.ct σ' H'
  | .ret r => ∀ v H', Keeps z R.H0 H' → RepR z R.Mx (fun _ => False) R.H0 H' r v → D.rt v H'
def tS (z : Zx) (c : Ctx) (s : S) : TS := fun D σ H => ∃ R env h, Rel z R env σ H ∧ (ex c s env h).wp (endP z D R)
def tSs (z : Zx) (c : Ctx) (s : Ss) : TS := fun D σ H => ∃ R env h, Rel z R env σ H ∧ (exs c s env h).wp (endP z D R)
section
variable {X : Cx}
theorem PS.imp {st : Stmt} {t t' : TS} (h : PS X st t) (i : ∀ D σ H, t' D σ H → t D σ H) : PS X st t' := ⟨fun pins s σ H D I q => h.run pins s σ H D I (i D σ H q)⟩
theorem PSs.imp {st : List Stmt} {t t' : TS} (h : PSs X st t) (i : ∀ D σ H, t' D σ H → t D σ H) : PSs X st t' := ⟨fun pins s σ H D I q => h.run pins s σ H D I (i D σ H q)⟩
variable {z : Zx} {c : Ctx} {n : Nat} {cx : Chk}
structure GoodS (X : Cx) (z : Zx) (cx : Chk) (c : Ctx) (n : Nat) : Prop where
  g : Good X z cx c n
  po : ∀ e s, ¬ X.xe e s
theorem GoodS.passes (g : GoodS X z cx c n) : PassesOwn (model X.prog X.w) X.A X.env X.xe := fun e s q => (g.po e s q).elim
theorem swB_eq (g : GoodS X z cx c n) {a : E} {v : Expr} (h : okE cx a v = true) (tg : Expr) (l : Nat) : swapsWith v (some tg) l X.env = pure (swB cx.sc v tg) := by
  rw [← g.g.tg.sc]
  cases v <;> first
    | rfl
    | (exfalso; revert h; cases a <;> simp [okE]; done)
    | (cases tg <;> rfl)
theorem noSwap_eq (g : GoodS X z cx c n) {t : Tg} {tg v : Expr} (ht : okTg cx t tg = true) (h : noSwap cx tg v = true) : swappedStores [tg] v X.env = pure none := by
  cases t with
  | var i =>
    cases tg <;> simp only [okTg, Bool.false_eq_true] at ht
    rfl
  | tup ts =>
    cases tg <;> simp only [okTg, Bool.false_eq_true] at ht
    cases v <;> first | rfl | skip
    unfold noSwap at h
    simp only [Bool.and_eq_true] at h
    rw [swapped_eq cx.sc _ _ _ _ _ _ X.env g.g.tg.sc h.1]
    cases e : swS cx.sc _ _ with
    | none => rfl
    | some _ => rw [e] at h; cases h.2
theorem tgt_of (g : GoodS X z cx c n) {i : Nat} {x : Str} (h : okLoc cx i x = true) : X.N[i]? = some x ∧ L2.Loc X.env.scope x ∧ (X.fn x = true ∨ X.env.scope.names.lookup x = some .local) := by
  unfold okLoc at h
  rw [Bool.and_eq_true, Bool.and_eq_true, decide_eq_true_eq] at h
  exact ⟨by rw [g.g.tg.N]; exact h.1.1, by rw [g.g.tg.sc]; exact loc_of h.1.2, g.g.tg.tgt x h.2⟩
/-- x = e: behind -/
theorem rdAsgVar {i : Nat} {e : E} {D : Ends} {σ : St} {H : Hp} (w : tS z c (.asg (.var i) e) D σ H) : tAsg (tE z c e) (gName i) D σ H := by
  obtain ⟨R, env, h, rel, w⟩ := w
  simp only [ex] at w
  rw [T.wp_bind] at w
  refine ⟨R, env, h, rel, T.wp_mono w fun p wp v H1 k1 r1 => ?_⟩
  obtain ⟨env', e1, wp⟩ := wp_opt wp
  exact wp _ _ (rel.bind k1 r1 e1)
theorem sAsgVar (g : GoodS X z cx c n) {i : Nat} {e : E} {x : Str} {v : Expr} {px pos : Pos} (hv : okE cx e v = true) (ht : okTg cx (.var i) (.Name x px) = true) : PS X (.Assign [.Name x px] v pos) (tS z c (.asg (.var i) e)) := by
  have ht' : okLoc cx i x = true := by
    simp only [okTg, Bool.and_eq_true, decide_eq_true_eq] at ht
    unfold okLoc
    simp [ht.1.1, ht.1.2, ht.2]
  obtain ⟨h1, h2, h3⟩ := tgt_of g ht'
  cases hs : swB cx.sc v (.Name x px) with
  | false =>
    exact PS.imp (ps_set g.g.tg.nd h1 h2 (sE e g.g v hv).1 (by rw [swB_eq g hv, hs]) h3) fun D σ H w => rdAsgVar w
  | true =>
    -- a list comprehension that is stored at once
    have hsw : swapsWith v (some (.Name x px)) pos.line X.env = pure true := by rw [swB_eq g hv, hs]
    have hl : X.env.scope.names.lookup x = some .local := by
      rw [g.g.tg.sc]
      cases v <;> simp only [swB, Bool.false_eq_true] at hs
      all_goals
        simp only [Bool.and_eq_true, beq_iff_eq] at hs
        exact hs.1.1.2
    cases v <;> simp only [swB, Bool.false_eq_true] at hs
    case DictComp => exfalso; revert hv; cases e <;> simp [okE]
    rename_i elt gs scope vp
    clear hs
    cases e <;> first | (simp [okE] at hv; done) | skip
    · rename_i elt' tg it cs own
      unfold okE at hv
      split at hv
      · rename_i x' t' i' ifs scope' pos' heq
        cases heq
        simp only [Bool.and_eq_true] at hv
        obtain ⟨⟨⟨⟨⟨q1, q2⟩, q3⟩, q4⟩, q5⟩, q6⟩ := hv
        have ok : BlkOk X.N X.env.scope scope (ownOf cx.N own) := by rw [g.g.tg.N, g.g.tg.sc]; exact blkOk_by q1
        have go : ∀ {tt : TT}, (∀ (s : Shared) (H : Hp) (C : Addr) (cl : List (Str × Addr)) (fp : List Addr), PTs (X.blk s H scope (compEnvC scope cl C X.env) fp) ifs tt) →
            (∀ (R : Fr) (env : Env) (σ : St) (H : Hp) (h : Mem) (K : Bool → Hp → Prop), Rel z R env σ H → (evc c cs env h).wp (fun p => ∀ H', Keeps z H H' → K p.1 H') → tt σ H K) → PS X (.Assign [.Name x px] (.ListComp elt [⟨t', i', ifs, 0⟩] scope vp) pos) (tS z c (.asg (.var i) (.comp elt' tg it cs own))) := fun {tt} ht htt => by
          have base := ps_setLc g.g.tg.calm g.g.tg.nd h1 hl hsw (sIt it true g.g t' i' q2) ok (fun s H C cl fp => sTg (g.g.blk s H scope cl C fp).tg g.g.K tg _ q3) ht (fun s H C cl fp => (sE elt' (g.g.blk s H scope cl C fp) _ q6).1) (fun x => noSet_fold (okIt_noSet q2) X.env x)
          rw [ownOf_map] at base
          exact PS.imp base fun D σ H w => lcImp q4 htt (rdAsgVar w)
        cases cs with
        | nil =>
          cases ifs with
          | cons _ _ => cases q5
          | nil =>
            refine go (fun _ _ _ _ _ => pts_nil) fun R env σ H m K r w => ?_
            unfold evc at w
            exact w H Keeps.refl
        | cons t us =>
          cases us with
          | cons _ _ => 
            cases ifs with
            | nil => cases q5
            | cons y ys => cases ys <;> cases q5
          | nil =>
            cases ifs with
            | nil => cases q5
            | cons y ys =>
              cases ys with
              | cons _ _ => cases q5
              | nil =>
                refine go (fun s H C cl fp => pts_one (sE t (g.g.blk s H scope cl C fp) _ q5).2.1) fun R env σ H m K r w => ?_
                unfold evc at w
                rw [T.wp_bind] at w
                refine ⟨R, env, m, r, T.wp_mono w fun p wp => ?_⟩
                rcases wp_tru wp with ⟨e, wp⟩ | ⟨e, wp⟩
                · unfold evc at wp
                  exact ⟨true, e, wp⟩
                · exact ⟨false, e, wp⟩
      · cases hv
    · rename_i elt' tg it tg2 it2 own
      unfold okE at hv
      split at hv
      · rename_i x' t' i' t2' i2' scope' pos' heq
        cases heq
        simp only [Bool.and_eq_true] at hv
        obtain ⟨⟨⟨⟨⟨⟨⟨⟨q1, q2⟩, q3⟩, q4⟩, q5⟩, q6⟩, q7⟩, q8⟩, q9⟩ := hv
        have ok : BlkOk X.N X.env.scope scope (ownOf cx.N own) := by rw [g.g.tg.N, g.g.tg.sc]; exact blkOk_by q1
        have base := ps_setLc2 (vs1 := tg2.slots) g.g.tg.calm g.g.tg.nd h1 hl hsw (sIt it true g.g t' i' q2) ok (fun j hj => by rw [ownOf_map]; simpa using List.all_eq_true.mp q7 j hj) (fun s H C cl fp => sTg (g.g.blk s H scope cl C fp).tg g.g.K tg _ q3) (fun _ _ _ _ _ => pts_nil)
          (fun s H C cl fp => sIt it2 true (g.g.blk s H scope cl C fp) _ _ q4) (fun s H C cl fp => sTg (g.g.blk s H scope cl C fp).tg g.g.K tg2 _ q5) (fun _ _ _ _ _ => pts_nil) (fun s H C cl fp => (sE elt' (g.g.blk s H scope cl C fp) _ q9).1)
          (fun x => noSet_fold (okIt_noSet q2) X.env x) (fun env x => noSet_fold (okIt_noSet q4) env x)
        rw [ownOf_map] at base
        exact PS.imp base fun D σ H w => lc2Imp q6 q7 q8 (rdAsgVar w)
      · cases hv
theorem sAsgTup (g : GoodS X z cx c n) {ts : Tgs} {e : E} {tg v : Expr} {pos : Pos} (hv : okE cx e v = true) (ht : okTg cx (.tup ts) tg = true) (hn : noSwap cx tg v = true) : PS X (.Assign [tg] v pos) (tS z c (.asg (.tup ts) e)) := by
  have htt : ∃ es k p, tg = .Tuple es k p := by
    cases tg <;> simp only [okTg, Bool.false_eq_true] at ht
    exact ⟨_, _, _, rfl⟩
  obtain ⟨es, k, p, rfl⟩ := htt
  refine PS.imp (ps_asg (sE e g.g v hv).1 (sTg g.g.tg g.g.K (.tup ts) _ ht) ?_ (noSwap_eq g ht hn) rfl) fun D σ H ⟨R, env, h, rel, w⟩ => ?_
  · show swapsWith v (some (.Tuple es k p)) pos.line X.env = pure false
    rw [swB_eq g hv]
    cases v <;> rfl
  · simp only [ex] at w
    rw [T.wp_bind] at w
    refine ⟨R, env, h, rel, T.wp_mono w fun p wp v H1 k1 r1 => ?_⟩
    obtain ⟨env', e1, wp⟩ := wp_opt wp
    simp only [asgS, Option.bind_eq_some_iff] at e1
    obtain ⟨x, e1, e2⟩ := e1
    have rel1 := rel.of_keeps k1
    refine ⟨R, env, x, env', rel1, r1.store rel.trkC e1, e2, fun σ' r' l o cl => wp _ _ r'⟩
end
end MP
end
section
set_option Elab.async false
set_option linter.all false
set_option autoImplicit false
set_option maxRecDepth 100000
set_option maxHeartbeats 8000000
/-! MPStmt2: all statements. -/
namespace MP
open PySem PySem.Spec PyProof.Rows L2
section
variable {X : Cx} {z : Zx} {c : Ctx} {n : Nat} {cx : Chk}
theorem swS_len {sc : Scope} {ts vs : List PySem.Expr} {names : List Str} (h : swS sc ts vs = some names) : vs.length = ts.length := by
  unfold swS at h
  split at h
  · cases h
  · rename_i c
    simp only [Bool.or_eq_true, not_or, bne_iff_ne, ne_eq, Classical.not_not] at c
    exact c.1.2
theorem ownS_of {env : Env} {i : Nat} {xs : List Val} (h : ownS env i = some xs) : env[i]? = some (.own (.l xs)) := by
  unfold ownS at h
  split at h
  · rename_i e; rw [e]; cases h; rfl
  · cases h
theorem Rel.own {R : Fr} {env : Env} {σ : St} {H : Hp} (rel : Rel z R env σ H) {i : Nat} {xs : List Val} (h : ownS env i = some xs) : ∃ a vs, env[i]? = some (.own (.l xs)) ∧ σ[i]? = some (some (.ref a)) ∧ H a = some (.lst vs) ∧ Reps z (Clo R env σ) H xs vs ∧ xs.length ≤ sizeMax := by
  have e := ownS_of h
  obtain ⟨v, e1, r1⟩ := rel.load (i := i) (r := .vw xs) (by rw [e]; rfl)
  obtain ⟨l, a, vs, rfl, _, q, w⟩ := r1
  exact ⟨a, vs, e, e1, q, w, l⟩

/-! ### parallel stores -/
theorem bindSs_two {env env' : Env} {i j : Nat} {rs : List Rv} (h : bindSs env [i, j] rs = some env') : ∃ r q, rs = [r, q] := by
  match rs, h with
  | [], h => simp [bindSs] at h
  | [r], h =>
    simp only [bindSs, Option.bind_eq_some_iff] at h
    obtain ⟨_, _, h⟩ := h
    cases h
  | [r, q], h => exact ⟨r, q, rfl⟩
  | r :: q :: s :: t, h =>
    simp only [bindSs, Option.bind_eq_some_iff] at h
    obtain ⟨_, _, _, _, h⟩ := h
    cases h
theorem bindSs_three {env env' : Env} {i j k : Nat} {rs : List Rv} (h : bindSs env [i, j, k] rs = some env') : ∃ r q s, rs = [r, q, s] := by
  match rs, h with
  | [], h => simp [bindSs] at h
  | [r], h =>
    simp only [bindSs, Option.bind_eq_some_iff] at h
    obtain ⟨_, _, h⟩ := h
    cases h
  | [r, q], h =>
    simp only [bindSs, Option.bind_eq_some_iff] at h
    obtain ⟨_, _, _, _, h⟩ := h
    cases h
  | [r, q, s], h => exact ⟨r, q, s, rfl⟩
  | r :: q :: s :: t :: u, h =>
    simp only [bindSs, Option.bind_eq_some_iff] at h
    obtain ⟨_, _, _, _, _, _, h⟩ := h
    cases h
theorem parT_cons {i : Nat} {is : List Nat} {ts : List PySem.Expr} {names : List Str} (h : parT cx (i :: is) ts names = true) : ∃ x px ts' names', ts = .Name x px :: ts' ∧ names = x :: names' ∧ cx.N[i]? = some x ∧ cx.sc.names.lookup x = some .local ∧ is.contains i = false ∧ parT cx is ts' names' = true := by
  unfold parT at h
  split at h
  · contradiction
  · rename_i heq
    cases heq
    simp only [Bool.and_eq_true, decide_eq_true_eq, Bool.not_eq_true'] at h
    obtain ⟨⟨⟨⟨e1, e2⟩, e3⟩, e4⟩, e5⟩ := h
    subst e1
    exact ⟨_, _, _, _, rfl, rfl, e2, e3, e4, e5⟩
  · cases h
theorem parT_nil {ts : List PySem.Expr} {names : List Str} (h : parT cx [] ts names = true) : ts = [] ∧ names = [] := by
  unfold parT at h
  split at h
  · exact ⟨rfl, rfl⟩
  · contradiction
  · cases h
theorem parT_two {i j : Nat} {ts : List PySem.Expr} {names : List Str} (h : parT cx [i, j] ts names = true) : ∃ x px y py, ts = [.Name x px, .Name y py] ∧ names = [x, y] ∧ cx.N[i]? = some x ∧ cx.N[j]? = some y ∧ i ≠ j ∧ cx.sc.names.lookup x = some .local ∧ cx.sc.names.lookup y = some .local := by
  obtain ⟨x, px, ts1, n1, rfl, rfl, e1, e2, e3, h⟩ := parT_cons h
  obtain ⟨y, py, ts2, n2, rfl, rfl, f1, f2, f3, h⟩ := parT_cons h
  obtain ⟨rfl, rfl⟩ := parT_nil h
  simp at e3
  exact ⟨x, px, y, py, rfl, rfl, e1, f1, e3, e2, f2⟩
theorem parT_three {i j k : Nat} {ts : List PySem.Expr} {names : List Str} (h : parT cx [i, j, k] ts names = true) : ∃ x px y py w pw, ts = [.Name x px, .Name y py, .Name w pw] ∧ names = [x, y, w] ∧ cx.N[i]? = some x ∧ cx.N[j]? = some y ∧ cx.N[k]? = some w ∧ i ≠ j ∧ i ≠ k ∧ j ≠ k ∧ cx.sc.names.lookup x = some .local ∧ cx.sc.names.lookup y = some .local ∧ cx.sc.names.lookup w = some .local := by
  obtain ⟨x, px, ts1, n1, rfl, rfl, e1, e2, e3, h⟩ := parT_cons h
  obtain ⟨y, py, ts2, n2, rfl, rfl, f1, f2, f3, h⟩ := parT_cons h
  obtain ⟨w, pw, ts3, n3, rfl, rfl, g1, g2, g3, h⟩ := parT_cons h
  obtain ⟨rfl, rfl⟩ := parT_nil h
  simp at e3 f3
  exact ⟨x, px, y, py, w, pw, rfl, rfl, e1, f1, g1, e3.1, e3.2, f3, e2, f2, g2⟩
theorem okPar_of {is : List Nat} {ts vs : List PySem.Expr} (h : okPar cx is ts vs = true) : ∃ names, swOk cx.sc ts vs = true ∧ swS cx.sc ts vs = some names ∧ parT cx is ts names = true := by
  unfold okPar at h
  rw [Bool.and_eq_true] at h
  obtain ⟨h1, h2⟩ := h
  split at h2
  · rename_i names e
    exact ⟨names, h1, e, h2⟩
  · cases h2
theorem sPar2 (g : GoodS X z cx c n) {i j : Nat} {ts vs : List PySem.Expr} {k1 k2 : Nat} {p1 p2 pos : Pos} {ta : TA} (h : okPar cx [i, j] ts vs = true) (ha : PA X vs ta) : PS X (.Assign [.Tuple ts k1 p1] (.Tuple vs k2 p2) pos) (tPar i j ta) := by
  obtain ⟨names, q1, q2, q3⟩ := okPar_of h
  obtain ⟨x, px, y, py, rfl, rfl, e1, e2, e3, e4, e5⟩ := parT_two q3
  have hl := swS_len q2
  match vs, hl with
  | [a, b], _ =>
    exact ps_par g.g.tg.calm g.g.tg.nd (by rw [g.g.tg.N]; exact e1) (by rw [g.g.tg.N]; exact e2) e3 (by rw [g.g.tg.sc]; exact e4) (by rw [g.g.tg.sc]; exact e5) ha (by rw [swapped_eq cx.sc _ _ _ _ _ _ X.env g.g.tg.sc q1, q2])
theorem sPar3 (g : GoodS X z cx c n) {i j l : Nat} {ts vs : List PySem.Expr} {k1 k2 : Nat} {p1 p2 pos : Pos} {ta : TA} (h : okPar cx [i, j, l] ts vs = true) (ha : PA X vs ta) : PS X (.Assign [.Tuple ts k1 p1] (.Tuple vs k2 p2) pos) (tPar3 i j l ta) := by
  obtain ⟨names, q1, q2, q3⟩ := okPar_of h
  obtain ⟨x, px, y, py, w, pw, rfl, rfl, e1, e2, e3, e4, e5, e6, e7, e8, e9⟩ := parT_three q3
  have hl := swS_len q2
  match vs, hl with
  | [a, b, d], _ =>
    exact ps_par3 g.g.tg.calm g.g.tg.nd (by rw [g.g.tg.N]; exact e1) (by rw [g.g.tg.N]; exact e2) (by rw [g.g.tg.N]; exact e3) e4 e5 e6 (by rw [g.g.tg.sc]; exact e7) (by rw [g.g.tg.sc]; exact e8) (by rw [g.g.tg.sc]; exact e9) ha (by rw [swapped_eq cx.sc _ _ _ _ _ _ X.env g.g.tg.sc q1, q2])
theorem swS_two {sc : Scope} {ts vs : List PySem.Expr} {names : List Str} (h : swS sc ts vs = some names) : ts.length = 2 ∨ ts.length = 3 := by
  unfold swS at h
  split at h
  · cases h
  · rename_i c
    simp only [Bool.or_eq_true, not_or, bne_iff_ne, ne_eq, Classical.not_not, Bool.not_eq_true', Bool.not_eq_true, Bool.or_eq_false_iff, not_and] at c
    have := c.1.1
    simp at this
    omega
theorem parT_len : ∀ {is : List Nat} {ts : List PySem.Expr} {names : List Str}, parT cx is ts names = true → ts.length = is.length
  | [], ts, names, h => by rw [(parT_nil h).1]; rfl
  | i :: is, ts, names, h => by
    obtain ⟨x, px, ts1, n1, rfl, rfl, _, _, _, h⟩ := parT_cons h
    simp [parT_len h]
theorem sPar (g : GoodS X z cx c n) {is : List Nat} {es : Es} {ts vs : List PySem.Expr} {k1 k2 : Nat} {p1 p2 pos : Pos} (h : okPar cx is ts vs = true) (he : okEs cx es vs = true) : PS X (.Assign [.Tuple ts k1 p1] (.Tuple vs k2 p2) pos) (tS z c (.par is es)) := by
  have ha := PEs.pa he (sEs es g.g vs he)
  have hl : is.length = 2 ∨ is.length = 3 := by
    obtain ⟨names, q1, q2, q3⟩ := okPar_of h
    rw [← parT_len q3]
    exact swS_two q2
  match is, hl, h with
  | [i, j], _, h =>
    refine PS.imp (sPar2 g h ha) fun D σ H ⟨R, env, m, rel, w⟩ => ?_
    simp only [ex] at w
    rw [T.wp_bind] at w
    refine ⟨R, env, m, rel, T.wp_mono w fun p wp us H1 k1 r1 => ?_⟩
    obtain ⟨env', e, wp⟩ := wp_opt wp
    obtain ⟨r, q, ep⟩ := bindSs_two e
    rw [ep] at r1 e
    have b := rel.binds k1 r1 e
    obtain ⟨v, ws, rfl, _, r2, _⟩ := r1
    obtain ⟨w', ws, rfl, _, r3, _⟩ := r2
    have r3 : ws = [] := r3
    subst r3
    exact ⟨v, w', rfl, wp _ _ b⟩
  | [i, j, l], _, h =>
    refine PS.imp (sPar3 g h ha) fun D σ H ⟨R, env, m, rel, w⟩ => ?_
    simp only [ex] at w
    rw [T.wp_bind] at w
    refine ⟨R, env, m, rel, T.wp_mono w fun p wp us H1 k1 r1 => ?_⟩
    obtain ⟨env', e, wp⟩ := wp_opt wp
    obtain ⟨r, q, s, ep⟩ := bindSs_three e
    rw [ep] at r1 e
    have b := rel.binds k1 r1 e
    obtain ⟨v, ws, rfl, _, r2, _⟩ := r1
    obtain ⟨w', ws, rfl, _, r3, _⟩ := r2
    obtain ⟨u', ws, rfl, _, r4, _⟩ := r3
    have r4 : ws = [] := r4
    subst r4
    exact ⟨v, w', u', rfl, wp _ _ b⟩

theorem okTg_var {i : Nat} {tg : PySem.Expr} (h : okTg cx (.var i) tg = true) : ∃ x px, tg = .Name x px := by
  cases tg <;> first | exact ⟨_, _, rfl⟩ | (simp [okTg] at h; done)
theorem okTgs_vars : ∀ {is : List Nat} {ts : List PySem.Expr}, okTgs cx (varsT is) ts = true → ts.length = is.length
  | [], [], _ => rfl
  | [], _ :: _, h => by simp [varsT, okTgs] at h
  | _ :: _, [], h => by simp [varsT, okTgs] at h
  | i :: is, e :: es, h => by
    simp only [varsT, okTgs, Bool.and_eq_true] at h
    simp [okTgs_vars h.2]
theorem sNames (g : GoodS X z cx c n) : ∀ {is : List Nat} {ts : List PySem.Expr}, okTgs cx (varsT is) ts = true → PGs X ts (fun vs σ H Q => vs.length = is.length ∧ Q (setAll σ is vs) H)
  | [], [], _ => PGs.imp pgs_nil fun vs σ H Q ⟨h, q⟩ => by
    have : vs = [] := List.eq_nil_of_length_eq_zero h
    subst this
    exact ⟨rfl, q⟩
  | [], _ :: _, h => by simp [varsT, okTgs] at h
  | _ :: _, [], h => by simp [varsT, okTgs] at h
  | i :: is, e :: es, h => by
    have h0 := h
    simp only [varsT, okTgs, Bool.and_eq_true] at h
    obtain ⟨x, px, rfl⟩ := okTg_var h.1
    have h1 := h.1
    simp only [okTg, Bool.and_eq_true, decide_eq_true_eq] at h1
    refine PGs.imp (pgs_cons (pg_name (i := i) g.g.tg.nd (by rw [g.g.tg.N]; exact h1.1.1) (by rw [g.g.tg.sc]; exact loc_of h1.2) (g.g.tg.tgt x h1.1.2)) (sNames g h.2) ((okTgs_each (cx := cx) X.env h0).2 _ es rfl)) fun vs σ H Q ⟨hl, q⟩ => ?_
    cases vs with
    | nil => cases hl
    | cons v ws => exact ⟨v, ws, rfl, Nat.succ.inj hl, q⟩
theorem RepRs.len {M O : AS} {Hs H : Hp} : ∀ {rs : List Rv} {vs : List V} {M : AS}, RepRs z M O Hs H rs vs → vs.length = rs.length
  | [], vs, M, h => by
    have h : vs = [] := h
    subst h; rfl
  | r :: rs, vs, M, h => by
    obtain ⟨v, ws, rfl, _, h2, _⟩ := h
    simp [RepRs.len (M := M) (O := O) h2]
theorem bindSs_len : ∀ {is : List Nat} {rs : List Rv} {env env' : Env}, bindSs env is rs = some env' → rs.length = is.length
  | [], [], _, _, _ => rfl
  | [], _ :: _, _, _, h => by simp [bindSs] at h
  | _ :: _, [], _, _, h => by simp [bindSs] at h
  | i :: is, r :: rs, env, env', h => by
    simp only [bindSs, Option.bind_eq_some_iff] at h
    obtain ⟨_, _, h⟩ := h
    simp [bindSs_len h]
theorem sParT (g : GoodS X z cx c n) {is : List Nat} {es : Es} {ts vs : List PySem.Expr} {k1 k2 : Nat} {p1 p2 pos : Pos} (h : okParT cx is ts vs = true) (he : okEs cx es vs = true) : PS X (.Assign [.Tuple ts k1 p1] (.Tuple vs k2 p2) pos) (tS z c (.par is es)) := by
  unfold okParT at h
  rw [Bool.and_eq_true, Bool.and_eq_true, Bool.and_eq_true, decide_eq_true_eq] at h
  obtain ⟨⟨⟨h1, h2⟩, h3⟩, h4⟩ := h
  have ha := PEs.pa he (sEs es g.g vs he)
  have hw : swappedStores [.Tuple ts k1 p1] (.Tuple vs k2 p2) X.env = pure none := by
    rw [swapped_eq cx.sc _ _ _ _ _ _ X.env g.g.tg.sc h2]
    cases e : swS cx.sc ts vs with
    | none => rfl
    | some _ => rw [e] at h3; cases h3
  refine PS.imp (ps_asg (pe_tup ha) (pg_tup (n := ts.length) g.g.tg.calm (sNames g h1) (assignEach_len _ _) (okTgs_each (cx := cx) X.env h1).1) rfl hw rfl) fun D σ H ⟨R, env, m, rel, w⟩ => ?_
  simp only [ex] at w
  rw [T.wp_bind] at w
  refine ⟨R, env, m, rel, T.wp_mono (evs_len es w) fun p ⟨hl, wp⟩ us H1 k1 r1 => ?_⟩
  obtain ⟨env', e, wp⟩ := wp_opt wp
  have b := rel.binds k1 r1 e
  have l1 := RepRs.len (M := Clo R env σ) (O := OwnA env σ) r1
  have l2 := bindSs_len e
  have l3 := okEs_len es vs he
  have l4 : ts.length = is.length := okTgs_vars h1
  refine ⟨by rw [l1, hl, l3, sizeMax_eq]; exact Nat.le_trans h4 (by decide), fun q hq => ⟨q, us, rfl, .of upd_same, by rw [l1, l2, l4], by rw [l1, l2], wp _ _ (b.of_keeps (Keeps.new hq))⟩⟩

/-! ### methods of lists -/
theorem meth_of {i : Nat} {name : String} {o : PySem.Expr} {nm : Str} {ap cp : Pos} (h : okMeth cx i name o nm ap cp = true) : ∃ x p, o = .Name x p ∧ okIdx cx i x = true ∧ nm = Str.ofString name ∧ (ap.endLine == cp.line) = true := by
  unfold okMeth at h
  split at h
  · rw [Bool.and_eq_true, Bool.and_eq_true, decide_eq_true_eq] at h
    exact ⟨_, _, rfl, h.1.1, h.1.2, h.2⟩
  · cases h
theorem idx_of {i : Nat} {x : Str} (g : Good X z cx c n) {p : Pos} (h : okIdx cx i x = true) : PE X (.Name x p) (tVar i) := by
  unfold okIdx at h
  rw [Bool.and_eq_true, Bool.and_eq_true, decide_eq_true_eq] at h
  exact pVar g h.1.1 h.1.2 h.2
theorem pMeth1 (g : Good X z cx c n) {i : Nat} {name id : String} {o v : PySem.Expr} {e : E} {nm : Str} {ap cp : Pos} {r : V → List V → Hp → VK → Prop} {te : TE} (h : okMeth cx i name o nm ap cp = true) (slot : PySem.Slot "list" (Str.ofString name) id) (hty : typeOf (.builtin id) = pure (.type "method_descriptor")) (hm : MtR X id r)
    (hv : okE cx e v = true) (he : PE X v te) : PE X (.Call (.Attribute o nm ap) [v] [] cp) (tBM X.K "list" r (tVar i) (tCons te tNil)) := by
  obtain ⟨x, p, rfl, h1, rfl, h3⟩ := meth_of h
  exact pe_bm PySem.F.plainAttrs_list slot hty hm (idx_of g h1) (pa_cons he pa_nil (okE_star hv [] X.env)) rfl (by rw [okE_star hv]; rfl) h3 (okE_star hv [] X.env) rfl
theorem pMeth2 (g : Good X z cx c n) {i : Nat} {name id : String} {o v w : PySem.Expr} {e f : E} {nm : Str} {ap cp : Pos} {r : V → List V → Hp → VK → Prop} {te tf : TE} (h : okMeth cx i name o nm ap cp = true) (slot : PySem.Slot "list" (Str.ofString name) id) (hty : typeOf (.builtin id) = pure (.type "method_descriptor")) (hm : MtR X id r)
    (hv : okE cx e v = true) (hw : okE cx f w = true) (he : PE X v te) (hf : PE X w tf) : PE X (.Call (.Attribute o nm ap) [v, w] [] cp) (tBM X.K "list" r (tVar i) (tCons te (tCons tf tNil))) := by
  obtain ⟨x, p, rfl, h1, rfl, h3⟩ := meth_of h
  exact pe_bm PySem.F.plainAttrs_list slot hty hm (idx_of g h1) (pa_cons he (pa_cons hf pa_nil (okE_star hw [] X.env)) (okE_star hv _ X.env)) rfl (by rw [okE_star hv, okE_star hw]; rfl) h3 (okE_star hv _ X.env) (by rw [okE_star hw]; rfl)
theorem short_of {xs : List Val} {k : Nat} (h : shortL xs k = true) : xs.length + k < 1000000 := of_decide_eq_true h
theorem sAppend (g : GoodS X z cx c n) {i : Nat} {e : E} {o v : PySem.Expr} {nm : Str} {ap cp pos : Pos} (h : okMeth cx i "append" o nm ap cp = true) (hv : okE cx e v = true) : PS X (.Expr (.Call (.Attribute o nm ap) [v] [] cp) pos) (tS z c (.append i e)) := by
  refine PS.imp (ps_expr (pMeth1 g.g h PySem.F.slot_list_append PySem.F.type_list_append mt_append hv (sE e g.g v hv).1)) fun D σ H ⟨R, env, m, rel, w⟩ => ?_
  simp only [ex] at w
  rw [T.wp_bind] at w
  have w2 : ∃ xs, ownS env i = some xs := by
    obtain ⟨p, wp⟩ := T.wp_ex w
    obtain ⟨xs, e, _⟩ := wp_opt wp
    exact ⟨xs, e⟩
  obtain ⟨xs, eo⟩ := w2
  obtain ⟨a, us, e1, e2, e3, e4, e5⟩ := rel.own eo
  refine ⟨.ref a, e2, .inl ⟨rfl, us, SqL.of e3⟩, R, env, m, rel, T.wp_mono w fun p wp v H1 k1 r1 => ?_⟩
  rw [eo] at wp
  obtain ⟨x, ex', wp⟩ := wp_opt (show (T.opt p.1.store _).wp _ from wp)
  obtain ⟨hs, wp⟩ := wp_iff wp
  have hs := short_of hs
  have rel1 := rel.of_keeps k1
  have nb := rel.own_nobox ⟨i, .l xs, e1, e2⟩
  have e3' := k1.at_ a _ e3 nb
  have e4' : Reps z (Clo R env σ) H1 xs us := Reps.mono rel.box k1 rel.bxC (fun a m => .inl m) xs e4
  refine ⟨a, us, v, rfl, rfl, e3', by rw [e4.length, sizeMax_eq]; show _ < 16777216; omega, wp _ _ (rel1.updOwn e1 e2 (e4'.append (Reps.cons (r1.store rel.trkC ex') Reps.nil)) ?_)⟩
  simp only [List.length_append, List.length_cons, List.length_nil]
  show _ ≤ 16777216
  omega
theorem sExtend (g : GoodS X z cx c n) {i : Nat} {e : E} {o v : PySem.Expr} {nm : Str} {ap cp pos : Pos} (h : okMeth cx i "extend" o nm ap cp = true) (hv : okE cx e v = true) : PS X (.Expr (.Call (.Attribute o nm ap) [v] [] cp) pos) (tS z c (.extend i e)) := by
  refine PS.imp (ps_expr (pMeth1 g.g h PySem.F.slot_list_extend PySem.F.type_list_extend mt_extend hv (sE e g.g v hv).1)) fun D σ H ⟨R, env, m, rel, w⟩ => ?_
  simp only [ex] at w
  rw [T.wp_bind] at w
  have w2 : ∃ xs, ownS env i = some xs := by
    obtain ⟨p, wp⟩ := T.wp_ex w
    obtain ⟨xs, e, _⟩ := wp_opt wp
    exact ⟨xs, e⟩
  obtain ⟨xs, eo⟩ := w2
  obtain ⟨a, us, e1, e2, e3, e4, e5⟩ := rel.own eo
  refine ⟨.ref a, e2, .inl ⟨rfl, us, SqL.of e3⟩, R, env, m, rel, T.wp_mono w fun p wp v H1 k1 r1 => ?_⟩
  rw [eo] at wp
  obtain ⟨ys, ex', wp⟩ := wp_opt (show (T.opt p.1.lst _).wp _ from wp)
  obtain ⟨hs, wp⟩ := wp_iff wp
  have hs := short_of hs
  have rel1 := rel.of_keeps k1
  have nb := rel.own_nobox ⟨i, .l xs, e1, e2⟩
  have e3' := k1.at_ a _ e3 nb
  have e4' : Reps z (Clo R env σ) H1 xs us := Reps.mono rel.box k1 rel.bxC (fun a m => .inl m) xs e4
  obtain ⟨b, zs, rfl, e6, e7⟩ := r1.lst ex'
  refine ⟨a, b, us, zs, rfl, rfl, e3', e6, by rw [e4.length, e7.length, sizeMax_eq]; show _ ≤ 16777216; omega, wp _ _ (rel1.updOwn e1 e2 (e4'.append e7) ?_)⟩
  simp only [List.length_append]
  show _ ≤ 16777216
  omega
theorem Reps.insert {M : AS} {H : Hp} {xs : List Val} {vs : List V} {x : Val} {v : V} (h : Reps z M H xs vs) (r : Rep z M H x v) (k : Nat) : Reps z M H (xs.take k ++ [x] ++ xs.drop k) (vs.take k ++ [v] ++ vs.drop k) :=
  ((h.take k).append (Reps.cons r Reps.nil)).append (h.drop k)
theorem sInsert (g : GoodS X z cx c n) {i : Nat} {k e : E} {o v w : PySem.Expr} {nm : Str} {ap cp pos : Pos} (h : okMeth cx i "insert" o nm ap cp = true) (hk : okE cx k v = true) (hv : okE cx e w = true) : PS X (.Expr (.Call (.Attribute o nm ap) [v, w] [] cp) pos) (tS z c (.insert i k e)) := by
  refine PS.imp (ps_expr (pMeth2 g.g h PySem.F.slot_list_insert PySem.F.type_list_insert mt_insert hk hv (sE k g.g v hk).1 (sE e g.g w hv).1)) fun D σ H ⟨R, env, m, rel, w⟩ => ?_
  simp only [ex] at w
  rw [T.wp_bind] at w
  have w2 : ∃ xs, ownS env i = some xs := by
    obtain ⟨p, wp⟩ := T.wp_ex w
    rw [T.wp_bind] at wp
    obtain ⟨q, wq⟩ := T.wp_ex wp
    obtain ⟨xs, e, _⟩ := wp_opt wq
    exact ⟨xs, e⟩
  obtain ⟨xs, eo⟩ := w2
  obtain ⟨a, us, e1, e2, e3, e4, e5⟩ := rel.own eo
  refine ⟨.ref a, e2, .inl ⟨rfl, us, SqL.of e3⟩, R, env, m, rel, T.wp_mono w fun p wp v H1 k1 r1 => ?_⟩
  rw [T.wp_bind] at wp
  refine ⟨R, env, p.2, rel.of_keeps k1, T.wp_mono wp fun q wq u H2 k2 r2 => ?_⟩
  rw [eo] at wq
  obtain ⟨j, ej, wq⟩ := wp_opt (show (T.opt (optI p.1) _).wp _ from wq)
  obtain ⟨x, ex', wq⟩ := wp_opt wq
  obtain ⟨hs, wq⟩ := wp_iff wq
  rw [Bool.and_eq_true, Bool.and_eq_true, decide_eq_true_eq] at hs
  have hj := small_of hs.1.2
  have hs2 := short_of hs.2
  have k12 := k1.trans k2
  have rel1 := rel.of_keeps k12
  have nb := rel.own_nobox ⟨i, .l xs, e1, e2⟩
  have e3' := k12.at_ a _ e3 nb
  have e4' : Reps z (Clo R env σ) H2 xs us := Reps.mono rel.box k12 rel.bxC (fun a m => .inl m) xs e4
  rw [optI_of ej] at r1
  refine ⟨a, us, j, u, rfl, by rw [r1.int], e3', by rw [e4.length, sizeMax_eq]; show _ < 16777216; omega, hs.1.1, by omega, wq _ _ (rel1.updOwn e1 e2 (e4'.insert (r2.store (rel.of_keeps k1).trkC ex') _) ?_)⟩
  simp only [insertAt, List.length_append, List.length_take, List.length_drop, List.length_cons, List.length_nil]
  show _ ≤ 16777216
  omega
theorem okE_asg {a : E} {e o : Expr} {pos : Pos} {env : PySem.Env} (h : okE cx a e = true) : ∀ v, assign (.Subscript o e pos) env v = (do
      let ov ← holding [v] (eval o env)
      let iv ← holding [v, ov] (eval e env)
      standAt pos
      holding [v, ov, iv] (setItem ov iv v)
      release [v, ov, iv] []) := by
  intro v
  cases e <;> first | rfl | (exfalso; revert h; cases a <;> simp [okE]; done)
theorem sSetIdx (g : GoodS X z cx c n) {i : Nat} {k e : E} {x : Str} {k' v : PySem.Expr} {p1 p2 pos : Pos} (h : okIdx cx i x = true) (hk : okE cx k k' = true) (hv : okE cx e v = true) : PS X (.Assign [.Subscript (.Name x p1) k' p2] v pos) (tS z c (.setIdx i k e)) := by
  refine PS.imp (ps_asg (sE e g.g v hv).1 (pg_sub (idx_of g.g h) (sE k g.g k' hk).1 set_list (okE_asg hk)) ?_ rfl rfl) fun D σ H ⟨R, env, m, rel, w⟩ => ?_
  · show swapsWith v (some (.Subscript (.Name x p1) k' p2)) pos.line X.env = pure false
    rw [swB_eq g hv]
    cases v <;> rfl
  · simp only [ex] at w
    rw [T.wp_bind] at w
    refine ⟨R, env, m, rel, T.wp_mono w fun p wp v H1 k1 r1 => ?_⟩
    rw [T.wp_bind] at wp
    have w2 : ∃ xs, ownS env i = some xs := by
      obtain ⟨q, wq⟩ := T.wp_ex wp
      obtain ⟨xs, e, _⟩ := wp_opt wq
      exact ⟨xs, e⟩
    obtain ⟨xs, eo⟩ := w2
    have rel1 := rel.of_keeps k1
    obtain ⟨a, us, e1, e2, e3, e4, e5⟩ := rel1.own eo
    refine ⟨.ref a, e2, R, env, p.2, rel1, T.wp_mono wp fun q wq u H2 k2 r2 => ?_⟩
    rw [eo] at wq
    obtain ⟨j, ej, wq⟩ := wp_opt (show (T.opt (optI q.1) _).wp _ from wq)
    obtain ⟨y, ey, wq⟩ := wp_opt wq
    obtain ⟨l, el, wq⟩ := wp_opt wq
    have rel2 := rel1.of_keeps k2
    have nb := rel1.own_nobox ⟨i, .l xs, e1, e2⟩
    have e3' := k2.at_ a _ e3 nb
    have e4' : Reps z (Clo R env σ) H2 xs us := Reps.mono rel1.box k2 rel1.bxC (fun a m => .inl m) xs e4
    rw [optI_of ej] at r2
    have ry : Rep z (Clo R env σ) H2 y v := Rep.mono rel1.box k2 rel1.bxC (fun a m => .inl m) y (r1.store rel.trkC ey)
    refine ⟨a, us, j, l, rfl, r2.int, e3', by rw [e4.length]; exact el, wq _ _ (rel2.updOwn e1 e2 (e4'.set l ry) (by rw [List.length_set]; exact e5))⟩
theorem place_seq {n : Nat} {i : Int} {k : Nat} (h : place n i = some k) : seqIndex? i n = some k ∧ -(n : Int) ≤ i ∧ i < n ∧ k < n := by
  unfold place at h
  unfold seqIndex?
  by_cases h0 : 0 ≤ i
  · rw [if_pos h0] at h
    have e : (if i < 0 then i + (n : Int) else i) = i := if_neg (by omega)
    rw [e]
    split at h
    · cases h
      refine ⟨if_pos (by simp; omega), by omega, by omega, by omega⟩
    · cases h
  · rw [if_neg h0] at h
    have e : (if i < 0 then i + (n : Int) else i) = i + n := if_pos (by omega)
    rw [e]
    split at h
    · cases h
      refine ⟨if_pos (by simp; omega), by omega, by omega, by omega⟩
    · cases h
/-- what pop(k) asks -/
theorem popRel {R : Fr} {env : Env} {σ : St} {H : Hp} (rel : Rel z R env σ H) {j k : Nat} {xs : List Val} {x : Val} {a : Addr} {us : List V} (e1 : env[j]? = some (.own (.l xs))) (e2 : σ[j]? = some (some (.ref a))) (e4 : Reps z (Clo R env σ) H xs us) (e5 : xs.length ≤ sizeMax) (e3 : H a = some (.lst us)) (hx : xs[k]? = some x) :
    ∃ y, us[k]? = some y ∧ Rel z R (List.set env j (.own (.l (xs.eraseIdx k)))) σ (upd H a (.lst (us.eraseIdx k))) ∧ Rep z (Clo R (List.set env j (.own (.l (xs.eraseIdx k)))) σ) (upd H a (.lst (us.eraseIdx k))) x y := by
  obtain ⟨y, e6, ry⟩ := e4.get hx
  have hj : j < env.length := (List.getElem?_eq_some_iff.mp e1).1
  have clo : ∀ b, Clo R (List.set env j (.own (.l (xs.eraseIdx k)))) σ b → Clo R env σ b := fun b m => by
    rcases m with m | ⟨l, zs, f1, f2⟩
    · exact .inl m
    · by_cases q : j = l
      · subst q; exact .inr ⟨j, .l xs, e1, f2⟩
      · rw [List.getElem?_set_ne q] at f1
        exact .inr ⟨l, zs, f1, f2⟩
  refine ⟨y, e6, rel.updOwn e1 e2 (e4.eraseIdx k) ?_, Rep.less clo x (Rep.upd (.inr ⟨j, .l xs, e1, e2⟩) e3 x ry)⟩
  exact Nat.le_trans (List.length_eraseIdx_le xs k) e5
theorem sPopAt (g : GoodS X z cx c n) {i j : Nat} {e : Eo} {x : Str} {l : List PySem.Expr} {o : PySem.Expr} {nm : Str} {ap cp px pos : Pos} (h : okLoc cx i x = true) (hm : okMeth cx j "pop" o nm ap cp = true) (hl : (match e, l with
      | .no, [] => true
      | .so e, [v] => okE cx e v
      | _, _ => false) = true) : PS X (.Assign [.Name x px] (.Call (.Attribute o nm ap) l [] cp) pos) (tS z c (.popAt i j e)) := by
  obtain ⟨h1, h2, h3⟩ := tgt_of g h
  cases e with
  | no =>
    cases l with
    | cons _ _ => cases hl
    | nil =>
      obtain ⟨y, p, rfl, q1, rfl, q3⟩ := meth_of hm
      refine PS.imp (ps_set g.g.tg.nd h1 h2 (pe_bm0 PySem.F.plainAttrs_list PySem.F.slot_list_pop PySem.F.type_list_pop mt_pop (idx_of g.g q1) rfl q3) rfl h3) fun D σ H ⟨R, env, m, rel, w⟩ => ?_
      simp only [ex, evo] at w
      rw [T.wp_bind] at w
      simp only [T.wp] at w
      obtain ⟨xs, eo, w⟩ := wp_opt w
      obtain ⟨a, us, e1, e2, e3, e4, e5⟩ := rel.own eo
      obtain ⟨k, ek, w⟩ := wp_opt w
      obtain ⟨y, ey, w⟩ := wp_opt w
      obtain ⟨env', eb, w⟩ := wp_opt w
      obtain ⟨v, ev', rel2, rx⟩ := popRel rel e1 e2 e4 e5 e3 ey
      have hk : k = us.length - 1 := by
        have := e4.length
        unfold place at ek
        simp only [Option.getD_none] at ek
        rw [if_neg (by omega)] at ek
        split at ek
        · cases ek; omega
        · cases ek
      have hd : us.eraseIdx k = us.dropLast := by
        rw [hk, List.dropLast_eq_take, List.eraseIdx_eq_take_drop_succ]
        have := (List.getElem?_eq_some_iff.mp ev').1
        rw [List.drop_eq_nil_of_le (by omega)]
        simp
      refine ⟨.ref a, e2, .inl ⟨rfl, us, SqL.of e3⟩, a, us, v, rfl, rfl, e3, by rw [← hk]; exact ev', ?_⟩
      rw [hd] at rel2 rx
      exact w _ _ (rel2.bind Keeps.refl (r := .v y) rx eb)
  | so e =>
    cases l with
    | nil => cases hl
    | cons w l =>
      cases l with
      | cons _ _ => cases hl
      | nil =>
        have hl : okE cx e w = true := hl
        refine PS.imp (ps_set g.g.tg.nd h1 h2 (pMeth1 g.g hm PySem.F.slot_list_pop PySem.F.type_list_pop mt_popAt hl (sE e g.g w hl).1) rfl h3) fun D σ H ⟨R, env, m, rel, w⟩ => ?_
        simp only [ex, evo] at w
        rw [T.wp_bind, T.wp_bind] at w
        have w2 : ∃ xs, ownS env j = some xs := by
          obtain ⟨p, wp⟩ := T.wp_ex w
          obtain ⟨n, _, wp⟩ := wp_opt wp
          obtain ⟨xs, e, _⟩ := wp_opt wp
          exact ⟨xs, e⟩
        obtain ⟨xs, eo⟩ := w2
        obtain ⟨a, us, e1, e2, e3, e4, e5⟩ := rel.own eo
        refine ⟨.ref a, e2, .inl ⟨rfl, us, SqL.of e3⟩, R, env, m, rel, T.wp_mono w fun p wp v H1 k1 r1 => ?_⟩
        obtain ⟨t, et, wp⟩ := wp_opt wp
        simp only [T.wp] at wp
        rw [eo] at wp
        obtain ⟨k, ek, wp⟩ := wp_opt (show (T.opt (place xs.length _) _).wp _ from wp)
        obtain ⟨y, ey, wp⟩ := wp_opt wp
        obtain ⟨env', eb, wp⟩ := wp_opt wp
        have rel1 := rel.of_keeps k1
        have nb := rel.own_nobox ⟨j, .l xs, e1, e2⟩
        have e3' := k1.at_ a _ e3 nb
        have e4' : Reps z (Clo R env σ) H1 xs us := Reps.mono rel.box k1 rel.bxC (fun a m => .inl m) xs e4
        obtain ⟨v2, ev', rel2, rx⟩ := popRel rel1 e1 e2 e4' e5 e3' ey
        rw [optI_of et] at r1
        obtain ⟨s1, s2, s3, s4⟩ := place_seq ek
        simp only [Option.getD_some] at s1 s2 s3 s4
        have b : xs.length ≤ 16777216 := e5
        refine ⟨a, us, t, k, v2, rfl, by rw [r1.int], e3', by omega, by omega, by rw [e4.length]; exact s1, ev', ?_⟩
        exact wp _ _ (rel2.bind Keeps.refl (r := .v y) rx eb)
theorem sPopPar (g : GoodS X z cx c n) {i i2 j : Nat} {e e2 : E} {ts : List PySem.Expr} {o v w : PySem.Expr} {nm : Str} {ap cp p1 p2 pos : Pos} {k1 k2 : Nat} (h : okPar cx [i, i2] ts [.Call (.Attribute o nm ap) [v] [] cp, w] = true) (hm : okMeth cx j "pop" o nm ap cp = true) (hv : okE cx e v = true) (hw : okE cx e2 w = true) :
    PS X (.Assign [.Tuple ts k1 p1] (.Tuple [.Call (.Attribute o nm ap) [v] [] cp, w] k2 p2) pos) (tS z c (.popPar i i2 j e e2)) := by
  have pop := pMeth1 g.g hm PySem.F.slot_list_pop PySem.F.type_list_pop mt_popAt hv (sE e g.g v hv).1
  refine PS.imp (sPar2 g h (pa_cons pop (pa_cons (sE e2 g.g w hw).1 pa_nil (okE_star hw [] X.env)) rfl)) fun D σ H ⟨R, env, m, rel, w⟩ => ?_
  simp only [ex] at w
  rw [T.wp_bind] at w
  have w2 : ∃ xs, ownS env j = some xs := by
    obtain ⟨p, wp⟩ := T.wp_ex w
    obtain ⟨xs, e, _⟩ := wp_opt wp
    exact ⟨xs, e⟩
  obtain ⟨xs, eo⟩ := w2
  obtain ⟨a, us, e1, e2, e3, e4, e5⟩ := rel.own eo
  refine ⟨.ref a, e2, .inl ⟨rfl, us, SqL.of e3⟩, R, env, m, rel, T.wp_mono w fun p wp v H1 k1 r1 => ?_⟩
  rw [eo] at wp
  obtain ⟨t, et, wp⟩ := wp_opt (show (T.opt (optI p.1) _).wp _ from wp)
  obtain ⟨k, ek, wp⟩ := wp_opt wp
  obtain ⟨y, ey, wp⟩ := wp_opt wp
  rw [T.wp_bind] at wp
  have rel1 := rel.of_keeps k1
  have nb := rel.own_nobox ⟨j, .l xs, e1, e2⟩
  have e3' := k1.at_ a _ e3 nb
  have e4' : Reps z (Clo R env σ) H1 xs us := Reps.mono rel.box k1 rel.bxC (fun a m => .inl m) xs e4
  obtain ⟨v2, ev', rel2, rx⟩ := popRel rel1 e1 e2 e4' e5 e3' ey
  rw [optI_of et] at r1
  obtain ⟨s1, s2, s3, s4⟩ := place_seq ek
  have b : xs.length ≤ 16777216 := e5
  refine ⟨a, us, t, k, v2, rfl, by rw [r1.int], e3', by omega, by omega, by rw [e4.length]; exact s1, ev', ?_⟩
  refine ⟨R, _, p.2, rel2, T.wp_mono wp fun q wq u H2 k2 r2 => ⟨v2, u, rfl, ?_⟩⟩
  obtain ⟨env', eb, wq⟩ := wp_opt wq
  refine wq _ _ (rel2.binds k2 (is := [i, i2]) (rs := [.v y, q.1]) (vs := [v2, u]) ⟨v2, [u], rfl, ?_, ?_, fun b m => ?_⟩ eb)
  · show Rep z _ H2 y v2
    refine Rep.mono rel2.box k2 rel2.bxC (fun b m => ?_) y rx
    rcases m with m | m
    · exact .inl m
    · exact .inr (NewA.fresh (M := fun _ => False) (O := OwnA (List.set env j (.own (.l (xs.eraseIdx k)))) σ) r2.toRs b m).1
  · have : (fun b => Clo R (List.set env j (.own (.l (xs.eraseIdx k)))) σ b ∨ ((∃ ys, Rv.v y = .new ys) ∧ v2 = .ref b)) = Clo R (List.set env j (.own (.l (xs.eraseIdx k)))) σ := by
      funext b; simp
    rw [this]
    exact r2.toRs
  · obtain ⟨⟨ys, q⟩, _⟩ := m
    cases q
theorem sAug (g : GoodS X z cx c n) {i : Nat} {o : Bn} {e : E} {x : Str} {op : Operator} {v : PySem.Expr} {px pos : Pos} (h : okLoc cx i x = true) (ho : (match o with | .add => true | .sub => true | _ => false) = true) (hb : isB o op = true) (hv : okE cx e v = true) : PS X (.AugAssign (.Name x px) op v pos) (tS z c (.aug i o e)) := by
  obtain ⟨h1, h2, h3⟩ := tgt_of g h
  have main : ∀ {f : Int → Int → Int}, PIp X op (ipI f) → (∀ r q y, augI o r q = some y → ∃ k l, r = .v (.int k) ∧ q = .v (.int l) ∧ y = .int (f k l)) → PS X (.AugAssign (.Name x px) op v pos) (tS z c (.aug i o e)) := fun {f} hp hf => by
    refine PS.imp (ps_aug g.g.tg.nd h1 h2 (sE e g.g v hv).1 hp h3) fun D σ H ⟨R, env, m, rel, w⟩ => ?_
    simp only [ex] at w
    obtain ⟨r, er, w⟩ := wp_opt w
    rw [T.wp_bind] at w
    obtain ⟨u, eu, ru⟩ := rel.load er
    refine ⟨u, eu, R, env, m, rel, T.wp_mono w fun p wp v H1 k1 r1 => ?_⟩
    obtain ⟨y, ey, wp1⟩ := wp_opt wp
    obtain ⟨k, l, f1, f2, f3⟩ := hf _ _ _ ey
    rw [f1] at ru
    rw [f2] at r1
    subst f3
    obtain ⟨env', eb, wp2⟩ := wp_opt wp1
    exact ⟨k, l, ru.int, r1.int, wp2 _ _ ((rel.of_keeps k1).bind Keeps.refl (r := .v (.int (f k l))) (v := .int (f k l)) (by simp only [RepR, Rep]) eb)⟩
  unfold isB at hb
  cases o <;> first | cases ho | skip
  · have e := opEq_of hb; subst e
    refine main ip_add fun r q y h => ?_
    unfold augI at h
    split at h
    · cases h; exact ⟨_, _, rfl, rfl, rfl⟩
    · contradiction
    · cases h
  · have e := opEq_of hb; subst e
    refine main ip_sub fun r q y h => ?_
    unfold augI at h
    split at h
    · contradiction
    · cases h; exact ⟨_, _, rfl, rfl, rfl⟩
    · cases h

/-! ### returns, loops -/
theorem outV_of {r q : Rv} (h : outV r = some q) : r = q ∧ r.isVw = false := by
  cases r <;> cases h <;> exact ⟨rfl, rfl⟩
theorem RepR.out {R : Fr} {env : Env} {σ : St} {H H' : Hp} (rel : Rel z R env σ H) {r : Rv} {v : V} (nv : r.isVw = false) (h : RepR z (Clo R env σ) (OwnA env σ) H H' r v) : RepR z R.Mx (fun _ => False) R.H0 H' r v := by
  match r, h with
  | .v x, h => exact Rep.less (fun a m => .inl m) x h
  | .new xs, h =>
    obtain ⟨l, a, vs, e, n, q, w⟩ := h
    exact ⟨l, a, vs, e, rel.keep.trk a n, q, Reps.less (fun b m => m.imp .inl id) xs w⟩
  | .vw xs, h => cases nv
theorem sRet (g : GoodS X z cx c n) {e : E} {v : PySem.Expr} {pos : Pos} (hv : okE cx e v = true) : PS X (.Return (some v) pos) (tS z c (.ret e)) := by
  refine PS.imp (ps_ret (sE e g.g v hv).1) fun D σ H ⟨R, env, m, rel, w⟩ => ?_
  simp only [ex] at w
  rw [T.wp_bind] at w
  refine ⟨R, env, m, rel, T.wp_mono w fun p wp v H1 k1 r1 => ?_⟩
  obtain ⟨r, er, wp⟩ := wp_opt wp
  obtain ⟨rfl, nv⟩ := outV_of er
  exact wp v H1 (rel.keep.trans k1) (r1.out rel nv)
theorem sRetOwn (g : GoodS X z cx c n) {i : Nat} {x : Str} {px pos : Pos} (h : okIdx cx i x = true) : PS X (.Return (some (.Name x px)) pos) (tS z c (.retOwn i)) := by
  refine PS.imp (ps_ret (idx_of g.g h)) fun D σ H ⟨R, env, m, rel, w⟩ => ?_
  simp only [ex] at w
  obtain ⟨xs, eo, w⟩ := wp_opt w
  obtain ⟨a, us, e1, e2, e3, e4, e5⟩ := rel.own eo
  have oa : OwnA env σ a := ⟨i, .l xs, e1, e2⟩
  exact ⟨.ref a, e2, w (.ref a) H rel.keep ⟨e5, a, us, rfl, rel.own0 a oa, e3, Reps.less (fun b m => by
    rcases m with m | m
    · exact .inl m
    · rw [m]; exact .inr oa) xs e4⟩⟩
theorem endP_unpin {D : Ends} {R : Fr} {ps : List (Val × V)} {N : L2.St → Hp → Prop} {o : Out} {bk : L2.St → Hp → Prop} (h1 : o.1 = .next → ∀ σ' H', Rel z (R.pinned ps) o.2.1 σ' H' → N σ' H') (h2 : o.1 = .cont → ∀ σ' H', Rel z (R.pinned ps) o.2.1 σ' H' → N σ' H')
    (h3 : o.1 = .brk → ∀ σ' H', Rel z (R.pinned ps) o.2.1 σ' H' → D.nx σ' H') (h4 : ∀ r, o.1 = .ret r → ∀ v H', Keeps z R.H0 H' → RepR z R.Mx (fun _ => False) R.H0 H' r v → D.rt v H') : endP z ⟨N, D.rt, D.nx, N⟩ (R.pinned ps) o := by
  unfold endP
  split
  · exact h1 (by assumption)
  · exact h3 (by assumption)
  · exact h2 (by assumption)
  · exact h4 _ (by assumption)
theorem sFor (g : GoodS X z cx c n) {t : Tg} {it : It} {b : Ss} {tg iter : PySem.Expr} {body : List Stmt} {pos : Pos} (hi : okIt cx it tg iter = true) (ht : okTg cx t tg = true) (hb : PSs X body (tSs z c b)) : PS X (.For tg iter body [] pos) (tS z c (.for t it b)) := by
  refine PS.imp (ps_for g.passes g.g.tg.calm (sIt it false g.g tg iter hi) (sTg g.g.tg g.g.K t tg ht) hb (fun x => noSet_fold (okIt_noSet hi) X.env x)) fun D σ H ⟨R, env, m, rel, w⟩ => ?_
  simp only [ex] at w
  rw [T.wp_bind] at w
  refine ⟨R, env, m, rel, T.wp_mono w fun p wp J pins H1 k1 src hl hp => ?_⟩
  have rel1 := (rel.of_keeps k1).pinned fun q m => (hp q m).rep
  refine ⟨fun i m σ H => m = p.1.length - i ∧ i ≤ p.1.length ∧ ∃ env h, Rel z (R.pinned pins) env σ H ∧ (forL (fun x e => t.set x e) (fun e h => exs c b e h) (p.1.drop i) env h).wp (endP z D R),
    ⟨p.1.length, by omega, Nat.zero_le _, env, p.2, rel1, by simpa using wp⟩, fun i m σ2 H2 ⟨hm, hi, env2, h2, rel2, w2⟩ => ?_⟩
  have hpin : ∀ q ∈ pins, Pn z (Clo (R.pinned pins) env2 σ2) (Clo (R.pinned pins) env2 σ2) H2 q := fun q m => Pn.of (rel2.pins q (List.mem_append_left _ m))
  by_cases hlt : i < p.1.length
  · refine .inr ⟨src.go i _ _ H2 hpin hlt, fun σ' H' => ((p.1.length - i - 1) = p.1.length - (i + 1) ∧ i + 1 ≤ p.1.length ∧ ∃ env h, Rel z (R.pinned pins) env σ' H' ∧ (forL (fun x e => t.set x e) (fun e h => exs c b e h) (p.1.drop (i + 1)) env h).wp (endP z D R)),
      fun σ' H' q => ⟨p.1.length - i - 1, by omega, q⟩, fun v H' hy => ?_⟩
    obtain ⟨sm, x, ex', rx⟩ := src.yld i _ _ H2 v H' rel2.ok hpin hlt hy
    have rel3 := rel2.of_keeps (.same sm)
    have ed : p.1.drop i = x :: p.1.drop (i + 1) := by
      rw [List.drop_eq_getElem_cons hlt]
      rw [List.getElem?_eq_getElem hlt] at ex'
      rw [Option.some.inj ex']
    rw [ed] at w2
    simp only [forL] at w2
    obtain ⟨env3, e3, w3⟩ := wp_opt w2
    rw [T.wp_bind] at w3
    refine ⟨_, env2, x, env3, rel3, rx, e3, fun σ3 r3 _ _ _ => ⟨_, env3, h2, r3, T.wp_mono w3 fun o wo => ?_⟩⟩
    obtain ⟨fl, e4, h4⟩ := o
    refine endP_unpin (bk := D.bk) (fun q σ' H' r => ?_) (fun q σ' H' r => ?_) (fun q σ' H' r => ?_) (fun rv q => ?_)
    · subst q
      exact ⟨by omega, by omega, e4, h4, r, wo⟩
    · subst q
      exact ⟨by omega, by omega, e4, h4, r, wo⟩
    · subst q
      exact wo σ' H' r.unpin
    · subst q
      exact wo
  · have e : i = p.1.length := by omega
    subst e
    rw [List.drop_length] at w2
    exact .inl ⟨src.stop _ _ H2 hpin, w2 σ2 H2 rel2.unpin⟩
theorem sWhile (g : GoodS X z cx c n) {t : E} {b : Ss} {t' : PySem.Expr} {body : List Stmt} {pos : Pos} (ht : okE cx t t' = true) (hb : PSs X body (tSs z c b)) : PS X (.While t' body [] pos) (tS z c (.while t b)) := by
  refine PS.imp (ps_while g.passes (sE t g.g t' ht).2.1 hb) fun D σ H ⟨R, env, m, rel, w⟩ => ?_
  simp only [ex] at w
  refine ⟨fun m σ H => ∃ env h, Rel z R env σ H ∧ (whileL (fun e h => ev c t e h) (fun e h => exs c b e h) m env h).wp (endP z D R), ⟨c.W, env, m, rel, w⟩, fun k σ2 H2 ⟨env2, h2, rel2, w2⟩ => ?_⟩
  cases k with
  | zero => exact w2.elim
  | succ k =>
    simp only [whileL] at w2
    rw [T.wp_bind] at w2
    refine ⟨R, env2, h2, rel2, T.wp_mono w2 fun p wp => ?_⟩
    rcases wp_tru wp with ⟨e, wp⟩ | ⟨e, wp⟩
    · refine ⟨true, e, fun H3 k3 => ?_⟩
      dsimp only []
      rw [if_pos rfl]
      refine ⟨fun σ' H' => ∃ env h, Rel z R env σ' H' ∧ (whileL (fun e h => ev c t e h) (fun e h => exs c b e h) k env h).wp (endP z D R), fun σ' H' q => ⟨k, Nat.lt_succ_self k, q⟩, R, env2, p.2, rel2.of_keeps k3, ?_⟩
      rw [T.wp_bind] at wp
      refine T.wp_mono wp fun o wo => ?_
      obtain ⟨fl, e4, h4⟩ := o
      cases fl with
      | next => exact fun σ' H' r => ⟨e4, h4, r, wo⟩
      | cont => exact fun σ' H' r => ⟨e4, h4, r, wo⟩
      | brk => exact fun σ' H' r => wo σ' H' r
      | ret rv => exact wo
    · refine ⟨false, e, fun H3 k3 => ?_⟩
      dsimp only []
      rw [if_neg (by decide)]
      exact wp σ2 H3 (rel2.of_keeps k3)
theorem sIte (g : GoodS X z cx c n) {t : E} {a b : Ss} {t' : PySem.Expr} {a' b' : List Stmt} {pos : Pos} (ht : okE cx t t' = true) (ha : PSs X a' (tSs z c a)) (hb : PSs X b' (tSs z c b)) : PS X (.If t' a' b' pos) (tS z c (.ite t a b)) := by
  refine PS.imp (ps_if (sE t g.g t' ht).2.1 ha hb) fun D σ H ⟨R, env, m, rel, w⟩ => ?_
  simp only [ex] at w
  rw [T.wp_bind] at w
  refine ⟨R, env, m, rel, T.wp_mono w fun p wp => ?_⟩
  rcases wp_tru wp with ⟨e, wp⟩ | ⟨e, wp⟩
  · refine ⟨true, e, fun H3 k3 => ?_⟩
    dsimp only []
    rw [if_pos rfl]
    exact ⟨R, env, p.2, rel.of_keeps k3, wp⟩
  · refine ⟨false, e, fun H3 k3 => ?_⟩
    dsimp only []
    rw [if_neg (by decide)]
    exact ⟨R, env, p.2, rel.of_keeps k3, wp⟩
/-- one behind the other -/
theorem sCons {s : S} {r : Ss} {st : Stmt} {rest : List Stmt} (h : PS X st (tS z c s)) (hr : PSs X rest (tSs z c r)) : PSs X (st :: rest) (tSs z c (.cons s r)) := by
  refine PSs.imp (pss_cons h hr) fun D σ H ⟨R, env, m, rel, w⟩ => ?_
  simp only [exs] at w
  rw [T.wp_bind] at w
  refine ⟨R, env, m, rel, T.wp_mono w fun o wo => ?_⟩
  obtain ⟨fl, e4, h4⟩ := o
  cases fl with
  | next => exact fun σ' H' r => ⟨R, e4, h4, r, wo⟩
  | cont => exact wo
  | brk => exact wo
  | ret rv => exact wo
/-! ### known answers -/
def endB (z : Zx) (c : Ctx) (i : Nat) (key v : E) (D : Ends) (R : Fr) (o : Out) : Prop := match o.1 with
  | .next => ∀ σ' H', Rel z R o.2.1 σ' H' → tPutM z (tVar i) (tE z c key) (tE z c v) D σ' H'
  | .brk => ∀ σ' H', Rel z R o.2.1 σ' H' → D.bk σ' H'
  | .cont => ∀ σ' H', Rel z R o.2.1 σ' H' → D.ct σ' H'
  | .ret r => ∀ v H', Keeps z R.H0 H' → RepR z R.Mx (fun _ => False) R.H0 H' r v → D.rt v H'
def tB (z : Zx) (c : Ctx) (i : Nat) (key v : E) (body : Ss) : TS := fun D σ H => ∃ R env h, Rel z R env σ H ∧ (exs c body env h).wp (endB z c i key v D R)
theorem sBCons {s : S} {r : Ss} {i : Nat} {key v : E} {st : Stmt} {rest : List Stmt} (h : PS X st (tS z c s)) (hr : PSs X rest (tB z c i key v r)) : PSs X (st :: rest) (tB z c i key v (.cons s r)) := by
  refine PSs.imp (pss_cons h hr) fun D σ H ⟨R, env, m, rel, w⟩ => ?_
  simp only [exs] at w
  rw [T.wp_bind] at w
  refine ⟨R, env, m, rel, T.wp_mono w fun o wo => ?_⟩
  obtain ⟨fl, e4, h4⟩ := o
  cases fl with
  | next => exact fun σ' H' r => ⟨R, e4, h4, r, wo⟩
  | cont => exact wo
  | brk => exact wo
  | ret rv => exact wo
theorem sBNil (g : GoodS X z cx c n) {i : Nat} {key v : E} {x : Str} {p1 p2 pos : Pos} {kx vx : PySem.Expr} (h1 : okE cx v vx = true) (h2 : okIdx cx i x = true) (h3 : okE cx key kx = true) : PSs X [.Assign [.Subscript (.Name x p1) kx p2] vx pos] (tB z c i key v .nil) := by
  refine PSs.imp (pss_one (ps_putM g.g.K g.g.mm.w g.g.hu g.g.mm.lim (idx_of g.g h2) (sE key g.g _ h3).1 (sE v g.g _ h1).1 ?_)) fun D σ H ⟨R, env, m, rel, w⟩ => (show endB z c i key v D R (.next, env, m) from w) σ H rel
  rw [swB_eq g h1]
  cases vx <;> rfl
theorem memoK_of {K : Known} {p q : Rv} {kv : Val} (h : memoK K p q = some kv) : p = .v kv ∧ keyOk K kv = true ∧ ∃ n, q = .v (.ref n) := by
  unfold memoK at h
  split at h
  · split at h
    · cases h; exact ⟨rfl, by assumption, _, rfl⟩
    · cases h
  · cases h
theorem tup_ref {M : AS} {H : Hp} {kv : Val} {v : V} (ht : kv.isTup = true) (r : Rep z M H kv v) : ∃ b, v = .ref b := by
  cases kv <;> simp [Val.isTup] at ht
  simp only [Rep] at r
  obtain ⟨_, a, _, e, _⟩ := r
  exact ⟨a, e⟩
theorem Rel.memo {R : Fr} {env : Env} {σ : St} {H : Hp} {a : Addr} {xs ys : Ents} (rel : Rel z R env σ H) (m : MemoX z H a xs) (my : MemoX z (L2.upd H a (dictO z.w a ys)) a ys) (h : ∀ zs, MemoX z H a zs → ∀ x ∈ zs, ∃ y ∈ ys, y.1 = x.1) : Keeps z H (L2.upd H a (dictO z.w a ys)) := by
  have at3 := m.at_
  have nt : ∀ c ws, SqT z.K H c ws → SqT z.K (L2.upd H a (dictO z.w a ys)) c ws := fun c ws t => by
    rcases t with (t | ⟨o, t⟩) | t
    · exact .inl (.inl (by rw [upd_ne (fun q => by subst q; rw [at3] at t; cases t)]; exact t))
    · exact .inl (.inr ⟨o, by rw [upd_ne (fun q => by subst q; rw [at3] at t; cases t)]; exact t⟩)
    · exact .inr t
  refine ⟨fun b o e nx _ => ?_, fun b e => ?_, fun ok b c e => ?_, fun ok b zs mz => ?_⟩
  · rw [upd_ne (fun q => by subst q; rw [at3] at e; exact nx _ (Option.some.inj e).symm)]
    exact e
  · by_cases q : b = a
    · rw [q, upd_same] at e; cases e
    · rwa [upd_ne q] at e
  · obtain ⟨ne, cs, x, y, h1, h2, r⟩ := ok b c e
    refine ⟨ne, cs, x, y, ?_, ?_, r⟩
    · rw [upd_ne (fun q => by rw [q, at3] at h1; cases h1)]; exact h1
    · rw [upd_ne (fun q => by rw [q, at3] at h2; cases h2)]; exact h2
  · by_cases q : b = a
    · subst q
      exact ⟨ys, my, h zs mz⟩
    · exact ⟨zs, mz.mono (fun φ e => by rw [upd_ne q]; exact e) nt, fun x hx => ⟨x, hx, rfl⟩⟩
theorem sMemo (g : GoodS X z cx c n) {i : Nat} {key v : E} {body : Ss} {kx kx2 : PySem.Expr} {bl : List Stmt} {x x2 : Str} {p1 p2 p3 p4 p5 p6 : Pos} (h1 : okE cx key kx = true) (h2 : okIdx cx i x = true) (h3 : okIdx cx i x2 = true) (h4 : isSlice kx2 = false) (h5 : okE cx key kx2 = true) (hb : PSs X bl (tB z c i key v body)) :
    PSs X [.If (.Compare kx [.NotIn] [.Name x p1] p2) bl [] p3, .Return (some (.Subscript (.Name x2 p4) kx2 p5)) p6] (tSs z c (.cons (.memo i key body v) .nil)) := by
  refine PSs.imp (pss_cons (ps_if (pt_cmpR (op_notinM g.g.K g.g.mm.w g.g.hu) (sE key g.g _ h1).1 (idx_of g.g h2) rfl) hb pss_nil) (pss_one (ps_ret (pe_getM g.g.K g.g.mm.w g.g.hu (idx_of g.g h3) (sE key g.g _ h5).1 (okE_ix (cx := cx) (a := key) h4))))) fun D σ H ⟨R, env, m, rel, w⟩ => ?_
  simp only [exs, ex] at w
  rw [T.wp_bind, T.wp_bind] at w
  have hM := g.g.mm.m
  refine ⟨R, env, m, rel, T.wp_mono w fun p wp v1 H1 k1 r1 => ?_⟩
  obtain ⟨q, eq, wp⟩ := wp_opt wp
  obtain ⟨u, eu, ru⟩ := rel.load eq
  refine ⟨u, eu, ?_⟩
  obtain ⟨kv, ek, wp⟩ := wp_opt wp
  obtain ⟨e1, hk, n', e2⟩ := memoK_of ek
  rw [e1] at r1
  rw [e2] at ru
  rw [hM] at hk
  have r1 : Rep z (Clo R env σ) H1 kv v1 := r1
  simp only [RepR, Rep] at ru
  obtain ⟨a, rfl, ma⟩ := ru
  obtain ⟨xs, mx⟩ := k1.memo rel.box a ma
  obtain ⟨b, rfl⟩ := tup_ref (keyOk_of hk).1 r1
  refine ⟨kv, a, b, xs, _, rfl, hk, r1, rfl, mx, ?_⟩
  have rel1 := rel.of_keeps k1
  cases hi : (atKey xs (toKey kv)).isSome with
  | true =>
    refine ⟨false, rfl, ?_⟩
    dsimp only []
    rw [if_neg (by decide)]
    have w3 : ((ev c key env p.2).bind fun p' => T.opt (memoK c.M p'.1 q) fun kv' => T.iff (kv'.beq kv) (.ret (.ret (.v (c.M.D kv)), env, p'.2))).wp fun o => (Fl.go o (fun e h => T.ret (.next, e, h)) (fun e h => .ret (.cont, e, h)) (fun e h => .ret (.brk, e, h))).wp (endP z D R) := wp.2 0 (by decide) (by decide)
    rw [T.wp_bind] at w3
    refine ⟨.ref a, eu, R, env, p.2, rel1, T.wp_mono w3 fun p' wp' v3 H3 k3 r3 => ?_⟩
    obtain ⟨kv', ek', wp'⟩ := wp_opt wp'
    obtain ⟨hb, wp6⟩ := wp_iff wp'
    have hx1 := Val.eq_of_beq hb
    obtain ⟨e1', _, _⟩ := memoK_of ek'
    rw [e1', hx1] at r3
    have r3 : Rep z (Clo R env σ) H3 kv v3 := r3
    obtain ⟨b', rfl⟩ := tup_ref (keyOk_of hk).1 r3
    obtain ⟨ys, my, hy⟩ := k3.memx rel1.box a xs mx
    refine ⟨kv, a, b', ys, _, rfl, rfl, hk, r3, my, ?_, fun iv hiv => ?_⟩
    · obtain ⟨x, hx, ex⟩ := atKey_isSome.mp hi
      obtain ⟨y, hy1, hy2⟩ := hy x hx
      exact ⟨y, hy1, hy2.trans ex⟩
    · have wr : ∀ v H', Keeps z R.H0 H' → RepR z R.Mx (fun _ => False) R.H0 H' (.v (c.M.D kv)) v → D.rt v H' := wp6
      refine wr iv H3 (rel1.keep.trans k3) ?_
      rw [hM]
      exact imm_rep hiv
  | false =>
    refine ⟨true, rfl, ?_⟩
    dsimp only []
    rw [if_pos rfl]
    have w3 := wp.2 1 (by decide) (by decide)
    simp only [show decide ((1 : Int) = 0) = false from rfl] at w3
    rw [T.wp_bind] at w3
    refine ⟨R, env, p.2, rel1, T.wp_mono w3 fun o wo => ?_⟩
    obtain ⟨fl, e4, h4⟩ := o
    cases fl with
    | cont => exact wo
    | brk => exact wo
    | ret rv => exact wo
    | next =>
      intro σ' H' rel'
      have wo : ((ev c v e4 h4).bind fun r => T.opt (loadS e4[i]?) fun q => (ev c key e4 r.2).bind fun p => T.opt (memoK c.M p.1 q) fun k2 => T.opt r.1.store fun x => T.iff (x.beq (c.M.D k2))
            ((ev c key e4 p.2).bind fun p' => T.opt (memoK c.M p'.1 q) fun k3 => T.iff (k3.beq k2) (.ret (.ret (.v (c.M.D k2)), e4, p'.2)))).wp fun o => (Fl.go o (fun e h => T.ret (.next, e, h)) (fun e h => .ret (.cont, e, h)) (fun e h => .ret (.brk, e, h))).wp (endP z D R) := wo
      rw [T.wp_bind] at wo
      refine ⟨R, e4, h4, rel', T.wp_mono wo fun r wr vv Hv kv1 rv1 => ?_⟩
      obtain ⟨q2, eq2, wr⟩ := wp_opt wr
      obtain ⟨u2, eu2, ru2⟩ := rel'.load eq2
      refine ⟨u2, eu2, ?_⟩
      rw [T.wp_bind] at wr
      refine ⟨R, e4, r.2, rel'.of_keeps kv1, T.wp_mono wr fun p2 wp2 vk Hk kk rk => ?_⟩
      obtain ⟨k2, ek2, wp2⟩ := wp_opt wp2
      obtain ⟨x, ex, wp2⟩ := wp_opt wp2
      obtain ⟨hbx, wp5⟩ := wp_iff wp2
      have hx2 := Val.eq_of_beq hbx
      obtain ⟨f1, hk2, n2, f2⟩ := memoK_of ek2
      rw [f2] at ru2
      simp only [RepR, Rep] at ru2
      obtain ⟨a2, rfl, ma2⟩ := ru2
      obtain ⟨xs2, mx2⟩ := (kv1.trans kk).memo rel'.box a2 ma2
      rw [f1] at rk
      have rk : Rep z (Clo R e4 σ') Hk k2 vk := rk
      rw [hM] at hk2
      obtain ⟨b2, rfl⟩ := tup_ref (keyOk_of hk2).1 rk
      obtain ⟨iv2, hiv2⟩ := imm_V (keyOk_of hk2).2.2.2
      have sv := rv1.store rel'.trkC ex
      rw [hx2, hM] at sv
      have ev := imm_of hiv2 sv
      subst ev
      refine ⟨k2, a2, b2, xs2, _, rfl, rfl, hk2, rk, mx2, hiv2, fun ys my hthere hsub => ?_⟩
      have rel3 := (rel'.of_keeps kv1).of_keeps kk
      have K4 := Rel.memo rel3 mx2 my hsub
      have rel4 := rel3.of_keeps K4
      rw [T.wp_bind] at wp5
      refine ⟨.ref a2, eu2, R, e4, p2.2, rel4, T.wp_mono wp5 fun p3 wp3 v5 H5 k5 r5 => ?_⟩
      obtain ⟨k3, ek3, wp3⟩ := wp_opt wp3
      obtain ⟨hb3, wp7⟩ := wp_iff wp3
      have hx3 := Val.eq_of_beq hb3
      obtain ⟨g1, _, _⟩ := memoK_of ek3
      rw [g1, hx3] at r5
      have r5 : Rep z (Clo R e4 σ') H5 k2 v5 := r5
      obtain ⟨b5, rfl⟩ := tup_ref (keyOk_of hk2).1 r5
      obtain ⟨ys5, my5, hy5⟩ := k5.memx rel4.box a2 ys my
      refine ⟨k2, a2, b5, ys5, _, rfl, rfl, hk2, r5, my5, ?_, fun iv hiv => ?_⟩
      · obtain ⟨y, hy1, hy2⟩ := hthere
        obtain ⟨y', hy3, hy4⟩ := hy5 y hy1
        exact ⟨y', hy3, hy4.trans hy2⟩
      · have wr : ∀ v H', Keeps z R.H0 H' → RepR z R.Mx (fun _ => False) R.H0 H' (.v (c.M.D k2)) v → D.rt v H' := wp7
        refine wr iv H5 (rel4.keep.trans k5) ?_
        rw [hM]
        exact imm_rep hiv
/-! ### own dicts -/
theorem sDnew (g : GoodS X z cx c n) {i : Nat} {x : Str} {px p2 pos : Pos} (h : okLoc cx i x = true) : PS X (.Assign [.Name x px] (.Dict [] [] p2) pos) (tS z c (.dnew i)) := by
  obtain ⟨h1, h2, h3⟩ := tgt_of g h
  refine PS.imp (ps_set g.g.tg.nd h1 h2 pe_dnewK rfl h3) fun D σ H ⟨R, env, m, rel, w⟩ => ?_
  simp only [ex] at w
  obtain ⟨hi, w⟩ := wp_iff w
  intro p hp
  have w : endP z D R (.next, List.set env i (.own (.d [])), m) := w
  exact w _ _ (rel.setOwnR (Keeps.new hp) hp ⟨[], upd_same, rfl, Nat.zero_le _⟩)
theorem sDput (g : GoodS X z cx c n) {i : Nat} {k e : E} {x : Str} {k' v : PySem.Expr} {p1 p2 pos : Pos} (h : okIdx cx i x = true) (hk : okE cx k k' = true) (hv : okE cx e v = true) (hs : isSlice k' = false) : PS X (.Assign [.Subscript (.Name x p1) k' p2] v pos) (tS z c (.dput i k e)) := by
  refine PS.imp (ps_dput (by have := g.g.hu; omega) (idx_of g.g h) (sE k g.g k' hk).1 (sE e g.g v hv).1 ?_) fun D σ H ⟨R, env, m, rel, w⟩ => ?_
  · rw [swB_eq g hv]
    cases v <;> rfl
  · simp only [ex] at w
    rw [T.wp_bind] at w
    refine ⟨R, env, m, rel, T.wp_mono w fun p wp v H1 k1 r1 => ?_⟩
    rw [T.wp_bind] at wp
    have w2 : ∃ kvs, dicS env i = some kvs := by
      obtain ⟨q, wq⟩ := T.wp_ex wp
      obtain ⟨kvs, e, _⟩ := wp_opt wq
      exact ⟨kvs, e⟩
    obtain ⟨kvs, eo⟩ := w2
    have rel1 := rel.of_keeps k1
    obtain ⟨a, ks, e1, e2, e3, e4, e5⟩ := rel1.dic eo
    refine ⟨.ref a, e2, R, env, p.2, rel1, T.wp_mono wp fun q wq u H2 k2 r2 => ?_⟩
    rw [eo] at wq
    obtain ⟨j, ej, wq⟩ := wp_opt (show (T.opt (optI q.1) _).wp _ from wq)
    obtain ⟨y, ey, wq⟩ := wp_opt wq
    obtain ⟨hl, wq⟩ := wp_iff wq
    have hl := of_decide_eq_true hl
    have rel2 := rel1.of_keeps k2
    obtain ⟨a', ks', f1, f2, f3, f4, f5⟩ := rel2.dic eo
    rw [e2] at f2
    cases f2
    rw [optI_of ej] at r2
    have hu : u = V.int j := r2.int
    subst hu
    have ry : Rep z (Clo R env σ) H2 y v := Rep.mono rel1.box k2 rel1.bxC (fun a m => .inl m) y (r1.store rel.trkC ey)
    have wq : endP z D R (.next, List.set env i (.own (.d (dPut kvs j y))), q.2) := wq
    have oa : OwnA env σ a := ⟨i, .d kvs, f1, e2⟩
    have l1 := f4.len
    have l2 := dPut_len kvs j y
    refine ⟨a, _, rfl, DPut.k (k := .inl j) f3 (by rw [l1, sizeLine_eq]; omega), wq _ _ (rel2.updOwnR f1 e2 ⟨_, upd_same, (f4.put ry).imp (fun x _ r => Rep.updW (.inr oa) (.inr ⟨_, rfl⟩) f3 x r), by show _ ≤ 16777216; omega⟩)⟩
def DI (z : Zx) (R : Fr) (pins : List (Val × V)) (env : Env) (σ : St) (Hs : Hp) (D : Addr) (acc : List (Int × Val)) (H : Hp) : Prop := (Rel z R env σ H ∧ ∀ p ∈ pins, Pn z R.Mx (Clo R env σ) H p) ∧ Keeps z Hs H ∧ ∃ ks, H D = some (.dK ks) ∧ DR z (Clo R env σ) H acc ks
theorem loopD {J : L2.It} {xs : List Val} {pins : List (Val × V)} {R : Fr} {env : Env} {σ : St} {Hs H0 : Hp} {D : Addr} {tg : Tg} {vs : List Nat} {kx vx : E} {h0 : Mem} {Fin : Hp → Prop}
    (src : Src z J xs pins) (hl : xs.length ≤ sizeMax) (hD : R.Mx D) (hR : R.H0 D = none) (hs : Hs D = none) (nb : ¬ z.Box D) (no : noOwn env vs = true) (sl : ∀ j ∈ tg.slots, j ∈ vs)
    (w : (dcompL (fun x => tg.set x (wipeE env vs)) (fun e h => (ev c kx e h).bind fun p => .ret (optI p.1, p.2)) (fun e h => ev c vx e h) xs [] h0).wp fun r => ∀ H, DI z R pins env σ Hs D r.1 H → r.1.length ≤ sizeMax → Fin H) (gi : DI z R pins env σ Hs D [] H0) :
    ∃ W : Nat → Nat → Hp → Prop, (∃ m, W 0 m H0) ∧ ∀ i m H, W i m H → (J.stop i H ∧ Fin H) ∨ (J.go i H ∧ ∃ Nx : Hp → Prop, (∀ H', Nx H' → ∃ m', m' < m ∧ W (i + 1) m' H') ∧ ∀ x H', J.yld i H x H' → tG z tg x (L2.wipe σ vs) H' fun σ2 H2 => L2.wipe σ2 vs = L2.wipe σ vs ∧ tYes σ2 H2 fun b H3 =>
      if b = true then tE z c kx σ2 H3 fun y H4 => tE z c vx σ2 H4 fun u H5 => ∃ kvs k, y = kV k ∧ H5 D = some (.dK kvs) ∧ kvs.length < sizeLine ∧ Nx (upd H5 D (.dK (putK kvs k u))) else Nx H3) := by
  refine ⟨fun i m H => m = xs.length - i ∧ i ≤ xs.length ∧ ∃ acc h, DI z R pins env σ Hs D acc H ∧ acc.length ≤ i ∧ (dcompL (fun x => tg.set x (wipeE env vs)) (fun e h => (ev c kx e h).bind fun p => .ret (optI p.1, p.2)) (fun e h => ev c vx e h) (xs.drop i) acc h).wp fun r => ∀ H, DI z R pins env σ Hs D r.1 H → r.1.length ≤ sizeMax → Fin H,
    ⟨xs.length, by omega, Nat.zero_le _, [], h0, gi, Nat.le_refl _, by simpa using w⟩, fun i m H ⟨hm, hi, acc, h, gi, la, w⟩ => ?_⟩
  have hpin : ∀ p ∈ pins, Pn z R.Mx (Clo R env σ) H p := gi.1.2
  by_cases hlt : i < xs.length
  · refine .inr ⟨src.go i _ _ H hpin hlt, fun H' => ((xs.length - i - 1) = xs.length - (i + 1) ∧ i + 1 ≤ xs.length ∧ ∃ acc h, DI z R pins env σ Hs D acc H' ∧ acc.length ≤ i + 1 ∧ (dcompL (fun x => tg.set x (wipeE env vs)) (fun e h => (ev c kx e h).bind fun p => .ret (optI p.1, p.2)) (fun e h => ev c vx e h) (xs.drop (i + 1)) acc h).wp fun r => ∀ H, DI z R pins env σ Hs D r.1 H → r.1.length ≤ sizeMax → Fin H),
      fun H' q => ⟨xs.length - i - 1, by omega, q⟩, fun v H' hy => ?_⟩
    obtain ⟨⟨rel, _⟩, ks, av, eD, ra⟩ := gi
    obtain ⟨sm, x, ex, rx⟩ := src.yld i _ _ H v H' rel.ok hpin hlt hy
    have k1 : Keeps z H H' := .same sm
    have rel1 := rel.of_keeps k1
    have ed : xs.drop i = x :: xs.drop (i + 1) := by
      rw [List.drop_eq_getElem_cons hlt]
      rw [List.getElem?_eq_getElem hlt] at ex
      rw [Option.some.inj ex]
    rw [ed] at w
    simp only [dcompL] at w
    obtain ⟨env2, e2, w⟩ := wp_opt w
    refine ⟨R, wipeE env vs, x, env2, rel1.wipe no, by rw [clo_wipe no]; exact rx, e2, fun σ2 r2 l2 o2 c2 => ⟨?_, ?_⟩⟩
    · have l : σ2.length = (L2.wipe σ vs).length := l2
      rw [wipe_congr (σ := L2.wipe σ vs) l fun j hj => o2 j fun q => hj (sl j q)]
      exact wipe_congr (wipe_length σ vs) fun j hj => wipe_ne σ vs j hj
    obtain ⟨hc, ho⟩ := clo_set no sl e2 o2 c2
    unfold tYes; dsimp only []
    rw [if_pos rfl]
    rw [T.wp_bind, T.wp_bind] at w
    refine ⟨R, env2, h, r2, T.wp_mono w fun p wp y H4 k4 ry => ?_⟩
    obtain ⟨j, ej, wp⟩ := wp_opt (show (T.opt (optI p.1) _).wp _ from wp)
    rw [optI_of ej] at ry
    have hy' : y = V.int j := ry.int
    subst hy'
    rw [T.wp_bind] at wp
    refine ⟨R, env2, p.2, r2.of_keeps k4, T.wp_mono wp fun q wq u H5 k5 ru => ?_⟩
    obtain ⟨yv, ey, wq⟩ := wp_opt wq
    rw [hc] at ru
    have rel4 := rel1.of_keeps k4
    have rel5 := rel4.of_keeps k5
    have ru := ru.store rel4.trkC ey
    have kk := (k1.trans k4).trans k5
    have eD5 : H5 D = some (.dK av) := kk.atx D _ eD (fun φ q => by cases q) nb
    have ra5 : DR z (Clo R env σ) H5 acc av := ra.imp fun x _ r => Rep.mono rel.box kk rel.bxC (fun a m => .inl m) x r
    have pn5 : ∀ q ∈ pins, Pn z R.Mx (Clo R env σ) H5 q := fun q m => Pn.mono rel.box kk rel.bxC rel.bxM (fun a m => .inl m) (fun a m => .inl m) (hpin q m)
    have wr : Wr (.dK av) := .inr ⟨_, rfl⟩
    have lp := dPut_len acc j yv
    refine ⟨av, .inl j, rfl, eD5, by rw [ra5.len, sizeMax_eq]; omega, by omega, by omega, dPut acc j yv, q.2, ⟨⟨rel5.updW hD wr eD5 hR nb, fun q m => Pn.updW hD (.inl hD) wr eD5 (pn5 q m)⟩, (ks.trans kk).updNewW hs nb wr eD5, _, upd_same, (ra5.put ru).imp fun x _ r => Rep.updW (.inl hD) wr eD5 x r⟩, by omega, wq⟩
  · have e : i = xs.length := by omega
    subst e
    rw [List.drop_length] at w
    simp only [dcompL, T.wp] at w
    exact .inl ⟨src.stop _ _ H hpin, w H gi (by omega)⟩
/-- name = {..} on one line, the name a local -/
theorem ps_setDc {i : Nat} {y : Str} {py : Pos} {k v tg iter : Expr} {ifs : List Expr} {scope : Scope} {own : List (Str × Nat)} {pos spos : Pos} {wi : TI} {g : TG} {tt : TT} {tk tv : TE} (hc : X.calm = true) (hN : X.N.Nodup) (hy : X.N[i]? = some y) (hyl : X.env.scope.names.lookup y = some .local)
    (hsw : swapsWith (.DictComp k v [⟨tg, iter, ifs, 0⟩] scope pos) (some (.Name y py)) spos.line X.env = pure true) (hi : PI X tg iter wi) (ok : BlkOk X.N X.env.scope scope own)
    (hg : ∀ (s : Shared) (H : Hp) (C : Addr) (cl : List (Str × Addr)) (fp : List Addr), PG (X.blk s H scope (compEnvC scope cl C X.env) fp) tg g) (ht : ∀ (s : Shared) (H : Hp) (C : Addr) (cl : List (Str × Addr)) (fp : List Addr), PTs (X.blk s H scope (compEnvC scope cl C X.env) fp) ifs tt)
    (hk : ∀ (s : Shared) (H : Hp) (C : Addr) (cl : List (Str × Addr)) (fp : List Addr), PE (X.blk s H scope (compEnvC scope cl C X.env) fp) k tk)
    (he : ∀ (s : Shared) (H : Hp) (C : Addr) (cl : List (Str × Addr)) (fp : List Addr), PE (X.blk s H scope (compEnvC scope cl C X.env) fp) v tv) (hs : ∀ x, foldedSetIterable iter X.env x = pure x) :
    PS X (.Assign [.Name y py] (.DictComp k v [⟨tg, iter, ifs, 0⟩] scope pos) spos) (tAsg (tDc wi g tt tk tv (own.map (·.2))) (gName i)) := by
  refine ⟨fun pins s σ H D I h => ?_⟩
  rw [exec_Assign_Name_used _ _ _ _ hsw]
  refine wpAny_bind (wpAny_standAt (wpAny_bind ?_))
  show wpAny _ X.A (do let _ ← comprehension (.DictComp k v [⟨tg, iter, ifs, 0⟩] scope pos) scope X.env (firstIterPos [⟨tg, iter, ifs, 0⟩] pos) newDict false (eval iter X.env) (some (assign (.Name y py) X.env))) _ _ s
  have h : tDc wi g tt tk tv (own.map (·.2)) σ H (fun x H1 => gName i x σ H1 D.nx) := h
  refine wpAny_bind (thn (dc_core (Qf := fun _ s' => SP X pins D .next s') hc hN I hi ok hg ht hk he hs h fun L C s' m H' I' q hn f => ?_) fun _ s' hq => wpAny_pure (wpAny_pure hq))
  show wpAny _ _ (assign (.Name y py) X.env (.ref L)) _ _ _
  refine wpAny_assign_Name (store_ok2 (v := V.ref L) I' hN hy (.inl hyl) rfl (fun s2 I2 ⟨a, sb, ha⟩ => ?_) (.inr hyl))
  obtain ⟨f0, f1, f2, f3, f4, f5⟩ := f
  have haC : C ≠ a := by
    rcases ha with z | z
    · rw [z]; exact f1
    · exact fun e => f4 y a z e.symm
  refine ⟨m, hn.sameBut sb haC, fun h3 sb3 => ?_⟩
  exact ⟨_, H', I2.turned (t' := s2.toks) (fun b o hb e => (sb3.2 b hb).trans e) f0 f1 f3 f4 f5, q⟩
theorem sDcomp (g : GoodS X z cx c n) {i : Nat} {x : Str} {k v t i' : Expr} {scope : Scope} {px vp pos : Pos} {kx vx : E} {tg : Tg} {it : It} {own : List Nat} (h1 : okLoc cx i x = true) (q1 : blkC cx.N cx.sc scope (ownOf cx.N own) = true) (q2 : okIt cx it t i' = true) (q3 : okTg (cx.blk scope) tg t = true) (q4 : tg.slots.all (fun j => own.contains j) = true)
    (q5 : okE (cx.blk scope) kx k = true) (q6 : okE (cx.blk scope) vx v = true):
    PS X (.Assign [.Name x px] (.DictComp k v [⟨t, i', [], 0⟩] scope vp) pos) (tS z c (.dcomp i kx vx tg it own)) := by
  obtain ⟨e1, e2, e3⟩ := tgt_of g h1
  have hsq : swapsWith (.DictComp k v [⟨t, i', [], 0⟩] scope vp) (some (.Name x px)) pos.line X.env = pure (swB X.env.scope (.DictComp k v [⟨t, i', [], 0⟩] scope vp) (.Name x px)) := rfl
  have ok : BlkOk X.N X.env.scope scope (ownOf cx.N own) := by rw [g.g.tg.N, g.g.tg.sc]; exact blkOk_by q1
  have base : PS X (.Assign [.Name x px] (.DictComp k v [⟨t, i', [], 0⟩] scope vp) pos) (tAsg (tDc (tIt z c true it) (tG z tg) tYes (tE z c kx) (tE z c vx) ((ownOf cx.N own).map (·.2))) (gName i)) := by
    cases q7 : swB X.env.scope (.DictComp k v [⟨t, i', [], 0⟩] scope vp) (.Name x px) with
    | true =>
      have hl : X.env.scope.names.lookup x = some .local := by
        simp only [swB, Bool.and_eq_true, beq_iff_eq] at q7
        exact q7.1.1.2
      exact ps_setDc (i := i) g.g.tg.calm g.g.tg.nd e1 hl (by rw [hsq, q7]) (sIt it true g.g t i' q2) ok (fun s H C cl fp => sTg (g.g.blk s H scope cl C fp).tg g.g.K tg _ q3) (fun _ _ _ _ _ => pts_nil) (fun s H C cl fp => (sE kx (g.g.blk s H scope cl C fp) _ q5).1) (fun s H C cl fp => (sE vx (g.g.blk s H scope cl C fp) _ q6).1) (fun x => noSet_fold (okIt_noSet q2) X.env x)
    | false =>
      exact ps_set g.g.tg.nd e1 e2 (pe_dc g.g.tg.calm g.g.tg.nd (sIt it true g.g t i' q2) ok (fun s H C cl fp => sTg (g.g.blk s H scope cl C fp).tg g.g.K tg _ q3) (fun _ _ _ _ _ => pts_nil) (fun s H C cl fp => (sE kx (g.g.blk s H scope cl C fp) _ q5).1) (fun s H C cl fp => (sE vx (g.g.blk s H scope cl C fp) _ q6).1) (fun x => noSet_fold (okIt_noSet q2) X.env x)) (by rw [hsq, q7]) e3
  rw [ownOf_map] at base
  refine PS.imp base fun D σ H ⟨R, env, m, rel, w⟩ => ?_
  simp only [ex] at w
  obtain ⟨no, w⟩ := wp_iff w
  rw [T.wp_bind] at w
  refine ⟨R, env, m, rel, T.wp_mono w fun p wp J pins H1 k1 src hl hp Da hD => ?_⟩
  rw [T.wp_bind] at wp
  obtain ⟨rel', hc, hR, hs, nb⟩ := rel.startO (.dK []) k1 hD hp
  refine loopD (R := R.add fun a => a = Da) (Hs := H) src hl (.inr rfl) hR hs nb no (fun j hj => by simpa using List.all_eq_true.mp q4 j hj) (T.wp_mono wp fun r hr => fun H3 ⟨rel3, ks3, av, eD, ra⟩ hlen => ?_) ⟨rel', k1.trans (Keeps.new hD), [], upd_same, rfl⟩
  obtain ⟨_, hr⟩ := wp_iff hr
  have hr : endP z D R (.next, List.set env i (.own (.d r.1)), r.2) := hr
  rw [hc] at ra
  exact hr _ _ (rel.setOwnR ks3 hs ⟨av, eD, ra, hlen⟩)
mutual
theorem sS : ∀ (s : S) {X : Cx} {cx : Chk} (g : GoodS X z cx c n) (st : Stmt), okS cx s st = true → PS X st (tS z c s)
  | .asg (.var i) e, X, cx, g, st, h => by
    unfold okS at h
    split at h
    · rw [Bool.and_eq_true, Bool.and_eq_true, Bool.and_eq_true] at h
      obtain ⟨⟨⟨h1, h2⟩, h3⟩, _⟩ := h
      obtain ⟨x, px, rfl⟩ := okTg_var h2
      exact sAsgVar g h1 h2
    · cases h
  | .asg (.tup ts) e, X, cx, g, st, h => by
    unfold okS at h
    split at h
    · rw [Bool.and_eq_true, Bool.and_eq_true, Bool.and_eq_true] at h
      obtain ⟨⟨⟨h1, h2⟩, h3⟩, _⟩ := h
      exact sAsgTup g h1 h2 h3
    · cases h
  | .par is es, X, cx, g, st, h => by
    unfold okS at h
    split at h
    · rw [Bool.and_eq_true, Bool.or_eq_true] at h
      rcases h with ⟨h1 | h1, h2⟩
      · exact sPar g h1 h2
      · exact sParT g h1 h2
    · cases h
  | .ret e, X, cx, g, st, h => by
    unfold okS at h
    split at h
    · exact sRet g h
    · cases h
  | .retOwn i, X, cx, g, st, h => by
    unfold okS at h
    split at h
    · exact sRetOwn g h
    · cases h
  | .retN, X, cx, g, st, h => by
    unfold okS at h
    split at h
    · refine PS.imp ps_retN fun D σ H ⟨R, env, m, rel, w⟩ => ?_
      have w : endP z D R (.ret (.v .non), env, m) := w
      exact w .non H rel.keep (by simp only [RepR, Rep])
    · cases h
  | .ite t a b, X, cx, g, st, h => by
    unfold okS at h
    split at h
    · rw [Bool.and_eq_true, Bool.and_eq_true] at h
      exact sIte g h.1.1 (sSs a g _ h.1.2) (sSs b g _ h.2)
    · cases h
  | .for t it b, X, cx, g, st, h => by
    unfold okS at h
    split at h
    · rw [Bool.and_eq_true, Bool.and_eq_true] at h
      exact sFor g h.1.1 h.1.2 (sSs b g _ h.2)
    · cases h
  | .while t b, X, cx, g, st, h => by
    unfold okS at h
    split at h
    · rw [Bool.and_eq_true] at h
      exact sWhile g h.1 (sSs b g _ h.2)
    · cases h
  | .append i e, X, cx, g, st, h => by
    unfold okS at h
    split at h
    · rw [Bool.and_eq_true] at h
      exact sAppend g h.1 h.2
    · cases h
  | .extend i e, X, cx, g, st, h => by
    unfold okS at h
    split at h
    · rw [Bool.and_eq_true] at h
      exact sExtend g h.1 h.2
    · cases h
  | .insert i k e, X, cx, g, st, h => by
    unfold okS at h
    split at h
    · rw [Bool.and_eq_true, Bool.and_eq_true] at h
      exact sInsert g h.1.1 h.1.2 h.2
    · cases h
  | .setIdx i k e, X, cx, g, st, h => by
    unfold okS at h
    split at h
    · rw [Bool.and_eq_true, Bool.and_eq_true] at h
      exact sSetIdx g h.1.1 h.1.2 h.2
    · cases h
  | .popAt i j e, X, cx, g, st, h => by
    unfold okS at h
    split at h
    · rw [Bool.and_eq_true, Bool.and_eq_true] at h
      exact sPopAt g h.1.1 h.1.2 h.2
    · cases h
  | .popPar i i2 j e e2, X, cx, g, st, h => by
    unfold okS at h
    split at h
    · rw [Bool.and_eq_true, Bool.and_eq_true, Bool.and_eq_true] at h
      exact sPopPar g h.1.1.1 h.1.1.2 h.1.2 h.2
    · cases h
  | .aug i o e, X, cx, g, st, h => by
    unfold okS at h
    split at h
    · rw [Bool.and_eq_true, Bool.and_eq_true, Bool.and_eq_true, Bool.and_eq_true] at h
      exact sAug g h.1.1.1.1 h.1.1.2 h.1.2 h.2
    · cases h
  | .augIdx i k o e, X, cx, g, st, h => by unfold okS at h; cases h
  | .freeze i, X, cx, g, st, h => by unfold okS at h; cases h
  | .forget is, X, cx, g, st, h => by unfold okS at h; cases h
  | .pass, X, cx, g, st, h => by
    unfold okS at h
    split at h
    · exact PS.imp ps_pass fun D σ H ⟨R, env, m, rel, w⟩ => (show endP z D R (.next, env, m) from w) σ H rel
    · exact PS.imp ps_doc fun D σ H ⟨R, env, m, rel, w⟩ => (show endP z D R (.next, env, m) from w) σ H rel
    · cases h
  | .brk, X, cx, g, st, h => by
    unfold okS at h
    split at h
    · exact PS.imp ps_break fun D σ H ⟨R, env, m, rel, w⟩ => (show endP z D R (.brk, env, m) from w) σ H rel
    · cases h
  | .cont, X, cx, g, st, h => by
    unfold okS at h
    split at h
    · exact PS.imp ps_continue fun D σ H ⟨R, env, m, rel, w⟩ => (show endP z D R (.cont, env, m) from w) σ H rel
    · cases h
  | .never, X, cx, g, st, h => ⟨fun pins s σ H D I ⟨R, env, m, rel, w⟩ => (show False from w).elim⟩
  | .memo i key body v, X, cx, g, st, h => by unfold okS at h; cases h
  | .dnew i, X, cx, g, st, h => by
    unfold okS at h
    split at h
    · exact sDnew g h
    · cases h
  | .dput i k v, X, cx, g, st, h => by
    unfold okS at h
    split at h
    · simp only [Bool.and_eq_true, Bool.not_eq_true'] at h
      exact sDput g h.1.1.1 h.1.1.2 h.1.2 h.2
    · cases h
  | .dcomp i kx vx tg it own, X, cx, g, st, h => by
    unfold okS at h
    split at h
    · simp only [Bool.and_eq_true] at h
      obtain ⟨⟨⟨⟨⟨⟨h1, h2⟩, h3⟩, h4⟩, h5⟩, h6⟩, h7⟩ := h
      exact sDcomp g h1 h2 h3 h4 (by simpa using h5) h6 h7
    · cases h
theorem sSs : ∀ (s : Ss) {X : Cx} {cx : Chk} (g : GoodS X z cx c n) (l : List Stmt), okSs cx s l = true → PSs X l (tSs z c s)
  | .nil, X, cx, g, l, h => by
    unfold okSs at h
    split at h
    · exact PSs.imp pss_nil fun D σ H ⟨R, env, m, rel, w⟩ => (show endP z D R (.next, env, m) from w) σ H rel
    · cases h
  | .cons s r, X, cx, g, l, h => by
    have hs := fun st q => sS s g st q
    have hr := fun l q => sSs r g l q
    unfold okSs at h
    split at h
    · refine PSs.imp (hr l h) fun D σ H ⟨R, env, m, rel, w⟩ => ?_
      simp only [exs, ex] at w
      rw [T.wp_bind] at w
      split at w
      · rename_i xs eo
        exact ⟨R, _, m, rel.freeze (ownS_of eo), w⟩
      · exact ⟨R, _, m, rel, w⟩
    · refine PSs.imp (hr l h) fun D σ H ⟨R, env, m, rel, w⟩ => ?_
      simp only [exs, ex] at w
      rw [T.wp_bind] at w
      exact ⟨R, _, m, rel.forget _, w⟩
    · rename_i i key body v
      have hb := fun l q => sBody body i key v g l q
      split at h
      · simp only [Bool.and_eq_true, Bool.not_eq_true'] at h
        obtain ⟨⟨⟨⟨⟨h1, h2⟩, h3⟩, h4⟩, h5⟩, h6⟩ := h
        exact sMemo g h1 h2 h3 h4 h5 (hb _ h6)
      · cases h
    · split at h
      · rw [Bool.and_eq_true] at h
        exact sCons (hs _ h.1) (hr _ h.2)
      · cases h
theorem sBody : ∀ (s : Ss) (i : Nat) (key v : E) {X : Cx} {cx : Chk} (g : GoodS X z cx c n) (l : List Stmt), okBody cx i key v s l = true → PSs X l (tB z c i key v s)
  | .nil, i, key, v, X, cx, g, l, h => by
    unfold okBody at h
    split at h
    · rw [Bool.and_eq_true, Bool.and_eq_true] at h
      exact sBNil g h.1.1 h.1.2 h.2
    · cases h
  | .cons s r, i, key, v, X, cx, g, l, h => by
    have hs := fun st q => sS s g st q
    have hr := fun l q => sBody r i key v g l q
    unfold okBody at h
    split at h
    · refine PSs.imp (hr l h) fun D σ H ⟨R, env, m, rel, w⟩ => ?_
      simp only [exs, ex] at w
      rw [T.wp_bind] at w
      split at w
      · rename_i xs eo
        exact ⟨R, _, m, rel.freeze (ownS_of eo), w⟩
      · exact ⟨R, _, m, rel, w⟩
    · refine PSs.imp (hr l h) fun D σ H ⟨R, env, m, rel, w⟩ => ?_
      simp only [exs, ex] at w
      rw [T.wp_bind] at w
      exact ⟨R, _, m, rel.forget _, w⟩
    · cases h
    · split at h
      · rw [Bool.and_eq_true] at h
        exact sBCons (hs _ h.1) (hr _ h.2)
      · cases h
end
end
end MP
end
section
set_option Elab.async false
set_option linter.all false
set_option autoImplicit false
set_option maxRecDepth 100000
set_option maxHeartbeats 8000000
/-! MPProg: all defs of a program. -/
namespace MP
open PySem PySem.Spec PyProof.Rows L2

theorem Room.down {k m : Nat} {A : Around} (h : Room (k + m) A) : Room k A := ⟨h.hd, by have := h.dp; omega, by have := h.un; omega⟩
theorem FnOk.up {P : Program} {w : World} {K : PySem.W.Frag} {mg : Str → Option Value} {base : Heap} {CX : CXT} {k m : Nat} {f : Addr} {fd : FuncData} {ps : List Str} {sp : Sp} (h : FnOk P w K mg base CX k f fd ps sp) : FnOk P w K mg base CX (k + m) f fd ps sp :=
  ⟨h.len, fun A outer s H args us vs Q E hr e b v q => h.run A outer s H args us vs Q E (MP.Room.down hr) e b v q⟩
/-- a def of the text and its form -/
structure DefAt (K : PySem.W.Frag) (mg : Str → Option Value) (cx : List Str → Scope → Chk) (x : Str) (fn : Fn) : Prop where
  ex : ∃ (f : Addr) (fd : FuncData) (st : Stmt) (qual : Str) (N ps : List Str), Fun K x qual st f fd ∧ FnScope N ps (defScope st) ∧ okSs (cx N (defScope st)) fn.body (defBody st) = true ∧ fn.np = ps.length ∧ fn.ns = N.length ∧ mg x = some (.ref f) ∧ Binds K fd ps []
/-- a whole program: the defs, the values of the top, the draws -/
structure Whole (P : Program) (w : World) (K : PySem.W.Frag) (mg : Str → Option Value) (base : Heap) (z : Zx) (G : Prog) (cx : List Str → Scope → Chk) (fn gl : Nat → Option Str) (dr : Str) (blt : List Str) : Prop where
  hK : z.K = K
  hcx : ∀ N sc, cx N sc = ⟨N, sc, fun _ => true, fn, gl, dr, blt⟩
  hw : z.w = w
  hM : G.M = z.M
  lim : ∀ ks : List Val, ks.Nodup → (∀ k ∈ ks, z.M.dom k = true) → ks.length ≤ 16000000
  blt : ∀ x, x ∈ blt → mg x = none
  gl : ∀ k x v, gl k = some x → G.G k = some v → ∃ u w, mg x = some u ∧ RelV w u ∧ ∀ M H, Rep z M H v w
  defs : ∀ k x, fn k = some x → ∃ f, G.F k = some f ∧ DefAt K mg cx x f
  dr : ∃ (f : Addr) (fd : FuncData) (ps : List Str), FnOk P w K mg base CX0 4 f fd ps (spDraw z) ∧ mg dr = some (.ref f) ∧ PySem.W.keepIn K (.ref f) = true ∧ Binds K fd ps []
section
variable {P : Program} {w : World} {K : PySem.W.Frag} {mg : Str → Option Value} {base : Heap} {z : Zx} {G : Prog} {cx : List Str → Scope → Chk} {fn gl : Nat → Option Str} {dr : Str} {blt : List Str}
def CallOk (P : Program) (w : World) (K : PySem.W.Frag) (mg : Str → Option Value) (base : Heap) (z : Zx) (n : Nat) (C : List Val → Mem → T (Rv × Mem)) (x : Str) : Prop :=
  ∃ (np : Nat) (f : Addr) (fd : FuncData) (ps : List Str), FnOk P w K mg base CX0 n f fd ps (spF z np C) ∧ mg x = some (.ref f) ∧ PySem.W.keepIn K (.ref f) = true ∧ Binds K fd ps [] ∧ ∀ args m, args.length ≠ np → C args m = .bad
/-- the slots at a def's entry -/
theorem Rel.enter {M : AS} {H : Hp} (ok : Ok z M H) {args : List Val} {vs : List V} (r : Reps z M H args vs) (k : Nat) : Rel z ⟨M, H, []⟩ (args.map Slot.val ++ List.replicate k Slot.emp) (vs.map some ++ List.replicate k none) H := by
  have no : ∀ (i : Nat) (xs : OL), (args.map Slot.val ++ List.replicate k Slot.emp)[i]? ≠ some (.own xs) := fun i xs e => by
    have := List.mem_of_getElem? e
    rw [List.mem_append] at this
    rcases this with h | h
    · rw [List.mem_map] at h
      obtain ⟨_, _, h⟩ := h
      cases h
    · cases (List.mem_replicate.mp h).2
  have noA : ∀ a, ¬ OwnA (args.map Slot.val ++ List.replicate k Slot.emp) (vs.map some ++ List.replicate k none) a := fun a ⟨i, xs, e, _⟩ => no i xs e
  have hl := r.length
  refine ⟨by simp [hl], fun i s o e1 e2 => ?_, fun i j a xs ys e1 _ _ _ => absurd e1 (no i xs), fun a o => absurd o (noA a), fun a o => absurd o (noA a), ok.trk, Keeps.refl, ok.box, ok.bxM, fun p h => by cases h⟩
  by_cases hi : i < args.length
  · rw [List.getElem?_append_left (by simpa using hi), List.getElem?_map] at e1
    rw [List.getElem?_append_left (by simp; omega), List.getElem?_map] at e2
    rw [List.getElem?_eq_getElem hi] at e1
    obtain ⟨v, e3, rv⟩ := r.get (List.getElem?_eq_getElem hi)
    rw [e3] at e2
    cases e1; cases e2
    refine Rep.less (fun a m => ?_) _ rv
    rcases m with m | m
    · exact m
    · exact absurd m (noA a)
  · rw [List.getElem?_append_right (by simpa using hi)] at e1
    have := List.mem_of_getElem? e1
    cases (List.mem_replicate.mp this).2
    trivial
theorem endF_of {o : Out} {Q : Rv × Mem → Prop} (h : (endF o).wp Q) : (o.1 = .next ∧ Q (.v .non, o.2.2)) ∨ ∃ r, o.1 = .ret r ∧ Q (r, o.2.2) := by
  obtain ⟨fl, e, m⟩ := o
  cases fl with
  | next => exact .inl ⟨rfl, h⟩
  | ret r => exact .inr ⟨r, rfl, h⟩
  | brk => exact h.elim
  | cont => exact h.elim
theorem Whole.good (W : Whole P w K mg base z G cx fn gl dr blt) {n : Nat} (ih : ∀ k x, fn k = some x → CallOk P w K mg base z (n + 4) (G.call n k) x) {N ps : List Str} {qual : Str} {st : Stmt} {f : Addr} {cdv : Value} {A : Around} {outer : List PySem.Env} {s : Shared} {H : Hp} {E : XK}
    (S : FnScope N ps (defScope st)) (hr : Room (n + 4) (A.deeper (envOfC qual (defScope st) s.heap.objs.size f cdv))) : GoodS (cxOf CX0 P w K mg base N qual (defScope st) f cdv A outer s H E).nox z (cx N (defScope st)) (G.ctx n) (n + 4) := by
  rw [W.hcx]
  refine ⟨⟨⟨rfl, rfl, S.nd, rfl, fun _ _ => .inl rfl⟩, W.hK, hr, W.blt, W.gl, fun k x e => ⟨ih k x e⟩, ?_, ⟨W.hw, W.hM, W.lim⟩⟩, fun _ _ h => h⟩
  obtain ⟨f, fd, ps, F, h1, h2, h3⟩ := W.dr
  exact ⟨f, fd, ps, by rw [Nat.add_comm]; exact FnOk.up F, h1, h2, h3⟩
theorem Whole.all (W : Whole P w K mg base z G cx fn gl dr blt) : ∀ n k x, fn k = some x → CallOk P w K mg base z (n + 4) (G.call n k) x
  | 0, k, x, e => by
    obtain ⟨f', hf, ⟨f, fd, st, qual, N, ps, F, S, hb, h1, h2, h3, h4⟩⟩ := W.defs k x e
    refine ⟨f'.np, f, fd, ps, ⟨fun vs H Q E h => ?_, fun A outer s H args us vs Q E _ _ _ _ h => ?_⟩, h3, F.kp, h4, fun _ _ _ => rfl⟩
    · obtain ⟨M, args, h, _, _, _, w⟩ := h
      exact w.elim
    · obtain ⟨M, args, h, _, _, _, w⟩ := h
      exact w.elim
  | n + 1, k, x, e => by
    have ih := Whole.all W n
    obtain ⟨f', hf, ⟨f, fd, st, qual, N, ps, F, S, hb, h1, h2, h3, h4⟩⟩ := W.defs k x e
    have hbad : ∀ args m, args.length ≠ f'.np → G.call (n + 1) k args m = .bad := fun args m q => by
      show T.opt (G.F k) _ = _
      rw [hf]
      show T.iff (args.length == f'.np) _ = _
      rw [beq_eq_false_iff_ne.mpr q]
      rfl
    refine ⟨f'.np, f, fd, ps, ?_, h3, F.kp, h4, hbad⟩
    rw [show n + 1 + 4 = (n + 4) + 1 by omega]
    refine F.ok S (fun vs H Q E h => ?_) (fun cdv A outer s H vs Q E hr h => ?_)
    · obtain ⟨M, args, h, _, r, hl, w⟩ := h
      rw [r.length, hl, h1]
    · obtain ⟨M, args, m, ok, r, hl, w⟩ := h
      refine ⟨tSs z (G.ctx n) f'.body, sSs f'.body (W.good ih S hr) (defBody st) hb, ⟨M, H, []⟩, args.map Slot.val ++ List.replicate (f'.ns - f'.np) Slot.emp, m, ?_, ?_⟩
      · have e2 : L2.start N vs = vs.map some ++ List.replicate (f'.ns - f'.np) none := by
          unfold L2.start
          rw [r.length, hl, h2]
        rw [e2]
        exact Rel.enter ok r _
      · have w : (T.opt (G.F k) fun f => runFn ⟨G.G, G.call n, G.W, G.M⟩ f args m).wp _ := w
        rw [hf] at w
        have w := (wp_iff (show (T.iff (args.length == f'.np) _).wp _ from w)).2
        rw [T.wp_bind] at w
        refine T.wp_mono w fun o wo => ?_
        rcases endF_of wo with ⟨e1, q⟩ | ⟨rv, e1, q⟩
        · obtain ⟨fl, e', m'⟩ := o
          cases e1
          exact fun σ' H' rel => q .non H' rel.keep (by simp only [RepR, Rep])
        · obtain ⟨fl, e', m'⟩ := o
          cases e1
          exact fun v H' k r => q v H' k r
end
end MP
end
section
set_option Elab.async false
set_option linter.all false
set_option autoImplicit false
set_option maxRecDepth 100000
set_option maxHeartbeats 8000000
/-! MPLaw: what the top has written; the law's own start. -/
namespace MP
open PySem PySem.Spec PyProof.Rows L2

/-- a def of the top -/
def DefK (K : PySem.W.Frag) (x : Str) (st : Stmt) : Prop := ∃ (f : Addr) (oc : Value) (od an : Option Addr) (osl : Array (Option Value)) (kV doc pm cdv ct : Value), PySem.W.nsIn K mainGlobals x = some (some (.ref f)) ∧
  K.lookup f = some ⟨oc, od, .func (PySem.W.fnOf x x (defArgs st) (defBody st) (defScope st) .none kV doc pm an cdv ct), osl⟩ ∧ PySem.W.codeIn K cdv x = true ∧ PySem.W.keepIn K (.ref f) = true
theorem DefK.mk {K : PySem.W.Frag} {x : Str} {st : Stmt} {f : Addr} {oc : Value} {od an : Option Addr} {osl : Array (Option Value)} {kV doc pm cdv ct : Value} (a : PySem.W.nsIn K mainGlobals x = some (some (.ref f)))
    (l : K.lookup f = some ⟨oc, od, .func (PySem.W.fnOf x x (defArgs st) (defBody st) (defScope st) .none kV doc pm an cdv ct), osl⟩) (c : PySem.W.codeIn K cdv x = true) (k : PySem.W.keepIn K (.ref f) = true) : DefK K x st := ⟨f, oc, od, an, osl, kV, doc, pm, cdv, ct, a, l, c, k⟩
theorem DefK.fn {K : PySem.W.Frag} {x : Str} {st : Stmt} {h : Heap} {mg : Str → Option Value} (X : K.In h) (G : h.Ns mainGlobals mg) (d : DefK K x st) : ∃ f fd, Fun K x x st f fd ∧ mg x = some (.ref f) := by
  obtain ⟨f, oc, od, an, osl, kV, doc, pm, cdv, ct, a, l, c, k⟩ := d
  exact ⟨f, _, fun_mk l c k, PySem.W.mg_of X G a⟩
theorem DefK.at_ {K : PySem.W.Frag} {x : Str} {st : Stmt} {h : Heap} {mg : Str → Option Value} {cx : List Str → Scope → Chk} {fn : Fn} {N ps : List Str} (X : K.In h) (G : h.Ns mainGlobals mg) (d : DefK K x st) (S : FnScope N ps (defScope st)) (hb : okSs (cx N (defScope st)) fn.body (defBody st) = true) (h1 : fn.np = ps.length) (h2 : fn.ns = N.length)
    (b : ∀ (kV doc pm : Value) (an : Option Addr) (cdv ct : Value) (us : List Value), us.length = ps.length → bindArgs (PySem.W.fnOf x x (defArgs st) (defBody st) (defScope st) .none kV doc pm an cdv ct) { pos := us } = pure (ps.zip us)) : DefAt K mg cx x fn := by
  obtain ⟨f, fd, F, m⟩ := d.fn X G
  exact ⟨f, fd, st, x, N, ps, F, S, hb, h1, h2, m, F.binds b⟩
/-! ### constants of the top -/
mutual
def ValK (K : PySem.W.Frag) : Val → Value → Prop
  | .non, u => u = .none
  | .bl b, u => u = .bool b
  | .int i, u => ∃ t, u = .int i t
  | .str s, u => s.length ≤ sizeMax ∧ ∃ t, u = .str ⟨s.toArray⟩ t
  | .tup xs, u => xs.length ≤ 100000 ∧ ∃ p od its n sl, u = .ref p ∧ K.lookup p = some ⟨.type "tuple", od, .seq its n, sl⟩ ∧ ValKs K xs its.toList
  | _, _ => False
def ValKs (K : PySem.W.Frag) : List Val → List Value → Prop
  | [], us => us = []
  | x :: xs, us => ∃ u r, us = u :: r ∧ ValK K x u ∧ ValKs K xs r
end
mutual
theorem ValK.rep {K : PySem.W.Frag} : ∀ (x : Val) {u : Value}, ValK K x u → ∃ w, RelV w u ∧ ∀ (z : Zx) (M : AS) (H : Hp), z.K = K → Rep z M H x w
  | .non, u, h => by
    simp only [ValK] at h; subst h
    exact ⟨.non, rfl, fun _ _ _ _ => rep_non⟩
  | .bl b, u, h => by
    simp only [ValK] at h; subst h
    exact ⟨.bl b, rfl, fun _ _ _ _ => rep_bl b⟩
  | .int i, u, h => by
    simp only [ValK] at h
    obtain ⟨t, rfl⟩ := h
    exact ⟨.int i, ⟨t, rfl⟩, fun _ _ _ _ => rep_int i⟩
  | .str s, u, h => by
    simp only [ValK] at h
    obtain ⟨l, t, rfl⟩ := h
    exact ⟨.str ⟨s.toArray⟩, ⟨t, rfl⟩, fun _ _ _ _ => rep_str l⟩
  | .tup xs, u, h => by
    simp only [ValK] at h
    obtain ⟨l, p, od, its, n, sl, rfl, hl, hx⟩ := h
    obtain ⟨ws, r1, r2⟩ := ValKs.rep xs hx
    have hs : xs.length ≤ sizeMax := Nat.le_trans l (by decide)
    refine ⟨.ref p, rfl, fun z M H hz => ?_⟩
    have rr := r2 z M H hz
    simp only [Rep]
    refine ⟨hs, p, ws, rfl, .inr ⟨_, its, n, by rw [hz]; exact hl, rfl, rfl, ?_, r1⟩, rr⟩
    have e1 := rr.length
    have e2 := Paired.length r1
    have e3 : its.size = its.toList.length := (Array.length_toList).symm
    have e2 : ws.length = its.toList.length := e2
    rw [e3, ← e2, e1, sizeMax_eq]; exact hs
  | .lst _, u, h => by simp only [ValK] at h
  | .ref _, u, h => by simp only [ValK] at h
  | .box, u, h => by simp only [ValK] at h
  | .fn _, u, h => by simp only [ValK] at h
theorem ValKs.rep {K : PySem.W.Frag} : ∀ (xs : List Val) {us : List Value}, ValKs K xs us → ∃ ws, Vals ws us ∧ ∀ (z : Zx) (M : AS) (H : Hp), z.K = K → Reps z M H xs ws
  | [], us, h => by
    simp only [ValKs] at h; subst h
    exact ⟨[], .nil, fun _ _ _ _ => Reps.nil⟩
  | x :: xs, us, h => by
    simp only [ValKs] at h
    obtain ⟨u, r, rfl, h1, h2⟩ := h
    obtain ⟨w, a1, a2⟩ := ValK.rep x h1
    obtain ⟨ws, b1, b2⟩ := ValKs.rep xs h2
    exact ⟨w :: ws, .cons a1 b1, fun z M H hz => Reps.cons (a2 z M H hz) (b2 z M H hz)⟩
end
def GlobK (K : PySem.W.Frag) (x : Str) (v : Val) : Prop := ∃ u, PySem.W.nsIn K mainGlobals x = some (some u) ∧ ValK K v u
theorem GlobK.mk {K : PySem.W.Frag} {x : Str} {v : Val} {u : Value} (a : PySem.W.nsIn K mainGlobals x = some (some u)) (h : ValK K v u) : GlobK K x v := ⟨u, a, h⟩
theorem ValK.mk {K : PySem.W.Frag} {xs : List Val} {p : Addr} {od : Option Addr} {its : Array Value} {n : Nat} {sl : Array (Option Value)} (hl : K.lookup p = some ⟨.type "tuple", od, .seq its n, sl⟩) (l : xs.length ≤ 100000) (h : ValKs K xs its.toList) : ValK K (.tup xs) (.ref p) := by
  simp only [ValK]
  exact ⟨l, p, od, its, n, sl, rfl, hl, h⟩
theorem GlobK.at_ {K : PySem.W.Frag} {x : Str} {v : Val} {h : Heap} {mg : Str → Option Value} {z : Zx} (hz : z.K = K) (X : K.In h) (G : h.Ns mainGlobals mg) (g : GlobK K x v) : ∃ u w, mg x = some u ∧ RelV w u ∧ ∀ M H, Rep z M H v w := by
  obtain ⟨u, a, b⟩ := g
  obtain ⟨w, r1, r2⟩ := ValK.rep v b
  exact ⟨u, w, PySem.W.mg_of X G a, r1, fun M H => r2 z M H hz⟩
/-! ### the law -/
def env0 (k : Nat) : Env := Slot.emp :: Slot.val .box :: List.replicate k Slot.emp
def spLaw (K : PySem.W.Frag) : Sp := fun vs H Q _ => ∃ (a : Addr) (ns : List Int), vs = [.ref a] ∧ SqL K H a (ns.map V.int) ∧ ns.length ≤ 63 ∧ ∀ H', Q (.bl true) H'
theorem Rel.law {K : PySem.W.Frag} {w : World} {KM : Known} {H : Hp} {b c : Addr} (h : BoxAt H b c) (s : Option V) (k : Nat) : Rel ⟨K, fun _ => none, some (b, c), w, KM⟩ ⟨fun a => a = b ∨ a = c, H, []⟩ (env0 k) (s :: some (.ref b) :: List.replicate k none) H := by
  have hx : ∀ a, (⟨K, fun _ => none, some (b, c), w, KM⟩ : Zx).Box a → a = b ∨ a = c := fun a ⟨b', c', e, q⟩ => by cases e; exact q
  have ok : BoxOk ⟨K, fun _ => none, some (b, c), w, KM⟩ H := fun b' c' e => by cases e; exact h
  have no : ∀ (i : Nat) (xs : OL), (env0 k)[i]? ≠ some (.own xs) := fun i xs e => by
    have := List.mem_of_getElem? e
    simp only [env0, List.mem_cons, List.mem_replicate] at this
    rcases this with q | q | q
    · cases q
    · cases q
    · cases q.2
  have noA : ∀ {σ : St} {a : Addr}, ¬ OwnA (env0 k) σ a := fun {σ a} ⟨i, xs, e, _⟩ => no i xs e
  refine ⟨by simp [env0], fun i t o e1 e2 => ?_, fun i j a xs ys e1 _ _ _ => absurd e1 (no i xs), fun a o => absurd o noA, fun a o => absurd o noA, fun a m => ?_, Keeps.refl, ok, hx, fun p m => by cases m⟩
  · cases i with
    | zero => simp [env0] at e1; subst e1; trivial
    | succ i =>
      cases i with
      | zero =>
        simp [env0] at e1 e2; subst e1 e2
        simp only [RelSlot, Rep]
        exact ⟨b, c, rfl, rfl⟩
      | succ i =>
        have := List.mem_of_getElem? (show (List.replicate k Slot.emp)[i]? = some t by simpa [env0] using e1)
        cases (List.mem_replicate.mp this).2
        trivial
  · obtain ⟨_, cs, x, y, h1, h2, _⟩ := h
    rcases m with m | m
    · rw [m, h1]; simp
    · rw [m, h2]; simp
theorem start_law {N : List Str} {v : V} {x : Option V} {k : Nat} (h : N.length = k + 2) : List.set (L2.start N [v]) 1 x = some v :: x :: List.replicate k none := by
  unfold L2.start
  rw [h]
  show List.set (some v :: List.replicate (k + 2 - 1) none) 1 x = _
  rw [show k + 2 - 1 = k + 1 by omega, List.replicate_succ]
  rfl
/-- what stands behind the law's first statement -/
def tRest (K : PySem.W.Frag) (w : World) (c : Ctx) (b : Ss) : TS := fun D σ H => ∃ z : Zx, z.K = K ∧ z.w = w ∧ z.M = c.M ∧ tSs z c b D σ H
structure Said (t : T Out) : Prop where
  wp : t.wp fun o => o.1 = .ret (.v (.bl true))
theorem tRest_of {K : PySem.W.Frag} {w : World} {c : Ctx} {b : Ss} {D : Ends} {σ : St} {s : Option V} {k : Nat} {H : Hp} {x y : Addr} (hs : σ = s :: some (.ref x) :: List.replicate k none) (h : BoxAt H x y) (m : Said (exs c b (env0 k) [])) (q : ∀ H', D.rt (.bl true) H') : tRest K w c b D σ H := by
  subst hs
  refine ⟨⟨K, fun _ => none, some (x, y), w, c.M⟩, rfl, rfl, rfl, _, _, [], Rel.law h s k, T.wp_mono m.wp fun o e => ?_⟩
  unfold endP
  rw [e]
  intro v H' _ r
  rw [r.bl]
  exact q H'
theorem kn0_lim (ks : List Val) (_ : ks.Nodup) (h : ∀ k ∈ ks, (fun _ : Val => false) k = true) : ks.length ≤ 16000000 := by
  cases ks with
  | nil => simp
  | cons k ks => exact absurd (h k (by simp)) (by simp)
end MP
end
section
set_option Elab.async false
set_option linter.all false
set_option autoImplicit false
set_option maxRecDepth 100000
set_option maxHeartbeats 4000000
/-! MPEv: how the small language's terms are worked out by hand. -/
namespace MP
/-- a comprehension whose test and element draw nothing -/
theorem compL_map {α : Type} {st : Val → Option Env} {test : Env → Mem → T (Bool × Mem)} {elt : Env → Mem → T (Rv × Mem)} {h : Mem} (v : α → Val) (f : α → Env) (p : α → Bool) (g : α → Val) : ∀ {ys : List α},
    (∀ y ∈ ys, st (v y) = some (f y)) → (∀ y ∈ ys, test (f y) h = .ret (p y, h)) → (∀ y ∈ ys, p y = true → ∃ r, elt (f y) h = .ret (r, h) ∧ r.store = some (g y)) → compL st test elt (ys.map v) h = .ret ((ys.filter p).map g, h)
  | [], _, _, _ => rfl
  | y :: ys, h1, h2, h3 => by
    have ih := compL_map v f p g (ys := ys) (fun y m => h1 y (List.mem_cons_of_mem _ m)) (fun y m => h2 y (List.mem_cons_of_mem _ m)) (fun y m => h3 y (List.mem_cons_of_mem _ m))
    have m := List.mem_cons_self (a := y) (l := ys)
    simp only [List.map_cons, compL, h1 y m, T.opt, h2 y m, T.bind, List.filter_cons]
    cases hp : p y with
    | false => simpa using ih
    | true =>
      obtain ⟨r, e1, e2⟩ := h3 y m hp
      simp only [e1, T.bind, e2, T.opt, ih]
      rfl
/-- .. without a test -/
theorem compL_all {α : Type} {st : Val → Option Env} {test : Env → Mem → T (Bool × Mem)} {elt : Env → Mem → T (Rv × Mem)} {h : Mem} (v : α → Val) (f : α → Env) (g : α → Val) {ys : List α}
    (h1 : ∀ y ∈ ys, st (v y) = some (f y)) (h2 : ∀ y ∈ ys, test (f y) h = .ret (true, h)) (h3 : ∀ y ∈ ys, ∃ r, elt (f y) h = .ret (r, h) ∧ r.store = some (g y)) : compL st test elt (ys.map v) h = .ret (ys.map g, h) := by
  have := compL_map v f (fun _ => true) g h1 h2 (fun y m _ => h3 y m)
  rwa [List.filter_eq_self.mpr (fun _ _ => rfl)] at this
/-- a comprehension that draws: every item as said -/
theorem compL_wp {st : Val → Option Env} {test : Env → Mem → T (Bool × Mem)} {elt : Env → Mem → T (Rv × Mem)} {h : Mem} (G : Val → Val → Prop) {Q : List Val × Mem → Prop} : ∀ {xs : List Val},
    (∀ x ∈ xs, ∃ e, st x = some e ∧ test e h = .ret (true, h) ∧ (elt e h).wp fun q => q.2 = h ∧ ∃ y, q.1.store = some y ∧ G x y) → (∀ ys : List Val, ys.length = xs.length → (∀ y ∈ ys, ∃ x ∈ xs, G x y) → Q (ys, h)) → (compL st test elt xs h).wp Q
  | [], _, hq => hq [] rfl (fun _ m => by cases m)
  | x :: xs, h1, hq => by
    obtain ⟨e, a1, a2, a3⟩ := h1 x List.mem_cons_self
    simp only [compL, a1, T.opt, a2, T.bind]
    rw [T.wp_bind]
    refine T.wp_mono a3 fun q ⟨b1, y, b2, b3⟩ => ?_
    simp only [b2]
    rw [T.wp_bind, b1]
    refine compL_wp G (xs := xs) (fun x m => h1 x (List.mem_cons_of_mem _ m)) fun ys hl hy => ?_
    refine hq (y :: ys) (by simp [hl]) fun z m => ?_
    rcases List.mem_cons.mp m with m | m
    · exact ⟨x, List.mem_cons_self, by rw [m]; exact b3⟩
    · obtain ⟨x', m', g⟩ := hy z m
      exact ⟨x', List.mem_cons_of_mem _ m', g⟩
theorem forL_inv {st : Val → Env → Option Env} {body : Env → Mem → T Out} {xs : List Val} {env : Env} {h : Mem} {Q : Out → Prop} (I : Nat → Env → Mem → Prop) (h0 : I 0 env h)
    (step : ∀ i x e m, xs[i]? = some x → I i e m → ∃ e1, st x e = some e1 ∧ (body e1 m).wp fun o => o.1 = .next ∧ I (i + 1) o.2.1 o.2.2) (hend : ∀ e m, I xs.length e m → Q (.next, e, m)) : (forL st body xs env h).wp Q := by
  have key : ∀ (ys : List Val) (i : Nat) (e : Env) (m : Mem), xs.drop i = ys → i ≤ xs.length → I i e m → (forL st body ys e m).wp Q := fun ys => by
    induction ys with
    | nil =>
      intro i e m hd hl hi
      have : i = xs.length := by
        have := congrArg List.length hd
        simp at this; omega
      subst this
      exact hend e m hi
    | cons y ys ih =>
      intro i e m hd hl hi
      have hlt : i < xs.length := Classical.byContradiction fun q => by
        rw [List.drop_eq_nil_of_le (by omega)] at hd
        cases hd
      rw [List.drop_eq_getElem_cons hlt] at hd
      cases hd
      obtain ⟨e1, a1, a2⟩ := step i _ e m (List.getElem?_eq_getElem hlt) hi
      simp only [forL, a1, T.opt]
      rw [T.wp_bind]
      refine T.wp_mono a2 fun o ⟨b1, b2⟩ => ?_
      obtain ⟨fl, e2, m2⟩ := o
      cases b1
      exact ih (i + 1) e2 m2 rfl hlt b2
  exact key xs 0 env h rfl (Nat.zero_le _) h0
end MP
end
section
set_option Elab.async false
set_option linter.all false
set_option autoImplicit false
set_option maxRecDepth 100000
set_option maxHeartbeats 4000000
/-! MPWp: the rules by which a term's wp is worked out; comprehensions, calls, draws and loops are left standing. -/
namespace MP
/-- a wp that Lean does not work out by itself -/
structure T.W {α : Type} (t : T α) (Q : α → Prop) : Prop where
  wp : t.wp Q
theorem T.W_iff {α : Type} {t : T α} {Q : α → Prop} : t.W Q ↔ t.wp Q := ⟨fun h => h.wp, fun h => ⟨h⟩⟩
theorem T.W_bind {α β : Type} {t : T α} {f : α → T β} {Q : β → Prop} : (t.bind f).W Q ↔ t.W fun a => (f a).W Q := by simp only [T.W_iff, T.wp_bind]
theorem T.W_ret {α : Type} {a : α} {Q : α → Prop} : (T.ret a).W Q ↔ Q a := T.W_iff
theorem T.W_mono {α : Type} {t : T α} {Q Q' : α → Prop} (h : t.W Q) (hq : ∀ a, Q a → Q' a) : t.W Q' := ⟨T.wp_mono h.wp hq⟩
variable {c : Ctx} {env : Env} {h : Mem}
section
variable {Q : Rv × Mem → Prop}
theorem w_const {x : Val} : (ev c (.const x) env h).W Q ↔ Q (.v x, h) := by simp only [T.W_iff]; exact Iff.rfl
theorem w_glob {k : Nat} : (ev c (.glob k) env h).W Q ↔ (T.opt (c.G k) fun x => T.ret (.v x, h)).W Q := by simp only [T.W_iff]; exact Iff.rfl
theorem w_var {i : Nat} : (ev c (.var i) env h).W Q ↔ (T.opt (loadS env[i]?) fun r => T.ret (r, h)).W Q := by simp only [T.W_iff]; exact Iff.rfl
theorem w_tup {es : Es} : (ev c (.tup es) env h).W Q ↔ (evs c es env h).W fun p => (T.opt (stores p.1) fun xs => T.ret (.v (.tup xs), p.2)).W Q := by simp only [T.W_iff, ev, T.wp_bind]
theorem w_list {es : Es} : (ev c (.list es) env h).W Q ↔ (evs c es env h).W fun p => (T.opt (stores p.1) fun xs => T.ret (.new xs, p.2)).W Q := by simp only [T.W_iff, ev, T.wp_bind]
theorem w_un {u : Un} {a : E} : (ev c (.un u a) env h).W Q ↔ (ev c a env h).W fun p => (T.opt (u.ap p.1) fun r => T.ret (r, p.2)).W Q := by simp only [T.W_iff, ev, T.wp_bind]
theorem w_bin {o : Bn} {a b : E} : (ev c (.bin o a b) env h).W Q ↔ (ev c a env h).W fun p => (ev c b env p.2).W fun q => (T.opt (o.ap p.1 q.1) fun r => T.ret (r, q.2)).W Q := by simp only [T.W_iff, ev, T.wp_bind]
theorem w_chain {o o' : Bn} {a b d : E} : (ev c (.chain a o b o' d) env h).W Q ↔ (ev c a env h).W fun p => (ev c b env p.2).W fun q => (chainT (o.ap p.1 q.1) ((ev c d env q.2).bind fun s => T.opt (o'.ap q.1 s.1) fun r => T.ret (r, s.2)) (.ret (.v (.bl false), q.2))).W Q := by simp only [T.W_iff, ev, T.wp_bind]
theorem w_slc {a : E} {lo hi : Eo} : (ev c (.slc a lo hi) env h).W Q ↔ (ev c a env h).W fun p => (evo c lo env p.2).W fun l => (evo c hi env l.2).W fun u => (T.opt (slice p.1 l.1 u.1) fun r => T.ret (r, u.2)).W Q := by simp only [T.W_iff, ev, T.wp_bind]
theorem w_and {a b : E} : (ev c (.and a b) env h).W Q ↔ (ev c a env h).W fun p => (T.tru p.1.truth (ev c b env p.2) (.ret p)).W Q := by simp only [T.W_iff, ev, T.wp_bind]
theorem w_or {a b : E} : (ev c (.or a b) env h).W Q ↔ (ev c a env h).W fun p => (T.tru p.1.truth (.ret p) (ev c b env p.2)).W Q := by simp only [T.W_iff, ev, T.wp_bind]
theorem w_not {a : E} : (ev c (.not a) env h).W Q ↔ (ev c a env h).W fun p => (T.opt p.1.truth fun t => T.ret (.v (.bl (!t)), p.2)).W Q := by simp only [T.W_iff, ev, T.wp_bind]
theorem w_ite {t a b : E} : (ev c (.ite t a b) env h).W Q ↔ (ev c t env h).W fun p => (T.tru p.1.truth (ev c a env p.2) (ev c b env p.2)).W Q := by simp only [T.W_iff, ev, T.wp_bind]
theorem w_app {f : Ap} {es : Es} : (ev c (.app f es) env h).W Q ↔ (evs c es env h).W fun p => (T.opt (f.ap p.1) fun r => T.ret (r, p.2)).W Q := by simp only [T.W_iff, ev, T.wp_bind]
theorem w_meth {m : Mt} {a : E} {es : Es} : (ev c (.meth m a es) env h).W Q ↔ (ev c a env h).W fun p => (evs c es env p.2).W fun q => (T.opt (m.ap p.1 q.1) fun r => T.ret (r, q.2)).W Q := by simp only [T.W_iff, ev, T.wp_bind]
theorem w_call {k : Nat} {es : Es} : (ev c (.call k es) env h).W Q ↔ (evs c es env h).W fun p => (callW c k p.1 p.2).W Q := by simp only [T.W_iff, ev, T.wp_bind]
theorem w_draw {i : Nat} {m : E} : (ev c (.draw i m) env h).W Q ↔ (T.iff (boxS env[i]?) ((ev c m env h).bind fun p => drawT p.2 p.1)).W Q := by simp only [T.W_iff]; exact Iff.rfl
/-- a comprehension without draws of which all is known -/
theorem w_comp {elt : E} {tg : Tg} {it : It} {cs : Es} {own : List Nat} {xs ys : List Val} {h1 h2 : Mem} (no : noOwn env own = true) (hi : evit c true it env h = .ret (xs, h1))
    (hc : compL (fun x => tg.set x (wipeE env own)) (fun e h => evc c cs e h) (fun e h => ev c elt e h) xs h1 = .ret (ys, h2)) (q : Q (.new ys, h2)) : (ev c (.comp elt tg it cs own) env h).W Q := by
  rw [ev, no, hi]
  show (T.bind (compL _ _ _ xs h1) _).W Q
  rw [hc]
  exact ⟨q⟩
theorem w_compW {elt : E} {tg : Tg} {it : It} {cs : Es} {own : List Nat} {xs : List Val} {h1 : Mem} (no : noOwn env own = true) (hi : evit c true it env h = .ret (xs, h1))
    (hc : (compL (fun x => tg.set x (wipeE env own)) (fun e h => evc c cs e h) (fun e h => ev c elt e h) xs h1).W fun q => Q (.new q.1, q.2)) : (ev c (.comp elt tg it cs own) env h).W Q := by
  rw [ev, no, hi]
  show (T.bind (compL _ _ _ xs h1) _).W Q
  rw [T.W_bind]
  exact T.W_mono hc fun a q => ⟨q⟩
end
section
variable {Q : List Rv × Mem → Prop}
theorem w_nil : (evs c .nil env h).W Q ↔ Q ([], h) := by simp only [T.W_iff]; exact Iff.rfl
theorem w_cons {e : E} {es : Es} : (evs c (.cons e es) env h).W Q ↔ (ev c e env h).W fun p => (evs c es env p.2).W fun q => Q (p.1 :: q.1, q.2) := by simp only [T.W_iff, evs, T.wp_bind, T.wp_ret]
end
section
variable {Q : Option Int × Mem → Prop}
theorem w_no : (evo c .no env h).W Q ↔ Q (none, h) := by simp only [T.W_iff]; exact Iff.rfl
theorem w_so {e : E} : (evo c (.so e) env h).W Q ↔ (ev c e env h).W fun p => (T.opt (optI p.1) fun i => T.ret (some i, p.2)).W Q := by simp only [T.W_iff, evo, T.wp_bind]
end
section
variable {Q : List Val × Mem → Prop} {b : Bool}
theorem w_seq {e : E} : (evit c b (.seq e) env h).W Q ↔ (ev c e env h).W fun p => (T.opt (optT b p.1) fun xs => T.ret (xs, p.2)).W Q := by simp only [T.W_iff, evit, T.wp_bind]
theorem w_rng1 {e : E} : (evit c b (.rng1 e) env h).W Q ↔ (ev c e env h).W fun p => (T.opt (optI p.1) fun i => T.iff (smallI i) (T.ret (rngF i.toNat 0, p.2))).W Q := by simp only [T.W_iff, evit, T.wp_bind]
theorem w_rng2 {e d : E} : (evit c b (.rng2 e d) env h).W Q ↔ (ev c e env h).W fun p => (ev c d env p.2).W fun q => (T.opt (optI p.1) fun i => T.opt (optI q.1) fun j => T.iff (smallI i && smallI j) (T.ret (rngF (j - i).toNat i, q.2))).W Q := by simp only [T.W_iff, evit, T.wp_bind]
theorem w_enum {e : E} : (evit c b (.enum e) env h).W Q ↔ (ev c e env h).W fun p => (T.opt (optT b p.1) fun xs => T.ret (enumF 0 xs, p.2)).W Q := by simp only [T.W_iff, evit, T.wp_bind]
end
section
variable {Q : Out → Prop}
theorem w_done : (exs c .nil env h).W Q ↔ Q (.next, env, h) := by simp only [T.W_iff]; exact Iff.rfl
theorem w_step {s : S} {r : Ss} : (exs c (.cons s r) env h).W Q ↔ (ex c s env h).W fun o => (Fl.go o (fun e h => exs c r e h) (fun e h => T.ret (.cont, e, h)) fun e h => T.ret (.brk, e, h)).W Q := by simp only [T.W_iff, exs, T.wp_bind]
theorem w_asg {t : Tg} {e : E} : (ex c (.asg t e) env h).W Q ↔ (ev c e env h).W fun p => (T.opt (asgS t p.1 env) fun env' => T.ret (.next, env', p.2)).W Q := by simp only [T.W_iff, ex, T.wp_bind]
theorem w_par {is : List Nat} {es : Es} : (ex c (.par is es) env h).W Q ↔ (evs c es env h).W fun p => (T.opt (bindSs env is p.1) fun env' => T.ret (.next, env', p.2)).W Q := by simp only [T.W_iff, ex, T.wp_bind]
theorem w_ret {e : E} : (ex c (.ret e) env h).W Q ↔ (ev c e env h).W fun p => (T.opt (outV p.1) fun r => T.ret (.ret r, env, p.2)).W Q := by simp only [T.W_iff, ex, T.wp_bind]
theorem w_retOwn {i : Nat} : (ex c (.retOwn i) env h).W Q ↔ (T.opt (ownS env i) fun xs => T.ret (.ret (.new xs), env, h)).W Q := by simp only [T.W_iff]; exact Iff.rfl
theorem w_if {t : E} {a b : Ss} : (ex c (.ite t a b) env h).W Q ↔ (ev c t env h).W fun p => (T.tru p.1.truth (exs c a env p.2) (exs c b env p.2)).W Q := by simp only [T.W_iff, ex, T.wp_bind]
theorem w_for {t : Tg} {it : It} {b : Ss} : (ex c (.for t it b) env h).W Q ↔ (evit c false it env h).W fun p => (forL (fun x e => t.set x e) (fun e h => exs c b e h) p.1 env p.2).W Q := by simp only [T.W_iff, ex, T.wp_bind]
theorem w_append {i : Nat} {e : E} : (ex c (.append i e) env h).W Q ↔ (ev c e env h).W fun p => (T.opt (ownS env i) fun xs => T.opt p.1.store fun x => T.iff (shortL xs 1) (T.ret (.next, List.set env i (.own (.l (xs ++ [x]))), p.2))).W Q := by simp only [T.W_iff, ex, T.wp_bind]
theorem w_extend {i : Nat} {e : E} : (ex c (.extend i e) env h).W Q ↔ (ev c e env h).W fun p => (T.opt (ownS env i) fun xs => T.opt p.1.lst fun ys => T.iff (shortL xs ys.length) (T.ret (.next, List.set env i (.own (.l (xs ++ ys))), p.2))).W Q := by simp only [T.W_iff, ex, T.wp_bind]
theorem w_freeze {i : Nat} : (ex c (.freeze i) env h).W Q ↔ (match ownS env i with
    | some xs => T.ret (.next, List.set env i (.val (.lst xs)), h)
    | none => T.ret (.next, env, h) : T Out).W Q := by simp only [T.W_iff]; exact Iff.rfl
theorem w_opt {α β : Type} {a : α} {f : α → T β} : T.opt (some a) f = f a := rfl
theorem w_tt {β : Type} {t e : T β} : T.tru (some true) t e = t := rfl
theorem w_ff {β : Type} {t e : T β} : T.tru (some false) t e = e := rfl
theorem w_iff {β : Type} {t : T β} : T.iff true t = t := rfl
theorem go_next {e : Env} {m : Mem} {a b d : Env → Mem → T Out} : Fl.go (.next, e, m) a b d = a e m := rfl
theorem go_ret {r : Rv} {e : Env} {m : Mem} {a b d : Env → Mem → T Out} : Fl.go (.ret r, e, m) a b d = .ret (.ret r, e, m) := rfl
end
/-- a call whose answer is known -/
theorem w_callK {k : Nat} {rs : List Rv} {r : Rv} {Q : Rv × Mem → Prop} (hc : c.C k (rs.map Rv.arg) h = .ret (r, h)) (hn : (!rs.any Rv.isVw || r.noLst) = true) (q : Q (r, h)) : (callW c k rs h).W Q := by
  unfold callW
  rw [hc]
  show (T.iff (!rs.any Rv.isVw || r.noLst) _).W Q
  rw [hn]
  exact ⟨q⟩
theorem w_compI {elt : E} {tg : Tg} {it : It} {cs : Es} {own : List Nat} {Q : Rv × Mem → Prop} (no : noOwn env own = true)
    (hi : (evit c true it env h).W fun p => (compL (fun x => tg.set x (wipeE env own)) (fun e h => evc c cs e h) (fun e h => ev c elt e h) p.1 p.2).W fun q => Q (.new q.1, q.2)) : (ev c (.comp elt tg it cs own) env h).W Q := by
  rw [ev, no]
  show (T.bind _ _).W Q
  rw [T.W_bind]
  refine T.W_mono hi fun p wp => ?_
  rw [T.W_bind]
  exact T.W_mono wp fun a q => ⟨q⟩
theorem w_evc0 {Q : Bool × Mem → Prop} : (evc c .nil env h).W Q ↔ Q (true, h) := by simp only [T.W_iff]; exact Iff.rfl
theorem w_evc1 {e : E} {es : Es} {Q : Bool × Mem → Prop} : (evc c (.cons e es) env h).W Q ↔ (ev c e env h).W fun p => (T.tru p.1.truth (evc c es env p.2) (.ret (false, p.2))).W Q := by simp only [T.W_iff, evc, T.wp_bind]
/-- a comprehension by its items -/
theorem compL_by {α : Type} {st : Val → Option Env} {test : Env → Mem → T (Bool × Mem)} {elt : Env → Mem → T (Rv × Mem)} {h : Mem} (v : α → Val) (f : α → Env) (p : α → Bool) (g : α → Val) : ∀ {ys : List α} {Q : List Val × Mem → Prop},
    (∀ y ∈ ys, st (v y) = some (f y)) → (∀ y ∈ ys, (test (f y) h).W fun b => b = (p y, h)) → (∀ y ∈ ys, p y = true → (elt (f y) h).W fun r => r.2 = h ∧ r.1.store = some (g y)) → Q ((ys.filter p).map g, h) → (compL st test elt (ys.map v) h).W Q
  | [], Q, _, _, _, q => ⟨q⟩
  | y :: ys, Q, h1, h2, h3, q => by
    have m := List.mem_cons_self (a := y) (l := ys)
    have n1 := fun y m => h1 y (List.mem_cons_of_mem _ m)
    have n2 := fun y m => h2 y (List.mem_cons_of_mem _ m)
    have n3 := fun y m => h3 y (List.mem_cons_of_mem _ m)
    simp only [List.map_cons, compL, h1 y m, T.opt]
    rw [T.W_bind]
    refine T.W_mono (h2 y m) fun b e => ?_
    subst e
    simp only [List.filter_cons] at q
    cases hp : p y with
    | false =>
      rw [hp] at q
      exact compL_by v f p g n1 n2 n3 (by simpa using q)
    | true =>
      rw [hp] at q
      simp only []
      rw [T.W_bind]
      refine T.W_mono (h3 y m hp) fun r ⟨e1, e2⟩ => ?_
      simp only [e2, T.opt]
      rw [T.W_bind, e1]
      exact compL_by v f p g n1 n2 n3 (by rw [T.W_ret]; simpa using q)
theorem w_callW {k : Nat} {rs : List Rv} {Q : Rv × Mem → Prop} (hc : (c.C k (rs.map Rv.arg) h).W fun p => (!rs.any Rv.isVw || p.1.noLst) = true ∧ Q p) : (callW c k rs h).W Q := by
  unfold callW
  rw [T.W_bind]
  refine T.W_mono hc fun p ⟨h1, h2⟩ => ?_
  rw [h1]
  exact ⟨h2⟩
/-- a def's answer -/
def endQ (Q : Rv × Mem → Prop) (o : Out) : Prop := match o.1 with
  | .next => Q (.v .non, o.2.2)
  | .ret r => Q (r, o.2.2)
  | _ => False
theorem Prog.call_wp {P : Prog} {n k : Nat} {f : Fn} {args : List Val} {Q : Rv × Mem → Prop} (e : P.F k = some f) (l : (args.length == f.np) = true) (w : (exs (P.ctx n) f.body (args.map .val ++ List.replicate (f.ns - f.np) .emp) h).W (endQ Q)) : (P.call (n + 1) k args h).W Q := by
  show (T.opt (P.F k) _).W _
  rw [e]
  show (T.iff (args.length == f.np) _).W _
  rw [l]
  show (T.bind _ _).W _
  rw [T.W_bind]
  refine T.W_mono w fun o q => ?_
  obtain ⟨fl, e2, m2⟩ := o
  cases fl <;> first | exact ⟨q⟩ | exact q.elim
theorem Prog.callW {P : Prog} {m k : Nat} {args : List Val} {Q : Rv × Mem → Prop} (n : Nat) (f : Fn) (hm : m = n + 1) (e : P.F k = some f) (l : (args.length == f.np) = true) (w : (exs (P.ctx n) f.body (args.map .val ++ List.replicate (f.ns - f.np) .emp) h).W (endQ Q)) : (P.call m k args h).W Q := by
  subst hm
  exact Prog.call_wp e l w
/-- the items of enumerate -/
def sel {α : Type} (p : α → Bool) : Nat → List α → List Nat
  | _, [] => []
  | n, x :: xs => if p x then n :: sel p (n + 1) xs else sel p (n + 1) xs
/-- those of enumerate that pass, by their places -/
theorem compL_enum {α : Type} {st : Val → Option Env} {test : Env → Mem → T (Bool × Mem)} {elt : Env → Mem → T (Rv × Mem)} {h : Mem} (v : α → Val) (f : Nat → α → Env) (p : α → Bool) : ∀ {ys : List α} {n : Nat} {Q : List Val × Mem → Prop},
    (∀ i, ∀ y ∈ ys, st (.tup [.int (i : Nat), v y]) = some (f i y)) → (∀ i, ∀ y ∈ ys, (test (f i y) h).W fun b => b = (p y, h)) → (∀ i, ∀ y ∈ ys, p y = true → (elt (f i y) h).W fun r => r.2 = h ∧ r.1.store = some (.int (i : Nat))) → Q ((sel p n ys).map (fun i => .int (i : Nat)), h) → (compL st test elt (enumF n (ys.map v)) h).W Q
  | [], n, Q, _, _, _, q => ⟨q⟩
  | y :: ys, n, Q, h1, h2, h3, q => by
    have m := List.mem_cons_self (a := y) (l := ys)
    have n1 := fun i y m => h1 i y (List.mem_cons_of_mem _ m)
    have n2 := fun i y m => h2 i y (List.mem_cons_of_mem _ m)
    have n3 := fun i y m => h3 i y (List.mem_cons_of_mem _ m)
    simp only [List.map_cons, enumF, compL, h1 n y m, T.opt]
    rw [T.W_bind]
    refine T.W_mono (h2 n y m) fun b e => ?_
    subst e
    simp only [sel] at q
    cases hp : p y with
    | false =>
      rw [hp] at q
      exact compL_enum v f p n1 n2 n3 (by simpa using q)
    | true =>
      rw [hp] at q
      simp only []
      rw [T.W_bind]
      refine T.W_mono (h3 n y m hp) fun r ⟨e1, e2⟩ => ?_
      simp only [e2, T.opt]
      rw [T.W_bind, e1]
      exact compL_enum v f p n1 n2 n3 (by rw [T.W_ret]; simpa using q)
theorem w_callS {k : Nat} {rs : List Rv} {Q : Rv × Mem → Prop} : (callW c k rs h).W Q ↔ (c.C k (rs.map Rv.arg) h).W fun p => (T.iff (!rs.any Rv.isVw || p.1.noLst) (T.ret p)).W Q := by
  unfold callW
  rw [T.W_bind]
theorem ctx_C {P : Prog} {n : Nat} : (P.ctx n).C = P.call n := rfl
theorem rngF_map : ∀ (n : Nat) (a : Int), rngF n a = (List.range n).map fun i => Val.int (a + (i : Nat))
  | 0, _ => rfl
  | n + 1, a => by
    rw [List.range_succ_eq_map, List.map_cons, List.map_map, rngF, rngF_map n (a + 1)]
    simp only [Int.natCast_zero, Int.add_zero]
    congr 1
    refine List.map_congr_left fun i _ => ?_
    simp only [Function.comp, Nat.succ_eq_add_one, Int.natCast_add, Int.natCast_one]
    congr 1
    omega
/-- a comprehension over range(n) -/
theorem compL_rng {st : Val → Option Env} {test : Env → Mem → T (Bool × Mem)} {elt : Env → Mem → T (Rv × Mem)} {h : Mem} {n : Nat} (f : Nat → Env) (p : Nat → Bool) (g : Nat → Val) {Q : List Val × Mem → Prop}
    (h1 : ∀ i, i < n → st (.int (i : Nat)) = some (f i)) (h2 : ∀ i, i < n → (test (f i) h).W fun b => b = (p i, h)) (h3 : ∀ i, i < n → p i = true → (elt (f i) h).W fun r => r.2 = h ∧ r.1.store = some (g i)) (q : Q (((List.range n).filter p).map g, h)) : (compL st test elt (rngF n 0) h).W Q := by
  rw [rngF_map]
  have e : (fun i : Nat => Val.int (0 + (i : Nat))) = fun i : Nat => Val.int (i : Nat) := by
    funext i; rw [Int.zero_add]
  rw [e]
  exact compL_by (fun i : Nat => Val.int (i : Nat)) f p g (fun i m => h1 i (List.mem_range.mp m)) (fun i m => h2 i (List.mem_range.mp m)) (fun i m => h3 i (List.mem_range.mp m)) q
theorem range_map {α β : Type} (f : α → β) (g : Nat → β) : ∀ (xs : List α), (∀ i x, xs[i]? = some x → g i = f x) → (List.range xs.length).map g = xs.map f := fun xs h => by
  apply List.ext_getElem?
  intro i
  rw [List.getElem?_map, List.getElem?_map]
  by_cases hi : i < xs.length
  · rw [List.getElem?_range hi, List.getElem?_eq_getElem hi]
    simp only [Option.map_some]
    rw [h i _ (List.getElem?_eq_getElem hi)]
  · rw [List.getElem?_eq_none (by simpa using hi), List.getElem?_eq_none (by omega)]
    rfl
/-! ### functions at a known kind of argument -/
theorem len_tup {xs : List Val} : Ap.ap .len [.v (.tup xs)] = some (.v (.int xs.length)) := rfl
theorem len_lst {xs : List Val} : Ap.ap .len [.v (.lst xs)] = some (.v (.int xs.length)) := rfl
theorem len_new {xs : List Val} : Ap.ap .len [.new xs] = some (.v (.int xs.length)) := rfl
theorem len_vw {xs : List Val} : Ap.ap .len [.vw xs] = some (.v (.int xs.length)) := rfl
theorem tup_tup {xs : List Val} : Ap.ap .tuple [.v (.tup xs)] = some (.v (.tup xs)) := rfl
theorem tup_lst {xs : List Val} : Ap.ap .tuple [.v (.lst xs)] = some (.v (.tup xs)) := rfl
theorem tup_new {xs : List Val} : Ap.ap .tuple [.new xs] = some (.v (.tup xs)) := rfl
theorem tup_vw {xs : List Val} : Ap.ap .tuple [.vw xs] = some (.v (.tup xs)) := rfl
theorem optT_tup {b : Bool} {xs : List Val} : optT b (.v (.tup xs)) = some xs := by cases b <;> rfl
theorem optT_lst {b : Bool} {xs : List Val} : optT b (.v (.lst xs)) = some xs := by cases b <;> rfl
theorem optT_new {b : Bool} {xs : List Val} : optT b (.new xs) = some xs := by cases b <;> rfl
theorem optI_int {i : Int} : optI (.v (.int i)) = some i := rfl
theorem place_at {n d : Nat} (h : d < n) : place n (d : Int) = some d := by
  unfold place
  rw [if_pos (by omega), if_pos (by omega)]
  simp
theorem idx_tup {xs : List Val} {d : Nat} {x : Val} (h : xs[d]? = some x) : Bn.ap .idx (.v (.tup xs)) (.v (.int (d : Nat))) = some (.v x) := by
  show ((place xs.length (d : Nat)).bind fun k => xs[k]?.map Rv.v) = _
  rw [place_at (List.getElem?_eq_some_iff.mp h).1]
  show xs[d]?.map Rv.v = _
  rw [h]; rfl
theorem idx_lst {xs : List Val} {d : Nat} {x : Val} (h : xs[d]? = some x) : Bn.ap .idx (.v (.lst xs)) (.v (.int (d : Nat))) = some (.v x) := by
  show ((place xs.length (d : Nat)).bind fun k => xs[k]?.map Rv.v) = _
  rw [place_at (List.getElem?_eq_some_iff.mp h).1]
  show xs[d]?.map Rv.v = _
  rw [h]; rfl
end MP
end
section
set_option Elab.async false
set_option linter.all false
set_option autoImplicit false
set_option maxRecDepth 100000
set_option maxHeartbeats 4000000
/-! MPRun: equations by which simp runs a term. -/
namespace MP
section
variable {α β γ : Type}
theorem T.ret_bind {a : α} {f : α → T β} : (T.ret a).bind f = f a := id rfl
theorem T.bad_bind {f : α → T β} : (T.bad : T α).bind f = .bad := id rfl
theorem T.draw_bind {m : Int} {k : Int → T α} {f : α → T β} : (T.draw m k).bind f = .draw m fun d => (k d).bind f := id rfl
theorem T.bind_assoc {t : T α} {f : α → T β} {g : β → T γ} : (t.bind f).bind g = t.bind fun a => (f a).bind g := by
  induction t with
  | ret a => rfl
  | bad => rfl
  | draw m k ih => simp only [T.bind, ih]
theorem T.ite_bind {p : Prop} [Decidable p] {t e : T α} {f : α → T β} : (if p then t else e).bind f = if p then t.bind f else e.bind f := by
  split <;> rfl
theorem T.tru_some {b : Bool} {t e : T β} : T.tru (some b) t e = if b = true then t else e := by cases b <;> rfl
theorem T.opt_some {a : α} {f : α → T β} : T.opt (some a) f = f a := id rfl
theorem T.opt_none {f : α → T β} : T.opt none f = .bad := id rfl
theorem T.opt_ite {p : Prop} [Decidable p] {a b : Option α} {f : α → T β} : T.opt (if p then a else b) f = if p then T.opt a f else T.opt b f := by
  split <;> rfl
theorem T.iff_if {b : Bool} {t : T β} : T.iff b t = if b = true then t else .bad := by cases b <;> rfl
theorem chainT_some {b : Bool} {t e : T β} : chainT (some (.v (.bl b))) t e = if b = true then t else e := by cases b <;> rfl
theorem T.ite_W {p : Prop} [Decidable p] {t e : T α} {Q : α → Prop} : (if p then t else e).W Q ↔ if p then t.W Q else e.W Q := by
  split <;> exact Iff.rfl
theorem T.draw_W {m : Int} {k : Int → T α} {Q : α → Prop} : (T.draw m k).W Q ↔ 0 < m ∧ ∀ d, 0 ≤ d → d < m → (k d).W Q := by
  simp only [T.W_iff, T.wp]
end
/-- what is walked by a comprehension, item by item -/
def compF {α β : Type} (step : α → Mem → T (Option β × Mem)) : List α → Mem → T (List β × Mem)
  | [], h => .ret ([], h)
  | y :: ys, h => (step y h).bind fun p => (compF step ys p.2).bind fun r => .ret ((match p.1 with | some v => v :: r.1 | none => r.1), r.2)
section
variable {α β γ : Type}
theorem compF_map {f : γ → α} {step : α → Mem → T (Option β × Mem)} : ∀ {ys : List γ} {h : Mem}, compF step (ys.map f) h = compF (fun y h => step (f y) h) ys h
  | [], h => rfl
  | y :: ys, h => by simp only [List.map_cons, compF, compF_map]
theorem compF_nil {step : α → Mem → T (Option β × Mem)} {h : Mem} : compF step [] h = .ret ([], h) := id rfl
theorem compF_cons {step : α → Mem → T (Option β × Mem)} {y : α} {ys : List α} {h : Mem} : compF step (y :: ys) h = (step y h).bind fun p => (compF step ys p.2).bind fun r => .ret ((match p.1 with | some v => v :: r.1 | none => r.1), r.2) := id rfl
theorem compF_all {g : α → β} : ∀ {ys : List α} {h : Mem}, compF (fun y h => .ret (some (g y), h)) ys h = .ret (ys.map g, h)
  | [], h => rfl
  | y :: ys, h => by simp only [List.map_cons, compF, compF_all, T.ret_bind]
theorem compF_if {p : α → Prop} [DecidablePred p] {g : α → β} : ∀ {ys : List α} {h : Mem}, compF (fun y h => if p y then .ret (some (g y), h) else .ret (none, h)) ys h = .ret ((ys.filter fun y => decide (p y)).map g, h)
  | [], h => rfl
  | y :: ys, h => by
    simp only [compF, compF_if, List.filter_cons, decide_eq_true_eq]
    by_cases hp : p y
    · simp only [if_pos hp, T.ret_bind, List.map_cons]
    · simp only [if_neg hp, T.ret_bind]
theorem compF_ifn {p : α → Prop} [DecidablePred p] {g : α → β} : ∀ {ys : List α} {h : Mem}, compF (fun y h => if p y then .ret (none, h) else .ret (some (g y), h)) ys h = .ret ((ys.filter fun y => !decide (p y)).map g, h)
  | [], h => rfl
  | y :: ys, h => by
    simp only [compF, compF_ifn, List.filter_cons, Bool.not_eq_true', decide_eq_false_iff_not]
    by_cases hp : p y
    · simp only [if_pos hp, if_neg (not_not_intro hp), T.ret_bind]
    · simp only [if_neg hp, if_pos hp, T.ret_bind, List.map_cons]
theorem compF_congr {s s' : α → Mem → T (Option β × Mem)} : ∀ {ys : List α} {h : Mem}, (∀ y ∈ ys, ∀ h, s y h = s' y h) → compF s ys h = compF s' ys h
  | [], h, _ => rfl
  | y :: ys, h, e => by
    simp only [compF, e y List.mem_cons_self]
    congr 1; funext p
    rw [compF_congr fun z m => e z (List.mem_cons_of_mem _ m)]
/-- .. of those that are there -/
theorem compF_by {s : α → Mem → T (Option β × Mem)} {g : α → β} {ys : List α} {h : Mem} (e : ∀ y ∈ ys, ∀ h, s y h = .ret (some (g y), h)) : compF s ys h = .ret (ys.map g, h) := by
  rw [compF_congr e, compF_all]
theorem compF_byP {s : α → Mem → T (Option β × Mem)} (p : α → Bool) (g : α → β) {ys : List α} {h : Mem} (e : ∀ y ∈ ys, ∀ h, s y h = if p y = true then .ret (some (g y), h) else .ret (none, h)) : compF s ys h = .ret ((ys.filter p).map g, h) := by
  rw [compF_congr e, compF_if]
  congr 4
  funext y
  cases p y <;> rfl
/-- .. with draws -/
theorem compF_W {s : α → Mem → T (Option β × Mem)} (G : α → β → Prop) {Q : List β × Mem → Prop} : ∀ {ys : List α} {h : Mem}, (∀ y ∈ ys, (s y h).W fun p => p.2 = h ∧ ∃ b, p.1 = some b ∧ G y b) → (∀ bs : List β, bs.length = ys.length → (∀ (i : Nat) (y : α) (b : β), ys[i]? = some y → bs[i]? = some b → G y b) → Q (bs, h)) → (compF s ys h).W Q
  | [], h, _, hq => T.W_ret.mpr (hq [] rfl (fun i y b m => by cases m))
  | y :: ys, h, h1, hq => by
    simp only [compF, T.W_bind]
    refine T.W_mono (h1 y List.mem_cons_self) fun p ⟨e1, b, e2, g⟩ => ?_
    rw [e1, e2]
    refine compF_W G (fun z m => h1 z (List.mem_cons_of_mem _ m)) fun bs hl hb => ?_
    rw [T.W_ret]
    refine hq (b :: bs) (by simp [hl]) fun i z c m1 m2 => ?_
    cases i with
    | zero => cases m1; cases m2; exact g
    | succ i => exact hb i z c (by simpa using m1) (by simpa using m2)
end
/-! ### what is still to be done, as constants: simp does not look into them -/
section
variable (c : Ctx) (env : Env) (h : Mem)
def kTup (p : List Rv × Mem) : T (Rv × Mem) := T.opt (stores p.1) fun xs => .ret (.v (.tup xs), p.2)
def kList (p : List Rv × Mem) : T (Rv × Mem) := T.opt (stores p.1) fun xs => .ret (.new xs, p.2)
def kUn (u : Un) (p : Rv × Mem) : T (Rv × Mem) := T.opt (u.ap p.1) fun r => .ret (r, p.2)
def kBin2 (o : Bn) (r : Rv) (q : Rv × Mem) : T (Rv × Mem) := T.opt (o.ap r q.1) fun r => .ret (r, q.2)
def kBin (o : Bn) (b : E) (p : Rv × Mem) : T (Rv × Mem) := (ev c b env p.2).bind (kBin2 o p.1)
def kCh4 (o' : Bn) (d : E) (r : Rv) (h : Mem) (b : Bool) : T (Rv × Mem) := if b = true then (ev c d env h).bind (kBin2 o' r) else .ret (.v (.bl false), h)
def blO : Rv → Option Bool | .v (.bl b) => some b | _ => none
def kCh3 (o' : Bn) (d : E) (q : Rv) (h : Mem) (r : Rv) : T (Rv × Mem) := T.opt (blO r) (kCh4 c env o' d q h)
def kCh2 (o o' : Bn) (d : E) (r : Rv) (q : Rv × Mem) : T (Rv × Mem) := T.opt (o.ap r q.1) (kCh3 c env o' d q.1 q.2)
def kCh (o : Bn) (b : E) (o' : Bn) (d : E) (p : Rv × Mem) : T (Rv × Mem) := (ev c b env p.2).bind (kCh2 c env o o' d p.1)
def kSlc3 (r : Rv) (l : Option Int) (u : Option Int × Mem) : T (Rv × Mem) := T.opt (slice r l u.1) fun r => .ret (r, u.2)
def kSlc2 (hi : Eo) (r : Rv) (l : Option Int × Mem) : T (Rv × Mem) := (evo c hi env l.2).bind (kSlc3 r l.1)
def kSlc (lo hi : Eo) (p : Rv × Mem) : T (Rv × Mem) := (evo c lo env p.2).bind (kSlc2 c env hi p.1)
def kAnd2 (b : E) (p : Rv × Mem) (t : Bool) : T (Rv × Mem) := if t = true then ev c b env p.2 else .ret p
def kAnd (b : E) (p : Rv × Mem) : T (Rv × Mem) := T.opt p.1.truth (kAnd2 c env b p)
def kOr2 (b : E) (p : Rv × Mem) (t : Bool) : T (Rv × Mem) := if t = true then .ret p else ev c b env p.2
def kOr (b : E) (p : Rv × Mem) : T (Rv × Mem) := T.opt p.1.truth (kOr2 c env b p)
def kNot (p : Rv × Mem) : T (Rv × Mem) := T.opt p.1.truth fun t => .ret (.v (.bl (!t)), p.2)
def kIte2 (a b : E) (h : Mem) (t : Bool) : T (Rv × Mem) := if t = true then ev c a env h else ev c b env h
def kIte (a b : E) (p : Rv × Mem) : T (Rv × Mem) := T.opt p.1.truth (kIte2 c env a b p.2)
def kApp (f : Ap) (p : List Rv × Mem) : T (Rv × Mem) := T.opt (f.ap p.1) fun r => .ret (r, p.2)
def kMeth2 (m : Mt) (r : Rv) (q : List Rv × Mem) : T (Rv × Mem) := T.opt (m.ap r q.1) fun r => .ret (r, q.2)
def kMeth (m : Mt) (es : Es) (p : Rv × Mem) : T (Rv × Mem) := (evs c es env p.2).bind (kMeth2 m p.1)
def kCall2 (vw : Bool) (p : Rv × Mem) : T (Rv × Mem) := if (!vw || p.1.noLst) = true then .ret p else .bad
def kCall (k : Nat) (p : List Rv × Mem) : T (Rv × Mem) := (c.C k (p.1.map Rv.arg) p.2).bind (kCall2 (p.1.any Rv.isVw))
def kDrw2 (h : Mem) (d : Int) : T (Rv × Mem) := .ret (.v (.int d), h)
def kDrw (p : Rv × Mem) : T (Rv × Mem) := T.opt (optI p.1) fun m => if (decide (0 < m) && decide (m < 1073741824)) = true then .draw m (kDrw2 p.2) else .bad
def kRl2 (t : Bool) (l : Option Int) (p : Rv × Mem) : T (Rv × Mem) := T.opt (optI p.1) fun j => if (smallI (l.getD 0) && smallI j) = true then .ret (rngR t (rngF (j - l.getD 0).toNat (l.getD 0)), p.2) else .bad
def kRl (t : Bool) (hi : E) (l : Option Int × Mem) : T (Rv × Mem) := (ev c hi env l.2).bind (kRl2 t l.1)
def kNew (q : List Val × Mem) : T (Rv × Mem) := .ret (.new q.1, q.2)
def kNewZ (q : List Val × Mem) : T (Rv × Mem) := if q.1.length ≤ sizeMax then .ret (.new q.1, q.2) else .bad
def stC (tg : Tg) (own : List Nat) (x : Val) : Option Env := tg.set x (wipeE env own)
def evK (e : E) (env : Env) (h : Mem) : T (Rv × Mem) := ev c e env h
def evcK (cs : Es) (env : Env) (h : Mem) : T (Bool × Mem) := evc c cs env h
def kCo3 (h : Mem) (y : Val) : T (Option Val × Mem) := .ret (some y, h)
def kCo2 (q : Rv × Mem) : T (Option Val × Mem) := T.opt q.1.store (kCo3 q.2)
def kCo1 (elt : E) (env : Env) (p : Bool × Mem) : T (Option Val × Mem) := if p.1 = true then (ev c elt env p.2).bind kCo2 else .ret (none, p.2)
def kCo0 (cs : Es) (elt : E) (h : Mem) (env : Env) : T (Option Val × Mem) := (evc c cs env h).bind (kCo1 c elt env)
def kCo (cs : Es) (elt : E) (tg : Tg) (own : List Nat) (x : Val) (h : Mem) : T (Option Val × Mem) := T.opt (stC env tg own x) (kCo0 c cs elt h)
def kComp (elt : E) (tg : Tg) (cs : Es) (own : List Nat) (p : List Val × Mem) : T (Rv × Mem) := (compF (kCo c env cs elt tg own) p.1 p.2).bind kNew
def kDo3 (q : List Val × Mem) : T (Option (List Val) × Mem) := .ret (some q.1, q.2)
def kDo2 (elt : E) (tg2 : Tg) (env : Env) (p : List Val × Mem) : T (Option (List Val) × Mem) := (compF (fun x h => T.opt (tg2.set x env) (kCo0 c .nil elt h)) p.1 p.2).bind kDo3
def kDo1 (elt : E) (tg2 : Tg) (it2 : It) (h : Mem) (env : Env) : T (Option (List Val) × Mem) := (evit c true it2 env h).bind (kDo2 c elt tg2 env)
def kDo (elt : E) (tg tg2 : Tg) (it2 : It) (own : List Nat) (x : Val) (h : Mem) : T (Option (List Val) × Mem) := T.opt (stC env tg own x) (kDo1 c elt tg2 it2 h)
def kFlat (r : List (List Val) × Mem) : T (List Val × Mem) := .ret (r.1.flatten, r.2)
def kComp2 (elt : E) (tg tg2 : Tg) (it2 : It) (own : List Nat) (p : List Val × Mem) : T (Rv × Mem) := ((compF (kDo c env elt tg tg2 it2 own) p.1 p.2).bind kFlat).bind kNewZ
def kArg2 (r : Rv) (q : List Rv × Mem) : T (List Rv × Mem) := .ret (r :: q.1, q.2)
def kArg (es : Es) (p : Rv × Mem) : T (List Rv × Mem) := (evs c es env p.2).bind (kArg2 p.1)
def kTst2 (es : Es) (h : Mem) (t : Bool) : T (Bool × Mem) := if t = true then evc c es env h else .ret (false, h)
def kTst (es : Es) (p : Rv × Mem) : T (Bool × Mem) := T.opt p.1.truth (kTst2 c env es p.2)
def kEo (p : Rv × Mem) : T (Option Int × Mem) := T.opt (optI p.1) fun i => .ret (some i, p.2)
def kSeq (b : Bool) (p : Rv × Mem) : T (List Val × Mem) := T.opt (optT b p.1) fun xs => .ret (xs, p.2)
def kRng (p : Rv × Mem) : T (List Val × Mem) := T.opt (optI p.1) fun i => if smallI i = true then .ret (rngF i.toNat 0, p.2) else .bad
def kRn2 (r : Rv) (q : Rv × Mem) : T (List Val × Mem) := T.opt (optI r) fun i => T.opt (optI q.1) fun j => if (smallI i && smallI j) = true then .ret (rngF (j - i).toNat i, q.2) else .bad
def kRn (d : E) (p : Rv × Mem) : T (List Val × Mem) := (ev c d env p.2).bind (kRn2 p.1)
def kEnum (b : Bool) (p : Rv × Mem) : T (List Val × Mem) := T.opt (optT b p.1) fun xs => .ret (enumF 0 xs, p.2)
def kZip2 (b : Bool) (r : Rv) (q : Rv × Mem) : T (List Val × Mem) := T.opt (optT b r) fun xs => T.opt (optT b q.1) fun ys => .ret (zipF xs ys, q.2)
def kZip (b : Bool) (d : E) (p : Rv × Mem) : T (List Val × Mem) := (ev c d env p.2).bind (kZip2 b p.1)
-- statements
def kNxt (h : Mem) (e : Env) : T Out := .ret (.next, e, h)
def kAsg (t : Tg) (p : Rv × Mem) : T Out := T.opt (asgS t p.1 env) (kNxt p.2)
def kPar (is : List Nat) (p : List Rv × Mem) : T Out := T.opt (bindSs env is p.1) (kNxt p.2)
def kRet (p : Rv × Mem) : T Out := T.opt (outV p.1) fun r => .ret (.ret r, env, p.2)
def kIf2 (a b : Ss) (h : Mem) (t : Bool) : T Out := if t = true then exs c a env h else exs c b env h
def kIf (a b : Ss) (p : Rv × Mem) : T Out := T.opt p.1.truth (kIf2 c env a b p.2)
def setT (t : Tg) (x : Val) (e : Env) : Option Env := t.set x e
def bodyK (b : Ss) (e : Env) (h : Mem) : T Out := exs c b e h
def kFor (t : Tg) (b : Ss) (p : List Val × Mem) : T Out := forL (setT t) (bodyK c b) p.1 env p.2
def kApnd (i : Nat) (p : Rv × Mem) : T Out := T.opt (ownS env i) fun xs => T.opt p.1.store fun x => if shortL xs 1 = true then .ret (.next, List.set env i (.own (.l (xs ++ [x]))), p.2) else .bad
def kExt (i : Nat) (p : Rv × Mem) : T Out := T.opt (ownS env i) fun xs => T.opt p.1.lst fun ys => if shortL xs ys.length = true then .ret (.next, List.set env i (.own (.l (xs ++ ys))), p.2) else .bad
def kSet2 (i : Nat) (r : Rv) (q : Rv × Mem) : T Out := T.opt (ownS env i) fun xs => T.opt (optI q.1) fun n => T.opt r.store fun x => T.opt (place xs.length n) fun j => .ret (.next, List.set env i (.own (.l (xs.set j x))), q.2)
def kSet (i : Nat) (k : E) (p : Rv × Mem) : T Out := (ev c k env p.2).bind (kSet2 env i p.1)
def kPop (i j : Nat) (p : Option Int × Mem) : T Out := T.opt (ownS env j) fun xs => T.opt (place xs.length (p.1.getD (-1))) fun k => T.opt xs[k]? fun x => T.opt (bindS (List.set env j (.own (.l (xs.eraseIdx k)))) i (.v x)) (kNxt p.2)
def kPopP4 (is : List Nat) (x : Val) (env' : Env) (q : Rv × Mem) : T Out := T.opt (bindSs env' is [.v x, q.1]) (kNxt q.2)
def kPopP3 (i i2 j : Nat) (e2 : E) (h : Mem) (xs : List Val) (k : Nat) (x : Val) : T Out := (ev c e2 (List.set env j (.own (.l (xs.eraseIdx k)))) h).bind (kPopP4 [i, i2] x (List.set env j (.own (.l (xs.eraseIdx k)))))
def kPopP2 (i i2 j : Nat) (e2 : E) (h : Mem) (xs : List Val) (k : Nat) : T Out := T.opt xs[k]? (kPopP3 c env i i2 j e2 h xs k)
def kPopP (i i2 j : Nat) (e2 : E) (p : Rv × Mem) : T Out := T.opt (ownS env j) fun xs => T.opt (optI p.1) fun n => T.opt (place xs.length n) (kPopP2 c env i i2 j e2 p.2 xs)
def kIns2 (i : Nat) (r : Rv) (p : Rv × Mem) : T Out := T.opt (ownS env i) fun xs => T.opt (optI r) fun n => T.opt p.1.store fun x => if (decide (0 ≤ n) && smallI n && shortL xs 1) = true then .ret (.next, List.set env i (.own (.l (insertAt xs n x))), p.2) else .bad
def kIns (i : Nat) (e : E) (q : Rv × Mem) : T Out := (ev c e env q.2).bind (kIns2 env i q.1)
def kAug (i : Nat) (o : Bn) (r : Rv) (p : Rv × Mem) : T Out := T.opt (augI o r p.1) fun x => T.opt (bindS env i (.v x)) (kNxt p.2)
def kAug0 (i : Nat) (o : Bn) (e : E) (h : Mem) (r : Rv) : T Out := (ev c e env h).bind (kAug env i o r)
def kAugI3 (i j : Nat) (o : Bn) (xs : List Val) (x : Val) (p : Rv × Mem) : T Out := T.opt (augI o (.v x) p.1) fun y => .ret (.next, List.set env i (.own (.l (xs.set j y))), p.2)
def kAugI2 (i j : Nat) (o : Bn) (e : E) (h : Mem) (xs : List Val) (x : Val) : T Out := (ev c e env h).bind (kAugI3 env i j o xs x)
def kAugI1 (i : Nat) (o : Bn) (e : E) (h : Mem) (xs : List Val) (j : Nat) : T Out := T.opt xs[j]? (kAugI2 c env i j o e h xs)
def kAugI (i : Nat) (o : Bn) (e : E) (q : Rv × Mem) : T Out := T.opt (ownS env i) fun xs => T.opt (optI q.1) fun n => T.opt (place xs.length n) (kAugI1 c env i o e q.2 xs)
def kThen (r : Ss) (o : Out) : T Out := match o with
  | (.next, e, h) => exs c r e h
  | o => .ret o
def isOwn : Option Slot → Bool | some (.own _) => true | _ => false
def frz (env : Env) (i : Nat) : Option (List Val) → Env
  | some xs => List.set env i (.val (.lst xs))
  | none => env
end
section
variable {c : Ctx} {env : Env} {h : Mem}
theorem e_const {x : Val} : ev c (.const x) env h = .ret (.v x, h) := by rw [ev]
theorem e_glob {k : Nat} : ev c (.glob k) env h = T.opt (c.G k) fun x => .ret (.v x, h) := by rw [ev]
theorem e_var {i : Nat} : ev c (.var i) env h = T.opt (loadS env[i]?) fun r => .ret (r, h) := by rw [ev]
theorem e_tup {es : Es} : ev c (.tup es) env h = (evs c es env h).bind kTup := by rw [ev]; rfl
theorem e_list {es : Es} : ev c (.list es) env h = (evs c es env h).bind kList := by rw [ev]; rfl
theorem e_un {u : Un} {a : E} : ev c (.un u a) env h = (ev c a env h).bind (kUn u) := by rw [ev]; rfl
theorem e_bin {o : Bn} {a b : E} : ev c (.bin o a b) env h = (ev c a env h).bind (kBin c env o b) := by rw [ev]; rfl
theorem e_chain {o o' : Bn} {a b d : E} : ev c (.chain a o b o' d) env h = (ev c a env h).bind (kCh c env o b o' d) := by
  rw [ev]; congr 1; funext p; unfold kCh; congr 1; funext q; unfold kCh2
  cases hq : o.ap p.1 q.1 with
  | none => rfl
  | some r => cases r with
    | v x => cases x with
      | bl b => cases b <;> rfl
      | _ => rfl
    | _ => rfl
theorem e_slc {a : E} {lo hi : Eo} : ev c (.slc a lo hi) env h = (ev c a env h).bind (kSlc c env lo hi) := by rw [ev]; rfl
theorem tru_opt {β : Type} {o : Option Bool} {t e : T β} : T.tru o t e = T.opt o fun b => if b = true then t else e := by
  rcases o with _ | _ | _ <;> rfl
theorem e_and {a b : E} : ev c (.and a b) env h = (ev c a env h).bind (kAnd c env b) := by rw [ev]; congr 1; funext p; exact tru_opt
theorem e_or {a b : E} : ev c (.or a b) env h = (ev c a env h).bind (kOr c env b) := by rw [ev]; congr 1; funext p; exact tru_opt
theorem e_not {a : E} : ev c (.not a) env h = (ev c a env h).bind kNot := by rw [ev]; rfl
theorem e_ite {t a b : E} : ev c (.ite t a b) env h = (ev c t env h).bind (kIte c env a b) := by rw [ev]; congr 1; funext p; exact tru_opt
theorem e_app {f : Ap} {es : Es} : ev c (.app f es) env h = (evs c es env h).bind (kApp f) := by rw [ev]; rfl
theorem e_meth {m : Mt} {a : E} {es : Es} : ev c (.meth m a es) env h = (ev c a env h).bind (kMeth c env m es) := by rw [ev]; rfl
theorem e_call {k : Nat} {es : Es} : ev c (.call k es) env h = (evs c es env h).bind (kCall c k) := by
  rw [ev]; congr 1; funext p; unfold callW kCall; congr 1; funext q; exact T.iff_if
theorem e_draw {i : Nat} {m : E} : ev c (.draw i m) env h = T.iff (boxS env[i]?) ((ev c m env h).bind kDrw) := by
  rw [ev]; congr 2; funext p
  obtain ⟨r, h⟩ := p
  cases r with
  | v x => cases x with
    | int i => exact T.iff_if
    | _ => rfl
  | _ => rfl
theorem e_rngL {t : Bool} {lo : Eo} {hi : E} : ev c (.rngL t lo hi) env h = (evo c lo env h).bind (kRl c env t hi) := by
  rw [ev]; congr 1; funext l; unfold kRl; congr 1; funext p; unfold kRl2; congr 1; funext j; exact T.iff_if
theorem rngR_t {xs : List Val} : rngR true xs = .v (.tup xs) := id rfl
theorem rngR_f {xs : List Val} : rngR false xs = .new xs := id rfl
theorem compL_co {tg : Tg} {own : List Nat} {cs : Es} {elt : E} : ∀ {xs : List Val} {h : Mem}, compL (fun x => tg.set x (wipeE env own)) (fun e h => evc c cs e h) (fun e h => ev c elt e h) xs h = compF (kCo c env cs elt tg own) xs h
  | [], h => rfl
  | x :: xs, h => by
    simp only [compL, compF, kCo, stC]
    cases tg.set x (wipeE env own) with
    | none => rfl
    | some env' =>
      simp only [T.opt_some, kCo0, T.bind_assoc]
      congr 1; funext p
      obtain ⟨b, m⟩ := p
      cases b with
      | true =>
        simp only [kCo1, if_true, T.bind_assoc]
        congr 1; funext q
        unfold kCo2
        cases q.1.store with
        | none => rfl
        | some y => simp only [T.opt_some, kCo3, T.ret_bind, compL_co]
      | false =>
        simp only [kCo1, Bool.false_eq_true, if_false, T.ret_bind, compL_co]
        generalize compF _ xs m = t
        induction t with
        | ret a => rfl
        | bad => rfl
        | draw m k ih => simp only [T.draw_bind]; congr 1; funext d; exact ih d
theorem compL_co2 {tg : Tg} {elt : E} : ∀ {xs : List Val} {h : Mem}, compL (fun x => tg.set x env) (fun _ h => .ret (true, h)) (fun e h => ev c elt e h) xs h = compF (fun x h => T.opt (tg.set x env) (kCo0 c .nil elt h)) xs h
  | [], h => rfl
  | x :: xs, h => by
    simp only [compL, compF]
    cases tg.set x env with
    | none => rfl
    | some env' =>
      simp only [T.opt_some, kCo0, evc, T.ret_bind, kCo1, if_true, T.bind_assoc]
      congr 1; funext q
      unfold kCo2
      cases q.1.store with
      | none => rfl
      | some y => simp only [T.opt_some, kCo3, T.ret_bind, compL_co2]
theorem e_comp {elt : E} {tg : Tg} {it : It} {cs : Es} {own : List Nat} : ev c (.comp elt tg it cs own) env h = T.iff (noOwn env own) ((evit c true it env h).bind (kComp c env elt tg cs own)) := by
  rw [ev]; congr 2; funext p
  rw [compL_co]; rfl
theorem compL2_do {elt : E} {tg tg2 : Tg} {it2 : It} {own : List Nat} : ∀ {xs : List Val} {h : Mem}, compL2 (fun x => tg.set x (wipeE env own)) (fun e h => (evit c true it2 e h).bind fun p2 => compL (fun x => tg2.set x e) (fun _ h => .ret (true, h)) (fun e h => ev c elt e h) p2.1 p2.2) xs h = (compF (kDo c env elt tg tg2 it2 own) xs h).bind kFlat
  | [], h => rfl
  | x :: xs, h => by
    simp only [compL2, compF, kDo, stC]
    cases tg.set x (wipeE env own) with
    | none => rfl
    | some env' =>
      simp only [T.opt_some, kDo1, kDo2, kDo3, T.bind_assoc, T.ret_bind, compL2_do, kFlat, List.flatten_cons]
      simp only [compL_co2]
theorem e_comp2 {elt : E} {tg tg2 : Tg} {it it2 : It} {own : List Nat} : ev c (.comp2 elt tg it tg2 it2 own) env h = T.iff (noOwn env own) ((evit c true it env h).bind (kComp2 c env elt tg tg2 it2 own)) := by
  rw [ev]; congr 2; funext p
  rw [compL2_do]; unfold kComp2; congr 1; funext q
  rw [T.iff_if]; simp only [decide_eq_true_eq]; rfl
theorem e_nil : evs c .nil env h = .ret ([], h) := by rw [evs]
theorem e_cons {e : E} {es : Es} : evs c (.cons e es) env h = (ev c e env h).bind (kArg c env es) := by rw [evs]; rfl
theorem e_tnil : evc c .nil env h = .ret (true, h) := by rw [evc]
theorem e_tcons {e : E} {es : Es} : evc c (.cons e es) env h = (ev c e env h).bind (kTst c env es) := by rw [evc]; congr 1; funext p; exact tru_opt
theorem e_no : evo c .no env h = .ret (none, h) := by rw [evo]
theorem e_so {e : E} : evo c (.so e) env h = (ev c e env h).bind kEo := by rw [evo]; rfl
section
variable {b : Bool}
theorem e_seq {e : E} : evit c b (.seq e) env h = (ev c e env h).bind (kSeq b) := by rw [evit]; rfl
theorem e_rng1 {e : E} : evit c b (.rng1 e) env h = (ev c e env h).bind kRng := by
  rw [evit]; congr 1; funext p; unfold kRng; congr 1; funext i; exact T.iff_if
theorem e_rng2 {e d : E} : evit c b (.rng2 e d) env h = (ev c e env h).bind (kRn c env d) := by
  rw [evit]; congr 1; funext p; unfold kRn; congr 1; funext q; unfold kRn2; congr 1; funext i; congr 1; funext j; exact T.iff_if
theorem e_enum {e : E} : evit c b (.enum e) env h = (ev c e env h).bind (kEnum b) := by rw [evit]; rfl
theorem e_zip {e d : E} : evit c b (.zip e d) env h = (ev c e env h).bind (kZip c env b d) := by rw [evit]; rfl
end
theorem s_nil : exs c .nil env h = .ret (.next, env, h) := by rw [exs]
theorem s_cons {s : S} {r : Ss} : exs c (.cons s r) env h = (ex c s env h).bind (kThen c r) := by
  rw [exs]; congr 1; funext o
  obtain ⟨f, e, m⟩ := o
  cases f <;> rfl
theorem s_asg {t : Tg} {e : E} : ex c (.asg t e) env h = (ev c e env h).bind (kAsg env t) := by rw [ex]; rfl
theorem s_par {is : List Nat} {es : Es} : ex c (.par is es) env h = (evs c es env h).bind (kPar env is) := by rw [ex]; rfl
theorem s_ret {e : E} : ex c (.ret e) env h = (ev c e env h).bind (kRet env) := by rw [ex]; rfl
theorem s_retOwn {i : Nat} : ex c (.retOwn i) env h = T.opt (ownS env i) fun xs => .ret (.ret (.new xs), env, h) := by rw [ex]
theorem s_retN : ex c .retN env h = .ret (.ret (.v .non), env, h) := by rw [ex]
theorem s_if {t : E} {a b : Ss} : ex c (.ite t a b) env h = (ev c t env h).bind (kIf c env a b) := by rw [ex]; congr 1; funext p; exact tru_opt
theorem s_for {t : Tg} {it : It} {b : Ss} : ex c (.for t it b) env h = (evit c false it env h).bind (kFor c env t b) := by rw [ex]; rfl
theorem s_while {t : E} {b : Ss} : ex c (.while t b) env h = whileL (evK c t) (bodyK c b) c.W env h := by rw [ex]; rfl
theorem s_append {i : Nat} {e : E} : ex c (.append i e) env h = (ev c e env h).bind (kApnd env i) := by
  rw [ex]; congr 1; funext p; unfold kApnd; congr 1; funext xs; congr 1; funext x; exact T.iff_if
theorem s_extend {i : Nat} {e : E} : ex c (.extend i e) env h = (ev c e env h).bind (kExt env i) := by
  rw [ex]; congr 1; funext p; unfold kExt; congr 1; funext xs; congr 1; funext x; exact T.iff_if
theorem s_setIdx {i : Nat} {k e : E} : ex c (.setIdx i k e) env h = (ev c e env h).bind (kSet c env i k) := by rw [ex]; rfl
theorem s_popAt {i j : Nat} {e : Eo} : ex c (.popAt i j e) env h = (evo c e env h).bind (kPop env i j) := by rw [ex]; rfl
theorem s_popPar {i i2 j : Nat} {e e2 : E} : ex c (.popPar i i2 j e e2) env h = (ev c e env h).bind (kPopP c env i i2 j e2) := by rw [ex]; rfl
theorem s_insert {i : Nat} {k e : E} : ex c (.insert i k e) env h = (ev c k env h).bind (kIns c env i e) := by
  rw [ex]; congr 1; funext q; unfold kIns; congr 1; funext p; unfold kIns2; congr 1; funext xs; congr 1; funext n; congr 1; funext x; exact T.iff_if
theorem s_aug {i : Nat} {o : Bn} {e : E} : ex c (.aug i o e) env h = T.opt (loadS env[i]?) (kAug0 c env i o e h) := by rw [ex]; rfl
theorem s_augIdx {i : Nat} {k : E} {o : Bn} {e : E} : ex c (.augIdx i k o e) env h = (ev c k env h).bind (kAugI c env i o e) := by rw [ex]; rfl
theorem s_freeze {i : Nat} : ex c (.freeze i) env h = .ret (.next, frz env i (ownS env i), h) := by
  rw [ex]; cases ownS env i <;> rfl
theorem s_forget {is : List Nat} : ex c (.forget is) env h = .ret (.next, wipeE env is, h) := by rw [ex]
theorem e_memo : ev c .memo env h = .ret (.v (.ref 0), h) := by rw [ev]
theorem s_pass : ex c .pass env h = .ret (.next, env, h) := by rw [ex]
theorem s_brk : ex c .brk env h = .ret (.brk, env, h) := by rw [ex]
theorem s_cont : ex c .cont env h = .ret (.cont, env, h) := by rw [ex]
theorem then_next {r : Ss} : kThen c r (.next, env, h) = exs c r env h := id rfl
theorem then_ret {r : Ss} {v : Rv} : kThen c r (.ret v, env, h) = .ret (.ret v, env, h) := id rfl
theorem then_brk {r : Ss} : kThen c r (.brk, env, h) = .ret (.brk, env, h) := id rfl
theorem then_cont {r : Ss} : kThen c r (.cont, env, h) = .ret (.cont, env, h) := id rfl
theorem frz_some {i : Nat} {xs : List Val} : frz env i (some xs) = List.set env i (.val (.lst xs)) := id rfl
theorem frz_none {i : Nat} : frz env i none = env := id rfl
theorem blO_bl {b : Bool} : blO (.v (.bl b)) = some b := id rfl
end
theorem kTup_eq {p1 : List Rv} {p2 : Mem} : kTup (p1, p2) = T.opt (stores p1) fun xs => .ret (.v (.tup xs), p2) := id rfl
theorem kList_eq {p1 : List Rv} {p2 : Mem} : kList (p1, p2) = T.opt (stores p1) fun xs => .ret (.new xs, p2) := id rfl
theorem kUn_eq {u : Un} {p1 : Rv} {p2 : Mem} : kUn u (p1, p2) = T.opt (u.ap p1) fun r => .ret (r, p2) := id rfl
theorem kBin2_eq {o : Bn} {r : Rv} {q1 : Rv} {q2 : Mem} : kBin2 o r (q1, q2) = T.opt (o.ap r q1) fun r => .ret (r, q2) := id rfl
theorem kBin_eq {c : Ctx} {env : Env} {o : Bn} {b : E} {p1 : Rv} {p2 : Mem} : kBin c env o b (p1, p2) = (ev c b env p2).bind (kBin2 o p1) := id rfl
theorem kCh4_eq {c : Ctx} {env : Env} {o' : Bn} {d : E} {r : Rv} {h : Mem} {b : Bool} : kCh4 c env o' d r h b = if b = true then (ev c d env h).bind (kBin2 o' r) else .ret (.v (.bl false), h) := id rfl
theorem kCh3_eq {c : Ctx} {env : Env} {o' : Bn} {d : E} {q : Rv} {h : Mem} {r : Rv} : kCh3 c env o' d q h r = T.opt (blO r) (kCh4 c env o' d q h) := id rfl
theorem kCh2_eq {c : Ctx} {env : Env} {o : Bn} {o' : Bn} {d : E} {r : Rv} {q1 : Rv} {q2 : Mem} : kCh2 c env o o' d r (q1, q2) = T.opt (o.ap r q1) (kCh3 c env o' d q1 q2) := id rfl
theorem kCh_eq {c : Ctx} {env : Env} {o : Bn} {b : E} {o' : Bn} {d : E} {p1 : Rv} {p2 : Mem} : kCh c env o b o' d (p1, p2) = (ev c b env p2).bind (kCh2 c env o o' d p1) := id rfl
theorem kSlc3_eq {r : Rv} {l : Option Int} {u1 : Option Int} {u2 : Mem} : kSlc3 r l (u1, u2) = T.opt (slice r l u1) fun r => .ret (r, u2) := id rfl
theorem kSlc2_eq {c : Ctx} {env : Env} {hi : Eo} {r : Rv} {l1 : Option Int} {l2 : Mem} : kSlc2 c env hi r (l1, l2) = (evo c hi env l2).bind (kSlc3 r l1) := id rfl
theorem kSlc_eq {c : Ctx} {env : Env} {lo : Eo} {hi : Eo} {p1 : Rv} {p2 : Mem} : kSlc c env lo hi (p1, p2) = (evo c lo env p2).bind (kSlc2 c env hi p1) := id rfl
theorem kAnd2_eq {c : Ctx} {env : Env} {b : E} {p : Rv × Mem} {t : Bool} : kAnd2 c env b p t = if t = true then ev c b env p.2 else .ret p := id rfl
theorem kAnd_eq {c : Ctx} {env : Env} {b : E} {p1 : Rv} {p2 : Mem} : kAnd c env b (p1, p2) = T.opt p1.truth (kAnd2 c env b (p1, p2)) := id rfl
theorem kOr2_eq {c : Ctx} {env : Env} {b : E} {p : Rv × Mem} {t : Bool} : kOr2 c env b p t = if t = true then .ret p else ev c b env p.2 := id rfl
theorem kOr_eq {c : Ctx} {env : Env} {b : E} {p1 : Rv} {p2 : Mem} : kOr c env b (p1, p2) = T.opt p1.truth (kOr2 c env b (p1, p2)) := id rfl
theorem kNot_eq {p1 : Rv} {p2 : Mem} : kNot (p1, p2) = T.opt p1.truth fun t => .ret (.v (.bl (!t)), p2) := id rfl
theorem kIte2_eq {c : Ctx} {env : Env} {a : E} {b : E} {h : Mem} {t : Bool} : kIte2 c env a b h t = if t = true then ev c a env h else ev c b env h := id rfl
theorem kIte_eq {c : Ctx} {env : Env} {a : E} {b : E} {p1 : Rv} {p2 : Mem} : kIte c env a b (p1, p2) = T.opt p1.truth (kIte2 c env a b p2) := id rfl
theorem kApp_eq {f : Ap} {p1 : List Rv} {p2 : Mem} : kApp f (p1, p2) = T.opt (f.ap p1) fun r => .ret (r, p2) := id rfl
theorem kMeth2_eq {m : Mt} {r : Rv} {q1 : List Rv} {q2 : Mem} : kMeth2 m r (q1, q2) = T.opt (m.ap r q1) fun r => .ret (r, q2) := id rfl
theorem kMeth_eq {c : Ctx} {env : Env} {m : Mt} {es : Es} {p1 : Rv} {p2 : Mem} : kMeth c env m es (p1, p2) = (evs c es env p2).bind (kMeth2 m p1) := id rfl
theorem kCall2_eq {vw : Bool} {p1 : Rv} {p2 : Mem} : kCall2 vw (p1, p2) = if (!vw || p1.noLst) = true then .ret (p1, p2) else .bad := id rfl
theorem kCall_eq {c : Ctx} {k : Nat} {p1 : List Rv} {p2 : Mem} : kCall c k (p1, p2) = (c.C k (p1.map Rv.arg) p2).bind (kCall2 (p1.any Rv.isVw)) := id rfl
theorem kDrw2_eq {h : Mem} {d : Int} : kDrw2 h d = .ret (.v (.int d), h) := id rfl
theorem kDrw_eq {p1 : Rv} {p2 : Mem} : kDrw (p1, p2) = T.opt (optI p1) fun m => if (decide (0 < m) && decide (m < 1073741824)) = true then .draw m (kDrw2 p2) else .bad := id rfl
theorem kRl2_eq {t : Bool} {l : Option Int} {p1 : Rv} {p2 : Mem} : kRl2 t l (p1, p2) = T.opt (optI p1) fun j => if (smallI (l.getD 0) && smallI j) = true then .ret (rngR t (rngF (j - l.getD 0).toNat (l.getD 0)), p2) else .bad := id rfl
theorem kRl_eq {c : Ctx} {env : Env} {t : Bool} {hi : E} {l1 : Option Int} {l2 : Mem} : kRl c env t hi (l1, l2) = (ev c hi env l2).bind (kRl2 t l1) := id rfl
theorem kNew_eq {q1 : List Val} {q2 : Mem} : kNew (q1, q2) = .ret (.new q1, q2) := id rfl
theorem kNewZ_eq {q1 : List Val} {q2 : Mem} : kNewZ (q1, q2) = if q1.length ≤ sizeMax then .ret (.new q1, q2) else .bad := id rfl
theorem stC_eq {env : Env} {tg : Tg} {own : List Nat} {x : Val} : stC env tg own x = tg.set x (wipeE env own) := id rfl
theorem evK_eq {c : Ctx} {e : E} {env : Env} {h : Mem} : evK c e env h = ev c e env h := id rfl
theorem evcK_eq {c : Ctx} {cs : Es} {env : Env} {h : Mem} : evcK c cs env h = evc c cs env h := id rfl
theorem kCo3_eq {h : Mem} {y : Val} : kCo3 h y = .ret (some y, h) := id rfl
theorem kCo2_eq {q1 : Rv} {q2 : Mem} : kCo2 (q1, q2) = T.opt q1.store (kCo3 q2) := id rfl
theorem kCo1_eq {c : Ctx} {elt : E} {env : Env} {p1 : Bool} {p2 : Mem} : kCo1 c elt env (p1, p2) = if p1 = true then (ev c elt env p2).bind kCo2 else .ret (none, p2) := id rfl
theorem kCo0_eq {c : Ctx} {cs : Es} {elt : E} {h : Mem} {env : Env} : kCo0 c cs elt h env = (evc c cs env h).bind (kCo1 c elt env) := id rfl
theorem kCo_eq {c : Ctx} {env : Env} {cs : Es} {elt : E} {tg : Tg} {own : List Nat} {x : Val} {h : Mem} : kCo c env cs elt tg own x h = T.opt (stC env tg own x) (kCo0 c cs elt h) := id rfl
theorem kComp_eq {c : Ctx} {env : Env} {elt : E} {tg : Tg} {cs : Es} {own : List Nat} {p1 : List Val} {p2 : Mem} : kComp c env elt tg cs own (p1, p2) = (compF (kCo c env cs elt tg own) p1 p2).bind kNew := id rfl
theorem kDo3_eq {q1 : List Val} {q2 : Mem} : kDo3 (q1, q2) = .ret (some q1, q2) := id rfl
theorem kDo2_eq {c : Ctx} {elt : E} {tg2 : Tg} {env : Env} {p1 : List Val} {p2 : Mem} : kDo2 c elt tg2 env (p1, p2) = (compF (fun x h => T.opt (tg2.set x env) (kCo0 c .nil elt h)) p1 p2).bind kDo3 := id rfl
theorem kDo1_eq {c : Ctx} {elt : E} {tg2 : Tg} {it2 : It} {h : Mem} {env : Env} : kDo1 c elt tg2 it2 h env = (evit c true it2 env h).bind (kDo2 c elt tg2 env) := id rfl
theorem kDo_eq {c : Ctx} {env : Env} {elt : E} {tg : Tg} {tg2 : Tg} {it2 : It} {own : List Nat} {x : Val} {h : Mem} : kDo c env elt tg tg2 it2 own x h = T.opt (stC env tg own x) (kDo1 c elt tg2 it2 h) := id rfl
theorem kFlat_eq {r1 : List (List Val)} {r2 : Mem} : kFlat (r1, r2) = .ret (r1.flatten, r2) := id rfl
theorem kComp2_eq {c : Ctx} {env : Env} {elt : E} {tg : Tg} {tg2 : Tg} {it2 : It} {own : List Nat} {p1 : List Val} {p2 : Mem} : kComp2 c env elt tg tg2 it2 own (p1, p2) = ((compF (kDo c env elt tg tg2 it2 own) p1 p2).bind kFlat).bind kNewZ := id rfl
theorem kArg2_eq {r : Rv} {q1 : List Rv} {q2 : Mem} : kArg2 r (q1, q2) = .ret (r :: q1, q2) := id rfl
theorem kArg_eq {c : Ctx} {env : Env} {es : Es} {p1 : Rv} {p2 : Mem} : kArg c env es (p1, p2) = (evs c es env p2).bind (kArg2 p1) := id rfl
theorem kTst2_eq {c : Ctx} {env : Env} {es : Es} {h : Mem} {t : Bool} : kTst2 c env es h t = if t = true then evc c es env h else .ret (false, h) := id rfl
theorem kTst_eq {c : Ctx} {env : Env} {es : Es} {p1 : Rv} {p2 : Mem} : kTst c env es (p1, p2) = T.opt p1.truth (kTst2 c env es p2) := id rfl
theorem kEo_eq {p1 : Rv} {p2 : Mem} : kEo (p1, p2) = T.opt (optI p1) fun i => .ret (some i, p2) := id rfl
theorem kSeq_eq {b : Bool} {p1 : Rv} {p2 : Mem} : kSeq b (p1, p2) = T.opt (optT b p1) fun xs => .ret (xs, p2) := id rfl
theorem kRng_eq {p1 : Rv} {p2 : Mem} : kRng (p1, p2) = T.opt (optI p1) fun i => if smallI i = true then .ret (rngF i.toNat 0, p2) else .bad := id rfl
theorem kRn2_eq {r : Rv} {q1 : Rv} {q2 : Mem} : kRn2 r (q1, q2) = T.opt (optI r) fun i => T.opt (optI q1) fun j => if (smallI i && smallI j) = true then .ret (rngF (j - i).toNat i, q2) else .bad := id rfl
theorem kRn_eq {c : Ctx} {env : Env} {d : E} {p1 : Rv} {p2 : Mem} : kRn c env d (p1, p2) = (ev c d env p2).bind (kRn2 p1) := id rfl
theorem kEnum_eq {b : Bool} {p1 : Rv} {p2 : Mem} : kEnum b (p1, p2) = T.opt (optT b p1) fun xs => .ret (enumF 0 xs, p2) := id rfl
theorem kZip2_eq {b : Bool} {r : Rv} {q1 : Rv} {q2 : Mem} : kZip2 b r (q1, q2) = T.opt (optT b r) fun xs => T.opt (optT b q1) fun ys => .ret (zipF xs ys, q2) := id rfl
theorem kZip_eq {c : Ctx} {env : Env} {b : Bool} {d : E} {p1 : Rv} {p2 : Mem} : kZip c env b d (p1, p2) = (ev c d env p2).bind (kZip2 b p1) := id rfl
theorem kNxt_eq {h : Mem} {e : Env} : kNxt h e = .ret (.next, e, h) := id rfl
theorem kAsg_eq {env : Env} {t : Tg} {p1 : Rv} {p2 : Mem} : kAsg env t (p1, p2) = T.opt (asgS t p1 env) (kNxt p2) := id rfl
theorem kPar_eq {env : Env} {is : List Nat} {p1 : List Rv} {p2 : Mem} : kPar env is (p1, p2) = T.opt (bindSs env is p1) (kNxt p2) := id rfl
theorem kRet_eq {env : Env} {p1 : Rv} {p2 : Mem} : kRet env (p1, p2) = T.opt (outV p1) fun r => .ret (.ret r, env, p2) := id rfl
theorem kIf2_eq {c : Ctx} {env : Env} {a : Ss} {b : Ss} {h : Mem} {t : Bool} : kIf2 c env a b h t = if t = true then exs c a env h else exs c b env h := id rfl
theorem kIf_eq {c : Ctx} {env : Env} {a : Ss} {b : Ss} {p1 : Rv} {p2 : Mem} : kIf c env a b (p1, p2) = T.opt p1.truth (kIf2 c env a b p2) := id rfl
theorem setT_eq {t : Tg} {x : Val} {e : Env} : setT t x e = t.set x e := id rfl
theorem bodyK_eq {c : Ctx} {b : Ss} {e : Env} {h : Mem} : bodyK c b e h = exs c b e h := id rfl
theorem kFor_eq {c : Ctx} {env : Env} {t : Tg} {b : Ss} {p1 : List Val} {p2 : Mem} : kFor c env t b (p1, p2) = forL (setT t) (bodyK c b) p1 env p2 := id rfl
theorem kApnd_eq {env : Env} {i : Nat} {p1 : Rv} {p2 : Mem} : kApnd env i (p1, p2) = T.opt (ownS env i) fun xs => T.opt p1.store fun x => if shortL xs 1 = true then .ret (.next, List.set env i (.own (.l (xs ++ [x]))), p2) else .bad := id rfl
theorem kExt_eq {env : Env} {i : Nat} {p1 : Rv} {p2 : Mem} : kExt env i (p1, p2) = T.opt (ownS env i) fun xs => T.opt p1.lst fun ys => if shortL xs ys.length = true then .ret (.next, List.set env i (.own (.l (xs ++ ys))), p2) else .bad := id rfl
theorem kSet2_eq {env : Env} {i : Nat} {r : Rv} {q1 : Rv} {q2 : Mem} : kSet2 env i r (q1, q2) = T.opt (ownS env i) fun xs => T.opt (optI q1) fun n => T.opt r.store fun x => T.opt (place xs.length n) fun j => .ret (.next, List.set env i (.own (.l (xs.set j x))), q2) := id rfl
theorem kSet_eq {c : Ctx} {env : Env} {i : Nat} {k : E} {p1 : Rv} {p2 : Mem} : kSet c env i k (p1, p2) = (ev c k env p2).bind (kSet2 env i p1) := id rfl
theorem kPop_eq {env : Env} {i : Nat} {j : Nat} {p1 : Option Int} {p2 : Mem} : kPop env i j (p1, p2) = T.opt (ownS env j) fun xs => T.opt (place xs.length (p1.getD (-1))) fun k => T.opt xs[k]? fun x => T.opt (bindS (List.set env j (.own (.l (xs.eraseIdx k)))) i (.v x)) (kNxt p2) := id rfl
theorem kPopP4_eq {is : List Nat} {x : Val} {env' : Env} {q1 : Rv} {q2 : Mem} : kPopP4 is x env' (q1, q2) = T.opt (bindSs env' is [.v x, q1]) (kNxt q2) := id rfl
theorem kPopP3_eq {c : Ctx} {env : Env} {i : Nat} {i2 : Nat} {j : Nat} {e2 : E} {h : Mem} {xs : List Val} {k : Nat} {x : Val} : kPopP3 c env i i2 j e2 h xs k x = (ev c e2 (List.set env j (.own (.l (xs.eraseIdx k)))) h).bind (kPopP4 [i, i2] x (List.set env j (.own (.l (xs.eraseIdx k))))) := id rfl
theorem kPopP2_eq {c : Ctx} {env : Env} {i : Nat} {i2 : Nat} {j : Nat} {e2 : E} {h : Mem} {xs : List Val} {k : Nat} : kPopP2 c env i i2 j e2 h xs k = T.opt xs[k]? (kPopP3 c env i i2 j e2 h xs k) := id rfl
theorem kPopP_eq {c : Ctx} {env : Env} {i : Nat} {i2 : Nat} {j : Nat} {e2 : E} {p1 : Rv} {p2 : Mem} : kPopP c env i i2 j e2 (p1, p2) = T.opt (ownS env j) fun xs => T.opt (optI p1) fun n => T.opt (place xs.length n) (kPopP2 c env i i2 j e2 p2 xs) := id rfl
theorem kIns2_eq {env : Env} {i : Nat} {r : Rv} {p1 : Rv} {p2 : Mem} : kIns2 env i r (p1, p2) = T.opt (ownS env i) fun xs => T.opt (optI r) fun n => T.opt p1.store fun x => if (decide (0 ≤ n) && smallI n && shortL xs 1) = true then .ret (.next, List.set env i (.own (.l (insertAt xs n x))), p2) else .bad := id rfl
theorem kIns_eq {c : Ctx} {env : Env} {i : Nat} {e : E} {q1 : Rv} {q2 : Mem} : kIns c env i e (q1, q2) = (ev c e env q2).bind (kIns2 env i q1) := id rfl
theorem kAug_eq {env : Env} {i : Nat} {o : Bn} {r : Rv} {p1 : Rv} {p2 : Mem} : kAug env i o r (p1, p2) = T.opt (augI o r p1) fun x => T.opt (bindS env i (.v x)) (kNxt p2) := id rfl
theorem kAug0_eq {c : Ctx} {env : Env} {i : Nat} {o : Bn} {e : E} {h : Mem} {r : Rv} : kAug0 c env i o e h r = (ev c e env h).bind (kAug env i o r) := id rfl
theorem kAugI3_eq {env : Env} {i : Nat} {j : Nat} {o : Bn} {xs : List Val} {x : Val} {p1 : Rv} {p2 : Mem} : kAugI3 env i j o xs x (p1, p2) = T.opt (augI o (.v x) p1) fun y => .ret (.next, List.set env i (.own (.l (xs.set j y))), p2) := id rfl
theorem kAugI2_eq {c : Ctx} {env : Env} {i : Nat} {j : Nat} {o : Bn} {e : E} {h : Mem} {xs : List Val} {x : Val} : kAugI2 c env i j o e h xs x = (ev c e env h).bind (kAugI3 env i j o xs x) := id rfl
theorem kAugI1_eq {c : Ctx} {env : Env} {i : Nat} {o : Bn} {e : E} {h : Mem} {xs : List Val} {j : Nat} : kAugI1 c env i o e h xs j = T.opt xs[j]? (kAugI2 c env i j o e h xs) := id rfl
theorem kAugI_eq {c : Ctx} {env : Env} {i : Nat} {o : Bn} {e : E} {q1 : Rv} {q2 : Mem} : kAugI c env i o e (q1, q2) = T.opt (ownS env i) fun xs => T.opt (optI q1) fun n => T.opt (place xs.length n) (kAugI1 c env i o e q2 xs) := id rfl
/-- items of enumerate -/
theorem enumF_map : ∀ (xs : List Val) (n : Nat), enumF n xs = (xs.zipIdx n).map fun p => .tup [.int p.2, p.1]
  | [], _ => rfl
  | x :: xs, n => by simp only [enumF, List.zipIdx_cons, List.map_cons, enumF_map xs (n + 1)]
theorem zipIdx_map' {α β : Type} (f : α → β) (xs : List α) (n : Nat) : (xs.map f).zipIdx n = (xs.zipIdx n).map fun p => (f p.1, p.2) := by
  rw [List.zipIdx_map]; rfl
theorem rngF_0 (n : Nat) : rngF n 0 = (List.range n).map fun i => Val.int (i : Nat) := by
  rw [rngF_map]
  congr 1; funext i
  rw [Int.zero_add]
/-- a loop's run with a state -/
theorem forL_fold {σ α : Type} {st : Val → Env → Option Env} {body : Env → Mem → T Out} (e : σ → Env) (v : α → Val) (step : σ → α → σ) : ∀ {ys : List α} {s : σ} {h : Mem},
    (∀ y ∈ ys, ∀ s, T.opt (st (v y) (e s)) (fun e1 => body e1 h) = .ret (.next, e (step s y), h)) → forL st body (ys.map v) (e s) h = .ret (.next, e (ys.foldl step s), h)
  | [], s, h, _ => rfl
  | y :: ys, s, h, hb => by
    have := hb y List.mem_cons_self s
    simp only [List.map_cons, forL, List.foldl_cons]
    cases hs : st (v y) (e s) with
    | none => rw [hs] at this; cases this
    | some e1 =>
      rw [hs] at this
      simp only [T.opt_some] at this ⊢
      rw [this]
      exact forL_fold e v step fun z m => hb z (List.mem_cons_of_mem _ m)
theorem getE_map {α β : Type} {f : α → β} {xs : List α} {i : Nat} : (xs.map f)[i]? = xs[i]?.map f := List.getElem?_map
theorem call_at {P : Prog} {n k : Nat} {args : List Val} {h : Mem} : P.call (n + 1) k args h = T.opt (P.F k) fun f => runFn (P.ctx n) f args h := id rfl
theorem call_fn {P : Prog} {n k : Nat} {args : List Val} {h : Mem} (f : Fn) (e : P.F k = some f) : P.call (n + 1) k args h = T.iff (args.length == f.np) ((exs (P.ctx n) f.body (args.map .val ++ List.replicate (f.ns - f.np) .emp) h).bind endF) := by
  rw [call_at, e]; rfl
theorem endF_next {e : Env} {h : Mem} : endF (.next, e, h) = .ret (.v .non, h) := id rfl
theorem endF_ret {r : Rv} {e : Env} {h : Mem} : endF (.ret r, e, h) = .ret (r, h) := id rfl
theorem go_cont {e : Env} {m : Mem} {a b d : Env → Mem → T Out} : Fl.go (.cont, e, m) a b d = b e m := id rfl
theorem go_brk {e : Env} {m : Mem} {a b d : Env → Mem → T Out} : Fl.go (.brk, e, m) a b d = d e m := id rfl
theorem go_ite {p : Prop} [Decidable p] {x y : Out} {a b d : Env → Mem → T Out} : Fl.go (if p then x else y) a b d = if p then Fl.go x a b d else Fl.go y a b d := by split <;> rfl
theorem place_nat {n d : Nat} (h : d < n) : place n (d : Int) = some d := place_at h
theorem callW_eq {c : Ctx} {k : Nat} {rs : List Rv} {h : Mem} : callW c k rs h = (c.C k (rs.map Rv.arg) h).bind fun p => T.iff (!rs.any Rv.isVw || p.1.noLst) (.ret p) := id rfl
theorem noLst_bl {b : Bool} : (Rv.v (.bl b)).noLst = true := id rfl
theorem noLst_int {b : Int} : (Rv.v (.int b)).noLst = true := id rfl
theorem noLst_str {b : List Nat} : (Rv.v (.str b)).noLst = true := id rfl
theorem noLst_non : (Rv.v .non).noLst = true := id rfl
theorem compF_rangeBy {β : Type} {s : Nat → Mem → T (Option β × Mem)} (g : Nat → β) {n : Nat} {h : Mem} (e : ∀ i, i < n → ∀ h, s i h = .ret (some (g i), h)) : compF s (List.range n) h = .ret ((List.range n).map g, h) := compF_by fun i m => e i (List.mem_range.mp m)
theorem compF_rangeP {β : Type} {s : Nat → Mem → T (Option β × Mem)} (p : Nat → Bool) (g : Nat → β) {n : Nat} {h : Mem} (e : ∀ i, i < n → ∀ h, s i h = if p i = true then .ret (some (g i), h) else .ret (none, h)) : compF s (List.range n) h = .ret (((List.range n).filter p).map g, h) := compF_byP p g fun i m => e i (List.mem_range.mp m)
theorem boolsOf_map {α : Type} (f : α → Bool) : ∀ xs : List α, boolsOf (xs.map fun x => Val.bl (f x)) = some (xs.map f)
  | [] => rfl
  | x :: xs => by simp [boolsOf, boolsOf_map f xs]
theorem intsOf_map {α : Type} (f : α → Int) : ∀ xs : List α, intsOf (xs.map fun x => Val.int (f x)) = some (xs.map f)
  | [] => rfl
  | x :: xs => by simp [intsOf, intsOf_map f xs]
theorem intsOf_id (xs : List Int) : intsOf (xs.map Val.int) = some xs := by simpa using intsOf_map (fun x => x) xs
theorem boolsOf_id (xs : List Bool) : boolsOf (xs.map Val.bl) = some xs := by simpa using boolsOf_map (fun x => x) xs
theorem flatMap_one {α β : Type} (f : α → β) (xs : List α) : (xs.flatMap fun x => [f x]) = xs.map f := by
  induction xs with
  | nil => rfl
  | cons x xs ih => rw [List.flatMap_cons, ih]; rfl
theorem foldl_one {α β : Type} (g : α → β) (xs : List α) (s : List β) : xs.foldl (fun s i => s ++ [g i]) s = s ++ xs.map g := by
  induction xs generalizing s with
  | nil => simp
  | cons x xs ih => rw [List.foldl_cons, ih]; simp
theorem foldl_pair {α β γ : Type} (f : α → List β) (g : α → List γ) : ∀ (xs : List α) (a : List β) (b : List γ), xs.foldl (fun (s : List β × List γ) d => (s.1 ++ f d, s.2 ++ g d)) (a, b) = (a ++ xs.flatMap f, b ++ xs.flatMap g)
  | [], a, b => by simp
  | x :: xs, a, b => by simp [foldl_pair f g xs, List.append_assoc]
theorem any_id {α : Type} (f : α → Bool) (xs : List α) : (xs.map f).any id = xs.any f := by rw [List.any_map]; rfl
theorem all_id {α : Type} (f : α → Bool) (xs : List α) : (xs.map f).all id = xs.all f := by rw [List.all_map]; rfl
theorem idx_tupN {xs : List Val} {d : Nat} (h : d < xs.length) : idxV (.v (.tup xs)) (.v (.int (d : Nat))) = some (.v xs[d]) := idx_tup (List.getElem?_eq_getElem h)
theorem idx_lstN {xs : List Val} {d : Nat} (h : d < xs.length) : idxV (.v (.lst xs)) (.v (.int (d : Nat))) = some (.v xs[d]) := idx_lst (List.getElem?_eq_getElem h)
theorem small_nat {n : Nat} (h : n < 1000000) : smallI (n : Int) = true := by
  unfold smallI
  rw [Bool.and_eq_true, decide_eq_true_eq, decide_eq_true_eq]
  omega
theorem decide_b {b : Bool} : decide (b = true) = b := by cases b <;> rfl
theorem cut_take {α : Type} (xs : List α) (n : Nat) : cut xs none (some (n : Int)) = xs.take n := by
  unfold cut bound
  dsimp only
  rw [if_neg (by omega)]
  simp only [Int.toNat_natCast, Nat.sub_zero, List.drop_zero]
  rcases Nat.le_total n xs.length with h | h
  · rw [Nat.min_eq_left h]
  · rw [Nat.min_eq_right h, List.take_length, List.take_of_length_le h]
theorem cut_drop {α : Type} (xs : List α) (n : Nat) : cut xs (some (n : Int)) none = xs.drop n := by
  unfold cut bound
  dsimp only
  rw [if_neg (by omega)]
  simp only [Int.toNat_natCast]
  rcases Nat.le_total n xs.length with h | h
  · rw [Nat.min_eq_left h, List.take_of_length_le (by rw [List.length_drop]; omega)]
  · rw [Nat.min_eq_right h, List.drop_of_length_le h, List.drop_length]
    simp
theorem set_cut {α : Type} (xs : List α) (i : Nat) (x : α) (h : i < xs.length) : (xs.take i ++ [x]) ++ xs.drop (i + 1) = xs.set i x := by
  rw [List.set_eq_take_append_cons_drop, if_pos h]
  simp
theorem cast_succ {j : Nat} : ((j : Int) + 1) = ((j + 1 : Nat) : Int) := by omega
theorem range_get {α β : Type} (xs : List α) (g : Nat → β) (f : α → β) (h : ∀ i (hi : i < xs.length), g i = f xs[i]) : (List.range xs.length).map g = xs.map f := range_map f g xs fun i x e => by
  obtain ⟨hi, e⟩ := List.getElem?_eq_some_iff.mp e
  rw [h i hi, e]
mutual
theorem Val.eq_refl : ∀ (n : Nat) (v : Val), Val.plain n v = true → v.eq v = true
  | _, .non, _ => rfl
  | _, .bl b, _ => by simp [Val.eq]
  | _, .int i, _ => by simp [Val.eq]
  | _, .str s, _ => by simp [Val.eq]
  | n + 1, .tup xs, h => by
    simp only [Val.eq]; exact Val.eqs_refl n xs (by simpa only [Val.plain] using h)
  | n + 1, .lst xs, h => by
    simp only [Val.eq]; exact Val.eqs_refl n xs (by simpa only [Val.plain] using h)
  | 0, .tup xs, h => by simp [Val.plain] at h
  | 0, .lst xs, h => by simp [Val.plain] at h
  | 0, .ref _, h => by simp [Val.plain] at h
  | n + 1, .ref _, h => by simp [Val.plain] at h
  | 0, .box, h => by simp [Val.plain] at h
  | n + 1, .box, h => by simp [Val.plain] at h
  | 0, .fn _, h => by simp [Val.plain] at h
  | n + 1, .fn _, h => by simp [Val.plain] at h
theorem Val.eqs_refl : ∀ (n : Nat) (xs : List Val), Val.plains n xs = true → Val.eqs xs xs = true
  | _, [], _ => rfl
  | n, x :: xs, h => by
    simp only [Val.plains, Bool.and_eq_true] at h
    simp only [Val.eqs, Val.eq_refl n x h.1, Val.eqs_refl n xs h.2, Bool.and_self]
end
theorem plains_iff {n : Nat} : ∀ {xs : List Val}, Val.plains n xs = true ↔ ∀ x ∈ xs, Val.plain n x = true
  | [] => by simp [Val.plains]
  | x :: xs => by simp [Val.plains, plains_iff (xs := xs)]
theorem ite_and' {α : Type} {b c : Bool} {x y : α} : (if b = true then (if c = true then x else y) else y) = if (b && c) = true then x else y := by cases b <;> rfl
theorem ite_or' {α : Type} {b c : Bool} {x y : α} : (if b = true then x else (if c = true then x else y)) = if (b || c) = true then x else y := by cases b <;> rfl
theorem ret_and {b c : Bool} {h : Mem} : (if b = true then T.ret (Rv.v (.bl c), h) else .ret (.v (.bl false), h)) = .ret (.v (.bl (b && c)), h) := by cases b <;> rfl
theorem ret_or {b c : Bool} {h : Mem} : (if b = true then T.ret (Rv.v (.bl true), h) else .ret (.v (.bl c), h)) = .ret (.v (.bl (b || c)), h) := by cases b <;> rfl
theorem ret_if {b x y : Bool} {h : Mem} : (if b = true then T.ret (Rv.v (.bl x), h) else .ret (.v (.bl y), h)) = .ret (.v (.bl (if b = true then x else y)), h) := by cases b <;> rfl
theorem ret_ifv {b : Bool} {x y : Val} {h : Mem} : (if b = true then T.ret (Rv.v x, h) else .ret (.v y, h)) = .ret (.v (if b = true then x else y), h) := by cases b <;> rfl
theorem ret_some_if {α : Type} {c : Prop} [Decidable c] {x y : α} {h : Mem} : (if c then T.ret ((some x, h) : Option α × Mem) else .ret (some y, h)) = .ret (some (if c then x else y), h) := by split <;> rfl
theorem kAnd_bl {c : Ctx} {env : Env} {b : E} {t : Bool} {h : Mem} : kAnd c env b (.v (.bl t), h) = if t = true then ev c b env h else .ret (.v (.bl false), h) := by cases t <;> rfl
theorem kOr_bl {c : Ctx} {env : Env} {b : E} {t : Bool} {h : Mem} : kOr c env b (.v (.bl t), h) = if t = true then .ret (.v (.bl true), h) else ev c b env h := by cases t <;> rfl
theorem chain_bl {c : Ctx} {env : Env} {o' : Bn} {d : E} {r : Rv} {b : Bool} {h : Mem} : kCh4 c env o' d r h b = if b = true then (ev c d env h).bind (kBin2 o' r) else .ret (.v (.bl false), h) := id rfl
mutual
/-- plain, no list longer than a million -/
def Val.std : Nat → Val → Bool
  | _, .non => true
  | _, .bl _ => true
  | _, .int _ => true
  | _, .str s => s.all (· < 55296)
  | n + 1, .tup xs => decide (xs.length < 1000000) && Val.stds n xs
  | n + 1, .lst xs => decide (xs.length < 1000000) && Val.stds n xs
  | _, _ => false
def Val.stds : Nat → List Val → Bool
  | _, [] => true
  | n, x :: xs => Val.std n x && Val.stds n xs
end
mutual
theorem Val.plain_std : ∀ (n : Nat) (v : Val), Val.std n v = true → Val.plain n v = true
  | _, .non, _ => by simp [Val.plain]
  | _, .bl b, _ => by simp [Val.plain]
  | _, .int i, _ => by simp [Val.plain]
  | _, .str s, h => by simp only [Val.std] at h; simp only [Val.plain]; exact h
  | n + 1, .tup xs, h => by
    simp only [Val.std, Bool.and_eq_true] at h
    simp only [Val.plain]; exact Val.plains_stds n xs h.2
  | n + 1, .lst xs, h => by
    simp only [Val.std, Bool.and_eq_true] at h
    simp only [Val.plain]; exact Val.plains_stds n xs h.2
  | 0, .tup xs, h => by simp [Val.std] at h
  | 0, .lst xs, h => by simp [Val.std] at h
  | 0, .ref _, h => by simp [Val.std] at h
  | n + 1, .ref _, h => by simp [Val.std] at h
  | 0, .box, h => by simp [Val.std] at h
  | n + 1, .box, h => by simp [Val.std] at h
  | 0, .fn _, h => by simp [Val.std] at h
  | n + 1, .fn _, h => by simp [Val.std] at h
theorem Val.plains_stds : ∀ (n : Nat) (xs : List Val), Val.stds n xs = true → Val.plains n xs = true
  | _, [], _ => by simp [Val.plains]
  | n, x :: xs, h => by
    simp only [Val.stds, Bool.and_eq_true] at h
    simp only [Val.plains, Val.plain_std n x h.1, Val.plains_stds n xs h.2, Bool.and_self]
end
theorem stds_iff {n : Nat} : ∀ {xs : List Val}, Val.stds n xs = true ↔ ∀ x ∈ xs, Val.std n x = true
  | [] => by simp [Val.stds]
  | x :: xs => by simp [Val.stds, stds_iff (xs := xs)]
mutual
theorem Val.plain_up : ∀ (n m : Nat) (v : Val), n ≤ m → Val.plain n v = true → Val.plain m v = true
  | _, _, .non, _, _ => by simp [Val.plain]
  | _, _, .bl b, _, _ => by simp [Val.plain]
  | _, _, .int i, _, _ => by simp [Val.plain]
  | _, _, .str s, _, h => by simp only [Val.plain] at h ⊢; exact h
  | n + 1, m + 1, .tup xs, l, h => by
    simp only [Val.plain] at h ⊢; exact Val.plains_up n m xs (Nat.le_of_succ_le_succ l) h
  | n + 1, m + 1, .lst xs, l, h => by
    simp only [Val.plain] at h ⊢; exact Val.plains_up n m xs (Nat.le_of_succ_le_succ l) h
  | n + 1, 0, .tup xs, l, h => by omega
  | n + 1, 0, .lst xs, l, h => by omega
  | 0, _, .tup xs, _, h => by simp [Val.plain] at h
  | 0, _, .lst xs, _, h => by simp [Val.plain] at h
  | 0, _, .ref _, _, h => by simp [Val.plain] at h
  | n + 1, _, .ref _, _, h => by simp [Val.plain] at h
  | 0, _, .box, _, h => by simp [Val.plain] at h
  | n + 1, _, .box, _, h => by simp [Val.plain] at h
  | 0, _, .fn _, _, h => by simp [Val.plain] at h
  | n + 1, _, .fn _, _, h => by simp [Val.plain] at h
theorem Val.plains_up : ∀ (n m : Nat) (xs : List Val), n ≤ m → Val.plains n xs = true → Val.plains m xs = true
  | _, _, [], _, _ => by simp [Val.plains]
  | n, m, x :: xs, l, h => by
    simp only [Val.plains, Bool.and_eq_true] at h
    simp only [Val.plains, Val.plain_up n m x l h.1, Val.plains_up n m xs l h.2, Bool.and_self]
end
theorem okP_of {n : Nat} {x y : Val} (hn : n ≤ 40) (h1 : Val.plain n x = true) (h2 : Val.plain n y = true) : okP x y = true := by
  unfold okP deepMax
  rw [Val.plain_up n 40 x hn h1, Val.plain_up n 40 y hn h2]; rfl
theorem eqV_refl {n : Nat} {x : Val} {b : Bool} (hn : n ≤ 40) (h1 : Val.plain n x = true) : eqV b (.v x) (.v x) = some (.v (.bl (!b))) := by
  unfold eqV
  simp only [Rv.arg, okP_of hn h1 h1, Val.eq_refl n x h1, if_true]
  cases b <;> rfl
theorem all_tt {α : Type} {xs : List α} : (xs.all fun _ => true) = true := by simp
theorem any_ff {α : Type} {xs : List α} : (xs.any fun _ => false) = false := by simp
theorem cut_take1 {α : Type} (xs : List α) : cut xs none (some 1) = xs.take 1 := cut_take xs 1
theorem cut_drop1 {α : Type} (xs : List α) : cut xs (some 1) none = xs.drop 1 := cut_drop xs 1
theorem cut_last {α : Type} (xs : List α) : cut xs none (some (-1)) = xs.dropLast := by
  unfold cut bound
  dsimp only
  rw [if_pos (by decide), List.dropLast_eq_take]
  simp only [Nat.sub_zero, List.drop_zero]
  congr 1
  omega
/-- is a tuple -/
def Val.its : Val → List Val | .tup xs => xs | _ => []
/-- is an int, no bool, in bounds -/
def Val.num (a b : Int) : Val → Bool | .int i => decide (a ≤ i) && decide (i ≤ b) | _ => false
def Val.isInt : Val → Bool | .int _ => true | .bl _ => true | _ => false
def Val.isBl : Val → Bool | .bl _ => true | _ => false
theorem isN_any {x : Val} : Un.ap .isN (.v x) = some (.v (.bl x.isNon)) := by cases x <;> rfl
theorem notN_any {x : Val} : Un.ap .notN (.v x) = some (.v (.bl (!x.isNon))) := by cases x <;> rfl
theorem isT_any {n : Nat} {x : Val} (h : Val.std n x = true) : Ap.ap (.isi .tuple) [.v x] = some (.v (.bl x.isTup)) := by
  cases x <;> first | rfl | (cases n <;> simp [Val.std] at h)
theorem isI_any {n : Nat} {x : Val} (h : Val.std n x = true) : Ap.ap (.isi .int) [.v x] = some (.v (.bl x.isInt)) := by
  cases x <;> first | rfl | (cases n <;> simp [Val.std] at h)
theorem isB_any {n : Nat} {x : Val} (h : Val.std n x = true) : Ap.ap (.isi .bool) [.v x] = some (.v (.bl x.isBl)) := by
  cases x <;> first | rfl | (cases n <;> simp [Val.std] at h)
theorem std_its {n : Nat} {x : Val} (h : Val.std n x = true) : ∀ y ∈ x.its, Val.std (n - 1) y = true := by
  cases x with
  | tup xs =>
    cases n with
    | zero => simp [Val.std] at h
    | succ n =>
      simp only [Val.std, Bool.and_eq_true] at h
      exact stds_iff.mp h.2
  | _ => intro y m; cases m
theorem tup_its {x : Val} (h : x.isTup = true) : x = .tup x.its := by cases x <;> first | rfl | cases h
mutual
/-- small: whole numbers below B, tuples of at most L items -/
def Val.fit (B L : Nat) : Nat → Val → Bool
  | _, .non => true
  | _, .bl _ => true
  | _, .int i => decide (i.natAbs < B)
  | _, .str s => s.all (· < 128) && decide (s.length ≤ L)
  | n + 1, .tup xs => decide (xs.length ≤ L) && Val.fits B L n xs
  | _, _ => false
def Val.fits (B L : Nat) : Nat → List Val → Bool
  | _, [] => true
  | n, x :: xs => Val.fit B L n x && Val.fits B L n xs
end
theorem fits_iff {B L n : Nat} : ∀ {xs : List Val}, Val.fits B L n xs = true ↔ ∀ x ∈ xs, Val.fit B L n x = true
  | [] => by simp [Val.fits]
  | x :: xs => by simp [Val.fits, fits_iff (xs := xs)]
theorem fit_mono {B L B' L' : Nat} (hB : B ≤ B') (hL : L ≤ L') : ∀ {n n' : Nat} {v : Val}, n ≤ n' → Val.fit B L n v = true → Val.fit B' L' n' v = true := fun {n} => by
  induction n with
  | zero =>
    intro n' v hn h
    cases v with
    | int i => simp only [Val.fit, decide_eq_true_eq] at h ⊢; omega
    | str s =>
      simp only [Val.fit, Bool.and_eq_true, decide_eq_true_eq] at h ⊢
      exact ⟨h.1, by omega⟩
    | non => simp [Val.fit]
    | bl b => simp [Val.fit]
    | tup xs => simp [Val.fit] at h
    | _ => simp [Val.fit] at h
  | succ n ih =>
    intro n' v hn h
    obtain ⟨m, rfl⟩ : ∃ m, n' = m + 1 := ⟨n' - 1, by omega⟩
    cases v with
    | int i => simp only [Val.fit, decide_eq_true_eq] at h ⊢; omega
    | str s =>
      simp only [Val.fit, Bool.and_eq_true, decide_eq_true_eq] at h ⊢
      exact ⟨h.1, by omega⟩
    | non => simp [Val.fit]
    | bl b => simp [Val.fit]
    | tup xs =>
      simp only [Val.fit, Bool.and_eq_true, decide_eq_true_eq] at h ⊢
      exact ⟨by omega, fits_iff.mpr fun x m => ih (by omega) (fits_iff.mp h.2 x m)⟩
    | _ => simp [Val.fit] at h
theorem fit_std {B L : Nat} (hL : L < 1000000) : ∀ {n : Nat} {v : Val}, Val.fit B L n v = true → Val.std n v = true := fun {n} => by
  induction n with
  | zero =>
    intro v h
    cases v with
    | str s =>
      simp only [Val.fit, Bool.and_eq_true, decide_eq_true_eq, Val.std, List.all_eq_true] at h ⊢
      exact fun c m => by have := h.1 c m; omega
    | int i => simp [Val.std]
    | non => simp [Val.std]
    | bl b => simp [Val.std]
    | _ => simp [Val.fit] at h
  | succ n ih =>
    intro v h
    cases v with
    | str s =>
      simp only [Val.fit, Bool.and_eq_true, decide_eq_true_eq, Val.std, List.all_eq_true] at h ⊢
      exact fun c m => by have := h.1 c m; omega
    | int i => simp [Val.std]
    | non => simp [Val.std]
    | bl b => simp [Val.std]
    | tup xs =>
      simp only [Val.fit, Bool.and_eq_true, decide_eq_true_eq, Val.std] at h ⊢
      exact ⟨by omega, stds_iff.mpr fun x m => ih (fits_iff.mp h.2 x m)⟩
    | _ => simp [Val.fit] at h
mutual
/-- tuples of at most L items, texts, whole numbers of any size -/
def Val.wid (L : Nat) : Nat → Val → Bool
  | _, .non => true
  | _, .bl _ => true
  | _, .int _ => true
  | _, .str s => s.all (· < 55296)
  | n + 1, .tup xs => decide (xs.length ≤ L) && Val.wids L n xs
  | _, _ => false
def Val.wids (L : Nat) : Nat → List Val → Bool
  | _, [] => true
  | n, x :: xs => Val.wid L n x && Val.wids L n xs
end
theorem wids_iff {L n : Nat} : ∀ {xs : List Val}, Val.wids L n xs = true ↔ ∀ x ∈ xs, Val.wid L n x = true
  | [] => by simp [Val.wids]
  | x :: xs => by simp [Val.wids, wids_iff (xs := xs)]
theorem wid_tup {L n : Nat} {xs : List Val} : Val.wid L (n + 1) (.tup xs) = true ↔ xs.length ≤ L ∧ ∀ x ∈ xs, Val.wid L n x = true := by
  simp only [Val.wid, Bool.and_eq_true, decide_eq_true_eq, wids_iff]
theorem fit_tup {B L n : Nat} {xs : List Val} : Val.fit B L (n + 1) (.tup xs) = true ↔ xs.length ≤ L ∧ ∀ x ∈ xs, Val.fit B L n x = true := by
  simp only [Val.fit, Bool.and_eq_true, decide_eq_true_eq, fits_iff]
theorem fit_wid {B L L' : Nat} (hL : L ≤ L') : ∀ {n m : Nat} {v : Val}, n ≤ m → Val.fit B L n v = true → Val.wid L' m v = true := fun {n} => by
  induction n with
  | zero =>
    intro m v hm h
    cases v with
    | str s =>
      simp only [Val.fit, Bool.and_eq_true, decide_eq_true_eq, Val.wid, List.all_eq_true] at h ⊢
      exact fun c m => by have := h.1 c m; omega
    | int i => simp [Val.wid]
    | non => simp [Val.wid]
    | bl b => simp [Val.wid]
    | _ => simp [Val.fit] at h
  | succ n ih =>
    intro m v hm h
    obtain ⟨m, rfl⟩ : ∃ k, m = k + 1 := ⟨m - 1, by omega⟩
    cases v with
    | str s =>
      simp only [Val.fit, Bool.and_eq_true, decide_eq_true_eq, Val.wid, List.all_eq_true] at h ⊢
      exact fun c m => by have := h.1 c m; omega
    | int i => simp [Val.wid]
    | non => simp [Val.wid]
    | bl b => simp [Val.wid]
    | tup xs =>
      rw [fit_tup] at h
      exact wid_tup.mpr ⟨by omega, fun x mx => ih (by omega) (h.2 x mx)⟩
    | _ => simp [Val.fit] at h
theorem wid_mono {L L' : Nat} (hL : L ≤ L') : ∀ {n m : Nat} {v : Val}, n ≤ m → Val.wid L n v = true → Val.wid L' m v = true := fun {n} => by
  induction n with
  | zero =>
    intro m v hm h
    cases v with
    | str s => simp only [Val.wid] at h ⊢; exact h
    | int i => simp [Val.wid]
    | non => simp [Val.wid]
    | bl b => simp [Val.wid]
    | _ => simp [Val.wid] at h
  | succ n ih =>
    intro m v hm h
    obtain ⟨m, rfl⟩ : ∃ k, m = k + 1 := ⟨m - 1, by omega⟩
    cases v with
    | str s => simp only [Val.wid] at h ⊢; exact h
    | int i => simp [Val.wid]
    | non => simp [Val.wid]
    | bl b => simp [Val.wid]
    | tup xs =>
      rw [wid_tup] at h
      exact wid_tup.mpr ⟨by omega, fun x mx => ih (by omega) (h.2 x mx)⟩
    | _ => simp [Val.wid] at h
theorem wid_std {L : Nat} (hL : L < 1000000) : ∀ {n : Nat} {v : Val}, Val.wid L n v = true → Val.std n v = true := fun {n} => by
  induction n with
  | zero =>
    intro v h
    cases v with
    | str s => simp only [Val.wid, Val.std] at h ⊢; exact h
    | int i => simp [Val.std]
    | non => simp [Val.std]
    | bl b => simp [Val.std]
    | _ => simp [Val.wid] at h
  | succ n ih =>
    intro v h
    cases v with
    | str s => simp only [Val.wid, Val.std] at h ⊢; exact h
    | int i => simp [Val.std]
    | non => simp [Val.std]
    | bl b => simp [Val.std]
    | tup xs =>
      rw [wid_tup] at h
      simp only [Val.std, Bool.and_eq_true, decide_eq_true_eq]
      exact ⟨by omega, stds_iff.mpr fun x m => ih (h.2 x m)⟩
    | _ => simp [Val.wid] at h
theorem wid_sum {L n : Nat} {v : Val} (h : Val.wid L n v = true) : (v.its.map fun r => r.its.length).sum ≤ L * L := by
  have sum_le : ∀ (B : Nat) (xs : List Nat), (∀ x ∈ xs, x ≤ B) → xs.sum ≤ xs.length * B := fun B xs => by
    induction xs with
    | nil => simp
    | cons x xs ih =>
      intro h
      have := ih fun y m => h y (List.mem_cons_of_mem _ m)
      have := h x List.mem_cons_self
      rw [List.sum_cons, List.length_cons, Nat.succ_mul]; omega
  cases v with
  | tup xs =>
    cases n with
    | zero => simp [Val.wid] at h
    | succ n =>
      rw [wid_tup] at h
      refine Nat.le_trans (sum_le L _ fun x m => ?_) (Nat.mul_le_mul_right _ (by rw [List.length_map]; exact h.1))
      rw [List.mem_map] at m
      obtain ⟨y, m, rfl⟩ := m
      have := h.2 y m
      cases y with
      | tup ys =>
        cases n with
        | zero => simp [Val.wid] at this
        | succ n => exact (wid_tup.mp this).1
      | _ => exact Nat.zero_le _
  | _ => exact Nat.zero_le _
theorem ite_lt128 {p : Prop} [Decidable p] {a b : Char} (ha : a.toNat < 128) (hb : b.toNat < 128) : (if p then a else b).toNat < 128 := by split <;> assumption
theorem digit_lt (d : Nat) : (Nat.digitChar d).toNat < 128 := by
  unfold Nat.digitChar
  repeat' apply ite_lt128
  all_goals decide
theorem digits_lt (b : Nat) : ∀ (f n : Nat) (ds : List Char), (∀ c ∈ ds, c.toNat < 128) → ∀ c ∈ Nat.toDigitsCore b f n ds, c.toNat < 128
  | 0, n, ds, h => h
  | f + 1, n, ds, h => by
    have h' : ∀ c ∈ Nat.digitChar (n % b) :: ds, c.toNat < 128 := by
      intro c m
      rcases List.mem_cons.mp m with rfl | m
      · exact digit_lt _
      · exact h c m
    unfold Nat.toDigitsCore
    dsimp only
    split
    · exact h'
    · exact digits_lt b f _ _ h'
theorem decS_lt (i : Int) : ∀ c ∈ decS i, c < 128 := by
  have nat : ∀ n : Nat, ∀ c ∈ (Nat.repr n).toList, c.toNat < 128 := fun n c m => by
    unfold Nat.repr at m
    simp only [String.toList_ofList] at m
    exact digits_lt _ _ _ _ (by simp) c m
  intro c m
  unfold decS at m
  rw [List.mem_map] at m
  obtain ⟨ch, m, rfl⟩ := m
  have e : toString i = Int.repr i := rfl
  rw [e] at m
  cases i with
  | ofNat n => exact nat n ch m
  | negSucc n =>
    have e2 : Int.repr (Int.negSucc n) = "-" ++ Nat.repr (n + 1) := rfl
    rw [e2, String.toList_append] at m
    rcases List.mem_append.mp m with m | m
    · simp at m; subst m; decide
    · exact nat _ ch m
theorem up1_lt {c : Nat} (h : c < 128) : up1 c < 128 := by unfold up1; split <;> omega
theorem forL_all {α : Type} {st : Val → Env → Option Env} {body : Env → Mem → T Out} {h : Mem} (e : Slot → Env) (v : α → Val) (p : α → Bool) (r : Rv) : ∀ {ys : List α} {s : Slot}, isOwn (some s) = false →
    (∀ y ∈ ys, ∀ s, T.opt (st (v y) (e s)) (fun e1 => body e1 h) = if p y = true then .ret (.next, e (.val (v y)), h) else .ret (.ret r, e (.val (v y)), h)) → ∃ s', isOwn (some s') = false ∧ forL st body (ys.map v) (e s) h = if ys.all p = true then .ret (.next, e s', h) else .ret (.ret r, e s', h)
  | [], s, hs, _ => ⟨s, hs, rfl⟩
  | y :: ys, s, _, hb => by
    have := hb y List.mem_cons_self s
    obtain ⟨s', i1, ih⟩ := forL_all (ys := ys) (s := .val (v y)) e v p r rfl fun z m => hb z (List.mem_cons_of_mem _ m)
    simp only [List.map_cons, forL, List.all_cons]
    cases hs : st (v y) (e s) with
    | none =>
      rw [hs] at this
      by_cases hp : p y = true
      · rw [if_pos hp] at this; cases this
      · rw [if_neg hp] at this; cases this
    | some e1 =>
      rw [hs] at this
      simp only [T.opt_some] at this ⊢
      rw [this]
      by_cases hp : p y = true
      · exact ⟨s', i1, by simpa [hp, T.ret_bind, go_next] using ih⟩
      · exact ⟨.val (v y), rfl, by simp [hp, T.ret_bind, go_ret]⟩
theorem T.bind_eq {α β : Type} {t : T α} {f : α → T β} {a : α} {R : T β} (h : t = .ret a) (g : f a = R) : t.bind f = R := by rw [h]; exact g
theorem getD_at {α : Type} {xs : List α} {i : Nat} {d : α} (h : i < xs.length) : xs.getD i d = xs[i] := by
  rw [List.getD_eq_getElem?_getD, List.getElem?_eq_getElem h]; rfl
theorem length_flatMap_le {α β : Type} {g : α → List β} {B : Nat} : ∀ {xs : List α}, (∀ x ∈ xs, (g x).length ≤ B) → (xs.flatMap g).length ≤ xs.length * B
  | [], _ => by simp
  | x :: xs, h => by
    have h1 := h x List.mem_cons_self
    have h2 := length_flatMap_le (xs := xs) fun y m => h y (List.mem_cons_of_mem _ m)
    rw [List.flatMap_cons, List.length_append, List.length_cons, Nat.succ_mul]
    omega
theorem shortL_of {xs : List Val} {k : Nat} (h : xs.length + k < 1000000) : shortL xs k = true := by
  unfold shortL; exact decide_eq_true h
theorem pre_lt {n i : Nat} {pre post : List Nat} (h : List.range n = pre ++ i :: post) : i < n ∧ pre.length = i := by
  have h1 : i < n := List.mem_range.mp (by rw [h]; simp)
  have h2 : (List.range n)[pre.length]? = some i := by rw [h]; simp
  rw [List.getElem?_range (by have := congrArg List.length h; simp at this; omega)] at h2
  exact ⟨h1, by simpa using h2⟩
theorem shortL_of' {xs : List Val} {k : Nat} (h : xs.length + k < 1000000) : decide (xs.length + k < 1000000) = true := decide_eq_true h
theorem idx_newN {xs : List Val} {d : Nat} (h : d < xs.length) : idxV (.new xs) (.v (.int (d : Nat))) = some (.v (xs.getD d .non)) := by
  show ((place xs.length (d : Nat)).bind fun k => xs[k]?.map Rv.v) = _
  rw [place_at h]
  show xs[d]?.map Rv.v = _
  rw [List.getElem?_eq_getElem h, getD_at h]; rfl
theorem getD_all {α : Type} {P : α → Prop} {xs : List α} {d : Nat} {x : α} (h : d < xs.length) (p : ∀ x ∈ xs, P x) : P (xs.getD d x) := by
  rw [getD_at h]; exact p _ (List.getElem_mem h)
theorem idx_tup1 {x y : Val} {xs : List Val} : idxV (.v (.tup (x :: y :: xs))) (.v (.int 1)) = some (.v y) := idx_tup (d := 1) rfl
theorem idx_tup2 {x y z : Val} {xs : List Val} : idxV (.v (.tup (x :: y :: z :: xs))) (.v (.int 2)) = some (.v z) := idx_tup (d := 2) rfl
theorem idx_lst0 {x : Val} {xs : List Val} : idxV (.v (.lst (x :: xs))) (.v (.int 0)) = some (.v x) := idx_lst (d := 0) rfl
theorem idx_lst1 {x y : Val} {xs : List Val} : idxV (.v (.lst (x :: y :: xs))) (.v (.int 1)) = some (.v y) := idx_lst (d := 1) rfl
theorem place_last {n : Nat} (h : 0 < n) : place n (-1) = some (n - 1) := by
  unfold place
  rw [if_neg (by omega), if_pos (by omega)]
  congr 1; omega
theorem idx_lstL {xs : List Val} {x : Val} (h : xs.getLast? = some x) : idxV (.v (.lst xs)) (.v (.int (-1))) = some (.v x) := by
  have h0 : 0 < xs.length := by cases xs with
    | nil => cases h
    | cons _ _ => simp
  show ((place xs.length (-1)).bind fun k => xs[k]?.map Rv.v) = _
  rw [place_last h0]
  rw [List.getLast?_eq_getElem?] at h
  show (xs[xs.length - 1]?).map Rv.v = _
  rw [h]; rfl
theorem idx_tupL {xs : List Val} {x : Val} (h : xs.getLast? = some x) : idxV (.v (.tup xs)) (.v (.int (-1))) = some (.v x) := by
  have h0 : 0 < xs.length := by cases xs with
    | nil => cases h
    | cons _ _ => simp
  show ((place xs.length (-1)).bind fun k => xs[k]?.map Rv.v) = _
  rw [place_last h0]
  rw [List.getLast?_eq_getElem?] at h
  show (xs[xs.length - 1]?).map Rv.v = _
  rw [h]; rfl
theorem eq_str {n : Bool} {a b : List Nat} (ha : (a.all (· < 55296)) = true) (hb : (b.all (· < 55296)) = true) : eqV n (.v (.str a)) (.v (.str b)) = some (.v (.bl (if n = true then !(a == b) else a == b))) := by
  unfold eqV
  have : okP (Rv.v (.str a)).arg (Rv.v (.str b)).arg = true := by
    unfold okP; simp only [Rv.arg, deepMax, Val.plain, ha, hb, Bool.and_self]
  simp only [Rv.arg] at this ⊢
  simp only [this, if_true, Val.eq]
theorem ne_nil {n : Bool} {xs : List Val} {d : Nat} (hd : d ≤ 40) (h : Val.plain d (.lst xs) = true) : eqV n (.v (.lst xs)) (.new []) = some (.v (.bl (if n = true then !xs.isEmpty else xs.isEmpty))) := by
  unfold eqV
  have : okP (Rv.v (.lst xs)).arg (Rv.new []).arg = true := okP_of hd h (by cases d <;> simp [Rv.arg, Val.plain, Val.plains] at h ⊢)
  simp only [Rv.arg] at this ⊢
  simp only [this, if_true, Val.eq]
  cases xs <;> cases n <;> rfl
theorem ne_nilw {n : Bool} {xs : List Val} {d : Nat} (hd : d ≤ 40) (h : Val.plain d (.lst xs) = true) : eqV n (.vw xs) (.new []) = some (.v (.bl (if n = true then !xs.isEmpty else xs.isEmpty))) := ne_nil hd h
theorem mul_tup {xs : List Val} {j : Int} (h : !xs.isEmpty ∧ xs.length ≤ 1000 ∧ 2 ≤ j ∧ j ≤ 1000) : Bn.ap .mul (.v (.tup xs)) (.v (.int j)) = some (.v (.tup (List.replicate j.toNat xs).flatten)) := if_pos h
theorem erase_map {α β : Type} (f : α → β) : ∀ (xs : List α) (j : Nat), (xs.map f).eraseIdx j = (xs.eraseIdx j).map f
  | [], _ => rfl
  | x :: xs, 0 => rfl
  | x :: xs, j + 1 => by simp only [List.map_cons, List.eraseIdx_cons_succ, erase_map f xs j]
theorem smallI_of {i : Int} (h1 : -1000000 < i) (h2 : i < 1000000) : smallI i = true := by
  unfold smallI
  rw [Bool.and_eq_true, decide_eq_true_eq, decide_eq_true_eq]
  exact ⟨h1, h2⟩
theorem toNat_pred {n : Nat} : ((n : Int) - 1).toNat = n - 1 := by omega
theorem tups_of : ∀ {xs : List Val}, xs.all Val.isTup = true → xs = (xs.map Val.its).map Val.tup
  | [], _ => rfl
  | x :: xs, h => by
    simp only [List.all_cons, Bool.and_eq_true] at h
    simp only [List.map_cons]
    rw [← tups_of h.2, ← tup_its h.1]
theorem idx_tup0 {x : Val} {xs : List Val} : idxV (.v (.tup (x :: xs))) (.v (.int 0)) = some (.v x) := idx_tup (d := 0) rfl
theorem add_tup_ok {xs ys : List Val} (h : xs.length + ys.length ≤ 16777216) : Bn.ap .add (.v (.tup xs)) (.v (.tup ys)) = some (.v (.tup (xs ++ ys))) := if_pos h
/-! generated -/
section
variable {xs : List Val} {ys : List Val} {b : Bool} {i : Int} {j : Int} {s : List Nat} {x : Val} {r : Rv} {env : Env} {k : Nat}
theorem truth_non : Rv.truth (.v .non) = some false := id rfl
theorem truth_bl : Rv.truth (.v (.bl b)) = some b := id rfl
theorem truth_int : Rv.truth (.v (.int i)) = some (i != 0) := id rfl
theorem truth_str : Rv.truth (.v (.str s)) = some (!s.isEmpty) := id rfl
theorem truth_tup : Rv.truth (.v (.tup xs)) = some (!xs.isEmpty) := id rfl
theorem truth_lst : Rv.truth (.v (.lst xs)) = some (!xs.isEmpty) := id rfl
theorem truth_new : Rv.truth (.new xs) = some (!xs.isEmpty) := id rfl
theorem truth_vw : Rv.truth (.vw xs) = some (!xs.isEmpty) := id rfl
theorem items_tup : Rv.items (.v (.tup xs)) = some xs := id rfl
theorem items_lst : Rv.items (.v (.lst xs)) = some xs := id rfl
theorem lstof_lst : Rv.lst (.v (.lst xs)) = some xs := id rfl
theorem items_new : Rv.items (.new xs) = some xs := id rfl
theorem lstof_new : Rv.lst (.new xs) = some xs := id rfl
theorem items_vw : Rv.items (.vw xs) = some xs := id rfl
theorem lstof_vw : Rv.lst (.vw xs) = some xs := id rfl
theorem items0_non : Rv.items (.v (.non)) = none := id rfl
theorem items0_bl : Rv.items (.v (.bl b)) = none := id rfl
theorem items0_int : Rv.items (.v (.int i)) = none := id rfl
theorem items0_str : Rv.items (.v (.str s)) = none := id rfl
theorem items0_ref : Rv.items (.v (.ref k)) = none := id rfl
theorem items0_box : Rv.items (.v (.box)) = none := id rfl
theorem items0_fn : Rv.items (.v (.fn k)) = none := id rfl
theorem lst0_non : Rv.lst (.v (.non)) = none := id rfl
theorem lst0_bl : Rv.lst (.v (.bl b)) = none := id rfl
theorem lst0_int : Rv.lst (.v (.int i)) = none := id rfl
theorem lst0_str : Rv.lst (.v (.str s)) = none := id rfl
theorem lst0_tup : Rv.lst (.v (.tup xs)) = none := id rfl
theorem lst0_ref : Rv.lst (.v (.ref k)) = none := id rfl
theorem lst0_box : Rv.lst (.v (.box)) = none := id rfl
theorem lst0_fn : Rv.lst (.v (.fn k)) = none := id rfl
theorem store_v : Rv.store (.v x) = some x := id rfl
theorem store_new : Rv.store (.new xs) = some (.lst xs) := id rfl
theorem arg_v : Rv.arg (.v x) = x := id rfl
theorem arg_new : Rv.arg (.new xs) = .lst xs := id rfl
theorem arg_vw : Rv.arg (.vw xs) = .lst xs := id rfl
theorem isVw_v : Rv.isVw (.v x) = false := id rfl
theorem isVw_new : Rv.isVw (.new xs) = false := id rfl
theorem isVw_vw : Rv.isVw (.vw xs) = true := id rfl
theorem stores_nil : stores [] = some [] := id rfl
theorem stores_cons {rs : List Rv} {y : Val} {zs : List Val} (e1 : r.store = some y) (e2 : stores rs = some zs) : stores (r :: rs) = some (y :: zs) := by simp only [stores, e1, e2]
theorem stores_v {rs : List Rv} : stores (.v x :: rs) = (stores rs).map (x :: ·) := by simp only [stores, Rv.store]; cases stores rs <;> rfl
theorem stores_new {rs : List Rv} : stores (.new xs :: rs) = (stores rs).map (.lst xs :: ·) := by simp only [stores, Rv.store]; cases stores rs <;> rfl
theorem outV_v : outV (.v x) = some (.v x) := id rfl
theorem outV_new : outV (.new xs) = some (.new xs) := id rfl
theorem loadS_val : loadS (some (.val x)) = some (.v x) := id rfl
theorem loadS_own : loadS (some (.own (.l xs))) = some (.vw xs) := id rfl
def ownO : Option Slot → Option (List Val) | some (.own (.l xs)) => some xs | _ => none
theorem ownS_O : ownS env k = ownO env[k]? := id rfl
theorem ownO_own : ownO (some (.own (.l xs))) = some xs := id rfl
theorem ownO_val : ownO (some (.val x)) = none := id rfl
theorem ownO_emp : ownO (some .emp) = none := id rfl
theorem noOwn_nil : noOwn env [] = true := rfl
theorem noOwn_cons {is : List Nat} : noOwn env (k :: is) = (!isOwn env[k]? && noOwn env is) := by unfold noOwn isOwn; rw [List.all_cons]; congr 1; generalize env[k]? = o; rcases o with _ | _ | _ | _ <;> rfl
theorem isOwn_emp : isOwn (some .emp) = false := id rfl
theorem isOwn_val : isOwn (some (.val x)) = false := id rfl
theorem isOwn_own : isOwn (some (.own (.l xs))) = true := id rfl
theorem wipe_nil : wipeE env [] = env := id rfl
theorem wipe_cons {is : List Nat} : wipeE env (k :: is) = List.set (wipeE env is) k .emp := rfl
theorem tg_var : (Tg.var k).set x env = if k < env.length then some (List.set env k (.val x)) else none := by simp only [Tg.set]
theorem tg_tup {ts : Tgs} : (Tg.tup ts).set (.tup xs) env = ts.set xs env := by simp only [Tg.set]
theorem tgs_nil : Tgs.nil.set [] env = some env := by simp only [Tgs.set]
theorem tgs_cons {t : Tg} {ts : Tgs} : (Tgs.cons t ts).set (x :: xs) env = (t.set x env).bind fun e => ts.set xs e := by simp only [Tgs.set]
theorem asg_var : asgS (.var k) r env = bindS env k r := id rfl
theorem asg_tup {ts : Tgs} : asgS (.tup ts) r env = r.store.bind fun x => (Tg.tup ts).set x env := rfl
theorem bind_v : bindS env k (.v x) = if k < env.length then some (List.set env k (.val x)) else none := id rfl
theorem bind_new : bindS env k (.new xs) = if k < env.length then some (List.set env k (.own (.l xs))) else none := id rfl
theorem binds_nil : bindSs env [] [] = some env := rfl
theorem binds_cons {is : List Nat} {rs : List Rv} : bindSs env (k :: is) (r :: rs) = (bindS env k r).bind fun e => bindSs e is rs := rfl
theorem uneg_int : Un.ap .neg (.v (.int i)) = some (.v (.int (-i))) := id rfl
theorem isN_non : Un.ap .isN (.v .non) = some (.v (.bl true)) := id rfl
theorem notN_non : Un.ap .notN (.v .non) = some (.v (.bl false)) := id rfl
theorem isN_bl : Un.ap .isN (.v (.bl b)) = some (.v (.bl false)) := id rfl
theorem notN_bl : Un.ap .notN (.v (.bl b)) = some (.v (.bl true)) := id rfl
theorem isN_int : Un.ap .isN (.v (.int i)) = some (.v (.bl false)) := id rfl
theorem notN_int : Un.ap .notN (.v (.int i)) = some (.v (.bl true)) := id rfl
theorem isN_str : Un.ap .isN (.v (.str s)) = some (.v (.bl false)) := id rfl
theorem notN_str : Un.ap .notN (.v (.str s)) = some (.v (.bl true)) := id rfl
theorem isN_tup : Un.ap .isN (.v (.tup xs)) = some (.v (.bl false)) := id rfl
theorem notN_tup : Un.ap .notN (.v (.tup xs)) = some (.v (.bl true)) := id rfl
theorem isN_lst : Un.ap .isN (.v (.lst xs)) = some (.v (.bl false)) := id rfl
theorem notN_lst : Un.ap .notN (.v (.lst xs)) = some (.v (.bl true)) := id rfl
theorem isN_new : Un.ap .isN (.new xs) = some (.v (.bl false)) := id rfl
theorem notN_new : Un.ap .notN (.new xs) = some (.v (.bl true)) := id rfl
theorem isN_vw : Un.ap .isN (.vw xs) = some (.v (.bl false)) := id rfl
theorem notN_vw : Un.ap .notN (.vw xs) = some (.v (.bl true)) := id rfl
theorem un_isT : Un.ap .isT (.v (.bl b)) = some (.v (.bl b)) := id rfl
theorem un_notT : Un.ap .notT (.v (.bl b)) = some (.v (.bl (!b))) := id rfl
theorem un_isF : Un.ap .isF (.v (.bl b)) = some (.v (.bl (!b))) := id rfl
theorem un_notF : Un.ap .notF (.v (.bl b)) = some (.v (.bl b)) := id rfl
theorem rev_tup : Un.ap .rev (.v (.tup xs)) = some (.v (.tup xs.reverse)) := id rfl
theorem rev_lst : Un.ap .rev (.v (.lst xs)) = some (.new xs.reverse) := id rfl
theorem rev_new : Un.ap .rev (.new xs) = some (.new xs.reverse) := id rfl
theorem add_int : Bn.ap .add (.v (.int i)) (.v (.int j)) = some (.v (.int (i + j))) := id rfl
theorem sub_int : Bn.ap .sub (.v (.int i)) (.v (.int j)) = some (.v (.int (i - j))) := id rfl
theorem mul_int : Bn.ap .mul (.v (.int i)) (.v (.int j)) = if -big < i ∧ i < big ∨ -big < j ∧ j < big then some (.v (.int (i * j))) else none := id rfl
theorem add_tup : Bn.ap .add (.v (.tup xs)) (.v (.tup ys)) = if xs.length + ys.length ≤ sizeMax then some (.v (.tup (xs ++ ys))) else none := id rfl
theorem add_str {t : List Nat} : Bn.ap .add (.v (.str s)) (.v (.str t)) = if s.length + t.length ≤ sizeMax then some (.v (.str (s ++ t))) else none := id rfl
theorem add_lst_lst : Bn.ap .add (.v (.lst xs)) (.v (.lst ys)) = if xs.length + ys.length ≤ sizeMax then some (.new (xs ++ ys)) else none := id rfl
theorem add_lst_new : Bn.ap .add (.v (.lst xs)) (.new ys) = if xs.length + ys.length ≤ sizeMax then some (.new (xs ++ ys)) else none := id rfl
theorem add_lst_vw : Bn.ap .add (.v (.lst xs)) (.vw ys) = if xs.length + ys.length ≤ sizeMax then some (.new (xs ++ ys)) else none := id rfl
theorem add_new_lst : Bn.ap .add (.new xs) (.v (.lst ys)) = if xs.length + ys.length ≤ sizeMax then some (.new (xs ++ ys)) else none := id rfl
theorem add_new_new : Bn.ap .add (.new xs) (.new ys) = if xs.length + ys.length ≤ sizeMax then some (.new (xs ++ ys)) else none := id rfl
theorem add_new_vw : Bn.ap .add (.new xs) (.vw ys) = if xs.length + ys.length ≤ sizeMax then some (.new (xs ++ ys)) else none := id rfl
theorem add_vw_lst : Bn.ap .add (.vw xs) (.v (.lst ys)) = if xs.length + ys.length ≤ sizeMax then some (.new (xs ++ ys)) else none := id rfl
theorem add_vw_new : Bn.ap .add (.vw xs) (.new ys) = if xs.length + ys.length ≤ sizeMax then some (.new (xs ++ ys)) else none := id rfl
theorem add_vw_vw : Bn.ap .add (.vw xs) (.vw ys) = if xs.length + ys.length ≤ sizeMax then some (.new (xs ++ ys)) else none := id rfl
theorem fdiv_int : Bn.ap .fdiv (.v (.int i)) (.v (.int j)) = if 0 < j ∧ j < 1073741824 then some (.v (.int (i / j))) else none := by show Option.map _ (if _ then _ else _) = _; split <;> rfl
theorem mod_int : Bn.ap .mod (.v (.int i)) (.v (.int j)) = if 0 < j then some (.v (.int (i % j))) else none := by show Option.map _ (if _ then _ else _) = _; split <;> rfl
theorem lt_int : Bn.ap .lt (.v (.int i)) (.v (.int j)) = some (.v (.bl (decide (i < j)))) := id rfl
theorem le_int : Bn.ap .le (.v (.int i)) (.v (.int j)) = some (.v (.bl (decide (i ≤ j)))) := id rfl
theorem gt_int : Bn.ap .gt (.v (.int i)) (.v (.int j)) = some (.v (.bl (decide (j < i)))) := id rfl
theorem ge_int : Bn.ap .ge (.v (.int i)) (.v (.int j)) = some (.v (.bl (decide (j ≤ i)))) := id rfl
theorem le_tup : Bn.ap .le (.v (.tup xs)) (.v (.tup ys)) = (match intsOf xs, intsOf ys with | some x, some y => some (.v (.bl (!lexLt y x))) | _, _ => none) := id rfl
theorem gt_tup : Bn.ap .gt (.v (.tup xs)) (.v (.tup ys)) = (match intsOf xs, intsOf ys with | some x, some y => some (.v (.bl (lexLt y x))) | _, _ => none) := id rfl
theorem ge_tup : Bn.ap .ge (.v (.tup xs)) (.v (.tup ys)) = (match intsOf xs, intsOf ys with | some x, some y => some (.v (.bl (!lexLt x y))) | _, _ => none) := id rfl
theorem lt_tup : Bn.ap .lt (.v (.tup xs)) (.v (.tup ys)) = (match intsOf xs, intsOf ys with | some x, some y => some (.v (.bl (lexLt x y))) | _, _ => none) := id rfl
theorem ap_eq : Bn.ap .eq = eqV false := id rfl
theorem ap_ne : Bn.ap .ne = eqV true := id rfl
theorem ap_in : Bn.ap .inn = inV false := id rfl
theorem ap_notin : Bn.ap .notin = inV true := id rfl
theorem ap_idx : Bn.ap .idx = idxV := id rfl
theorem eq_int {n : Bool} : eqV n (.v (.int i)) (.v (.int j)) = some (.v (.bl (if n then !decide (i = j) else decide (i = j)))) := by cases n <;> rfl
theorem decide_nat {p q : Nat} : decide ((p : Int) = (q : Int)) = decide (p = q) := decide_eq_decide.mpr Int.ofNat_inj
theorem eq_pair {n : Bool} {a b c d : Int} : eqV n (.v (.tup [.int a, .int b])) (.v (.tup [.int c, .int d])) = some (.v (.bl (if n = true then !(decide (a = c) && decide (b = d)) else decide (a = c) && decide (b = d)))) := by cases n <;> simp only [eqV, okP, Rv.arg, deepMax, Val.plain, Val.plains, Val.eq, Val.eqs, Bool.and_true, if_true, if_false, Bool.false_eq_true] <;> rfl
theorem eq_bl {n c : Bool} : eqV n (.v (.bl b)) (.v (.bl c)) = some (.v (.bl (if n then !(b == c) else b == c))) := by cases n <;> rfl
theorem eq_non {n : Bool} : eqV n (.v .non) (.v .non) = some (.v (.bl (!n))) := by cases n <;> rfl
theorem eq_non_int {n : Bool} : eqV n (.v .non) (.v (.int i)) = some (.v (.bl n)) := by cases n <;> rfl
theorem eq_int_non {n : Bool} : eqV n (.v (.int i)) (.v .non) = some (.v (.bl n)) := by cases n <;> rfl
theorem len_str : Ap.ap .len [.v (.str s)] = some (.v (.int s.length)) := id rfl
theorem list_tup : Ap.ap .list [(.v (.tup xs))] = some (.new xs) := id rfl
theorem summ_tup : Ap.ap .sum [(.v (.tup xs))] = (intsOf xs).map fun ns => .v (.int ns.sum) := id rfl
theorem max_tup : Ap.ap .max [(.v (.tup xs))] = maxR xs := id rfl
theorem min_tup : Ap.ap .min [(.v (.tup xs))] = minR xs := id rfl
theorem sorted_tup : Ap.ap .sorted [(.v (.tup xs))] = sortR xs := id rfl
theorem list_lst : Ap.ap .list [(.v (.lst xs))] = some (.new xs) := id rfl
theorem summ_lst : Ap.ap .sum [(.v (.lst xs))] = (intsOf xs).map fun ns => .v (.int ns.sum) := id rfl
theorem any_lst : Ap.ap .any [(.v (.lst xs))] = (boolsOf xs).map fun bs => .v (.bl (bs.any id)) := id rfl
theorem all_lst : Ap.ap .all [(.v (.lst xs))] = (boolsOf xs).map fun bs => .v (.bl (bs.all id)) := id rfl
theorem max_lst : Ap.ap .max [(.v (.lst xs))] = maxR xs := id rfl
theorem min_lst : Ap.ap .min [(.v (.lst xs))] = minR xs := id rfl
theorem sorted_lst : Ap.ap .sorted [(.v (.lst xs))] = sortR xs := id rfl
theorem list_new : Ap.ap .list [(.new xs)] = some (.new xs) := id rfl
theorem summ_new : Ap.ap .sum [(.new xs)] = (intsOf xs).map fun ns => .v (.int ns.sum) := id rfl
theorem any_new : Ap.ap .any [(.new xs)] = (boolsOf xs).map fun bs => .v (.bl (bs.any id)) := id rfl
theorem all_new : Ap.ap .all [(.new xs)] = (boolsOf xs).map fun bs => .v (.bl (bs.all id)) := id rfl
theorem max_new : Ap.ap .max [(.new xs)] = maxR xs := id rfl
theorem min_new : Ap.ap .min [(.new xs)] = minR xs := id rfl
theorem sorted_new : Ap.ap .sorted [(.new xs)] = sortR xs := id rfl
theorem list_vw : Ap.ap .list [(.vw xs)] = some (.new xs) := id rfl
theorem summ_vw : Ap.ap .sum [(.vw xs)] = (intsOf xs).map fun ns => .v (.int ns.sum) := id rfl
theorem any_vw : Ap.ap .any [(.vw xs)] = (boolsOf xs).map fun bs => .v (.bl (bs.any id)) := id rfl
theorem all_vw : Ap.ap .all [(.vw xs)] = (boolsOf xs).map fun bs => .v (.bl (bs.all id)) := id rfl
theorem max_vw : Ap.ap .max [(.vw xs)] = maxR xs := id rfl
theorem min_vw : Ap.ap .min [(.vw xs)] = minR xs := id rfl
theorem sorted_vw : Ap.ap .sorted [(.vw xs)] = sortR xs := id rfl
theorem sortSet_tup : Ap.ap .sortSet [.v (.tup xs)] = setR xs := id rfl
def maxO (xs : List Val) : Option (List Int) → Option Rv | some ns => (listMax ns).map fun m => .v (.int m) | none => if okMin xs then (maxV xs).map .v else none
def minO (xs : List Val) : Option (List Int) → Option Rv | some ns => (listMin ns).map fun m => .v (.int m) | none => if okMin xs then (minV xs).map .v else none
theorem maxR_O : maxR xs = maxO xs (intsOf xs) := by unfold maxR maxO; rcases intsOf xs with _ | _ <;> rfl
theorem minR_O : minR xs = minO xs (intsOf xs) := by unfold minR minO; rcases intsOf xs with _ | _ <;> rfl
theorem maxO_i {ns : List Int} : maxO xs (some ns) = (listMax ns).map fun m => .v (.int m) := id rfl
theorem minO_i {ns : List Int} : minO xs (some ns) = (listMin ns).map fun m => .v (.int m) := id rfl
theorem max2_int : Ap.ap .max2 [.v (.int i), .v (.int j)] = some (.v (.int (if j > i then j else i))) := id rfl
theorem min2_int : Ap.ap .min2 [.v (.int i), .v (.int j)] = some (.v (.int (if j < i then j else i))) := id rfl
theorem int_int : Ap.ap .int [.v (.int i)] = some (.v (.int i)) := id rfl
theorem int_bl : Ap.ap .int [.v (.bl b)] = some (.v (.int (if b then 1 else 0))) := id rfl
theorem abs_int : Ap.ap .abs [.v (.int i)] = some (.v (.int (if i < 0 then -i else i))) := id rfl
theorem str_int : Ap.ap .str [.v (.int i)] = if -big < i ∧ i < big then some (.v (.str (decS i))) else none := id rfl
theorem isint_non : Ap.ap (.isi .int) [(.v .non)] = some (.v (.bl false)) := id rfl
theorem isbool_non : Ap.ap (.isi .bool) [(.v .non)] = some (.v (.bl false)) := id rfl
theorem isstr_non : Ap.ap (.isi .str) [(.v .non)] = some (.v (.bl false)) := id rfl
theorem istuple_non : Ap.ap (.isi .tuple) [(.v .non)] = some (.v (.bl false)) := id rfl
theorem islist_non : Ap.ap (.isi .list) [(.v .non)] = some (.v (.bl false)) := id rfl
theorem isint_bl : Ap.ap (.isi .int) [(.v (.bl b))] = some (.v (.bl true)) := id rfl
theorem isbool_bl : Ap.ap (.isi .bool) [(.v (.bl b))] = some (.v (.bl true)) := id rfl
theorem isstr_bl : Ap.ap (.isi .str) [(.v (.bl b))] = some (.v (.bl false)) := id rfl
theorem istuple_bl : Ap.ap (.isi .tuple) [(.v (.bl b))] = some (.v (.bl false)) := id rfl
theorem islist_bl : Ap.ap (.isi .list) [(.v (.bl b))] = some (.v (.bl false)) := id rfl
theorem isint_int : Ap.ap (.isi .int) [(.v (.int i))] = some (.v (.bl true)) := id rfl
theorem isbool_int : Ap.ap (.isi .bool) [(.v (.int i))] = some (.v (.bl false)) := id rfl
theorem isstr_int : Ap.ap (.isi .str) [(.v (.int i))] = some (.v (.bl false)) := id rfl
theorem istuple_int : Ap.ap (.isi .tuple) [(.v (.int i))] = some (.v (.bl false)) := id rfl
theorem islist_int : Ap.ap (.isi .list) [(.v (.int i))] = some (.v (.bl false)) := id rfl
theorem isint_str : Ap.ap (.isi .int) [(.v (.str s))] = some (.v (.bl false)) := id rfl
theorem isbool_str : Ap.ap (.isi .bool) [(.v (.str s))] = some (.v (.bl false)) := id rfl
theorem isstr_str : Ap.ap (.isi .str) [(.v (.str s))] = some (.v (.bl true)) := id rfl
theorem istuple_str : Ap.ap (.isi .tuple) [(.v (.str s))] = some (.v (.bl false)) := id rfl
theorem islist_str : Ap.ap (.isi .list) [(.v (.str s))] = some (.v (.bl false)) := id rfl
theorem isint_tup : Ap.ap (.isi .int) [(.v (.tup xs))] = some (.v (.bl false)) := id rfl
theorem isbool_tup : Ap.ap (.isi .bool) [(.v (.tup xs))] = some (.v (.bl false)) := id rfl
theorem isstr_tup : Ap.ap (.isi .str) [(.v (.tup xs))] = some (.v (.bl false)) := id rfl
theorem istuple_tup : Ap.ap (.isi .tuple) [(.v (.tup xs))] = some (.v (.bl true)) := id rfl
theorem islist_tup : Ap.ap (.isi .list) [(.v (.tup xs))] = some (.v (.bl false)) := id rfl
theorem isint_lst : Ap.ap (.isi .int) [(.v (.lst xs))] = some (.v (.bl false)) := id rfl
theorem isbool_lst : Ap.ap (.isi .bool) [(.v (.lst xs))] = some (.v (.bl false)) := id rfl
theorem isstr_lst : Ap.ap (.isi .str) [(.v (.lst xs))] = some (.v (.bl false)) := id rfl
theorem istuple_lst : Ap.ap (.isi .tuple) [(.v (.lst xs))] = some (.v (.bl false)) := id rfl
theorem islist_lst : Ap.ap (.isi .list) [(.v (.lst xs))] = some (.v (.bl true)) := id rfl
theorem isint_new : Ap.ap (.isi .int) [(.new xs)] = some (.v (.bl false)) := id rfl
theorem isbool_new : Ap.ap (.isi .bool) [(.new xs)] = some (.v (.bl false)) := id rfl
theorem isstr_new : Ap.ap (.isi .str) [(.new xs)] = some (.v (.bl false)) := id rfl
theorem istuple_new : Ap.ap (.isi .tuple) [(.new xs)] = some (.v (.bl false)) := id rfl
theorem islist_new : Ap.ap (.isi .list) [(.new xs)] = some (.v (.bl true)) := id rfl
theorem isint_vw : Ap.ap (.isi .int) [(.vw xs)] = some (.v (.bl false)) := id rfl
theorem isbool_vw : Ap.ap (.isi .bool) [(.vw xs)] = some (.v (.bl false)) := id rfl
theorem isstr_vw : Ap.ap (.isi .str) [(.vw xs)] = some (.v (.bl false)) := id rfl
theorem istuple_vw : Ap.ap (.isi .tuple) [(.vw xs)] = some (.v (.bl false)) := id rfl
theorem islist_vw : Ap.ap (.isi .list) [(.vw xs)] = some (.v (.bl true)) := id rfl
theorem slc_tup {lo hi : Option Int} : slice (.v (.tup xs)) lo hi = some (.v (.tup (cut xs lo hi))) := id rfl
theorem slc_str {lo hi : Option Int} : slice (.v (.str s)) lo hi = some (.v (.str (cut s lo hi))) := id rfl
theorem slc_lst {lo hi : Option Int} : slice (.v (.lst xs)) lo hi = some (.new (cut xs lo hi)) := id rfl
theorem slc_new {lo hi : Option Int} : slice (.new xs) lo hi = some (.new (cut xs lo hi)) := id rfl
theorem slc_vw {lo hi : Option Int} : slice (.vw xs) lo hi = some (.new (cut xs lo hi)) := id rfl
theorem optT_lst_ : optT b (.v (.lst xs)) = some xs := by cases b <;> rfl
theorem optT_vwt : optT true (.vw xs) = some xs := id rfl
theorem boxS_box : boxS (some (.val .box)) = true := id rfl
theorem drawT_int {h : Mem} : drawT h (.v (.int i)) = if (decide (0 < i) && decide (i < 1073741824)) = true then .draw i fun d => .ret (.v (.int d), h) else .bad := T.iff_if
theorem augI_add : augI .add (.v (.int i)) (.v (.int j)) = some (.int (i + j)) := id rfl
theorem augI_sub : augI .sub (.v (.int i)) (.v (.int j)) = some (.int (i - j)) := id rfl
theorem noLst_tup : (Rv.v (.tup xs)).noLst = Val.noLsts xs := id rfl
end
/-! last -/
section
variable (st : Val → Env → Option Env) (body : Env → Mem → T Out) (xs : List Val)
def kLp2 (o : Out) : T Out := match o with
  | (.next, e, h) => forL st body xs e h
  | (.cont, e, h) => forL st body xs e h
  | (.brk, e, h) => .ret (.next, e, h)
  | o => .ret o
def kLp (h : Mem) (e : Env) : T Out := (body e h).bind (kLp2 st body xs)
end
section
variable {st : Val → Env → Option Env} {body : Env → Mem → T Out} {x : Val} {xs : List Val} {e : Env} {h : Mem} {r : Rv}
theorem forL_nil : forL st body [] e h = .ret (.next, e, h) := id rfl
theorem forL_cons : forL st body (x :: xs) e h = T.opt (st x e) (kLp st body xs h) := by
  simp only [forL]
  congr 1; funext e'
  unfold kLp
  congr 1; funext o
  obtain ⟨f, e2, h2⟩ := o
  cases f <;> rfl
theorem lp_eq : kLp st body xs h e = (body e h).bind (kLp2 st body xs) := id rfl
theorem lp_next : kLp2 st body xs (.next, e, h) = forL st body xs e h := id rfl
theorem lp_cont : kLp2 st body xs (.cont, e, h) = forL st body xs e h := id rfl
theorem lp_brk : kLp2 st body xs (.brk, e, h) = .ret (.next, e, h) := id rfl
theorem lp_ret : kLp2 st body xs (.ret r, e, h) = .ret (.ret r, e, h) := id rfl
end
/-- a loop by its state; a turn may go on or end the loop -/
theorem forL_BE {σ τ α : Type} {st : Val → Env → Option Env} {body : Env → Mem → T Out} {h : Mem} (e : σ → τ → Env) (v : α → Val) (step : σ → α → σ) {ys : List α} {s0 : σ} {t0 : τ}
    (hb : ∀ pre y post, ys = pre ++ y :: post → ∀ t, ∃ fl t', T.opt (st (v y) (e (pre.foldl step s0) t)) (fun e1 => body e1 h) = .ret (fl, e (step (pre.foldl step s0) y) t', h) ∧ (fl = .next ∨ fl = .cont ∨ fl = .brk ∧ ∀ z ∈ post, step (step (pre.foldl step s0) y) z = step (pre.foldl step s0) y)) : ∃ t, forL st body (ys.map v) (e s0 t0) h = .ret (.next, e (ys.foldl step s0) t, h) := by
  have fix : ∀ (zs : List α) (s : σ), (∀ z ∈ zs, step s z = s) → zs.foldl step s = s := fun zs => by
    induction zs with
    | nil => intro s _; rfl
    | cons z zs ih => intro s q; rw [List.foldl_cons, q z List.mem_cons_self]; exact ih s fun w m => q w (List.mem_cons_of_mem _ m)
  have key : ∀ (zs pre : List α) (t : τ), ys = pre ++ zs → ∃ t', forL st body (zs.map v) (e (pre.foldl step s0) t) h = .ret (.next, e (ys.foldl step s0) t', h) := fun zs => by
    induction zs with
    | nil =>
      intro pre t e1
      rw [List.append_nil] at e1
      subst e1
      exact ⟨t, rfl⟩
    | cons z zs ih =>
      intro pre t e1
      obtain ⟨fl, t', this, hf⟩ := hb pre z zs e1 t
      simp only [List.map_cons, forL_cons]
      cases hs : st (v z) (e (pre.foldl step s0) t) with
      | none => rw [hs] at this; cases this
      | some e2 =>
        rw [hs] at this
        simp only [T.opt_some] at this ⊢
        rw [lp_eq, this, T.ret_bind]
        have nx := ih (pre ++ [z]) t' (by rw [e1]; simp)
        rw [List.foldl_append] at nx
        rcases hf with rfl | rfl | ⟨rfl, q⟩
        · rw [lp_next]; exact nx
        · rw [lp_cont]; exact nx
        · rw [lp_brk]
          refine ⟨t', ?_⟩
          rw [e1, List.foldl_append, List.foldl_cons, fix zs _ q]
  exact key ys [] t0 rfl
theorem forL_B {σ τ α β : Type} {st : Val → Env → Option Env} {body : Env → Mem → T Out} {h : Mem} {f : Out → T β} {R : T β} (e : σ → τ → Env) (v : α → Val) (step : σ → α → σ) {ys : List α} {s0 : σ} {t0 : τ}
    (hb : ∀ pre y post, ys = pre ++ y :: post → ∀ t, ∃ fl t', T.opt (st (v y) (e (pre.foldl step s0) t)) (fun e1 => body e1 h) = .ret (fl, e (step (pre.foldl step s0) y) t', h) ∧ (fl = .next ∨ fl = .cont ∨ fl = .brk ∧ ∀ z ∈ post, step (step (pre.foldl step s0) y) z = step (pre.foldl step s0) y))
    (fin : ∀ t, f (.next, e (ys.foldl step s0) t, h) = R) : (forL st body (ys.map v) (e s0 t0) h).bind f = R := by
  obtain ⟨t, q⟩ := forL_BE e v step (t0 := t0) hb
  rw [q]
  exact fin t
theorem forL_BW {σ τ α : Type} {st : Val → Env → Option Env} {body : Env → Mem → T Out} {h : Mem} {Q : Out → Prop} (e : σ → τ → Env) (v : α → Val) (step : σ → α → σ) {ys : List α} {s0 : σ} {t0 : τ}
    (hb : ∀ pre y post, ys = pre ++ y :: post → ∀ t, ∃ fl t', T.opt (st (v y) (e (pre.foldl step s0) t)) (fun e1 => body e1 h) = .ret (fl, e (step (pre.foldl step s0) y) t', h) ∧ (fl = .next ∨ fl = .cont ∨ fl = .brk ∧ ∀ z ∈ post, step (step (pre.foldl step s0) y) z = step (pre.foldl step s0) y))
    (fin : ∀ t, Q (.next, e (ys.foldl step s0) t, h)) : (forL st body (ys.map v) (e s0 t0) h).W Q := by
  obtain ⟨t, q⟩ := forL_BE e v step (t0 := t0) hb
  rw [q]
  exact T.W_ret.mpr (fin t)
def oS : Option Val → Slot | none => .emp | some v => .val v
theorem isOwn_oS {t : Option Val} : isOwn (some (oS t)) = false := by cases t <;> rfl
theorem draw_nat {α : Type} {m : Int} {K : Int → T α} {Q : α → Prop} (h : 0 < m) (k : ∀ d : Nat, (d : Int) < m → (K d).W Q) : (T.draw m K).W Q := by
  rw [T.draw_W]
  refine ⟨h, fun d d0 d1 => ?_⟩
  obtain ⟨e, rfl⟩ : ∃ e : Nat, d = e := ⟨d.toNat, by omega⟩
  exact k e d1
theorem ok_draw {m : Int} (h1 : 0 < m) (h2 : m < 1073741824) : (decide (0 < m) && decide (m < 1073741824)) = true := by simp [h1, h2]
theorem compF_WM {α β ρ : Type} {s : α → Mem → T (Option β × Mem)} (v : ρ → β) (G : α → ρ → Prop) {Q : List β × Mem → Prop} : ∀ {ys : List α} {h : Mem}, (∀ y ∈ ys, (s y h).W fun p => p.2 = h ∧ ∃ r, p.1 = some (v r) ∧ G y r) → (∀ rs : List ρ, rs.length = ys.length → (∀ (i : Nat) (y : α) (r : ρ), ys[i]? = some y → rs[i]? = some r → G y r) → Q (rs.map v, h)) → (compF s ys h).W Q
  | [], h, _, hq => T.W_ret.mpr (hq [] rfl (fun i y b m => by cases m))
  | y :: ys, h, h1, hq => by
    simp only [compF, T.W_bind]
    refine T.W_mono (h1 y List.mem_cons_self) fun p ⟨e1, b, e2, g⟩ => ?_
    rw [e1, e2]
    refine compF_WM v G (fun z m => h1 z (List.mem_cons_of_mem _ m)) fun bs hl hb => ?_
    rw [T.W_ret]
    refine hq (b :: bs) (by simp [hl]) fun i z c m1 m2 => ?_
    cases i with
    | zero => cases m1; cases m2; exact g
    | succ i => exact hb i z c (by simpa using m1) (by simpa using m2)
/-- .. with a test that draws -/
theorem compF_WS {α β ρ : Type} {s : α → Mem → T (Option β × Mem)} (v : ρ → β) (G : α → ρ → Prop) {Q : List β × Mem → Prop} : ∀ {ys : List α} {h : Mem}, (∀ y ∈ ys, (s y h).W fun p => p.2 = h ∧ (p.1 = none ∨ ∃ r, p.1 = some (v r) ∧ G y r)) → (∀ rs : List ρ, rs.length ≤ ys.length → (∀ r ∈ rs, ∃ y ∈ ys, G y r) → Q (rs.map v, h)) → (compF s ys h).W Q
  | [], h, _, hq => T.W_ret.mpr (hq [] (Nat.le_refl _) (fun r m => by cases m))
  | y :: ys, h, h1, hq => by
    simp only [compF, T.W_bind]
    refine T.W_mono (h1 y List.mem_cons_self) fun p ⟨e1, e2⟩ => ?_
    rw [e1]
    refine compF_WS v G (fun z m => h1 z (List.mem_cons_of_mem _ m)) fun bs hl hb => ?_
    rw [T.W_ret]
    rcases e2 with e2 | ⟨r, e2, g⟩
    · rw [e2]
      exact hq bs (by simp; omega) fun r m => (hb r m).elim fun y ⟨m1, m2⟩ => ⟨y, List.mem_cons_of_mem _ m1, m2⟩
    · rw [e2]
      refine hq (r :: bs) (by simp [hl]) fun x m => ?_
      rcases List.mem_cons.mp m with rfl | m
      · exact ⟨y, List.mem_cons_self, g⟩
      · obtain ⟨z, m1, m2⟩ := hb x m
        exact ⟨z, List.mem_cons_of_mem _ m1, m2⟩
theorem shr_nat {a k : Nat} : Bn.ap .shr (.v (.int (a : Nat))) (.v (.int (k : Nat))) = some (.v (.int ((a / 2 ^ k : Nat) : Int))) := by
  show ((if (0 : Int) ≤ (k : Nat) then some (Val.int ((a : Int) / 2 ^ ((k : Nat) : Int).toNat)) else none).map Rv.v) = _
  rw [if_pos (by omega)]
  simp
theorem band_nat {a b : Nat} : Bn.ap .band (.v (.int (a : Nat))) (.v (.int (b : Nat))) = some (.v (.int ((Nat.land a b : Nat) : Int))) := by
  show ((if (0 : Int) ≤ (a : Nat) ∧ (0 : Int) ≤ (b : Nat) then some (Val.int (Nat.land (a : Int).toNat (b : Int).toNat : Nat)) else none).map Rv.v) = _
  rw [if_pos ⟨by omega, by omega⟩]
  rfl
theorem shl_nat {a k : Nat} (hk : k ≤ 1000) (ha : a < 2 ^ 64) : Bn.ap .shl (.v (.int (a : Nat))) (.v (.int (k : Nat))) = some (.v (.int ((a * 2 ^ k : Nat) : Int))) := by
  show ((if (0 : Int) ≤ (k : Nat) ∧ ((k : Nat) : Int) ≤ 1000 ∧ (a : Int).natAbs < 2 ^ 64 then some (Val.int ((a : Int) * 2 ^ ((k : Nat) : Int).toNat)) else none).map Rv.v) = _
  rw [if_pos ⟨by omega, by omega, by simpa using ha⟩]
  simp
theorem ne_unit {n : Bool} {xs : List Val} {d : Nat} (hd : d ≤ 40) (h : Val.plain d (.tup xs) = true) : eqV n (.v (.tup xs)) (.v (.tup [])) = some (.v (.bl (if n = true then !xs.isEmpty else xs.isEmpty))) := by
  unfold eqV
  have : okP (Rv.v (.tup xs)).arg (Rv.v (.tup [])).arg = true := okP_of hd h (by cases d <;> simp [Rv.arg, Val.plain, Val.plains] at h ⊢)
  simp only [Rv.arg] at this ⊢
  simp only [this, if_true, Val.eq]
  cases xs <;> cases n <;> rfl
/-- a loop by its state -/
theorem forL_TE {σ τ α : Type} {st : Val → Env → Option Env} {body : Env → Mem → T Out} {h : Mem} (e : σ → τ → Env) (v : α → Val) (step : σ → α → σ) (tmp : σ → α → τ) {ys : List α} {s0 : σ} {t0 : τ}
    (hb : ∀ pre y post, ys = pre ++ y :: post → ∀ t, T.opt (st (v y) (e (pre.foldl step s0) t)) (fun e1 => body e1 h) = .ret (.next, e (step (pre.foldl step s0) y) (tmp (pre.foldl step s0) y), h)) : ∃ t, forL st body (ys.map v) (e s0 t0) h = .ret (.next, e (ys.foldl step s0) t, h) := by
  have key : ∀ (zs pre : List α) (t : τ), ys = pre ++ zs → ∃ t', forL st body (zs.map v) (e (pre.foldl step s0) t) h = .ret (.next, e (ys.foldl step s0) t', h) := fun zs => by
    induction zs with
    | nil =>
      intro pre t e1
      rw [List.append_nil] at e1
      subst e1
      exact ⟨t, rfl⟩
    | cons z zs ih =>
      intro pre t e1
      have := hb pre z zs e1 t
      simp only [List.map_cons, forL]
      cases hs : st (v z) (e (pre.foldl step s0) t) with
      | none => rw [hs] at this; cases this
      | some e2 =>
        rw [hs] at this
        simp only [T.opt_some] at this ⊢
        rw [this, T.ret_bind, go_next]
        have := ih (pre ++ [z]) (tmp (pre.foldl step s0) z) (by rw [e1]; simp)
        rwa [List.foldl_append] at this
  exact key ys [] t0 rfl
theorem forL_T {σ τ α β : Type} {st : Val → Env → Option Env} {body : Env → Mem → T Out} {h : Mem} {f : Out → T β} {R : T β} (e : σ → τ → Env) (v : α → Val) (step : σ → α → σ) (tmp : σ → α → τ) {ys : List α} {s0 : σ} {t0 : τ}
    (hb : ∀ pre y post, ys = pre ++ y :: post → ∀ t, T.opt (st (v y) (e (pre.foldl step s0) t)) (fun e1 => body e1 h) = .ret (.next, e (step (pre.foldl step s0) y) (tmp (pre.foldl step s0) y), h))
    (fin : ∀ t, f (.next, e (ys.foldl step s0) t, h) = R) : (forL st body (ys.map v) (e s0 t0) h).bind f = R := by
  obtain ⟨t, q⟩ := forL_TE e v step tmp (t0 := t0) hb
  rw [q]
  exact fin t
theorem forL_TW {σ τ α : Type} {st : Val → Env → Option Env} {body : Env → Mem → T Out} {h : Mem} {Q : Out → Prop} (e : σ → τ → Env) (v : α → Val) (step : σ → α → σ) (tmp : σ → α → τ) {ys : List α} {s0 : σ} {t0 : τ}
    (hb : ∀ pre y post, ys = pre ++ y :: post → ∀ t, T.opt (st (v y) (e (pre.foldl step s0) t)) (fun e1 => body e1 h) = .ret (.next, e (step (pre.foldl step s0) y) (tmp (pre.foldl step s0) y), h))
    (fin : ∀ t, Q (.next, e (ys.foldl step s0) t, h)) : (forL st body (ys.map v) (e s0 t0) h).W Q := by
  obtain ⟨t, q⟩ := forL_TE e v step tmp (t0 := t0) hb
  rw [q]
  exact T.W_ret.mpr (fin t)
/-- a while by a measure -/
theorem whileL_W {test : Env → Mem → T (Rv × Mem)} {body : Env → Mem → T Out} {Q : Out → Prop} (I : Nat → Env → Mem → Prop) : ∀ {fuel m : Nat} {env : Env} {h : Mem}, m < fuel → I m env h →
    (∀ m e h, I m e h → (test e h).W fun p => p.2 = h ∧ ∃ b, p.1.truth = some b ∧ if b = true then ∃ m', m = m' + 1 ∧ (body e h).W (fun o => o.1 = .next ∧ I m' o.2.1 o.2.2) else Q (.next, e, h)) → (whileL test body fuel env h).W Q
  | 0, m, env, h, hm, _, _ => absurd hm (Nat.not_lt_zero m)
  | fuel + 1, m, env, h, hm, hi, hs => by
    simp only [whileL, T.W_bind]
    refine T.W_mono (hs m env h hi) fun p ⟨e1, b, e2, q⟩ => ?_
    rw [e2, e1]
    cases b with
    | false => exact T.W_ret.mpr (by simpa using q)
    | true =>
      obtain ⟨m', e3, w⟩ := (show ∃ m', m = m' + 1 ∧ _ by simpa using q)
      show (T.bind _ _).W Q
      rw [T.W_bind]
      refine T.W_mono w fun o ⟨f1, f2⟩ => ?_
      obtain ⟨fl, e', h'⟩ := o
      cases f1
      exact whileL_W I (by omega) f2 hs
theorem forL_WI {st : Val → Env → Option Env} {body : Env → Mem → T Out} {xs : List Val} {env : Env} {h : Mem} {Q : Out → Prop} (I : Nat → Env → Mem → Prop) (h0 : I 0 env h)
    (step : ∀ i x e m, xs[i]? = some x → I i e m → (T.opt (st x e) fun e1 => body e1 m).W fun o => o.1 = .next ∧ I (i + 1) o.2.1 o.2.2) (hend : ∀ e m, I xs.length e m → Q (.next, e, m)) : (forL st body xs env h).W Q := by
  refine ⟨forL_inv I h0 (fun i x e m h1 h2 => ?_) hend⟩
  have := step i x e m h1 h2
  cases hs : st x e with
  | none => rw [hs] at this; exact this.wp.elim
  | some e1 => rw [hs] at this; exact ⟨e1, rfl, this.wp⟩
theorem foldl_app {α β : Type} (g : α → List β) : ∀ (xs : List α) (s : List β), xs.foldl (fun s i => s ++ g i) s = s ++ xs.flatMap g
  | [], s => by simp
  | x :: xs, s => by simp [foldl_app g xs, List.append_assoc]
/-- a loop that may end early with one answer -/
theorem forL_allB {α β : Type} {st : Val → Env → Option Env} {body : Env → Mem → T Out} {h : Mem} {f : Out → T β} {R : T β} (e : Slot → Env) (v : α → Val) (p : α → Bool) (r : Rv) {ys : List α} {s : Slot} (h0 : isOwn (some s) = false)
    (step : ∀ y ∈ ys, ∀ s, T.opt (st (v y) (e s)) (fun e1 => body e1 h) = if p y = true then .ret (.next, e (.val (v y)), h) else .ret (.ret r, e (.val (v y)), h))
    (fin : ∀ s', isOwn (some s') = false → (if ys.all p = true then f (.next, e s', h) else f (.ret r, e s', h)) = R) : (forL st body (ys.map v) (e s) h).bind f = R := by
  obtain ⟨s', i, q⟩ := forL_all (s := s) e v p r h0 step
  rw [q, T.ite_bind]
  exact fin s' i
/-- some are left out by draws -/
theorem compF_Wsub {α β : Type} {s : α → Mem → T (Option β × Mem)} (v : α → β) {Q : List β × Mem → Prop} : ∀ {ys : List α} {h : Mem}, (∀ y ∈ ys, (s y h).W fun p => p.2 = h ∧ (p.1 = none ∨ p.1 = some (v y))) → (∀ rs : List α, rs.Sublist ys → Q (rs.map v, h)) → (compF s ys h).W Q
  | [], h, _, hq => T.W_ret.mpr (hq [] (List.Sublist.refl _))
  | y :: ys, h, h1, hq => by
    simp only [compF, T.W_bind]
    refine T.W_mono (h1 y List.mem_cons_self) fun p ⟨e1, e2⟩ => ?_
    rw [e1]
    refine compF_Wsub v (fun z m => h1 z (List.mem_cons_of_mem _ m)) fun rs hl => ?_
    rw [T.W_ret]
    rcases e2 with e2 | e2
    · rw [e2]; exact hq rs (hl.cons _)
    · rw [e2]; exact hq (y :: rs) (hl.cons₂ _)
/-- a loop that returns the first thing found -/
theorem forL_someE {τ α : Type} {st : Val → Env → Option Env} {body : Env → Mem → T Out} {h : Mem} (e : τ → Env) (v : α → Val) (g : α → Option Rv) (tmp : α → τ) : ∀ {ys : List α} {t : τ},
    (∀ y ∈ ys, ∀ t, T.opt (st (v y) (e t)) (fun e1 => body e1 h) = .ret ((match g y with | some r => .ret r | none => .next), e (tmp y), h)) →
    ∃ t', forL st body (ys.map v) (e t) h = .ret ((match ys.findSome? g with | some r => .ret r | none => .next), e t', h)
  | [], t, _ => ⟨t, rfl⟩
  | y :: ys, t, hb => by
    have h1 := hb y List.mem_cons_self t
    simp only [List.map_cons, forL, List.findSome?_cons]
    cases hs : st (v y) (e t) with
    | none => rw [hs] at h1; cases h1
    | some e2 =>
      rw [hs] at h1
      simp only [T.opt_some] at h1 ⊢
      rw [h1, T.ret_bind]
      cases hg : g y with
      | some r => exact ⟨tmp y, rfl⟩
      | none => exact forL_someE e v g tmp fun z m => hb z (List.mem_cons_of_mem _ m)
theorem forL_some {τ α β : Type} {st : Val → Env → Option Env} {body : Env → Mem → T Out} {h : Mem} {f : Out → T β} {R : T β} (e : τ → Env) (v : α → Val) (g : α → Option Rv) (tmp : α → τ) {ys : List α} {t : τ}
    (hb : ∀ y ∈ ys, ∀ t, T.opt (st (v y) (e t)) (fun e1 => body e1 h) = .ret ((match g y with | some r => .ret r | none => .next), e (tmp y), h))
    (fin : ∀ t', f ((match ys.findSome? g with | some r => .ret r | none => .next), e t', h) = R) : (forL st body (ys.map v) (e t) h).bind f = R := by
  obtain ⟨t', q⟩ := forL_someE (t := t) e v g tmp hb
  rw [q]
  exact fin t'
/-- known answers: what is told, whether it stood there or not -/
theorem memo_W {c : Ctx} {env : Env} {h : Mem} {i n : Nat} {key v : E} {body : Ss} {kv : Val} {Q : Out → Prop} (hk : keyOk c.M kv = true) (ek : ∀ h, ev c key env h = .ret (.v kv, h)) (ei : env[i]? = some (.val (.ref n)))
    (hb : (exs c body env h).W fun o => o.1 = .next ∧ o.2.2 = h ∧ o.2.1[i]? = some (.val (.ref n)) ∧ (∀ h, ev c key o.2.1 h = .ret (.v kv, h)) ∧ ∀ h, ev c v o.2.1 h = .ret (.v (c.M.D kv), h))
    (hQ : ∀ e, Q (.ret (.v (c.M.D kv)), e, h)) : (ex c (.memo i key body v) env h).W Q := by
  have mk : memoK c.M (.v kv) (.v (.ref n)) = some kv := (show (if keyOk c.M kv = true then some kv else none) = _ from if_pos hk)
  have l1 : loadS (some (Slot.val (.ref n))) = some (.v (.ref n)) := rfl
  rw [ex, ek, T.ret_bind, ei, l1, T.opt_some, mk, T.opt_some]
  refine ⟨by decide, fun b b0 b1 => ?_⟩
  have : b = 0 ∨ b = 1 := by omega
  rcases this with rfl | rfl
  · simp only [decide_true, ek, T.ret_bind, mk, T.opt_some, Val.beq_self, T.iff_if, if_true]
    exact hQ _
  · simp only [show decide ((1 : Int) = 0) = false from rfl]
    rw [T.wp_bind]
    refine T.wp_mono hb.wp fun o ⟨q1, q2, q3, q4, q5⟩ => ?_
    obtain ⟨fl, e, h'⟩ := o
    simp only at q1 q2 q3 q4 q5
    subst q1 q2
    simp only [go_next, q5, T.ret_bind, q3, l1, T.opt_some, q4, mk, Rv.store, Val.beq_self, T.iff_if, if_true]
    exact hQ _
end MP
end
section
set_option linter.all false
set_option maxRecDepth 100000
namespace MP
def bEV := And.intro @e_memo (And.intro @e_const (And.intro @e_glob (And.intro @e_var (And.intro @e_tup (And.intro @e_list (And.intro @e_un (And.intro @e_bin (And.intro @e_chain (And.intro @e_slc (And.intro @e_and (And.intro @e_or (And.intro @e_not (And.intro @e_ite (And.intro @e_app (And.intro @e_meth (And.intro @e_call (And.intro @e_draw (And.intro @e_comp (And.intro @e_comp2 (And.intro @e_nil (And.intro @e_cons (And.intro @e_tnil (And.intro @e_tcons (And.intro @e_no (And.intro @e_so (And.intro @e_seq (And.intro @e_rng1 (And.intro @e_rng2 (And.intro @e_enum (And.intro @e_zip (And.intro @s_nil (And.intro @s_cons (And.intro @s_asg (And.intro @s_par (And.intro @s_ret (And.intro @s_retOwn (And.intro @s_retN (And.intro @s_if (And.intro @s_for (And.intro @s_while (And.intro @s_append (And.intro @s_extend (And.intro @s_setIdx (And.intro @s_popAt (And.intro @s_popPar (And.intro @s_insert (And.intro @s_aug (And.intro @s_augIdx (And.intro @s_freeze (And.intro @s_forget (And.intro @s_pass (And.intro @s_brk (And.intro @s_cont (@e_rngL))))))))))))))))))))))))))))))))))))))))))))))))))))))
def bR := And.intro @T.ret_bind (And.intro @T.bad_bind (And.intro @T.ite_bind (And.intro @T.opt_some (And.intro @T.opt_none (And.intro @T.opt_ite (And.intro @T.iff_if (And.intro @noLst_bl (And.intro @noLst_int (And.intro @noLst_str (And.intro @noLst_non (And.intro @compF_map (And.intro @compF_all (And.intro @compF_if (And.intro @compF_ifn (And.intro @compF_nil (And.intro @compF_cons (And.intro @isOwn_oS (And.intro @rngR_t (And.intro @rngR_f (And.intro @lp_eq (And.intro @lp_next (And.intro @lp_cont (And.intro @lp_brk (And.intro @lp_ret (And.intro @then_next (And.intro @then_ret (And.intro @then_brk (And.intro @then_cont (And.intro @frz_some (And.intro @frz_none (And.intro @blO_bl (And.intro @endF_next (And.intro @endF_ret (And.intro @enumF_map (And.intro @zipIdx_map' (And.intro @rngF_0 (And.intro @getE_map (And.intro @len_tup (And.intro @len_lst (And.intro @len_new (And.intro @len_vw (And.intro @tup_tup (And.intro @tup_lst (And.intro @tup_new (And.intro @tup_vw (And.intro @optT_tup (And.intro @optT_lst (And.intro @optT_new (And.intro @optI_int (And.intro @decide_b (And.intro @boolsOf_map (And.intro @intsOf_map (And.intro @intsOf_id (And.intro @boolsOf_id (And.intro @any_id (And.intro @all_id (And.intro @all_tt (And.intro @any_ff (And.intro @ite_and' (And.intro @ite_or' (And.intro @ret_some_if (And.intro @ret_and (And.intro @ret_or (And.intro @truth_non (And.intro @truth_bl (And.intro @truth_int (And.intro @truth_str (And.intro @truth_tup (And.intro @truth_lst (And.intro @truth_new (And.intro @truth_vw (And.intro @items_tup (And.intro @items_lst (And.intro @lstof_lst (And.intro @items_new (And.intro @lstof_new (And.intro @items_vw (And.intro @lstof_vw (And.intro @items0_non (And.intro @items0_bl (And.intro @items0_int (And.intro @items0_str (And.intro @items0_ref (And.intro @items0_box (And.intro @items0_fn (And.intro @lst0_non (And.intro @lst0_bl (And.intro @lst0_int (And.intro @lst0_str (And.intro @lst0_tup (And.intro @lst0_ref (And.intro @lst0_box (And.intro @lst0_fn (And.intro @store_v (And.intro @store_new (And.intro @arg_v (And.intro @arg_new (And.intro @arg_vw (And.intro @isVw_v (And.intro @isVw_new (And.intro @isVw_vw (And.intro @stores_nil (And.intro @stores_v (And.intro @stores_new (And.intro @outV_v (And.intro @outV_new (And.intro @loadS_val (And.intro @loadS_own (And.intro @ownS_O (And.intro @ownO_own (And.intro @ownO_val (And.intro @ownO_emp (And.intro @noOwn_nil (And.intro @noOwn_cons (And.intro @isOwn_emp (And.intro @isOwn_val (And.intro @isOwn_own (And.intro @wipe_nil (And.intro @wipe_cons (And.intro @tg_var (And.intro @tg_tup (And.intro @tgs_nil (And.intro @tgs_cons (And.intro @asg_var (And.intro @asg_tup (And.intro @bind_v (And.intro @bind_new (And.intro @binds_nil (And.intro @binds_cons (And.intro @uneg_int (And.intro @isN_non (And.intro @notN_non (And.intro @isN_bl (And.intro @notN_bl (And.intro @isN_int (And.intro @notN_int (And.intro @isN_str (And.intro @notN_str (And.intro @isN_tup (And.intro @notN_tup (And.intro @isN_lst (And.intro @notN_lst (And.intro @isN_new (And.intro @notN_new (And.intro @isN_vw (And.intro @notN_vw (And.intro @un_isT (And.intro @un_notT (And.intro @un_isF (And.intro @un_notF (And.intro @rev_tup (And.intro @rev_lst (And.intro @rev_new (And.intro @add_int (And.intro @sub_int (And.intro @add_tup (And.intro @add_str (And.intro @add_lst_lst (And.intro @add_lst_new (And.intro @add_lst_vw (And.intro @add_new_lst (And.intro @add_new_new (And.intro @add_new_vw (And.intro @add_vw_lst (And.intro @add_vw_new (And.intro @add_vw_vw (And.intro @fdiv_int (And.intro @mod_int (And.intro @lt_int (And.intro @le_int (And.intro @gt_int (And.intro @ge_int (And.intro @ap_eq (And.intro @ap_ne (And.intro @eq_int (And.intro @decide_nat (And.intro @eq_pair (And.intro @eq_bl (And.intro @eq_non (And.intro @eq_non_int (And.intro @eq_int_non (And.intro @len_str (And.intro @list_tup (And.intro @summ_tup (And.intro @max_tup (And.intro @min_tup (And.intro @sorted_tup (And.intro @list_lst (And.intro @summ_lst (And.intro @any_lst (And.intro @all_lst (And.intro @max_lst (And.intro @min_lst (And.intro @sorted_lst (And.intro @list_new (And.intro @summ_new (And.intro @any_new (And.intro @all_new (And.intro @max_new (And.intro @min_new (And.intro @sorted_new (And.intro @list_vw (And.intro @summ_vw (And.intro @any_vw (And.intro @all_vw (And.intro @max_vw (And.intro @min_vw (And.intro @sorted_vw (And.intro @sortSet_tup (And.intro @maxR_O (And.intro @minR_O (And.intro @maxO_i (And.intro @minO_i (And.intro @max2_int (And.intro @min2_int (And.intro @int_int (And.intro @int_bl (And.intro @abs_int (And.intro @str_int (And.intro @isint_non (And.intro @isbool_non (And.intro @isstr_non (And.intro @istuple_non (And.intro @islist_non (And.intro @isint_bl (And.intro @isbool_bl (And.intro @isstr_bl (And.intro @istuple_bl (And.intro @islist_bl (And.intro @isint_int (And.intro @isbool_int (And.intro @isstr_int (And.intro @istuple_int (And.intro @islist_int (And.intro @isint_str (And.intro @isbool_str (And.intro @isstr_str (And.intro @istuple_str (And.intro @islist_str (And.intro @isint_tup (And.intro @isbool_tup (And.intro @isstr_tup (And.intro @istuple_tup (And.intro @islist_tup (And.intro @isint_lst (And.intro @isbool_lst (And.intro @isstr_lst (And.intro @istuple_lst (And.intro @islist_lst (And.intro @isint_new (And.intro @isbool_new (And.intro @isstr_new (And.intro @istuple_new (And.intro @islist_new (And.intro @isint_vw (And.intro @isbool_vw (And.intro @isstr_vw (And.intro @istuple_vw (And.intro @islist_vw (And.intro @slc_tup (And.intro @slc_str (And.intro @slc_lst (And.intro @slc_new (And.intro @slc_vw (And.intro @optT_lst_ (And.intro @optT_vwt (And.intro @boxS_box (And.intro @drawT_int (And.intro @augI_add (And.intro @augI_sub (And.intro @noLst_tup (And.intro @kTup_eq (And.intro @kList_eq (And.intro @kUn_eq (And.intro @kBin2_eq (And.intro @kBin_eq (And.intro @kCh4_eq (And.intro @kCh3_eq (And.intro @kCh2_eq (And.intro @kCh_eq (And.intro @kSlc3_eq (And.intro @kSlc2_eq (And.intro @kSlc_eq (And.intro @kAnd2_eq (And.intro @kAnd_eq (And.intro @kOr2_eq (And.intro @kOr_eq (And.intro @kNot_eq (And.intro @kIte2_eq (And.intro @kIte_eq (And.intro @kApp_eq (And.intro @kMeth2_eq (And.intro @kMeth_eq (And.intro @kCall2_eq (And.intro @kCall_eq (And.intro @kDrw2_eq (And.intro @kDrw_eq (And.intro @kRl2_eq (And.intro @kRl_eq (And.intro @kNew_eq (And.intro @kNewZ_eq (And.intro @stC_eq (And.intro @evK_eq (And.intro @evcK_eq (And.intro @kCo3_eq (And.intro @kCo2_eq (And.intro @kCo1_eq (And.intro @kCo0_eq (And.intro @kCo_eq (And.intro @kComp_eq (And.intro @kDo3_eq (And.intro @kDo2_eq (And.intro @kDo1_eq (And.intro @kDo_eq (And.intro @kFlat_eq (And.intro @kComp2_eq (And.intro @kArg2_eq (And.intro @kArg_eq (And.intro @kTst2_eq (And.intro @kTst_eq (And.intro @kEo_eq (And.intro @kSeq_eq (And.intro @kRng_eq (And.intro @kRn2_eq (And.intro @kRn_eq (And.intro @kEnum_eq (And.intro @kZip2_eq (And.intro @kZip_eq (And.intro @kNxt_eq (And.intro @kAsg_eq (And.intro @kPar_eq (And.intro @kRet_eq (And.intro @kIf2_eq (And.intro @kIf_eq (And.intro @setT_eq (And.intro @bodyK_eq (And.intro @kFor_eq (And.intro @kApnd_eq (And.intro @kExt_eq (And.intro @kSet2_eq (And.intro @kSet_eq (And.intro @kPop_eq (And.intro @kPopP4_eq (And.intro @kPopP3_eq (And.intro @kPopP2_eq (And.intro @kPopP_eq (And.intro @kIns2_eq (And.intro @kIns_eq (And.intro @kAug_eq (And.intro @kAug0_eq (And.intro @kAugI3_eq (And.intro @kAugI2_eq (And.intro @kAugI1_eq (@kAugI_eq))))))))))))))))))))))))))))))))))))))))))))))))))))))))))))))))))))))))))))))))))))))))))))))))))))))))))))))))))))))))))))))))))))))))))))))))))))))))))))))))))))))))))))))))))))))))))))))))))))))))))))))))))))))))))))))))))))))))))))))))))))))))))))))))))))))))))))))))))))))))))))))))))))))))))))))))))))))))))))))))))))))))))))))))))))))))))))))))))
end MP
end
section
set_option Elab.async false
set_option linter.all false
set_option autoImplicit false
set_option maxRecDepth 100000
set_option maxHeartbeats 4000000
/-! MPFast: the small language as closures (written by mkfast.py); for working out by the kernel. -/
namespace MP
abbrev EF := Env → Mem → T (Rv × Mem)
abbrev EsF := Env → Mem → T (List Rv × Mem)
abbrev EcF := Env → Mem → T (Bool × Mem)
abbrev EoF := Env → Mem → T (Option Int × Mem)
abbrev ItF := Bool → Env → Mem → T (List Val × Mem)
abbrev SF := Env → Mem → T Out
def evI (c : Ctx) (it : It) : ItF := fun b env h => evit c b it env h
/-! primitives by the recursors -/
noncomputable def T.bnd {α β : Type} (t : T α) (f : α → T β) : T β := T.rec (motive := fun _ => T β) (fun a => f a) .bad (fun m _ ih => .draw m ih) t
theorem bnd_eq {α β : Type} (t : T α) (f : α → T β) : t.bind f = t.bnd f := by
  induction t with
  | ret a => rfl
  | bad => rfl
  | draw m k ih => exact congrArg (T.draw m) (funext ih)
noncomputable def nth (env : Env) : Nat → Option Slot := List.rec (motive := fun _ => Nat → Option Slot) (fun _ => none) (fun x _ ih n => Nat.rec (motive := fun _ => Option Slot) (some x) (fun m _ => ih m) n) env
theorem nth_eq : ∀ (env : Env) (i : Nat), env[i]? = nth env i
  | [], i => rfl
  | x :: xs, 0 => rfl
  | x :: xs, i + 1 => by
    show _ = nth xs i
    rw [← nth_eq xs i]; rfl
noncomputable def setO (env : Env) (y : Slot) : Nat → Option Env := List.rec (motive := fun _ => Nat → Option Env) (fun _ => none) (fun x xs ih n => Nat.rec (motive := fun _ => Option Env) (some (y :: xs)) (fun m _ => (ih m).rec none fun r => some (x :: r)) n) env
theorem setO_eq : ∀ (env : Env) (y : Slot) (i : Nat), setO env y i = if i < env.length then some (List.set env i y) else none
  | [], y, i => rfl
  | x :: xs, y, 0 => by
    rw [if_pos (by simp)]; rfl
  | x :: xs, y, i + 1 => by
    show ((setO xs y i).rec none fun r => some (x :: r) : Option Env) = _
    rw [setO_eq xs y i]
    by_cases h : i < xs.length
    · rw [if_pos h, if_pos (by simpa using h)]; rfl
    · rw [if_neg h, if_neg (by simpa using h)]
noncomputable def bindF (env : Env) (i : Nat) (r : Rv) : Option Env := match r with
  | .v x => setO env (.val x) i
  | .new xs => setO env (.own (.l xs)) i
  | .vw _ => none
theorem bindF_eq (env : Env) (i : Nat) (r : Rv) : bindS env i r = bindF env i r := by
  cases r <;> simp only [bindS, bindF, setO_eq]
  split <;> rfl
noncomputable def asgF (t : Tg) (r : Rv) (env : Env) : Option Env :=
  match t with
  | .var i => bindF env i r
  | .tup ts => r.store.bind fun x => (Tg.tup ts).set x env
theorem asgF_eq (t : Tg) (r : Rv) (env : Env) : asgS t r env = asgF t r env := by
  cases t <;> simp only [asgS, asgF, bindF_eq]
noncomputable def setF (t : Tg) (x : Val) (env : Env) : Option Env :=
  match t with
  | .var i => setO env (.val x) i
  | .tup ts => (Tg.tup ts).set x env
theorem setF_eq (t : Tg) (x : Val) (env : Env) : t.set x env = setF t x env := by
  cases t with
  | var i => simp only [setF, setO_eq, Tg.set]
  | tup ts => rfl
def iLe : Int → Int → Bool
  | .ofNat a, .ofNat b => Nat.ble a b
  | .ofNat _, .negSucc _ => false
  | .negSucc _, .ofNat _ => true
  | .negSucc a, .negSucc b => Nat.ble b a
theorem iLe_eq (i j : Int) : decide (i ≤ j) = iLe i j := by
  rw [Bool.eq_iff_iff, decide_eq_true_eq]
  cases i <;> cases j <;> unfold iLe <;> (try rw [Nat.ble_eq]) <;> (try simp only [Int.ofNat_eq_natCast, Bool.false_eq_true, iff_false, iff_true]) <;> omega
theorem iLt_eq (i j : Int) : decide (i < j) = !iLe j i := by
  rw [← iLe_eq, Bool.eq_iff_iff]
  simp only [decide_eq_true_eq, Bool.not_eq_true', decide_eq_false_iff_not]
  omega
def iEq : Int → Int → Bool
  | .ofNat a, .ofNat b => Nat.beq a b
  | .negSucc a, .negSucc b => Nat.beq a b
  | _, _ => false
theorem iEq_eq (i j : Int) : (i == j) = iEq i j := by
  rw [Bool.eq_iff_iff, beq_iff_eq]
  cases i <;> cases j <;> unfold iEq <;> (try rw [Nat.beq_eq]) <;> (try simp only [Int.ofNat_eq_natCast, Bool.false_eq_true, iff_false]) <;> omega
def ltF (r q : Rv) : Option Rv := match r, q with
  | .v (.int i), .v (.int j) => some (.v (.bl (!iLe j i)))
  | r, q => ltV r q
theorem ltF_eq (r q : Rv) : ltV r q = ltF r q := by
  unfold ltF
  split
  · simp only [ltV, iLt_eq]
  · rfl
def cmpF (f : Int → Int → Bool) (g : List Int → List Int → Bool) (r q : Rv) : Option Rv := match r, q with
  | .v (.int i), .v (.int j) => some (.v (.bl (f i j)))
  | r, q => cmpV (fun i j => f i j) g r q
theorem cmpF_eq {f f' : Int → Int → Bool} (h : ∀ i j, f i j = f' i j) (g : List Int → List Int → Bool) (r q : Rv) : cmpV f g r q = cmpF f' g r q := by
  have e : f = f' := by funext i j; exact h i j
  subst e
  unfold cmpF
  split
  · rfl
  · rfl
def placeF (n : Nat) : Int → Option Nat
  | .ofNat k => match Nat.blt k n with
    | true => some k
    | false => none
  | .negSucc k => match Nat.blt k n with
    | true => some (n - 1 - k)
    | false => none
theorem placeF_eq (n : Nat) (i : Int) : place n i = placeF n i := by
  cases i with
  | ofNat k =>
    unfold place placeF
    rw [if_pos (by simp)]
    dsimp only []
    by_cases h : k < n
    · rw [if_pos (by simpa using h), show Nat.blt k n = true by simpa [Nat.blt_eq] using h]; simp
    · rw [if_neg (by simpa using h), show Nat.blt k n = false by rw [← Bool.not_eq_true, Nat.blt_eq]; exact h]
  | negSucc k =>
    unfold place placeF
    rw [if_neg (by omega)]
    dsimp only []
    by_cases h : k < n
    · rw [if_pos (by omega), show Nat.blt k n = true by simpa [Nat.blt_eq] using h]
      show some _ = some _
      congr 1
      omega
    · rw [if_neg (by omega), show Nat.blt k n = false by rw [← Bool.not_eq_true, Nat.blt_eq]; exact h]
noncomputable def vnth (xs : List Val) : Nat → Option Val := List.rec (motive := fun _ => Nat → Option Val) (fun _ => none) (fun x _ ih n => Nat.rec (motive := fun _ => Option Val) (some x) (fun m _ => ih m) n) xs
theorem vnth_eq : ∀ (xs : List Val) (i : Nat), xs[i]? = vnth xs i
  | [], i => rfl
  | x :: xs, 0 => rfl
  | x :: xs, i + 1 => by
    show _ = vnth xs i
    rw [← vnth_eq xs i]; rfl
noncomputable def vlen (xs : List Val) : Nat := List.rec 0 (fun _ _ n => Nat.succ n) xs
theorem vlen_eq : ∀ xs : List Val, xs.length = vlen xs
  | [] => rfl
  | x :: xs => congrArg Nat.succ (vlen_eq xs)
noncomputable def idxF (r q : Rv) : Option Rv := match r, q with
  | .v (.tup xs), .v (.int i) => (placeF (vlen xs) i).rec none fun k => (vnth xs k).rec none fun x => some (.v x)
  | .vw xs, .v (.int i) => (placeF (vlen xs) i).rec none fun k => (vnth xs k).rec none fun x => some (.v x)
  | r, q => idxV r q
theorem idxF_eq (r q : Rv) : idxV r q = idxF r q := by
  unfold idxF
  split
  · simp only [idxV, Rv.items, placeF_eq, vnth_eq, vlen_eq]
    cases placeF _ _ with
    | none => rfl
    | some k =>
      simp only [Option.bind_some]
      cases vnth _ k <;> rfl
  · simp only [idxV, Rv.items, placeF_eq, vnth_eq, vlen_eq]
    cases placeF _ _ with
    | none => rfl
    | some k =>
      simp only [Option.bind_some]
      cases vnth _ k <;> rfl
  · rfl
def smallF : Int → Bool
  | .ofNat k => Nat.blt k 1000000
  | .negSucc k => Nat.blt k 999999
theorem smallF_eq (i : Int) : smallI i = smallF i := by
  unfold smallI
  cases i with
  | ofNat k => rw [Bool.eq_iff_iff]; simp only [smallF, Nat.blt_eq, Bool.and_eq_true, decide_eq_true_eq, Int.ofNat_eq_natCast]; omega
  | negSucc k => rw [Bool.eq_iff_iff]; simp only [smallF, Nat.blt_eq, Bool.and_eq_true, decide_eq_true_eq]; omega
noncomputable def noOwnF (env : Env) (is : List Nat) : Bool := List.rec true (fun i _ ih => match nth env i with
  | some (.own _) => false
  | _ => ih) is
theorem noOwnF_eq (env : Env) : ∀ is : List Nat, noOwn env is = noOwnF env is
  | [] => rfl
  | i :: is => by
    have ih := noOwnF_eq env is
    show (_ && noOwn env is) = (match nth env i with | some (.own _) => false | _ => noOwnF env is)
    rw [ih]
    dsimp only []
    rw [nth_eq]
    split <;> simp_all
noncomputable def wipeF (env : Env) (is : List Nat) : Env := List.rec env (fun i _ ih => (setO ih .emp i).rec ih fun e => e) is
theorem wipeF_eq (env : Env) : ∀ is : List Nat, wipeE env is = wipeF env is
  | [] => rfl
  | i :: is => by
    have ih := wipeF_eq env is
    show List.set (wipeE env is) i .emp = (setO (wipeF env is) .emp i).rec (wipeF env is) fun e => e
    rw [← ih, setO_eq]
    by_cases h : i < (wipeE env is).length
    · rw [if_pos h]
    · rw [if_neg h]
      exact List.set_eq_of_length_le (by omega)
noncomputable def envF (args : List Val) (k : Nat) : Env := List.rec (Nat.rec [] (fun _ ih => .emp :: ih) k) (fun x _ ih => .val x :: ih) args
theorem envF_eq : ∀ (args : List Val) (k : Nat), args.map Slot.val ++ List.replicate k .emp = envF args k
  | [], 0 => rfl
  | [], k + 1 => congrArg (Slot.emp :: ·) (envF_eq [] k)
  | x :: xs, k => congrArg (Slot.val x :: ·) (envF_eq xs k)
def eqI (neg : Bool) (i j : Int) : Val := .bl (match neg with
  | true => !iEq i j
  | false => iEq i j)
def eqF (neg : Bool) (r q : Rv) : Option Rv := match r, q with
  | .v (.int i), .v (.int j) => some (.v (eqI neg i j))
  | .v .non, .v (.int _) => some (.v (.bl neg))
  | r, q => eqV neg r q
theorem eqF_eq (neg : Bool) (r q : Rv) : eqV neg r q = eqF neg r q := by
  unfold eqF
  split
  · rename_i i j
    have := iEq_eq i j
    cases neg <;> simp [eqV, okP, Rv.arg, Val.plain, Val.eq, eqI, deepMax, this]
  · simp [eqV, okP, Rv.arg, Val.plain, Val.eq, deepMax]
  · rfl
noncomputable def apF : Bn → Rv → Rv → Option Rv
  | .eq => eqF false
  | .ne => eqF true
  | .lt => ltF
  | .le => cmpF iLe fun x y => !lexLt y x
  | .gt => cmpF (fun i j => !iLe i j) fun x y => lexLt y x
  | .ge => cmpF (fun i j => iLe j i) fun x y => !lexLt x y
  | .idx => idxF
  | o => o.ap
theorem apF_eq (o : Bn) (r q : Rv) : o.ap r q = apF o r q := by
  cases o <;> first | rfl | exact eqF_eq _ r q | exact idxF_eq r q | exact ltF_eq r q | exact cmpF_eq (fun i j => by first | exact iLe_eq _ _ | exact iLt_eq _ _) _ r q
/-- the items one by one -/
noncomputable def compG (st : Val → Option Env) (test : Env → Mem → T (Bool × Mem)) (elt : Env → Mem → T (Rv × Mem)) (xs : List Val) : Mem → T (List Val × Mem) :=
  List.rec (motive := fun _ => Mem → T (List Val × Mem)) (fun h => .ret ([], h)) (fun x _ ih h => T.opt (st x) fun env => (test env h).bnd fun p => match p.1 with
      | true => (elt env p.2).bnd fun q => T.opt q.1.store fun y => (ih q.2).bnd fun r => .ret (y :: r.1, r.2)
      | false => ih p.2) xs
theorem compG_eq (st : Val → Option Env) (test : Env → Mem → T (Bool × Mem)) (elt : Env → Mem → T (Rv × Mem)) : ∀ (xs : List Val) (h : Mem), compL st test elt xs h = compG st test elt xs h
  | [], h => rfl
  | x :: xs, h => by
    have ih := compG_eq st test elt xs
    show _ = T.opt (st x) _
    simp only [compL, bnd_eq]
    cases st x with
    | none => rfl
    | some env =>
      simp only [T.opt]
      congr 1
      funext p
      obtain ⟨b, h'⟩ := p
      cases b with
      | true =>
        simp only []
        congr 1
        funext q
        cases q.1.store with
        | none => rfl
        | some y => simp only [T.opt, ih q.2]; rfl
      | false => exact ih h'
noncomputable def forG (st : Val → Env → Option Env) (body : Env → Mem → T Out) (xs : List Val) : Env → Mem → T Out :=
  List.rec (motive := fun _ => Env → Mem → T Out) (fun env h => .ret (.next, env, h)) (fun x _ ih env h => T.opt (st x env) fun e => (body e h).bnd fun o => Fl.go o (fun e h => ih e h) (fun e h => ih e h) fun e h => .ret (.next, e, h)) xs
theorem forG_eq (st : Val → Env → Option Env) (body : Env → Mem → T Out) : ∀ (xs : List Val) (env : Env) (h : Mem), forL st body xs env h = forG st body xs env h
  | [], env, h => rfl
  | x :: xs, env, h => by
    have ih : forL st body xs = forG st body xs := by funext e h; exact forG_eq st body xs e h
    show _ = T.opt (st x env) _
    simp only [forL, bnd_eq, ih]
    rfl
noncomputable def fE_memo (c : Ctx)  : EF := fun _ h => .ret (.v (.ref 0), h)
theorem qE_memo (c : Ctx)  : ev c (.memo) = fE_memo c  := by
  funext env h; rw [ev]; unfold fE_memo; try simp only [bnd_eq, nth_eq, asgF_eq, bindF_eq, apF_eq, compG_eq, forG_eq, setF_eq, noOwnF_eq, wipeF_eq, smallF_eq, placeF_eq]
  first | rfl | done
noncomputable def fE_const (c : Ctx) (x : Val) : EF := fun _ h => .ret (.v x, h)
theorem qE_const (c : Ctx) (x : Val) : ev c (.const x) = fE_const c x := by
  funext env h; rw [ev]; unfold fE_const; try simp only [bnd_eq, nth_eq, asgF_eq, bindF_eq, apF_eq, compG_eq, forG_eq, setF_eq, noOwnF_eq, wipeF_eq, smallF_eq, placeF_eq]
  first | rfl | done
noncomputable def fE_glob (c : Ctx) (k : Nat) : EF := fun _ h => T.opt (c.G k) fun x => .ret (.v x, h)
theorem qE_glob (c : Ctx) (k : Nat) : ev c (.glob k) = fE_glob c k := by
  funext env h; rw [ev]; unfold fE_glob; try simp only [bnd_eq, nth_eq, asgF_eq, bindF_eq, apF_eq, compG_eq, forG_eq, setF_eq, noOwnF_eq, wipeF_eq, smallF_eq, placeF_eq]
  first | rfl | done
noncomputable def fE_var (c : Ctx) (i : Nat) : EF := fun env h => T.opt (loadS (nth env i)) fun r => .ret (r, h)
theorem qE_var (c : Ctx) (i : Nat) : ev c (.var i) = fE_var c i := by
  funext env h; rw [ev]; unfold fE_var; try simp only [bnd_eq, nth_eq, asgF_eq, bindF_eq, apF_eq, compG_eq, forG_eq, setF_eq, noOwnF_eq, wipeF_eq, smallF_eq, placeF_eq]
  first | rfl | done
noncomputable def fE_tup (c : Ctx) (es : EsF) : EF := fun env h => (es env h).bnd fun p => T.opt (stores p.1) fun xs => .ret (.v (.tup xs), p.2)
theorem qE_tup (c : Ctx) (es : Es) : ev c (.tup es) = fE_tup c (evs c es) := by
  funext env h; rw [ev]; unfold fE_tup; try simp only [bnd_eq, nth_eq, asgF_eq, bindF_eq, apF_eq, compG_eq, forG_eq, setF_eq, noOwnF_eq, wipeF_eq, smallF_eq, placeF_eq]
  first | rfl | done
noncomputable def fE_list (c : Ctx) (es : EsF) : EF := fun env h => (es env h).bnd fun p => T.opt (stores p.1) fun xs => .ret (.new xs, p.2)
theorem qE_list (c : Ctx) (es : Es) : ev c (.list es) = fE_list c (evs c es) := by
  funext env h; rw [ev]; unfold fE_list; try simp only [bnd_eq, nth_eq, asgF_eq, bindF_eq, apF_eq, compG_eq, forG_eq, setF_eq, noOwnF_eq, wipeF_eq, smallF_eq, placeF_eq]
  first | rfl | done
noncomputable def fE_un (c : Ctx) (u : Un) (a : EF) : EF := fun env h => (a env h).bnd fun p => T.opt (u.ap p.1) fun r => .ret (r, p.2)
theorem qE_un (c : Ctx) (u : Un) (a : E) : ev c (.un u a) = fE_un c u (ev c a) := by
  funext env h; rw [ev]; unfold fE_un; try simp only [bnd_eq, nth_eq, asgF_eq, bindF_eq, apF_eq, compG_eq, forG_eq, setF_eq, noOwnF_eq, wipeF_eq, smallF_eq, placeF_eq]
  first | rfl | done
noncomputable def fE_bin (c : Ctx) (o : Bn) (a : EF) (b : EF) : EF := fun env h => (a env h).bnd fun p => (b env p.2).bnd fun q => T.opt (apF o p.1 q.1) fun r => .ret (r, q.2)
theorem qE_bin (c : Ctx) (o : Bn) (a : E) (b : E) : ev c (.bin o a b) = fE_bin c o (ev c a) (ev c b) := by
  funext env h; rw [ev]; unfold fE_bin; try simp only [bnd_eq, nth_eq, asgF_eq, bindF_eq, apF_eq, compG_eq, forG_eq, setF_eq, noOwnF_eq, wipeF_eq, smallF_eq, placeF_eq]
  first | rfl | done
noncomputable def fE_chain (c : Ctx) (a : EF) (o : Bn) (b : EF) (o' : Bn) (d : EF) : EF := fun env h => (a env h).bnd fun p => (b env p.2).bnd fun q => chainT (apF o p.1 q.1)
      ((d env q.2).bnd fun s => T.opt (apF o' q.1 s.1) fun r => .ret (r, s.2)) (.ret (.v (.bl false), q.2))
theorem qE_chain (c : Ctx) (a : E) (o : Bn) (b : E) (o' : Bn) (d : E) : ev c (.chain a o b o' d) = fE_chain c (ev c a) o (ev c b) o' (ev c d) := by
  funext env h; rw [ev]; unfold fE_chain; try simp only [bnd_eq, nth_eq, asgF_eq, bindF_eq, apF_eq, compG_eq, forG_eq, setF_eq, noOwnF_eq, wipeF_eq, smallF_eq, placeF_eq]
  first | rfl | done
noncomputable def fE_slc (c : Ctx) (a : EF) (lo : EoF) (hi : EoF) : EF := fun env h => (a env h).bnd fun p => (lo env p.2).bnd fun l => (hi env l.2).bnd fun u => T.opt (slice p.1 l.1 u.1) fun r => .ret (r, u.2)
theorem qE_slc (c : Ctx) (a : E) (lo : Eo) (hi : Eo) : ev c (.slc a lo hi) = fE_slc c (ev c a) (evo c lo) (evo c hi) := by
  funext env h; rw [ev]; unfold fE_slc; try simp only [bnd_eq, nth_eq, asgF_eq, bindF_eq, apF_eq, compG_eq, forG_eq, setF_eq, noOwnF_eq, wipeF_eq, smallF_eq, placeF_eq]
  first | rfl | done
noncomputable def fE_and (c : Ctx) (a : EF) (b : EF) : EF := fun env h => (a env h).bnd fun p => T.tru p.1.truth (b env p.2) (.ret p)
theorem qE_and (c : Ctx) (a : E) (b : E) : ev c (.and a b) = fE_and c (ev c a) (ev c b) := by
  funext env h; rw [ev]; unfold fE_and; try simp only [bnd_eq, nth_eq, asgF_eq, bindF_eq, apF_eq, compG_eq, forG_eq, setF_eq, noOwnF_eq, wipeF_eq, smallF_eq, placeF_eq]
  first | rfl | done
noncomputable def fE_or (c : Ctx) (a : EF) (b : EF) : EF := fun env h => (a env h).bnd fun p => T.tru p.1.truth (.ret p) (b env p.2)
theorem qE_or (c : Ctx) (a : E) (b : E) : ev c (.or a b) = fE_or c (ev c a) (ev c b) := by
  funext env h; rw [ev]; unfold fE_or; try simp only [bnd_eq, nth_eq, asgF_eq, bindF_eq, apF_eq, compG_eq, forG_eq, setF_eq, noOwnF_eq, wipeF_eq, smallF_eq, placeF_eq]
  first | rfl | done
noncomputable def fE_not (c : Ctx) (a : EF) : EF := fun env h => (a env h).bnd fun p => T.opt p.1.truth fun t => .ret (.v (.bl (!t)), p.2)
theorem qE_not (c : Ctx) (a : E) : ev c (.not a) = fE_not c (ev c a) := by
  funext env h; rw [ev]; unfold fE_not; try simp only [bnd_eq, nth_eq, asgF_eq, bindF_eq, apF_eq, compG_eq, forG_eq, setF_eq, noOwnF_eq, wipeF_eq, smallF_eq, placeF_eq]
  first | rfl | done
noncomputable def fE_ite (c : Ctx) (t : EF) (a : EF) (b : EF) : EF := fun env h => (t env h).bnd fun p => T.tru p.1.truth (a env p.2) (b env p.2)
theorem qE_ite (c : Ctx) (t : E) (a : E) (b : E) : ev c (.ite t a b) = fE_ite c (ev c t) (ev c a) (ev c b) := by
  funext env h; rw [ev]; unfold fE_ite; try simp only [bnd_eq, nth_eq, asgF_eq, bindF_eq, apF_eq, compG_eq, forG_eq, setF_eq, noOwnF_eq, wipeF_eq, smallF_eq, placeF_eq]
  first | rfl | done
noncomputable def fE_app (c : Ctx) (f : Ap) (es : EsF) : EF := fun env h => (es env h).bnd fun p => T.opt (f.ap p.1) fun r => .ret (r, p.2)
theorem qE_app (c : Ctx) (f : Ap) (es : Es) : ev c (.app f es) = fE_app c f (evs c es) := by
  funext env h; rw [ev]; unfold fE_app; try simp only [bnd_eq, nth_eq, asgF_eq, bindF_eq, apF_eq, compG_eq, forG_eq, setF_eq, noOwnF_eq, wipeF_eq, smallF_eq, placeF_eq]
  first | rfl | done
noncomputable def fE_meth (c : Ctx) (m : Mt) (a : EF) (es : EsF) : EF := fun env h => (a env h).bnd fun p => (es env p.2).bnd fun q => T.opt (m.ap p.1 q.1) fun r => .ret (r, q.2)
theorem qE_meth (c : Ctx) (m : Mt) (a : E) (es : Es) : ev c (.meth m a es) = fE_meth c m (ev c a) (evs c es) := by
  funext env h; rw [ev]; unfold fE_meth; try simp only [bnd_eq, nth_eq, asgF_eq, bindF_eq, apF_eq, compG_eq, forG_eq, setF_eq, noOwnF_eq, wipeF_eq, smallF_eq, placeF_eq]
  first | rfl | done
noncomputable def fE_call (c : Ctx) (k : Nat) (es : EsF) : EF := fun env h => (es env h).bnd fun p => callW c k p.1 p.2
theorem qE_call (c : Ctx) (k : Nat) (es : Es) : ev c (.call k es) = fE_call c k (evs c es) := by
  funext env h; rw [ev]; unfold fE_call; try simp only [bnd_eq, nth_eq, asgF_eq, bindF_eq, apF_eq, compG_eq, forG_eq, setF_eq, noOwnF_eq, wipeF_eq, smallF_eq, placeF_eq]
  first | rfl | done
noncomputable def fE_draw (c : Ctx) (i : Nat) (m : EF) : EF := fun env h => T.iff (boxS (nth env i)) ((m env h).bnd fun p => drawT p.2 p.1)
theorem qE_draw (c : Ctx) (i : Nat) (m : E) : ev c (.draw i m) = fE_draw c i (ev c m) := by
  funext env h; rw [ev]; unfold fE_draw; try simp only [bnd_eq, nth_eq, asgF_eq, bindF_eq, apF_eq, compG_eq, forG_eq, setF_eq, noOwnF_eq, wipeF_eq, smallF_eq, placeF_eq]
  first | rfl | done
noncomputable def fE_rngL (c : Ctx) (t : Bool) (lo : EoF) (hi : EF) : EF := fun env h => (lo env h).bnd fun l => (hi env l.2).bnd fun p => T.opt (optI p.1) fun j => T.iff (smallF (l.1.getD 0) && smallF j) (.ret (rngR t (rngF (j - l.1.getD 0).toNat (l.1.getD 0)), p.2))
theorem qE_rngL (c : Ctx) (t : Bool) (lo : Eo) (hi : E) : ev c (.rngL t lo hi) = fE_rngL c t (evo c lo) (ev c hi) := by
  funext env h; rw [ev]; unfold fE_rngL; try simp only [bnd_eq, nth_eq, asgF_eq, bindF_eq, apF_eq, compG_eq, forG_eq, setF_eq, noOwnF_eq, wipeF_eq, smallF_eq, placeF_eq]
  first | rfl | done
noncomputable def fE_comp (c : Ctx) (elt : EF) (tg : Tg) (it : ItF) (cs : EcF) (own : List Nat) : EF := fun env h => T.iff (noOwnF env own) ((it true env h).bnd fun p =>
      (compG (fun x => setF tg x (wipeF env own)) (fun e h => cs e h) (fun e h => elt e h) p.1 p.2).bnd fun q => .ret (.new q.1, q.2))
theorem qE_comp (c : Ctx) (elt : E) (tg : Tg) (it : It) (cs : Es) (own : List Nat) : ev c (.comp elt tg it cs own) = fE_comp c (ev c elt) tg (evI c it) (evc c cs) own := by
  funext env h; rw [ev]; unfold fE_comp; try simp only [bnd_eq, nth_eq, asgF_eq, bindF_eq, apF_eq, compG_eq, forG_eq, setF_eq, noOwnF_eq, wipeF_eq, smallF_eq, placeF_eq]
  first | rfl | done
noncomputable def fE_comp2 (c : Ctx) (elt : EF) (tg : Tg) (it : ItF) (tg2 : Tg) (it2 : ItF) (own : List Nat) : EF := fun env h => T.iff (noOwnF env own) ((it true env h).bnd fun p =>
      (compL2 (fun x => setF tg x (wipeF env own)) (fun e h => (it2 true e h).bnd fun p2 =>
        compG (fun x => setF tg2 x e) (fun _ h => .ret (true, h)) (fun e h => elt e h) p2.1 p2.2) p.1 p.2).bnd fun q => T.iff (decide (q.1.length ≤ sizeMax)) (.ret (.new q.1, q.2)))
theorem qE_comp2 (c : Ctx) (elt : E) (tg : Tg) (it : It) (tg2 : Tg) (it2 : It) (own : List Nat) : ev c (.comp2 elt tg it tg2 it2 own) = fE_comp2 c (ev c elt) tg (evI c it) tg2 (evI c it2) own := by
  funext env h; rw [ev]; unfold fE_comp2; try simp only [bnd_eq, nth_eq, asgF_eq, bindF_eq, apF_eq, compG_eq, forG_eq, setF_eq, noOwnF_eq, wipeF_eq, smallF_eq, placeF_eq]
  first | rfl | done
noncomputable def fE_din (c : Ctx) (neg : Bool) (k : EF) (i : Nat) : EF := fun env h => (k env h).bnd fun p => T.opt (optI p.1) fun n => T.opt (dicS env i) fun kvs => .ret (.v (.bl (if neg then !(dFind kvs n).isSome else (dFind kvs n).isSome)), p.2)
theorem qE_din (c : Ctx) (neg : Bool) (k : E) (i : Nat) : ev c (.din neg k i) = fE_din c neg (ev c k) i := by
  funext env h; rw [ev]; unfold fE_din; try simp only [bnd_eq, nth_eq, asgF_eq, bindF_eq, apF_eq, compG_eq, forG_eq, setF_eq, noOwnF_eq, wipeF_eq, smallF_eq, placeF_eq]
  first | rfl | done
noncomputable def fE_dget (c : Ctx) (i : Nat) (k : EF) : EF := fun env h => (k env h).bnd fun p => T.opt (optI p.1) fun n => T.opt (dicS env i) fun kvs => T.opt (dFind kvs n) fun x => .ret (.v x, p.2)
theorem qE_dget (c : Ctx) (i : Nat) (k : E) : ev c (.dget i k) = fE_dget c i (ev c k) := by
  funext env h; rw [ev]; unfold fE_dget; try simp only [bnd_eq, nth_eq, asgF_eq, bindF_eq, apF_eq, compG_eq, forG_eq, setF_eq, noOwnF_eq, wipeF_eq, smallF_eq, placeF_eq]
  first | rfl | done
noncomputable def fA_nil (c : Ctx)  : EsF := fun _ h => .ret ([], h)
theorem qA_nil (c : Ctx)  : evs c (.nil) = fA_nil c  := by
  funext env h; rw [evs]; unfold fA_nil; try simp only [bnd_eq, nth_eq, asgF_eq, bindF_eq, apF_eq, compG_eq, forG_eq, setF_eq, noOwnF_eq, wipeF_eq, smallF_eq, placeF_eq]
  first | rfl | done
noncomputable def fA_cons (c : Ctx) (e : EF) (es : EsF) : EsF := fun env h => (e env h).bnd fun p => (es env p.2).bnd fun q => .ret (p.1 :: q.1, q.2)
theorem qA_cons (c : Ctx) (e : E) (es : Es) : evs c (.cons e es) = fA_cons c (ev c e) (evs c es) := by
  funext env h; rw [evs]; unfold fA_cons; try simp only [bnd_eq, nth_eq, asgF_eq, bindF_eq, apF_eq, compG_eq, forG_eq, setF_eq, noOwnF_eq, wipeF_eq, smallF_eq, placeF_eq]
  first | rfl | done
noncomputable def fC_nil (c : Ctx)  : EcF := fun _ h => .ret (true, h)
theorem qC_nil (c : Ctx)  : evc c (.nil) = fC_nil c  := by
  funext env h; rw [evc]; unfold fC_nil; try simp only [bnd_eq, nth_eq, asgF_eq, bindF_eq, apF_eq, compG_eq, forG_eq, setF_eq, noOwnF_eq, wipeF_eq, smallF_eq, placeF_eq]
  first | rfl | done
noncomputable def fC_cons (c : Ctx) (e : EF) (es : EcF) : EcF := fun env h => (e env h).bnd fun p => T.tru p.1.truth (es env p.2) (.ret (false, p.2))
theorem qC_cons (c : Ctx) (e : E) (es : Es) : evc c (.cons e es) = fC_cons c (ev c e) (evc c es) := by
  funext env h; rw [evc]; unfold fC_cons; try simp only [bnd_eq, nth_eq, asgF_eq, bindF_eq, apF_eq, compG_eq, forG_eq, setF_eq, noOwnF_eq, wipeF_eq, smallF_eq, placeF_eq]
  first | rfl | done
noncomputable def fO_no (c : Ctx)  : EoF := fun _ h => .ret (none, h)
theorem qO_no (c : Ctx)  : evo c (.no) = fO_no c  := by
  funext env h; rw [evo]; unfold fO_no; try simp only [bnd_eq, nth_eq, asgF_eq, bindF_eq, apF_eq, compG_eq, forG_eq, setF_eq, noOwnF_eq, wipeF_eq, smallF_eq, placeF_eq]
  first | rfl | done
noncomputable def fO_so (c : Ctx) (e : EF) : EoF := fun env h => (e env h).bnd fun p => T.opt (optI p.1) fun i => .ret (some i, p.2)
theorem qO_so (c : Ctx) (e : E) : evo c (.so e) = fO_so c (ev c e) := by
  funext env h; rw [evo]; unfold fO_so; try simp only [bnd_eq, nth_eq, asgF_eq, bindF_eq, apF_eq, compG_eq, forG_eq, setF_eq, noOwnF_eq, wipeF_eq, smallF_eq, placeF_eq]
  first | rfl | done
noncomputable def fI_seq (c : Ctx) (e : EF) : ItF := fun b env h => (e env h).bnd fun p => T.opt (optT b p.1) fun xs => .ret (xs, p.2)
theorem qI_seq (c : Ctx) (e : E) : evI c (.seq e) = fI_seq c (ev c e) := by
  funext b env h; unfold evI; rw [evit]; unfold fI_seq; try simp only [bnd_eq, nth_eq, smallF_eq]
  first | rfl | done
noncomputable def fI_rng1 (c : Ctx) (a : EF) : ItF := fun b env h => (a env h).bnd fun p => T.opt (optI p.1) fun i => T.iff (smallF i) (.ret (rngF i.toNat 0, p.2))
theorem qI_rng1 (c : Ctx) (a : E) : evI c (.rng1 a) = fI_rng1 c (ev c a) := by
  funext b env h; unfold evI; rw [evit]; unfold fI_rng1; try simp only [bnd_eq, nth_eq, smallF_eq]
  first | rfl | done
noncomputable def fI_rng2 (c : Ctx) (a : EF) (d : EF) : ItF := fun b env h => (a env h).bnd fun p => (d env p.2).bnd fun q => T.opt (optI p.1) fun i => T.opt (optI q.1) fun j => T.iff (smallF i && smallF j) (.ret (rngF (j - i).toNat i, q.2))
theorem qI_rng2 (c : Ctx) (a : E) (d : E) : evI c (.rng2 a d) = fI_rng2 c (ev c a) (ev c d) := by
  funext b env h; unfold evI; rw [evit]; unfold fI_rng2; try simp only [bnd_eq, nth_eq, smallF_eq]
  first | rfl | done
noncomputable def fI_enum (c : Ctx) (e : EF) : ItF := fun b env h => (e env h).bnd fun p => T.opt (optT b p.1) fun xs => .ret (enumF 0 xs, p.2)
theorem qI_enum (c : Ctx) (e : E) : evI c (.enum e) = fI_enum c (ev c e) := by
  funext b env h; unfold evI; rw [evit]; unfold fI_enum; try simp only [bnd_eq, nth_eq, smallF_eq]
  first | rfl | done
noncomputable def fI_zip (c : Ctx) (a : EF) (d : EF) : ItF := fun b env h => (a env h).bnd fun p => (d env p.2).bnd fun q => T.opt (optT b p.1) fun xs => T.opt (optT b q.1) fun ys => .ret (zipF xs ys, q.2)
theorem qI_zip (c : Ctx) (a : E) (d : E) : evI c (.zip a d) = fI_zip c (ev c a) (ev c d) := by
  funext b env h; unfold evI; rw [evit]; unfold fI_zip; try simp only [bnd_eq, nth_eq, smallF_eq]
  first | rfl | done
noncomputable def fS_asg (c : Ctx) (t : Tg) (e : EF) : SF := fun env h => (e env h).bnd fun p => T.opt (asgF t p.1 env) fun env' => .ret (.next, env', p.2)
theorem qS_asg (c : Ctx) (t : Tg) (e : E) : ex c (.asg t e) = fS_asg c t (ev c e) := by
  funext env h; rw [ex]; unfold fS_asg; try simp only [bnd_eq, nth_eq, asgF_eq, bindF_eq, apF_eq, compG_eq, forG_eq, setF_eq, noOwnF_eq, wipeF_eq, smallF_eq, placeF_eq]
  first | rfl | done
noncomputable def fS_par (c : Ctx) (is : List Nat) (es : EsF) : SF := fun env h => (es env h).bnd fun p => T.opt (bindSs env is p.1) fun env' => .ret (.next, env', p.2)
theorem qS_par (c : Ctx) (is : List Nat) (es : Es) : ex c (.par is es) = fS_par c is (evs c es) := by
  funext env h; rw [ex]; unfold fS_par; try simp only [bnd_eq, nth_eq, asgF_eq, bindF_eq, apF_eq, compG_eq, forG_eq, setF_eq, noOwnF_eq, wipeF_eq, smallF_eq, placeF_eq]
  first | rfl | done
noncomputable def fS_ret (c : Ctx) (e : EF) : SF := fun env h => (e env h).bnd fun p => T.opt (outV p.1) fun r => .ret (.ret r, env, p.2)
theorem qS_ret (c : Ctx) (e : E) : ex c (.ret e) = fS_ret c (ev c e) := by
  funext env h; rw [ex]; unfold fS_ret; try simp only [bnd_eq, nth_eq, asgF_eq, bindF_eq, apF_eq, compG_eq, forG_eq, setF_eq, noOwnF_eq, wipeF_eq, smallF_eq, placeF_eq]
  first | rfl | done
noncomputable def fS_retOwn (c : Ctx) (i : Nat) : SF := fun env h => T.opt (ownS env i) fun xs => .ret (.ret (.new xs), env, h)
theorem qS_retOwn (c : Ctx) (i : Nat) : ex c (.retOwn i) = fS_retOwn c i := by
  funext env h; rw [ex]; unfold fS_retOwn; try simp only [bnd_eq, nth_eq, asgF_eq, bindF_eq, apF_eq, compG_eq, forG_eq, setF_eq, noOwnF_eq, wipeF_eq, smallF_eq, placeF_eq]
  first | rfl | done
noncomputable def fS_retN (c : Ctx)  : SF := fun env h => .ret (.ret (.v .non), env, h)
theorem qS_retN (c : Ctx)  : ex c (.retN) = fS_retN c  := by
  funext env h; rw [ex]; unfold fS_retN; try simp only [bnd_eq, nth_eq, asgF_eq, bindF_eq, apF_eq, compG_eq, forG_eq, setF_eq, noOwnF_eq, wipeF_eq, smallF_eq, placeF_eq]
  first | rfl | done
noncomputable def fS_ite (c : Ctx) (t : EF) (a : SF) (b : SF) : SF := fun env h => (t env h).bnd fun p => T.tru p.1.truth (a env p.2) (b env p.2)
theorem qS_ite (c : Ctx) (t : E) (a : Ss) (b : Ss) : ex c (.ite t a b) = fS_ite c (ev c t) (exs c a) (exs c b) := by
  funext env h; rw [ex]; unfold fS_ite; try simp only [bnd_eq, nth_eq, asgF_eq, bindF_eq, apF_eq, compG_eq, forG_eq, setF_eq, noOwnF_eq, wipeF_eq, smallF_eq, placeF_eq]
  first | rfl | done
noncomputable def fS_for (c : Ctx) (t : Tg) (it : ItF) (b : SF) : SF := fun env h => (it false env h).bnd fun p => forG (fun x e => setF t x e) (fun e h => b e h) p.1 env p.2
theorem qS_for (c : Ctx) (t : Tg) (it : It) (b : Ss) : ex c (.for t it b) = fS_for c t (evI c it) (exs c b) := by
  funext env h; rw [ex]; unfold fS_for; try simp only [bnd_eq, nth_eq, asgF_eq, bindF_eq, apF_eq, compG_eq, forG_eq, setF_eq, noOwnF_eq, wipeF_eq, smallF_eq, placeF_eq]
  first | rfl | done
noncomputable def fS_while (c : Ctx) (t : EF) (b : SF) : SF := fun env h => whileL (fun e h => t e h) (fun e h => b e h) c.W env h
theorem qS_while (c : Ctx) (t : E) (b : Ss) : ex c (.while t b) = fS_while c (ev c t) (exs c b) := by
  funext env h; rw [ex]; unfold fS_while; try simp only [bnd_eq, nth_eq, asgF_eq, bindF_eq, apF_eq, compG_eq, forG_eq, setF_eq, noOwnF_eq, wipeF_eq, smallF_eq, placeF_eq]
  first | rfl | done
noncomputable def fS_append (c : Ctx) (i : Nat) (e : EF) : SF := fun env h => (e env h).bnd fun p => T.opt (ownS env i) fun xs => T.opt p.1.store fun x => T.iff (shortL xs 1) (.ret (.next, List.set env i (.own (.l (xs ++ [x]))), p.2))
theorem qS_append (c : Ctx) (i : Nat) (e : E) : ex c (.append i e) = fS_append c i (ev c e) := by
  funext env h; rw [ex]; unfold fS_append; try simp only [bnd_eq, nth_eq, asgF_eq, bindF_eq, apF_eq, compG_eq, forG_eq, setF_eq, noOwnF_eq, wipeF_eq, smallF_eq, placeF_eq]
  first | rfl | done
noncomputable def fS_extend (c : Ctx) (i : Nat) (e : EF) : SF := fun env h => (e env h).bnd fun p => T.opt (ownS env i) fun xs => T.opt p.1.lst fun ys => T.iff (shortL xs ys.length) (.ret (.next, List.set env i (.own (.l (xs ++ ys))), p.2))
theorem qS_extend (c : Ctx) (i : Nat) (e : E) : ex c (.extend i e) = fS_extend c i (ev c e) := by
  funext env h; rw [ex]; unfold fS_extend; try simp only [bnd_eq, nth_eq, asgF_eq, bindF_eq, apF_eq, compG_eq, forG_eq, setF_eq, noOwnF_eq, wipeF_eq, smallF_eq, placeF_eq]
  first | rfl | done
noncomputable def fS_setIdx (c : Ctx) (i : Nat) (k : EF) (e : EF) : SF := fun env h => (e env h).bnd fun p => (k env p.2).bnd fun q => T.opt (ownS env i) fun xs => T.opt (optI q.1) fun n => T.opt p.1.store fun x => T.opt (placeF xs.length n) fun j =>
      .ret (.next, List.set env i (.own (.l (xs.set j x))), q.2)
theorem qS_setIdx (c : Ctx) (i : Nat) (k : E) (e : E) : ex c (.setIdx i k e) = fS_setIdx c i (ev c k) (ev c e) := by
  funext env h; rw [ex]; unfold fS_setIdx; try simp only [bnd_eq, nth_eq, asgF_eq, bindF_eq, apF_eq, compG_eq, forG_eq, setF_eq, noOwnF_eq, wipeF_eq, smallF_eq, placeF_eq]
  first | rfl | done
noncomputable def fS_popAt (c : Ctx) (i : Nat) (j : Nat) (e : EoF) : SF := fun env h => (e env h).bnd fun p => T.opt (ownS env j) fun xs => T.opt (placeF xs.length (p.1.getD (-1))) fun k => T.opt xs[k]? fun x =>
      T.opt (bindF (List.set env j (.own (.l (xs.eraseIdx k)))) i (.v x)) fun env' => .ret (.next, env', p.2)
theorem qS_popAt (c : Ctx) (i : Nat) (j : Nat) (e : Eo) : ex c (.popAt i j e) = fS_popAt c i j (evo c e) := by
  funext env h; rw [ex]; unfold fS_popAt; try simp only [bnd_eq, nth_eq, asgF_eq, bindF_eq, apF_eq, compG_eq, forG_eq, setF_eq, noOwnF_eq, wipeF_eq, smallF_eq, placeF_eq]
  first | rfl | done
noncomputable def fS_popPar (c : Ctx) (i : Nat) (i2 : Nat) (j : Nat) (e : EF) (e2 : EF) : SF := fun env h => (e env h).bnd fun p => T.opt (ownS env j) fun xs => T.opt (optI p.1) fun n => T.opt (placeF xs.length n) fun k => T.opt xs[k]? fun x =>
      (e2 (List.set env j (.own (.l (xs.eraseIdx k)))) p.2).bnd fun q => T.opt (bindSs (List.set env j (.own (.l (xs.eraseIdx k)))) [i, i2] [.v x, q.1]) fun env' => .ret (.next, env', q.2)
theorem qS_popPar (c : Ctx) (i : Nat) (i2 : Nat) (j : Nat) (e : E) (e2 : E) : ex c (.popPar i i2 j e e2) = fS_popPar c i i2 j (ev c e) (ev c e2) := by
  funext env h; rw [ex]; unfold fS_popPar; try simp only [bnd_eq, nth_eq, asgF_eq, bindF_eq, apF_eq, compG_eq, forG_eq, setF_eq, noOwnF_eq, wipeF_eq, smallF_eq, placeF_eq]
  first | rfl | done
noncomputable def fS_insert (c : Ctx) (i : Nat) (k : EF) (e : EF) : SF := fun env h => (k env h).bnd fun q => (e env q.2).bnd fun p => T.opt (ownS env i) fun xs => T.opt (optI q.1) fun n => T.opt p.1.store fun x =>
      T.iff (decide (0 ≤ n) && smallF n && shortL xs 1) (.ret (.next, List.set env i (.own (.l (insertAt xs n x))), p.2))
theorem qS_insert (c : Ctx) (i : Nat) (k : E) (e : E) : ex c (.insert i k e) = fS_insert c i (ev c k) (ev c e) := by
  funext env h; rw [ex]; unfold fS_insert; try simp only [bnd_eq, nth_eq, asgF_eq, bindF_eq, apF_eq, compG_eq, forG_eq, setF_eq, noOwnF_eq, wipeF_eq, smallF_eq, placeF_eq]
  first | rfl | done
noncomputable def fS_aug (c : Ctx) (i : Nat) (o : Bn) (e : EF) : SF := fun env h => T.opt (loadS (nth env i)) fun r => (e env h).bnd fun p => T.opt (augI o r p.1) fun x => T.opt (bindF env i (.v x)) fun env' => .ret (.next, env', p.2)
theorem qS_aug (c : Ctx) (i : Nat) (o : Bn) (e : E) : ex c (.aug i o e) = fS_aug c i o (ev c e) := by
  funext env h; rw [ex]; unfold fS_aug; try simp only [bnd_eq, nth_eq, asgF_eq, bindF_eq, apF_eq, compG_eq, forG_eq, setF_eq, noOwnF_eq, wipeF_eq, smallF_eq, placeF_eq]
  first | rfl | done
noncomputable def fS_augIdx (c : Ctx) (i : Nat) (k : EF) (o : Bn) (e : EF) : SF := fun env h => (k env h).bnd fun q => T.opt (ownS env i) fun xs => T.opt (optI q.1) fun n => T.opt (placeF xs.length n) fun j => T.opt xs[j]? fun x =>
      (e env q.2).bnd fun p => T.opt (augI o (.v x) p.1) fun y => .ret (.next, List.set env i (.own (.l (xs.set j y))), p.2)
theorem qS_augIdx (c : Ctx) (i : Nat) (k : E) (o : Bn) (e : E) : ex c (.augIdx i k o e) = fS_augIdx c i (ev c k) o (ev c e) := by
  funext env h; rw [ex]; unfold fS_augIdx; try simp only [bnd_eq, nth_eq, asgF_eq, bindF_eq, apF_eq, compG_eq, forG_eq, setF_eq, noOwnF_eq, wipeF_eq, smallF_eq, placeF_eq]
  first | rfl | done
noncomputable def fS_freeze (c : Ctx) (i : Nat) : SF := fun env h => match ownS env i with
    | some xs => .ret (.next, List.set env i (.val (.lst xs)), h)
    | none => .ret (.next, env, h)
theorem qS_freeze (c : Ctx) (i : Nat) : ex c (.freeze i) = fS_freeze c i := by
  funext env h; rw [ex]; unfold fS_freeze; try simp only [bnd_eq, nth_eq, asgF_eq, bindF_eq, apF_eq, compG_eq, forG_eq, setF_eq, noOwnF_eq, wipeF_eq, smallF_eq, placeF_eq]
  first | rfl | done
noncomputable def fS_forget (c : Ctx) (is : List Nat) : SF := fun env h => .ret (.next, wipeF env is, h)
theorem qS_forget (c : Ctx) (is : List Nat) : ex c (.forget is) = fS_forget c is := by
  funext env h; rw [ex]; unfold fS_forget; try simp only [bnd_eq, nth_eq, asgF_eq, bindF_eq, apF_eq, compG_eq, forG_eq, setF_eq, noOwnF_eq, wipeF_eq, smallF_eq, placeF_eq]
  first | rfl | done
noncomputable def fS_pass (c : Ctx)  : SF := fun env h => .ret (.next, env, h)
theorem qS_pass (c : Ctx)  : ex c (.pass) = fS_pass c  := by
  funext env h; rw [ex]; unfold fS_pass; try simp only [bnd_eq, nth_eq, asgF_eq, bindF_eq, apF_eq, compG_eq, forG_eq, setF_eq, noOwnF_eq, wipeF_eq, smallF_eq, placeF_eq]
  first | rfl | done
noncomputable def fS_brk (c : Ctx)  : SF := fun env h => .ret (.brk, env, h)
theorem qS_brk (c : Ctx)  : ex c (.brk) = fS_brk c  := by
  funext env h; rw [ex]; unfold fS_brk; try simp only [bnd_eq, nth_eq, asgF_eq, bindF_eq, apF_eq, compG_eq, forG_eq, setF_eq, noOwnF_eq, wipeF_eq, smallF_eq, placeF_eq]
  first | rfl | done
noncomputable def fS_cont (c : Ctx)  : SF := fun env h => .ret (.cont, env, h)
theorem qS_cont (c : Ctx)  : ex c (.cont) = fS_cont c  := by
  funext env h; rw [ex]; unfold fS_cont; try simp only [bnd_eq, nth_eq, asgF_eq, bindF_eq, apF_eq, compG_eq, forG_eq, setF_eq, noOwnF_eq, wipeF_eq, smallF_eq, placeF_eq]
  first | rfl | done
noncomputable def fS_never (c : Ctx)  : SF := fun _ _ => .bad
theorem qS_never (c : Ctx)  : ex c (.never) = fS_never c  := by
  funext env h; rw [ex]; unfold fS_never; try simp only [bnd_eq, nth_eq, asgF_eq, bindF_eq, apF_eq, compG_eq, forG_eq, setF_eq, noOwnF_eq, wipeF_eq, smallF_eq, placeF_eq]
  first | rfl | done
noncomputable def fS_memo (c : Ctx) (i : Nat) (key : EF) (body : SF) (v : EF) : SF := fun env h => (key env h).bnd fun p => T.opt (loadS (nth env i)) fun q => T.opt (memoK c.M p.1 q) fun kv => .draw 2 fun b => match decide (b = 0) with
      | true => (key env p.2).bnd fun p' => T.opt (memoK c.M p'.1 q) fun kv' => T.iff (kv'.beq kv) (.ret (.ret (.v (c.M.D kv)), env, p'.2))
      | false => (body env p.2).bnd fun o => Fl.go o (fun e h => (v e h).bnd fun r => T.opt (loadS (nth e i)) fun q => (key e r.2).bnd fun p => T.opt (memoK c.M p.1 q) fun k2 => T.opt r.1.store fun x => T.iff (x.beq (c.M.D k2))
            ((key e p.2).bnd fun p' => T.opt (memoK c.M p'.1 q) fun k3 => T.iff (k3.beq k2) (.ret (.ret (.v (c.M.D k2)), e, p'.2))))
          (fun e h => .ret (.cont, e, h)) fun e h => .ret (.brk, e, h)
theorem qS_memo (c : Ctx) (i : Nat) (key : E) (body : Ss) (v : E) : ex c (.memo i key body v) = fS_memo c i (ev c key) (exs c body) (ev c v) := by
  funext env h; rw [ex]; unfold fS_memo; try simp only [bnd_eq, nth_eq, asgF_eq, bindF_eq, apF_eq, compG_eq, forG_eq, setF_eq, noOwnF_eq, wipeF_eq, smallF_eq, placeF_eq]
  first | rfl | done
noncomputable def fS_dnew (c : Ctx) (i : Nat) : SF := fun env h => T.iff (decide (i < env.length)) (.ret (.next, List.set env i (.own (.d [])), h))
theorem qS_dnew (c : Ctx) (i : Nat) : ex c (.dnew i) = fS_dnew c i := by
  funext env h; rw [ex]; unfold fS_dnew; try simp only [bnd_eq, nth_eq, asgF_eq, bindF_eq, apF_eq, compG_eq, forG_eq, setF_eq, noOwnF_eq, wipeF_eq, smallF_eq, placeF_eq]
  first | rfl | done
noncomputable def fS_dput (c : Ctx) (i : Nat) (k : EF) (v : EF) : SF := fun env h => (v env h).bnd fun p => (k env p.2).bnd fun q => T.opt (dicS env i) fun kvs => T.opt (optI q.1) fun n => T.opt p.1.store fun x => T.iff (decide (kvs.length < 1000000)) (.ret (.next, List.set env i (.own (.d (dPut kvs n x))), q.2))
theorem qS_dput (c : Ctx) (i : Nat) (k : E) (v : E) : ex c (.dput i k v) = fS_dput c i (ev c k) (ev c v) := by
  funext env h; rw [ex]; unfold fS_dput; try simp only [bnd_eq, nth_eq, asgF_eq, bindF_eq, apF_eq, compG_eq, forG_eq, setF_eq, noOwnF_eq, wipeF_eq, smallF_eq, placeF_eq]
  first | rfl | done
noncomputable def fS_dcomp (c : Ctx) (i : Nat) (kx : EF) (vx : EF) (tg : Tg) (it : ItF) (own : List Nat) : SF := fun env h => T.iff (noOwnF env own) ((it true env h).bnd fun p =>
      (dcompL (fun x => setF tg x (wipeF env own)) (fun e h => (kx e h).bnd fun p => .ret (optI p.1, p.2)) (fun e h => vx e h) p.1 [] p.2).bnd fun q => T.iff (decide (i < env.length)) (.ret (.next, List.set env i (.own (.d q.1)), q.2)))
theorem qS_dcomp (c : Ctx) (i : Nat) (kx : E) (vx : E) (tg : Tg) (it : It) (own : List Nat) : ex c (.dcomp i kx vx tg it own) = fS_dcomp c i (ev c kx) (ev c vx) tg (evI c it) own := by
  funext env h; rw [ex]; unfold fS_dcomp; try simp only [bnd_eq, nth_eq, asgF_eq, bindF_eq, apF_eq, compG_eq, forG_eq, setF_eq, noOwnF_eq, wipeF_eq, smallF_eq, placeF_eq]
  first | rfl | done
noncomputable def fB_nil (c : Ctx)  : SF := fun env h => .ret (.next, env, h)
theorem qB_nil (c : Ctx)  : exs c (.nil) = fB_nil c  := by
  funext env h; rw [exs]; unfold fB_nil; try simp only [bnd_eq, nth_eq, asgF_eq, bindF_eq, apF_eq, compG_eq, forG_eq, setF_eq, noOwnF_eq, wipeF_eq, smallF_eq, placeF_eq]
  first | rfl | done
noncomputable def fB_cons (c : Ctx) (s : SF) (r : SF) : SF := fun env h => (s env h).bnd fun o => Fl.go o (fun e h => r e h) (fun e h => .ret (.cont, e, h)) fun e h => .ret (.brk, e, h)
theorem qB_cons (c : Ctx) (s : S) (r : Ss) : exs c (.cons s r) = fB_cons c (ex c s) (exs c r) := by
  funext env h; rw [exs]; unfold fB_cons; try simp only [bnd_eq, nth_eq, asgF_eq, bindF_eq, apF_eq, compG_eq, forG_eq, setF_eq, noOwnF_eq, wipeF_eq, smallF_eq, placeF_eq]
  first | rfl | done
structure FF where
  np : Nat
  ns : Nat
  body : Ctx → SF
noncomputable def runFF (c : Ctx) (f : FF) (args : List Val) (h : Mem) : T (Rv × Mem) :=
  T.iff (Nat.beq (vlen args) f.np) ((f.body c (envF args (f.ns - f.np)) h).bnd endF)
noncomputable def fcall (G : Nat → Option Val) (tab : List (Option FF)) (W : Nat) (M : Known) : Nat → Nat → List Val → Mem → T (Rv × Mem)
  | 0, _, _, _ => .bad
  | n + 1, k, args, h => T.opt (tab[k]?).join fun f => runFF ⟨G, fcall G tab W M n, W, M⟩ f args h
def sameF : Option Fn → Option FF → Prop
  | none, none => True
  | some f, some g => f.np = g.np ∧ f.ns = g.ns ∧ ∀ c, exs c f.body = g.body c
  | _, _ => False
def sameT : List (Option Fn) → List (Option FF) → Prop
  | [], [] => True
  | f :: fs, g :: gs => sameF f g ∧ sameT fs gs
  | _, _ => False
theorem sameT.get : ∀ {fs : List (Option Fn)} {gs : List (Option FF)}, sameT fs gs → ∀ k : Nat, sameF (fs[k]?).join (gs[k]?).join
  | [], [], _, k => by simp [sameF]
  | [], _ :: _, h, _ => h.elim
  | _ :: _, [], h, _ => h.elim
  | f :: fs, g :: gs, h, 0 => by simpa using h.1
  | f :: fs, g :: gs, h, k + 1 => by simpa using sameT.get h.2 k
theorem call_fast (P : Prog) (tab : List (Option FF)) (fs : List (Option Fn)) (hF : ∀ k, P.F k = (fs[k]?).join) (s : sameT fs tab) : ∀ n, P.call n = fcall P.G tab P.W P.M n
  | 0 => by funext k args h; rfl
  | n + 1 => by
    funext k args h
    have ih := call_fast P tab fs hF s n
    have q := s.get k
    rw [← hF k] at q
    simp only [Prog.call, fcall]
    generalize (tab[k]?).join = g at q
    generalize P.F k = f at q
    match f, g, q with
    | none, none, _ => rfl
    | some f, some g, ⟨a, b, e⟩ =>
      have hb : (args.length == g.np) = Nat.beq (vlen args) g.np := by rw [← vlen_eq, Bool.eq_iff_iff, beq_iff_eq, Nat.beq_eq]
      simp only [T.opt, runFn, runFF, a, b, e, ih, bnd_eq, envF_eq, hb]
noncomputable def fctx (P : Prog) (tab : List (Option FF)) (n : Nat) : Ctx := ⟨P.G, fcall P.G tab P.W P.M n, P.W, P.M⟩
theorem ctx_fast (P : Prog) (tab : List (Option FF)) (fs : List (Option Fn)) (hF : ∀ k, P.F k = (fs[k]?).join) (s : sameT fs tab) (n : Nat) : P.ctx n = fctx P tab n := by
  unfold Prog.ctx fctx
  rw [call_fast P tab fs hF s n]
end MP
end
section
set_option Elab.async false
set_option linter.all false
set_option autoImplicit false
set_option maxRecDepth 100000
set_option maxHeartbeats 8000000
namespace K77
open MP
def b_law_lcm_1 : Ss := (.cons (.asg (.var 2) (.bin .add (.var 2) (.var 0))) (.cons (.freeze 2) .nil))
def b_law_lcm_2 : Ss := (.cons (.ret (.var 2)) .nil)
def b_law_lcm_3 : Ss := (.cons (.while (.bin .ne (.bin .mul (.bin .fdiv (.var 2) (.var 1)) (.var 1)) (.var 2)) b_law_lcm_1) b_law_lcm_2)
def b_law_lcm : Ss := (.cons (.asg (.var 2) (.var 0)) b_law_lcm_3)
def b_law_comes : Ss := (.cons (.ret (.bin .inn (.bin .sub (.var 1) (.bin .mul (.bin .fdiv (.var 1) (.bin .idx (.var 0) (.const (.int 0)))) (.bin .idx (.var 0) (.const (.int 0))))) (.bin .idx (.var 0) (.const (.int 1))))) .nil)
def bis_open_poll : Ss := (.cons (.ite (.or (.not (.app (.isi .tuple) (.cons (.var 0) .nil))) (.not (.app .all (.cons (.comp (.app (.isi .tuple) (.cons (.var 1) .nil)) (.var 1) (.seq (.var 0)) .nil [1]) .nil)))) (.cons (.ret (.const (.bl false))) .nil) .nil) (.cons (.ite (.or (.app .any (.cons (.comp (.bin .ne (.app .len (.cons (.var 1) .nil)) (.app .len (.cons (.bin .idx (.var 0) (.const (.int 0))) .nil))) (.var 1) (.seq (.var 0)) .nil [1]) .nil)) (.bin .gt (.app .sum (.cons (.comp (.app .len (.cons (.var 1) .nil)) (.var 1) (.seq (.var 0)) .nil [1]) .nil)) (.glob 0))) (.cons (.ret (.const (.bl false))) .nil) .nil) (.cons (.ret (.app .all (.cons (.comp2 (.or (.un .isN (.var 2)) (.call 14 (.cons (.var 2) (.cons (.const (.int 0)) (.cons (.const (.int 1)) .nil))))) (.var 1) (.seq (.var 0)) (.var 2) (.seq (.var 1)) [1, 2]) .nil))) .nil)))
def b_law_same : Ss := (.cons (.ite (.or (.and (.app (.isi .tuple) (.cons (.var 0) .nil)) (.app (.isi .tuple) (.cons (.var 1) .nil))) (.and (.app (.isi .list) (.cons (.var 0) .nil)) (.app (.isi .list) (.cons (.var 1) .nil)))) (.cons (.ret (.and (.bin .eq (.app .len (.cons (.var 0) .nil)) (.app .len (.cons (.var 1) .nil))) (.app .all (.cons (.comp (.call 4 (.cons (.bin .idx (.var 0) (.var 2)) (.cons (.bin .idx (.var 1) (.var 2)) .nil))) (.var 2) (.rng1 (.app .len (.cons (.var 0) .nil))) .nil [2]) .nil)))) .nil) .nil) (.cons (.ite (.or (.app (.isi .bool) (.cons (.var 0) .nil)) (.app (.isi .bool) (.cons (.var 1) .nil))) (.cons (.ret (.and (.app (.isi .bool) (.cons (.var 0) .nil)) (.and (.app (.isi .bool) (.cons (.var 1) .nil)) (.bin .eq (.var 0) (.var 1))))) .nil) .nil) (.cons (.ite (.or (.and (.app (.isi .int) (.cons (.var 0) .nil)) (.app (.isi .int) (.cons (.var 1) .nil))) (.and (.app (.isi .str) (.cons (.var 0) .nil)) (.app (.isi .str) (.cons (.var 1) .nil)))) (.cons (.ret (.bin .eq (.var 0) (.var 1))) .nil) .nil) (.cons (.ret (.and (.un .isN (.var 0)) (.un .isN (.var 1)))) .nil))))
def bcomes : Ss := (.cons (.ret (.bin .inn (.bin .mod (.var 1) (.bin .idx (.var 0) (.const (.int 0)))) (.bin .idx (.var 0) (.const (.int 1))))) .nil)
def bfirst_strangers_1 : Ss := (.cons (.ite (.call 15 (.cons (.bin .idx (.var 0) (.var 1)) (.cons (.bin .idx (.var 0) (.var 2)) .nil))) (.cons (.ret (.tup (.cons (.var 1) (.cons (.var 2) .nil)))) .nil) .nil) .nil)
def bfirst_strangers_2 : Ss := (.cons (.for (.var 2) (.rng2 (.bin .add (.var 1) (.const (.int 1))) (.app .len (.cons (.var 0) .nil))) bfirst_strangers_1) .nil)
def bfirst_strangers_3 : Ss := (.cons (.ret (.const .non)) .nil)
def bfirst_strangers : Ss := (.cons (.for (.var 1) (.rng1 (.app .len (.cons (.var 0) .nil))) bfirst_strangers_2) bfirst_strangers_3)
def bsure_days : Ss := (.cons (.ret (.app .tuple (.cons (.comp (.var 2) (.tup (.cons (.var 2) (.cons (.var 3) .nil))) (.enum (.var 0)) (.cons (.call 16 (.cons (.var 3) (.cons (.var 1) .nil))) .nil) [2, 3]) .nil))) .nil)
def bverdict : Ss := (.cons (.ite (.call 7 (.cons (.var 0) (.cons (.var 1) .nil))) (.cons (.ret (.const (.str [121, 101, 115]))) .nil) .nil) (.cons (.ret (.ite (.call 17 (.cons (.var 0) (.cons (.var 1) .nil))) (.const (.str [111, 112, 101, 110])) (.const (.str [110, 111])))) .nil))
def bboth_turns : Ss := (.cons (.asg (.var 2) (.bin .mul (.bin .fdiv (.bin .idx (.var 0) (.const (.int 0))) (.call 18 (.cons (.bin .idx (.var 0) (.const (.int 0))) (.cons (.bin .idx (.var 1) (.const (.int 0))) .nil)))) (.bin .idx (.var 1) (.const (.int 0))))) (.cons (.ite (.bin .gt (.var 2) (.glob 1)) (.cons .never .nil) .nil) (.cons (.asg (.var 3) (.app .tuple (.cons (.comp2 (.bin .add (.var 6) (.bin .mul (.var 5) (.bin .idx (.var 0) (.const (.int 0))))) (.var 5) (.rng1 (.bin .fdiv (.var 2) (.bin .idx (.var 0) (.const (.int 0))))) (.var 6) (.seq (.bin .idx (.var 0) (.const (.int 1)))) [5, 6]) .nil))) (.cons (.asg (.var 4) (.app .tuple (.cons (.comp (.var 6) (.var 6) (.seq (.var 3)) (.cons (.bin .inn (.bin .mod (.var 6) (.bin .idx (.var 1) (.const (.int 0)))) (.bin .idx (.var 1) (.const (.int 1)))) .nil) [6]) .nil))) (.cons (.ite (.not (.var 4)) (.cons .never .nil) .nil) (.cons (.ret (.tup (.cons (.var 2) (.cons (.var 4) .nil)))) .nil))))))
def bare_refusers : Ss := (.cons (.asg (.var 3) (.ite (.var 0) (.app .len (.cons (.bin .idx (.var 0) (.const (.int 0))) .nil)) (.const (.int 0)))) (.cons (.ite (.or (.not (.app (.isi .tuple) (.cons (.var 2) .nil))) (.not (.app .all (.cons (.comp (.call 14 (.cons (.var 4) (.cons (.const (.int 0)) (.cons (.bin .sub (.var 3) (.const (.int 1))) .nil)))) (.var 4) (.seq (.var 2)) .nil [4]) .nil)))) (.cons (.ret (.const (.bl false))) .nil) .nil) (.cons (.ret (.and (.call 19 (.cons (.var 2) .nil)) (.call 20 (.cons (.var 0) (.cons (.var 1) (.cons (.var 2) .nil)))))) .nil)))
def bfewest_refusers_1 : Ss := (.cons (.asg (.var 4) (.call 21 (.cons (.var 0) (.cons (.var 1) (.cons (.var 2) (.cons (.var 3) (.cons (.tup .nil) .nil))))))) (.cons (.freeze 4) (.cons (.ite (.un .notN (.var 4)) (.cons (.ret (.var 4)) .nil) .nil) .nil)))
def bfewest_refusers_2 : Ss := (.cons (.ret (.const .non)) .nil)
def bfewest_refusers_3 : Ss := (.cons (.for (.var 3) (.rng1 (.bin .add (.var 2) (.const (.int 1)))) bfewest_refusers_1) bfewest_refusers_2)
def bfewest_refusers : Ss := (.cons (.asg (.var 2) (.ite (.var 0) (.app .len (.cons (.bin .idx (.var 0) (.const (.int 0))) .nil)) (.const (.int 0)))) bfewest_refusers_3)
def breasons_1 : Ss := (.cons (.asg (.var 6) (.app .max2 (.cons (.const (.int 0)) (.cons (.bin .add (.bin .sub (.app .len (.cons (.var 5) .nil)) (.var 1)) (.const (.int 1))) .nil)))) (.cons (.extend 3 (.slc (.comp (.tup (.cons (.var 4) (.cons (.var 7) .nil))) (.tup (.cons (.var 7) (.cons (.var 8) .nil))) (.enum (.var 5)) (.cons (.bin .eq (.var 8) (.const (.int 0))) .nil) [7, 8]) .no (.so (.var 6)))) .nil))
def breasons_2 : Ss := (.cons (.freeze 3) (.cons (.ret (.app .tuple (.cons (.var 3) .nil))) .nil))
def breasons_3 : Ss := (.cons (.for (.tup (.cons (.var 4) (.cons (.var 5) .nil))) (.enum (.var 0)) breasons_1) breasons_2)
def breasons : Ss := (.cons (.asg (.var 2) (.call 8 (.cons (.var 0) (.cons (.var 1) .nil)))) (.cons (.freeze 2) (.cons (.ite (.bin .eq (.var 2) (.const (.str [111, 112, 101, 110]))) (.cons (.ret (.const .non)) .nil) .nil) (.cons (.ite (.bin .eq (.var 2) (.const (.str [121, 101, 115]))) (.cons (.asg (.var 4) (.bin .idx (.call 7 (.cons (.var 0) (.cons (.var 1) .nil))) (.const (.int 0)))) (.cons (.ret (.app .tuple (.cons (.slc (.comp (.tup (.cons (.var 4) (.cons (.var 7) .nil))) (.tup (.cons (.var 7) (.cons (.var 8) .nil))) (.enum (.bin .idx (.var 0) (.var 4))) (.cons (.bin .eq (.var 8) (.const (.int 1))) .nil) [7, 8]) .no (.so (.var 1))) .nil))) .nil)) .nil) (.cons (.asg (.var 3) (.list .nil)) breasons_3)))))
def bare_reasons_1 : Ss := (.cons (.append 3 (.app .tuple (.cons (.comp (.ite (.bin .inn (.tup (.cons (.var 4) (.cons (.var 8) .nil))) (.var 2)) (.var 9) (.const .non)) (.tup (.cons (.var 8) (.cons (.var 9) .nil))) (.enum (.var 5)) .nil [8, 9]) .nil))) .nil)
def bare_reasons_2 : Ss := (.cons (.freeze 3) (.cons (.ret (.bin .inn (.call 8 (.cons (.app .tuple (.cons (.var 3) .nil)) (.cons (.var 1) .nil))) (.tup (.cons (.const (.str [121, 101, 115])) (.cons (.const (.str [110, 111])) .nil))))) .nil))
def bare_reasons_3 : Ss := (.cons (.for (.tup (.cons (.var 4) (.cons (.var 5) .nil))) (.enum (.var 0)) bare_reasons_1) bare_reasons_2)
def bare_reasons : Ss := (.cons (.ite (.or (.not (.app (.isi .tuple) (.cons (.var 2) .nil))) (.not (.app .all (.cons (.comp (.call 22 (.cons (.var 0) (.cons (.var 7) .nil))) (.var 7) (.seq (.var 2)) .nil [7]) .nil)))) (.cons (.ret (.const (.bl false))) .nil) .nil) (.cons (.ite (.app .any (.cons (.comp (.bin .ge (.bin .idx (.var 2) (.var 6)) (.bin .idx (.var 2) (.bin .add (.var 6) (.const (.int 1))))) (.var 6) (.rng1 (.bin .sub (.app .len (.cons (.var 2) .nil)) (.const (.int 1)))) .nil [6]) .nil)) (.cons (.ret (.const (.bl false))) .nil) .nil) (.cons (.asg (.var 3) (.list .nil)) bare_reasons_3)))
def bis_number : Ss := (.cons (.ret (.and (.app (.isi .int) (.cons (.var 0) .nil)) (.and (.not (.app (.isi .bool) (.cons (.var 0) .nil))) (.chain (.var 1) .le (.var 0) .le (.var 2))))) .nil)
def bnever_meet : Ss := (.cons (.asg (.var 2) (.call 18 (.cons (.bin .idx (.var 0) (.const (.int 0))) (.cons (.bin .idx (.var 1) (.const (.int 0))) .nil)))) (.cons (.freeze 2) (.cons (.dcomp 3 (.bin .mod (.var 4) (.var 2)) (.const (.bl true)) (.var 4) (.seq (.bin .idx (.var 0) (.const (.int 1)))) [4]) (.cons (.ret (.not (.app .any (.cons (.comp (.din false (.bin .mod (.var 4) (.var 2)) 3) (.var 4) (.seq (.bin .idx (.var 1) (.const (.int 1)))) .nil [4]) .nil)))) .nil))))
def bis_sure : Ss := (.cons (.ret (.bin .ge (.app .len (.cons (.comp (.var 2) (.var 2) (.seq (.var 0)) (.cons (.bin .eq (.var 2) (.const (.int 1))) .nil) [2]) .nil)) (.var 1))) .nil)
def bdays_open : Ss := (.cons (.ret (.app .tuple (.cons (.comp (.var 2) (.tup (.cons (.var 2) (.cons (.var 3) .nil))) (.enum (.var 0)) (.cons (.and (.not (.call 16 (.cons (.var 3) (.cons (.var 1) .nil)))) (.not (.call 23 (.cons (.var 3) (.cons (.var 1) .nil))))) .nil) [2, 3]) .nil))) .nil)
def bdivisor_1 : Ss := (.cons (.par [0, 1] (.cons (.var 1) (.cons (.bin .mod (.var 0) (.var 1)) .nil))) .nil)
def bdivisor_2 : Ss := (.cons (.ret (.var 0)) .nil)
def bdivisor : Ss := (.cons (.while (.var 1) bdivisor_1) bdivisor_2)
def bis_ascending : Ss := (.cons (.ret (.app .all (.cons (.comp (.bin .lt (.bin .idx (.var 0) (.var 1)) (.bin .idx (.var 0) (.bin .add (.var 1) (.const (.int 1))))) (.var 1) (.rng1 (.bin .sub (.app .len (.cons (.var 0) .nil)) (.const (.int 1)))) .nil [1]) .nil))) .nil)
def bexcludes_all : Ss := (.cons (.ret (.app .all (.cons (.comp (.bin .gt (.app .len (.cons (.comp (.var 4) (.var 4) (.seq (.var 2)) (.cons (.bin .eq (.bin .idx (.var 3) (.var 4)) (.const (.int 0))) .nil) [4]) .nil)) (.bin .sub (.app .len (.cons (.var 3) .nil)) (.var 1))) (.var 3) (.seq (.var 0)) .nil [3]) .nil))) .nil)
def bfirst_group_1 : Ss := (.cons (.asg (.var 7) (.call 21 (.cons (.var 0) (.cons (.var 1) (.cons (.var 2) (.cons (.bin .sub (.var 3) (.const (.int 1))) (.cons (.bin .add (.var 4) (.tup (.cons (.var 6) .nil))) .nil))))))) (.cons (.freeze 7) (.cons (.ite (.un .notN (.var 7)) (.cons (.ret (.var 7)) .nil) .nil) .nil)))
def bfirst_group_2 : Ss := (.cons (.ret (.const .non)) .nil)
def bfirst_group_3 : Ss := (.cons (.for (.var 6) (.rng2 (.var 5) (.bin .add (.bin .sub (.var 2) (.var 3)) (.const (.int 1)))) bfirst_group_1) bfirst_group_2)
def bfirst_group : Ss := (.cons (.ite (.bin .eq (.var 3) (.const (.int 0))) (.cons (.ret (.ite (.call 20 (.cons (.var 0) (.cons (.var 1) (.cons (.var 4) .nil)))) (.var 4) (.const .non))) .nil) .nil) (.cons (.asg (.var 5) (.ite (.var 4) (.bin .add (.bin .idx (.var 4) (.un .neg (.const (.int 1)))) (.const (.int 1))) (.const (.int 0)))) bfirst_group_3))
def bis_pair_in : Ss := (.cons (.ite (.or (.not (.app (.isi .tuple) (.cons (.var 1) .nil))) (.or (.bin .ne (.app .len (.cons (.var 1) .nil)) (.const (.int 2))) (.not (.call 14 (.cons (.bin .idx (.var 1) (.const (.int 0))) (.cons (.const (.int 0)) (.cons (.bin .sub (.app .len (.cons (.var 0) .nil)) (.const (.int 1))) .nil))))))) (.cons (.ret (.const (.bl false))) .nil) .nil) (.cons (.ret (.call 14 (.cons (.bin .idx (.var 1) (.const (.int 1))) (.cons (.const (.int 0)) (.cons (.bin .sub (.app .len (.cons (.bin .idx (.var 0) (.bin .idx (.var 1) (.const (.int 0)))) .nil)) (.const (.int 1))) .nil))))) .nil))
def bis_excluded : Ss := (.cons (.ret (.bin .lt (.app .len (.cons (.comp (.var 2) (.var 2) (.seq (.var 0)) (.cons (.bin .ne (.var 2) (.const (.int 0))) .nil) [2]) .nil)) (.var 1))) .nil)
def blaw_1 : Ss := (.cons (.asg (.var 5) (.call 1 (.cons (.var 5) (.cons (.var 6) .nil)))) (.cons (.freeze 5) .nil))
def blaw_2 : Ss := (.cons (.asg (.var 13) (.call 9 (.cons (.var 13) (.cons (.var 14) .nil)))) (.cons (.freeze 13) .nil))
def blaw_3 : Ss := (.cons (.ite (.or (.not (.call 4 (.cons (.var 13) (.cons (.tup (.cons (.var 5) (.cons (.var 9) .nil))) .nil)))) (.bin .ne (.app .len (.cons (.var 9) .nil)) (.const (.int 1)))) (.cons (.ret (.const (.bl false))) .nil) .nil) .nil)
def blaw_4 : Ss := (.cons (.for (.var 14) (.seq (.slc (.var 4) (.so (.const (.int 1))) .no)) blaw_2) blaw_3)
def blaw_5 : Ss := (.cons (.asg (.var 7) (.app .tuple (.cons (.comp (.app .tuple (.cons (.comp (.app .int (.cons (.call 2 (.cons (.var 14) (.cons (.var 15) .nil))) .nil)) (.var 14) (.seq (.var 4)) .nil [14]) .nil)) (.var 15) (.rng1 (.var 5)) .nil [15]) .nil))) (.cons (.ite (.or (.un .notT (.call 3 (.cons (.var 7) .nil))) (.not (.app .all (.cons (.comp (.app .all (.cons (.comp (.call 4 (.cons (.call 5 (.cons (.var 14) (.cons (.var 15) .nil))) (.cons (.call 2 (.cons (.var 14) (.cons (.var 15) .nil))) .nil))) (.var 14) (.seq (.var 4)) .nil [14]) .nil)) (.var 15) (.rng1 (.var 5)) .nil [15]) .nil)))) (.cons (.ret (.const (.bl false))) .nil) .nil) (.cons (.asg (.var 8) (.app .len (.cons (.var 4) .nil))) (.cons (.asg (.var 9) (.app .tuple (.cons (.comp (.var 15) (.var 15) (.rng1 (.var 5)) (.cons (.app .all (.cons (.comp (.call 2 (.cons (.var 14) (.cons (.var 15) .nil))) (.var 14) (.seq (.var 4)) .nil [14]) .nil)) .nil) [15]) .nil))) (.cons (.asg (.var 10) (.call 6 (.cons (.var 4) .nil))) (.cons (.freeze 10) (.cons (.ite (.or (.not (.call 4 (.cons (.call 7 (.cons (.var 7) (.cons (.var 8) .nil))) (.cons (.var 9) .nil)))) (.or (.bin .ne (.call 8 (.cons (.var 7) (.cons (.var 8) .nil))) (.ite (.un .notN (.var 10)) (.const (.str [110, 111])) (.const (.str [121, 101, 115])))) (.bin .ne (.bin .eq (.var 9) (.tup .nil)) (.un .notN (.var 10))))) (.cons (.ret (.const (.bl false))) .nil) .nil) (.cons (.ite (.un .isN (.var 10)) (.cons (.asg (.var 13) (.bin .idx (.var 4) (.const (.int 0)))) blaw_4) (.cons (.ite (.or (.un .notT (.call 10 (.cons (.var 7) (.cons (.var 8) (.cons (.var 10) .nil))))) (.bin .gt (.app .len (.cons (.call 11 (.cons (.var 7) (.cons (.var 8) .nil))) .nil)) (.const (.int 2)))) (.cons (.ret (.const (.bl false))) .nil) .nil) .nil)) (.cons (.asg (.var 11) (.call 12 (.cons (.var 7) (.cons (.var 8) .nil)))) (.cons (.freeze 11) (.cons (.ite (.or (.un .notT (.call 13 (.cons (.var 7) (.cons (.var 8) (.cons (.var 11) .nil))))) (.bin .ne (.app .len (.cons (.var 11) .nil)) (.ite (.un .isN (.var 10)) (.var 8) (.var 5)))) (.cons (.ret (.const (.bl false))) .nil) .nil) (.cons (.par [15, 16] (.cons (.draw 1 (.var 5)) (.cons (.draw 1 (.var 8)) .nil))) (.cons (.asg (.var 12) (.bin .add (.bin .add (.slc (.var 7) .no (.so (.var 15))) (.tup (.cons (.bin .add (.bin .add (.slc (.bin .idx (.var 7) (.var 15)) .no (.so (.var 16))) (.tup (.cons (.const .non) .nil))) (.slc (.bin .idx (.var 7) (.var 15)) (.so (.bin .add (.var 16) (.const (.int 1)))) .no)) .nil))) (.slc (.var 7) (.so (.bin .add (.var 15) (.const (.int 1)))) .no))) (.cons (.freeze 12) (.cons (.ite (.and (.bin .notin (.tup (.cons (.var 15) (.cons (.var 16) .nil))) (.var 11)) (.bin .ne (.call 8 (.cons (.var 12) (.cons (.var 8) .nil))) (.call 8 (.cons (.var 7) (.cons (.var 8) .nil))))) (.cons (.ret (.const (.bl false))) .nil) .nil) .nil)))))))))))))))
def blaw_6 : Ss := (.cons (.for (.var 6) (.seq (.var 3)) blaw_1) blaw_5)
def blaw_7 : Ss := (.cons (.forget [2, 3, 4, 5, 6, 7, 8, 9, 10, 11, 12, 13, 14, 15, 16]) (.cons (.asg (.var 3) (.bin .idx (.list (.cons (.tup (.cons (.const (.int 2)) (.cons (.const (.int 3)) .nil))) (.cons (.tup (.cons (.const (.int 2)) (.cons (.const (.int 4)) .nil))) (.cons (.tup (.cons (.const (.int 3)) (.cons (.const (.int 6)) .nil))) (.cons (.tup (.cons (.const (.int 4)) (.cons (.const (.int 6)) .nil))) (.cons (.tup (.cons (.const (.int 2)) (.cons (.const (.int 3)) (.cons (.const (.int 2)) .nil)))) (.cons (.tup (.cons (.const (.int 2)) (.cons (.const (.int 2)) (.cons (.const (.int 4)) .nil)))) (.cons (.tup (.cons (.const (.int 3)) (.cons (.const (.int 3)) (.cons (.const (.int 3)) .nil)))) .nil)))))))) (.draw 1 (.const (.int 7))))) (.cons (.asg (.var 4) (.app .tuple (.cons (.comp (.tup (.cons (.var 6) (.cons (.tup (.cons (.draw 1 (.var 6)) .nil)) .nil))) (.var 6) (.seq (.var 3)) .nil [6]) .nil))) (.cons (.asg (.var 5) (.const (.int 1))) blaw_6))))
def blaw_8 : Ss := (.cons (.ret (.const (.bl true))) .nil)
def blaw : Ss := (.cons (.for (.var 2) (.rng1 (.const (.int 6))) blaw_7) blaw_8)
def tF : List (Option Fn) := [none, some ⟨2, 3, b_law_lcm⟩, some ⟨2, 2, b_law_comes⟩, some ⟨1, 3, bis_open_poll⟩, some ⟨2, 3, b_law_same⟩, some ⟨2, 2, bcomes⟩, some ⟨1, 3, bfirst_strangers⟩, some ⟨2, 4, bsure_days⟩, some ⟨2, 2, bverdict⟩, some ⟨2, 7, bboth_turns⟩, some ⟨3, 5, bare_refusers⟩, some ⟨2, 5, bfewest_refusers⟩, some ⟨2, 9, breasons⟩, some ⟨3, 10, bare_reasons⟩, some ⟨3, 3, bis_number⟩, some ⟨2, 5, bnever_meet⟩, some ⟨2, 3, bis_sure⟩, some ⟨2, 4, bdays_open⟩, some ⟨2, 2, bdivisor⟩, some ⟨1, 2, bis_ascending⟩, some ⟨3, 5, bexcludes_all⟩, some ⟨5, 8, bfirst_group⟩, some ⟨2, 2, bis_pair_in⟩, some ⟨2, 3, bis_excluded⟩]
def tV : List (Option Val) := [some (.int 60), some (.int 10000)]
def GG : Prog := ⟨fun k => (tV[k]?).join, fun k => (tF[k]?).join, 1000, ⟨fun _ => false, fun _ => .non⟩⟩
end K77
end
section
set_option Elab.async false
set_option linter.all false
set_option autoImplicit false
set_option maxRecDepth 100000
set_option maxHeartbeats 4000000
namespace K77
open MP
noncomputable def cb_law_lcm_1 (c : Ctx) : SF := (fB_cons c (fS_asg c (.var 2) (fE_bin c .add (fE_var c 2) (fE_var c 0))) (fB_cons c (fS_freeze c 2) (fB_nil c)))
theorem eb_law_lcm_1 (c : Ctx) : exs c b_law_lcm_1 = cb_law_lcm_1 c := by unfold b_law_lcm_1; simp only [qE_memo, qE_const, qE_glob, qE_var, qE_tup, qE_list, qE_un, qE_bin, qE_chain, qE_slc, qE_and, qE_or, qE_not, qE_ite, qE_app, qE_meth, qE_call, qE_draw, qE_rngL, qE_comp, qE_comp2, qE_din, qE_dget, qA_nil, qA_cons, qC_nil, qC_cons, qO_no, qO_so, qI_seq, qI_rng1, qI_rng2, qI_enum, qI_zip, qS_asg, qS_par, qS_ret, qS_retOwn, qS_retN, qS_ite, qS_for, qS_while, qS_append, qS_extend, qS_setIdx, qS_popAt, qS_popPar, qS_insert, qS_aug, qS_augIdx, qS_freeze, qS_forget, qS_pass, qS_brk, qS_cont, qS_never, qS_memo, qS_dnew, qS_dput, qS_dcomp, qB_nil, qB_cons]; rfl
noncomputable def cb_law_lcm_2 (c : Ctx) : SF := (fB_cons c (fS_ret c (fE_var c 2)) (fB_nil c))
theorem eb_law_lcm_2 (c : Ctx) : exs c b_law_lcm_2 = cb_law_lcm_2 c := by unfold b_law_lcm_2; simp only [qE_memo, qE_const, qE_glob, qE_var, qE_tup, qE_list, qE_un, qE_bin, qE_chain, qE_slc, qE_and, qE_or, qE_not, qE_ite, qE_app, qE_meth, qE_call, qE_draw, qE_rngL, qE_comp, qE_comp2, qE_din, qE_dget, qA_nil, qA_cons, qC_nil, qC_cons, qO_no, qO_so, qI_seq, qI_rng1, qI_rng2, qI_enum, qI_zip, qS_asg, qS_par, qS_ret, qS_retOwn, qS_retN, qS_ite, qS_for, qS_while, qS_append, qS_extend, qS_setIdx, qS_popAt, qS_popPar, qS_insert, qS_aug, qS_augIdx, qS_freeze, qS_forget, qS_pass, qS_brk, qS_cont, qS_never, qS_memo, qS_dnew, qS_dput, qS_dcomp, qB_nil, qB_cons]; rfl
noncomputable def cb_law_lcm_3 (c : Ctx) : SF := (fB_cons c (fS_while c (fE_bin c .ne (fE_bin c .mul (fE_bin c .fdiv (fE_var c 2) (fE_var c 1)) (fE_var c 1)) (fE_var c 2)) (cb_law_lcm_1 c)) (cb_law_lcm_2 c))
theorem eb_law_lcm_3 (c : Ctx) : exs c b_law_lcm_3 = cb_law_lcm_3 c := by unfold b_law_lcm_3; simp only [qE_memo, qE_const, qE_glob, qE_var, qE_tup, qE_list, qE_un, qE_bin, qE_chain, qE_slc, qE_and, qE_or, qE_not, qE_ite, qE_app, qE_meth, qE_call, qE_draw, qE_rngL, qE_comp, qE_comp2, qE_din, qE_dget, qA_nil, qA_cons, qC_nil, qC_cons, qO_no, qO_so, qI_seq, qI_rng1, qI_rng2, qI_enum, qI_zip, qS_asg, qS_par, qS_ret, qS_retOwn, qS_retN, qS_ite, qS_for, qS_while, qS_append, qS_extend, qS_setIdx, qS_popAt, qS_popPar, qS_insert, qS_aug, qS_augIdx, qS_freeze, qS_forget, qS_pass, qS_brk, qS_cont, qS_never, qS_memo, qS_dnew, qS_dput, qS_dcomp, qB_nil, qB_cons, eb_law_lcm_1, eb_law_lcm_2]; rfl
noncomputable def cb_law_lcm (c : Ctx) : SF := (fB_cons c (fS_asg c (.var 2) (fE_var c 0)) (cb_law_lcm_3 c))
theorem eb_law_lcm (c : Ctx) : exs c b_law_lcm = cb_law_lcm c := by unfold b_law_lcm; simp only [qE_memo, qE_const, qE_glob, qE_var, qE_tup, qE_list, qE_un, qE_bin, qE_chain, qE_slc, qE_and, qE_or, qE_not, qE_ite, qE_app, qE_meth, qE_call, qE_draw, qE_rngL, qE_comp, qE_comp2, qE_din, qE_dget, qA_nil, qA_cons, qC_nil, qC_cons, qO_no, qO_so, qI_seq, qI_rng1, qI_rng2, qI_enum, qI_zip, qS_asg, qS_par, qS_ret, qS_retOwn, qS_retN, qS_ite, qS_for, qS_while, qS_append, qS_extend, qS_setIdx, qS_popAt, qS_popPar, qS_insert, qS_aug, qS_augIdx, qS_freeze, qS_forget, qS_pass, qS_brk, qS_cont, qS_never, qS_memo, qS_dnew, qS_dput, qS_dcomp, qB_nil, qB_cons, eb_law_lcm_3]; rfl
noncomputable def cb_law_comes (c : Ctx) : SF := (fB_cons c (fS_ret c (fE_bin c .inn (fE_bin c .sub (fE_var c 1) (fE_bin c .mul (fE_bin c .fdiv (fE_var c 1) (fE_bin c .idx (fE_var c 0) (fE_const c (.int 0)))) (fE_bin c .idx (fE_var c 0) (fE_const c (.int 0))))) (fE_bin c .idx (fE_var c 0) (fE_const c (.int 1))))) (fB_nil c))
theorem eb_law_comes (c : Ctx) : exs c b_law_comes = cb_law_comes c := by unfold b_law_comes; simp only [qE_memo, qE_const, qE_glob, qE_var, qE_tup, qE_list, qE_un, qE_bin, qE_chain, qE_slc, qE_and, qE_or, qE_not, qE_ite, qE_app, qE_meth, qE_call, qE_draw, qE_rngL, qE_comp, qE_comp2, qE_din, qE_dget, qA_nil, qA_cons, qC_nil, qC_cons, qO_no, qO_so, qI_seq, qI_rng1, qI_rng2, qI_enum, qI_zip, qS_asg, qS_par, qS_ret, qS_retOwn, qS_retN, qS_ite, qS_for, qS_while, qS_append, qS_extend, qS_setIdx, qS_popAt, qS_popPar, qS_insert, qS_aug, qS_augIdx, qS_freeze, qS_forget, qS_pass, qS_brk, qS_cont, qS_never, qS_memo, qS_dnew, qS_dput, qS_dcomp, qB_nil, qB_cons]; rfl
noncomputable def cbis_open_poll (c : Ctx) : SF := (fB_cons c (fS_ite c (fE_or c (fE_not c (fE_app c (.isi .tuple) (fA_cons c (fE_var c 0) (fA_nil c)))) (fE_not c (fE_app c .all (fA_cons c (fE_comp c (fE_app c (.isi .tuple) (fA_cons c (fE_var c 1) (fA_nil c))) (.var 1) (fI_seq c (fE_var c 0)) (fC_nil c) [1]) (fA_nil c))))) (fB_cons c (fS_ret c (fE_const c (.bl false))) (fB_nil c)) (fB_nil c)) (fB_cons c (fS_ite c (fE_or c (fE_app c .any (fA_cons c (fE_comp c (fE_bin c .ne (fE_app c .len (fA_cons c (fE_var c 1) (fA_nil c))) (fE_app c .len (fA_cons c (fE_bin c .idx (fE_var c 0) (fE_const c (.int 0))) (fA_nil c)))) (.var 1) (fI_seq c (fE_var c 0)) (fC_nil c) [1]) (fA_nil c))) (fE_bin c .gt (fE_app c .sum (fA_cons c (fE_comp c (fE_app c .len (fA_cons c (fE_var c 1) (fA_nil c))) (.var 1) (fI_seq c (fE_var c 0)) (fC_nil c) [1]) (fA_nil c))) (fE_glob c 0))) (fB_cons c (fS_ret c (fE_const c (.bl false))) (fB_nil c)) (fB_nil c)) (fB_cons c (fS_ret c (fE_app c .all (fA_cons c (fE_comp2 c (fE_or c (fE_un c .isN (fE_var c 2)) (fE_call c 14 (fA_cons c (fE_var c 2) (fA_cons c (fE_const c (.int 0)) (fA_cons c (fE_const c (.int 1)) (fA_nil c)))))) (.var 1) (fI_seq c (fE_var c 0)) (.var 2) (fI_seq c (fE_var c 1)) [1, 2]) (fA_nil c)))) (fB_nil c))))
theorem ebis_open_poll (c : Ctx) : exs c bis_open_poll = cbis_open_poll c := by unfold bis_open_poll; simp only [qE_memo, qE_const, qE_glob, qE_var, qE_tup, qE_list, qE_un, qE_bin, qE_chain, qE_slc, qE_and, qE_or, qE_not, qE_ite, qE_app, qE_meth, qE_call, qE_draw, qE_rngL, qE_comp, qE_comp2, qE_din, qE_dget, qA_nil, qA_cons, qC_nil, qC_cons, qO_no, qO_so, qI_seq, qI_rng1, qI_rng2, qI_enum, qI_zip, qS_asg, qS_par, qS_ret, qS_retOwn, qS_retN, qS_ite, qS_for, qS_while, qS_append, qS_extend, qS_setIdx, qS_popAt, qS_popPar, qS_insert, qS_aug, qS_augIdx, qS_freeze, qS_forget, qS_pass, qS_brk, qS_cont, qS_never, qS_memo, qS_dnew, qS_dput, qS_dcomp, qB_nil, qB_cons]; rfl
noncomputable def cb_law_same (c : Ctx) : SF := (fB_cons c (fS_ite c (fE_or c (fE_and c (fE_app c (.isi .tuple) (fA_cons c (fE_var c 0) (fA_nil c))) (fE_app c (.isi .tuple) (fA_cons c (fE_var c 1) (fA_nil c)))) (fE_and c (fE_app c (.isi .list) (fA_cons c (fE_var c 0) (fA_nil c))) (fE_app c (.isi .list) (fA_cons c (fE_var c 1) (fA_nil c))))) (fB_cons c (fS_ret c (fE_and c (fE_bin c .eq (fE_app c .len (fA_cons c (fE_var c 0) (fA_nil c))) (fE_app c .len (fA_cons c (fE_var c 1) (fA_nil c)))) (fE_app c .all (fA_cons c (fE_comp c (fE_call c 4 (fA_cons c (fE_bin c .idx (fE_var c 0) (fE_var c 2)) (fA_cons c (fE_bin c .idx (fE_var c 1) (fE_var c 2)) (fA_nil c)))) (.var 2) (fI_rng1 c (fE_app c .len (fA_cons c (fE_var c 0) (fA_nil c)))) (fC_nil c) [2]) (fA_nil c))))) (fB_nil c)) (fB_nil c)) (fB_cons c (fS_ite c (fE_or c (fE_app c (.isi .bool) (fA_cons c (fE_var c 0) (fA_nil c))) (fE_app c (.isi .bool) (fA_cons c (fE_var c 1) (fA_nil c)))) (fB_cons c (fS_ret c (fE_and c (fE_app c (.isi .bool) (fA_cons c (fE_var c 0) (fA_nil c))) (fE_and c (fE_app c (.isi .bool) (fA_cons c (fE_var c 1) (fA_nil c))) (fE_bin c .eq (fE_var c 0) (fE_var c 1))))) (fB_nil c)) (fB_nil c)) (fB_cons c (fS_ite c (fE_or c (fE_and c (fE_app c (.isi .int) (fA_cons c (fE_var c 0) (fA_nil c))) (fE_app c (.isi .int) (fA_cons c (fE_var c 1) (fA_nil c)))) (fE_and c (fE_app c (.isi .str) (fA_cons c (fE_var c 0) (fA_nil c))) (fE_app c (.isi .str) (fA_cons c (fE_var c 1) (fA_nil c))))) (fB_cons c (fS_ret c (fE_bin c .eq (fE_var c 0) (fE_var c 1))) (fB_nil c)) (fB_nil c)) (fB_cons c (fS_ret c (fE_and c (fE_un c .isN (fE_var c 0)) (fE_un c .isN (fE_var c 1)))) (fB_nil c)))))
theorem eb_law_same (c : Ctx) : exs c b_law_same = cb_law_same c := by unfold b_law_same; simp only [qE_memo, qE_const, qE_glob, qE_var, qE_tup, qE_list, qE_un, qE_bin, qE_chain, qE_slc, qE_and, qE_or, qE_not, qE_ite, qE_app, qE_meth, qE_call, qE_draw, qE_rngL, qE_comp, qE_comp2, qE_din, qE_dget, qA_nil, qA_cons, qC_nil, qC_cons, qO_no, qO_so, qI_seq, qI_rng1, qI_rng2, qI_enum, qI_zip, qS_asg, qS_par, qS_ret, qS_retOwn, qS_retN, qS_ite, qS_for, qS_while, qS_append, qS_extend, qS_setIdx, qS_popAt, qS_popPar, qS_insert, qS_aug, qS_augIdx, qS_freeze, qS_forget, qS_pass, qS_brk, qS_cont, qS_never, qS_memo, qS_dnew, qS_dput, qS_dcomp, qB_nil, qB_cons]; rfl
noncomputable def cbcomes (c : Ctx) : SF := (fB_cons c (fS_ret c (fE_bin c .inn (fE_bin c .mod (fE_var c 1) (fE_bin c .idx (fE_var c 0) (fE_const c (.int 0)))) (fE_bin c .idx (fE_var c 0) (fE_const c (.int 1))))) (fB_nil c))
theorem ebcomes (c : Ctx) : exs c bcomes = cbcomes c := by unfold bcomes; simp only [qE_memo, qE_const, qE_glob, qE_var, qE_tup, qE_list, qE_un, qE_bin, qE_chain, qE_slc, qE_and, qE_or, qE_not, qE_ite, qE_app, qE_meth, qE_call, qE_draw, qE_rngL, qE_comp, qE_comp2, qE_din, qE_dget, qA_nil, qA_cons, qC_nil, qC_cons, qO_no, qO_so, qI_seq, qI_rng1, qI_rng2, qI_enum, qI_zip, qS_asg, qS_par, qS_ret, qS_retOwn, qS_retN, qS_ite, qS_for, qS_while, qS_append, qS_extend, qS_setIdx, qS_popAt, qS_popPar, qS_insert, qS_aug, qS_augIdx, qS_freeze, qS_forget, qS_pass, qS_brk, qS_cont, qS_never, qS_memo, qS_dnew, qS_dput, qS_dcomp, qB_nil, qB_cons]; rfl
noncomputable def cbfirst_strangers_1 (c : Ctx) : SF := (fB_cons c (fS_ite c (fE_call c 15 (fA_cons c (fE_bin c .idx (fE_var c 0) (fE_var c 1)) (fA_cons c (fE_bin c .idx (fE_var c 0) (fE_var c 2)) (fA_nil c)))) (fB_cons c (fS_ret c (fE_tup c (fA_cons c (fE_var c 1) (fA_cons c (fE_var c 2) (fA_nil c))))) (fB_nil c)) (fB_nil c)) (fB_nil c))
theorem ebfirst_strangers_1 (c : Ctx) : exs c bfirst_strangers_1 = cbfirst_strangers_1 c := by unfold bfirst_strangers_1; simp only [qE_memo, qE_const, qE_glob, qE_var, qE_tup, qE_list, qE_un, qE_bin, qE_chain, qE_slc, qE_and, qE_or, qE_not, qE_ite, qE_app, qE_meth, qE_call, qE_draw, qE_rngL, qE_comp, qE_comp2, qE_din, qE_dget, qA_nil, qA_cons, qC_nil, qC_cons, qO_no, qO_so, qI_seq, qI_rng1, qI_rng2, qI_enum, qI_zip, qS_asg, qS_par, qS_ret, qS_retOwn, qS_retN, qS_ite, qS_for, qS_while, qS_append, qS_extend, qS_setIdx, qS_popAt, qS_popPar, qS_insert, qS_aug, qS_augIdx, qS_freeze, qS_forget, qS_pass, qS_brk, qS_cont, qS_never, qS_memo, qS_dnew, qS_dput, qS_dcomp, qB_nil, qB_cons]; rfl
noncomputable def cbfirst_strangers_2 (c : Ctx) : SF := (fB_cons c (fS_for c (.var 2) (fI_rng2 c (fE_bin c .add (fE_var c 1) (fE_const c (.int 1))) (fE_app c .len (fA_cons c (fE_var c 0) (fA_nil c)))) (cbfirst_strangers_1 c)) (fB_nil c))
theorem ebfirst_strangers_2 (c : Ctx) : exs c bfirst_strangers_2 = cbfirst_strangers_2 c := by unfold bfirst_strangers_2; simp only [qE_memo, qE_const, qE_glob, qE_var, qE_tup, qE_list, qE_un, qE_bin, qE_chain, qE_slc, qE_and, qE_or, qE_not, qE_ite, qE_app, qE_meth, qE_call, qE_draw, qE_rngL, qE_comp, qE_comp2, qE_din, qE_dget, qA_nil, qA_cons, qC_nil, qC_cons, qO_no, qO_so, qI_seq, qI_rng1, qI_rng2, qI_enum, qI_zip, qS_asg, qS_par, qS_ret, qS_retOwn, qS_retN, qS_ite, qS_for, qS_while, qS_append, qS_extend, qS_setIdx, qS_popAt, qS_popPar, qS_insert, qS_aug, qS_augIdx, qS_freeze, qS_forget, qS_pass, qS_brk, qS_cont, qS_never, qS_memo, qS_dnew, qS_dput, qS_dcomp, qB_nil, qB_cons, ebfirst_strangers_1]; rfl
noncomputable def cbfirst_strangers_3 (c : Ctx) : SF := (fB_cons c (fS_ret c (fE_const c .non)) (fB_nil c))
theorem ebfirst_strangers_3 (c : Ctx) : exs c bfirst_strangers_3 = cbfirst_strangers_3 c := by unfold bfirst_strangers_3; simp only [qE_memo, qE_const, qE_glob, qE_var, qE_tup, qE_list, qE_un, qE_bin, qE_chain, qE_slc, qE_and, qE_or, qE_not, qE_ite, qE_app, qE_meth, qE_call, qE_draw, qE_rngL, qE_comp, qE_comp2, qE_din, qE_dget, qA_nil, qA_cons, qC_nil, qC_cons, qO_no, qO_so, qI_seq, qI_rng1, qI_rng2, qI_enum, qI_zip, qS_asg, qS_par, qS_ret, qS_retOwn, qS_retN, qS_ite, qS_for, qS_while, qS_append, qS_extend, qS_setIdx, qS_popAt, qS_popPar, qS_insert, qS_aug, qS_augIdx, qS_freeze, qS_forget, qS_pass, qS_brk, qS_cont, qS_never, qS_memo, qS_dnew, qS_dput, qS_dcomp, qB_nil, qB_cons]; rfl
noncomputable def cbfirst_strangers (c : Ctx) : SF := (fB_cons c (fS_for c (.var 1) (fI_rng1 c (fE_app c .len (fA_cons c (fE_var c 0) (fA_nil c)))) (cbfirst_strangers_2 c)) (cbfirst_strangers_3 c))
theorem ebfirst_strangers (c : Ctx) : exs c bfirst_strangers = cbfirst_strangers c := by unfold bfirst_strangers; simp only [qE_memo, qE_const, qE_glob, qE_var, qE_tup, qE_list, qE_un, qE_bin, qE_chain, qE_slc, qE_and, qE_or, qE_not, qE_ite, qE_app, qE_meth, qE_call, qE_draw, qE_rngL, qE_comp, qE_comp2, qE_din, qE_dget, qA_nil, qA_cons, qC_nil, qC_cons, qO_no, qO_so, qI_seq, qI_rng1, qI_rng2, qI_enum, qI_zip, qS_asg, qS_par, qS_ret, qS_retOwn, qS_retN, qS_ite, qS_for, qS_while, qS_append, qS_extend, qS_setIdx, qS_popAt, qS_popPar, qS_insert, qS_aug, qS_augIdx, qS_freeze, qS_forget, qS_pass, qS_brk, qS_cont, qS_never, qS_memo, qS_dnew, qS_dput, qS_dcomp, qB_nil, qB_cons, ebfirst_strangers_2, ebfirst_strangers_3]; rfl
noncomputable def cbsure_days (c : Ctx) : SF := (fB_cons c (fS_ret c (fE_app c .tuple (fA_cons c (fE_comp c (fE_var c 2) (.tup (.cons (.var 2) (.cons (.var 3) .nil))) (fI_enum c (fE_var c 0)) (fC_cons c (fE_call c 16 (fA_cons c (fE_var c 3) (fA_cons c (fE_var c 1) (fA_nil c)))) (fC_nil c)) [2, 3]) (fA_nil c)))) (fB_nil c))
theorem ebsure_days (c : Ctx) : exs c bsure_days = cbsure_days c := by unfold bsure_days; simp only [qE_memo, qE_const, qE_glob, qE_var, qE_tup, qE_list, qE_un, qE_bin, qE_chain, qE_slc, qE_and, qE_or, qE_not, qE_ite, qE_app, qE_meth, qE_call, qE_draw, qE_rngL, qE_comp, qE_comp2, qE_din, qE_dget, qA_nil, qA_cons, qC_nil, qC_cons, qO_no, qO_so, qI_seq, qI_rng1, qI_rng2, qI_enum, qI_zip, qS_asg, qS_par, qS_ret, qS_retOwn, qS_retN, qS_ite, qS_for, qS_while, qS_append, qS_extend, qS_setIdx, qS_popAt, qS_popPar, qS_insert, qS_aug, qS_augIdx, qS_freeze, qS_forget, qS_pass, qS_brk, qS_cont, qS_never, qS_memo, qS_dnew, qS_dput, qS_dcomp, qB_nil, qB_cons]; rfl
noncomputable def cbverdict (c : Ctx) : SF := (fB_cons c (fS_ite c (fE_call c 7 (fA_cons c (fE_var c 0) (fA_cons c (fE_var c 1) (fA_nil c)))) (fB_cons c (fS_ret c (fE_const c (.str [121, 101, 115]))) (fB_nil c)) (fB_nil c)) (fB_cons c (fS_ret c (fE_ite c (fE_call c 17 (fA_cons c (fE_var c 0) (fA_cons c (fE_var c 1) (fA_nil c)))) (fE_const c (.str [111, 112, 101, 110])) (fE_const c (.str [110, 111])))) (fB_nil c)))
theorem ebverdict (c : Ctx) : exs c bverdict = cbverdict c := by unfold bverdict; simp only [qE_memo, qE_const, qE_glob, qE_var, qE_tup, qE_list, qE_un, qE_bin, qE_chain, qE_slc, qE_and, qE_or, qE_not, qE_ite, qE_app, qE_meth, qE_call, qE_draw, qE_rngL, qE_comp, qE_comp2, qE_din, qE_dget, qA_nil, qA_cons, qC_nil, qC_cons, qO_no, qO_so, qI_seq, qI_rng1, qI_rng2, qI_enum, qI_zip, qS_asg, qS_par, qS_ret, qS_retOwn, qS_retN, qS_ite, qS_for, qS_while, qS_append, qS_extend, qS_setIdx, qS_popAt, qS_popPar, qS_insert, qS_aug, qS_augIdx, qS_freeze, qS_forget, qS_pass, qS_brk, qS_cont, qS_never, qS_memo, qS_dnew, qS_dput, qS_dcomp, qB_nil, qB_cons]; rfl
noncomputable def cbboth_turns (c : Ctx) : SF := (fB_cons c (fS_asg c (.var 2) (fE_bin c .mul (fE_bin c .fdiv (fE_bin c .idx (fE_var c 0) (fE_const c (.int 0))) (fE_call c 18 (fA_cons c (fE_bin c .idx (fE_var c 0) (fE_const c (.int 0))) (fA_cons c (fE_bin c .idx (fE_var c 1) (fE_const c (.int 0))) (fA_nil c))))) (fE_bin c .idx (fE_var c 1) (fE_const c (.int 0))))) (fB_cons c (fS_ite c (fE_bin c .gt (fE_var c 2) (fE_glob c 1)) (fB_cons c (fS_never c) (fB_nil c)) (fB_nil c)) (fB_cons c (fS_asg c (.var 3) (fE_app c .tuple (fA_cons c (fE_comp2 c (fE_bin c .add (fE_var c 6) (fE_bin c .mul (fE_var c 5) (fE_bin c .idx (fE_var c 0) (fE_const c (.int 0))))) (.var 5) (fI_rng1 c (fE_bin c .fdiv (fE_var c 2) (fE_bin c .idx (fE_var c 0) (fE_const c (.int 0))))) (.var 6) (fI_seq c (fE_bin c .idx (fE_var c 0) (fE_const c (.int 1)))) [5, 6]) (fA_nil c)))) (fB_cons c (fS_asg c (.var 4) (fE_app c .tuple (fA_cons c (fE_comp c (fE_var c 6) (.var 6) (fI_seq c (fE_var c 3)) (fC_cons c (fE_bin c .inn (fE_bin c .mod (fE_var c 6) (fE_bin c .idx (fE_var c 1) (fE_const c (.int 0)))) (fE_bin c .idx (fE_var c 1) (fE_const c (.int 1)))) (fC_nil c)) [6]) (fA_nil c)))) (fB_cons c (fS_ite c (fE_not c (fE_var c 4)) (fB_cons c (fS_never c) (fB_nil c)) (fB_nil c)) (fB_cons c (fS_ret c (fE_tup c (fA_cons c (fE_var c 2) (fA_cons c (fE_var c 4) (fA_nil c))))) (fB_nil c)))))))
theorem ebboth_turns (c : Ctx) : exs c bboth_turns = cbboth_turns c := by unfold bboth_turns; simp only [qE_memo, qE_const, qE_glob, qE_var, qE_tup, qE_list, qE_un, qE_bin, qE_chain, qE_slc, qE_and, qE_or, qE_not, qE_ite, qE_app, qE_meth, qE_call, qE_draw, qE_rngL, qE_comp, qE_comp2, qE_din, qE_dget, qA_nil, qA_cons, qC_nil, qC_cons, qO_no, qO_so, qI_seq, qI_rng1, qI_rng2, qI_enum, qI_zip, qS_asg, qS_par, qS_ret, qS_retOwn, qS_retN, qS_ite, qS_for, qS_while, qS_append, qS_extend, qS_setIdx, qS_popAt, qS_popPar, qS_insert, qS_aug, qS_augIdx, qS_freeze, qS_forget, qS_pass, qS_brk, qS_cont, qS_never, qS_memo, qS_dnew, qS_dput, qS_dcomp, qB_nil, qB_cons]; rfl
noncomputable def cbare_refusers (c : Ctx) : SF := (fB_cons c (fS_asg c (.var 3) (fE_ite c (fE_var c 0) (fE_app c .len (fA_cons c (fE_bin c .idx (fE_var c 0) (fE_const c (.int 0))) (fA_nil c))) (fE_const c (.int 0)))) (fB_cons c (fS_ite c (fE_or c (fE_not c (fE_app c (.isi .tuple) (fA_cons c (fE_var c 2) (fA_nil c)))) (fE_not c (fE_app c .all (fA_cons c (fE_comp c (fE_call c 14 (fA_cons c (fE_var c 4) (fA_cons c (fE_const c (.int 0)) (fA_cons c (fE_bin c .sub (fE_var c 3) (fE_const c (.int 1))) (fA_nil c))))) (.var 4) (fI_seq c (fE_var c 2)) (fC_nil c) [4]) (fA_nil c))))) (fB_cons c (fS_ret c (fE_const c (.bl false))) (fB_nil c)) (fB_nil c)) (fB_cons c (fS_ret c (fE_and c (fE_call c 19 (fA_cons c (fE_var c 2) (fA_nil c))) (fE_call c 20 (fA_cons c (fE_var c 0) (fA_cons c (fE_var c 1) (fA_cons c (fE_var c 2) (fA_nil c))))))) (fB_nil c))))
theorem ebare_refusers (c : Ctx) : exs c bare_refusers = cbare_refusers c := by unfold bare_refusers; simp only [qE_memo, qE_const, qE_glob, qE_var, qE_tup, qE_list, qE_un, qE_bin, qE_chain, qE_slc, qE_and, qE_or, qE_not, qE_ite, qE_app, qE_meth, qE_call, qE_draw, qE_rngL, qE_comp, qE_comp2, qE_din, qE_dget, qA_nil, qA_cons, qC_nil, qC_cons, qO_no, qO_so, qI_seq, qI_rng1, qI_rng2, qI_enum, qI_zip, qS_asg, qS_par, qS_ret, qS_retOwn, qS_retN, qS_ite, qS_for, qS_while, qS_append, qS_extend, qS_setIdx, qS_popAt, qS_popPar, qS_insert, qS_aug, qS_augIdx, qS_freeze, qS_forget, qS_pass, qS_brk, qS_cont, qS_never, qS_memo, qS_dnew, qS_dput, qS_dcomp, qB_nil, qB_cons]; rfl
noncomputable def cbfewest_refusers_1 (c : Ctx) : SF := (fB_cons c (fS_asg c (.var 4) (fE_call c 21 (fA_cons c (fE_var c 0) (fA_cons c (fE_var c 1) (fA_cons c (fE_var c 2) (fA_cons c (fE_var c 3) (fA_cons c (fE_tup c (fA_nil c)) (fA_nil c)))))))) (fB_cons c (fS_freeze c 4) (fB_cons c (fS_ite c (fE_un c .notN (fE_var c 4)) (fB_cons c (fS_ret c (fE_var c 4)) (fB_nil c)) (fB_nil c)) (fB_nil c))))
theorem ebfewest_refusers_1 (c : Ctx) : exs c bfewest_refusers_1 = cbfewest_refusers_1 c := by unfold bfewest_refusers_1; simp only [qE_memo, qE_const, qE_glob, qE_var, qE_tup, qE_list, qE_un, qE_bin, qE_chain, qE_slc, qE_and, qE_or, qE_not, qE_ite, qE_app, qE_meth, qE_call, qE_draw, qE_rngL, qE_comp, qE_comp2, qE_din, qE_dget, qA_nil, qA_cons, qC_nil, qC_cons, qO_no, qO_so, qI_seq, qI_rng1, qI_rng2, qI_enum, qI_zip, qS_asg, qS_par, qS_ret, qS_retOwn, qS_retN, qS_ite, qS_for, qS_while, qS_append, qS_extend, qS_setIdx, qS_popAt, qS_popPar, qS_insert, qS_aug, qS_augIdx, qS_freeze, qS_forget, qS_pass, qS_brk, qS_cont, qS_never, qS_memo, qS_dnew, qS_dput, qS_dcomp, qB_nil, qB_cons]; rfl
noncomputable def cbfewest_refusers_2 (c : Ctx) : SF := (fB_cons c (fS_ret c (fE_const c .non)) (fB_nil c))
theorem ebfewest_refusers_2 (c : Ctx) : exs c bfewest_refusers_2 = cbfewest_refusers_2 c := by unfold bfewest_refusers_2; simp only [qE_memo, qE_const, qE_glob, qE_var, qE_tup, qE_list, qE_un, qE_bin, qE_chain, qE_slc, qE_and, qE_or, qE_not, qE_ite, qE_app, qE_meth, qE_call, qE_draw, qE_rngL, qE_comp, qE_comp2, qE_din, qE_dget, qA_nil, qA_cons, qC_nil, qC_cons, qO_no, qO_so, qI_seq, qI_rng1, qI_rng2, qI_enum, qI_zip, qS_asg, qS_par, qS_ret, qS_retOwn, qS_retN, qS_ite, qS_for, qS_while, qS_append, qS_extend, qS_setIdx, qS_popAt, qS_popPar, qS_insert, qS_aug, qS_augIdx, qS_freeze, qS_forget, qS_pass, qS_brk, qS_cont, qS_never, qS_memo, qS_dnew, qS_dput, qS_dcomp, qB_nil, qB_cons]; rfl
noncomputable def cbfewest_refusers_3 (c : Ctx) : SF := (fB_cons c (fS_for c (.var 3) (fI_rng1 c (fE_bin c .add (fE_var c 2) (fE_const c (.int 1)))) (cbfewest_refusers_1 c)) (cbfewest_refusers_2 c))
theorem ebfewest_refusers_3 (c : Ctx) : exs c bfewest_refusers_3 = cbfewest_refusers_3 c := by unfold bfewest_refusers_3; simp only [qE_memo, qE_const, qE_glob, qE_var, qE_tup, qE_list, qE_un, qE_bin, qE_chain, qE_slc, qE_and, qE_or, qE_not, qE_ite, qE_app, qE_meth, qE_call, qE_draw, qE_rngL, qE_comp, qE_comp2, qE_din, qE_dget, qA_nil, qA_cons, qC_nil, qC_cons, qO_no, qO_so, qI_seq, qI_rng1, qI_rng2, qI_enum, qI_zip, qS_asg, qS_par, qS_ret, qS_retOwn, qS_retN, qS_ite, qS_for, qS_while, qS_append, qS_extend, qS_setIdx, qS_popAt, qS_popPar, qS_insert, qS_aug, qS_augIdx, qS_freeze, qS_forget, qS_pass, qS_brk, qS_cont, qS_never, qS_memo, qS_dnew, qS_dput, qS_dcomp, qB_nil, qB_cons, ebfewest_refusers_1, ebfewest_refusers_2]; rfl
noncomputable def cbfewest_refusers (c : Ctx) : SF := (fB_cons c (fS_asg c (.var 2) (fE_ite c (fE_var c 0) (fE_app c .len (fA_cons c (fE_bin c .idx (fE_var c 0) (fE_const c (.int 0))) (fA_nil c))) (fE_const c (.int 0)))) (cbfewest_refusers_3 c))
theorem ebfewest_refusers (c : Ctx) : exs c bfewest_refusers = cbfewest_refusers c := by unfold bfewest_refusers; simp only [qE_memo, qE_const, qE_glob, qE_var, qE_tup, qE_list, qE_un, qE_bin, qE_chain, qE_slc, qE_and, qE_or, qE_not, qE_ite, qE_app, qE_meth, qE_call, qE_draw, qE_rngL, qE_comp, qE_comp2, qE_din, qE_dget, qA_nil, qA_cons, qC_nil, qC_cons, qO_no, qO_so, qI_seq, qI_rng1, qI_rng2, qI_enum, qI_zip, qS_asg, qS_par, qS_ret, qS_retOwn, qS_retN, qS_ite, qS_for, qS_while, qS_append, qS_extend, qS_setIdx, qS_popAt, qS_popPar, qS_insert, qS_aug, qS_augIdx, qS_freeze, qS_forget, qS_pass, qS_brk, qS_cont, qS_never, qS_memo, qS_dnew, qS_dput, qS_dcomp, qB_nil, qB_cons, ebfewest_refusers_3]; rfl
noncomputable def cbreasons_1 (c : Ctx) : SF := (fB_cons c (fS_asg c (.var 6) (fE_app c .max2 (fA_cons c (fE_const c (.int 0)) (fA_cons c (fE_bin c .add (fE_bin c .sub (fE_app c .len (fA_cons c (fE_var c 5) (fA_nil c))) (fE_var c 1)) (fE_const c (.int 1))) (fA_nil c))))) (fB_cons c (fS_extend c 3 (fE_slc c (fE_comp c (fE_tup c (fA_cons c (fE_var c 4) (fA_cons c (fE_var c 7) (fA_nil c)))) (.tup (.cons (.var 7) (.cons (.var 8) .nil))) (fI_enum c (fE_var c 5)) (fC_cons c (fE_bin c .eq (fE_var c 8) (fE_const c (.int 0))) (fC_nil c)) [7, 8]) (fO_no c) (fO_so c (fE_var c 6)))) (fB_nil c)))
theorem ebreasons_1 (c : Ctx) : exs c breasons_1 = cbreasons_1 c := by unfold breasons_1; simp only [qE_memo, qE_const, qE_glob, qE_var, qE_tup, qE_list, qE_un, qE_bin, qE_chain, qE_slc, qE_and, qE_or, qE_not, qE_ite, qE_app, qE_meth, qE_call, qE_draw, qE_rngL, qE_comp, qE_comp2, qE_din, qE_dget, qA_nil, qA_cons, qC_nil, qC_cons, qO_no, qO_so, qI_seq, qI_rng1, qI_rng2, qI_enum, qI_zip, qS_asg, qS_par, qS_ret, qS_retOwn, qS_retN, qS_ite, qS_for, qS_while, qS_append, qS_extend, qS_setIdx, qS_popAt, qS_popPar, qS_insert, qS_aug, qS_augIdx, qS_freeze, qS_forget, qS_pass, qS_brk, qS_cont, qS_never, qS_memo, qS_dnew, qS_dput, qS_dcomp, qB_nil, qB_cons]; rfl
noncomputable def cbreasons_2 (c : Ctx) : SF := (fB_cons c (fS_freeze c 3) (fB_cons c (fS_ret c (fE_app c .tuple (fA_cons c (fE_var c 3) (fA_nil c)))) (fB_nil c)))
theorem ebreasons_2 (c : Ctx) : exs c breasons_2 = cbreasons_2 c := by unfold breasons_2; simp only [qE_memo, qE_const, qE_glob, qE_var, qE_tup, qE_list, qE_un, qE_bin, qE_chain, qE_slc, qE_and, qE_or, qE_not, qE_ite, qE_app, qE_meth, qE_call, qE_draw, qE_rngL, qE_comp, qE_comp2, qE_din, qE_dget, qA_nil, qA_cons, qC_nil, qC_cons, qO_no, qO_so, qI_seq, qI_rng1, qI_rng2, qI_enum, qI_zip, qS_asg, qS_par, qS_ret, qS_retOwn, qS_retN, qS_ite, qS_for, qS_while, qS_append, qS_extend, qS_setIdx, qS_popAt, qS_popPar, qS_insert, qS_aug, qS_augIdx, qS_freeze, qS_forget, qS_pass, qS_brk, qS_cont, qS_never, qS_memo, qS_dnew, qS_dput, qS_dcomp, qB_nil, qB_cons]; rfl
noncomputable def cbreasons_3 (c : Ctx) : SF := (fB_cons c (fS_for c (.tup (.cons (.var 4) (.cons (.var 5) .nil))) (fI_enum c (fE_var c 0)) (cbreasons_1 c)) (cbreasons_2 c))
theorem ebreasons_3 (c : Ctx) : exs c breasons_3 = cbreasons_3 c := by unfold breasons_3; simp only [qE_memo, qE_const, qE_glob, qE_var, qE_tup, qE_list, qE_un, qE_bin, qE_chain, qE_slc, qE_and, qE_or, qE_not, qE_ite, qE_app, qE_meth, qE_call, qE_draw, qE_rngL, qE_comp, qE_comp2, qE_din, qE_dget, qA_nil, qA_cons, qC_nil, qC_cons, qO_no, qO_so, qI_seq, qI_rng1, qI_rng2, qI_enum, qI_zip, qS_asg, qS_par, qS_ret, qS_retOwn, qS_retN, qS_ite, qS_for, qS_while, qS_append, qS_extend, qS_setIdx, qS_popAt, qS_popPar, qS_insert, qS_aug, qS_augIdx, qS_freeze, qS_forget, qS_pass, qS_brk, qS_cont, qS_never, qS_memo, qS_dnew, qS_dput, qS_dcomp, qB_nil, qB_cons, ebreasons_1, ebreasons_2]; rfl
noncomputable def cbreasons (c : Ctx) : SF := (fB_cons c (fS_asg c (.var 2) (fE_call c 8 (fA_cons c (fE_var c 0) (fA_cons c (fE_var c 1) (fA_nil c))))) (fB_cons c (fS_freeze c 2) (fB_cons c (fS_ite c (fE_bin c .eq (fE_var c 2) (fE_const c (.str [111, 112, 101, 110]))) (fB_cons c (fS_ret c (fE_const c .non)) (fB_nil c)) (fB_nil c)) (fB_cons c (fS_ite c (fE_bin c .eq (fE_var c 2) (fE_const c (.str [121, 101, 115]))) (fB_cons c (fS_asg c (.var 4) (fE_bin c .idx (fE_call c 7 (fA_cons c (fE_var c 0) (fA_cons c (fE_var c 1) (fA_nil c)))) (fE_const c (.int 0)))) (fB_cons c (fS_ret c (fE_app c .tuple (fA_cons c (fE_slc c (fE_comp c (fE_tup c (fA_cons c (fE_var c 4) (fA_cons c (fE_var c 7) (fA_nil c)))) (.tup (.cons (.var 7) (.cons (.var 8) .nil))) (fI_enum c (fE_bin c .idx (fE_var c 0) (fE_var c 4))) (fC_cons c (fE_bin c .eq (fE_var c 8) (fE_const c (.int 1))) (fC_nil c)) [7, 8]) (fO_no c) (fO_so c (fE_var c 1))) (fA_nil c)))) (fB_nil c))) (fB_nil c)) (fB_cons c (fS_asg c (.var 3) (fE_list c (fA_nil c))) (cbreasons_3 c))))))
theorem ebreasons (c : Ctx) : exs c breasons = cbreasons c := by unfold breasons; simp only [qE_memo, qE_const, qE_glob, qE_var, qE_tup, qE_list, qE_un, qE_bin, qE_chain, qE_slc, qE_and, qE_or, qE_not, qE_ite, qE_app, qE_meth, qE_call, qE_draw, qE_rngL, qE_comp, qE_comp2, qE_din, qE_dget, qA_nil, qA_cons, qC_nil, qC_cons, qO_no, qO_so, qI_seq, qI_rng1, qI_rng2, qI_enum, qI_zip, qS_asg, qS_par, qS_ret, qS_retOwn, qS_retN, qS_ite, qS_for, qS_while, qS_append, qS_extend, qS_setIdx, qS_popAt, qS_popPar, qS_insert, qS_aug, qS_augIdx, qS_freeze, qS_forget, qS_pass, qS_brk, qS_cont, qS_never, qS_memo, qS_dnew, qS_dput, qS_dcomp, qB_nil, qB_cons, ebreasons_3]; rfl
noncomputable def cbare_reasons_1 (c : Ctx) : SF := (fB_cons c (fS_append c 3 (fE_app c .tuple (fA_cons c (fE_comp c (fE_ite c (fE_bin c .inn (fE_tup c (fA_cons c (fE_var c 4) (fA_cons c (fE_var c 8) (fA_nil c)))) (fE_var c 2)) (fE_var c 9) (fE_const c .non)) (.tup (.cons (.var 8) (.cons (.var 9) .nil))) (fI_enum c (fE_var c 5)) (fC_nil c) [8, 9]) (fA_nil c)))) (fB_nil c))
theorem ebare_reasons_1 (c : Ctx) : exs c bare_reasons_1 = cbare_reasons_1 c := by unfold bare_reasons_1; simp only [qE_memo, qE_const, qE_glob, qE_var, qE_tup, qE_list, qE_un, qE_bin, qE_chain, qE_slc, qE_and, qE_or, qE_not, qE_ite, qE_app, qE_meth, qE_call, qE_draw, qE_rngL, qE_comp, qE_comp2, qE_din, qE_dget, qA_nil, qA_cons, qC_nil, qC_cons, qO_no, qO_so, qI_seq, qI_rng1, qI_rng2, qI_enum, qI_zip, qS_asg, qS_par, qS_ret, qS_retOwn, qS_retN, qS_ite, qS_for, qS_while, qS_append, qS_extend, qS_setIdx, qS_popAt, qS_popPar, qS_insert, qS_aug, qS_augIdx, qS_freeze, qS_forget, qS_pass, qS_brk, qS_cont, qS_never, qS_memo, qS_dnew, qS_dput, qS_dcomp, qB_nil, qB_cons]; rfl
noncomputable def cbare_reasons_2 (c : Ctx) : SF := (fB_cons c (fS_freeze c 3) (fB_cons c (fS_ret c (fE_bin c .inn (fE_call c 8 (fA_cons c (fE_app c .tuple (fA_cons c (fE_var c 3) (fA_nil c))) (fA_cons c (fE_var c 1) (fA_nil c)))) (fE_tup c (fA_cons c (fE_const c (.str [121, 101, 115])) (fA_cons c (fE_const c (.str [110, 111])) (fA_nil c)))))) (fB_nil c)))
theorem ebare_reasons_2 (c : Ctx) : exs c bare_reasons_2 = cbare_reasons_2 c := by unfold bare_reasons_2; simp only [qE_memo, qE_const, qE_glob, qE_var, qE_tup, qE_list, qE_un, qE_bin, qE_chain, qE_slc, qE_and, qE_or, qE_not, qE_ite, qE_app, qE_meth, qE_call, qE_draw, qE_rngL, qE_comp, qE_comp2, qE_din, qE_dget, qA_nil, qA_cons, qC_nil, qC_cons, qO_no, qO_so, qI_seq, qI_rng1, qI_rng2, qI_enum, qI_zip, qS_asg, qS_par, qS_ret, qS_retOwn, qS_retN, qS_ite, qS_for, qS_while, qS_append, qS_extend, qS_setIdx, qS_popAt, qS_popPar, qS_insert, qS_aug, qS_augIdx, qS_freeze, qS_forget, qS_pass, qS_brk, qS_cont, qS_never, qS_memo, qS_dnew, qS_dput, qS_dcomp, qB_nil, qB_cons]; rfl
noncomputable def cbare_reasons_3 (c : Ctx) : SF := (fB_cons c (fS_for c (.tup (.cons (.var 4) (.cons (.var 5) .nil))) (fI_enum c (fE_var c 0)) (cbare_reasons_1 c)) (cbare_reasons_2 c))
theorem ebare_reasons_3 (c : Ctx) : exs c bare_reasons_3 = cbare_reasons_3 c := by unfold bare_reasons_3; simp only [qE_memo, qE_const, qE_glob, qE_var, qE_tup, qE_list, qE_un, qE_bin, qE_chain, qE_slc, qE_and, qE_or, qE_not, qE_ite, qE_app, qE_meth, qE_call, qE_draw, qE_rngL, qE_comp, qE_comp2, qE_din, qE_dget, qA_nil, qA_cons, qC_nil, qC_cons, qO_no, qO_so, qI_seq, qI_rng1, qI_rng2, qI_enum, qI_zip, qS_asg, qS_par, qS_ret, qS_retOwn, qS_retN, qS_ite, qS_for, qS_while, qS_append, qS_extend, qS_setIdx, qS_popAt, qS_popPar, qS_insert, qS_aug, qS_augIdx, qS_freeze, qS_forget, qS_pass, qS_brk, qS_cont, qS_never, qS_memo, qS_dnew, qS_dput, qS_dcomp, qB_nil, qB_cons, ebare_reasons_1, ebare_reasons_2]; rfl
noncomputable def cbare_reasons (c : Ctx) : SF := (fB_cons c (fS_ite c (fE_or c (fE_not c (fE_app c (.isi .tuple) (fA_cons c (fE_var c 2) (fA_nil c)))) (fE_not c (fE_app c .all (fA_cons c (fE_comp c (fE_call c 22 (fA_cons c (fE_var c 0) (fA_cons c (fE_var c 7) (fA_nil c)))) (.var 7) (fI_seq c (fE_var c 2)) (fC_nil c) [7]) (fA_nil c))))) (fB_cons c (fS_ret c (fE_const c (.bl false))) (fB_nil c)) (fB_nil c)) (fB_cons c (fS_ite c (fE_app c .any (fA_cons c (fE_comp c (fE_bin c .ge (fE_bin c .idx (fE_var c 2) (fE_var c 6)) (fE_bin c .idx (fE_var c 2) (fE_bin c .add (fE_var c 6) (fE_const c (.int 1))))) (.var 6) (fI_rng1 c (fE_bin c .sub (fE_app c .len (fA_cons c (fE_var c 2) (fA_nil c))) (fE_const c (.int 1)))) (fC_nil c) [6]) (fA_nil c))) (fB_cons c (fS_ret c (fE_const c (.bl false))) (fB_nil c)) (fB_nil c)) (fB_cons c (fS_asg c (.var 3) (fE_list c (fA_nil c))) (cbare_reasons_3 c))))
theorem ebare_reasons (c : Ctx) : exs c bare_reasons = cbare_reasons c := by unfold bare_reasons; simp only [qE_memo, qE_const, qE_glob, qE_var, qE_tup, qE_list, qE_un, qE_bin, qE_chain, qE_slc, qE_and, qE_or, qE_not, qE_ite, qE_app, qE_meth, qE_call, qE_draw, qE_rngL, qE_comp, qE_comp2, qE_din, qE_dget, qA_nil, qA_cons, qC_nil, qC_cons, qO_no, qO_so, qI_seq, qI_rng1, qI_rng2, qI_enum, qI_zip, qS_asg, qS_par, qS_ret, qS_retOwn, qS_retN, qS_ite, qS_for, qS_while, qS_append, qS_extend, qS_setIdx, qS_popAt, qS_popPar, qS_insert, qS_aug, qS_augIdx, qS_freeze, qS_forget, qS_pass, qS_brk, qS_cont, qS_never, qS_memo, qS_dnew, qS_dput, qS_dcomp, qB_nil, qB_cons, ebare_reasons_3]; rfl
noncomputable def cbis_number (c : Ctx) : SF := (fB_cons c (fS_ret c (fE_and c (fE_app c (.isi .int) (fA_cons c (fE_var c 0) (fA_nil c))) (fE_and c (fE_not c (fE_app c (.isi .bool) (fA_cons c (fE_var c 0) (fA_nil c)))) (fE_chain c (fE_var c 1) .le (fE_var c 0) .le (fE_var c 2))))) (fB_nil c))
theorem ebis_number (c : Ctx) : exs c bis_number = cbis_number c := by unfold bis_number; simp only [qE_memo, qE_const, qE_glob, qE_var, qE_tup, qE_list, qE_un, qE_bin, qE_chain, qE_slc, qE_and, qE_or, qE_not, qE_ite, qE_app, qE_meth, qE_call, qE_draw, qE_rngL, qE_comp, qE_comp2, qE_din, qE_dget, qA_nil, qA_cons, qC_nil, qC_cons, qO_no, qO_so, qI_seq, qI_rng1, qI_rng2, qI_enum, qI_zip, qS_asg, qS_par, qS_ret, qS_retOwn, qS_retN, qS_ite, qS_for, qS_while, qS_append, qS_extend, qS_setIdx, qS_popAt, qS_popPar, qS_insert, qS_aug, qS_augIdx, qS_freeze, qS_forget, qS_pass, qS_brk, qS_cont, qS_never, qS_memo, qS_dnew, qS_dput, qS_dcomp, qB_nil, qB_cons]; rfl
noncomputable def cbnever_meet (c : Ctx) : SF := (fB_cons c (fS_asg c (.var 2) (fE_call c 18 (fA_cons c (fE_bin c .idx (fE_var c 0) (fE_const c (.int 0))) (fA_cons c (fE_bin c .idx (fE_var c 1) (fE_const c (.int 0))) (fA_nil c))))) (fB_cons c (fS_freeze c 2) (fB_cons c (fS_dcomp c 3 (fE_bin c .mod (fE_var c 4) (fE_var c 2)) (fE_const c (.bl true)) (.var 4) (fI_seq c (fE_bin c .idx (fE_var c 0) (fE_const c (.int 1)))) [4]) (fB_cons c (fS_ret c (fE_not c (fE_app c .any (fA_cons c (fE_comp c (fE_din c false (fE_bin c .mod (fE_var c 4) (fE_var c 2)) 3) (.var 4) (fI_seq c (fE_bin c .idx (fE_var c 1) (fE_const c (.int 1)))) (fC_nil c) [4]) (fA_nil c))))) (fB_nil c)))))
theorem ebnever_meet (c : Ctx) : exs c bnever_meet = cbnever_meet c := by unfold bnever_meet; simp only [qE_memo, qE_const, qE_glob, qE_var, qE_tup, qE_list, qE_un, qE_bin, qE_chain, qE_slc, qE_and, qE_or, qE_not, qE_ite, qE_app, qE_meth, qE_call, qE_draw, qE_rngL, qE_comp, qE_comp2, qE_din, qE_dget, qA_nil, qA_cons, qC_nil, qC_cons, qO_no, qO_so, qI_seq, qI_rng1, qI_rng2, qI_enum, qI_zip, qS_asg, qS_par, qS_ret, qS_retOwn, qS_retN, qS_ite, qS_for, qS_while, qS_append, qS_extend, qS_setIdx, qS_popAt, qS_popPar, qS_insert, qS_aug, qS_augIdx, qS_freeze, qS_forget, qS_pass, qS_brk, qS_cont, qS_never, qS_memo, qS_dnew, qS_dput, qS_dcomp, qB_nil, qB_cons]; rfl
noncomputable def cbis_sure (c : Ctx) : SF := (fB_cons c (fS_ret c (fE_bin c .ge (fE_app c .len (fA_cons c (fE_comp c (fE_var c 2) (.var 2) (fI_seq c (fE_var c 0)) (fC_cons c (fE_bin c .eq (fE_var c 2) (fE_const c (.int 1))) (fC_nil c)) [2]) (fA_nil c))) (fE_var c 1))) (fB_nil c))
theorem ebis_sure (c : Ctx) : exs c bis_sure = cbis_sure c := by unfold bis_sure; simp only [qE_memo, qE_const, qE_glob, qE_var, qE_tup, qE_list, qE_un, qE_bin, qE_chain, qE_slc, qE_and, qE_or, qE_not, qE_ite, qE_app, qE_meth, qE_call, qE_draw, qE_rngL, qE_comp, qE_comp2, qE_din, qE_dget, qA_nil, qA_cons, qC_nil, qC_cons, qO_no, qO_so, qI_seq, qI_rng1, qI_rng2, qI_enum, qI_zip, qS_asg, qS_par, qS_ret, qS_retOwn, qS_retN, qS_ite, qS_for, qS_while, qS_append, qS_extend, qS_setIdx, qS_popAt, qS_popPar, qS_insert, qS_aug, qS_augIdx, qS_freeze, qS_forget, qS_pass, qS_brk, qS_cont, qS_never, qS_memo, qS_dnew, qS_dput, qS_dcomp, qB_nil, qB_cons]; rfl
noncomputable def cbdays_open (c : Ctx) : SF := (fB_cons c (fS_ret c (fE_app c .tuple (fA_cons c (fE_comp c (fE_var c 2) (.tup (.cons (.var 2) (.cons (.var 3) .nil))) (fI_enum c (fE_var c 0)) (fC_cons c (fE_and c (fE_not c (fE_call c 16 (fA_cons c (fE_var c 3) (fA_cons c (fE_var c 1) (fA_nil c))))) (fE_not c (fE_call c 23 (fA_cons c (fE_var c 3) (fA_cons c (fE_var c 1) (fA_nil c)))))) (fC_nil c)) [2, 3]) (fA_nil c)))) (fB_nil c))
theorem ebdays_open (c : Ctx) : exs c bdays_open = cbdays_open c := by unfold bdays_open; simp only [qE_memo, qE_const, qE_glob, qE_var, qE_tup, qE_list, qE_un, qE_bin, qE_chain, qE_slc, qE_and, qE_or, qE_not, qE_ite, qE_app, qE_meth, qE_call, qE_draw, qE_rngL, qE_comp, qE_comp2, qE_din, qE_dget, qA_nil, qA_cons, qC_nil, qC_cons, qO_no, qO_so, qI_seq, qI_rng1, qI_rng2, qI_enum, qI_zip, qS_asg, qS_par, qS_ret, qS_retOwn, qS_retN, qS_ite, qS_for, qS_while, qS_append, qS_extend, qS_setIdx, qS_popAt, qS_popPar, qS_insert, qS_aug, qS_augIdx, qS_freeze, qS_forget, qS_pass, qS_brk, qS_cont, qS_never, qS_memo, qS_dnew, qS_dput, qS_dcomp, qB_nil, qB_cons]; rfl
noncomputable def cbdivisor_1 (c : Ctx) : SF := (fB_cons c (fS_par c [0, 1] (fA_cons c (fE_var c 1) (fA_cons c (fE_bin c .mod (fE_var c 0) (fE_var c 1)) (fA_nil c)))) (fB_nil c))
theorem ebdivisor_1 (c : Ctx) : exs c bdivisor_1 = cbdivisor_1 c := by unfold bdivisor_1; simp only [qE_memo, qE_const, qE_glob, qE_var, qE_tup, qE_list, qE_un, qE_bin, qE_chain, qE_slc, qE_and, qE_or, qE_not, qE_ite, qE_app, qE_meth, qE_call, qE_draw, qE_rngL, qE_comp, qE_comp2, qE_din, qE_dget, qA_nil, qA_cons, qC_nil, qC_cons, qO_no, qO_so, qI_seq, qI_rng1, qI_rng2, qI_enum, qI_zip, qS_asg, qS_par, qS_ret, qS_retOwn, qS_retN, qS_ite, qS_for, qS_while, qS_append, qS_extend, qS_setIdx, qS_popAt, qS_popPar, qS_insert, qS_aug, qS_augIdx, qS_freeze, qS_forget, qS_pass, qS_brk, qS_cont, qS_never, qS_memo, qS_dnew, qS_dput, qS_dcomp, qB_nil, qB_cons]; rfl
noncomputable def cbdivisor_2 (c : Ctx) : SF := (fB_cons c (fS_ret c (fE_var c 0)) (fB_nil c))
theorem ebdivisor_2 (c : Ctx) : exs c bdivisor_2 = cbdivisor_2 c := by unfold bdivisor_2; simp only [qE_memo, qE_const, qE_glob, qE_var, qE_tup, qE_list, qE_un, qE_bin, qE_chain, qE_slc, qE_and, qE_or, qE_not, qE_ite, qE_app, qE_meth, qE_call, qE_draw, qE_rngL, qE_comp, qE_comp2, qE_din, qE_dget, qA_nil, qA_cons, qC_nil, qC_cons, qO_no, qO_so, qI_seq, qI_rng1, qI_rng2, qI_enum, qI_zip, qS_asg, qS_par, qS_ret, qS_retOwn, qS_retN, qS_ite, qS_for, qS_while, qS_append, qS_extend, qS_setIdx, qS_popAt, qS_popPar, qS_insert, qS_aug, qS_augIdx, qS_freeze, qS_forget, qS_pass, qS_brk, qS_cont, qS_never, qS_memo, qS_dnew, qS_dput, qS_dcomp, qB_nil, qB_cons]; rfl
noncomputable def cbdivisor (c : Ctx) : SF := (fB_cons c (fS_while c (fE_var c 1) (cbdivisor_1 c)) (cbdivisor_2 c))
theorem ebdivisor (c : Ctx) : exs c bdivisor = cbdivisor c := by unfold bdivisor; simp only [qE_memo, qE_const, qE_glob, qE_var, qE_tup, qE_list, qE_un, qE_bin, qE_chain, qE_slc, qE_and, qE_or, qE_not, qE_ite, qE_app, qE_meth, qE_call, qE_draw, qE_rngL, qE_comp, qE_comp2, qE_din, qE_dget, qA_nil, qA_cons, qC_nil, qC_cons, qO_no, qO_so, qI_seq, qI_rng1, qI_rng2, qI_enum, qI_zip, qS_asg, qS_par, qS_ret, qS_retOwn, qS_retN, qS_ite, qS_for, qS_while, qS_append, qS_extend, qS_setIdx, qS_popAt, qS_popPar, qS_insert, qS_aug, qS_augIdx, qS_freeze, qS_forget, qS_pass, qS_brk, qS_cont, qS_never, qS_memo, qS_dnew, qS_dput, qS_dcomp, qB_nil, qB_cons, ebdivisor_1, ebdivisor_2]; rfl
noncomputable def cbis_ascending (c : Ctx) : SF := (fB_cons c (fS_ret c (fE_app c .all (fA_cons c (fE_comp c (fE_bin c .lt (fE_bin c .idx (fE_var c 0) (fE_var c 1)) (fE_bin c .idx (fE_var c 0) (fE_bin c .add (fE_var c 1) (fE_const c (.int 1))))) (.var 1) (fI_rng1 c (fE_bin c .sub (fE_app c .len (fA_cons c (fE_var c 0) (fA_nil c))) (fE_const c (.int 1)))) (fC_nil c) [1]) (fA_nil c)))) (fB_nil c))
theorem ebis_ascending (c : Ctx) : exs c bis_ascending = cbis_ascending c := by unfold bis_ascending; simp only [qE_memo, qE_const, qE_glob, qE_var, qE_tup, qE_list, qE_un, qE_bin, qE_chain, qE_slc, qE_and, qE_or, qE_not, qE_ite, qE_app, qE_meth, qE_call, qE_draw, qE_rngL, qE_comp, qE_comp2, qE_din, qE_dget, qA_nil, qA_cons, qC_nil, qC_cons, qO_no, qO_so, qI_seq, qI_rng1, qI_rng2, qI_enum, qI_zip, qS_asg, qS_par, qS_ret, qS_retOwn, qS_retN, qS_ite, qS_for, qS_while, qS_append, qS_extend, qS_setIdx, qS_popAt, qS_popPar, qS_insert, qS_aug, qS_augIdx, qS_freeze, qS_forget, qS_pass, qS_brk, qS_cont, qS_never, qS_memo, qS_dnew, qS_dput, qS_dcomp, qB_nil, qB_cons]; rfl
noncomputable def cbexcludes_all (c : Ctx) : SF := (fB_cons c (fS_ret c (fE_app c .all (fA_cons c (fE_comp c (fE_bin c .gt (fE_app c .len (fA_cons c (fE_comp c (fE_var c 4) (.var 4) (fI_seq c (fE_var c 2)) (fC_cons c (fE_bin c .eq (fE_bin c .idx (fE_var c 3) (fE_var c 4)) (fE_const c (.int 0))) (fC_nil c)) [4]) (fA_nil c))) (fE_bin c .sub (fE_app c .len (fA_cons c (fE_var c 3) (fA_nil c))) (fE_var c 1))) (.var 3) (fI_seq c (fE_var c 0)) (fC_nil c) [3]) (fA_nil c)))) (fB_nil c))
theorem ebexcludes_all (c : Ctx) : exs c bexcludes_all = cbexcludes_all c := by unfold bexcludes_all; simp only [qE_memo, qE_const, qE_glob, qE_var, qE_tup, qE_list, qE_un, qE_bin, qE_chain, qE_slc, qE_and, qE_or, qE_not, qE_ite, qE_app, qE_meth, qE_call, qE_draw, qE_rngL, qE_comp, qE_comp2, qE_din, qE_dget, qA_nil, qA_cons, qC_nil, qC_cons, qO_no, qO_so, qI_seq, qI_rng1, qI_rng2, qI_enum, qI_zip, qS_asg, qS_par, qS_ret, qS_retOwn, qS_retN, qS_ite, qS_for, qS_while, qS_append, qS_extend, qS_setIdx, qS_popAt, qS_popPar, qS_insert, qS_aug, qS_augIdx, qS_freeze, qS_forget, qS_pass, qS_brk, qS_cont, qS_never, qS_memo, qS_dnew, qS_dput, qS_dcomp, qB_nil, qB_cons]; rfl
noncomputable def cbfirst_group_1 (c : Ctx) : SF := (fB_cons c (fS_asg c (.var 7) (fE_call c 21 (fA_cons c (fE_var c 0) (fA_cons c (fE_var c 1) (fA_cons c (fE_var c 2) (fA_cons c (fE_bin c .sub (fE_var c 3) (fE_const c (.int 1))) (fA_cons c (fE_bin c .add (fE_var c 4) (fE_tup c (fA_cons c (fE_var c 6) (fA_nil c)))) (fA_nil c)))))))) (fB_cons c (fS_freeze c 7) (fB_cons c (fS_ite c (fE_un c .notN (fE_var c 7)) (fB_cons c (fS_ret c (fE_var c 7)) (fB_nil c)) (fB_nil c)) (fB_nil c))))
theorem ebfirst_group_1 (c : Ctx) : exs c bfirst_group_1 = cbfirst_group_1 c := by unfold bfirst_group_1; simp only [qE_memo, qE_const, qE_glob, qE_var, qE_tup, qE_list, qE_un, qE_bin, qE_chain, qE_slc, qE_and, qE_or, qE_not, qE_ite, qE_app, qE_meth, qE_call, qE_draw, qE_rngL, qE_comp, qE_comp2, qE_din, qE_dget, qA_nil, qA_cons, qC_nil, qC_cons, qO_no, qO_so, qI_seq, qI_rng1, qI_rng2, qI_enum, qI_zip, qS_asg, qS_par, qS_ret, qS_retOwn, qS_retN, qS_ite, qS_for, qS_while, qS_append, qS_extend, qS_setIdx, qS_popAt, qS_popPar, qS_insert, qS_aug, qS_augIdx, qS_freeze, qS_forget, qS_pass, qS_brk, qS_cont, qS_never, qS_memo, qS_dnew, qS_dput, qS_dcomp, qB_nil, qB_cons]; rfl
noncomputable def cbfirst_group_2 (c : Ctx) : SF := (fB_cons c (fS_ret c (fE_const c .non)) (fB_nil c))
theorem ebfirst_group_2 (c : Ctx) : exs c bfirst_group_2 = cbfirst_group_2 c := by unfold bfirst_group_2; simp only [qE_memo, qE_const, qE_glob, qE_var, qE_tup, qE_list, qE_un, qE_bin, qE_chain, qE_slc, qE_and, qE_or, qE_not, qE_ite, qE_app, qE_meth, qE_call, qE_draw, qE_rngL, qE_comp, qE_comp2, qE_din, qE_dget, qA_nil, qA_cons, qC_nil, qC_cons, qO_no, qO_so, qI_seq, qI_rng1, qI_rng2, qI_enum, qI_zip, qS_asg, qS_par, qS_ret, qS_retOwn, qS_retN, qS_ite, qS_for, qS_while, qS_append, qS_extend, qS_setIdx, qS_popAt, qS_popPar, qS_insert, qS_aug, qS_augIdx, qS_freeze, qS_forget, qS_pass, qS_brk, qS_cont, qS_never, qS_memo, qS_dnew, qS_dput, qS_dcomp, qB_nil, qB_cons]; rfl
noncomputable def cbfirst_group_3 (c : Ctx) : SF := (fB_cons c (fS_for c (.var 6) (fI_rng2 c (fE_var c 5) (fE_bin c .add (fE_bin c .sub (fE_var c 2) (fE_var c 3)) (fE_const c (.int 1)))) (cbfirst_group_1 c)) (cbfirst_group_2 c))
theorem ebfirst_group_3 (c : Ctx) : exs c bfirst_group_3 = cbfirst_group_3 c := by unfold bfirst_group_3; simp only [qE_memo, qE_const, qE_glob, qE_var, qE_tup, qE_list, qE_un, qE_bin, qE_chain, qE_slc, qE_and, qE_or, qE_not, qE_ite, qE_app, qE_meth, qE_call, qE_draw, qE_rngL, qE_comp, qE_comp2, qE_din, qE_dget, qA_nil, qA_cons, qC_nil, qC_cons, qO_no, qO_so, qI_seq, qI_rng1, qI_rng2, qI_enum, qI_zip, qS_asg, qS_par, qS_ret, qS_retOwn, qS_retN, qS_ite, qS_for, qS_while, qS_append, qS_extend, qS_setIdx, qS_popAt, qS_popPar, qS_insert, qS_aug, qS_augIdx, qS_freeze, qS_forget, qS_pass, qS_brk, qS_cont, qS_never, qS_memo, qS_dnew, qS_dput, qS_dcomp, qB_nil, qB_cons, ebfirst_group_1, ebfirst_group_2]; rfl
noncomputable def cbfirst_group (c : Ctx) : SF := (fB_cons c (fS_ite c (fE_bin c .eq (fE_var c 3) (fE_const c (.int 0))) (fB_cons c (fS_ret c (fE_ite c (fE_call c 20 (fA_cons c (fE_var c 0) (fA_cons c (fE_var c 1) (fA_cons c (fE_var c 4) (fA_nil c))))) (fE_var c 4) (fE_const c .non))) (fB_nil c)) (fB_nil c)) (fB_cons c (fS_asg c (.var 5) (fE_ite c (fE_var c 4) (fE_bin c .add (fE_bin c .idx (fE_var c 4) (fE_un c .neg (fE_const c (.int 1)))) (fE_const c (.int 1))) (fE_const c (.int 0)))) (cbfirst_group_3 c)))
theorem ebfirst_group (c : Ctx) : exs c bfirst_group = cbfirst_group c := by unfold bfirst_group; simp only [qE_memo, qE_const, qE_glob, qE_var, qE_tup, qE_list, qE_un, qE_bin, qE_chain, qE_slc, qE_and, qE_or, qE_not, qE_ite, qE_app, qE_meth, qE_call, qE_draw, qE_rngL, qE_comp, qE_comp2, qE_din, qE_dget, qA_nil, qA_cons, qC_nil, qC_cons, qO_no, qO_so, qI_seq, qI_rng1, qI_rng2, qI_enum, qI_zip, qS_asg, qS_par, qS_ret, qS_retOwn, qS_retN, qS_ite, qS_for, qS_while, qS_append, qS_extend, qS_setIdx, qS_popAt, qS_popPar, qS_insert, qS_aug, qS_augIdx, qS_freeze, qS_forget, qS_pass, qS_brk, qS_cont, qS_never, qS_memo, qS_dnew, qS_dput, qS_dcomp, qB_nil, qB_cons, ebfirst_group_3]; rfl
noncomputable def cbis_pair_in (c : Ctx) : SF := (fB_cons c (fS_ite c (fE_or c (fE_not c (fE_app c (.isi .tuple) (fA_cons c (fE_var c 1) (fA_nil c)))) (fE_or c (fE_bin c .ne (fE_app c .len (fA_cons c (fE_var c 1) (fA_nil c))) (fE_const c (.int 2))) (fE_not c (fE_call c 14 (fA_cons c (fE_bin c .idx (fE_var c 1) (fE_const c (.int 0))) (fA_cons c (fE_const c (.int 0)) (fA_cons c (fE_bin c .sub (fE_app c .len (fA_cons c (fE_var c 0) (fA_nil c))) (fE_const c (.int 1))) (fA_nil c)))))))) (fB_cons c (fS_ret c (fE_const c (.bl false))) (fB_nil c)) (fB_nil c)) (fB_cons c (fS_ret c (fE_call c 14 (fA_cons c (fE_bin c .idx (fE_var c 1) (fE_const c (.int 1))) (fA_cons c (fE_const c (.int 0)) (fA_cons c (fE_bin c .sub (fE_app c .len (fA_cons c (fE_bin c .idx (fE_var c 0) (fE_bin c .idx (fE_var c 1) (fE_const c (.int 0)))) (fA_nil c))) (fE_const c (.int 1))) (fA_nil c)))))) (fB_nil c)))
theorem ebis_pair_in (c : Ctx) : exs c bis_pair_in = cbis_pair_in c := by unfold bis_pair_in; simp only [qE_memo, qE_const, qE_glob, qE_var, qE_tup, qE_list, qE_un, qE_bin, qE_chain, qE_slc, qE_and, qE_or, qE_not, qE_ite, qE_app, qE_meth, qE_call, qE_draw, qE_rngL, qE_comp, qE_comp2, qE_din, qE_dget, qA_nil, qA_cons, qC_nil, qC_cons, qO_no, qO_so, qI_seq, qI_rng1, qI_rng2, qI_enum, qI_zip, qS_asg, qS_par, qS_ret, qS_retOwn, qS_retN, qS_ite, qS_for, qS_while, qS_append, qS_extend, qS_setIdx, qS_popAt, qS_popPar, qS_insert, qS_aug, qS_augIdx, qS_freeze, qS_forget, qS_pass, qS_brk, qS_cont, qS_never, qS_memo, qS_dnew, qS_dput, qS_dcomp, qB_nil, qB_cons]; rfl
noncomputable def cbis_excluded (c : Ctx) : SF := (fB_cons c (fS_ret c (fE_bin c .lt (fE_app c .len (fA_cons c (fE_comp c (fE_var c 2) (.var 2) (fI_seq c (fE_var c 0)) (fC_cons c (fE_bin c .ne (fE_var c 2) (fE_const c (.int 0))) (fC_nil c)) [2]) (fA_nil c))) (fE_var c 1))) (fB_nil c))
theorem ebis_excluded (c : Ctx) : exs c bis_excluded = cbis_excluded c := by unfold bis_excluded; simp only [qE_memo, qE_const, qE_glob, qE_var, qE_tup, qE_list, qE_un, qE_bin, qE_chain, qE_slc, qE_and, qE_or, qE_not, qE_ite, qE_app, qE_meth, qE_call, qE_draw, qE_rngL, qE_comp, qE_comp2, qE_din, qE_dget, qA_nil, qA_cons, qC_nil, qC_cons, qO_no, qO_so, qI_seq, qI_rng1, qI_rng2, qI_enum, qI_zip, qS_asg, qS_par, qS_ret, qS_retOwn, qS_retN, qS_ite, qS_for, qS_while, qS_append, qS_extend, qS_setIdx, qS_popAt, qS_popPar, qS_insert, qS_aug, qS_augIdx, qS_freeze, qS_forget, qS_pass, qS_brk, qS_cont, qS_never, qS_memo, qS_dnew, qS_dput, qS_dcomp, qB_nil, qB_cons]; rfl
noncomputable def cblaw_1 (c : Ctx) : SF := (fB_cons c (fS_asg c (.var 5) (fE_call c 1 (fA_cons c (fE_var c 5) (fA_cons c (fE_var c 6) (fA_nil c))))) (fB_cons c (fS_freeze c 5) (fB_nil c)))
theorem eblaw_1 (c : Ctx) : exs c blaw_1 = cblaw_1 c := by unfold blaw_1; simp only [qE_memo, qE_const, qE_glob, qE_var, qE_tup, qE_list, qE_un, qE_bin, qE_chain, qE_slc, qE_and, qE_or, qE_not, qE_ite, qE_app, qE_meth, qE_call, qE_draw, qE_rngL, qE_comp, qE_comp2, qE_din, qE_dget, qA_nil, qA_cons, qC_nil, qC_cons, qO_no, qO_so, qI_seq, qI_rng1, qI_rng2, qI_enum, qI_zip, qS_asg, qS_par, qS_ret, qS_retOwn, qS_retN, qS_ite, qS_for, qS_while, qS_append, qS_extend, qS_setIdx, qS_popAt, qS_popPar, qS_insert, qS_aug, qS_augIdx, qS_freeze, qS_forget, qS_pass, qS_brk, qS_cont, qS_never, qS_memo, qS_dnew, qS_dput, qS_dcomp, qB_nil, qB_cons]; rfl
noncomputable def cblaw_2 (c : Ctx) : SF := (fB_cons c (fS_asg c (.var 13) (fE_call c 9 (fA_cons c (fE_var c 13) (fA_cons c (fE_var c 14) (fA_nil c))))) (fB_cons c (fS_freeze c 13) (fB_nil c)))
theorem eblaw_2 (c : Ctx) : exs c blaw_2 = cblaw_2 c := by unfold blaw_2; simp only [qE_memo, qE_const, qE_glob, qE_var, qE_tup, qE_list, qE_un, qE_bin, qE_chain, qE_slc, qE_and, qE_or, qE_not, qE_ite, qE_app, qE_meth, qE_call, qE_draw, qE_rngL, qE_comp, qE_comp2, qE_din, qE_dget, qA_nil, qA_cons, qC_nil, qC_cons, qO_no, qO_so, qI_seq, qI_rng1, qI_rng2, qI_enum, qI_zip, qS_asg, qS_par, qS_ret, qS_retOwn, qS_retN, qS_ite, qS_for, qS_while, qS_append, qS_extend, qS_setIdx, qS_popAt, qS_popPar, qS_insert, qS_aug, qS_augIdx, qS_freeze, qS_forget, qS_pass, qS_brk, qS_cont, qS_never, qS_memo, qS_dnew, qS_dput, qS_dcomp, qB_nil, qB_cons]; rfl
noncomputable def cblaw_3 (c : Ctx) : SF := (fB_cons c (fS_ite c (fE_or c (fE_not c (fE_call c 4 (fA_cons c (fE_var c 13) (fA_cons c (fE_tup c (fA_cons c (fE_var c 5) (fA_cons c (fE_var c 9) (fA_nil c)))) (fA_nil c))))) (fE_bin c .ne (fE_app c .len (fA_cons c (fE_var c 9) (fA_nil c))) (fE_const c (.int 1)))) (fB_cons c (fS_ret c (fE_const c (.bl false))) (fB_nil c)) (fB_nil c)) (fB_nil c))
theorem eblaw_3 (c : Ctx) : exs c blaw_3 = cblaw_3 c := by unfold blaw_3; simp only [qE_memo, qE_const, qE_glob, qE_var, qE_tup, qE_list, qE_un, qE_bin, qE_chain, qE_slc, qE_and, qE_or, qE_not, qE_ite, qE_app, qE_meth, qE_call, qE_draw, qE_rngL, qE_comp, qE_comp2, qE_din, qE_dget, qA_nil, qA_cons, qC_nil, qC_cons, qO_no, qO_so, qI_seq, qI_rng1, qI_rng2, qI_enum, qI_zip, qS_asg, qS_par, qS_ret, qS_retOwn, qS_retN, qS_ite, qS_for, qS_while, qS_append, qS_extend, qS_setIdx, qS_popAt, qS_popPar, qS_insert, qS_aug, qS_augIdx, qS_freeze, qS_forget, qS_pass, qS_brk, qS_cont, qS_never, qS_memo, qS_dnew, qS_dput, qS_dcomp, qB_nil, qB_cons]; rfl
noncomputable def cblaw_4 (c : Ctx) : SF := (fB_cons c (fS_for c (.var 14) (fI_seq c (fE_slc c (fE_var c 4) (fO_so c (fE_const c (.int 1))) (fO_no c))) (cblaw_2 c)) (cblaw_3 c))
theorem eblaw_4 (c : Ctx) : exs c blaw_4 = cblaw_4 c := by unfold blaw_4; simp only [qE_memo, qE_const, qE_glob, qE_var, qE_tup, qE_list, qE_un, qE_bin, qE_chain, qE_slc, qE_and, qE_or, qE_not, qE_ite, qE_app, qE_meth, qE_call, qE_draw, qE_rngL, qE_comp, qE_comp2, qE_din, qE_dget, qA_nil, qA_cons, qC_nil, qC_cons, qO_no, qO_so, qI_seq, qI_rng1, qI_rng2, qI_enum, qI_zip, qS_asg, qS_par, qS_ret, qS_retOwn, qS_retN, qS_ite, qS_for, qS_while, qS_append, qS_extend, qS_setIdx, qS_popAt, qS_popPar, qS_insert, qS_aug, qS_augIdx, qS_freeze, qS_forget, qS_pass, qS_brk, qS_cont, qS_never, qS_memo, qS_dnew, qS_dput, qS_dcomp, qB_nil, qB_cons, eblaw_2, eblaw_3]; rfl
noncomputable def cblaw_5 (c : Ctx) : SF := (fB_cons c (fS_asg c (.var 7) (fE_app c .tuple (fA_cons c (fE_comp c (fE_app c .tuple (fA_cons c (fE_comp c (fE_app c .int (fA_cons c (fE_call c 2 (fA_cons c (fE_var c 14) (fA_cons c (fE_var c 15) (fA_nil c)))) (fA_nil c))) (.var 14) (fI_seq c (fE_var c 4)) (fC_nil c) [14]) (fA_nil c))) (.var 15) (fI_rng1 c (fE_var c 5)) (fC_nil c) [15]) (fA_nil c)))) (fB_cons c (fS_ite c (fE_or c (fE_un c .notT (fE_call c 3 (fA_cons c (fE_var c 7) (fA_nil c)))) (fE_not c (fE_app c .all (fA_cons c (fE_comp c (fE_app c .all (fA_cons c (fE_comp c (fE_call c 4 (fA_cons c (fE_call c 5 (fA_cons c (fE_var c 14) (fA_cons c (fE_var c 15) (fA_nil c)))) (fA_cons c (fE_call c 2 (fA_cons c (fE_var c 14) (fA_cons c (fE_var c 15) (fA_nil c)))) (fA_nil c)))) (.var 14) (fI_seq c (fE_var c 4)) (fC_nil c) [14]) (fA_nil c))) (.var 15) (fI_rng1 c (fE_var c 5)) (fC_nil c) [15]) (fA_nil c))))) (fB_cons c (fS_ret c (fE_const c (.bl false))) (fB_nil c)) (fB_nil c)) (fB_cons c (fS_asg c (.var 8) (fE_app c .len (fA_cons c (fE_var c 4) (fA_nil c)))) (fB_cons c (fS_asg c (.var 9) (fE_app c .tuple (fA_cons c (fE_comp c (fE_var c 15) (.var 15) (fI_rng1 c (fE_var c 5)) (fC_cons c (fE_app c .all (fA_cons c (fE_comp c (fE_call c 2 (fA_cons c (fE_var c 14) (fA_cons c (fE_var c 15) (fA_nil c)))) (.var 14) (fI_seq c (fE_var c 4)) (fC_nil c) [14]) (fA_nil c))) (fC_nil c)) [15]) (fA_nil c)))) (fB_cons c (fS_asg c (.var 10) (fE_call c 6 (fA_cons c (fE_var c 4) (fA_nil c)))) (fB_cons c (fS_freeze c 10) (fB_cons c (fS_ite c (fE_or c (fE_not c (fE_call c 4 (fA_cons c (fE_call c 7 (fA_cons c (fE_var c 7) (fA_cons c (fE_var c 8) (fA_nil c)))) (fA_cons c (fE_var c 9) (fA_nil c))))) (fE_or c (fE_bin c .ne (fE_call c 8 (fA_cons c (fE_var c 7) (fA_cons c (fE_var c 8) (fA_nil c)))) (fE_ite c (fE_un c .notN (fE_var c 10)) (fE_const c (.str [110, 111])) (fE_const c (.str [121, 101, 115])))) (fE_bin c .ne (fE_bin c .eq (fE_var c 9) (fE_tup c (fA_nil c))) (fE_un c .notN (fE_var c 10))))) (fB_cons c (fS_ret c (fE_const c (.bl false))) (fB_nil c)) (fB_nil c)) (fB_cons c (fS_ite c (fE_un c .isN (fE_var c 10)) (fB_cons c (fS_asg c (.var 13) (fE_bin c .idx (fE_var c 4) (fE_const c (.int 0)))) (cblaw_4 c)) (fB_cons c (fS_ite c (fE_or c (fE_un c .notT (fE_call c 10 (fA_cons c (fE_var c 7) (fA_cons c (fE_var c 8) (fA_cons c (fE_var c 10) (fA_nil c)))))) (fE_bin c .gt (fE_app c .len (fA_cons c (fE_call c 11 (fA_cons c (fE_var c 7) (fA_cons c (fE_var c 8) (fA_nil c)))) (fA_nil c))) (fE_const c (.int 2)))) (fB_cons c (fS_ret c (fE_const c (.bl false))) (fB_nil c)) (fB_nil c)) (fB_nil c))) (fB_cons c (fS_asg c (.var 11) (fE_call c 12 (fA_cons c (fE_var c 7) (fA_cons c (fE_var c 8) (fA_nil c))))) (fB_cons c (fS_freeze c 11) (fB_cons c (fS_ite c (fE_or c (fE_un c .notT (fE_call c 13 (fA_cons c (fE_var c 7) (fA_cons c (fE_var c 8) (fA_cons c (fE_var c 11) (fA_nil c)))))) (fE_bin c .ne (fE_app c .len (fA_cons c (fE_var c 11) (fA_nil c))) (fE_ite c (fE_un c .isN (fE_var c 10)) (fE_var c 8) (fE_var c 5)))) (fB_cons c (fS_ret c (fE_const c (.bl false))) (fB_nil c)) (fB_nil c)) (fB_cons c (fS_par c [15, 16] (fA_cons c (fE_draw c 1 (fE_var c 5)) (fA_cons c (fE_draw c 1 (fE_var c 8)) (fA_nil c)))) (fB_cons c (fS_asg c (.var 12) (fE_bin c .add (fE_bin c .add (fE_slc c (fE_var c 7) (fO_no c) (fO_so c (fE_var c 15))) (fE_tup c (fA_cons c (fE_bin c .add (fE_bin c .add (fE_slc c (fE_bin c .idx (fE_var c 7) (fE_var c 15)) (fO_no c) (fO_so c (fE_var c 16))) (fE_tup c (fA_cons c (fE_const c .non) (fA_nil c)))) (fE_slc c (fE_bin c .idx (fE_var c 7) (fE_var c 15)) (fO_so c (fE_bin c .add (fE_var c 16) (fE_const c (.int 1)))) (fO_no c))) (fA_nil c)))) (fE_slc c (fE_var c 7) (fO_so c (fE_bin c .add (fE_var c 15) (fE_const c (.int 1)))) (fO_no c)))) (fB_cons c (fS_freeze c 12) (fB_cons c (fS_ite c (fE_and c (fE_bin c .notin (fE_tup c (fA_cons c (fE_var c 15) (fA_cons c (fE_var c 16) (fA_nil c)))) (fE_var c 11)) (fE_bin c .ne (fE_call c 8 (fA_cons c (fE_var c 12) (fA_cons c (fE_var c 8) (fA_nil c)))) (fE_call c 8 (fA_cons c (fE_var c 7) (fA_cons c (fE_var c 8) (fA_nil c)))))) (fB_cons c (fS_ret c (fE_const c (.bl false))) (fB_nil c)) (fB_nil c)) (fB_nil c))))))))))))))))
theorem eblaw_5 (c : Ctx) : exs c blaw_5 = cblaw_5 c := by unfold blaw_5; simp only [qE_memo, qE_const, qE_glob, qE_var, qE_tup, qE_list, qE_un, qE_bin, qE_chain, qE_slc, qE_and, qE_or, qE_not, qE_ite, qE_app, qE_meth, qE_call, qE_draw, qE_rngL, qE_comp, qE_comp2, qE_din, qE_dget, qA_nil, qA_cons, qC_nil, qC_cons, qO_no, qO_so, qI_seq, qI_rng1, qI_rng2, qI_enum, qI_zip, qS_asg, qS_par, qS_ret, qS_retOwn, qS_retN, qS_ite, qS_for, qS_while, qS_append, qS_extend, qS_setIdx, qS_popAt, qS_popPar, qS_insert, qS_aug, qS_augIdx, qS_freeze, qS_forget, qS_pass, qS_brk, qS_cont, qS_never, qS_memo, qS_dnew, qS_dput, qS_dcomp, qB_nil, qB_cons, eblaw_4]; rfl
noncomputable def cblaw_6 (c : Ctx) : SF := (fB_cons c (fS_for c (.var 6) (fI_seq c (fE_var c 3)) (cblaw_1 c)) (cblaw_5 c))
theorem eblaw_6 (c : Ctx) : exs c blaw_6 = cblaw_6 c := by unfold blaw_6; simp only [qE_memo, qE_const, qE_glob, qE_var, qE_tup, qE_list, qE_un, qE_bin, qE_chain, qE_slc, qE_and, qE_or, qE_not, qE_ite, qE_app, qE_meth, qE_call, qE_draw, qE_rngL, qE_comp, qE_comp2, qE_din, qE_dget, qA_nil, qA_cons, qC_nil, qC_cons, qO_no, qO_so, qI_seq, qI_rng1, qI_rng2, qI_enum, qI_zip, qS_asg, qS_par, qS_ret, qS_retOwn, qS_retN, qS_ite, qS_for, qS_while, qS_append, qS_extend, qS_setIdx, qS_popAt, qS_popPar, qS_insert, qS_aug, qS_augIdx, qS_freeze, qS_forget, qS_pass, qS_brk, qS_cont, qS_never, qS_memo, qS_dnew, qS_dput, qS_dcomp, qB_nil, qB_cons, eblaw_1, eblaw_5]; rfl
noncomputable def cblaw_7 (c : Ctx) : SF := (fB_cons c (fS_forget c [2, 3, 4, 5, 6, 7, 8, 9, 10, 11, 12, 13, 14, 15, 16]) (fB_cons c (fS_asg c (.var 3) (fE_bin c .idx (fE_list c (fA_cons c (fE_tup c (fA_cons c (fE_const c (.int 2)) (fA_cons c (fE_const c (.int 3)) (fA_nil c)))) (fA_cons c (fE_tup c (fA_cons c (fE_const c (.int 2)) (fA_cons c (fE_const c (.int 4)) (fA_nil c)))) (fA_cons c (fE_tup c (fA_cons c (fE_const c (.int 3)) (fA_cons c (fE_const c (.int 6)) (fA_nil c)))) (fA_cons c (fE_tup c (fA_cons c (fE_const c (.int 4)) (fA_cons c (fE_const c (.int 6)) (fA_nil c)))) (fA_cons c (fE_tup c (fA_cons c (fE_const c (.int 2)) (fA_cons c (fE_const c (.int 3)) (fA_cons c (fE_const c (.int 2)) (fA_nil c))))) (fA_cons c (fE_tup c (fA_cons c (fE_const c (.int 2)) (fA_cons c (fE_const c (.int 2)) (fA_cons c (fE_const c (.int 4)) (fA_nil c))))) (fA_cons c (fE_tup c (fA_cons c (fE_const c (.int 3)) (fA_cons c (fE_const c (.int 3)) (fA_cons c (fE_const c (.int 3)) (fA_nil c))))) (fA_nil c))))))))) (fE_draw c 1 (fE_const c (.int 7))))) (fB_cons c (fS_asg c (.var 4) (fE_app c .tuple (fA_cons c (fE_comp c (fE_tup c (fA_cons c (fE_var c 6) (fA_cons c (fE_tup c (fA_cons c (fE_draw c 1 (fE_var c 6)) (fA_nil c))) (fA_nil c)))) (.var 6) (fI_seq c (fE_var c 3)) (fC_nil c) [6]) (fA_nil c)))) (fB_cons c (fS_asg c (.var 5) (fE_const c (.int 1))) (cblaw_6 c)))))
theorem eblaw_7 (c : Ctx) : exs c blaw_7 = cblaw_7 c := by unfold blaw_7; simp only [qE_memo, qE_const, qE_glob, qE_var, qE_tup, qE_list, qE_un, qE_bin, qE_chain, qE_slc, qE_and, qE_or, qE_not, qE_ite, qE_app, qE_meth, qE_call, qE_draw, qE_rngL, qE_comp, qE_comp2, qE_din, qE_dget, qA_nil, qA_cons, qC_nil, qC_cons, qO_no, qO_so, qI_seq, qI_rng1, qI_rng2, qI_enum, qI_zip, qS_asg, qS_par, qS_ret, qS_retOwn, qS_retN, qS_ite, qS_for, qS_while, qS_append, qS_extend, qS_setIdx, qS_popAt, qS_popPar, qS_insert, qS_aug, qS_augIdx, qS_freeze, qS_forget, qS_pass, qS_brk, qS_cont, qS_never, qS_memo, qS_dnew, qS_dput, qS_dcomp, qB_nil, qB_cons, eblaw_6]; rfl
noncomputable def cblaw_8 (c : Ctx) : SF := (fB_cons c (fS_ret c (fE_const c (.bl true))) (fB_nil c))
theorem eblaw_8 (c : Ctx) : exs c blaw_8 = cblaw_8 c := by unfold blaw_8; simp only [qE_memo, qE_const, qE_glob, qE_var, qE_tup, qE_list, qE_un, qE_bin, qE_chain, qE_slc, qE_and, qE_or, qE_not, qE_ite, qE_app, qE_meth, qE_call, qE_draw, qE_rngL, qE_comp, qE_comp2, qE_din, qE_dget, qA_nil, qA_cons, qC_nil, qC_cons, qO_no, qO_so, qI_seq, qI_rng1, qI_rng2, qI_enum, qI_zip, qS_asg, qS_par, qS_ret, qS_retOwn, qS_retN, qS_ite, qS_for, qS_while, qS_append, qS_extend, qS_setIdx, qS_popAt, qS_popPar, qS_insert, qS_aug, qS_augIdx, qS_freeze, qS_forget, qS_pass, qS_brk, qS_cont, qS_never, qS_memo, qS_dnew, qS_dput, qS_dcomp, qB_nil, qB_cons]; rfl
noncomputable def cblaw (c : Ctx) : SF := (fB_cons c (fS_for c (.var 2) (fI_rng1 c (fE_const c (.int 6))) (cblaw_7 c)) (cblaw_8 c))
theorem eblaw (c : Ctx) : exs c blaw = cblaw c := by unfold blaw; simp only [qE_memo, qE_const, qE_glob, qE_var, qE_tup, qE_list, qE_un, qE_bin, qE_chain, qE_slc, qE_and, qE_or, qE_not, qE_ite, qE_app, qE_meth, qE_call, qE_draw, qE_rngL, qE_comp, qE_comp2, qE_din, qE_dget, qA_nil, qA_cons, qC_nil, qC_cons, qO_no, qO_so, qI_seq, qI_rng1, qI_rng2, qI_enum, qI_zip, qS_asg, qS_par, qS_ret, qS_retOwn, qS_retN, qS_ite, qS_for, qS_while, qS_append, qS_extend, qS_setIdx, qS_popAt, qS_popPar, qS_insert, qS_aug, qS_augIdx, qS_freeze, qS_forget, qS_pass, qS_brk, qS_cont, qS_never, qS_memo, qS_dnew, qS_dput, qS_dcomp, qB_nil, qB_cons, eblaw_7, eblaw_8]; rfl
noncomputable def tFF : List (Option FF) := [none, some ⟨2, 3, cb_law_lcm⟩, some ⟨2, 2, cb_law_comes⟩, some ⟨1, 3, cbis_open_poll⟩, some ⟨2, 3, cb_law_same⟩, some ⟨2, 2, cbcomes⟩, some ⟨1, 3, cbfirst_strangers⟩, some ⟨2, 4, cbsure_days⟩, some ⟨2, 2, cbverdict⟩, some ⟨2, 7, cbboth_turns⟩, some ⟨3, 5, cbare_refusers⟩, some ⟨2, 5, cbfewest_refusers⟩, some ⟨2, 9, cbreasons⟩, some ⟨3, 10, cbare_reasons⟩, some ⟨3, 3, cbis_number⟩, some ⟨2, 5, cbnever_meet⟩, some ⟨2, 3, cbis_sure⟩, some ⟨2, 4, cbdays_open⟩, some ⟨2, 2, cbdivisor⟩, some ⟨1, 2, cbis_ascending⟩, some ⟨3, 5, cbexcludes_all⟩, some ⟨5, 8, cbfirst_group⟩, some ⟨2, 2, cbis_pair_in⟩, some ⟨2, 3, cbis_excluded⟩]
theorem fsame : sameT tF tFF := ⟨trivial, ⟨rfl, rfl, fun c => eb_law_lcm c⟩, ⟨rfl, rfl, fun c => eb_law_comes c⟩, ⟨rfl, rfl, fun c => ebis_open_poll c⟩, ⟨rfl, rfl, fun c => eb_law_same c⟩, ⟨rfl, rfl, fun c => ebcomes c⟩, ⟨rfl, rfl, fun c => ebfirst_strangers c⟩, ⟨rfl, rfl, fun c => ebsure_days c⟩, ⟨rfl, rfl, fun c => ebverdict c⟩, ⟨rfl, rfl, fun c => ebboth_turns c⟩, ⟨rfl, rfl, fun c => ebare_refusers c⟩, ⟨rfl, rfl, fun c => ebfewest_refusers c⟩, ⟨rfl, rfl, fun c => ebreasons c⟩, ⟨rfl, rfl, fun c => ebare_reasons c⟩, ⟨rfl, rfl, fun c => ebis_number c⟩, ⟨rfl, rfl, fun c => ebnever_meet c⟩, ⟨rfl, rfl, fun c => ebis_sure c⟩, ⟨rfl, rfl, fun c => ebdays_open c⟩, ⟨rfl, rfl, fun c => ebdivisor c⟩, ⟨rfl, rfl, fun c => ebis_ascending c⟩, ⟨rfl, rfl, fun c => ebexcludes_all c⟩, ⟨rfl, rfl, fun c => ebfirst_group c⟩, ⟨rfl, rfl, fun c => ebis_pair_in c⟩, ⟨rfl, rfl, fun c => ebis_excluded c⟩, trivial⟩
theorem fast (n : Nat) : GG.ctx n = fctx GG tFF n := ctx_fast GG tFF tF (fun _ => rfl) fsame n
end K77
end
section
set_option Elab.async false
set_option linter.all false
set_option autoImplicit false
set_option maxRecDepth 100000
set_option maxHeartbeats 4000000
namespace K77N
open MP K77
def okO : Out → Bool | (.next, .emp :: .val .box :: r, []) => r.length == 15 | _ => false
theorem okO_of {o : Out} (h : okO o = true) : o.1 = .next ∧ o.2.2 = [] ∧ ∃ r : List Slot, r.length = 15 ∧ o.2.1 = .emp :: .val .box :: r := by
  unfold okO at h
  split at h
  · exact ⟨rfl, rfl, _, by simpa using h, rfl⟩
  · cases h
def env1 : Env := [.emp, .val .box, .emp, .emp, .emp, .emp, .emp, .emp, .emp, .emp, .emp, .emp, .emp, .emp, .emp, .emp, .emp]
def sub {α : Type} : T α → Int → T α
  | .draw _ k, d => k d
  | _, _ => .bad
def num {α : Type} : T α → Option Int
  | .draw m _ => some m
  | _ => none
theorem split {α : Type} {t : T α} {p : α → Bool} {m : Nat} (h : num t = some (m : Int)) (h0 : 0 < m) (hs : ∀ d, d < m → (sub t (d : Int)).all p = true) : t.all p = true := by
  cases t with
  | ret a => cases h
  | bad => cases h
  | draw n k =>
    cases h
    simp only [T.all, Bool.and_eq_true, decide_eq_true_eq, List.all_eq_true, List.mem_range, Int.toNat_natCast]
    exact ⟨by omega, fun d hd => hs d hd⟩
noncomputable def run : T Out := cblaw_7 (fctx GG tFF 20) env1 []
theorem p0 : (sub run 0).all okO = true := by decide +kernel
theorem p1 : (sub run 1).all okO = true := by decide +kernel
theorem p2_0 : (sub (sub run 2) 0).all okO = true := by decide +kernel
theorem p2_1 : (sub (sub run 2) 1).all okO = true := by decide +kernel
theorem p2_2 : (sub (sub run 2) 2).all okO = true := by decide +kernel
theorem p2 : (sub run 2).all okO = true := split (m := 3) (by decide +kernel) (by decide) fun d hd => match d, hd with | 0, _ => p2_0 | 1, _ => p2_1 | 2, _ => p2_2
theorem p3_0_0 : (sub (sub (sub run 3) 0) 0).all okO = true := by decide +kernel
theorem p3_0_1 : (sub (sub (sub run 3) 0) 1).all okO = true := by decide +kernel
theorem p3_0_2 : (sub (sub (sub run 3) 0) 2).all okO = true := by decide +kernel
theorem p3_0_3 : (sub (sub (sub run 3) 0) 3).all okO = true := by decide +kernel
theorem p3_0_4 : (sub (sub (sub run 3) 0) 4).all okO = true := by decide +kernel
theorem p3_0_5 : (sub (sub (sub run 3) 0) 5).all okO = true := by decide +kernel
theorem p3_0 : (sub (sub run 3) 0).all okO = true := split (m := 6) (by decide +kernel) (by decide) fun d hd => match d, hd with | 0, _ => p3_0_0 | 1, _ => p3_0_1 | 2, _ => p3_0_2 | 3, _ => p3_0_3 | 4, _ => p3_0_4 | 5, _ => p3_0_5
theorem p3_1_0 : (sub (sub (sub run 3) 1) 0).all okO = true := by decide +kernel
theorem p3_1_1 : (sub (sub (sub run 3) 1) 1).all okO = true := by decide +kernel
theorem p3_1_2 : (sub (sub (sub run 3) 1) 2).all okO = true := by decide +kernel
theorem p3_1_3 : (sub (sub (sub run 3) 1) 3).all okO = true := by decide +kernel
theorem p3_1_4 : (sub (sub (sub run 3) 1) 4).all okO = true := by decide +kernel
theorem p3_1_5 : (sub (sub (sub run 3) 1) 5).all okO = true := by decide +kernel
theorem p3_1 : (sub (sub run 3) 1).all okO = true := split (m := 6) (by decide +kernel) (by decide) fun d hd => match d, hd with | 0, _ => p3_1_0 | 1, _ => p3_1_1 | 2, _ => p3_1_2 | 3, _ => p3_1_3 | 4, _ => p3_1_4 | 5, _ => p3_1_5
theorem p3_2_0 : (sub (sub (sub run 3) 2) 0).all okO = true := by decide +kernel
theorem p3_2_1 : (sub (sub (sub run 3) 2) 1).all okO = true := by decide +kernel
theorem p3_2_2 : (sub (sub (sub run 3) 2) 2).all okO = true := by decide +kernel
theorem p3_2_3 : (sub (sub (sub run 3) 2) 3).all okO = true := by decide +kernel
theorem p3_2_4 : (sub (sub (sub run 3) 2) 4).all okO = true := by decide +kernel
theorem p3_2_5 : (sub (sub (sub run 3) 2) 5).all okO = true := by decide +kernel
theorem p3_2 : (sub (sub run 3) 2).all okO = true := split (m := 6) (by decide +kernel) (by decide) fun d hd => match d, hd with | 0, _ => p3_2_0 | 1, _ => p3_2_1 | 2, _ => p3_2_2 | 3, _ => p3_2_3 | 4, _ => p3_2_4 | 5, _ => p3_2_5
theorem p3_3_0 : (sub (sub (sub run 3) 3) 0).all okO = true := by decide +kernel
theorem p3_3_1 : (sub (sub (sub run 3) 3) 1).all okO = true := by decide +kernel
theorem p3_3_2 : (sub (sub (sub run 3) 3) 2).all okO = true := by decide +kernel
theorem p3_3_3 : (sub (sub (sub run 3) 3) 3).all okO = true := by decide +kernel
theorem p3_3_4 : (sub (sub (sub run 3) 3) 4).all okO = true := by decide +kernel
theorem p3_3_5 : (sub (sub (sub run 3) 3) 5).all okO = true := by decide +kernel
theorem p3_3 : (sub (sub run 3) 3).all okO = true := split (m := 6) (by decide +kernel) (by decide) fun d hd => match d, hd with | 0, _ => p3_3_0 | 1, _ => p3_3_1 | 2, _ => p3_3_2 | 3, _ => p3_3_3 | 4, _ => p3_3_4 | 5, _ => p3_3_5
theorem p3 : (sub run 3).all okO = true := split (m := 4) (by decide +kernel) (by decide) fun d hd => match d, hd with | 0, _ => p3_0 | 1, _ => p3_1 | 2, _ => p3_2 | 3, _ => p3_3
theorem p4_0 : (sub (sub run 4) 0).all okO = true := by decide +kernel
theorem p4_1 : (sub (sub run 4) 1).all okO = true := by decide +kernel
theorem p4 : (sub run 4).all okO = true := split (m := 2) (by decide +kernel) (by decide) fun d hd => match d, hd with | 0, _ => p4_0 | 1, _ => p4_1
theorem p5_0 : (sub (sub run 5) 0).all okO = true := by decide +kernel
theorem p5_1 : (sub (sub run 5) 1).all okO = true := by decide +kernel
theorem p5 : (sub run 5).all okO = true := split (m := 2) (by decide +kernel) (by decide) fun d hd => match d, hd with | 0, _ => p5_0 | 1, _ => p5_1
theorem p6_0 : (sub (sub run 6) 0).all okO = true := by decide +kernel
theorem p6_1 : (sub (sub run 6) 1).all okO = true := by decide +kernel
theorem p6_2 : (sub (sub run 6) 2).all okO = true := by decide +kernel
theorem p6 : (sub run 6).all okO = true := split (m := 3) (by decide +kernel) (by decide) fun d hd => match d, hd with | 0, _ => p6_0 | 1, _ => p6_1 | 2, _ => p6_2
theorem all0 : run.all okO = true := split (m := 7) (by decide +kernel) (by decide) fun d hd => match d, hd with | 0, _ => p0 | 1, _ => p1 | 2, _ => p2 | 3, _ => p3 | 4, _ => p4 | 5, _ => p5 | 6, _ => p6
theorem turn : (exs (GG.ctx 20) blaw_7 env1 []).all okO = true := by
  rw [fast, eblaw_7]
  exact all0
theorem l15 {r : List Slot} (h : r.length = 15) : ∃ a0 a1 a2 a3 a4 a5 a6 a7 a8 a9 a10 a11 a12 a13 a14, r = [a0, a1, a2, a3, a4, a5, a6, a7, a8, a9, a10, a11, a12, a13, a14] := by
  match r, h with
  | [a0, a1, a2, a3, a4, a5, a6, a7, a8, a9, a10, a11, a12, a13, a14], _ => exact ⟨_, _, _, _, _, _, _, _, _, _, _, _, _, _, _, rfl⟩
theorem main' : (exs (GG.ctx 20) blaw [.emp, .val .box, .emp, .emp, .emp, .emp, .emp, .emp, .emp, .emp, .emp, .emp, .emp, .emp, .emp, .emp, .emp] []).W fun o => o.1 = .ret (.v (.bl true)) := by
  have h1 : ∀ e : Env, exs (GG.ctx 20) blaw e [] = (forL (fun x e => (Tg.var 2).set x e) (fun e h => exs (GG.ctx 20) blaw_7 e h) (rngF 6 0) e []).bind fun o => Fl.go o (fun e h => exs (GG.ctx 20) blaw_8 e h) (fun e h => .ret (.cont, e, h)) fun e h => .ret (.brk, e, h) := fun e => by
    unfold blaw
    rw [exs, ex, evit, ev]
    rfl
  rw [h1, T.W_bind]
  refine forL_WI (fun _ e m => m = [] ∧ ∃ r : List Slot, r.length = 15 ∧ e = .emp :: .val .box :: r) ⟨rfl, _, rfl, rfl⟩ (fun i x e m hx ⟨em, r, hr, ee⟩ => ?_) (fun e m ⟨em, r, hr, ee⟩ => ?_)
  · obtain ⟨a0, a1, a2, a3, a4, a5, a6, a7, a8, a9, a10, a11, a12, a13, a14, rfl⟩ := l15 hr
    subst em ee
    have e : exs (GG.ctx 20) blaw_7 [.emp, .val .box, .val x, a1, a2, a3, a4, a5, a6, a7, a8, a9, a10, a11, a12, a13, a14] [] = exs (GG.ctx 20) blaw_7 env1 [] := by
      unfold blaw_7
      rw [exs, exs, ex, ex]
      rfl
    rw [show (Tg.var 2).set x [.emp, .val .box, a0, a1, a2, a3, a4, a5, a6, a7, a8, a9, a10, a11, a12, a13, a14] = some [.emp, .val .box, .val x, a1, a2, a3, a4, a5, a6, a7, a8, a9, a10, a11, a12, a13, a14] from rfl]
    simp only [T.opt_some]
    rw [e]
    refine T.W_mono ⟨T.all_wp turn⟩ fun o ho => ?_
    obtain ⟨h1, h2, r, h3, h4⟩ := okO_of ho
    exact ⟨h1, h2, r, h3, h4⟩
  · obtain ⟨a0, a1, a2, a3, a4, a5, a6, a7, a8, a9, a10, a11, a12, a13, a14, rfl⟩ := l15 hr
    subst em ee
    unfold blaw_8
    simp only [Fl.go]
    rw [exs, ex, ev]
    exact ⟨rfl⟩
end K77N
end
section
set_option Elab.async false
set_option linter.all false
set_option autoImplicit false
set_option maxRecDepth 100000
set_option maxHeartbeats 8000000
namespace K77
open PySem PySem.Spec PyProof.Rows L2 MP
def topS (i : Nat) : Stmt := PySem.Challenge.pw_suitsall_k77_whole_polls_on_turns.main.body.getD i (.Pass ⟨0, 0, 0, 0⟩)
/-! ### the forms -/
def tN : List (Option Str) := [none, some "_law_lcm", some "_law_comes", some "is_open_poll", some "_law_same", some "comes", some "first_strangers", some "sure_days", some "verdict", some "both_turns", some "are_refusers", some "fewest_refusers", some "reasons", some "are_reasons", some "is_number", some "never_meet", some "is_sure", some "days_open", some "divisor", some "is_ascending", some "excludes_all", some "first_group", some "is_pair_in", some "is_excluded"]
def tG : List (Option Str) := [some "MAX_ANSWERS", some "MAX_TURN"]
def fnN (k : Nat) : Option Str := (tN[k]?).join
def glN (k : Nat) : Option Str := (tG[k]?).join
def bltN : List Str := ["all", "any", "bool", "enumerate", "int", "isinstance", "len", "list", "max", "range", "str", "sum", "tuple"]
def cxN (N : List Str) (sc : Scope) : Chk := ⟨N, sc, fun _ => true, fnN, glN, "_law_draw", bltN⟩
def n_law_lcm : List Str := ["a", "b", "found"]
def n_law_comes : List Str := ["turn", "day"]
def nis_open_poll : List Str := ["value", "row", "answer"]
def n_law_same : List Str := ["a", "b", "k"]
def ncomes : List Str := ["turn", "day"]
def nfirst_strangers : List Str := ["turns", "i", "j"]
def nsure_days : List Str := ["poll", "quota", "day", "row"]
def nverdict : List Str := ["poll", "quota"]
def nboth_turns : List Str := ["one", "other", "size", "days", "found", "k", "day"]
def nare_refusers : List Str := ["poll", "quota", "value", "people", "person"]
def nfewest_refusers : List Str := ["poll", "quota", "people", "size", "found"]
def nreasons : List Str := ["poll", "quota", "word", "found", "day", "row", "many", "person", "answer"]
def nare_reasons : List Str := ["poll", "quota", "value", "rows", "day", "row", "k", "pair", "person", "answer"]
def nis_number : List Str := ["value", "least", "most"]
def nnever_meet : List Str := ["one", "other", "d", "rests", "day"]
def nis_sure : List Str := ["row", "quota", "answer"]
def ndays_open : List Str := ["poll", "quota", "day", "row"]
def ndivisor : List Str := ["a", "b"]
def nis_ascending : List Str := ["rows", "k"]
def nexcludes_all : List Str := ["poll", "quota", "group", "row", "person"]
def nfirst_group : List Str := ["poll", "quota", "people", "size", "group", "start", "person", "found"]
def nis_pair_in : List Str := ["poll", "value"]
def nis_excluded : List Str := ["row", "quota", "answer"]
def nlaw : List Str := ["script", "box", "turn", "sizes", "turns", "whole", "size", "poll", "quota", "days", "apart", "paper", "open_one", "both", "one", "day", "person"]
/-! ### the texts are of these forms -/
theorem s_law_lcm : FnScope n_law_lcm ["a", "b"] (defScope (topS 35)) := ⟨rfl, rfl, rfl, by decide +kernel, rfl, by decide +kernel, by decide +kernel⟩
theorem o_law_lcm : okSs (cxN n_law_lcm (defScope (topS 35))) b_law_lcm (defBody (topS 35)) = true := by decide +kernel
theorem s_law_comes : FnScope n_law_comes ["turn", "day"] (defScope (topS 36)) := ⟨rfl, rfl, rfl, by decide +kernel, rfl, by decide +kernel, by decide +kernel⟩
theorem o_law_comes : okSs (cxN n_law_comes (defScope (topS 36))) b_law_comes (defBody (topS 36)) = true := by decide +kernel
theorem sis_open_poll : FnScope nis_open_poll ["value"] (defScope (topS 5)) := ⟨rfl, rfl, rfl, by decide +kernel, rfl, by decide +kernel, by decide +kernel⟩
theorem ois_open_poll : okSs (cxN nis_open_poll (defScope (topS 5))) bis_open_poll (defBody (topS 5)) = true := by decide +kernel
theorem s_law_same : FnScope n_law_same ["a", "b"] (defScope (topS 34)) := ⟨rfl, rfl, rfl, by decide +kernel, rfl, by decide +kernel, by decide +kernel⟩
theorem o_law_same : okSs (cxN n_law_same (defScope (topS 34))) b_law_same (defBody (topS 34)) = true := by decide +kernel
theorem scomes : FnScope ncomes ["turn", "day"] (defScope (topS 25)) := ⟨rfl, rfl, rfl, by decide +kernel, rfl, by decide +kernel, by decide +kernel⟩
theorem ocomes : okSs (cxN ncomes (defScope (topS 25))) bcomes (defBody (topS 25)) = true := by decide +kernel
theorem sfirst_strangers : FnScope nfirst_strangers ["turns"] (defScope (topS 29)) := ⟨rfl, rfl, rfl, by decide +kernel, rfl, by decide +kernel, by decide +kernel⟩
theorem ofirst_strangers : okSs (cxN nfirst_strangers (defScope (topS 29))) bfirst_strangers (defBody (topS 29)) = true := by decide +kernel
theorem ssure_days : FnScope nsure_days ["poll", "quota"] (defScope (topS 8)) := ⟨rfl, rfl, rfl, by decide +kernel, rfl, by decide +kernel, by decide +kernel⟩
theorem osure_days : okSs (cxN nsure_days (defScope (topS 8))) bsure_days (defBody (topS 8)) = true := by decide +kernel
theorem sverdict : FnScope nverdict ["poll", "quota"] (defScope (topS 10)) := ⟨rfl, rfl, rfl, by decide +kernel, rfl, by decide +kernel, by decide +kernel⟩
theorem overdict : okSs (cxN nverdict (defScope (topS 10))) bverdict (defBody (topS 10)) = true := by decide +kernel
theorem sboth_turns : FnScope nboth_turns ["one", "other"] (defScope (topS 28)) := ⟨rfl, rfl, rfl, by decide +kernel, rfl, by decide +kernel, by decide +kernel⟩
theorem oboth_turns : okSs (cxN nboth_turns (defScope (topS 28))) bboth_turns (defBody (topS 28)) = true := by decide +kernel
theorem sare_refusers : FnScope nare_refusers ["poll", "quota", "value"] (defScope (topS 18)) := ⟨rfl, rfl, rfl, by decide +kernel, rfl, by decide +kernel, by decide +kernel⟩
theorem oare_refusers : okSs (cxN nare_refusers (defScope (topS 18))) bare_refusers (defBody (topS 18)) = true := by decide +kernel
theorem sfewest_refusers : FnScope nfewest_refusers ["poll", "quota"] (defScope (topS 15)) := ⟨rfl, rfl, rfl, by decide +kernel, rfl, by decide +kernel, by decide +kernel⟩
theorem ofewest_refusers : okSs (cxN nfewest_refusers (defScope (topS 15))) bfewest_refusers (defBody (topS 15)) = true := by decide +kernel
theorem sreasons : FnScope nreasons ["poll", "quota"] (defScope (topS 11)) := ⟨rfl, rfl, rfl, by decide +kernel, rfl, by decide +kernel, by decide +kernel⟩
theorem oreasons : okSs (cxN nreasons (defScope (topS 11))) breasons (defBody (topS 11)) = true := by decide +kernel
theorem sare_reasons : FnScope nare_reasons ["poll", "quota", "value"] (defScope (topS 12)) := ⟨rfl, rfl, rfl, by decide +kernel, rfl, by decide +kernel, by decide +kernel⟩
theorem oare_reasons : okSs (cxN nare_reasons (defScope (topS 12))) bare_reasons (defBody (topS 12)) = true := by decide +kernel
theorem sis_number : FnScope nis_number ["value", "least", "most"] (defScope (topS 1)) := ⟨rfl, rfl, rfl, by decide +kernel, rfl, by decide +kernel, by decide +kernel⟩
theorem ois_number : okSs (cxN nis_number (defScope (topS 1))) bis_number (defBody (topS 1)) = true := by decide +kernel
theorem snever_meet : FnScope nnever_meet ["one", "other"] (defScope (topS 27)) := ⟨rfl, rfl, rfl, by decide +kernel, rfl, by decide +kernel, by decide +kernel⟩
theorem onever_meet : okSs (cxN nnever_meet (defScope (topS 27))) bnever_meet (defBody (topS 27)) = true := by decide +kernel
theorem sis_sure : FnScope nis_sure ["row", "quota"] (defScope (topS 6)) := ⟨rfl, rfl, rfl, by decide +kernel, rfl, by decide +kernel, by decide +kernel⟩
theorem ois_sure : okSs (cxN nis_sure (defScope (topS 6))) bis_sure (defBody (topS 6)) = true := by decide +kernel
theorem sdays_open : FnScope ndays_open ["poll", "quota"] (defScope (topS 9)) := ⟨rfl, rfl, rfl, by decide +kernel, rfl, by decide +kernel, by decide +kernel⟩
theorem odays_open : okSs (cxN ndays_open (defScope (topS 9))) bdays_open (defBody (topS 9)) = true := by decide +kernel
theorem sdivisor : FnScope ndivisor ["a", "b"] (defScope (topS 26)) := ⟨rfl, rfl, rfl, by decide +kernel, rfl, by decide +kernel, by decide +kernel⟩
theorem odivisor : okSs (cxN ndivisor (defScope (topS 26))) bdivisor (defBody (topS 26)) = true := by decide +kernel
theorem sis_ascending : FnScope nis_ascending ["rows"] (defScope (topS 2)) := ⟨rfl, rfl, rfl, by decide +kernel, rfl, by decide +kernel, by decide +kernel⟩
theorem ois_ascending : okSs (cxN nis_ascending (defScope (topS 2))) bis_ascending (defBody (topS 2)) = true := by decide +kernel
theorem sexcludes_all : FnScope nexcludes_all ["poll", "quota", "group"] (defScope (topS 17)) := ⟨rfl, rfl, rfl, by decide +kernel, rfl, by decide +kernel, by decide +kernel⟩
theorem oexcludes_all : okSs (cxN nexcludes_all (defScope (topS 17))) bexcludes_all (defBody (topS 17)) = true := by decide +kernel
theorem sfirst_group : FnScope nfirst_group ["poll", "quota", "people", "size", "group"] (defScope (topS 16)) := ⟨rfl, rfl, rfl, by decide +kernel, rfl, by decide +kernel, by decide +kernel⟩
theorem ofirst_group : okSs (cxN nfirst_group (defScope (topS 16))) bfirst_group (defBody (topS 16)) = true := by decide +kernel
theorem sis_pair_in : FnScope nis_pair_in ["poll", "value"] (defScope (topS 13)) := ⟨rfl, rfl, rfl, by decide +kernel, rfl, by decide +kernel, by decide +kernel⟩
theorem ois_pair_in : okSs (cxN nis_pair_in (defScope (topS 13))) bis_pair_in (defBody (topS 13)) = true := by decide +kernel
theorem sis_excluded : FnScope nis_excluded ["row", "quota"] (defScope (topS 7)) := ⟨rfl, rfl, rfl, by decide +kernel, rfl, by decide +kernel, by decide +kernel⟩
theorem ois_excluded : okSs (cxN nis_excluded (defScope (topS 7))) bis_excluded (defBody (topS 7)) = true := by decide +kernel
theorem slaw : FnScope nlaw ["script"] (defScope (topS 37)) := ⟨rfl, rfl, rfl, by decide +kernel, rfl, by decide +kernel, by decide +kernel⟩
theorem olaw : okSs (cxN nlaw (defScope (topS 37))) blaw (defBody (topS 37)).tail = true := by decide +kernel
/-! ### the box -/
theorem sc_box : FnScope ["script"] ["script"] (defScope (topS 31)) := ⟨rfl, rfl, rfl, by decide +kernel, rfl, by decide +kernel, by decide +kernel⟩
theorem sc_load : FnScope ["box", "cells", "cell", "size", "first", "second"] ["box"] (defScope (topS 32)) := ⟨rfl, rfl, rfl, by decide +kernel, rfl, by decide +kernel, by decide +kernel⟩
theorem sc_draw : FnScope ["box", "many", "digit"] ["box", "many"] (defScope (topS 33)) := ⟨rfl, rfl, rfl, by decide +kernel, rfl, by decide +kernel, by decide +kernel⟩
section
variable {P : Program} {w : World} {K : PySem.W.Frag} {mg : Str → Option Value} {base : Heap}
def spBox (K : PySem.W.Frag) : Sp := fun vs H Q _ => ∃ (a : Addr) (ns : List Int), vs = [.ref a] ∧ SqL K H a (ns.map V.int) ∧ ns.length ≤ 63 ∧ ∀ H' b c, Same H H' → H b = none → H c = none → BoxAt H' b c → Q (.ref b) H'
theorem ok_box {f : Addr} {fd : FuncData} {k : Nat} (F : Fun K "_law_box" "_law_box" (topS 31) f fd) (ml : mg "list" = none) (mn : mg "len" = none) : FnOk P w K mg base CX0 (k + 1) f fd ["script"] (spBox K) := by
  refine F.ok sc_box (fun vs H Q E h => ?_) (fun cdv A outer s H vs Q E hr h => ?_)
  · obtain ⟨a, ns, rfl, _⟩ := h
    rfl
  · obtain ⟨a, ns, rfl, hS, hlen, q⟩ := h
    refine ⟨_, pss_one (ps_ret (pe_lst (pa_cons (pe_callTy call_list_of (by rfl) ml (by decide +kernel) (pa_cons (pe_slice sl_list (pv 0) po_none (po_some pe_int)) pa_nil)) (pa_cons pe_int (pa_cons (pe_op op_add pe_int (pe_callB call_len_seq (by rfl) mn PySem.boot_len (pa_cons (pv 0) pa_nil))) pa_nil))))), ?_⟩
    refine ⟨.ref a, rfl, 63, rfl, a, ns.map V.int, rfl, hS, fun d nd => ?_⟩
    have s1 : Same H (upd H d (.lst (cutV (ns.map V.int) none (some 63)))) := same_new nd
    have ec : cutV (ns.map V.int) none (some 63) = ns.map V.int := by
      unfold cutV
      rw [show HT.sIx (ns.map V.int).length (ns.map V.int).length (some 63) = min 63 (ns.map V.int).length from HT.sIx_nat _ _ 63, HT.sIx_none]
      rw [List.length_map, Nat.min_eq_right hlen]
      simp only [Nat.sub_zero, List.drop_zero]
      rw [← List.length_map (f := V.int), List.take_length]
    rw [ec] at s1 ⊢
    refine ⟨d, ns.map V.int, rfl, .inl (.of upd_same), fun c nc => ?_⟩
    have s2 : Same (upd H d (.lst (ns.map V.int))) (upd (upd H d (.lst (ns.map V.int))) c (.lst (ns.map V.int))) := same_new nc
    refine ⟨.ref a, rfl, a, ns.map V.int, rfl, .inl (s2.seq (s1.seq hS)), 4711, _, rfl, rfl, ?_, fun b nb => ?_⟩
    · rw [sizeMax_eq]; show 3 ≤ sizeMax; decide
    · have nc0 : H c = none := s1.free nc
      have nb0 : H b = none := s1.free (s2.free nb)
      have ne : b ≠ c := fun e => by rw [e, upd_same] at nb; cases nb
      refine q _ b c ((s1.trans s2).trans (same_new nb)) nb0 nc0 ⟨ne, ns, 0, _, upd_same, by rw [upd_ne ne.symm, upd_same], by omega, Int.le_refl 0, ?_, ?_⟩
      · rw [List.length_map]; omega
      · rw [List.length_map]; omega
def Two (b c : Addr) (H H' : Hp) : Prop := ∀ a, a ≠ b → a ≠ c → H' a = H a
def spLoad : Sp := fun vs H Q _ => ∃ b c, vs = [.ref b] ∧ BoxAt H b c ∧ ∀ r H', 0 ≤ r → BoxAt H' b c → Two b c H H' → Q (.int r) H'
def tTail : TS := fun D σ H => ∃ b c s1 s2 s3 s4 s5, σ = [some (.ref b), s1, s2, s3, s4, s5] ∧ BoxAt H b c ∧ ∀ r H', 0 ≤ r → BoxAt H' b c → Two b c H H' → D.rt (.int r) H'
theorem big (i : Int) : CMul i 69621 ∧ CMul i 48271 ∧ CMul i 40692 ∧ CMul i 4611686014132420609 ∧ CMul i 2147483647 ∧ CMul 2 i ∧ CMul (-2) i := ⟨.inr (by omega), .inr (by omega), .inr (by omega), .inr (by omega), .inr (by omega), .inl (by omega), .inl (by omega)⟩
theorem two_b {b c : Addr} {H : Hp} {o : HO} : Two b c H (upd H b o) := fun a h1 h2 => upd_ne h1
theorem two_c {b c : Addr} {H : Hp} {o : HO} : Two b c H (upd H c o) := fun a h1 h2 => upd_ne h2
theorem Two.trans {b c : Addr} {H1 H2 H3 : Hp} (h : Two b c H1 H2) (h' : Two b c H2 H3) : Two b c H1 H3 := fun a n1 n2 => (h' a n1 n2).trans (h a n1 n2)
theorem ok_load {f : Addr} {fd : FuncData} {k : Nat} (F : Fun K "_law_load" "_law_load" (topS 32) f fd) (mi : mg "int" = none) (mn : mg "len" = none) : FnOk P w K mg base CX0 (k + 1) f fd ["box"] spLoad := by
  refine F.ok sc_load (fun vs H Q E h => ?_) (fun cdv A outer s H vs Q E hr h => ?_)
  · obtain ⟨b, c, rfl, _⟩ := h
    rfl
  · obtain ⟨b, c, rfl, ⟨ne, cs, x, y, hb, hc, hl, hx, hy, hy2⟩, q⟩ := h
    refine ⟨_, pss_cons (ps_set (i := 1) sc_load.nd rfl (.inl rfl) (pe_ix ix_list (pv 0) pe_int (fun _ _ => rfl)))
      (pss_cons (ps_if (pt_cmpR op_gt (pe_callB call_len_seq (by rfl) mn PySem.boot_len (pa_cons (pv 1) pa_nil)) pe_int (nomark _))
        (pss_cons (ps_set (i := 2) sc_load.nd rfl (.inl rfl) (pe_callTy call_int1 (by rfl) mi (by decide +kernel) (pa_cons (pe_bm PySem.F.plainAttrs_list PySem.F.slot_list_pop PySem.F.type_list_pop mt_popAt (pv 1) (pa_cons pe_int pa_nil)) pa_nil)))
        (pss_cons (ps_set (i := 3) sc_load.nd rfl (.inl rfl) (pe_ifExp (pt_cmpR op_ge (pv 2) pe_int (nomark _)) (pe_op op_mul pe_int (pv 2)) (pe_op op_sub (pe_op op_mul (pe_un un_neg pe_int) (pv 2)) pe_int)))
        (pss_cons (ps_if (pt_cmpR op_ge (pv 3) pe_int (nomark _)) (pss_one (ps_ret (pv 3))) pss_nil)
        (pss_one (ps_asg (pe_op op_mod (pe_callTy call_int1 (by rfl) mi (by decide +kernel) (pa_cons (pe_op op_add (pe_op op_add (pe_op op_mul (pe_ix ix_list (pv 0) pe_int (fun _ _ => rfl)) pe_int) (pe_op op_mul (pv 3) pe_int)) pe_int) pa_nil)) pe_int) (pg_sub (pv 0) pe_int set_list)))))) pss_nil)
      (PSs.imp (t' := tTail) (pss_cons (ps_set (i := 4) sc_load.nd rfl (.inl rfl) (pe_op op_mod (pe_callTy call_int1 (by rfl) mi (by decide +kernel) (pa_cons (pe_op op_add (pe_op op_mul (pe_ix ix_list (pv 0) pe_int (fun _ _ => rfl)) pe_int) pe_int) pa_nil)) pe_int))
      (pss_cons (ps_set (i := 5) sc_load.nd rfl (.inl rfl) (pe_op op_mod (pe_callTy call_int1 (by rfl) mi (by decide +kernel) (pa_cons (pe_op op_add (pe_op op_mul (pv 4) pe_int) pe_int) pa_nil)) pe_int))
      (pss_cons (ps_asg (pe_op op_mod (pe_callTy call_int1 (by rfl) mi (by decide +kernel) (pa_cons (pe_op op_add (pe_op op_mul (pv 5) pe_int) pe_int) pa_nil)) pe_int) (pg_sub (pv 0) pe_int set_list))
      (pss_one (ps_ret (pe_op op_add (pe_op op_add (pe_op op_mul (pv 4) pe_int) (pe_op op_mul (pv 5) pe_int)) (pe_ix ix_list (pv 0) pe_int (fun _ _ => rfl)))))))) ?_)), ?_⟩
    · rintro D σ H ⟨b, c, s1, s2, s3, s4, s5, rfl, ⟨ne, cs, x, y, hb, hc, hl, hx, hy, hy2⟩, q⟩
      have L : SqL K H b [.ref c, .int x, .int y] := SqL.of hb
      have h1 : 0 ≤ (y * 48271 + 17) % 2147483629 := Int.emod_nonneg _ (by decide)
      have h2 : 0 ≤ ((y * 48271 + 17) % 2147483629 * 69621 + 5) % 2147483587 := Int.emod_nonneg _ (by decide)
      have h3 : 0 ≤ (((y * 48271 + 17) % 2147483629 * 69621 + 5) % 2147483587 * 40692 + 3) % 2147483563 := Int.emod_nonneg _ (by decide)
      have h4 : (((y * 48271 + 17) % 2147483629 * 69621 + 5) % 2147483587 * 40692 + 3) % 2147483563 < 2147483563 := Int.emod_lt_of_pos _ (by decide)
      refine ⟨.ref b, rfl, b, _, 2, .int y, rfl, rfl, L, rfl, y, 48271, rfl, rfl, (big y).2.1, y * 48271, 17, rfl, rfl, .inl ⟨_, rfl, y * 48271 + 17, 2147483629, rfl, rfl, (show (0 : Int) < 2147483629 by decide), ?_⟩⟩
      refine ⟨_, rfl, _, 69621, rfl, rfl, (big _).1, _, 5, rfl, rfl, .inl ⟨_, rfl, _, 2147483587, rfl, rfl, (show (0 : Int) < 2147483587 by decide), ?_⟩⟩
      refine ⟨_, rfl, _, 40692, rfl, rfl, (big _).2.2.1, _, 3, rfl, rfl, .inl ⟨_, rfl, _, 2147483563, rfl, rfl, (show (0 : Int) < 2147483563 by decide), ?_⟩⟩
      refine ⟨.ref b, rfl, b, _, 2, 2, rfl, rfl, hb, rfl, ?_⟩
      refine ⟨_, rfl, _, 4611686014132420609, rfl, rfl, (big _).2.2.2.1, _, rfl, _, 2147483647, rfl, rfl, (big _).2.2.2.2.1, _, _, rfl, rfl, .ref b, rfl, b, _, 2, _, rfl, rfl, SqL.of upd_same, rfl, _, _, rfl, rfl, ?_⟩
      exact q _ _ (Int.add_nonneg (Int.add_nonneg (Int.mul_nonneg h1 (by decide)) (Int.mul_nonneg h2 (by decide))) h3) ⟨ne, cs, x, _, upd_same, by rw [upd_ne ne.symm]; exact hc, hl, hx, h3, Int.lt_of_lt_of_le h4 (by decide)⟩ two_b
    · have L : SqL K H b [.ref c, .int x, .int y] := SqL.of hb
      have LC : SqL K H c (cs.map V.int) := SqL.of hc
      refine ⟨.ref b, rfl, b, _, 0, .ref c, rfl, rfl, L, rfl, ?_⟩
      refine ⟨.ref c, rfl, c, _, rfl, .inl LC, _, 0, rfl, rfl, _, rfl, ite2 (fun e => ?_) (fun e => ?_)⟩
      · have hlt : (0 : Int) < ((cs.map V.int).length : Int) := of_decide_eq_true e
        rw [List.length_map] at hlt
        cases cs with
        | nil => simp at hlt
        | cons i r =>
          refine ⟨.ref c, rfl, .inl ⟨rfl, _, LC⟩, c, _, 0, 0, .int i, rfl, rfl, hc, by decide, by decide, ?_, rfl, .inl ⟨i, rfl, ?_⟩⟩
          · unfold seqIndex?
            simp
          have hc1 : (upd H c (.lst (((i :: r).map V.int).eraseIdx 0))) c = some (.lst (r.map V.int)) := upd_same
          have hb1 : (upd H c (.lst (((i :: r).map V.int).eraseIdx 0))) b = some (.lst [.ref c, .int x, .int y]) := by
            rw [upd_ne ne]; exact hb
          have tw : Two b c H (upd H c (.lst (((i :: r).map V.int).eraseIdx 0))) := two_c
          generalize upd H c (.lst (((i :: r).map V.int).eraseIdx 0)) = H1 at hc1 hb1 tw
          have hlr : r.length ≤ 1000 := by simp at hl; omega
          have fin : ∀ (sz : Int) (s3 : Option V) (D : Ends), 0 ≤ sz → (∀ r H', 0 ≤ r → BoxAt H' b c → Two b c H H' → D.rt (.int r) H') → tTail D [some (.ref b), some (.ref c), some (.int i), s3, none, none] (upd H1 b (.lst [.ref c, .int x, .int ((y * 69621 + sz * 48271 + 11) % 2147483647)])) := fun sz s3 D hsz q => by
            refine ⟨b, c, _, _, _, _, _, rfl, ⟨ne, r, x, _, upd_same, by rw [upd_ne ne.symm]; exact hc1, hlr, hx, Int.emod_nonneg _ (by decide), Int.emod_lt_of_pos _ (by decide)⟩, fun r' H' h1 h2 h3 => q r' H' h1 h2 ((tw.trans two_b).trans h3)⟩
          refine ⟨_, rfl, _, 0, rfl, rfl, _, rfl, ite2 (fun e1 => ?_) (fun e1 => ?_)⟩
          · have h0 : (0 : Int) ≤ i := of_decide_eq_true e1
            have hz : 0 ≤ 2 * i := by omega
            refine ⟨_, rfl, 2, i, rfl, rfl, (big i).2.2.2.2.2.1, _, rfl, _, 1000000000000000000, rfl, rfl, _, rfl, ite2 (fun _ => ⟨_, rfl, q _ _ hz ⟨ne, r, x, y, hb1, hc1, hlr, hx, hy, hy2⟩ tw⟩) (fun _ => ?_)⟩
            refine ⟨.ref b, rfl, b, _, 2, .int y, rfl, rfl, SqL.of hb1, rfl, y, 69621, rfl, rfl, (big y).1, _, rfl, _, 48271, rfl, rfl, (big _).2.1, _, _, rfl, rfl, _, 11, rfl, rfl, .inl ⟨_, rfl, _, 2147483647, rfl, rfl, (show (0 : Int) < 2147483647 by decide), ?_⟩⟩
            exact ⟨.ref b, rfl, b, _, 2, 2, rfl, rfl, hb1, rfl, fin (2 * i) _ _ hz q⟩
          · have h0 : ¬ (0 : Int) ≤ i := fun h => e1 (decide_eq_true h)
            have hz : 0 ≤ -2 * i - 1 := by omega
            refine ⟨2, rfl, _, rfl, -2, i, rfl, rfl, (big i).2.2.2.2.2.2, _, 1, rfl, rfl, _, rfl, _, 1000000000000000000, rfl, rfl, _, rfl, ite2 (fun _ => ⟨_, rfl, q _ _ hz ⟨ne, r, x, y, hb1, hc1, hlr, hx, hy, hy2⟩ tw⟩) (fun _ => ?_)⟩
            refine ⟨.ref b, rfl, b, _, 2, .int y, rfl, rfl, SqL.of hb1, rfl, y, 69621, rfl, rfl, (big y).1, _, rfl, _, 48271, rfl, rfl, (big _).2.1, _, _, rfl, rfl, _, 11, rfl, rfl, .inl ⟨_, rfl, _, 2147483647, rfl, rfl, (show (0 : Int) < 2147483647 by decide), ?_⟩⟩
            exact ⟨.ref b, rfl, b, _, 2, 2, rfl, rfl, hb1, rfl, fin (-2 * i - 1) _ _ hz q⟩
      · exact ⟨b, c, _, _, _, _, _, rfl, ⟨ne, cs, x, y, hb, hc, hl, hx, hy, hy2⟩, q⟩
def tDraw : TS := fun D σ H => ∃ b c m s, σ = [some (.ref b), some (.int m), s] ∧ 0 < m ∧ m < 1073741824 ∧ BoxAt H b c ∧ ∀ d H', 0 ≤ d → d < m → BoxAt H' b c → Two b c H H' → D.rt (.int d) H'
theorem ok_draw {z : Zx} {f fL : Addr} {fd fdL : FuncData} (F : Fun K "_law_draw" "_law_draw" (topS 33) f fd) (FL : Fun K "_law_load" "_law_load" (topS 32) fL fdL) (bL : Binds K fdL ["box"] []) (gL : mg "_law_load" = some (.ref fL)) (mi : mg "int" = none) (mn : mg "len" = none) : FnOk P w K mg base CX0 4 f fd ["box", "many"] (spDraw z) := by
  have G : FnOk P w K mg base CX0 3 fL fdL ["box"] spLoad := ok_load FL mi mn
  refine F.ok sc_draw (fun vs H Q E h => ?_) (fun cdv A outer s H vs Q E hr h => ?_)
  · obtain ⟨b, c, m, _, rfl, _⟩ := h
    rfl
  · obtain ⟨b, c, m, ez, rfl, hm, hm2, ok, q⟩ := h
    refine ⟨_, pss_cons (ps_if (pt_cmpR op_lt (pe_ix ix_list (pv 0) pe_int (fun _ _ => rfl)) (pv 1) (nomark _)) (pss_one (ps_asg (pe_call G hr (by rfl) gL FL.kp bL .nil pass0 (pa_cons (pv 0) pa_nil)) (pg_sub (pv 0) pe_int set_list))) pss_nil)
      (PSs.imp (t' := tDraw) (pss_cons (ps_set (i := 2) sc_draw.nd rfl (.inl rfl) (pe_op op_mod (pe_callTy call_int1 (by rfl) mi (by decide +kernel) (pa_cons (pe_ix ix_list (pv 0) pe_int (fun _ _ => rfl)) pa_nil)) (pv 1)))
        (pss_cons (ps_asg (pe_op op_fdiv (pe_ix ix_list (pv 0) pe_int (fun _ _ => rfl)) (pv 1)) (pg_sub (pv 0) pe_int set_list))
        (pss_one (ps_ret (pv 2))))) ?_), ?_⟩
    · rintro D σ H ⟨b, c, m, s, rfl, hm, hm2, ⟨ne, cs, x, y, hb, hc, hl, hx, hy, hy2⟩, q⟩
      refine ⟨.ref b, rfl, b, _, 1, .int x, rfl, rfl, SqL.of hb, rfl, .inl ⟨x, rfl, .int m, rfl, x, m, rfl, rfl, hm, ?_⟩⟩
      refine ⟨.ref b, rfl, b, _, 1, .int x, rfl, rfl, SqL.of hb, rfl, .int m, rfl, x, m, rfl, rfl, ⟨hm, hm2⟩, ?_⟩
      refine ⟨.ref b, rfl, b, _, 1, 1, rfl, rfl, hb, rfl, ?_⟩
      refine ⟨_, rfl, q _ _ (Int.emod_nonneg x (by omega)) (Int.emod_lt_of_pos x hm) ⟨ne, cs, x / m, y, upd_same, by rw [upd_ne ne.symm]; exact hc, hl, Int.ediv_nonneg hx (by omega), hy, hy2⟩ two_b⟩
    · obtain ⟨ne, cs, x, y, hb, hc, hl, hx, hy, hy2⟩ := ok b c ez
      have fin : ∀ d H', 0 ≤ d → d < m → BoxAt H' b c → Two b c H H' → Q (.int d) H' := fun d H' d0 d1 hB tw => by
        refine q d H' d0 d1 ⟨fun a o e _ nb => ?_, fun a e => ?_, fun _ b' c' e' => ?_, fun _ a xs mx => ⟨xs, mx.mono (fun φ e => ?_) (fun a' vs t => sqT_same (fun a'' o e n => ?_) t), fun x hx => ⟨x, hx, rfl⟩⟩⟩
        · rw [tw a (fun q => nb ⟨b, c, ez, .inl q⟩) (fun q => nb ⟨b, c, ez, .inr q⟩)]; exact e
        · obtain ⟨_, _, _, _, g1, g2, _⟩ := hB
          have n1 : a ≠ b := fun q => by rw [q, g1] at e; cases e
          have n2 : a ≠ c := fun q => by rw [q, g2] at e; cases e
          rw [← tw a n1 n2]; exact e
        · rw [ez] at e'; cases e'; exact hB
        · rw [tw a (fun q => by rw [q, hb] at e; cases e) (fun q => by rw [q, hc] at e; cases e)]; exact e
        · rw [tw a'' (fun q => by rw [q, hb] at e; exact n _ (Option.some.inj e).symm) (fun q => by rw [q, hc] at e; exact n _ (Option.some.inj e).symm)]; exact e
      refine ⟨.ref b, rfl, b, _, 1, .int x, rfl, rfl, SqL.of hb, rfl, .int m, rfl, x, m, rfl, rfl, _, rfl, ite2 (fun _ => ?_) (fun _ => ?_)⟩
      · refine ⟨.ref b, rfl, b, c, rfl, ⟨ne, cs, x, y, hb, hc, hl, hx, hy, hy2⟩, fun r H' hr ⟨_, cs2, x2, y2, hb2, hc2, hl2, hx2, hy', hy2'⟩ tw => ?_⟩
        refine ⟨.ref b, rfl, b, _, 1, 1, rfl, rfl, hb2, rfl, ?_⟩
        exact ⟨b, c, m, _, rfl, hm, hm2, ⟨ne, cs2, r, y2, upd_same, by rw [upd_ne ne.symm]; exact hc2, hl2, hr, hy', hy2'⟩, fun d H2 d0 d1 hB tw2 => fin d H2 d0 d1 hB ((tw.trans two_b).trans tw2)⟩
      · exact ⟨b, c, m, _, rfl, hm, hm2, ⟨ne, cs, x, y, hb, hc, hl, hx, hy, hy2⟩, fin⟩
end

/-! ### the whole -/
structure TopOk (K : PySem.W.Frag) : Prop where
  d_law_lcm : DefK K "_law_lcm" (topS 35)
  d_law_comes : DefK K "_law_comes" (topS 36)
  dis_open_poll : DefK K "is_open_poll" (topS 5)
  d_law_same : DefK K "_law_same" (topS 34)
  dcomes : DefK K "comes" (topS 25)
  dfirst_strangers : DefK K "first_strangers" (topS 29)
  dsure_days : DefK K "sure_days" (topS 8)
  dverdict : DefK K "verdict" (topS 10)
  dboth_turns : DefK K "both_turns" (topS 28)
  dare_refusers : DefK K "are_refusers" (topS 18)
  dfewest_refusers : DefK K "fewest_refusers" (topS 15)
  dreasons : DefK K "reasons" (topS 11)
  dare_reasons : DefK K "are_reasons" (topS 12)
  dis_number : DefK K "is_number" (topS 1)
  dnever_meet : DefK K "never_meet" (topS 27)
  dis_sure : DefK K "is_sure" (topS 6)
  ddays_open : DefK K "days_open" (topS 9)
  ddivisor : DefK K "divisor" (topS 26)
  dis_ascending : DefK K "is_ascending" (topS 2)
  dexcludes_all : DefK K "excludes_all" (topS 17)
  dfirst_group : DefK K "first_group" (topS 16)
  dis_pair_in : DefK K "is_pair_in" (topS 13)
  dis_excluded : DefK K "is_excluded" (topS 7)
  d_law_box : DefK K "_law_box" (topS 31)
  d_law_load : DefK K "_law_load" (topS 32)
  d_law_draw : DefK K "_law_draw" (topS 33)
  dlaw : DefK K "law" (topS 37)
  gMAX_ANSWERS : GlobK K "MAX_ANSWERS" (.int 60)
  gMAX_TURN : GlobK K "MAX_TURN" (.int 10000)
  zall : PySem.W.nsIn K mainGlobals "all" = some none
  zany : PySem.W.nsIn K mainGlobals "any" = some none
  zbool : PySem.W.nsIn K mainGlobals "bool" = some none
  zenumerate : PySem.W.nsIn K mainGlobals "enumerate" = some none
  zint : PySem.W.nsIn K mainGlobals "int" = some none
  zisinstance : PySem.W.nsIn K mainGlobals "isinstance" = some none
  zlen : PySem.W.nsIn K mainGlobals "len" = some none
  zlist : PySem.W.nsIn K mainGlobals "list" = some none
  zmax : PySem.W.nsIn K mainGlobals "max" = some none
  zrange : PySem.W.nsIn K mainGlobals "range" = some none
  zstr : PySem.W.nsIn K mainGlobals "str" = some none
  zsum : PySem.W.nsIn K mainGlobals "sum" = some none
  ztuple : PySem.W.nsIn K mainGlobals "tuple" = some none
section
variable {P : Program} {w : World} {K : PySem.W.Frag} {mg : Str → Option Value} {base h : Heap}
theorem whole {z : Zx} (T : TopOk K) (X : K.In h) (G : h.Ns mainGlobals mg) (hz : z.K = K) (hw : z.w = w) (hM : z.M = GG.M) : Whole P w K mg base z GG cxN fnN glN "_law_draw" bltN := by
  obtain ⟨fL, fdL, FL, gL⟩ := T.d_law_load.fn X G
  obtain ⟨fD, fdD, FD, gD⟩ := T.d_law_draw.fn X G
  refine ⟨hz, fun _ _ => rfl, hw, hM.symm, fun ks nd hd => by rw [hM] at hd; exact kn0_lim ks nd hd, fun x hx => ?_, fun k x v e1 e2 => ?_, fun k x e => ?_, fD, fdD, _, ok_draw FD FL (FL.binds (ps := ["box"]) (fun _ _ _ _ _ _ us hl => match us, hl with | [_], _ => rfl)) gL (PySem.W.mg_none_of X G T.zint) (PySem.W.mg_none_of X G T.zlen), gD, FD.kp, FD.binds (ps := ["box", "many"]) (fun _ _ _ _ _ _ us hl => match us, hl with | [_, _], _ => rfl)⟩
  · simp only [bltN, List.mem_cons, List.not_mem_nil, or_false] at hx
    rcases hx with rfl | rfl | rfl | rfl | rfl | rfl | rfl | rfl | rfl | rfl | rfl | rfl | rfl
    · exact PySem.W.mg_none_of X G T.zall
    · exact PySem.W.mg_none_of X G T.zany
    · exact PySem.W.mg_none_of X G T.zbool
    · exact PySem.W.mg_none_of X G T.zenumerate
    · exact PySem.W.mg_none_of X G T.zint
    · exact PySem.W.mg_none_of X G T.zisinstance
    · exact PySem.W.mg_none_of X G T.zlen
    · exact PySem.W.mg_none_of X G T.zlist
    · exact PySem.W.mg_none_of X G T.zmax
    · exact PySem.W.mg_none_of X G T.zrange
    · exact PySem.W.mg_none_of X G T.zstr
    · exact PySem.W.mg_none_of X G T.zsum
    · exact PySem.W.mg_none_of X G T.ztuple
  · match k, e1, e2 with
    | 0, e1, e2 => cases e1; cases e2; exact T.gMAX_ANSWERS.at_ hz X G
    | 1, e1, e2 => cases e1; cases e2; exact T.gMAX_TURN.at_ hz X G
    | k + 2, e1, e2 => exact absurd e1 (by simp [glN, tG])
  · match k, e with
    | 0, e => cases e
    | 1, e => cases e; exact ⟨_, rfl, T.d_law_lcm.at_ X G s_law_lcm o_law_lcm rfl rfl (fun _ _ _ _ _ _ us hl => match us, hl with | [_, _], _ => rfl)⟩
    | 2, e => cases e; exact ⟨_, rfl, T.d_law_comes.at_ X G s_law_comes o_law_comes rfl rfl (fun _ _ _ _ _ _ us hl => match us, hl with | [_, _], _ => rfl)⟩
    | 3, e => cases e; exact ⟨_, rfl, T.dis_open_poll.at_ X G sis_open_poll ois_open_poll rfl rfl (fun _ _ _ _ _ _ us hl => match us, hl with | [_], _ => rfl)⟩
    | 4, e => cases e; exact ⟨_, rfl, T.d_law_same.at_ X G s_law_same o_law_same rfl rfl (fun _ _ _ _ _ _ us hl => match us, hl with | [_, _], _ => rfl)⟩
    | 5, e => cases e; exact ⟨_, rfl, T.dcomes.at_ X G scomes ocomes rfl rfl (fun _ _ _ _ _ _ us hl => match us, hl with | [_, _], _ => rfl)⟩
    | 6, e => cases e; exact ⟨_, rfl, T.dfirst_strangers.at_ X G sfirst_strangers ofirst_strangers rfl rfl (fun _ _ _ _ _ _ us hl => match us, hl with | [_], _ => rfl)⟩
    | 7, e => cases e; exact ⟨_, rfl, T.dsure_days.at_ X G ssure_days osure_days rfl rfl (fun _ _ _ _ _ _ us hl => match us, hl with | [_, _], _ => rfl)⟩
    | 8, e => cases e; exact ⟨_, rfl, T.dverdict.at_ X G sverdict overdict rfl rfl (fun _ _ _ _ _ _ us hl => match us, hl with | [_, _], _ => rfl)⟩
    | 9, e => cases e; exact ⟨_, rfl, T.dboth_turns.at_ X G sboth_turns oboth_turns rfl rfl (fun _ _ _ _ _ _ us hl => match us, hl with | [_, _], _ => rfl)⟩
    | 10, e => cases e; exact ⟨_, rfl, T.dare_refusers.at_ X G sare_refusers oare_refusers rfl rfl (fun _ _ _ _ _ _ us hl => match us, hl with | [_, _, _], _ => rfl)⟩
    | 11, e => cases e; exact ⟨_, rfl, T.dfewest_refusers.at_ X G sfewest_refusers ofewest_refusers rfl rfl (fun _ _ _ _ _ _ us hl => match us, hl with | [_, _], _ => rfl)⟩
    | 12, e => cases e; exact ⟨_, rfl, T.dreasons.at_ X G sreasons oreasons rfl rfl (fun _ _ _ _ _ _ us hl => match us, hl with | [_, _], _ => rfl)⟩
    | 13, e => cases e; exact ⟨_, rfl, T.dare_reasons.at_ X G sare_reasons oare_reasons rfl rfl (fun _ _ _ _ _ _ us hl => match us, hl with | [_, _, _], _ => rfl)⟩
    | 14, e => cases e; exact ⟨_, rfl, T.dis_number.at_ X G sis_number ois_number rfl rfl (fun _ _ _ _ _ _ us hl => match us, hl with | [_, _, _], _ => rfl)⟩
    | 15, e => cases e; exact ⟨_, rfl, T.dnever_meet.at_ X G snever_meet onever_meet rfl rfl (fun _ _ _ _ _ _ us hl => match us, hl with | [_, _], _ => rfl)⟩
    | 16, e => cases e; exact ⟨_, rfl, T.dis_sure.at_ X G sis_sure ois_sure rfl rfl (fun _ _ _ _ _ _ us hl => match us, hl with | [_, _], _ => rfl)⟩
    | 17, e => cases e; exact ⟨_, rfl, T.ddays_open.at_ X G sdays_open odays_open rfl rfl (fun _ _ _ _ _ _ us hl => match us, hl with | [_, _], _ => rfl)⟩
    | 18, e => cases e; exact ⟨_, rfl, T.ddivisor.at_ X G sdivisor odivisor rfl rfl (fun _ _ _ _ _ _ us hl => match us, hl with | [_, _], _ => rfl)⟩
    | 19, e => cases e; exact ⟨_, rfl, T.dis_ascending.at_ X G sis_ascending ois_ascending rfl rfl (fun _ _ _ _ _ _ us hl => match us, hl with | [_], _ => rfl)⟩
    | 20, e => cases e; exact ⟨_, rfl, T.dexcludes_all.at_ X G sexcludes_all oexcludes_all rfl rfl (fun _ _ _ _ _ _ us hl => match us, hl with | [_, _, _], _ => rfl)⟩
    | 21, e => cases e; exact ⟨_, rfl, T.dfirst_group.at_ X G sfirst_group ofirst_group rfl rfl (fun _ _ _ _ _ _ us hl => match us, hl with | [_, _, _, _, _], _ => rfl)⟩
    | 22, e => cases e; exact ⟨_, rfl, T.dis_pair_in.at_ X G sis_pair_in ois_pair_in rfl rfl (fun _ _ _ _ _ _ us hl => match us, hl with | [_, _], _ => rfl)⟩
    | 23, e => cases e; exact ⟨_, rfl, T.dis_excluded.at_ X G sis_excluded ois_excluded rfl rfl (fun _ _ _ _ _ _ us hl => match us, hl with | [_, _], _ => rfl)⟩
    | k + 24, e => exact absurd e (by simp [fnN, tN])
theorem ok_law (main : Said (exs (GG.ctx 20) blaw (env0 15) [])) {f : Addr} {fd : FuncData} (F : Fun K "law" "law" (topS 37) f fd) (T : TopOk K) (X : K.In h) (G : h.Ns mainGlobals mg) : FnOk P w K mg base CX0 (20 + 5) f fd ["script"] (spLaw K) := by
  obtain ⟨fB, fdB, FB, gB⟩ := T.d_law_box.fn X G
  have bB : L2.Binds K fdB ["script"] [] := FB.binds (ps := ["script"]) (fun _ _ _ _ _ _ us hl => match us, hl with | [_], _ => rfl)
  have GB : FnOk P w K mg base CX0 (20 + 4) fB fdB ["script"] (spBox K) := ok_box FB (PySem.W.mg_none_of X G T.zlist) (PySem.W.mg_none_of X G T.zlen)
  have W : ∀ z : Zx, z.K = K → z.w = w → z.M = GG.M → Whole P w K mg base z GG cxN fnN glN "_law_draw" bltN := fun z hz hw hM => whole T X G hz hw hM
  refine F.ok slaw (fun vs H Q E h => ?_) (fun cdv A outer s H vs Q E hr h => ?_)
  · obtain ⟨a, ns, rfl, _⟩ := h
    rfl
  · obtain ⟨a, ns, rfl, hS, hlen, q⟩ := h
    have rest : PSs (cxOf CX0 P w K mg base nlaw "law" (defScope (topS 37)) f cdv A outer s H E).nox (defBody (topS 37)).tail (tRest K w (GG.ctx 20) blaw) := ⟨fun pins s' σ H D I ⟨z, hz, hw, hM, q⟩ => (sSs blaw ((W z hz hw hM).good ((W z hz hw hM).all 20) slaw hr) _ olaw).run pins s' σ H D I q⟩
    refine ⟨_, pss_cons (ps_set (i := 1) slaw.nd rfl (.inr rfl) (pe_call GB hr (by rfl) gB FB.kp bB .nil pass0 (pa_cons (pv 0) pa_nil))) rest, ?_⟩
    exact ⟨.ref a, rfl, a, ns, rfl, hS, hlen, fun H' b c sm nb nc hB => tRest_of (s := some (.ref a)) (k := 15) (start_law (by decide)) hB main q⟩
theorem all_mk {fa : Addr} (main : Said (exs (GG.ctx 20) blaw (env0 15) [])) (X : K.In h) (G : h.Ns mainGlobals mg) (hfa : mg "law" = some (.ref fa)) (T : TopOk K) :
    ∃ fd : FuncData, (∀ (s : Shared) (v : Value), BindsTo s fd ⟨[v], []⟩ [("script", v)]) ∧ ∀ base : Heap, K.In base → base.Ns mainGlobals mg → FnOk P w K mg base CX0 (20 + 5) fa fd ["script"] (spLaw K) := by
  obtain ⟨f, oc, od, an, osl, kV, doc, pm, cdv, ct, a, l, c, k⟩ := T.dlaw
  have e := hfa.symm.trans (PySem.W.mg_of X G a)
  cases e
  exact ⟨_, fun s v => .of_eq rfl, fun base hK hN => ok_law main (fun_mk l c k) T hK hN⟩
end
end K77
end
section
set_option Elab.async false
set_option linter.all false
set_option autoImplicit false
set_option maxRecDepth 100000
namespace K77
open MP
theorem env_law : env0 15 = [.emp, .val .box, .emp, .emp, .emp, .emp, .emp, .emp, .emp, .emp, .emp, .emp, .emp, .emp, .emp, .emp, .emp] := rfl
theorem said_of {t : T Out} (h : t.W fun o => o.1 = .ret (.v (.bl true))) : Said t := ⟨h.wp⟩
theorem main : Said (exs (GG.ctx 20) blaw (env0 15) []) := by
  rw [env_law]
  exact said_of K77N.main'
end K77
end
set_option Elab.async false
set_option linter.all false
set_option autoImplicit false
set_option maxRecDepth 100000
set_option maxHeartbeats 8000000
open PySem PySem.W PyProof.Rows
set_option maxHeartbeats 0 in
theorem PySem.Challenge.cw_suitsall_k77_whole_polls_on_turns_holds : PySem.Challenge.rw_suitsall_k77_whole_polls_on_turns.Holds := by
  w_on; o_law; k_head; (case hw => w_witness2)
  k_fill
  refine L2.walk_ofK (l := PySem.Challenge.rw_suitsall_k77_whole_polls_on_turns) (n := 63) (k := 20 + 5) (x := "script") (CX := L2.CX0) (sp := MP.spLaw) rfl (by decide) rfl ⟨rfl, by decide, by decide⟩ (fun w h Y => PySem.W.kIn_of Y) ?F (fun _ _ a ns hl _ hS => ⟨a, ns, rfl, hS, hl, fun _ => rfl⟩) (fun _ _ _ _ h => h)
  case F =>
    intro w mg fa h KX G hmg
    refine K77.all_mk K77.main KX G hmg ⟨?d_law_lcm, ?d_law_comes, ?dis_open_poll, ?d_law_same, ?dcomes, ?dfirst_strangers, ?dsure_days, ?dverdict, ?dboth_turns, ?dare_refusers, ?dfewest_refusers, ?dreasons, ?dare_reasons, ?dis_number, ?dnever_meet, ?dis_sure, ?ddays_open, ?ddivisor, ?dis_ascending, ?dexcludes_all, ?dfirst_group, ?dis_pair_in, ?dis_excluded, ?d_law_box, ?d_law_load, ?d_law_draw, ?dlaw, ?gMAX_ANSWERS, ?gMAX_TURN, ?zall, ?zany, ?zbool, ?zenumerate, ?zint, ?zisinstance, ?zlen, ?zlist, ?zmax, ?zrange, ?zstr, ?zsum, ?ztuple⟩
    case d_law_lcm => (refine' MP.DefK.mk ?a0 ?l0 ?c0 ?k0; (case a0 => k_is); (case l0 => k_is); (case c0 => k_is); (case k0 => k_is))
    case d_law_comes => (refine' MP.DefK.mk ?a1 ?l1 ?c1 ?k1; (case a1 => k_is); (case l1 => k_is); (case c1 => k_is); (case k1 => k_is))
    case dis_open_poll => (refine' MP.DefK.mk ?a2 ?l2 ?c2 ?k2; (case a2 => k_is); (case l2 => k_is); (case c2 => k_is); (case k2 => k_is))
    case d_law_same => (refine' MP.DefK.mk ?a3 ?l3 ?c3 ?k3; (case a3 => k_is); (case l3 => k_is); (case c3 => k_is); (case k3 => k_is))
    case dcomes => (refine' MP.DefK.mk ?a4 ?l4 ?c4 ?k4; (case a4 => k_is); (case l4 => k_is); (case c4 => k_is); (case k4 => k_is))
    case dfirst_strangers => (refine' MP.DefK.mk ?a5 ?l5 ?c5 ?k5; (case a5 => k_is); (case l5 => k_is); (case c5 => k_is); (case k5 => k_is))
    case dsure_days => (refine' MP.DefK.mk ?a6 ?l6 ?c6 ?k6; (case a6 => k_is); (case l6 => k_is); (case c6 => k_is); (case k6 => k_is))
    case dverdict => (refine' MP.DefK.mk ?a7 ?l7 ?c7 ?k7; (case a7 => k_is); (case l7 => k_is); (case c7 => k_is); (case k7 => k_is))
    case dboth_turns => (refine' MP.DefK.mk ?a8 ?l8 ?c8 ?k8; (case a8 => k_is); (case l8 => k_is); (case c8 => k_is); (case k8 => k_is))
    case dare_refusers => (refine' MP.DefK.mk ?a9 ?l9 ?c9 ?k9; (case a9 => k_is); (case l9 => k_is); (case c9 => k_is); (case k9 => k_is))
    case dfewest_refusers => (refine' MP.DefK.mk ?a10 ?l10 ?c10 ?k10; (case a10 => k_is); (case l10 => k_is); (case c10 => k_is); (case k10 => k_is))
    case dreasons => (refine' MP.DefK.mk ?a11 ?l11 ?c11 ?k11; (case a11 => k_is); (case l11 => k_is); (case c11 => k_is); (case k11 => k_is))
    case dare_reasons => (refine' MP.DefK.mk ?a12 ?l12 ?c12 ?k12; (case a12 => k_is); (case l12 => k_is); (case c12 => k_is); (case k12 => k_is))
    case dis_number => (refine' MP.DefK.mk ?a13 ?l13 ?c13 ?k13; (case a13 => k_is); (case l13 => k_is); (case c13 => k_is); (case k13 => k_is))
    case dnever_meet => (refine' MP.DefK.mk ?a14 ?l14 ?c14 ?k14; (case a14 => k_is); (case l14 => k_is); (case c14 => k_is); (case k14 => k_is))
    case dis_sure => (refine' MP.DefK.mk ?a15 ?l15 ?c15 ?k15; (case a15 => k_is); (case l15 => k_is); (case c15 => k_is); (case k15 => k_is))
    case ddays_open => (refine' MP.DefK.mk ?a16 ?l16 ?c16 ?k16; (case a16 => k_is); (case l16 => k_is); (case c16 => k_is); (case k16 => k_is))
    case ddivisor => (refine' MP.DefK.mk ?a17 ?l17 ?c17 ?k17; (case a17 => k_is); (case l17 => k_is); (case c17 => k_is); (case k17 => k_is))
    case dis_ascending => (refine' MP.DefK.mk ?a18 ?l18 ?c18 ?k18; (case a18 => k_is); (case l18 => k_is); (case c18 => k_is); (case k18 => k_is))
    case dexcludes_all => (refine' MP.DefK.mk ?a19 ?l19 ?c19 ?k19; (case a19 => k_is); (case l19 => k_is); (case c19 => k_is); (case k19 => k_is))
    case dfirst_group => (refine' MP.DefK.mk ?a20 ?l20 ?c20 ?k20; (case a20 => k_is); (case l20 => k_is); (case c20 => k_is); (case k20 => k_is))
    case dis_pair_in => (refine' MP.DefK.mk ?a21 ?l21 ?c21 ?k21; (case a21 => k_is); (case l21 => k_is); (case c21 => k_is); (case k21 => k_is))
    case dis_excluded => (refine' MP.DefK.mk ?a22 ?l22 ?c22 ?k22; (case a22 => k_is); (case l22 => k_is); (case c22 => k_is); (case k22 => k_is))
    case d_law_box => (refine' MP.DefK.mk ?a23 ?l23 ?c23 ?k23; (case a23 => k_is); (case l23 => k_is); (case c23 => k_is); (case k23 => k_is))
    case d_law_load => (refine' MP.DefK.mk ?a24 ?l24 ?c24 ?k24; (case a24 => k_is); (case l24 => k_is); (case c24 => k_is); (case k24 => k_is))
    case d_law_draw => (refine' MP.DefK.mk ?a25 ?l25 ?c25 ?k25; (case a25 => k_is); (case l25 => k_is); (case c25 => k_is); (case k25 => k_is))
    case dlaw => (refine' MP.DefK.mk ?a26 ?l26 ?c26 ?k26; (case a26 => k_is); (case l26 => k_is); (case c26 => k_is); (case k26 => k_is))
    case gMAX_ANSWERS => (refine' MP.GlobK.mk ?aMAX_ANSWERS ?vMAX_ANSWERS; (case aMAX_ANSWERS => k_is); (case vMAX_ANSWERS => exact ⟨_, rfl⟩))
    case gMAX_TURN => (refine' MP.GlobK.mk ?aMAX_TURN ?vMAX_TURN; (case aMAX_TURN => k_is); (case vMAX_TURN => exact ⟨_, rfl⟩))
    case zall => k_is
    case zany => k_is
    case zbool => k_is
    case zenumerate => k_is
    case zint => k_is
    case zisinstance => k_is
    case zlen => k_is
    case zlist => k_is
    case zmax => k_is
    case zrange => k_is
    case zstr => k_is
    case zsum => k_is
    case ztuple => k_is
