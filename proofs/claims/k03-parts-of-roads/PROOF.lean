import PyProof.Rows.All
import Wide.All
import OpenK.AllK
import Wide.FinOn
import HandS.ForMost
import HandS.IsInst
import HandS.Wide
import HandS.WideBits
import HandS.Style
import HandS.Deep
import HandS.SortInts
import HandS.Zip
import HandS.Conv
import HandS.SetFor
import HandS.TupAny
import HandS.Rev
import HandS.Defaults
import HandS.NoneIn
import PyProof.ReprRoads
import PyProof.SeqIndex
import HandS.EndBits
import HandS.CallRecv
import PySem.Challenge.RW_neverbehind_k03_whole_parts_of_roads
set_option Elab.async false
set_option linter.all false
set_option maxRecDepth 100000
/-! Mi, part A: a small syntax and its evaluator over a heap of lists and tuples. Plain Lean: no model in sight. -/
namespace Mi
open PySem

/-! ### values and the heap -/
inductive U where
  | non | bl (b : Bool) | int (i : Int) | str (s : Str) | ref (n : Nat)
  deriving DecidableEq
inductive Ob where
  | lst (xs : List U) | tup (xs : List U) | ro (xs : List U)
inductive Tr where
  | lf | nd (o : Option Ob) (l r : Tr)
def Tr.get : Tr → List Bool → Option Ob
  | .lf, _ => none
  | .nd o _ _, [] => o
  | .nd _ l _, false :: bs => l.get bs
  | .nd _ _ r, true :: bs => r.get bs
def Tr.put : Tr → List Bool → Ob → Tr
  | .lf, [], o => .nd (some o) .lf .lf
  | .nd _ l r, [], o => .nd (some o) l r
  | .lf, false :: bs, o => .nd none (Tr.put .lf bs o) .lf
  | .lf, true :: bs, o => .nd none .lf (Tr.put .lf bs o)
  | .nd x l r, false :: bs, o => .nd x (l.put bs o) r
  | .nd x l r, true :: bs, o => .nd x l (r.put bs o)
theorem Tr.get_lf (bs : List Bool) : Tr.lf.get bs = none := by cases bs <;> rfl
theorem Tr.get_put (o : Ob) : ∀ (bs cs : List Bool) (t : Tr), (t.put bs o).get cs = if cs = bs then some o else t.get cs
  | [], [], .lf => rfl
  | [], [], .nd .. => rfl
  | [], c :: cs, .lf => by cases c <;> simp [Tr.put, Tr.get, Tr.get_lf]
  | [], c :: cs, .nd .. => by cases c <;> simp [Tr.put, Tr.get]
  | b :: bs, [], .lf => by cases b <;> simp [Tr.put, Tr.get]
  | b :: bs, [], .nd .. => by cases b <;> simp [Tr.put, Tr.get]
  | b :: bs, c :: cs, .lf => by
    have ih := Tr.get_put o bs cs .lf
    cases b <;> cases c <;> simp [Tr.put, Tr.get, Tr.get_lf, ih]
  | b :: bs, c :: cs, .nd x l r => by
    have ih1 := Tr.get_put o bs cs l
    have ih2 := Tr.get_put o bs cs r
    cases b <;> cases c <;> simp [Tr.put, Tr.get, ih1, ih2]
def bitsF : Nat → Nat → List Bool
  | 0, _ => []
  | f + 1, i => if i = 0 then [] else decide (i % 2 = 1) :: bitsF f (i / 2)
def bits (i : Nat) : List Bool := bitsF i i
def bval : List Bool → Nat
  | [] => 0
  | b :: bs => (if b then 1 else 0) + 2 * bval bs
theorem bval_bitsF : ∀ (f i : Nat), i ≤ f → bval (bitsF f i) = i
  | 0, i, h => by
    have : i = 0 := by omega
    subst this; rfl
  | f + 1, i, h => by
    unfold bitsF
    by_cases hi : i = 0
    · rw [if_pos hi]; subst hi; rfl
    · rw [if_neg hi]
      have ih := bval_bitsF f (i / 2) (by omega)
      unfold bval
      rw [ih]
      by_cases h2 : i % 2 = 1
      · simp [h2]; omega
      · simp [h2]; omega
theorem bits_inj {i j : Nat} (h : bits i = bits j) : i = j := by
  have := congrArg bval h
  rwa [bits, bits, bval_bitsF _ _ (Nat.le_refl _), bval_bitsF _ _ (Nat.le_refl _)] at this
theorem bits_eq (i j : Nat) : (bits i = bits j) = (i = j) := propext ⟨bits_inj, fun h => by rw [h]⟩

structure Hm where
  n : Nat
  t : Tr
def Hm.get (h : Hm) (i : Nat) : Option Ob := if i < h.n then h.t.get (bits i) else none
def Hm.push (h : Hm) (o : Ob) : Hm := ⟨h.n + 1, h.t.put (bits h.n) o⟩
def Hm.set (h : Hm) (i : Nat) (o : Ob) : Hm := ⟨h.n, h.t.put (bits i) o⟩
theorem Hm.get_lt {h : Hm} {i : Nat} {o : Ob} (e : h.get i = some o) : i < h.n := by
  unfold Hm.get at e
  split at e
  · assumption
  · cases e
theorem Hm.push_n (h : Hm) (o : Ob) : (h.push o).n = h.n + 1 := rfl
theorem Hm.set_n (h : Hm) (i : Nat) (o : Ob) : (h.set i o).n = h.n := rfl
theorem Hm.get_push (h : Hm) (o : Ob) (i : Nat) : (h.push o).get i = if i = h.n then some o else h.get i := by
  unfold Hm.get Hm.push
  simp only [Tr.get_put, bits_eq]
  by_cases e : i = h.n
  · subst e; simp
  · by_cases l : i < h.n
    · simp [e, l, Nat.lt_succ_of_lt l]
    · have : ¬ i < h.n + 1 := by omega
      simp [e, l, this]
theorem Hm.get_push_self (h : Hm) (o : Ob) : (h.push o).get h.n = some o := by rw [Hm.get_push, if_pos rfl]
theorem Hm.get_push_lt {h : Hm} {o : Ob} {i : Nat} (l : i < h.n) : (h.push o).get i = h.get i := by rw [Hm.get_push, if_neg (by omega)]
theorem Hm.get_set {h : Hm} {i : Nat} (o : Ob) (j : Nat) (l : i < h.n) : (h.set i o).get j = if j = i then some o else h.get j := by
  unfold Hm.get Hm.set
  simp only [Tr.get_put, bits_eq]
  by_cases e : j = i
  · subst e; simp [l]
  · simp [e]

/-! ### the syntax -/
inductive Bop where | add | sub | mul | fdiv | mod | pow
inductive Cop where | eq | ne | lt | le | gt | ge | is | isn | isin | nin
inductive Bi where | len | sum | min1 | max1 | min2 | max2 | all | any | abs | int | list | tuple | sorted | repr
inductive Me where | append | index | count | insert | extend | pop | bitlen
inductive Ty where | int | bool | str | list | tuple | dict
inductive Tn where | nm (i : Nat) | tp2 (a b : Tn) | tp3 (a b c : Tn)
inductive Sk where | seq | rng1 | rng2 | rngd | enum | zip | rev
mutual
inductive Ex where
  | var (i : Nat) | int (i : Int) | bl (b : Bool) | non | str (s : Str)
  | bin (op : Bop) (a b : Ex) | neg (a : Ex) | not (a : Ex) | and (a b : Ex) | or (a b : Ex) | ite (c a b : Ex)
  | cmp (op : Cop) (a b : Ex) | chain (op : Cop) (op' : Cop) (a b c : Ex)
  | list (es : Exs) | tup (es : Exs) | sub (a i : Ex) | slice (a : Ex) (fl fh : Bool) (lo hi : Ex) | rev (a : Ex)
  | call (f : Nat) (es : Exs) (dv : List U) | callk (f : Nat) (es ks : Exs) (sh : Nat) (pm : List Nat)
  | bi (b : Bi) (es : Exs) | isi (a : Ex) (t : Ty) | isi2 (a : Ex) (ts : List Ty) | meth (m : Me) (o : Ex) (es : Exs) | lrng (a : Ex)
  | lc (own : List Nat) (tg : Tn) (sk : Sk) (a b : Ex) (cond : Ex) (elt : Ex)
  | lc2 (own vs : List Nat) (tg : Tn) (sk : Sk) (a b : Ex) (cond : Ex) (tg1 : Tn) (sk1 : Sk) (a1 b1 : Ex) (cond1 : Ex) (elt : Ex)
inductive Exs where
  | nil | cons (e : Ex) (es : Exs)
end
mutual
inductive Sm where
  | pass | ex (e : Ex) | set (i : Nat) (e : Ex) | par (is : List Nat) (es : Exs) | asg (t : Tn) (e : Ex) | setsub (o i e : Ex) | parsub (o i o' i' : Ex) (es : Exs)
  | aug (i : Nat) (op : Bop) (e : Ex) | ite (c : Ex) (a b : Sms) | for (tg : Tn) (sk : Sk) (a b : Ex) (body : Sms) | while (c : Ex) (body : Sms)
  | ret (e : Ex) | retn | raise | brk | cnt
  | mut1 (m : Me) (i : Nat) (es : Exs) | mut2 (m : Me) (i : Nat) (a : Ex) (es : Exs) | st1 (i : Nat) (a e : Ex) | st2 (i : Nat) (a b e : Ex) | sw (i : Nat) (a : Ex) (j : Nat) (b : Ex) (es : Exs) | popto (i j : Nat) | mv (i j : Nat) | mutv (i j : Nat) | spoil (n : Nat) (s : Sm)
inductive Sms where
  | nil | cons (s : Sm) (r : Sms)
end

/-! ### pieces of the evaluator -/
abbrev Env := List (Option U)
def rdL (h : Hm) : U → Option (List U)
  | .ref a => match h.get a with
    | some (.lst xs) => some xs
    | some (.ro xs) => some xs
    | _ => none
  | _ => none
def rdT (h : Hm) : U → Option (List U)
  | .ref a => match h.get a with
    | some (.tup xs) => some xs
    | _ => none
  | _ => none
def rdS (h : Hm) : U → Option (List U)
  | .ref a => match h.get a with
    | some (.lst xs) => some xs
    | some (.ro xs) => some xs
    | some (.tup xs) => some xs
    | _ => none
  | _ => none
def intsOf : List U → Option (List Int)
  | [] => some []
  | .int i :: r => match intsOf r with
    | some l => some (i :: l)
    | none => none
  | _ :: _ => none
def boolsOf : List U → Option (List Bool)
  | [] => some []
  | .bl b :: r => match boolsOf r with
    | some l => some (b :: l)
    | none => none
  | _ :: _ => none
def fl : U → Bool
  | .ref _ => false
  | _ => true
def eqF : U → U → Bool
  | .non, .non => true
  | .bl a, .bl b => a == b
  | .bl a, .int b => (if a then 1 else 0) == b
  | .int a, .bl b => a == (if b then 1 else 0)
  | .int a, .int b => a == b
  | .str a, .str b => a == b
  | _, _ => false
def sc : U → U → Bool
  | .non, .non => true | .non, .int _ => true | .int _, .non => true | .non, .bl _ => true | .bl _, .non => true | .non, .str _ => true | .str _, .non => true
  | .int _, .int _ => true | .bl _, .bl _ => true | .str _, .str _ => true
  | .int _, .str _ => true | .str _, .int _ => true | .bl _, .str _ => true | .str _, .bl _ => true
  | _, _ => false
def allD (f : U → Option PyData) : List U → Option (List PyData)
  | [] => some []
  | u :: r => match f u with
    | none => none
    | some d => match allD f r with
      | none => none
      | some ds => some (d :: ds)
def toD (h : Hm) : Nat → U → Option PyData
  | _, .non => some .none
  | _, .bl b => some (.bool b)
  | _, .int i => some (.int i)
  | _, .str s => some (.str s)
  | 0, .ref _ => none
  | k + 1, .ref a => match h.get a with
    | some (.lst xs) => (allD (toD h k) xs).map .list
    | some (.ro xs) => (allD (toD h k) xs).map .list
    | some (.tup xs) => (allD (toD h k) xs).map .tuple
    | none => none
def eqU (h : Hm) (u v : U) : Option Bool :=
  if sc u v then some (decide (u = v)) else
  match toD h 64 u with
  | none => none
  | some d => match toD h 64 v with
    | none => none
    | some e => if SeqAt.shaped d && SeqAt.shaped e then some (PyData.eqv d e) else none
def inU (h : Hm) (x y : U) : Option Bool :=
  match rdS h y with
  | none => none
  | some ys => if fl x && ys.all fl then some (ys.any fun y => eqF y x) else
    match toD h 64 x with
    | none => none
    | some d => match toD h 64 y with
      | some (.list ds) => if SeqAt.shaped d && SeqAt.shaped (.list ds) then some (ds.any fun z => PyData.eqv z d) else none
      | _ => none
def mulOk (i j : Int) : Bool := decide (i.natAbs < 2 ^ 64) || decide (j.natAbs < 2 ^ 64) || decide (i.natAbs.log2 + j.natAbs.log2 < 1000000)
def divOk (j : Int) : Bool := decide (0 < j) && decide (j.natAbs.log2 < 9000)
def powOk (a n : Int) : Bool := decide (0 ≤ n) && decide ((Builtin.Int.intBits a : Int) * n ≤ 2 ^ 27)
def repOk (n : Nat) (k : Int) : Bool := decide (-(2 ^ 63) ≤ k) && decide (k < 2 ^ 63) && decide (n * k.toNat ≤ sizeLine)
abbrev Res := Option (U × Hm)
def newL (h : Hm) (xs : List U) : Res := if xs.length ≤ sizeLine then some (.ref h.n, h.push (.lst xs)) else none
def newT (h : Hm) (xs : List U) : Res := if xs.length ≤ sizeLine then some (.ref h.n, h.push (.tup xs)) else none
def binU (h : Hm) : Bop → U → U → Res
  | .add, .int i, .int j => some (.int (i + j), h)
  | .add, .str i, .str j => if i.length + j.length ≤ sizeLine then some (.str (i ++ j), h) else none
  | .add, .ref a, .ref b => match h.get a, h.get b with
    | some (.lst xs), some (.lst ys) => newL h (xs ++ ys)
    | some (.tup xs), some (.tup ys) => if xs = [] ∨ ys = [] then none else newT h (xs ++ ys)
    | _, _ => none
  | .sub, .int i, .int j => some (.int (i - j), h)
  | .mul, .int i, .int j => if mulOk i j then some (.int (i * j), h) else none
  | .mul, .ref a, .int k => match h.get a with
    | some (.lst xs) => if repOk xs.length k then some (.ref h.n, h.push (.lst (List.replicate k.toNat xs).flatten)) else none
    | _ => none
  | .fdiv, .int i, .int j => if divOk j then some (.int (i / j), h) else none
  | .mod, .int i, .int j => if 0 < j then some (.int (i % j), h) else none
  | .pow, .int i, .int j => if powOk i j then some (.int (i ^ j.toNat), h) else none
  | _, _, _ => none
def lexLtI : List Int → List Int → Bool := HT.lexLt
def cmpU (h : Hm) : Cop → U → U → Option Bool
  | .eq, u, v => eqU h u v
  | .ne, u, v => match eqU h u v with
    | some b => some (!b)
    | none => none
  | .lt, .int i, .int j => some (decide (i < j))
  | .le, .int i, .int j => some (decide (i ≤ j))
  | .gt, .int i, .int j => some (decide (j < i))
  | .ge, .int i, .int j => some (decide (j ≤ i))
  | .is, u, .non => some (decide (u = .non))
  | .isn, u, .non => some (!decide (u = .non))
  | .is, .bl a, .bl b => some (decide (a = b))
  | .isn, .bl a, .bl b => some (!decide (a = b))
  | .isin, u, v => inU h u v
  | .nin, u, v => match inU h u v with
    | some b => some (!b)
    | none => none
  | _, _, _ => none
def isTy (h : Hm) (u : U) : Ty → Option Bool
  | t => match u, t with
    | .non, _ => some false
    | .bl _, .bool => some true
    | .bl _, .int => some true
    | .bl _, _ => some false
    | .int _, .int => some true
    | .int _, _ => some false
    | .str _, .str => some true
    | .str _, _ => some false
    | .ref a, t => match h.get a, t with
      | some (.lst _), .list => some true
      | some (.lst _), _ => some false
      | some (.ro _), .list => some true
      | some (.ro _), _ => some false
      | some (.tup _), .tuple => some true
      | some (.tup _), _ => some false
      | none, _ => none
def isTys (h : Hm) (u : U) : List Ty → Option Bool
  | [] => some false
  | t :: r => match isTy h u t with
    | some true => some true
    | some false => isTys h u r
    | none => none
def cut {α : Type} (xs : List α) (lo hi : Option Int) : List α := (xs.drop (HT.sIx xs.length 0 lo)).take (HT.sIx xs.length xs.length hi - HT.sIx xs.length 0 lo)
def bnd (f : Bool) (u : U) : Option (Option Int) :=
  match f, u with
  | false, _ => some none
  | true, .int i => some (some i)
  | true, _ => none
def sliceU (h : Hm) (u : U) (fl fh : Bool) (lo hi : U) : Res :=
  match rdL h u with
  | none => none
  | some xs => match bnd fl lo with
    | none => none
    | some l => match bnd fh hi with
      | none => none
      | some r => some (.ref h.n, h.push (.lst (cut xs l r)))
def maxI : List Int → Int
  | [] => 0
  | i :: r => r.foldl max i
def minI : List Int → Int
  | [] => 0
  | i :: r => r.foldl min i
def sortI (l : List Int) : List Int := l.mergeSort fun a b => decide (a ≤ b)
def reprU (h : Hm) (u : U) : Res :=
  match toD h 64 u with
  | none => none
  | some d => if (SeqAt.shaped d && (d.showable && decide (d.shown.length ≤ sizeLine))) = true then some (.str d.shown, h) else none
def biU (h : Hm) : Bi → List U → Res
  | .len, [u] => match rdS h u with
    | some xs => some (.int xs.length, h)
    | none => match u with
      | .str z => if z.length ≤ sizeLine then some (.int z.length, h) else none
      | _ => none
  | .sum, [u] => match rdL h u with
    | none => none
    | some xs => match intsOf xs with
      | none => none
      | some l => some (.int l.sum, h)
  | .min1, [u] => match rdL h u with
    | none => none
    | some xs => match intsOf xs with
      | none => none
      | some l => if l = [] then none else some (.int (minI l), h)
  | .max1, [u] => match rdL h u with
    | none => none
    | some xs => match intsOf xs with
      | none => none
      | some l => if l = [] then none else some (.int (maxI l), h)
  | .min2, [.int i, .int j] => some (.int (if j < i then j else i), h)
  | .max2, [.int i, .int j] => some (.int (if j > i then j else i), h)
  | .all, [u] => match rdL h u with
    | none => none
    | some xs => match boolsOf xs with
      | none => none
      | some l => some (.bl (l.all id), h)
  | .any, [u] => match rdL h u with
    | none => none
    | some xs => match boolsOf xs with
      | none => none
      | some l => some (.bl (l.any id), h)
  | .abs, [.int i] => some (.int (if i < 0 then -i else i), h)
  | .int, [.int i] => some (.int i, h)
  | .int, [.bl b] => some (.int (if b then 1 else 0), h)
  | .list, [u] => match rdS h u with
    | none => none
    | some xs => some (.ref h.n, h.push (.lst xs))
  | .tuple, [u] => match rdL h u with
    | none => none
    | some xs => some (.ref h.n, h.push (.tup xs))
  | .repr, [u] => reprU h u
  | .sorted, [u] => match rdL h u with
    | none => none
    | some xs => match intsOf xs with
      | none => none
      | some l => some (.ref h.n, h.push (.lst ((sortI l).map .int)))
  | _, _ => none
def findI (x : U) : Nat → List U → Option Nat
  | _, [] => none
  | i, y :: r => if eqF y x then some i else findI x (i + 1) r
def meAppend (h : Hm) : U → List U → Res
  | .ref a, [u] => match h.get a with
    | some (.lst xs) => if xs.length < sizeLine then some (.non, h.set a (.lst (xs ++ [u]))) else none
    | _ => none
  | _, _ => none
def meIndex (h : Hm) (o : U) : List U → Res
  | [u] => match rdL h o with
    | none => none
    | some xs => if fl u && xs.all fl then match findI u 0 xs with
      | some i => some (.int i, h)
      | none => none else none
  | [u, .int k] => match rdL h o with
    | none => none
    | some xs => if 0 ≤ k ∧ (fl u && xs.all fl) = true then match findI u k.toNat (xs.drop k.toNat) with
      | some i => some (.int i, h)
      | none => none else none
  | _ => none
def meCount (h : Hm) (o : U) : List U → Res
  | [.int k] => match rdL h o with
    | none => none
    | some xs => match intsOf xs with
      | none => none
      | some l => some (.int (l.count k), h)
  | _ => none
def meInsert (h : Hm) : U → List U → Res
  | .ref a, [.int i, u] => match h.get a with
    | some (.lst xs) => if xs.length < sizeLine ∧ 0 ≤ i ∧ i < 2 ^ 63 then some (.non, h.set a (.lst (xs.take i.toNat ++ [u] ++ xs.drop i.toNat))) else none
    | _ => none
  | _, _ => none
def meExtend (h : Hm) : U → List U → Res
  | .ref a, [.ref b] => match h.get a, h.get b with
    | some (.lst xs), some (.lst ys) => if xs.length + ys.length ≤ sizeLine then some (.non, h.set a (.lst (xs ++ ys))) else none
    | _, _ => none
  | _, _ => none
def mePop (h : Hm) : U → List U → Res
  | .ref a, [] => match h.get a with
    | some (.lst xs) => match xs[xs.length - 1]? with
      | some y => some (y, h.set a (.lst xs.dropLast))
      | none => none
    | _ => none
  | _, _ => none
def meBits (h : Hm) : U → List U → Res
  | .int i, [] => some (.int (Builtin.Int.intBits i), h)
  | _, _ => none
def meU (h : Hm) : Me → U → List U → Res
  | .append => meAppend h
  | .index => meIndex h
  | .count => meCount h
  | .insert => meInsert h
  | .extend => meExtend h
  | .pop => mePop h
  | .bitlen => meBits h
def meTy (h : Hm) : Me → U → Bool
  | .bitlen, .int _ => true
  | .bitlen, _ => false
  | _, u => (rdL h u).isSome
def subU (h : Hm) (u i : U) : Option U :=
  match rdS h u, i with
  | some xs, .int k => L2.atI xs k
  | _, _ => none
def setU (h : Hm) (u i v : U) : Option Hm :=
  match u, i with
  | .ref a, .int k => match h.get a with
    | some (.lst xs) => match L2.ixN xs.length k with
      | some j => some (h.set a (.lst (xs.set j v)))
      | none => none
    | _ => none
  | _, _ => none

/-! ### what is walked -/
inductive It where
  | ls (a : Nat) | tp (a : Nat) | rg (lo : Int) (n : Nat) | rd (lo : Int) (n : Nat) | en (a : Nat) | zl (a b : Nat) | zt (a b : Nat) | rv (a : Nat) (n : Nat)
inductive Iv where | one (u : U) | two (u v : U)
def itSeq (h : Hm) : U → Option It
  | .ref a => match h.get a with
    | some (.lst _) => some (.ls a)
    | some (.ro _) => some (.ls a)
    | some (.tup _) => some (.tp a)
    | none => none
  | _ => none
def itRng1 : U → Option It
  | .int j => if -(2 ^ 62) ≤ j ∧ j < 2 ^ 62 then some (.rg 0 j.toNat) else none
  | _ => none
def itRng2 : U → U → Option It
  | .int i, .int j => if -(2 ^ 62) ≤ i ∧ i < 2 ^ 62 ∧ -(2 ^ 62) ≤ j ∧ j < 2 ^ 62 then some (.rg i (j - i).toNat) else none
  | _, _ => none
def itRngd : U → U → Option It
  | .int i, .int j => if -(2 ^ 62) ≤ i ∧ i < 2 ^ 62 ∧ -(2 ^ 62) ≤ j ∧ j < 2 ^ 62 then some (.rd i (i - j).toNat) else none
  | _, _ => none
def itEnum (h : Hm) : U → Option It
  | .ref a => match h.get a with
    | some (.lst _) => some (.en a)
    | some (.ro _) => some (.en a)
    | _ => none
  | _ => none
def itZip (h : Hm) : U → U → Option It
  | .ref a, .ref b => match h.get a, h.get b with
    | some (.lst _), some (.lst _) => some (.zl a b)
    | some (.ro _), some (.lst _) => some (.zl a b)
    | some (.lst _), some (.ro _) => some (.zl a b)
    | some (.ro _), some (.ro _) => some (.zl a b)
    | some (.tup _), some (.tup _) => some (.zt a b)
    | _, _ => none
  | _, _ => none
def itRev (h : Hm) : U → Option It
  | .ref a => match h.get a with
    | some (.lst xs) => some (.rv a xs.length)
    | some (.ro xs) => some (.rv a xs.length)
    | _ => none
  | _ => none
def mkIt (h : Hm) (sk : Sk) (u v : U) : Option It :=
  match sk with
  | .seq => itSeq h u
  | .rng1 => itRng1 u
  | .rng2 => itRng2 u v
  | .rngd => itRngd u v
  | .enum => itEnum h u
  | .zip => itZip h u v
  | .rev => itRev h u
def cntL (h : Hm) (a : Nat) : Nat := match rdS h (.ref a) with
  | some xs => xs.length
  | none => 0
def It.cnt (h : Hm) : It → Nat
  | .ls a => cntL h a
  | .tp a => cntL h a
  | .rg _ n => n
  | .rd _ n => n
  | .en a => cntL h a
  | .zl a b => min (cntL h a) (cntL h b)
  | .zt a b => min (cntL h a) (cntL h b)
  | .rv _ n => n
def It.at (h : Hm) : It → Nat → Option (Option Iv)
  | .ls a, i => match rdL h (.ref a) with
    | some xs => some (xs[i]?.map .one)
    | none => none
  | .tp a, i => match rdT h (.ref a) with
    | some xs => some (xs[i]?.map .one)
    | none => none
  | .rg lo n, i => some (if i < n then some (.one (.int (lo + i))) else none)
  | .rd lo n, i => some (if i < n then some (.one (.int (lo - i))) else none)
  | .en a, i => match rdL h (.ref a) with
    | some xs => some (xs[i]?.map (.two (.int i)))
    | none => none
  | .zl a b, i => match rdL h (.ref a), rdL h (.ref b) with
    | some xs, some ys => match xs[i]?, ys[i]? with
      | some x, some y => some (some (.two x y))
      | _, _ => some none
    | _, _ => none
  | .zt a b, i => match rdT h (.ref a), rdT h (.ref b) with
    | some xs, some ys => match xs[i]?, ys[i]? with
      | some x, some y => some (some (.two x y))
      | _, _ => some none
    | _, _ => none
  | .rv a n, i => if i < n then match rdL h (.ref a) with
    | some xs => match xs[n - 1 - i]? with
      | some x => some (some (.one x))
      | none => none
    | none => none else some none
/-- the names of a target get a value's parts -/
def bindT (h : Hm) : Tn → U → Env → Option Env
  | .nm i, u, σ => some (σ.set i (some u))
  | .tp2 a b, u, σ => match rdS h u with
    | some [x, y] => match bindT h a x σ with
      | some σ1 => bindT h b y σ1
      | none => none
    | _ => none
  | .tp3 a b c, u, σ => match rdS h u with
    | some [x, y, z] => match bindT h a x σ with
      | some σ1 => match bindT h b y σ1 with
        | some σ2 => bindT h c z σ2
        | none => none
      | none => none
    | _ => none
def bindI (h : Hm) (t : Tn) (v : Iv) (σ : Env) : Option Env :=
  match v with
  | .one u => bindT h t u σ
  | .two u w => match t with
    | .tp2 a b => match bindT h a u σ with
      | some σ1 => bindT h b w σ1
      | none => none
    | _ => none
def wipeE (σ : Env) : List Nat → Env
  | [] => σ
  | i :: r => (wipeE σ r).set i none
/-- one behind another -/
def bd {α β : Type} (o : Option (α × Hm)) (k : α → Hm → Option β) : Option β :=
  match o with
  | some (x, h) => k x h
  | none => none
def ob {α β : Type} (o : Option α) (k : α → Option β) : Option β :=
  match o with
  | some x => k x
  | none => none
/-- by a truth value -/
def bf {β : Type} (u : U) (p q : Option β) : Option β :=
  match u with
  | .bl true => p
  | .bl false => q
  | _ => none
def lcLoop (f : Iv → Hm → Option (List U × Hm)) (it : It) : Nat → Nat → Hm → Option (List U × Hm)
  | 0, i, h => ob (it.at h i) fun o => match o with
    | none => some ([], h)
    | some _ => none
  | k + 1, i, h => ob (it.at h i) fun o => match o with
    | none => some ([], h)
    | some v => bd (f v h) fun ys h1 => bd (lcLoop f it k (i + 1) h1) fun r h2 => some (ys ++ r, h2)
inductive Fl where | nx | rt (u : U) | bk | ct
abbrev ResS := Option (Fl × Env × Hm)
/-- a statement behind another -/
def bs (o : ResS) (k : Env → Hm → ResS) : ResS :=
  match o with
  | some (.nx, σ, h) => k σ h
  | x => x
/-- a loop's next turn behind a body -/
def bl (o : ResS) (k : Env → Hm → ResS) : ResS :=
  match o with
  | some (.nx, σ, h) => k σ h
  | some (.ct, σ, h) => k σ h
  | some (.bk, σ, h) => some (.nx, σ, h)
  | some (.rt u, σ, h) => some (.rt u, σ, h)
  | none => none
def forLoop (f : Iv → Env → Hm → ResS) (it : It) : Nat → Nat → Env → Hm → ResS
  | 0, i, σ, h => ob (it.at h i) fun o => match o with
    | none => some (.nx, σ, h)
    | some _ => none
  | k + 1, i, σ, h => ob (it.at h i) fun o => match o with
    | none => some (.nx, σ, h)
    | some v => bl (f v σ h) fun σ1 h1 => forLoop f it k (i + 1) σ1 h1
def whLoop (t : Env → Hm → Res) (f : Env → Hm → ResS) : Nat → Env → Hm → ResS
  | 0, _, _ => none
  | k + 1, σ, h => bd (t σ h) fun x h1 => bf x (bl (f σ h1) fun σ1 h2 => whLoop t f k σ1 h2) (some (.nx, σ, h1))
def whMost : Nat := 1073741824

/-! ### the evaluator -/
abbrev Calls := Nat → List U → Hm → Res
def setAll : List Nat → List U → Env → Option Env
  | [], [], σ => some σ
  | i :: is, u :: us, σ => setAll is us (σ.set i (some u))
  | _, _, _ => none
def augU : Bop → U → U → Option U
  | .add, .int a, .int b => some (.int (a + b))
  | .sub, .int a, .int b => some (.int (a - b))
  | _, _, _ => none
def negU : U → Option U
  | .int i => some (.int (-i))
  | _ => none
def notU : U → Option U
  | .bl b => some (.bl (!b))
  | _ => none
def getE (σ : Env) (i : Nat) : Option U :=
  match σ[i]? with
  | some (some u) => some u
  | _ => none
def lrU (h : Hm) : U → Res
  | .int j => if -(2 ^ 62) ≤ j ∧ j ≤ 16777216 then newL h ((List.range j.toNat).map fun i : Nat => .int (i : Int)) else none
  | _ => none
section
variable (C : Calls)
mutual
def evE : Ex → Env → Hm → Res
  | .var i, σ, h => ob (getE σ i) fun u => some (u, h)
  | .int i, _, h => some (.int i, h)
  | .bl b, _, h => some (.bl b, h)
  | .non, _, h => some (.non, h)
  | .str s, _, h => some (.str s, h)
  | .bin op a b, σ, h => bd (evE a σ h) fun x h1 => bd (evE b σ h1) fun y h2 => binU h2 op x y
  | .neg a, σ, h => bd (evE a σ h) fun x h1 => ob (negU x) fun u => some (u, h1)
  | .not a, σ, h => bd (evE a σ h) fun x h1 => ob (notU x) fun u => some (u, h1)
  | .and a b, σ, h => bd (evE a σ h) fun x h1 => bf x (evE b σ h1) (some (.bl false, h1))
  | .or a b, σ, h => bd (evE a σ h) fun x h1 => bf x (some (.bl true, h1)) (evE b σ h1)
  | .ite c a b, σ, h => bd (evE c σ h) fun x h1 => bf x (evE a σ h1) (evE b σ h1)
  | .cmp op a b, σ, h => bd (evE a σ h) fun x h1 => bd (evE b σ h1) fun y h2 => ob (cmpU h2 op x y) fun r => some (.bl r, h2)
  | .chain op op' a b c, σ, h => bd (evE a σ h) fun x h1 => bd (evE b σ h1) fun y h2 => ob (cmpU h2 op x y) fun r =>
      bf (.bl r) (bd (evE c σ h2) fun z h3 => ob (cmpU h3 op' y z) fun r => some (.bl r, h3)) (some (.bl false, h2))
  | .list es, σ, h => bd (evEs es σ h) fun us h1 => newL h1 us
  | .tup es, σ, h => bd (evEs es σ h) fun us h1 => newT h1 us
  | .sub a i, σ, h => bd (evE a σ h) fun x h1 => bd (evE i σ h1) fun y h2 => ob (subU h2 x y) fun u => some (u, h2)
  | .slice a fl fh lo hi, σ, h => bd (evE a σ h) fun x h1 => bd (evE lo σ h1) fun l h2 => bd (evE hi σ h2) fun r h3 => sliceU h3 x fl fh l r
  | .rev a, σ, h => bd (evE a σ h) fun x h1 => ob (rdL h1 x) fun xs => some (.ref h1.n, h1.push (.lst xs.reverse))
  | .call f es dv, σ, h => bd (evEs es σ h) fun us h1 => C f (us ++ dv) h1
  | .callk f es ks _ pm, σ, h => bd (evEs es σ h) fun us h1 => bd (evEs ks σ h1) fun ws h2 => C f (pm.map fun i => (us ++ ws).getD i .non) h2
  | .bi b es, σ, h => bd (evEs es σ h) fun us h1 => biU h1 b us
  | .isi a t, σ, h => bd (evE a σ h) fun x h1 => ob (isTy h1 x t) fun r => some (.bl r, h1)
  | .isi2 a ts, σ, h => bd (evE a σ h) fun x h1 => ob (isTys h1 x ts) fun r => some (.bl r, h1)
  | .meth m o es, σ, h => bd (evE o σ h) fun x h1 => bf (.bl (meTy h1 m x)) (bd (evEs es σ h1) fun us h2 => meU h2 m x us) none
  | .lrng a, σ, h => bd (evE a σ h) fun x h1 => lrU h1 x
  | .lc own tg sk a b cond elt, σ, h => bd (evE a σ h) fun x h1 => bd (evE b σ h1) fun y h2 => ob (mkIt h2 sk x y) fun it =>
      bd (lcLoop (fun v h => ob (bindI h tg v (wipeE σ own)) fun σ1 => bd (evE cond σ1 h) fun c h3 => bf c (bd (evE elt σ1 h3) fun z h4 => some ([z], h4)) (some ([], h3))) it (it.cnt h2) 0 h2) fun zs h3 => newL h3 zs
  | .lc2 own vs tg sk a b cond tg1 sk1 a1 b1 cond1 elt, σ, h => bd (evE a σ h) fun x h1 => bd (evE b σ h1) fun y h2 => ob (mkIt h2 sk x y) fun it =>
      bd (lcLoop (fun v h => ob (bindI h tg v (wipeE σ own)) fun σ1 => bd (evE cond σ1 h) fun c h3 => bf c
        (bd (evE a1 σ1 h3) fun x h1 => bd (evE b1 σ1 h1) fun y h2 => ob (mkIt h2 sk1 x y) fun it =>
          lcLoop (fun v h => ob (bindI h tg1 v (wipeE σ1 vs)) fun σ2 => bd (evE cond1 σ2 h) fun c h3 => bf c (bd (evE elt σ2 h3) fun z h4 => some ([z], h4)) (some ([], h3))) it (it.cnt h2) 0 h2)
        (some ([], h3))) it (it.cnt h2) 0 h2) fun zs h3 => newL h3 zs
def evEs : Exs → Env → Hm → Option (List U × Hm)
  | .nil, _, h => some ([], h)
  | .cons e es, σ, h => bd (evE e σ h) fun u h1 => bd (evEs es σ h1) fun us h2 => some (u :: us, h2)
end
mutual
def exS : Sm → Env → Hm → ResS
  | .pass, σ, h => some (.nx, σ, h)
  | .ex e, σ, h => bd (evE C e σ h) fun _ h1 => some (.nx, σ, h1)
  | .set i e, σ, h => bd (evE C e σ h) fun u h1 => some (.nx, σ.set i (some u), h1)
  | .par is es, σ, h => bd (evEs C es σ h) fun us h1 => ob (setAll is us σ) fun σ1 => some (.nx, σ1, h1)
  | .asg t e, σ, h => bd (evE C e σ h) fun u h1 => ob (bindT h1 t u σ) fun σ1 => some (.nx, σ1, h1)
  | .setsub o i e, σ, h => bd (evE C e σ h) fun v h1 => bd (evE C o σ h1) fun x h2 => bd (evE C i σ h2) fun y h3 => ob (setU h3 x y v) fun h4 => some (.nx, σ, h4)
  | .parsub o i o' i' es, σ, h => bd (evEs C es σ h) fun us h1 => match us with
    | [v, w] => bd (evE C o σ h1) fun x h2 => bd (evE C i σ h2) fun y h3 => ob (setU h3 x y v) fun h4 =>
        bd (evE C o' σ h4) fun x h2 => bd (evE C i' σ h2) fun y h3 => ob (setU h3 x y w) fun h4 => some (.nx, σ, h4)
    | _ => none
  | .aug i op e, σ, h => ob (getE σ i) fun x => bd (evE C e σ h) fun y h1 => ob (augU op x y) fun z => some (.nx, σ.set i (some z), h1)
  | .ite c a b, σ, h => bd (evE C c σ h) fun x h1 => bf x (exSs a σ h1) (exSs b σ h1)
  | .for tg sk a b body, σ, h => bd (evE C a σ h) fun x h1 => bd (evE C b σ h1) fun y h2 => ob (mkIt h2 sk x y) fun it =>
      forLoop (fun v σ h => ob (bindI h tg v σ) fun σ1 => exSs body σ1 h) it (it.cnt h2) 0 σ h2
  | .while c body, σ, h => whLoop (evE C c) (exSs body) whMost σ h
  | .ret e, σ, h => bd (evE C e σ h) fun u h1 => some (.rt u, σ, h1)
  | .retn, σ, h => some (.rt .non, σ, h)
  | .raise, _, _ => none
  | .brk, σ, h => some (.bk, σ, h)
  | .cnt, σ, h => some (.ct, σ, h)
  | .mut1 m i es, σ, h => bd (evE C (.meth m (.var i) es) σ h) fun _ h1 => some (.nx, σ, h1)
  | .mut2 m i a es, σ, h => bd (evE C (.meth m (.sub (.var i) a) es) σ h) fun _ h1 => some (.nx, σ, h1)
  | .st1 i a e, σ, h => bd (evE C e σ h) fun v h1 => bd (evE C (.var i) σ h1) fun x h2 => bd (evE C a σ h2) fun y h3 => ob (setU h3 x y v) fun h4 => some (.nx, σ, h4)
  | .st2 i a b e, σ, h => bd (evE C e σ h) fun v h1 => bd (evE C (.sub (.var i) a) σ h1) fun x h2 => bd (evE C b σ h2) fun y h3 => ob (setU h3 x y v) fun h4 => some (.nx, σ, h4)
  | .sw i a j b es, σ, h => bd (evEs C es σ h) fun us h1 => match us with
    | [v, w] => bd (evE C (.var i) σ h1) fun x h2 => bd (evE C a σ h2) fun y h3 => ob (setU h3 x y v) fun h4 =>
        bd (evE C (.var j) σ h4) fun x h2 => bd (evE C b σ h2) fun y h3 => ob (setU h3 x y w) fun h4 => some (.nx, σ, h4)
    | _ => none
  | .popto i j, σ, h => bd (evE C (.meth .pop (.var j) .nil) σ h) fun u h1 => some (.nx, σ.set i (some u), h1)
  | .mv i j, σ, h => bd (evE C (.var j) σ h) fun u h1 => some (.nx, σ.set i (some u), h1)
  | .mutv i j, σ, h => bd (evE C (.meth .append (.var i) (.cons (.var j) .nil)) σ h) fun _ h1 => some (.nx, σ, h1)
  | .spoil _ s, σ, h => exS s σ h
def exSs : Sms → Env → Hm → ResS
  | .nil, σ, h => some (.nx, σ, h)
  | .cons s r, σ, h => bs (exS s σ h) fun σ1 h1 => exSs r σ1 h1
end
end
structure Df where
  np : Nat
  ns : Nat
  body : Sms
def startE (d : Df) (us : List U) : Env := us.map some ++ List.replicate (d.ns - us.length) none
def runD (C : Calls) (d : Df) (us : List U) (h : Hm) : Res :=
  if us.length = d.np then
    match exSs C d.body (startE d us) h with
    | some (.rt u, _, h1) => some (u, h1)
    | some (.nx, _, h1) => some (.non, h1)
    | _ => none
  else none
def callN (P : Nat → Option Df) : Nat → Calls
  | 0, _, _, _ => none
  | k + 1, f, us, h => match P f with
    | some d => runD (callN P k) d us h
    | none => none
end Mi

set_option maxRecDepth 100000
/-! Mi, part B0: promises of defs that are entered where no repr is under way. -/
namespace Mi
open PySem PySem.Spec PyProof.Rows L2
structure FnG (P : Program) (w : World) (K : PySem.W.Frag) (mg : Str → Option Value) (bs : Heap) (CX : CXT) (k : Nat) (f : Addr) (fd : FuncData) (ps : List Str) (sp : Sp) : Prop where
  ln : ∀ ws G R T, sp ws G R T → ws.length = ps.length
  go : ∀ (A : Around) (up : List PySem.Env) (s : Shared) (G : Hp) (gs : Args) (us : List Value) (ws : List V) (R : VK) (T : XK), A.guards = some [] → Room k A → Env0 P w K mg bs A up s G → BindsTo s fd gs (ps.zip us) → Vals ws us → sp ws G R T →
    codeAny (model P w) A (.call (.ref f) gs) (CR CX up P w G s R T) s
section
variable {X : Cx} {CX : CXT} {k n : Nat} {f : Addr} {fd : FuncData} {ps ks : List Str} {sp : Sp} {dvs : List V} {ds : List Value} {T : XK} {x : Str} {p pos : Pos} {e : Expr} {es : List Expr} {kws : List Keyword} {t tk : TA} {g : List Value → List Value → List Value} {gV : List V → List V → List V}
/-- what is wanted behind the callee -/
def EndG (X : Cx) (pins : List (Addr × Obj)) (σ : L2.St) (R : VK) (r : Result) (s' : Shared) : Prop :=
  match r with
  | .ok (.ret u) => EP X pins σ R u s'
  | .ok _ => False
  | .error e => X.xe e s'
theorem behind {pins : List (Addr × Obj)} {σ : L2.St} {G : Hp} {s : Shared} {R : VK} {r : Result} {s' : Shared} (hx : Passes CX X T) (I : Inv X pins σ G s) (q : CR CX X.stack X.prog X.w G s R T r s') : EndG X pins σ R r s' := by
  cases r with
  | error z => exact hx pins σ G s z s' I q
  | ok fl => cases fl with
    | ret u => exact I.after q
    | next => exact q.elim
    | brk => exact q.elim
    | cont => exact q.elim
theorem goG {pins : List (Addr × Obj)} {σ : L2.St} {G : Hp} {s : Shared} {R : VK} {gs : Args} {us : List Value} {ws : List V} (F : FnG X.prog X.w X.K X.mg X.base CX k f fd ps sp) (hr : Room k X.A) (gd : X.A.guards = some []) (hx : Passes CX X T)
    (I : Inv X pins σ G s) (b : BindsTo s fd gs (ps.zip us)) (r : Vals ws us) (q : sp ws G R T) : codeAny (model X.prog X.w) X.A (.call (.ref f) gs) (EndG X pins σ R) s :=
  codeAny_mono (F.go X.A X.stack s G gs us ws R T gd hr I.env0 b r q) fun r s' z => behind hx I z
theorem wpG {pins : List (Addr × Obj)} {σ : L2.St} {R : VK} {s : Shared} {v : Value} {us : List Value} {kw : List (Str × Value)}
    (h : codeAny (model X.prog X.w) X.A (.call v ⟨us, kw⟩) (EndG X pins σ R) s) : wpAny (model X.prog X.w) X.A (call v us kw) (EP X pins σ R) X.xe s :=
  wpAny_call (codeAny_mono h fun r s' z => by
    cases r with
    | error _ => exact z
    | ok fl => cases fl with
      | ret _ => exact z
      | next => exact z.elim
      | brk => exact z.elim
      | cont => exact z.elim)
theorem pe_callG (F : FnG X.prog X.w X.K X.mg X.base CX k f fd ps sp) (hr : Room k X.A) (gd : X.A.guards = some []) (hg : Gl X x) (hm : X.mg x = some (.ref f)) (kp : PySem.W.keepIn X.K (.ref f) = true) (hb : Binds X.K fd ps ds) (hd : Vals dvs ds) (hx : Passes CX X T)
    (ha : PA X (e :: es) t) (d1 : (x == ("__debug__" : Str)) = false) (h4 : starEach (e :: es) X.env = (false, eval e X.env) :: starEach es X.env) (h5 : (backTo pos (starEach es X.env)).any (·.1) = false) : PE X (.Call (.Name x p) (e :: es) [] pos) (tCall sp dvs T t) := by
  constructor
  intro pins s σ G R I h
  refine wpAny_Call_Name_kw (ld_glob I hg hm (PySem.W.callWith_K (h₀ := X.base) I.ok.mod.kin kp (thn (ha.run pos pins s σ G _ I h) ?_) h4 h5) d1)
  rintro us s1 ⟨ws, G1, I1, r, q⟩
  have r2 : Vals (ws ++ dvs) (us ++ ds) := r.append hd
  exact ⟨I1.kIn, wpG (goG F hr gd hx I1 (hb s1 us I1.kIn ((r2.length.symm).trans (F.ln _ _ _ _ q))) r2 q)⟩
theorem pe_callG00 (F : FnG X.prog X.w X.K X.mg X.base CX k f fd ps sp) (hr : Room k X.A) (gd : X.A.guards = some []) (hg : Gl X x) (hm : X.mg x = some (.ref f)) (kp : PySem.W.keepIn X.K (.ref f) = true) (hb : Binds X.K fd ps ds) (hd : Vals dvs ds) (hx : Passes CX X T)
    (d1 : (x == ("__debug__" : Str)) = false) : PE X (.Call (.Name x p) [] [] pos) (tCall sp dvs T tNil) := by
  constructor
  intro pins s σ G R I h
  have q : sp ([] ++ dvs) G R T := h
  have r2 : Vals ([] ++ dvs) ([] ++ ds) := by simpa using hd
  exact wpAny_Call_Name_kw (ld_glob I hg hm (PySem.W.callWith_K0 I.kIn kp (wpG (goG F hr gd hx I (hb s [] I.kIn ((r2.length.symm).trans (F.ln _ _ _ _ q))) r2 q))) d1)
theorem goGN {pins : List (Addr × Obj)} {σ : L2.St} {G : Hp} {s : Shared} {R : VK} {us ws : List Value} {vs zs : List V} (F : FnG X.prog X.w X.K X.mg X.base CX k f fd ps sp) (hr : Room k X.A) (gd : X.A.guards = some []) (hb : KBn X.K fd ps n ks g gV) (hx : Passes CX X T)
    (I : Inv X pins σ G s) (r : Vals vs us) (rz : Vals zs ws) (l1 : vs.length = n) (l2 : zs.length = ks.length) (q : sp (gV vs zs) G R T) : wpAny (model X.prog X.w) X.A (call (.ref f) us (ks.zip ws)) (EP X pins σ R) X.xe s :=
  wpG (goG F hr gd hx I (hb.to s us ws I.kIn (by rw [← r.length, l1]) (by rw [← rz.length, l2])) (hb.rel r rz) q)
theorem pe_callGN (F : FnG X.prog X.w X.K X.mg X.base CX k f fd ps sp) (hr : Room k X.A) (gd : X.A.guards = some []) (hg : Gl X x) (hm : X.mg x = some (.ref f)) (kp : PySem.W.keepIn X.K (.ref f) = true) (hb : KBn X.K fd ps n ks g gV) (hx : Passes CX X T)
    (ha : PA X (e :: es) t) (hkw : PK X kws tk) (h1 : (backToKw pos (keywordEach kws X.env)).all (·.1.isSome) = true) (h2 : (backToKw pos (keywordEach kws X.env)).filterMap (·.1) = ks)
    (d1 : (x == ("__debug__" : Str)) = false) (h4 : starEach (e :: es) X.env = (false, eval e X.env) :: starEach es X.env)
    (h5 : ((backTo pos (starEach (e :: es) X.env)).any (·.1) || (backToKw pos (keywordEach kws X.env)).any (·.1.isNone)) = false) : PE X (.Call (.Name x p) (e :: es) kws pos) (tCallN n ks.length sp gV T t tk) := by
  constructor
  intro pins s σ G R I h
  refine wpAny_Call_Name_kw (ld_glob I hg hm (PySem.W.callWith_KW (h₀ := X.base) I.ok.mod.kin kp h1 (thn (ha.run pos pins s σ G _ I h) ?_) h5 h4) d1)
  rintro us s1 ⟨vs, G1, I1, r, q⟩
  refine thn (hkw.run pos pins s1 σ G1 _ I1 q) ?_
  rintro ws s2 ⟨zs, G2, I2, rz, l1, l2, q2⟩
  refine ⟨I2.kIn, ?_⟩
  rw [h2]
  exact goGN F hr gd hb hx I2 r rz l1 l2 q2
theorem pe_callG0 (F : FnG X.prog X.w X.K X.mg X.base CX k f fd ps sp) (hr : Room k X.A) (gd : X.A.guards = some []) (hg : Gl X x) (hm : X.mg x = some (.ref f)) (kp : PySem.W.keepIn X.K (.ref f) = true) (hb : KBn X.K fd ps 0 ks g gV) (hx : Passes CX X T)
    (hkw : PK X kws tk) (h1 : (backToKw pos (keywordEach kws X.env)).all (·.1.isSome) = true) (h2 : (backToKw pos (keywordEach kws X.env)).filterMap (·.1) = ks)
    (d1 : (x == ("__debug__" : Str)) = false) (h5 : ((backTo pos (starEach [] X.env)).any (·.1) || (backToKw pos (keywordEach kws X.env)).any (·.1.isNone)) = false) :
    PE X (.Call (.Name x p) [] kws pos) (tCallN 0 ks.length sp gV T tNil tk) := by
  constructor
  intro pins s σ G R I h
  refine wpAny_Call_Name_kw (ld_glob I hg hm (PySem.W.callWith_KW0 (h₀ := X.base) I.ok.mod.kin kp h1 (thn (hkw.run pos pins s σ G _ I h) ?_) h5) d1)
  rintro ws s2 ⟨zs, G2, I2, rz, l1, l2, q2⟩
  refine ⟨I2.kIn, ?_⟩
  rw [h2]
  exact goGN (us := []) F hr gd hb hx I2 .nil rz l1 l2 q2
end
/-- a def by its body -/
theorem fnG_of {CX : CXT} {P : Program} {w : World} {K : PySem.W.Frag} {mg : Str → Option Value} {bs : Heap} {k : Nat} {f : Addr} {nm qual : Str} {prm : Arguments} {body : List Stmt} {sco : Scope} {z1 z2 z3 z4 cd z5 oc : Value} {an od : Option Addr}
    {sl : Array (Option Value)} {N ps : List Str} {sp : Sp} (lk : K.lookup f = some ⟨oc, od, .func (PySem.W.fnOf nm qual prm body sco z1 z2 z3 z4 an cd z5), sl⟩) (hc : PySem.W.codeIn K cd qual = true) (S : FnScope N ps sco)
    (ln : ∀ ws G R T, sp ws G R T → ws.length = ps.length)
    (hb : ∀ (A : Around) (up : List PySem.Env) (s : Shared) (G : Hp) (ws : List V) (R : VK) (T : XK), A.guards = some [] → Room k (A.deeper (envOfC qual sco s.heap.objs.size f cd)) → sp ws G R T →
      ∃ t, PSs (cxOf CX P w K mg bs N qual sco f cd A up s G T) body t ∧ t { nx := fun _ G' => R .non G', rt := R } (L2.start N ws) G) :
    FnG P w K mg bs CX (k + 1) f (PySem.W.fnOf nm qual prm body sco z1 z2 z3 z4 an cd z5) ps sp := by
  refine ⟨ln, fun A up s G gs us ws R T gd hr e0 b r q => ?_⟩
  have keep : ∀ b o, bs.get? b = some o → s.heap.get? b = some o := fun b o z => (e0.bs b o z).1
  have hk : ∀ y ∈ ps.zip us, sco.names.lookup y.1 = some .local ∨ (sco.names.lookup y.1 = some .cell ∧ ((cellsFrom (s.heap.objs.size + 1) sco.names []).lookup y.1).isSome = true) := by
    rintro ⟨y, v⟩ hy
    exact (S.par y (List.of_mem_zip hy).1).imp id fun z => ⟨z, PySem.W.cellsFrom_some _ _ _ (.inl z)⟩
  refine codeAny_call_function hr.depth (e0.mod.kin.keeps keep _ _ lk) rfl S.co S.gen rfl (PySem.W.codeRec_of (e0.mod.kin.keeps keep) hc) (b _ _ _ _ (wpAny_newFunctionEnv_cells S.kind hk ?_))
  intro env he s1 x
  subst he
  refine ⟨(e0.mod.nolimit.keeps keep).keeps x.toInCall.keep, codeAny_func ?_⟩
  obtain ⟨t, h1, h2⟩ := hb A up s G ws R T gd (hr.deeper _) q
  refine wpAny_mono (h1.run [] s1 (L2.start N ws) G _ (inv_start S hr.hd e0 (ln _ _ _ _ q) r x) h2) (fun fl s' z => ?_) fun _ _ z => z
  cases fl with
  | ret u => obtain ⟨v, _, G', J, rv, q'⟩ := z; exact ⟨v, G', J.os, J.bare, J.base, J.hok, rv, q'⟩
  | next => obtain ⟨_, G', J, q'⟩ := z; exact ⟨.non, G', J.os, J.bare, J.base, J.hok, rfl, q'⟩
  | brk => exact z.elim fun _ z => z.elim fun _ z => z.2.elim
  | cont => exact z.elim fun _ z => z.elim fun _ z => z.2.elim
end Mi
namespace Mi
open PySem PySem.Spec PyProof.Rows L2
/-- the script in an abstract heap -/
def HpS (K : PySem.W.Frag) (a : Addr) (vs : List Value) (ns : List Int) : Hp := fun b =>
  if (K.lookup a).isNone = true ∧ b = a then some (.frz { cls := .type "list", data := .seq vs.toArray } (.lst (ns.map V.int))) else none
theorem HpS_at {K : PySem.W.Frag} {a : Addr} {vs : List Value} {ns : List Int} {b : Addr} {u : HO} (h : HpS K a vs ns b = some u) : K.lookup a = none ∧ b = a ∧ u = .frz { cls := .type "list", data := .seq vs.toArray } (.lst (ns.map V.int)) := by
  unfold HpS at h
  by_cases q : (K.lookup a).isNone = true ∧ b = a
  · rw [if_pos q] at h
    cases h
    exact ⟨Option.isNone_iff_eq_none.mp q.1, q.2, rfl⟩
  · rw [if_neg q] at h
    cases h
theorem lawG {P : Program} {w : World} {K : PySem.W.Frag} {mg mb : Str → Option Value} {CX : CXT} {k : Nat} {fa a : Addr} {fd : FuncData} {x : Str} {sp : Sp} {s1 : Shared} {vs : List Value} {ns : List Int}
    (KX : K.In s1.heap) (g1 : s1.heap.Ns mainGlobals mg) (g2 : s1.heap.Ns builtinsNs mb) (g3 : ∀ y : Str, y ≠ "__name__" → mb y = bootBuiltins y) (g4 : s1.heap.NoLimit) (g5 : s1.gens = #[])
    (ha : s1.heap.get? a = some { cls := .type "list", data := .seq vs.toArray }) (hi : IntsAre vs ns) (hz : ns.length ≤ sizeLine) (hr : Room k callerA)
    (F : ∀ bs : Heap, K.In bs → bs.Ns mainGlobals mg → FnG P w K mg bs CX k fa fd [x] sp) (hb : ∀ (s : Shared) (u : Value), BindsTo s fd ⟨[u], []⟩ [(x, u)])
    (hq : ∀ G : Hp, Only G → SqL K G a (ns.map V.int) → sp [.ref a] G (fun v _ => v = .bl true) fun _ _ _ => False) (hc : ∀ G e s', CX [] G s1 (fun _ _ _ => False) e s' → False) :
    codeAny (model P w) callerA (.call (.ref fa) ⟨[.ref a], []⟩) (fun r s' => r = .ok (.ret (.bool true)) ∧ OldK s1.heap s'.heap ∧ s'.os = s1.os ∧ AllBare s'.gens) s1 := by
  have rv := vals_ints hi
  have lv := hi.length
  obtain ⟨G, hG⟩ : ∃ G, G = HpS K a vs ns := ⟨_, rfl⟩
  have at' : ∀ {b : Addr} {u : HO}, G b = some u → K.lookup a = none ∧ b = a ∧ u = .frz { cls := .type "list", data := .seq vs.toArray } (.lst (ns.map V.int)) := fun {b u} h => HpS_at (by rw [← hG]; exact h)
  have only : Only G := fun b => by
    cases h : G b with
    | none => exact .inl rfl
    | some u =>
      obtain ⟨_, _, e⟩ := at' h
      exact .inr ⟨_, _, by rw [e]⟩
  have seq : SqL K G a (ns.map V.int) := by
    cases h : K.lookup a with
    | some o =>
      have e := KX a o h
      rw [ha] at e
      cases e
      exact .inr ⟨_, vs.toArray, _, h, rfl, rfl, rfl, by rw [List.size_toArray, lv]; exact hz, by simpa using rv⟩
    | none =>
      refine .inl (.inr ⟨{ cls := .type "list", data := .seq vs.toArray }, ?_⟩)
      rw [hG]
      exact if_pos ⟨by rw [h]; rfl, rfl⟩
  have ok : HOk P w G s1.heap := fun b u h => by
    obtain ⟨_, rfl, rfl⟩ := at' h
    exact ⟨ha, by rw [List.length_map]; exact hz, vs, _, rv, ha⟩
  have up : ∀ {b : Addr} {o : Obj}, s1.heap.get? b = some o → G b = none → (hidT s1.heap G).get? b = some o := fun {b o} e n => hidT_get e n
  have nd : ∀ {b : Addr} {o : Obj} {es : Array DictEntry} {ep : Nat}, s1.heap.get? b = some o → o.data = .dict es ep → G b = none := fun {b o es ep} e d => by
    cases h : G b with
    | none => rfl
    | some u =>
      obtain ⟨_, rfl, _⟩ := at' h
      rw [ha] at e
      cases e
      exact absurd d (fun z => by cases z)
  have nsK : ∀ {b : Addr} {m : Str → Option Value}, s1.heap.Ns b m → (hidT s1.heap G).Ns b m := fun {b m} q => by
    obtain ⟨o, es, ep, e, d, r⟩ := q
    exact ⟨o, es, ep, up e (nd e d), d, r⟩
  have kB : K.In (hidT s1.heap G) := fun b o e => by
    refine up (KX b o e) ?_
    cases h : G b with
    | none => rfl
    | some u =>
      obtain ⟨hn, rfl, _⟩ := at' h
      rw [hn] at e; cases e
  have hm : Mod K mg (hidT s1.heap G) := by
    obtain ⟨mc, q1, q2⟩ := g4
    exact ⟨kB, nsK g1, ⟨mb, nsK g2, g3⟩, mc, nsK q1, q2⟩
  have e0 : Env0 P w K mg (hidT s1.heap G) callerA [] s1 G :=
    ⟨rfl, hm, fun b o e => of_hidT e, Nat.le_of_eq (hidT_size _ _), trivial, fun b z => absurd (show b ∈ ([] : List Addr) from z) List.not_mem_nil, ok, .of_eq g5⟩
  refine codeAny_mono ((F _ kB (nsK g1)).go callerA [] s1 G ⟨[.ref a], []⟩ [.ref a] [.ref a] _ _ rfl hr e0 (hb s1 (.ref a)) (.cons rfl .nil) (hq G only seq)) ?_
  intro r s' z
  cases r with
  | error e => exact (hc G e s' z).elim
  | ok fl => cases fl with
    | next => exact z.elim
    | brk => exact z.elim
    | cont => exact z.elim
    | ret u =>
      obtain ⟨v, G', os, bare, un, ok', rr, (rfl : v = .bl true)⟩ := z
      obtain rfl : u = Value.bool true := rr
      refine ⟨rfl, OldK.of_keep fun b o e => ?_, os, bare⟩
      cases h : G b with
      | none => exact un.keep b o e h (fun z => absurd (show b ∈ ([] : List Addr) from z) List.not_mem_nil) (by simp)
      | some u =>
        obtain ⟨_, _, rfl⟩ := at' h
        have z1 := (ok b _ h).1
        have z2 := (ok' b _ (un.frzs b _ _ h)).1
        rw [e] at z1
        cases z1
        exact z2
theorem walkG {l : PySem.W.OpenLaw} {n k : Nat} {q : Program} {loose : List Str} {XP : (Str → Option Value) → Heap → Prop} {YP : World → Heap → Prop} {d : DefRec} {K : Params → PySem.W.Frag} {CX : World → CXT} {sp : World → Sp} {x : Str}
    (hn : l.most = some n) (hz : n ≤ sizeLine) (df : d.params.defaults = []) (hr : Room k callerA) (hY : ∀ (w : World) (h : Heap), YP w h → (K w.params).In h)
    (F : ∀ (w : World) (mg : Str → Option Value) (fa : Addr) (h : Heap), (K w.params).In h → h.Ns mainGlobals mg → mg d.name = some (.ref fa) →
      ∃ fd : FuncData, (∀ (s : Shared) (u : Value), BindsTo s fd ⟨[u], []⟩ [(x, u)]) ∧ ∀ bs : Heap, (K w.params).In bs → bs.Ns mainGlobals mg → FnG l.prog w (K w.params) mg bs (CX w) k fa fd [x] (sp w))
    (hq : ∀ (w : World) (G : Hp) (a : Addr) (ns : List Int), ns.length ≤ n → (∀ z ∈ ns, Builtin.Int.intBits z ≤ 1048576) → Only G → SqL (K w.params) G a (ns.map V.int) → sp w [.ref a] G (fun v _ => v = .bl true) fun _ _ _ => False)
    (hc : ∀ (w : World) (G : Hp) (s : Shared) (e : Value) (s' : Shared), CX w [] G s (fun _ _ _ => False) e s' → False) :
    PySem.W.WalkO q loose XP YP l.row.toRowW d [] (fun f vs => PySem.call f vs) := by
  refine Att.attach_callB hn df ?_
  intro w s0 s1 mg mb fa o pm cd doc a vs ns G Y ho hd hcd hmg hobj hints hlen hbits hg
  obtain ⟨fd, b, hF⟩ := F w mg fa _ (hY w _ Y) G.T.g hmg
  exact lawG (hY w _ Y) G.T.g G.T.b G.T.builtins G.T.nolimit hg hobj hints (Nat.le_trans hlen hz) hr hF b (fun H hO hS => hq w H a ns hlen hbits hO hS) fun H e s' => hc w H s1 e s'
end Mi

set_option maxRecDepth 100000
/-! Mi, part B1: how the small heap stands in the hand layer's heap. -/
namespace Mi
open PySem L2

def RU (ρ : List Addr) : U → V → Prop
  | .non, v => v = .non
  | .bl b, v => v = .bl b
  | .int i, v => v = .int i
  | .str s, v => v = .str s
  | .ref n, v => ∃ p, ρ[n]? = some p ∧ v = .ref p
abbrev RUs (ρ : List Addr) : List U → List V → Prop := Paired (RU ρ)
def RUo (ρ : List Addr) : Option U → Option V → Prop
  | some u, some v => RU ρ u v
  | none, _ => True
  | some _, none => False
abbrev REnv (ρ : List Addr) : Env → St → Prop := Paired (RUo ρ)
theorem pre_get {ρ ρ' : List Addr} (h : ρ <+: ρ') {n : Nat} {p : Addr} (e : ρ[n]? = some p) : ρ'[n]? = some p := by
  obtain ⟨t, rfl⟩ := h
  have := (List.getElem?_eq_some_iff.mp e).1
  rw [List.getElem?_append_left this, e]
theorem RU.mono {ρ ρ' : List Addr} (h : ρ <+: ρ') : ∀ {u : U} {v : V}, RU ρ u v → RU ρ' u v
  | .non, _, r => r
  | .bl _, _, r => r
  | .int _, _, r => r
  | .str _, _, r => r
  | .ref _, _, ⟨p, e, q⟩ => ⟨p, pre_get h e, q⟩
theorem RUs.mono {ρ ρ' : List Addr} (h : ρ <+: ρ') {us : List U} {vs : List V} (r : RUs ρ us vs) : RUs ρ' us vs := L2.Paired.mapP r fun _ _ => RU.mono h
theorem RUo.mono {ρ ρ' : List Addr} (h : ρ <+: ρ') : ∀ {u : Option U} {v : Option V}, RUo ρ u v → RUo ρ' u v
  | some _, some _, r => RU.mono h r
  | none, _, _ => trivial
theorem REnv.mono {ρ ρ' : List Addr} (h : ρ <+: ρ') {us : Env} {vs : St} (r : REnv ρ us vs) : REnv ρ' us vs := L2.Paired.mapP r fun _ _ => RUo.mono h

section paired
variable {α β : Type} {F : α → β → Prop}
theorem pd_get : ∀ {xs : List α} {ys : List β} {i : Nat} {x : α}, Paired F xs ys → xs[i]? = some x → ∃ y, ys[i]? = some y ∧ F x y
  | _, _, _, _, .nil, e => by simp at e
  | _, _, 0, _, .cons r _, e => by simp at e; subst e; exact ⟨_, rfl, r⟩
  | _, _, i + 1, x, .cons _ t, e => by
    obtain ⟨u, h1, h2⟩ := pd_get (i := i) (x := x) t (by simpa using e)
    exact ⟨u, by simpa using h1, h2⟩
theorem pd_none {xs : List α} {ys : List β} {i : Nat} (r : Paired F xs ys) (e : xs[i]? = none) : ys[i]? = none := by
  have := r.length
  have h2 := List.getElem?_eq_none_iff.mp e
  exact List.getElem?_eq_none_iff.mpr (by omega)
theorem pd_append : ∀ {xs xs' : List α} {ys ys' : List β}, Paired F xs ys → Paired F xs' ys' → Paired F (xs ++ xs') (ys ++ ys')
  | _, _, _, _, .nil, s => s
  | _, _, _, _, .cons r t, s => .cons r (pd_append t s)
theorem pd_set {x : α} {y : β} (r : F x y) : ∀ {xs : List α} {ys : List β} (i : Nat), Paired F xs ys → Paired F (xs.set i x) (ys.set i y)
  | _, _, _, .nil => .nil
  | _, _, 0, .cons _ t => .cons r t
  | _, _, i + 1, .cons q t => .cons q (pd_set r i t)
theorem pd_take : ∀ {xs : List α} {ys : List β} (n : Nat), Paired F xs ys → Paired F (xs.take n) (ys.take n)
  | _, _, 0, _ => .nil
  | _, _, _ + 1, .nil => .nil
  | _, _, n + 1, .cons r t => .cons r (pd_take n t)
theorem pd_drop : ∀ {xs : List α} {ys : List β} (n : Nat), Paired F xs ys → Paired F (xs.drop n) (ys.drop n)
  | _, _, 0, r => r
  | _, _, _ + 1, .nil => .nil
  | _, _, n + 1, .cons _ t => pd_drop n t
theorem pd_rev : ∀ {xs : List α} {ys : List β}, Paired F xs ys → Paired F xs.reverse ys.reverse
  | _, _, .nil => .nil
  | _, _, .cons r t => by
    rw [List.reverse_cons, List.reverse_cons]
    exact pd_append (pd_rev t) (.cons r .nil)
theorem pd_rep {xs : List α} {ys : List β} (r : Paired F xs ys) : ∀ k : Nat, Paired F (List.replicate k xs).flatten (List.replicate k ys).flatten
  | 0 => .nil
  | k + 1 => by
    rw [List.replicate_succ, List.replicate_succ, List.flatten_cons, List.flatten_cons]
    exact pd_append r (pd_rep r k)
theorem pd_dropLast {xs : List α} {ys : List β} (r : Paired F xs ys) : Paired F xs.dropLast ys.dropLast := by
  rw [List.dropLast_eq_take, List.dropLast_eq_take, r.length]
  exact pd_take _ r
theorem pd_erase : ∀ {xs : List α} {ys : List β} (i : Nat), Paired F xs ys → Paired F (xs.eraseIdx i) (ys.eraseIdx i)
  | _, _, _, .nil => .nil
  | _, _, 0, .cons _ t => t
  | _, _, i + 1, .cons q t => .cons q (pd_erase i t)
theorem pd_mapL {γ : Type} {f : γ → α} {g : γ → β} (h : ∀ c, F (f c) (g c)) : ∀ l : List γ, Paired F (l.map f) (l.map g)
  | [] => .nil
  | c :: r => .cons (h c) (pd_mapL h r)
end paired
theorem pd_len {α β : Type} {F : α → β → Prop} {xs : List α} {ys : List β} (r : Paired F xs ys) : xs.length = ys.length := r.length

section
variable {K : PySem.W.Frag} {ρ ρ' : List Addr} {h : Hm} {H H' : Hp}
def KL (K : PySem.W.Frag) (a : Addr) (xs : List V) : Prop :=
  ∃ (o : Obj) (its : Array Value) (n : Nat), K.lookup a = some o ∧ o.cls = .type "list" ∧ o.dict = none ∧ o.data = .seq its n ∧ its.size ≤ sizeLine ∧ Vals xs its.toList
def RO (K : PySem.W.Frag) (ρ : List Addr) (H : Hp) (p : Addr) : Ob → Prop
  | .lst xs => ∃ vs, RUs ρ xs vs ∧ H p = some (.lst vs)
  | .tup xs => ∃ vs, RUs ρ xs vs ∧ H p = some (.tup vs)
  | .ro xs => ∃ vs, RUs ρ xs vs ∧ ((∃ o, H p = some (.frz o (.lst vs))) ∨ KL K p vs)
theorem ro_sq {p : Addr} {vs : List V} : (∃ o, H p = some (.frz o (.lst vs))) ∨ KL K p vs → SqL K H p vs
  | .inl ⟨o, q⟩ => .inl (.inr ⟨o, q⟩)
  | .inr q => .inr q
/-- the first place is the script's own; the others are unlike and tracked -/
structure Rel (K : PySem.W.Frag) (ρ : List Addr) (h : Hm) (H : Hp) : Prop where
  len : ρ.length = h.n
  nd : ρ.tail.Nodup
  tr : ∀ p ∈ ρ.tail, H p ≠ none
  s0 : ∃ xs, h.get 0 = some (.ro xs)
  ob : ∀ (i : Nat) (o : Ob) (p : Addr), h.get i = some o → ρ[i]? = some p → RO K ρ H p o
theorem RO.stay {p : Addr} (hp : ρ <+: ρ') (e : H p ≠ none → H' p = H p) : ∀ {o : Ob}, RO K ρ H p o → RO K ρ' H' p o
  | .lst _, ⟨vs, r, q⟩ => ⟨vs, r.mono hp, (e (by rw [q]; exact fun z => nomatch z)).trans q⟩
  | .tup _, ⟨vs, r, q⟩ => ⟨vs, r.mono hp, (e (by rw [q]; exact fun z => nomatch z)).trans q⟩
  | .ro _, ⟨vs, r, .inl ⟨o, q⟩⟩ => ⟨vs, r.mono hp, .inl ⟨o, (e (by rw [q]; exact fun z => nomatch z)).trans q⟩⟩
  | .ro _, ⟨vs, r, .inr q⟩ => ⟨vs, r.mono hp, .inr q⟩
theorem Rel.at (R : Rel K ρ h H) {i : Nat} {o : Ob} (e : h.get i = some o) : ∃ p, ρ[i]? = some p ∧ RO K ρ H p o := by
  have hl : i < ρ.length := by rw [R.len]; exact Hm.get_lt e
  have e2 : ρ[i]? = some ρ[i] := List.getElem?_eq_getElem hl
  exact ⟨ρ[i], e2, R.ob i o _ e e2⟩
theorem ne_in {q p : Addr} {l : List Addr} (m : q ∈ l) (n : p ∉ l) : q ≠ p := fun z => n (z ▸ m)
theorem tail_get {l : List Addr} {i : Nat} {p : Addr} (e : l[i + 1]? = some p) : l.tail[i]? = some p := by
  cases l with
  | nil => simp at e
  | cons a r => simpa using e
theorem tail_mem {l : List Addr} {i : Nat} {p : Addr} (e : l[i]? = some p) (hi : i ≠ 0) : p ∈ l.tail := by
  cases i with
  | zero => exact absurd rfl hi
  | succ i => exact List.mem_of_getElem? (tail_get e)
theorem tail_app {l : List Addr} {p q : Addr} (m : q ∈ (l ++ [p]).tail) : q ∈ l.tail ∨ q = p := by
  cases l with
  | nil => simp at m
  | cons a r =>
    rw [List.cons_append, List.tail_cons] at m
    rcases List.mem_append.mp m with m | m
    · exact .inl m
    · exact .inr (by simpa using m)
theorem tail_pre {l l' : List Addr} (h : l <+: l') {p : Addr} (m : p ∈ l.tail) : p ∈ l'.tail := by
  obtain ⟨t, rfl⟩ := h
  cases l with
  | nil => simp at m
  | cons a r =>
    rw [List.cons_append, List.tail_cons]
    exact List.mem_append_left t m
theorem Rel.ne0 (R : Rel K ρ h H) : ρ ≠ [] := fun z => by
  obtain ⟨xs, e⟩ := R.s0
  have := Hm.get_lt e
  rw [← R.len, z] at this
  cases this
theorem Rel.lst0 (R : Rel K ρ h H) {i : Nat} {us : List U} (e : h.get i = some (.lst us)) : i ≠ 0 := fun z => by
  obtain ⟨xs, e2⟩ := R.s0
  subst z
  rw [e] at e2
  cases e2
theorem Rel.tapp (R : Rel K ρ h H) (p : Addr) : (ρ ++ [p]).tail = ρ.tail ++ [p] := by
  have := R.ne0
  cases ρ with
  | nil => exact absurd rfl this
  | cons a r => rfl
theorem Rel.new (R : Rel K ρ h H) {p : Addr} (hp : H p = none) : p ∉ ρ.tail := fun m => R.tr p m hp
/-- a new object that the small heap has too -/
theorem Rel.push (R : Rel K ρ h H) {p : Addr} (hp : H p = none) {o : Ob} {u : HO} (r : RO K (ρ ++ [p]) (upd H p u) p o) : Rel K (ρ ++ [p]) (h.push o) (upd H p u) := by
  refine ⟨by rw [List.length_append, R.len]; rfl, ?_, fun q hq => ?_, ?_, fun i o' q e1 e2 => ?_⟩
  · rw [R.tapp, List.nodup_append]
    refine ⟨R.nd, by simp, fun a ha b hb => ?_⟩
    have : b = p := by simpa using hb
    subst this
    exact fun z => R.new hp (z ▸ ha)
  · rcases tail_app hq with m | m
    · rw [upd_ne (ne_in m (R.new hp))]; exact R.tr q m
    · subst m; rw [upd_same]; exact fun z => nomatch z
  · obtain ⟨xs, e⟩ := R.s0
    exact ⟨xs, by rw [Hm.get_push_lt (Hm.get_lt e)]; exact e⟩
  · rw [Hm.get_push] at e1
    by_cases hi : i = h.n
    · rw [if_pos hi] at e1
      cases e1
      rw [hi, ← R.len] at e2
      have : q = p := by simpa using e2.symm
      subst this
      exact r
    · rw [if_neg hi] at e1
      obtain ⟨q', e3, r'⟩ := R.at e1
      rw [pre_get (List.prefix_append ρ [p]) e3] at e2
      cases e2
      exact r'.stay (List.prefix_append ρ [p]) (fun z => upd_ne fun y => z (by rw [y]; exact hp))
theorem ref_last {p : Addr} (hl : ρ.length = h.n) : RU (ρ ++ [p]) (.ref h.n) (.ref p) := ⟨p, by rw [← hl]; simp, rfl⟩
theorem Rel.pushL (R : Rel K ρ h H) {p : Addr} (hp : H p = none) {us : List U} {vs : List V} (r : RUs ρ us vs) : Rel K (ρ ++ [p]) (h.push (.lst us)) (upd H p (.lst vs)) :=
  R.push hp ⟨vs, r.mono (List.prefix_append ρ [p]), upd_same⟩
theorem Rel.pushT (R : Rel K ρ h H) {p : Addr} (hp : H p = none) {us : List U} {vs : List V} (r : RUs ρ us vs) : Rel K (ρ ++ [p]) (h.push (.tup us)) (upd H p (.tup vs)) :=
  R.push hp ⟨vs, r.mono (List.prefix_append ρ [p]), upd_same⟩
/-- a new object that the small heap has not -/
theorem Rel.junk (R : Rel K ρ h H) {p : Addr} (hp : H p = none) (u : HO) : Rel K ρ h (upd H p u) :=
  ⟨R.len, R.nd, fun q m => by rw [upd_ne (ne_in m (R.new hp))]; exact R.tr q m, R.s0,
    fun i o q e1 e2 => (R.ob i o q e1 e2).stay (List.prefix_refl ρ) (fun z => upd_ne fun y => z (by rw [y]; exact hp))⟩
/-- an object outside of the small heap is changed -/
theorem Rel.out (R : Rel K ρ h H) {p : Addr} {av : List V} (hp : p ∉ ρ.tail) (hf : H p = some (.lst av)) (u : HO) : Rel K ρ h (upd H p u) := by
  refine ⟨R.len, R.nd, fun q m => by rw [upd_ne (ne_in m hp)]; exact R.tr q m, R.s0, fun i o q e1 e2 => ?_⟩
  have r := R.ob i o q e1 e2
  by_cases hq : q = p
  · subst hq
    cases i with
    | succ i => exact absurd (tail_mem e2 (Nat.succ_ne_zero i)) hp
    | zero =>
      obtain ⟨xs, e3⟩ := R.s0
      rw [e1] at e3
      cases e3
      obtain ⟨vs, rr, q⟩ := r
      rcases q with ⟨o, q⟩ | q
      · rw [hf] at q; cases q
      · exact ⟨vs, rr, .inr q⟩
  · exact r.stay (List.prefix_refl ρ) (fun _ => upd_ne hq)
theorem nodup_get {l : List Addr} (hn : l.Nodup) {i j : Nat} {p : Addr} (h1 : l[i]? = some p) (h2 : l[j]? = some p) : i = j := by
  obtain ⟨a1, e1⟩ := List.getElem?_eq_some_iff.mp h1
  obtain ⟨a2, e2⟩ := List.getElem?_eq_some_iff.mp h2
  exact (List.getElem_inj hn).mp (e1.trans e2.symm)
/-- a list is changed -/
theorem Rel.setL (R : Rel K ρ h H) {i : Nat} {us0 : List U} {p : Addr} (e : h.get i = some (.lst us0)) (ep : ρ[i]? = some p) {us : List U} {vs : List V} (r : RUs ρ us vs) : Rel K ρ (h.set i (.lst us)) (upd H p (.lst vs)) := by
  obtain ⟨v0, _, e0⟩ := R.ob i _ p e ep
  have hi0 := R.lst0 e
  refine ⟨R.len, R.nd, fun q m => ?_, ?_, fun j o' q e1 e2 => ?_⟩
  · by_cases z : q = p
    · subst z; rw [upd_same]; exact fun z => nomatch z
    · rw [upd_ne z]; exact R.tr q m
  · obtain ⟨xs, e3⟩ := R.s0
    exact ⟨xs, by rw [Hm.get_set _ _ (Hm.get_lt e), if_neg (fun z => hi0 z.symm)]; exact e3⟩
  · rw [Hm.get_set _ _ (Hm.get_lt e)] at e1
    by_cases hj : j = i
    · rw [if_pos hj] at e1
      cases e1
      rw [hj, ep] at e2
      cases e2
      exact ⟨vs, r, upd_same⟩
    · rw [if_neg hj] at e1
      have r' := R.ob j o' q e1 e2
      by_cases hq : q = p
      · subst hq
        cases j with
        | succ j =>
          obtain ⟨i', rfl⟩ := Nat.exists_eq_succ_of_ne_zero hi0
          have := nodup_get R.nd (tail_get e2) (tail_get ep)
          exact absurd (by rw [this]) hj
        | zero =>
          obtain ⟨xs, e3⟩ := R.s0
          rw [e1] at e3
          cases e3
          obtain ⟨vs, rr, q⟩ := r'
          rcases q with ⟨o, q⟩ | q
          · rw [e0] at q; cases q
          · exact ⟨vs, rr, .inr q⟩
      · exact r'.stay (List.prefix_refl ρ) (fun _ => upd_ne hq)

/-- what a piece of code may do: it lays new objects, changes those of the small heap, and no others -/
structure Ext (ρ : List Addr) (H : Hp) (ρ' : List Addr) (H' : Hp) : Prop where
  pre : ρ <+: ρ'
  new : ∀ p ∈ ρ'.tail, p ∉ ρ.tail → H p = none
  old : ∀ p, p ∉ ρ.tail → H p ≠ none → H' p = H p
theorem Ext.refl : Ext ρ H ρ H := ⟨List.prefix_refl ρ, fun _ h n => absurd h n, fun _ _ _ => rfl⟩
theorem Ext.trans {ρ1 ρ2 : List Addr} {H1 H2 : Hp} (a : Ext ρ H ρ1 H1) (b : Ext ρ1 H1 ρ2 H2) : Ext ρ H ρ2 H2 := by
  have key : ∀ p, p ∉ ρ.tail → H p ≠ none → p ∉ ρ1.tail := fun p n h m => h (a.new p m n)
  refine ⟨a.pre.trans b.pre, fun p m n => ?_, fun p n h => ?_⟩
  · by_cases z : H p = none
    · exact z
    · have := b.new p m (key p n z)
      rw [a.old p n z] at this
      exact absurd this z
  · have e := a.old p n h
    rw [b.old p (key p n h) (by rw [e]; exact h), e]
theorem Ext.push {p : Addr} (hp : H p = none) (u : HO) : Ext ρ H (ρ ++ [p]) (upd H p u) :=
  ⟨List.prefix_append ρ [p], fun q m n => by
    rcases tail_app m with m | m
    · exact absurd m n
    · rw [m]; exact hp, fun q _ h => upd_ne fun z => h (by rw [z]; exact hp)⟩
theorem Ext.junk {p : Addr} (hp : H p = none) (u : HO) : Ext ρ H ρ (upd H p u) :=
  ⟨List.prefix_refl ρ, fun _ h n => absurd h n, fun q _ h => upd_ne fun z => h (by rw [z]; exact hp)⟩
theorem Ext.set {p : Addr} {i : Nat} (e : ρ[i]? = some p) (hi : i ≠ 0) (u : HO) : Ext ρ H ρ (upd H p u) :=
  ⟨List.prefix_refl ρ, fun _ h n => absurd h n, fun q n _ => upd_ne fun z => n (by rw [z]; exact tail_mem e hi)⟩

/-! ### reading -/
theorem rdL_rel (R : Rel K ρ h H) {u : U} {v : V} {xs : List U} (r : RU ρ u v) (e : rdL h u = some xs) : ∃ a p vs, u = .ref a ∧ v = .ref p ∧ ρ[a]? = some p ∧ RUs ρ xs vs ∧ SqL K H p vs := by
  unfold rdL at e
  split at e
  · rename_i a
    obtain ⟨p, ep, rfl⟩ := r
    split at e
    · rename_i ys eo
      cases e
      obtain ⟨vs, rr, q⟩ := R.ob _ _ p eo ep
      exact ⟨a, p, vs, rfl, rfl, ep, rr, .inl (.inl q)⟩
    · rename_i ys eo
      cases e
      obtain ⟨vs, rr, q⟩ := R.ob _ _ p eo ep
      exact ⟨a, p, vs, rfl, rfl, ep, rr, ro_sq q⟩
    · cases e
  · cases e
theorem rdT_rel (R : Rel K ρ h H) {u : U} {v : V} {xs : List U} (r : RU ρ u v) (e : rdT h u = some xs) : ∃ a p vs, u = .ref a ∧ v = .ref p ∧ ρ[a]? = some p ∧ RUs ρ xs vs ∧ SqT K H p vs := by
  unfold rdT at e
  split at e
  · rename_i a
    obtain ⟨p, ep, rfl⟩ := r
    split at e
    · rename_i ys eo
      cases e
      obtain ⟨vs, rr, q⟩ := R.ob _ _ p eo ep
      exact ⟨a, p, vs, rfl, rfl, ep, rr, .inl (.inl q)⟩
    · cases e
  · cases e
theorem rdS_rel (R : Rel K ρ h H) {u : U} {v : V} {xs : List U} (r : RU ρ u v) (e : rdS h u = some xs) : ∃ a p vs, u = .ref a ∧ v = .ref p ∧ ρ[a]? = some p ∧ RUs ρ xs vs ∧ (SqL K H p vs ∨ SqT K H p vs) := by
  unfold rdS at e
  split at e
  · rename_i a
    obtain ⟨p, ep, rfl⟩ := r
    split at e
    · rename_i ys eo
      cases e
      obtain ⟨vs, rr, q⟩ := R.ob _ _ p eo ep
      exact ⟨a, p, vs, rfl, rfl, ep, rr, .inl (.inl (.inl q))⟩
    · rename_i ys eo
      cases e
      obtain ⟨vs, rr, q⟩ := R.ob _ _ p eo ep
      exact ⟨a, p, vs, rfl, rfl, ep, rr, .inl (ro_sq q)⟩
    · rename_i ys eo
      cases e
      obtain ⟨vs, rr, q⟩ := R.ob _ _ p eo ep
      exact ⟨a, p, vs, rfl, rfl, ep, rr, .inr (.inl (.inl q))⟩
    · cases e
  · cases e
theorem intsOf_rel : ∀ {xs : List U} {vs : List V} {l : List Int}, RUs ρ xs vs → intsOf xs = some l → vs = l.map V.int ∧ xs = l.map U.int
  | _, _, _, .nil, e => by cases e; exact ⟨rfl, rfl⟩
  | .int i :: r, v :: vs, l, .cons q t, e => by
    unfold intsOf at e
    cases e2 : intsOf r with
    | none => rw [e2] at e; cases e
    | some l' =>
      rw [e2] at e; cases e
      obtain ⟨h1, h2⟩ := intsOf_rel t e2
      cases (show v = .int i from q)
      rw [h1, h2]; exact ⟨rfl, rfl⟩
  | .non :: _, _, _, _, e => by cases e
  | .bl _ :: _, _, _, _, e => by cases e
  | .str _ :: _, _, _, _, e => by cases e
  | .ref _ :: _, _, _, _, e => by cases e
theorem boolsOf_rel : ∀ {xs : List U} {vs : List V} {l : List Bool}, RUs ρ xs vs → boolsOf xs = some l → vs = l.map V.bl
  | _, _, _, .nil, e => by cases e; rfl
  | .bl i :: r, v :: vs, l, .cons q t, e => by
    unfold boolsOf at e
    cases e2 : boolsOf r with
    | none => rw [e2] at e; cases e
    | some l' =>
      rw [e2] at e; cases e
      have h1 := boolsOf_rel t e2
      cases (show v = .bl i from q)
      rw [h1]; rfl
  | .non :: _, _, _, _, e => by cases e
  | .int _ :: _, _, _, _, e => by cases e
  | .str _ :: _, _, _, _, e => by cases e
  | .ref _ :: _, _, _, _, e => by cases e
theorem fl_rel {u : U} {v : V} (r : RU ρ u v) (f : fl u = true) : flatV v = true := by
  cases u with
  | non => cases (show v = .non from r); rfl
  | bl b => cases (show v = .bl b from r); rfl
  | int b => cases (show v = .int b from r); rfl
  | str b => cases (show v = .str b from r); rfl
  | ref n => cases f
theorem fls_rel : ∀ {us : List U} {vs : List V}, RUs ρ us vs → us.all fl = true → vs.all flatV = true
  | _, _, .nil, _ => rfl
  | _ :: _, _ :: _, .cons q t, f => by
    rw [List.all_cons, Bool.and_eq_true] at f ⊢
    exact ⟨fl_rel q f.1, fls_rel t f.2⟩
theorem eqF_rel {a b : U} {x y : V} (ra : RU ρ a x) (rb : RU ρ b y) (fa : fl a = true) (fb : fl b = true) : eqV x y = eqF a b := by
  cases a with
  | ref n => cases fa
  | non => cases (show x = .non from ra); cases b with
    | ref n => cases fb
    | non => cases (show y = .non from rb); rfl
    | bl c => cases (show y = .bl c from rb); rfl
    | int c => cases (show y = .int c from rb); rfl
    | str c => cases (show y = .str c from rb); rfl
  | bl d => cases (show x = .bl d from ra); cases b with
    | ref n => cases fb
    | non => cases (show y = .non from rb); rfl
    | bl c => cases (show y = .bl c from rb); rfl
    | int c => cases (show y = .int c from rb); rfl
    | str c => cases (show y = .str c from rb); rfl
  | int d => cases (show x = .int d from ra); cases b with
    | ref n => cases fb
    | non => cases (show y = .non from rb); rfl
    | bl c => cases (show y = .bl c from rb); rfl
    | int c => cases (show y = .int c from rb); rfl
    | str c => cases (show y = .str c from rb); rfl
  | str d => cases (show x = .str d from ra); cases b with
    | ref n => cases fb
    | non => cases (show y = .non from rb); rfl
    | bl c => cases (show y = .bl c from rb); rfl
    | int c => cases (show y = .int c from rb); rfl
    | str c => cases (show y = .str c from rb); rfl
theorem anyF_rel {u : U} {v : V} (r : RU ρ u v) (f : fl u = true) : ∀ {us : List U} {vs : List V}, RUs ρ us vs → us.all fl = true → inV v vs = us.any fun y => eqF y u
  | _, _, .nil, _ => rfl
  | a :: us, x :: vs, .cons q t, g => by
    rw [List.all_cons, Bool.and_eq_true] at g
    have ih := anyF_rel r f t g.2
    unfold inV at ih ⊢
    rw [List.any_cons, List.any_cons, ih, eqF_rel q r g.1 f]
theorem sc_rel {a b : U} {x y : V} (ra : RU ρ a x) (rb : RU ρ b y) (e : sc a b = true) : scal x y = true ∧ decide (x = y) = decide (a = b) := by
  cases a <;> cases b <;> first
    | exact Bool.noConfusion (show false = true from e)
    | (simp only [RU] at ra rb; subst ra; subst rb; refine ⟨rfl, ?_⟩; simp)
/-! ### data -/
mutual
theorem toD_rel (R : Rel K ρ h H) : ∀ (k : Nat) {u : U} {v : V} {d : PyData}, RU ρ u v → toD h k u = some d → Dp K H v d
  | k, .non, v, d, r, e => by
    cases (show v = .non from r)
    have : d = .none := by cases k <;> (unfold toD at e; cases e; rfl)
    subst this; exact .non
  | k, .bl b, v, d, r, e => by
    cases (show v = .bl b from r)
    have : d = .bool b := by cases k <;> (unfold toD at e; cases e; rfl)
    subst this; exact .bl b
  | k, .int b, v, d, r, e => by
    cases (show v = .int b from r)
    have : d = .int b := by cases k <;> (unfold toD at e; cases e; rfl)
    subst this; exact .int b
  | k, .str b, v, d, r, e => by
    cases (show v = .str b from r)
    have : d = .str b := by cases k <;> (unfold toD at e; cases e; rfl)
    subst this; exact .str b
  | 0, .ref a, v, d, r, e => by unfold toD at e; cases e
  | k + 1, .ref a, v, d, r, e => by
    obtain ⟨p, ep, rfl⟩ := r
    unfold toD at e
    split at e
    · rename_i xs eo
      obtain ⟨vs, rr, q⟩ := R.ob _ _ p eo ep
      cases ed : allD (toD h k) xs with
      | none => rw [ed] at e; cases e
      | some ds => rw [ed] at e; cases e; exact .lst (.inl (.inl q)) (allD_rel R k rr ed)
    · rename_i xs eo
      obtain ⟨vs, rr, q⟩ := R.ob _ _ p eo ep
      cases ed : allD (toD h k) xs with
      | none => rw [ed] at e; cases e
      | some ds => rw [ed] at e; cases e; exact .lst (ro_sq q) (allD_rel R k rr ed)
    · rename_i xs eo
      obtain ⟨vs, rr, q⟩ := R.ob _ _ p eo ep
      cases ed : allD (toD h k) xs with
      | none => rw [ed] at e; cases e
      | some ds => rw [ed] at e; cases e; exact .tup (.inl (.inl q)) (allD_rel R k rr ed)
    · cases e
theorem allD_rel (R : Rel K ρ h H) (k : Nat) : ∀ {us : List U} {vs : List V} {ds : List PyData}, RUs ρ us vs → allD (toD h k) us = some ds → DpAll K H vs ds
  | [], _, _, .nil, e => by cases e; exact .nil
  | u :: us, v :: vs, ds, .cons q t, e => by
    unfold allD at e
    cases e1 : toD h k u with
    | none => rw [e1] at e; cases e
    | some d =>
      rw [e1] at e
      cases e2 : allD (toD h k) us with
      | none => rw [e2] at e; cases e
      | some ds' => rw [e2] at e; cases e; exact .cons (toD_rel R k q e1) (allD_rel R k t e2)
end
end
end Mi

set_option maxRecDepth 100000
/-! Mi, part B2: the operations by values. -/
namespace Mi
open PySem PySem.Spec PyProof.Rows L2

def Pst (K : PySem.W.Frag) (ρ : List Addr) (H : Hp) (u : U) (h1 : Hm) (Q : VK) : Prop := ∀ ρ' v H', Ext ρ H ρ' H' → Rel K ρ' h1 H' → RU ρ' u v → Q v H'
theorem Pst.mono {K : PySem.W.Frag} {ρ ρ' : List Addr} {H H' : Hp} {u : U} {h1 : Hm} {Q : VK} (q : Pst K ρ H u h1 Q) (hp : Ext ρ H ρ' H') : Pst K ρ' H' u h1 Q := fun r v H2 h => q r v H2 (hp.trans h)
theorem Pst.here {K : PySem.W.Frag} {ρ : List Addr} {u : U} {h1 : Hm} {Q : VK} {H : Hp} {v : V} (q : Pst K ρ H u h1 Q) (R : Rel K ρ h1 H) (r : RU ρ u v) : Q v H := q ρ v H .refl R r
theorem Pst.upd {K : PySem.W.Frag} {ρ : List Addr} {u : U} {h1 : Hm} {Q : VK} {H : Hp} {v : V} {p : Addr} {i : Nat} {o : HO} (q : Pst K ρ H u h1 Q) (e : ρ[i]? = some p) (hi : i ≠ 0) (R : Rel K ρ h1 (L2.upd H p o)) (r : RU ρ u v) : Q v (L2.upd H p o) := q ρ v _ (.set e hi o) R r
def RB (K : PySem.W.Frag) (f : Hm → U → U → Res) : R2 := fun x y H Q => ∃ ρ h a b u h1, Rel K ρ h H ∧ RU ρ a x ∧ RU ρ b y ∧ f h a b = some (u, h1) ∧ Pst K ρ H u h1 Q
def RC (K : PySem.W.Frag) (f : Hm → U → U → Option Bool) : R2 := fun x y H Q => ∃ ρ h a b r, Rel K ρ h H ∧ RU ρ a x ∧ RU ρ b y ∧ f h a b = some r ∧ Q (.bl r) H
def RF (K : PySem.W.Frag) (f : Hm → List U → Res) : List V → Hp → VK → Prop := fun xs H Q => ∃ ρ h us u h1, Rel K ρ h H ∧ RUs ρ us xs ∧ f h us = some (u, h1) ∧ Pst K ρ H u h1 Q
def RM (K : PySem.W.Frag) (f : Hm → U → List U → Res) : V → List V → Hp → VK → Prop := fun x xs H Q => ∃ ρ h a us u h1, Rel K ρ h H ∧ RU ρ a x ∧ RUs ρ us xs ∧ f h a us = some (u, h1) ∧ Pst K ρ H u h1 Q

section
variable {X : Cx}
/-- a new list, a new tuple -/
theorem newL_post {K : PySem.W.Frag} {ρ : List Addr} {h h1 : Hm} {H : Hp} {us : List U} {vs : List V} {u : U} {Q : VK} (R : Rel K ρ h H) (r : RUs ρ us vs) (e : newL h us = some (u, h1)) (q : Pst K ρ H u h1 Q) :
    vs.length ≤ sizeLine ∧ ∀ p, H p = none → Q (.ref p) (upd H p (.lst vs)) := by
  unfold newL at e
  split at e
  · rename_i hz
    cases e
    exact ⟨by rw [← pd_len r]; exact hz, fun p hp => q _ _ _ (.push hp _) (R.pushL hp r) (ref_last R.len)⟩
  · cases e
theorem newT_post {K : PySem.W.Frag} {ρ : List Addr} {h h1 : Hm} {H : Hp} {us : List U} {vs : List V} {u : U} {Q : VK} (R : Rel K ρ h H) (r : RUs ρ us vs) (e : newT h us = some (u, h1)) (q : Pst K ρ H u h1 Q) :
    vs.length ≤ sizeLine ∧ ∀ p, H p = none → Q (.ref p) (upd H p (.tup vs)) := by
  unfold newT at e
  split at e
  · rename_i hz
    cases e
    exact ⟨by rw [← pd_len r]; exact hz, fun p hp => q _ _ _ (.push hp _) (R.pushT hp r) (ref_last R.len)⟩
  · cases e

def pyB : Bop → Operator
  | .add => .Add | .sub => .Sub | .mul => .Mult | .fdiv => .FloorDiv | .mod => .Mod | .pow => .Pow
theorem op_powW : OpR X (binaryOp .Pow) (rI (fun i j => powOk i j = true) fun i j => .int (i ^ j.toNat)) := opI fun i j _ _ _ _ _ hc q => by
  unfold powOk at hc
  rw [Bool.and_eq_true] at hc
  exact pow_int (of_decide_eq_true hc.1) (of_decide_eq_true hc.2) q
theorem mulOk_or {i j : Int} (h : mulOk i j = true) : CMul i j ∨ CMulW i j := by
  unfold mulOk at h
  rw [Bool.or_eq_true, Bool.or_eq_true] at h
  rcases h with (h | h) | h
  · have := of_decide_eq_true h
    exact .inl (.inl ⟨by omega, by omega⟩)
  · have := of_decide_eq_true h
    exact .inl (.inr ⟨by omega, by omega⟩)
  · exact .inr (show i.natAbs.log2 + j.natAbs.log2 < 1000000 from of_decide_eq_true h)
theorem op_bin (op : Bop) : OpR X (binaryOp (pyB op)) (RB X.K fun h => binU h op) := by
  intro pins s σ H x y v u Q I rx ry hh
  obtain ⟨ρ, h, a, b, w, h1, R, ra, rb, e, q⟩ := hh
  dsimp only at e
  unfold binU at e
  split at e
  · cases e; cases (show x = .int _ from ra); cases (show y = .int _ from rb)
    exact op_add pins s σ H _ _ v u Q I rx ry ⟨_, _, rfl, rfl, q.here R rfl⟩
  · split at e
    · rename_i hz
      cases e; cases (show x = .str _ from ra); cases (show y = .str _ from rb)
      exact op_add_str pins s σ H _ _ v u Q I rx ry ⟨_, _, rfl, rfl, hz, q.here R rfl⟩
    · cases e
  · rename_i a b
    obtain ⟨p1, e1, rfl⟩ := ra
    obtain ⟨p2, e2, rfl⟩ := rb
    split at e
    · rename_i xs ys o1 o2
      obtain ⟨vs, r1, q1⟩ := R.ob _ _ p1 o1 e1
      obtain ⟨ws, r2, q2⟩ := R.ob _ _ p2 o2 e2
      have np := newL_post R (pd_append r1 r2) e q
      rw [List.length_append] at np
      exact op_cat pins s σ H _ _ v u Q I rx ry ⟨_, _, _, _, rfl, rfl, q1, q2, np.1, np.2⟩
    · rename_i xs ys o1 o2
      obtain ⟨vs, r1, q1⟩ := R.ob _ _ p1 o1 e1
      obtain ⟨ws, r2, q2⟩ := R.ob _ _ p2 o2 e2
      split at e
      · cases e
      · rename_i hne
        have n1 : vs ≠ [] := fun z => hne (.inl (List.eq_nil_of_length_eq_zero (by rw [pd_len r1, z]; rfl)))
        have n2 : ws ≠ [] := fun z => hne (.inr (List.eq_nil_of_length_eq_zero (by rw [pd_len r2, z]; rfl)))
        have np := newT_post R (pd_append r1 r2) e q
        rw [List.length_append] at np
        exact op_catA pins s σ H _ _ v u Q I rx ry ⟨_, _, _, _, rfl, rfl, .inl (.inl q1), .inl (.inl q2), np.1, fun z => absurd z n1, fun _ z => absurd z n2, fun _ _ => np.2⟩
    · cases e
  · cases e; cases (show x = .int _ from ra); cases (show y = .int _ from rb)
    exact op_sub pins s σ H _ _ v u Q I rx ry ⟨_, _, rfl, rfl, q.here R rfl⟩
  · split at e
    · rename_i hz
      cases e; cases (show x = .int _ from ra); cases (show y = .int _ from rb)
      rcases mulOk_or hz with hc | hc
      · exact op_mul pins s σ H _ _ v u Q I rx ry ⟨_, _, rfl, rfl, hc, q.here R rfl⟩
      · exact op_mulW pins s σ H _ _ v u Q I rx ry ⟨_, _, rfl, rfl, hc, q.here R rfl⟩
    · cases e
  · rename_i a k
    obtain ⟨p1, e1, rfl⟩ := ra
    cases (show y = .int _ from rb)
    split at e
    · rename_i xs o1
      obtain ⟨vs, r1, q1⟩ := R.ob _ _ p1 o1 e1
      split at e
      · rename_i hz
        cases e
        unfold repOk at hz
        rw [Bool.and_eq_true, Bool.and_eq_true] at hz
        refine op_rep pins s σ H _ _ v u Q I rx ry ⟨_, _, _, rfl, rfl, q1, of_decide_eq_true hz.1.1, of_decide_eq_true hz.1.2, by rw [← pd_len r1]; exact of_decide_eq_true hz.2, fun p hp => ?_⟩
        exact q _ _ _ (.push hp _) (R.pushL hp (pd_rep r1 _)) (ref_last R.len)
      · cases e
    · cases e
  · split at e
    · rename_i hz
      cases e; cases (show x = .int _ from ra); cases (show y = .int _ from rb)
      unfold divOk at hz
      rw [Bool.and_eq_true] at hz
      exact op_fdivW pins s σ H _ _ v u Q I rx ry ⟨_, _, rfl, rfl, ⟨of_decide_eq_true hz.1, of_decide_eq_true hz.2⟩, q.here R rfl⟩
    · cases e
  · split at e
    · rename_i hz
      cases e; cases (show x = .int _ from ra); cases (show y = .int _ from rb)
      exact op_mod pins s σ H _ _ v u Q I rx ry ⟨_, _, rfl, rfl, hz, q.here R rfl⟩
    · cases e
  · split at e
    · rename_i hz
      cases e; cases (show x = .int _ from ra); cases (show y = .int _ from rb)
      exact op_powW pins s σ H _ _ v u Q I rx ry ⟨_, _, rfl, rfl, hz, q.here R rfl⟩
    · cases e
  · cases e
def pyC : Cop → CmpOp
  | .eq => .Eq | .ne => .NotEq | .lt => .Lt | .le => .LtE | .gt => .Gt | .ge => .GtE | .is => .Is | .isn => .IsNot | .isin => .In | .nin => .NotIn
theorem eq_any (hu : X.A.units + 65 < cLine) : OpR X (compareOp .Eq) (RC X.K eqU) := by
  intro pins s σ H x y v u Q I rx ry hh
  obtain ⟨ρ, h, a, b, r, R, ra, rb, e, q⟩ := hh
  unfold eqU at e
  split at e
  · rename_i hs
    cases e
    obtain ⟨s1, s2⟩ := sc_rel ra rb hs
    exact op_eq pins s σ H _ _ v u Q I rx ry ⟨s1, by rw [s2]; exact q⟩
  · split at e
    · cases e
    · rename_i d ed
      split at e
      · cases e
      · rename_i d' ed'
        split at e
        · rename_i hs
          cases e
          rw [Bool.and_eq_true] at hs
          exact op_eqD (Nat.lt_of_succ_lt hu) pins s σ H _ _ v u Q I rx ry ⟨d, d', toD_rel R 64 ra ed, toD_rel R 64 rb ed', hs.1, hs.2, q⟩
        · cases e
theorem ne_any (hu : X.A.units + 65 < cLine) : OpR X (compareOp .NotEq) (RC X.K fun h u v => match eqU h u v with | some b => some (!b) | none => none) := by
  intro pins s σ H x y v u Q I rx ry hh
  obtain ⟨ρ, h, a, b, r, R, ra, rb, e, q⟩ := hh
  dsimp only at e
  split at e
  · rename_i b' e'
    cases e
    unfold eqU at e'
    split at e'
    · rename_i hs
      cases e'
      obtain ⟨s1, s2⟩ := sc_rel ra rb hs
      exact op_ne pins s σ H _ _ v u Q I rx ry ⟨s1, by rw [s2]; exact q⟩
    · split at e'
      · cases e'
      · rename_i d ed
        split at e'
        · cases e'
        · rename_i d' ed'
          split at e'
          · rename_i hs
            cases e'
            rw [Bool.and_eq_true] at hs
            exact op_neD (Nat.lt_of_succ_lt hu) pins s σ H _ _ v u Q I rx ry ⟨d, d', toD_rel R 64 ra ed, toD_rel R 64 rb ed', hs.1, hs.2, q⟩
          · cases e'
  · cases e
theorem in_any (hu : X.A.units + 65 < cLine) : OpR X (compareOp .In) (RC X.K inU) := by
  intro pins s σ H x y v u Q I rx ry hh
  obtain ⟨ρ, h, a, b, r, R, ra, rb, e, q⟩ := hh
  unfold inU at e
  split at e
  · cases e
  · rename_i ys ey
    split at e
    · rename_i hf
      cases e
      rw [Bool.and_eq_true] at hf
      obtain ⟨n, p, vs, _, rfl, _, rr, hs⟩ := rdS_rel R rb ey
      exact op_in_seq pins s σ H _ _ v u Q I rx ry ⟨p, vs, rfl, hs, fl_rel ra hf.1, fls_rel rr hf.2, by rw [if_neg Bool.false_ne_true, anyF_rel ra hf.1 rr hf.2]; exact q⟩
    · split at e
      · cases e
      · rename_i d ed
        split at e
        · rename_i ds eds
          split at e
          · rename_i hs
            cases e
            rw [Bool.and_eq_true] at hs
            exact op_inD hu pins s σ H _ _ v u Q I rx ry ⟨d, ds, toD_rel R 64 ra ed, toD_rel R 64 rb eds, hs.1, hs.2, q⟩
          · cases e
        · cases e
theorem nin_any (hu : X.A.units + 65 < cLine) : OpR X (compareOp .NotIn) (RC X.K fun h u v => match inU h u v with | some b => some (!b) | none => none) := by
  intro pins s σ H x y v u Q I rx ry hh
  obtain ⟨ρ, h, a, b, r, R, ra, rb, e, q⟩ := hh
  dsimp only at e
  split at e
  · rename_i b' e'
    cases e
    unfold inU at e'
    split at e'
    · cases e'
    · rename_i ys ey
      split at e'
      · rename_i hf
        cases e'
        rw [Bool.and_eq_true] at hf
        obtain ⟨n, p, vs, _, rfl, _, rr, hs⟩ := rdS_rel R rb ey
        exact op_notIn_seq pins s σ H _ _ v u Q I rx ry ⟨p, vs, rfl, hs, fl_rel ra hf.1, fls_rel rr hf.2, by rw [if_pos rfl, anyF_rel ra hf.1 rr hf.2]; exact q⟩
      · split at e'
        · cases e'
        · rename_i d ed
          split at e'
          · rename_i ds eds
            split at e'
            · rename_i hs
              cases e'
              rw [Bool.and_eq_true] at hs
              exact op_notInD hu pins s σ H _ _ v u Q I rx ry ⟨d, ds, toD_rel R 64 ra ed, toD_rel R 64 rb eds, hs.1, hs.2, q⟩
            · cases e'
          · cases e'
  · cases e
theorem non_rel {ρ : List Addr} {a : U} {x : V} (r : RU ρ a x) : decide (x = V.non) = decide (a = U.non) := by
  cases a with
  | non => cases (show x = .non from r); rfl
  | bl c => cases (show x = .bl c from r); rfl
  | int c => cases (show x = .int c from r); rfl
  | str c => cases (show x = .str c from r); rfl
  | ref n => obtain ⟨p, _, rfl⟩ := r; rfl
theorem op_cmp (hu : X.A.units + 65 < cLine) (op : Cop) : OpR X (compareOp (pyC op)) (RC X.K fun h => cmpU h op) := by
  intro pins s σ H x y v u Q I rx ry hh
  obtain ⟨ρ, h, a, b, r, R, ra, rb, e, q⟩ := hh
  dsimp only at e
  unfold cmpU at e
  split at e
  · exact eq_any hu pins s σ H x y v u Q I rx ry ⟨ρ, h, a, b, r, R, ra, rb, e, q⟩
  · exact ne_any hu pins s σ H x y v u Q I rx ry ⟨ρ, h, a, b, r, R, ra, rb, e, q⟩
  · cases e; cases (show x = .int _ from ra); cases (show y = .int _ from rb)
    exact op_lt pins s σ H _ _ v u Q I rx ry ⟨_, _, rfl, rfl, q⟩
  · cases e; cases (show x = .int _ from ra); cases (show y = .int _ from rb)
    exact op_le pins s σ H _ _ v u Q I rx ry ⟨_, _, rfl, rfl, q⟩
  · cases e; cases (show x = .int _ from ra); cases (show y = .int _ from rb)
    exact op_gt pins s σ H _ _ v u Q I rx ry ⟨_, _, rfl, rfl, q⟩
  · cases e; cases (show x = .int _ from ra); cases (show y = .int _ from rb)
    exact op_ge pins s σ H _ _ v u Q I rx ry ⟨_, _, rfl, rfl, q⟩
  · cases e; cases (show y = .non from rb)
    exact op_isN pins s σ H _ _ v u Q I rx ry ⟨rfl, by rw [non_rel ra]; exact q⟩
  · cases e; cases (show y = .non from rb)
    exact op_notN pins s σ H _ _ v u Q I rx ry ⟨rfl, by rw [non_rel ra]; exact q⟩
  · cases e; cases (show x = .bl _ from ra); cases (show y = .bl _ from rb)
    exact op_isBl pins s σ H _ _ v u Q I rx ry ⟨_, _, rfl, rfl, q⟩
  · cases e; cases (show x = .bl _ from ra); cases (show y = .bl _ from rb)
    exact op_notBl pins s σ H _ _ v u Q I rx ry ⟨_, _, rfl, rfl, q⟩
  · exact in_any hu pins s σ H x y v u Q I rx ry ⟨ρ, h, a, b, r, R, ra, rb, e, q⟩
  · exact nin_any hu pins s σ H x y v u Q I rx ry ⟨ρ, h, a, b, r, R, ra, rb, e, q⟩
  · cases e

/-! ### isinstance -/
def tyN : Ty → String
  | .int => "int" | .bool => "bool" | .str => "str" | .list => "list" | .tuple => "tuple" | .dict => "dict"
theorem isTy_all {K : PySem.W.Frag} {ρ : List Addr} {h : Hm} {H : Hp} (R : Rel K ρ h H) {u : U} {x : V} {t0 : Ty} {b0 : Bool} (r : RU ρ u x) (e0 : isTy h u t0 = some b0) :
    ∃ tv, TyX K H x tv ∧ ∀ t b, isTy h u t = some b → PySem.W.kitOne K tv (.type (tyN t)) = some b := by
  cases u with
  | non => cases (show x = .non from r); refine ⟨_, .base .non, fun t b e => ?_⟩; cases t <;> (cases e; exact kit_ty (by decide +kernel))
  | bl c => cases (show x = .bl c from r); refine ⟨_, .base (.bl c), fun t b e => ?_⟩; cases t <;> (cases e; exact kit_ty (by decide +kernel))
  | int c => cases (show x = .int c from r); refine ⟨_, .base (.int c), fun t b e => ?_⟩; cases t <;> (cases e; exact kit_ty (by decide +kernel))
  | str c => cases (show x = .str c from r); refine ⟨_, .base (.str c), fun t b e => ?_⟩; cases t <;> (cases e; exact kit_ty (by decide +kernel))
  | ref n =>
    obtain ⟨p, ep, rfl⟩ := r
    cases eo : h.get n with
    | none => unfold isTy at e0; dsimp only at e0; rw [eo] at e0; cases e0
    | some o =>
      cases o with
      | lst xs => obtain ⟨vs, _, q⟩ := R.ob _ _ p eo ep; refine ⟨_, .base (.lst q), fun t b e => ?_⟩; unfold isTy at e; dsimp only at e; rw [eo] at e; cases t <;> (cases e; exact kit_ty (by decide +kernel))
      | ro xs =>
        obtain ⟨vs, _, q⟩ := R.ob _ _ p eo ep
        obtain ⟨o, q⟩ | ⟨o, its, n, k1, k2, k3, k4, k5, k6⟩ := q
        · refine ⟨_, .base (.frz q), fun t b e => ?_⟩; unfold isTy at e; dsimp only at e; rw [eo] at e; cases t <;> (cases e; exact kit_ty (by decide +kernel))
        · refine ⟨_, .kList k1 k2, fun t b e => ?_⟩; unfold isTy at e; dsimp only at e; rw [eo] at e; cases t <;> (cases e; exact kit_ty (by decide +kernel))
      | tup xs => obtain ⟨vs, _, q⟩ := R.ob _ _ p eo ep; refine ⟨_, .base (.tup q), fun t b e => ?_⟩; unfold isTy at e; dsimp only at e; rw [eo] at e; cases t <;> (cases e; exact kit_ty (by decide +kernel))
theorem isTys_any {K : PySem.W.Frag} {h : Hm} {u : U} {tv : Value} (k : ∀ t b, isTy h u t = some b → PySem.W.kitOne K tv (.type (tyN t)) = some b) : ∀ {ts : List Ty} {b : Bool}, isTys h u ts = some b → PySem.W.kitAny K tv (ts.map fun t => .type (tyN t)) = some b
  | [], b, e => by cases e; rfl
  | t :: ts, b, e => by
    unfold isTys at e
    cases e1 : isTy h u t with
    | none => rw [e1] at e; cases e
    | some c =>
      rw [e1] at e
      cases c with
      | true => cases e; exact kitAny_cons (k t _ e1) (fun z => Bool.noConfusion z) fun _ => rfl
      | false => exact kitAny_cons (k t _ e1) (fun _ => isTys_any k e) fun z => Bool.noConfusion z
theorem isTys_rel {K : PySem.W.Frag} {ρ : List Addr} {h : Hm} {H : Hp} (R : Rel K ρ h H) {u : U} {x : V} (r : RU ρ u x) {t : Ty} {ts : List Ty} {b : Bool} (e : isTys h u (t :: ts) = some b) :
    ∃ tv, TyX K H x tv ∧ PySem.W.kitAny K tv ((t :: ts).map fun t => .type (tyN t)) = some b := by
  have e0 : ∃ b0, isTy h u t = some b0 := by
    unfold isTys at e
    cases e1 : isTy h u t with
    | none => rw [e1] at e; cases e
    | some c => exact ⟨c, rfl⟩
  obtain ⟨b0, e0⟩ := e0
  obtain ⟨tv, T, k⟩ := isTy_all R r e0
  exact ⟨tv, T, isTys_any k e⟩

/-! ### built-in functions -/
theorem max_spec : ∀ (i : Int) (l : List Int), l.foldl max i ∈ i :: l ∧ ∀ y ∈ i :: l, y ≤ l.foldl max i
  | i, [] => ⟨by simp, by simp⟩
  | i, j :: l => by
    obtain ⟨h1, h2⟩ := max_spec (max i j) l
    rw [List.foldl_cons]
    refine ⟨?_, fun y hy => ?_⟩
    · rcases List.mem_cons.mp h1 with e | e
      · rw [e]
        rcases Int.le_total i j with q | q
        · rw [Int.max_eq_right q]; simp
        · rw [Int.max_eq_left q]; simp
      · exact List.mem_cons_of_mem _ (List.mem_cons_of_mem _ e)
    · have hm := h2 (max i j) List.mem_cons_self
      rcases List.mem_cons.mp hy with rfl | hy
      · exact Int.le_trans (Int.le_max_left _ _) hm
      · rcases List.mem_cons.mp hy with rfl | hy
        · exact Int.le_trans (Int.le_max_right _ _) hm
        · exact h2 y (List.mem_cons_of_mem _ hy)
theorem min_spec : ∀ (i : Int) (l : List Int), l.foldl min i ∈ i :: l ∧ ∀ y ∈ i :: l, l.foldl min i ≤ y
  | i, [] => ⟨by simp, by simp⟩
  | i, j :: l => by
    obtain ⟨h1, h2⟩ := min_spec (min i j) l
    rw [List.foldl_cons]
    refine ⟨?_, fun y hy => ?_⟩
    · rcases List.mem_cons.mp h1 with e | e
      · rw [e]
        rcases Int.le_total i j with q | q
        · rw [Int.min_eq_left q]; simp
        · rw [Int.min_eq_right q]; simp
      · exact List.mem_cons_of_mem _ (List.mem_cons_of_mem _ e)
    · have hm := h2 (min i j) List.mem_cons_self
      rcases List.mem_cons.mp hy with rfl | hy
      · exact Int.le_trans hm (Int.min_le_left _ _)
      · rcases List.mem_cons.mp hy with rfl | hy
        · exact Int.le_trans hm (Int.min_le_right _ _)
        · exact h2 y (List.mem_cons_of_mem _ hy)
theorem maxI_spec {l : List Int} (h : l ≠ []) : maxI l ∈ l ∧ ∀ y ∈ l, y ≤ maxI l := by
  cases l with
  | nil => exact absurd rfl h
  | cons i r => exact max_spec i r
theorem minI_spec {l : List Int} (h : l ≠ []) : minI l ∈ l ∧ ∀ y ∈ l, minI l ≤ y := by
  cases l with
  | nil => exact absurd rfl h
  | cons i r => exact min_spec i r
theorem sortI_spec (l : List Int) : (sortI l).Perm l ∧ (sortI l).Pairwise (· ≤ ·) := by
  refine ⟨List.mergeSort_perm _ _, ?_⟩
  have := List.pairwise_mergeSort (le := fun a b : Int => decide (a ≤ b)) (fun a b c h1 h2 => by simp only [decide_eq_true_eq] at *; omega) (fun a b => by simp only [Bool.or_eq_true, decide_eq_true_eq]; omega) l
  exact this.imp fun h => of_decide_eq_true h
theorem sorted_uniq {l l' : List Int} (p : l'.Perm l) (s : l'.Pairwise (· ≤ ·)) : l' = sortI l := by
  obtain ⟨p2, s2⟩ := sortI_spec l
  exact List.Perm.eq_of_pairwise (fun a b _ _ h1 h2 => Int.le_antisymm h1 h2) s s2 (p.trans p2.symm)
theorem ints_rel {ρ : List Addr} : ∀ l : List Int, RUs ρ (l.map U.int) (l.map V.int)
  | [] => .nil
  | _ :: r => .cons rfl (ints_rel r)
theorem pd_one {α β : Type} {F : α → β → Prop} {a : α} {ys : List β} (r : Paired F [a] ys) : ∃ y, ys = [y] ∧ F a y := by
  cases r with
  | cons q t => cases t; exact ⟨_, rfl, q⟩
theorem pd_two {α β : Type} {F : α → β → Prop} {a b : α} {ys : List β} (r : Paired F [a, b] ys) : ∃ y z, ys = [y, z] ∧ F a y ∧ F b z := by
  cases r with
  | cons q t => obtain ⟨z, rfl, q2⟩ := pd_one t; exact ⟨_, _, rfl, q, q2⟩
def biN : Bi → Value
  | .len => .builtin "len" | .sum => .builtin "sum" | .min1 => .builtin "min" | .max1 => .builtin "max" | .min2 => .builtin "min" | .max2 => .builtin "max" | .all => .builtin "all" | .any => .builtin "any" | .abs => .builtin "abs"
  | .int => .type "int" | .list => .type "list" | .tuple => .type "tuple" | .sorted => .builtin "sorted" | .repr => .builtin "repr"
/-- repr of plain data -/
theorem cr_repr (gd : X.A.guards = some []) (hu : X.A.units + 70 < cLine) {pins : List (Addr × Obj)} {σ : L2.St} {H : Hp} {s : Shared} {Q : VK} (I : Inv X pins σ H s) : ∀ {d : PyData} {x : V} {u : Value}, Dp X.K H x d → RelV x u → SeqAt.shaped d = true → d.showable = true → d.shown.length ≤ sizeLine → Q (.str d.shown) H →
    wpAny (model X.prog X.w) X.A (call (.builtin "repr") [u]) (EP X pins σ Q) X.xe s := by
  intro d x u hd rx hs hw hz q
  obtain ⟨as, r⟩ := Dp.reads I d x u hd rx
  have deep : ∀ {a : Addr}, u = .ref a → wpAny (model X.prog X.w) X.A (call (.builtin "repr") [u]) (EP X pins σ Q) X.xe s := fun {a} ea => by
    subst ea
    have dp := SeqAt.depth_of_shaped hs
    refine repr_of_reads' r hw (PyData.noDict_hsm (PyData.hasDict_of_canLay d (SeqAt.canLay_of_shaped hs))) gd (by omega) (fun _ _ z => z) (fun h' t tk keep => ?_) hz
    exact ⟨.str d.shown, H, I.un (h' := h') (t' := tk) (Un.kept keep) (I.hok.kept keep), ⟨t, rfl⟩, q⟩
  cases r with
  | none => exact PySem.P.repr_of_none ⟨.str _, H, I.tok _, ⟨_, rfl⟩, q⟩
  | bool b => exact PySem.P.repr_of_bool ⟨.str _, H, I.tok _, ⟨_, rfl⟩, q⟩
  | int i t => exact PySem.P.repr_of_int (of_decide_eq_true hw) ⟨.str _, H, I.tok _, ⟨_, rfl⟩, q⟩
  | str y t => exact PySem.P.repr_of_str ⟨.str _, H, I.tok _, ⟨_, rfl⟩, q⟩ hz
  | list => exact deep rfl
  | tuple => exact deep rfl
  | dict => exact deep rfl
theorem call_bi (hc : X.calm = true) (gd : X.A.guards = some []) (hu : X.A.units + 70 < cLine) (b : Bi) : CallR X (biN b) (RF X.K fun h => biU h b) := by
  intro pins s σ H xs us0 Q I r0 hh
  obtain ⟨ρ, h, us, u, h1, R, ru, e, q⟩ := hh
  dsimp only at e
  unfold biU at e
  split at e
  · obtain ⟨x, rfl, rx⟩ := pd_one ru
    split at e
    · rename_i ys ey
      cases e
      obtain ⟨n, p, vs, _, rfl, _, rr, hs⟩ := rdS_rel R rx ey
      exact call_len_seq pins s σ H _ us0 Q I r0 ⟨p, vs, rfl, hs, by rw [← pd_len rr]; exact q.here R rfl⟩
    · split at e
      · split at e
        · rename_i hz
          cases e
          cases (show x = .str _ from rx)
          exact call_len_str pins s σ H _ us0 Q I r0 ⟨_, rfl, hz, q.here R rfl⟩
        · cases e
      · cases e
  · obtain ⟨x, rfl, rx⟩ := pd_one ru
    split at e
    · cases e
    · rename_i ys ey
      obtain ⟨n, p, vs, _, rfl, _, rr, hs⟩ := rdL_rel R rx ey
      split at e
      · cases e
      · rename_i l el
        cases e
        obtain ⟨e1, _⟩ := intsOf_rel rr el
        exact cr_sum hc pins s σ H _ us0 Q I r0 ⟨p, l, rfl, by rw [← e1]; exact hs, q.here R rfl⟩
  · obtain ⟨x, rfl, rx⟩ := pd_one ru
    split at e
    · cases e
    · rename_i ys ey
      obtain ⟨n, p, vs, _, rfl, _, rr, hs⟩ := rdL_rel R rx ey
      split at e
      · cases e
      · rename_i l el
        split at e
        · cases e
        · rename_i hne
          cases e
          obtain ⟨e1, _⟩ := intsOf_rel rr el
          obtain ⟨m1, m2⟩ := minI_spec hne
          refine cr_min hc pins s σ H _ us0 Q I r0 ⟨p, l, rfl, by rw [← e1]; exact hs, List.length_pos_iff.mpr hne, fun m h1 h2 => ?_⟩
          have : m = minI l := Int.le_antisymm (h2 _ m1) (m2 _ h1)
          rw [this]
          exact q.here R rfl
  · obtain ⟨x, rfl, rx⟩ := pd_one ru
    split at e
    · cases e
    · rename_i ys ey
      obtain ⟨n, p, vs, _, rfl, _, rr, hs⟩ := rdL_rel R rx ey
      split at e
      · cases e
      · rename_i l el
        split at e
        · cases e
        · rename_i hne
          cases e
          obtain ⟨e1, _⟩ := intsOf_rel rr el
          obtain ⟨m1, m2⟩ := maxI_spec hne
          refine cr_max hc pins s σ H _ us0 Q I r0 ⟨p, l, rfl, by rw [← e1]; exact hs, List.length_pos_iff.mpr hne, fun m h1 h2 => ?_⟩
          have : m = maxI l := Int.le_antisymm (m2 _ h1) (h2 _ m1)
          rw [this]
          exact q.here R rfl
  · obtain ⟨x, y, rfl, rx, ry⟩ := pd_two ru
    cases (show x = .int _ from rx); cases (show y = .int _ from ry); cases e
    exact call_min2 hc pins s σ H _ us0 Q I r0 ⟨_, _, rfl, q.here R rfl⟩
  · obtain ⟨x, y, rfl, rx, ry⟩ := pd_two ru
    cases (show x = .int _ from rx); cases (show y = .int _ from ry); cases e
    exact call_max2 hc pins s σ H _ us0 Q I r0 ⟨_, _, rfl, q.here R rfl⟩
  · obtain ⟨x, rfl, rx⟩ := pd_one ru
    split at e
    · cases e
    · rename_i ys ey
      obtain ⟨n, p, vs, _, rfl, _, rr, hs⟩ := rdL_rel R rx ey
      split at e
      · cases e
      · rename_i l el
        cases e
        have e1 := boolsOf_rel rr el
        exact cr_all hc pins s σ H _ us0 Q I r0 ⟨p, l, rfl, by rw [← e1]; exact hs, q.here R rfl⟩
  · obtain ⟨x, rfl, rx⟩ := pd_one ru
    split at e
    · cases e
    · rename_i ys ey
      obtain ⟨n, p, vs, _, rfl, _, rr, hs⟩ := rdL_rel R rx ey
      split at e
      · cases e
      · rename_i l el
        cases e
        have e1 := boolsOf_rel rr el
        exact cr_any hc pins s σ H _ us0 Q I r0 ⟨p, l, rfl, by rw [← e1]; exact hs, q.here R rfl⟩
  · obtain ⟨x, rfl, rx⟩ := pd_one ru
    cases (show x = .int _ from rx); cases e
    exact call_abs pins s σ H _ us0 Q I r0 ⟨_, rfl, q.here R rfl⟩
  · obtain ⟨x, rfl, rx⟩ := pd_one ru
    cases (show x = .int _ from rx); cases e
    exact call_int1 pins s σ H _ us0 Q I r0 (.inl ⟨_, rfl, q.here R rfl⟩)
  · obtain ⟨x, rfl, rx⟩ := pd_one ru
    cases (show x = .bl _ from rx); cases e
    exact call_int1 pins s σ H _ us0 Q I r0 (.inr ⟨_, rfl, q.here R rfl⟩)
  · obtain ⟨x, rfl, rx⟩ := pd_one ru
    split at e
    · cases e
    · rename_i ys ey
      cases e
      obtain ⟨n, p, vs, _, rfl, _, rr, hs⟩ := rdS_rel R rx ey
      exact call_list_of pins s σ H _ us0 Q I r0 ⟨p, vs, rfl, hs, fun l hl => q _ _ _ (.push hl _) (R.pushL hl rr) (ref_last R.len)⟩
  · obtain ⟨x, rfl, rx⟩ := pd_one ru
    split at e
    · cases e
    · rename_i ys ey
      cases e
      obtain ⟨n, p, vs, _, rfl, _, rr, hs⟩ := rdL_rel R rx ey
      exact call_tuple_of pins s σ H _ us0 Q I r0 ⟨p, vs, rfl, .inl ⟨hs, fun l hl => q _ _ _ (.push hl _) (R.pushT hl rr) (ref_last R.len)⟩⟩
  · obtain ⟨x, rfl, rx⟩ := pd_one ru
    unfold reprU at e
    split at e
    · cases e
    · rename_i d ed
      split at e
      · rename_i hs
        cases e
        rw [Bool.and_eq_true, Bool.and_eq_true] at hs
        obtain ⟨v, rfl, rv⟩ := vals1 r0
        exact cr_repr gd hu I (toD_rel R 64 rx ed) rv hs.1 hs.2.1 (of_decide_eq_true hs.2.2) (q.here R rfl)
      · cases e
  · obtain ⟨x, rfl, rx⟩ := pd_one ru
    split at e
    · cases e
    · rename_i ys ey
      obtain ⟨n, p, vs, _, rfl, _, rr, hs⟩ := rdL_rel R rx ey
      split at e
      · cases e
      · rename_i l el
        cases e
        obtain ⟨e1, _⟩ := intsOf_rel rr el
        refine cr_sortedI pins s σ H _ us0 Q I r0 ⟨p, l, rfl, by rw [← e1]; exact hs, fun ns' p' h1 h2 hp => ?_⟩
        rw [sorted_uniq h1 h2]
        exact q _ _ _ (.push hp _) (R.pushL hp (ints_rel _)) (ref_last R.len)
  · cases e

/-! ### methods -/
theorem findI_spec {u : U} : ∀ (l : List U) (i k : Nat), findI u i l = some k → ∃ j y, k = i + j ∧ l[j]? = some y ∧ eqF y u = true ∧ ∀ m y', m < j → l[m]? = some y' → eqF y' u = false
  | [], i, k, e => by cases e
  | y :: r, i, k, e => by
    unfold findI at e
    split at e
    · rename_i hy
      cases e
      exact ⟨0, y, rfl, rfl, hy, fun m _ hm => absurd hm (Nat.not_lt_zero _)⟩
    · rename_i hy
      obtain ⟨j, z, e1, e2, e3, e4⟩ := findI_spec r (i + 1) k e
      refine ⟨j + 1, z, by omega, by simpa using e2, e3, fun m y' hm h' => ?_⟩
      cases m with
      | zero =>
        have : y = y' := by simpa using h'
        rw [← this]
        exact Bool.eq_false_iff.mpr hy
      | succ m => exact e4 m y' (by omega) (by simpa using h')
theorem pd_get' {α β : Type} {F : α → β → Prop} : ∀ {xs : List α} {ys : List β} {i : Nat} {y : β}, Paired F xs ys → ys[i]? = some y → ∃ x, xs[i]? = some x ∧ F x y
  | _, _, _, _, .nil, e => by simp at e
  | _, _, 0, _, .cons r _, e => by simp at e; subst e; exact ⟨_, rfl, r⟩
  | _, _, i + 1, y, .cons _ t, e => by
    obtain ⟨u, h1, h2⟩ := pd_get' (i := i) (y := y) t (by simpa using e)
    exact ⟨u, by simpa using h1, h2⟩
theorem me_append : MtR X "list.append" (RM X.K fun h => meU h .append) := by
  intro pins s σ H x xs v us0 Q I rx r0 hh
  obtain ⟨ρ, h, a, us, u, h1, R, ra, ru, e, q⟩ := hh
  replace e : meAppend h a us = some (u, h1) := e
  unfold meAppend at e
  split at e
  · obtain ⟨p, ep, rfl⟩ := ra
    obtain ⟨y, rfl, ry⟩ := pd_one ru
    split at e
    · rename_i xs' eo
      split at e
      · rename_i hz
        cases e
        obtain ⟨vs, rr, qq⟩ := R.ob _ _ p eo ep
        exact mt_append pins s σ H _ _ v us0 Q I rx r0 ⟨p, vs, y, rfl, rfl, qq, by rw [← pd_len rr]; exact hz, q.upd ep (R.lst0 eo) (R.setL eo ep (pd_append rr (.cons ry .nil))) rfl⟩
      · cases e
    · cases e
  · cases e
def rIndex3 (K : PySem.W.Frag) : V → List V → Hp → VK → Prop := fun x xs H Q => ∃ (a : Addr) (ys : List V) (y : V) (k : Int) (j : Nat) (z : V), x = V.ref a ∧ xs = [y, .int k] ∧ SqL K H a ys ∧ flatV y = true ∧ ys.all flatV = true ∧ 0 ≤ k ∧ k.toNat ≤ j ∧ ys[j]? = some z ∧ eqV z y = true ∧
  (∀ (m : Nat) (z' : V), k.toNat ≤ m → m < j → ys[m]? = some z' → eqV z' y = false) ∧ Q (.int (j : Nat)) H
theorem mt_index3 : MtR X "list.index" (rIndex3 X.K) := by
  intro pins s σ H x xs v us Q I rx rxs h
  obtain ⟨a, ys, y, k, j, z, rfl, rfl, hs, fy, fys, hk, hkj, hz, hzj, hno, q⟩ := h
  cases rx
  cases rxs with
  | cons ry rt =>
    rename_i uy ut
    cases rt with
    | cons rk rt =>
      rename_i uk ut2
      cases rt
      obtain ⟨tk, rfl⟩ := rk
      obtain ⟨its, rv, ⟨⟨cls, dd, data, sl⟩, n, ho, hc, hdn, hd⟩, hlen⟩ := I.list hs
      simp only at hc hd
      subst hc hd
      obtain ⟨u, hu, ru⟩ := rv.get hz
      obtain ⟨hjl, hje⟩ := List.getElem?_eq_some_iff.mp hu
      have hvl := rv.length
      have hj : j < its.toArray.size := by simpa using hjl
      have hsl := sizeLine_eq
      refine call_meets PySem.F.slot_list_index ⟨_, ho, rfl⟩ PySem.F.entry_list_index (PySem.F.args_list_index_3 _ _ _)
        (SeqAt.list_index3_found a its.toArray n dd sl uy (fun m => match its.toArray[m]? with | some u => L2.eqU y u | none => false) k _ j hj (by rw [SeqAt.searchFrom_nonneg hk]; exact hkj) (by omega) ?_ ?_) ⟨ho, fun m hm => ?_, ?_⟩
      · have e1 : its.toArray[j]? = some u := by simpa using hu
        show (match its.toArray[j]? with | some u => L2.eqU y u | none => false) = true
        rw [e1]
        dsimp only
        rw [L2.eqU_of ru (flat_at fys hz)]
        exact hzj
      · intro m hm hkm hmj
        rw [SeqAt.searchFrom_nonneg hk] at hkm
        have hml : m < its.length := by simpa using hm
        have hmy : m < ys.length := by omega
        have hy' : ys[m]? = some ys[m] := List.getElem?_eq_getElem hmy
        obtain ⟨u2, hu2, ru2⟩ := rv.get hy'
        have e1 : its.toArray[m]? = some u2 := by simpa using hu2
        show (match its.toArray[m]? with | some u => L2.eqU y u | none => false) = false
        rw [e1]
        dsimp only
        rw [L2.eqU_of ru2 (flat_at fys hy')]
        exact hno m _ hkm hmj hy'
      · have e1 : its.toArray[m]? = some its.toArray[m] := Array.getElem?_eq_getElem hm
        show SeqAt.EqAt _ _ its.toArray[m] _ (match its.toArray[m]? with | some u => L2.eqU y u | none => false)
        rw [e1]
        exact mem_eqAt ry fy rv fys _ (by simp)
      · exact ⟨.int (j : Nat), H, I.tok _, ⟨_, rfl⟩, q⟩
theorem me_index : MtR X "list.index" (RM X.K fun h => meU h .index) := by
  intro pins s σ H x xs v us0 Q I rx r0 hh
  obtain ⟨ρ, h, a, us, u, h1, R, ra, ru, e, q⟩ := hh
  replace e : meIndex h a us = some (u, h1) := e
  unfold meIndex at e
  split at e
  · obtain ⟨y, rfl, ry⟩ := pd_one ru
    split at e
    · cases e
    · rename_i xs' ex
      obtain ⟨n, p, vs, _, rfl, _, rr, hs⟩ := rdL_rel R ra ex
      split at e
      · rename_i hf
        rw [Bool.and_eq_true] at hf
        split at e
        · rename_i i ei
          cases e
          obtain ⟨j, y', e1, e2, e3, e4⟩ := findI_spec _ _ _ ei
          have ej : i = j := by omega
          subst ej
          obtain ⟨z, hz, rz⟩ := pd_get rr e2
          have fy := List.all_eq_true.mp hf.2 _ (List.mem_of_getElem? e2)
          refine mt_index pins s σ H _ _ v us0 Q I rx r0 ⟨p, vs, y, i, z, rfl, rfl, hs, fl_rel ry hf.1, fls_rel rr hf.2, hz, by rw [eqF_rel rz ry fy hf.1]; exact e3, fun m z' hm hz' => ?_, q.here R rfl⟩
          obtain ⟨x', hx', rx'⟩ := pd_get' rr hz'
          rw [eqF_rel rx' ry (List.all_eq_true.mp hf.2 _ (List.mem_of_getElem? hx')) hf.1]
          exact e4 m x' hm hx'
        · cases e
      · cases e
  · obtain ⟨y, z, rfl, ry, rz⟩ := pd_two ru
    cases (show z = .int _ from rz)
    split at e
    · cases e
    · rename_i xs' ex
      obtain ⟨n, p, vs, _, rfl, _, rr, hs⟩ := rdL_rel R ra ex
      split at e
      · rename_i hf
        obtain ⟨hk, hf⟩ := hf
        rw [Bool.and_eq_true] at hf
        split at e
        · rename_i i ei
          cases e
          obtain ⟨j, y', e1, e2, e3, e4⟩ := findI_spec _ _ _ ei
          subst e1
          rw [List.getElem?_drop] at e2
          obtain ⟨z, hz, rz⟩ := pd_get rr e2
          have fy := List.all_eq_true.mp hf.2 _ (List.mem_of_getElem? e2)
          refine mt_index3 pins s σ H _ _ v us0 Q I rx r0 ⟨p, vs, y, _, _, z, rfl, rfl, hs, fl_rel ry hf.1, fls_rel rr hf.2, hk, Nat.le_add_right _ _, hz, by rw [eqF_rel rz ry fy hf.1]; exact e3, fun m z' hkm hm hz' => ?_, q.here R rfl⟩
          obtain ⟨x', hx', rx'⟩ := pd_get' rr hz'
          rw [eqF_rel rx' ry (List.all_eq_true.mp hf.2 _ (List.mem_of_getElem? hx')) hf.1]
          obtain ⟨c, rfl⟩ := Nat.exists_eq_add_of_le hkm
          exact e4 c x' (by omega) (by rw [List.getElem?_drop]; exact hx')
        · cases e
      · cases e
  · cases e
theorem me_count : MtR X "list.count" (RM X.K fun h => meU h .count) := by
  intro pins s σ H x xs v us0 Q I rx r0 hh
  obtain ⟨ρ, h, a, us, u, h1, R, ra, ru, e, q⟩ := hh
  replace e : meCount h a us = some (u, h1) := e
  unfold meCount at e
  split at e
  · obtain ⟨y, rfl, ry⟩ := pd_one ru
    cases (show y = .int _ from ry)
    split at e
    · cases e
    · rename_i xs' ex
      obtain ⟨n, p, vs, _, rfl, _, rr, hs⟩ := rdL_rel R ra ex
      split at e
      · cases e
      · rename_i l el
        cases e
        obtain ⟨e1, _⟩ := intsOf_rel rr el
        exact mt_lcount pins s σ H _ _ v us0 Q I rx r0 ⟨p, l, _, rfl, rfl, by rw [← e1]; exact hs, q.here R rfl⟩
  · cases e
theorem me_insert : MtR X "list.insert" (RM X.K fun h => meU h .insert) := by
  intro pins s σ H x xs v us0 Q I rx r0 hh
  obtain ⟨ρ, h, a, us, u, h1, R, ra, ru, e, q⟩ := hh
  replace e : meInsert h a us = some (u, h1) := e
  unfold meInsert at e
  split at e
  · obtain ⟨p, ep, rfl⟩ := ra
    obtain ⟨i', y, rfl, ri, ry⟩ := pd_two ru
    cases (show i' = .int _ from ri)
    split at e
    · rename_i xs' eo
      split at e
      · rename_i hz
        cases e
        obtain ⟨vs, rr, qq⟩ := R.ob _ _ p eo ep
        exact mt_insert pins s σ H _ _ v us0 Q I rx r0 ⟨p, vs, _, y, rfl, rfl, qq, by rw [← pd_len rr]; exact hz.1, hz.2.1, hz.2.2,
          q.upd ep (R.lst0 eo) (R.setL eo ep (pd_append (pd_append (pd_take _ rr) (.cons ry .nil)) (pd_drop _ rr))) rfl⟩
      · cases e
    · cases e
  · cases e
theorem me_extend : MtR X "list.extend" (RM X.K fun h => meU h .extend) := by
  intro pins s σ H x xs v us0 Q I rx r0 hh
  obtain ⟨ρ, h, a, us, u, h1, R, ra, ru, e, q⟩ := hh
  replace e : meExtend h a us = some (u, h1) := e
  unfold meExtend at e
  split at e
  · obtain ⟨p, ep, rfl⟩ := ra
    obtain ⟨y, rfl, p2, ep2, rfl⟩ := pd_one ru
    split at e
    · rename_i xs' ys' eo eo2
      split at e
      · rename_i hz
        cases e
        obtain ⟨vs, rr, qq⟩ := R.ob _ _ p eo ep
        obtain ⟨vs2, rr2, qq2⟩ := R.ob _ _ p2 eo2 ep2
        exact mt_extend pins s σ H _ _ v us0 Q I rx r0 ⟨p, p2, vs, vs2, rfl, rfl, qq, qq2, by rw [← pd_len rr, ← pd_len rr2]; exact hz, q.upd ep (R.lst0 eo) (R.setL eo ep (pd_append rr rr2)) rfl⟩
      · cases e
    · cases e
  · cases e
theorem me_pop : MtR X "list.pop" (RM X.K fun h => meU h .pop) := by
  intro pins s σ H x xs v us0 Q I rx r0 hh
  obtain ⟨ρ, h, a, us, u, h1, R, ra, ru, e, q⟩ := hh
  replace e : mePop h a us = some (u, h1) := e
  unfold mePop at e
  split at e
  · obtain ⟨p, ep, rfl⟩ := ra
    cases ru
    split at e
    · rename_i xs' eo
      split at e
      · rename_i y ey
        cases e
        obtain ⟨vs, rr, qq⟩ := R.ob _ _ p eo ep
        obtain ⟨z, hz, rz⟩ := pd_get rr ey
        rw [pd_len rr] at hz
        exact mt_pop pins s σ H _ _ v us0 Q I rx r0 ⟨p, vs, z, rfl, rfl, qq, hz, q.upd ep (R.lst0 eo) (R.setL eo ep (pd_dropLast rr)) rz⟩
      · cases e
    · cases e
  · cases e
end
end Mi

set_option maxRecDepth 100000
/-! Mi, part B3: how a term of the small syntax is a term of the model's; the readings. -/
namespace Mi
open PySem PySem.Spec PyProof.Rows L2

/-! ### the check -/
structure Tab where
  names : List Str
  kws : List (Nat × Nat × List Str × List Nat)
  dfs : List (Nat × List U)
structure Ga where
  N : List Str
  sc : Scope
  own : Scope
def visB (sc : Scope) (x : Str) : Bool := match sc.names.lookup x with
  | some .local => true
  | some .cell => true
  | some .free => true
  | _ => false
def glB (sc : Scope) (x : Str) : Bool := match sc.names.lookup x with
  | some .globalImplicit => true
  | _ => false
def tgB (sc : Scope) (x : Str) : Bool := match sc.names.lookup x with
  | some .local => true
  | some .cell => true
  | _ => false
def nmOk (x : Str) : Bool := !(x == ("__debug__" : Str)) && !(x == ("__classdict__" : Str)) && !(x == ("__name__" : Str))
def noStar : Expr → Bool
  | .Starred _ _ => false
  | _ => true
def noStars : List Expr → Bool
  | [] => true
  | e :: r => noStar e && noStars r
def notSet : Expr → Bool
  | .Set _ _ _ => false
  | _ => true
def notSlice : Expr → Bool
  | .Slice _ _ _ _ => false
  | _ => true
def plainTest : Expr → Bool
  | .UnaryOp .Not _ _ => false
  | .BoolOp _ _ _ => false
  | .IfExp _ _ _ _ => false
  | .Compare _ _ _ _ => false
  | _ => true
def plainBase : Expr → Bool
  | .Call (.Name id _) _ _ _ => id != ("super" : Str)
  | .Call _ _ _ _ => false
  | _ => true
def opB : Bop → Operator → Bool
  | .add, .Add => true | .sub, .Sub => true | .mul, .Mult => true | .fdiv, .FloorDiv => true | .mod, .Mod => true | .pow, .Pow => true
  | _, _ => false
theorem opB_eq : ∀ {b : Bop} {o : Operator}, opB b o = true → o = pyB b := fun {b o} h => by cases b <;> cases o <;> first | rfl | exact Bool.noConfusion h
def opC : Cop → CmpOp → Bool
  | .eq, .Eq => true | .ne, .NotEq => true | .lt, .Lt => true | .le, .LtE => true | .gt, .Gt => true | .ge, .GtE => true | .is, .Is => true | .isn, .IsNot => true | .isin, .In => true | .nin, .NotIn => true
  | _, _ => false
theorem opC_eq : ∀ {b : Cop} {o : CmpOp}, opC b o = true → o = pyC b := fun {b o} h => by cases b <;> cases o <;> first | rfl | exact Bool.noConfusion h
def biS : Bi → Str
  | .len => "len" | .sum => "sum" | .min1 => "min" | .max1 => "max" | .min2 => "min" | .max2 => "max" | .all => "all" | .any => "any" | .abs => "abs"
  | .int => "int" | .list => "list" | .tuple => "tuple" | .sorted => "sorted" | .repr => "repr"
def meS : Me → Str
  | .append => "append" | .index => "index" | .count => "count" | .insert => "insert" | .extend => "extend" | .pop => "pop" | .bitlen => "bit_length"
def tyS : Ty → Str
  | .int => "int" | .bool => "bool" | .str => "str" | .list => "list" | .tuple => "tuple" | .dict => "dict"
def chTys (sc : Scope) : List Ty → List Expr → Bool
  | [], [] => true
  | t :: ts, .Name x _ :: es => decide (x = tyS t) && glB sc x && chTys sc ts es
  | _, _ => false
def chT (N : List Str) (own : Scope) : Tn → Expr → Bool
  | .nm i, .Name x _ => decide (N[i]? = some x) && tgB own x
  | .tp2 a b, .Tuple [pa, pb] _ _ => chT N own a pa && chT N own b pb
  | .tp3 a b c, .Tuple [pa, pb, pc] _ _ => chT N own a pa && chT N own b pb && chT N own c pc
  | _, _ => false
def slots : Tn → List Nat
  | .nm i => [i]
  | .tp2 a b => slots a ++ slots b
  | .tp3 a b c => slots a ++ slots b ++ slots c
def tgIn (own : List Nat) (t : Tn) : Bool := (slots t).all fun i => decide (i ∈ own)
def isTup : Expr → Bool
  | .Tuple _ _ _ => true
  | _ => false
def isNon : Ex → Bool
  | .non => true
  | _ => false
def isTt : Ex → Bool
  | .bl true => true
  | _ => false
def isNil : Exs → Bool
  | .nil => true
  | _ => false
/-- what is walked: f and g check the two parts -/
def chI (sc : Scope) (f g : Expr → Bool) (nb : Bool) (sk : Sk) (tg it : Expr) : Bool :=
  notSet it && match sk with
  | .seq => nb && f it
  | .rng1 => match it with
    | .Call (.Name x _) [pa] [] _ => decide (x = ("range" : Str)) && glB sc x && noStar pa && nb && f pa
    | _ => false
  | .rng2 => match it with
    | .Call (.Name x _) [pa, pb] [] _ => decide (x = ("range" : Str)) && glB sc x && noStar pa && noStar pb && f pa && g pb
    | _ => false
  | .rngd => match it with
    | .Call (.Name x _) [pa, pb, .UnaryOp .USub (.Constant (.int i) _ _) _] [] _ => decide (x = ("range" : Str)) && glB sc x && noStar pa && noStar pb && f pa && g pb && decide (i = 1)
    | _ => false
  | .enum => match it with
    | .Call (.Name x _) [pa] [] _ => decide (x = ("enumerate" : Str)) && glB sc x && noStar pa && nb && f pa && isTup tg
    | _ => false
  | .zip => match it with
    | .Call (.Name x _) [pa, pb] [] _ => decide (x = ("zip" : Str)) && glB sc x && noStar pa && noStar pb && f pa && g pb && isTup tg
    | _ => false
  | .rev => match it with
    | .Call (.Name x _) [pa] [] _ => decide (x = ("reversed" : Str)) && glB sc x && noStar pa && nb && f pa
    | _ => false
def ownP (N : List Str) (own : List Nat) : List (Str × Nat) := own.map fun i => (N.getD i "", i)
def kwN : List Keyword → List Str
  | [] => []
  | ⟨some x, _, _⟩ :: r => x :: kwN r
  | ⟨none, _, _⟩ :: r => kwN r
mutual
def chE (T : Tab) : Ga → Ex → Expr → Bool
  | G, .var i, pe => match pe with
    | .Name x _ => decide (G.N[i]? = some x) && visB G.sc x && nmOk x
    | _ => false
  | _, .int i, pe => match pe with
    | .Constant (.int j) _ _ => decide (i = j)
    | _ => false
  | _, .bl i, pe => match pe with
    | .Constant (.bool j) _ _ => decide (i = j)
    | _ => false
  | _, .non, pe => match pe with
    | .Constant .none _ _ => true
    | _ => false
  | _, .str i, pe => match pe with
    | .Constant (.str j) _ _ => decide (i = j)
    | _ => false
  | G, .bin op a b, pe => match pe with
    | .BinOp pa po pb _ => opB op po && chE T G a pa && chE T G b pb
    | _ => false
  | G, .neg a, pe => match pe with
    | .UnaryOp .USub pa _ => chE T G a pa
    | _ => false
  | G, .not a, pe => match pe with
    | .UnaryOp .Not pa _ => chE T G a pa
    | _ => false
  | G, .and a b, pe => match pe with
    | .BoolOp .And [pa, pb] _ => chE T G a pa && chE T G b pb
    | .BoolOp .And (pa :: pb :: pc :: r) pos => chE T G a pa && chE T G b (.BoolOp .And (pb :: pc :: r) pos)
    | _ => false
  | G, .or a b, pe => match pe with
    | .BoolOp .Or [pa, pb] _ => chE T G a pa && chE T G b pb
    | .BoolOp .Or (pa :: pb :: pc :: r) pos => chE T G a pa && chE T G b (.BoolOp .Or (pb :: pc :: r) pos)
    | _ => false
  | G, .ite c a b, pe => match pe with
    | .IfExp pc pa pb _ => chE T G c pc && chE T G a pa && chE T G b pb
    | _ => false
  | G, .cmp op a b, pe => match pe with
    | .Compare pa [po] [pb] _ => opC op po && notSet pb && chE T G a pa && chE T G b pb
    | _ => false
  | G, .chain op op' a b c, pe => match pe with
    | .Compare pa [po, po'] [pb, pc] _ => opC op po && opC op' po' && notSet pc && chE T G a pa && chE T G b pb && chE T G c pc
    | _ => false
  | G, .list es, pe => match pe with
    | .List pes _ => noStars pes && chEs T G es pes
    | _ => false
  | G, .tup es, pe => match pe with
    | .Tuple pes _ _ => noStars pes && chEs T G es pes
    | _ => false
  | G, .sub a i, pe => match pe with
    | .Subscript pa pi _ => notSlice pi && chE T G a pa && chE T G i pi
    | _ => false
  | G, .slice a fl fh lo hi, pe => match pe with
    | .Subscript pa (.Slice plo phi none _) _ => chE T G a pa &&
        (match plo with
          | none => !fl && isNon lo
          | some q => fl && chE T G lo q) &&
        (match phi with
          | none => !fh && isNon hi
          | some q => fh && chE T G hi q)
    | _ => false
  | G, .rev a, pe => match pe with
    | .Subscript pa (.Slice none none (some (.UnaryOp .USub (.Constant (.int i) _ _) _)) _) _ => decide (i = 1) && chE T G a pa
    | _ => false
  | G, .call f es dv, pe => match pe with
    | .Call (.Name x _) pes [] _ => decide (T.names[f]? = some x) && glB G.sc x && nmOk x && noStars pes && chEs T G es pes && (dv.isEmpty || decide ((f, dv) ∈ T.dfs))
    | _ => false
  | G, .callk f es ks sh pm, pe => match pe with
    | .Call (.Name x _) pes kws _ => decide (T.names[f]? = some x) && glB G.sc x && nmOk x && noStars pes && chEs T G es pes && chKs T G ks kws && !isNil ks && decide (T.kws[sh]? = some (f, pes.length, kwN kws, pm))
    | _ => false
  | G, .bi b es, pe => match pe with
    | .Call (.Name x _) pes [] _ => decide (x = biS b) && glB G.sc x && noStars pes && !isNil es && chEs T G es pes
    | _ => false
  | G, .isi a t, pe => match pe with
    | .Call (.Name x _) [pa, .Name y _] [] _ => decide (x = ("isinstance" : Str)) && glB G.sc x && decide (y = tyS t) && glB G.sc y && noStar pa && chE T G a pa
    | _ => false
  | G, .isi2 a ts, pe => match pe with
    | .Call (.Name x _) [pa, .Tuple ptys _ _] [] _ => decide (x = ("isinstance" : Str)) && glB G.sc x && chTys G.sc ts ptys && (!ts.isEmpty && decide (ts.length ≤ 1000)) && noStar pa && chE T G a pa
    | _ => false
  | G, .meth m o es, pe => match pe with
    | .Call (.Attribute po nm apos) pes [] cpos => decide (nm = meS m) && plainBase po && (apos.endLine == cpos.line) && noStars pes && decide (pes.length < 30) && chE T G o po && chEs T G es pes
    | _ => false
  | G, .lrng a, pe => match pe with
    | .Call (.Name x _) [.Call (.Name y _) [pa] [] _] [] _ => decide (x = ("list" : Str)) && glB G.sc x && decide (y = ("range" : Str)) && glB G.sc y && noStar pa && chE T G a pa
    | _ => false
  | G, .lc own tg sk a b cond elt, pe => match pe with
    | .ListComp pelt [⟨ptg, pit, ifs, 0⟩] scope _ => blkC G.N G.sc scope (ownP G.N own) && chI G.sc (fun e => chE T G a e) (fun e => chE T G b e) (isNon b) sk ptg pit && chT G.N scope tg ptg && tgIn own tg &&
        (match ifs with
          | [] => isTt cond
          | [pc] => chE T ⟨G.N, relS scope G.sc, scope⟩ cond pc
          | _ => false) && chE T ⟨G.N, relS scope G.sc, scope⟩ elt pelt
    | _ => false
  | G, .lc2 own vs tg sk a b cond tg1 sk1 a1 b1 cond1 elt, pe => match pe with
    | .ListComp pelt [⟨ptg, pit, ifs, 0⟩, ⟨ptg1, pit1, ifs1, 0⟩] scope _ => blkC G.N G.sc scope (ownP G.N own) && chI G.sc (fun e => chE T G a e) (fun e => chE T G b e) (isNon b) sk ptg pit && chT G.N scope tg ptg && tgIn own tg &&
        (match ifs with
          | [] => isTt cond
          | [pc] => chE T ⟨G.N, relS scope G.sc, scope⟩ cond pc
          | _ => false) &&
        chI (relS scope G.sc) (fun e => chE T ⟨G.N, relS scope G.sc, scope⟩ a1 e) (fun e => chE T ⟨G.N, relS scope G.sc, scope⟩ b1 e) (isNon b1) sk1 ptg1 pit1 && chT G.N scope tg1 ptg1 && tgIn vs tg1 &&
        (match ifs1 with
          | [] => isTt cond1
          | [pc] => chE T ⟨G.N, relS scope G.sc, scope⟩ cond1 pc
          | _ => false) && chE T ⟨G.N, relS scope G.sc, scope⟩ elt pelt && vs.all fun i => decide (i ∈ own)
    | _ => false
def chEs (T : Tab) : Ga → Exs → List Expr → Bool
  | _, .nil, ps => match ps with
    | [] => true
    | _ => false
  | G, .cons e es, ps => match ps with
    | p :: ps => chE T G e p && chEs T G es ps
    | _ => false
def chKs (T : Tab) : Ga → Exs → List Keyword → Bool
  | _, .nil, ps => match ps with
    | [] => true
    | _ => false
  | G, .cons e es, ps => match ps with
    | ⟨some _, p, _⟩ :: ps => chE T G e p && chKs T G es ps
    | _ => false
end

/-! ### the readings -/
section
variable (K : PySem.W.Frag) (C : Calls)
def tE (e : Ex) : TE := fun σ H Q => ∃ ρ env h u h1, REnv ρ env σ ∧ Rel K ρ h H ∧ evE C e env h = some (u, h1) ∧ Pst K ρ H u h1 Q
def tB' (e : Ex) : TT := fun σ H Q => ∃ ρ env h b h1, REnv ρ env σ ∧ Rel K ρ h H ∧ evE C e env h = some (.bl b, h1) ∧ ∀ ρ' H', Ext ρ H ρ' H' → Rel K ρ' h1 H' → Q b H'
def PsV (ρ : List Addr) (H : Hp) (us : List U) (h1 : Hm) (Q : List V → Hp → Prop) : Prop := ∀ ρ' vs H', Ext ρ H ρ' H' → Rel K ρ' h1 H' → RUs ρ' us vs → Q vs H'
def tEs (es : Exs) : TA := fun σ H Q => ∃ ρ env h us h1, REnv ρ env σ ∧ Rel K ρ h H ∧ evEs C es env h = some (us, h1) ∧ PsV K ρ H us h1 Q
end
theorem imE {X : Cx} {e : Expr} {t t' : TE} (p : PE X e t) (i : ∀ σ H Q, t' σ H Q → t σ H Q) : PE X e t' := ⟨fun pins s σ H Q I h => p.run pins s σ H Q I (i _ _ _ h)⟩
theorem imT {X : Cx} {e : Expr} {t t' : TT} (p : PT X e t) (i : ∀ σ H Q, t' σ H Q → t σ H Q) : PT X e t' := ⟨fun pins s σ H Q I h => p.run pins s σ H Q I (i _ _ _ h)⟩
theorem imW {X : Cx} {e : Expr} {t t' : TT} (p : PW X e t) (i : ∀ σ H Q, t' σ H Q → t σ H Q) : PW X e t' := ⟨fun wh pins s σ H Q I h => p.run wh pins s σ H Q I (i _ _ _ h)⟩
theorem imA {X : Cx} {e : List Expr} {t t' : TA} (p : PA X e t) (i : ∀ σ H Q, t' σ H Q → t σ H Q) : PA X e t' := ⟨fun pos pins s σ H Q I h => p.run pos pins s σ H Q I (i _ _ _ h)⟩
theorem imK {X : Cx} {e : List Keyword} {t t' : TA} (p : PK X e t) (i : ∀ σ H Q, t' σ H Q → t σ H Q) : PK X e t' := ⟨fun pos pins s σ H Q I h => p.run pos pins s σ H Q I (i _ _ _ h)⟩
theorem imI {X : Cx} {tg e : Expr} {t t' : TI} (p : PI X tg e t) (i : ∀ σ H Q, t' σ H Q → t σ H Q) : PI X tg e t' := ⟨fun pins s σ H Q I h => p.run pins s σ H Q I (i _ _ _ h)⟩
theorem imG {X : Cx} {tg : Expr} {t t' : TG} (p : PG X tg t) (i : ∀ v σ H Q, t' v σ H Q → t v σ H Q) : PG X tg t' := ⟨fun pins s σ H v u Q I r h => p.run pins s σ H v u Q I r (i _ _ _ _ h)⟩
theorem bd_some {α β : Type} {o : Option (α × Hm)} {k : α → Hm → Option β} {r : β} (e : bd o k = some r) : ∃ x h, o = some (x, h) ∧ k x h = some r := by
  unfold bd at e
  split at e
  · exact ⟨_, _, rfl, e⟩
  · cases e
theorem ob_some {α β : Type} {o : Option α} {k : α → Option β} {r : β} (e : ob o k = some r) : ∃ x, o = some x ∧ k x = some r := by
  unfold ob at e
  split at e
  · exact ⟨_, rfl, e⟩
  · cases e
theorem bf_some {β : Type} {u : U} {p q : Option β} {r : β} (e : bf u p q = some r) : ∃ b, u = .bl b ∧ (if b = true then p else q) = some r := by
  unfold bf at e
  split at e
  · exact ⟨true, rfl, e⟩
  · exact ⟨false, rfl, e⟩
  · cases e
theorem env_get {ρ : List Addr} {env : Env} {σ : L2.St} (re : REnv ρ env σ) {i : Nat} {u : U} (e : getE env i = some u) : ∃ v, σ[i]? = some (some v) ∧ RU ρ u v := by
  unfold getE at e
  split at e
  · rename_i w ew
    cases e
    obtain ⟨v, hv, rv⟩ := pd_get re ew
    cases v with
    | none => exact absurd rv (fun z => z)
    | some v => exact ⟨v, hv, rv⟩
  · cases e

/-! ### side conditions -/
theorem star_cons {e : Expr} {es : List Expr} {env : PySem.Env} (h : noStar e = true) : starEach (e :: es) env = (false, eval e env) :: starEach es env := by
  cases e <;> first | rfl | exact Bool.noConfusion h
theorem star_any : ∀ {es : List Expr} {env : PySem.Env} {pos : Pos}, noStars es = true → (backTo pos (starEach es env)).any (·.1) = false
  | [], _, _, _ => rfl
  | e :: es, env, pos, h => by
    unfold noStars at h
    rw [Bool.and_eq_true] at h
    rw [star_cons h.1]
    show ((false, eval e env) :: backTo pos (starEach es env)).any (·.1) = false
    rw [List.any_cons, star_any h.2]
    rfl
theorem star_all : ∀ {es : List Expr} {env : PySem.Env} {pos : Pos}, noStars es = true → (backTo pos (starEach es env)).all (fun x => !x.1) = true
  | [], _, _, _ => rfl
  | e :: es, env, pos, h => by
    unfold noStars at h
    rw [Bool.and_eq_true] at h
    rw [star_cons h.1]
    show ((false, eval e env) :: backTo pos (starEach es env)).all (fun x => !x.1) = true
    rw [List.all_cons, star_all h.2]
    rfl
theorem test_plain {e : Expr} {env : PySem.Env} (h : plainTest e = true) : ∀ whole, isTrue e env whole = (do let v ← whole; standAt e.pos; holding [v] (truthy v)) := by
  intro whole
  cases e <;> first | rfl | exact Bool.noConfusion h | (rename_i op _ _; cases op <;> first | rfl | exact Bool.noConfusion h)
theorem base_plain {e : Expr} {a : Str} {env : PySem.Env} {w : Sem Value} (h : plainBase e = true) : attributeBase e a env w = w := by
  cases e with
  | Call f as ks p =>
    cases f with
    | Name id q =>
      cases as with
      | nil =>
        cases ks with
        | nil => exact abase_call h
        | cons _ _ => rfl
      | cons _ _ => rfl
    | _ => exact Bool.noConfusion h
  | _ => rfl
theorem ix_plain {e : Expr} (h : notSlice e = true) : PlainIx e := by
  intro o i
  cases e <;> first | rfl | exact Bool.noConfusion h
theorem set_marks {e : Expr} {op : CmpOp} (h : notSet e = true) : behindInMarks op e = false := by
  cases e <;> first | rfl | exact Bool.noConfusion h
theorem set_folded {e : Expr} {env : PySem.Env} (h : notSet e = true) : ∀ x, foldedSetIterable e env x = pure x := by
  intro x
  cases e <;> first | rfl | exact Bool.noConfusion h
theorem vis_of {sc : Scope} {x : Str} (h : visB sc x = true) : Vis sc x := by
  unfold visB at h
  split at h
  · exact .inl ‹_›
  · exact .inr (.inl ‹_›)
  · exact .inr (.inr ‹_›)
  · exact Bool.noConfusion h
theorem gl_of {X : Cx} {x : Str} (h : glB X.env.scope x = true) : Gl X x := by
  unfold glB at h
  split at h
  · rename_i e
    exact e
  · exact Bool.noConfusion h
theorem nm_dbg {x : Str} (h : nmOk x = true) : (x == ("__debug__" : Str)) = false ∧ (x == ("__classdict__" : Str)) = false ∧ x ≠ "__name__" := by
  unfold nmOk at h
  simp only [Bool.and_eq_true, Bool.not_eq_true'] at h
  exact ⟨h.1.1, h.1.2, fun z => by rw [z] at h; exact absurd h.2 (by decide)⟩

/-- isTrue of a conditional expression -/
theorem pt_iteE {X : Cx} {c a b : Expr} {pos : Pos} {tc ta tb : TT} (hc : PT X c tc) (ha : PT X a ta) (hb : PT X b tb) : PT X (.IfExp c a b pos) (fun σ H Q => tc σ H fun d H1 => if d = true then ta σ H1 Q else tb σ H1 Q) := by
  refine ⟨fun pins s σ H Q I h => ?_⟩
  show wpAny _ _ (do if ← isTrue c X.env (eval c X.env) then isTrue a X.env (eval a X.env) else isTrue b X.env (eval b X.env)) _ _ s
  refine wpAny_bind (thn (hc.run pins s σ H _ I h) fun d s1 ⟨H1, I1, q1⟩ => ?_)
  cases d with
  | true => exact ha.run pins s1 σ H1 Q I1 q1
  | false => exact hb.run pins s1 σ H1 Q I1 q1
/-- f(k = v, ..), no positional argument -/
theorem pe_callN0 {X : Cx} {CX : CXT} {k : Nat} {f : Addr} {fd : FuncData} {ps ks : List Str} {sp : Sp} {E : XK} {x : Str} {p pos : Pos} {kws : List Keyword} {tk : TA} {g : List Value → List Value → List Value} {gV : List V → List V → List V}
    (F : FnOk X.prog X.w X.K X.mg X.base CX k f fd ps sp) (hr : Room k X.A) (hg : Gl X x) (hm : X.mg x = some (.ref f)) (hk : PySem.W.keepIn X.K (.ref f) = true) (hb : KBn X.K fd ps 0 ks g gV) (hx : Passes CX X E)
    (hkw : PK X kws tk) (hall : (backToKw pos (keywordEach kws X.env)).all (·.1.isSome) = true) (hks : (backToKw pos (keywordEach kws X.env)).filterMap (·.1) = ks)
    (hdb : (x == ("__debug__" : Str)) = false) (hpl : ((backTo pos (starEach [] X.env)).any (·.1) || (backToKw pos (keywordEach kws X.env)).any (·.1.isNone)) = false) :
    PE X (.Call (.Name x p) [] kws pos) (tCallN 0 ks.length sp gV E tNil tk) := by
  refine ⟨fun pins s σ H Q I h => ?_⟩
  refine wpAny_Call_Name_kw (ld_glob I hg hm ?_ hdb)
  refine PySem.W.callWith_KW0 (h₀ := X.base) I.ok.mod.kin hk hall ?_ hpl
  refine thn (hkw.run pos pins s σ H _ I h) fun ws s2 ⟨zs, H2, I2, rz, l1, l2, q2⟩ => ⟨I2.kIn, ?_⟩
  rw [hks]
  exact run_fnN (us := []) F hr hb hx I2 .nil rz l1 l2 q2
end Mi

set_option maxRecDepth 100000
/-! Mi, part B4: contexts, targets, what is walked. -/
namespace Mi
open PySem PySem.Spec PyProof.Rows L2

def vOf : U → V
  | .non => .non
  | .bl b => .bl b
  | .int i => .int i
  | .str s => .str s
  | .ref _ => .non
def noRef : U → Bool
  | .ref _ => false
  | _ => true
def btNames : List Str := ["len", "sum", "min", "max", "all", "any", "abs", "int", "list", "tuple", "sorted", "bool", "str", "dict", "isinstance", "range", "enumerate", "zip", "reversed", "repr"]
def spC (K : PySem.W.Frag) (C : Calls) (f : Nat) : Sp := fun vs H Q _ => ∃ ρ h us u h1, Rel K ρ h H ∧ RUs ρ us vs ∧ C f us h = some (u, h1) ∧ Pst K ρ H u h1 Q
def gvO (pm : List Nat) : List V → List V → List V := fun vs zs => pm.map fun i => (vs ++ zs).getD i .non
structure CtxOk (T : Tab) (C : Calls) (k : Nat) (G : Ga) (X : Cx) : Prop where
  N : X.N = G.N
  sc : X.env.scope = G.sc
  tg : ∀ x, tgB G.own x = true → Loc X.env.scope x ∧ (X.fn x = true ∨ X.env.scope.names.lookup x = some .local)
  nd : X.N.Nodup
  calm : X.calm = true
  room : Room k X.A
  gd : X.A.guards = some []
  bt : ∀ x ∈ btNames, X.mg x = none
  fns : ∀ f x, T.names[f]? = some x → ∃ a fd ps, X.mg x = some (.ref a) ∧ PySem.W.keepIn X.K (.ref a) = true ∧ FnG X.prog X.w X.K X.mg X.base CX0 k a fd ps (spC X.K C f) ∧
    Binds X.K fd ps [] ∧ (∀ dv, (f, dv) ∈ T.dfs → dv.all noRef = true ∧ ∃ ds, Binds X.K fd ps ds ∧ Vals (dv.map vOf) ds) ∧
    ∀ (sh np : Nat) (ks : List Str) (pm : List Nat), T.kws[sh]? = some (f, np, ks, pm) → ∃ g, KBn X.K fd ps np ks g (gvO pm)
theorem lookup_mapk {f : Str → NameKind → NameKind} {x : Str} : ∀ {l : List (Str × NameKind)}, (l.map fun (n, k) => (n, f n k)).lookup x = (l.lookup x).map (f x)
  | [] => rfl
  | (n, k) :: r => by
    have ih := @lookup_mapk f x r
    rw [List.map_cons, List.lookup_cons, List.lookup_cons]
    cases hb : x == n with
    | true => have : x = n := by simpa using hb
              subst this; rfl
    | false => exact ih
theorem relS_keep {scope sc : Scope} {x : Str} {k : NameKind} (hk : k ≠ .free) (h : scope.names.lookup x = some k) : (relS scope sc).names.lookup x = some k := lookup_relS_keep hk h
theorem CtxOk.blk {T : Tab} {C : Calls} {k : Nat} {G : Ga} {X : Cx} (c : CtxOk T C k G X) (s : Shared) (H : Hp) (scope : Scope) (cl : List (Str × Addr)) (A : Addr) (fp : List Addr) :
    CtxOk T C k ⟨G.N, relS scope G.sc, scope⟩ (X.blk s H scope (compEnvC scope cl A X.env) fp) := by
  have e : relabel scope X.env = relS scope G.sc := by
    unfold relabel relS
    rw [← c.sc]
    rfl
  refine ⟨c.N, e, fun x hx => ?_, c.nd, c.calm, c.room, c.gd, c.bt, c.fns⟩
  show Loc (relabel scope X.env) x ∧ ((scope.names.lookup x == some .cell) = true ∨ (relabel scope X.env).names.lookup x = some .local)
  rw [e]
  unfold tgB at hx
  split at hx
  · rename_i hl
    have := relS_keep (sc := G.sc) (by decide) hl
    exact ⟨.inl this, .inr this⟩
  · rename_i hl
    have := relS_keep (sc := G.sc) (by decide) hl
    exact ⟨.inr this, .inl (by rw [hl]; rfl)⟩
  · exact Bool.noConfusion hx

/-! ### targets -/
section
variable (K : PySem.W.Frag)
def IvR (ρ : List Addr) (v : Iv) (x : V) (H H' : Hp) : Prop :=
  match v with
  | .one u => H' = H ∧ RU ρ u x
  | .two u w => ∃ a x1 x2, x = .ref a ∧ H a = none ∧ H' = upd H a (.tup [x1, x2]) ∧ RU ρ u x1 ∧ RU ρ w x2
def Wp (tn : Tn) (σ σ1 : L2.St) : Prop := ∀ vs : List Nat, (∀ i ∈ slots tn, i ∈ vs) → wipe σ1 vs = wipe σ vs
def gB (tn : Tn) : TG := fun x σ H Q => ∃ ρ h u env env1, Rel K ρ h H ∧ RU ρ u x ∧ REnv ρ env σ ∧ bindT h tn u env = some env1 ∧ ∀ σ1, REnv ρ env1 σ1 → Wp tn σ σ1 → Q σ1 H
def gC (tn : Tn) : TG := fun x σ H' Q => ∃ ρ h v env env1 H, Rel K ρ h H ∧ IvR ρ v x H H' ∧ REnv ρ env σ ∧ bindI h tn v env = some env1 ∧ ∀ σ1, REnv ρ env1 σ1 → Wp tn σ σ1 → Q σ1 H'
end
theorem chT_nm {N : List Str} {own : Scope} {i : Nat} {pe : Expr} (h : chT N own (.nm i) pe = true) : ∃ x p, pe = .Name x p ∧ decide (N[i]? = some x) = true ∧ tgB own x = true := by
  cases pe with
  | Name x p => exact ⟨x, p, rfl, by simpa [chT] using h⟩
  | _ => simp [chT] at h
theorem chT_tp2 {N : List Str} {own : Scope} {a b : Tn} {pe : Expr} (h : chT N own (.tp2 a b) pe = true) : ∃ pa pb k p, pe = .Tuple [pa, pb] k p ∧ chT N own a pa = true ∧ chT N own b pb = true := by
  cases pe with
  | Tuple es k p =>
    match es, h with
    | [pa, pb], h => exact ⟨pa, pb, k, p, rfl, by simpa [chT] using h⟩
    | [], h => simp [chT] at h
    | [_], h => simp [chT] at h
    | _ :: _ :: _ :: _, h => simp [chT] at h
  | _ => simp [chT] at h
theorem chT_tp3 {N : List Str} {own : Scope} {a b c : Tn} {pe : Expr} (h : chT N own (.tp3 a b c) pe = true) : ∃ pa pb pc k p, pe = .Tuple [pa, pb, pc] k p ∧ (chT N own a pa = true ∧ chT N own b pb = true) ∧ chT N own c pc = true := by
  cases pe with
  | Tuple es k p =>
    match es, h with
    | [pa, pb, pc], h => exact ⟨pa, pb, pc, k, p, rfl, by simpa [chT, and_assoc] using h⟩
    | [], h => simp [chT] at h
    | [_], h => simp [chT] at h
    | [_, _], h => simp [chT] at h
    | _ :: _ :: _ :: _ :: _, h => simp [chT] at h
  | _ => simp [chT] at h
theorem pd_three {α β : Type} {F : α → β → Prop} {a b c : α} {ys : List β} (r : Paired F [a, b, c] ys) : ∃ x y z, ys = [x, y, z] ∧ F a x ∧ F b y ∧ F c z := by
  cases r with
  | cons q t => obtain ⟨y, z, rfl, q2, q3⟩ := pd_two t; exact ⟨_, _, _, rfl, q, q2, q3⟩
theorem asg_cons {e : Expr} {es : List Expr} {env : PySem.Env} (h : noStar e = true) : assignEach (e :: es) env = (false, assign e env) :: assignEach es env := by
  cases e <;> first | rfl | exact Bool.noConfusion h
theorem asg_len : ∀ {es : List Expr} {env : PySem.Env}, noStars es = true → (assignEach es env).length = es.length
  | [], _, _ => rfl
  | e :: es, env, h => by
    unfold noStars at h
    rw [Bool.and_eq_true] at h
    rw [asg_cons h.1, List.length_cons, List.length_cons, asg_len h.2]
theorem asg_find : ∀ {es : List Expr} {env : PySem.Env}, noStars es = true → (assignEach es env).findIdx? (·.1) = none
  | [], _, _ => rfl
  | e :: es, env, h => by
    unfold noStars at h
    rw [Bool.and_eq_true] at h
    rw [asg_cons h.1, List.findIdx?_cons, asg_find h.2]
    rfl
theorem asg_map {e : Expr} {es : List Expr} {env : PySem.Env} (h : noStar e = true) : (assignEach (e :: es) env).map (·.2) = assign e env :: (assignEach es env).map (·.2) := by
  rw [asg_cons h]; rfl
theorem chT_star {N : List Str} {own : Scope} {t : Tn} {pe : Expr} (h : chT N own t pe = true) : noStar pe = true := by
  cases pe with
  | Starred e p => cases t <;> simp [chT] at h
  | _ => rfl
theorem orG {X : Cx} {tg : Expr} {t t' : TG} (p : PG X tg t) (p' : PG X tg t') : PG X tg (fun v σ H Q => t v σ H Q ∨ t' v σ H Q) :=
  ⟨fun pins s σ H v u Q I r h => h.elim (p.run pins s σ H v u Q I r) (p'.run pins s σ H v u Q I r)⟩
theorem wipe_set {x : Option V} {i : Nat} : ∀ {vs : List Nat} {σ : L2.St}, i ∈ vs → wipe (σ.set i x) vs = wipe σ vs
  | [], _, h => absurd h (by simp)
  | j :: vs, σ, h => by
    show (wipe (σ.set i x) vs).set j none = (wipe σ vs).set j none
    by_cases hj : i ∈ vs
    · rw [wipe_set hj]
    · have e : i = j := by
        rcases List.mem_cons.mp h with e | e
        · exact e
        · exact absurd e hj
      subst e
      have key : ∀ (vs : List Nat) (σ : L2.St), i ∉ vs → wipe (σ.set i x) vs = (wipe σ vs).set i x := by
        intro vs
        induction vs with
        | nil => intro σ _; rfl
        | cons a r ih =>
          intro σ hn
          have h1 : i ≠ a := fun z => hn (by rw [z]; exact List.mem_cons_self)
          show (wipe (σ.set i x) r).set a none = ((wipe σ r).set a none).set i x
          rw [ih σ fun m => hn (List.mem_cons_of_mem _ m), List.set_comm _ _ h1]
      rw [key vs σ hj, List.set_set]
theorem Wp.trans {t : Tn} {σ σ1 σ2 : L2.St} {a : Tn} {b : Tn} (h1 : Wp a σ σ1) (h2 : Wp b σ1 σ2) (s1 : ∀ i ∈ slots a, i ∈ slots t) (s2 : ∀ i ∈ slots b, i ∈ slots t) : Wp t σ σ2 := fun vs h =>
  (h2 vs fun i hi => h i (s2 i hi)).trans (h1 vs fun i hi => h i (s1 i hi))
section
variable {T : Tab} {C : Calls} {k : Nat} {G : Ga} {X : Cx}
theorem pg_B (c : CtxOk T C k G X) : ∀ (tn : Tn) (pe : Expr), chT G.N G.own tn pe = true → PG X pe (gB X.K tn)
  | .nm i, pe, h => by
    obtain ⟨x, pos, rfl, h0⟩ := chT_nm h
    clear h
    have h := h0
    have hi := of_decide_eq_true h.1
    obtain ⟨l1, l2⟩ := c.tg _ h.2
    refine imG (pg_name c.nd (by rw [c.N]; exact hi) l1 l2) fun v σ H Q q => ?_
    obtain ⟨ρ, hh, u, env, env1, R, r, re, e, q⟩ := q
    cases e
    exact q _ (pd_set (F := RUo ρ) (x := some u) (y := some v) r i re) fun vs hv => wipe_set (hv i (by simp [slots]))
  | .tp2 a b, pe, h => by
    obtain ⟨p1', p2', k', pos, rfl, h0⟩ := chT_tp2 h
    clear h
    have h := h0
    have pa := pg_B c _ _ h.1
    have pb := pg_B c _ _ h.2
    have n1 := chT_star h.1
    have n2 := chT_star h.2
    have ns : noStars [p1', p2'] = true := by simp [noStars, n1, n2]
    have pp := pgs_cons pa (pgs_cons pb pgs_nil (asg_map n2)) (asg_map n1)
    refine imG (orG (pg_tup c.calm pp (asg_len ns) (asg_find ns)) (pg_unl c.calm pp (asg_len ns) (asg_find ns))) fun v σ H Q q => ?_
    obtain ⟨ρ, hh, u, env, env1, R, r, re, e, q⟩ := q
    unfold bindT at e
    split at e
    · rename_i x y es
      obtain ⟨n, p, vs, _, rfl, _, rr, hs⟩ := rdS_rel R r es
      obtain ⟨v1, v2, rfl, r1, r2⟩ := pd_two rr
      split at e
      · rename_i σ1 ea
        have fin : gCons (gB X.K a) (gCons (gB X.K b) gNil) [v1, v2] σ H Q := by
          refine ⟨v1, [v2], rfl, ρ, hh, x, env, σ1, R, r1, re, ea, fun τ1 rτ1 w1 => ⟨v2, [], rfl, ρ, hh, y, σ1, env1, R, r2, rτ1, e, fun τ2 rτ2 w2 => ⟨rfl, q τ2 rτ2 (w1.trans w2 (fun i hi => ?_) fun i hi => ?_)⟩⟩⟩
          · show i ∈ slots a ++ slots b
            exact List.mem_append_left _ hi
          · show i ∈ slots a ++ slots b
            exact List.mem_append_right _ hi
        rcases hs with hs | hs
        · exact .inr ⟨p, _, rfl, hs, rfl, fin⟩
        · exact .inl ⟨p, _, rfl, hs, rfl, fin⟩
      · cases e
    · cases e
  | .tp3 a b d, pe, h => by
    obtain ⟨p1', p2', p3', k', pos, rfl, h0⟩ := chT_tp3 h
    clear h
    have h := h0
    have pa := pg_B c _ _ h.1.1
    have pb := pg_B c _ _ h.1.2
    have pd := pg_B c _ _ h.2
    have n1 := chT_star h.1.1
    have n2 := chT_star h.1.2
    have n3 := chT_star h.2
    have ns : noStars [p1', p2', p3'] = true := by simp [noStars, n1, n2, n3]
    have pp := pgs_cons pa (pgs_cons pb (pgs_cons pd pgs_nil (asg_map n3)) (asg_map n2)) (asg_map n1)
    refine imG (orG (pg_tup c.calm pp (asg_len ns) (asg_find ns)) (pg_unl c.calm pp (asg_len ns) (asg_find ns))) fun v σ H Q q => ?_
    obtain ⟨ρ, hh, u, env, env1, R, r, re, e, q⟩ := q
    unfold bindT at e
    split at e
    · rename_i x y z es
      obtain ⟨n, p, vs, _, rfl, _, rr, hs⟩ := rdS_rel R r es
      obtain ⟨v1, v2, v3, rfl, r1, r2, r3⟩ := pd_three rr
      split at e
      · rename_i σ1 ea
        split at e
        · rename_i σ2 eb
          have fin : gCons (gB X.K a) (gCons (gB X.K b) (gCons (gB X.K d) gNil)) [v1, v2, v3] σ H Q := by
            refine ⟨v1, [v2, v3], rfl, ρ, hh, x, env, σ1, R, r1, re, ea, fun τ1 rτ1 w1 => ⟨v2, [v3], rfl, ρ, hh, y, σ1, σ2, R, r2, rτ1, eb, fun τ2 rτ2 w2 => ⟨v3, [], rfl, ρ, hh, z, σ2, env1, R, r3, rτ2, e, fun τ3 rτ3 w3 => ⟨rfl, q τ3 rτ3 ?_⟩⟩⟩⟩
            refine (w1.trans (t := .tp2 a b) w2 (fun i hi => ?_) fun i hi => ?_).trans w3 (fun i hi => ?_) fun i hi => ?_
            · show i ∈ slots a ++ slots b
              exact List.mem_append_left _ hi
            · show i ∈ slots a ++ slots b
              exact List.mem_append_right _ hi
            · show i ∈ slots a ++ slots b ++ slots d
              exact List.mem_append_left _ hi
            · show i ∈ slots a ++ slots b ++ slots d
              exact List.mem_append_right _ hi
          rcases hs with hs | hs
          · exact .inr ⟨p, _, rfl, hs, rfl, fin⟩
          · exact .inl ⟨p, _, rfl, hs, rfl, fin⟩
        · cases e
      · cases e
    · cases e
theorem pg_C (c : CtxOk T C k G X) (tn : Tn) (pe : Expr) (h : chT G.N G.own tn pe = true) : PG X pe (gC X.K tn) := by
  have p1 := pg_B c tn pe h
  by_cases h2 : ∃ a b, tn = .tp2 a b
  · obtain ⟨a, b, rfl⟩ := h2
    obtain ⟨p1', p2', k', pos, rfl, h0⟩ := chT_tp2 h
    clear h
    have h := h0
    have pa := pg_B c _ _ h.1
    have pb := pg_B c _ _ h.2
    have n1 := chT_star h.1
    have n2 := chT_star h.2
    have ns : noStars [p1', p2'] = true := by simp [noStars, n1, n2]
    refine imG (orG p1 (pg_tup c.calm (pgs_cons pa (pgs_cons pb pgs_nil (asg_map n2)) (asg_map n1)) (asg_len ns) (asg_find ns))) fun v σ H' Q q => ?_
    obtain ⟨ρ, hh, iv, env, env1, H, R, r, re, e, q⟩ := q
    cases iv with
    | one u =>
      obtain ⟨rfl, r⟩ := r
      exact .inl ⟨ρ, hh, u, env, env1, R, r, re, e, q⟩
    | two u w =>
      obtain ⟨t, x1, x2, rfl, hn, rfl, r1, r2⟩ := r
      unfold bindI at e
      dsimp only at e
      split at e
      · rename_i σ1 ea
        have R' := R.junk hn (.tup [x1, x2])
        refine .inr ⟨t, [x1, x2], rfl, .inl (.inl upd_same), rfl, x1, [x2], rfl, ρ, hh, u, env, σ1, R', r1, re, ea, fun τ1 rτ1 w1 => ⟨x2, [], rfl, ρ, hh, w, σ1, env1, R', r2, rτ1, e, fun τ2 rτ2 w2 => ⟨rfl, q τ2 rτ2 (w1.trans w2 (fun i hi => ?_) fun i hi => ?_)⟩⟩⟩
        · show i ∈ slots a ++ slots b
          exact List.mem_append_left _ hi
        · show i ∈ slots a ++ slots b
          exact List.mem_append_right _ hi
      · cases e
  · refine imG p1 fun v σ H' Q q => ?_
    obtain ⟨ρ, hh, iv, env, env1, H, R, r, re, e, q⟩ := q
    cases iv with
    | one u =>
      obtain ⟨rfl, r⟩ := r
      exact ⟨ρ, hh, u, env, env1, R, r, re, e, q⟩
    | two u w =>
      unfold bindI at e
      dsimp only at e
      split at e
      · exact absurd ⟨_, _, rfl⟩ h2
      · cases e
end

/-! ### what is walked -/
def ItR (K : PySem.W.Frag) (ρ : List Addr) : It → L2.It → Prop
  | .ls a, J => ∃ p, ρ[a]? = some p ∧ J = Itl K p
  | .tp a, J => ∃ p, ρ[a]? = some p ∧ J = Itt K p
  | .rg lo n, J => J = Itr lo n
  | .rd lo n, J => J = Itc lo (-1) n
  | .en a, J => ∃ p, ρ[a]? = some p ∧ J = Ite K p
  | .zl a b, J => ∃ p q, ρ[a]? = some p ∧ ρ[b]? = some q ∧ J = Itz K p q
  | .zt a b, J => ∃ p q, ρ[a]? = some p ∧ ρ[b]? = some q ∧ J = RZ.ItzT K p q
  | .rv a n, J => ∃ p, ρ[a]? = some p ∧ J = Itv K p n
theorem ItR.mono {K : PySem.W.Frag} {ρ ρ' : List Addr} (h : ρ <+: ρ') : ∀ {it : It} {J : L2.It}, ItR K ρ it J → ItR K ρ' it J
  | .ls _, _, ⟨p, e, q⟩ => ⟨p, pre_get h e, q⟩
  | .tp _, _, ⟨p, e, q⟩ => ⟨p, pre_get h e, q⟩
  | .rg _ _, _, q => q
  | .rd _ _, _, q => q
  | .en _, _, ⟨p, e, q⟩ => ⟨p, pre_get h e, q⟩
  | .zl _ _, _, ⟨p, q, e, e', z⟩ => ⟨p, q, pre_get h e, pre_get h e', z⟩
  | .zt _ _, _, ⟨p, q, e, e', z⟩ => ⟨p, q, pre_get h e, pre_get h e', z⟩
  | .rv _ _, _, ⟨p, e, q⟩ => ⟨p, pre_get h e, q⟩
section
variable {K : PySem.W.Frag} {ρ : List Addr} {h : Hm} {H : Hp}
theorem rdL_at (R : Rel K ρ h H) {a : Nat} {p : Addr} {xs : List U} (ep : ρ[a]? = some p) (e : rdL h (.ref a) = some xs) : ∃ vs, RUs ρ xs vs ∧ SqL K H p vs := by
  obtain ⟨a', p', vs, e1, e2, e3, rr, hs⟩ := rdL_rel R (u := .ref a) (v := .ref p) ⟨p, ep, rfl⟩ e
  cases e1; cases e2
  exact ⟨vs, rr, hs⟩
theorem rdT_at (R : Rel K ρ h H) {a : Nat} {p : Addr} {xs : List U} (ep : ρ[a]? = some p) (e : rdT h (.ref a) = some xs) : ∃ vs, RUs ρ xs vs ∧ SqT K H p vs := by
  obtain ⟨a', p', vs, e1, e2, e3, rr, hs⟩ := rdT_rel R (u := .ref a) (v := .ref p) ⟨p, ep, rfl⟩ e
  cases e1; cases e2
  exact ⟨vs, rr, hs⟩
theorem it_stop (R : Rel K ρ h H) {it : It} {J : L2.It} {i : Nat} (r : ItR K ρ it J) (e : it.at h i = some none) : J.stop i H := by
  cases it with
  | ls a =>
    obtain ⟨p, ep, rfl⟩ := r
    unfold It.at at e
    dsimp only at e
    split at e
    · rename_i xs ex
      obtain ⟨vs, rr, hs⟩ := rdL_at R ep ex
      have e' : xs[i]?.map Iv.one = none := Option.some.inj e
      have e2 : xs[i]? = none := by cases q : xs[i]? with
        | none => rfl
        | some z => rw [q] at e'; cases e'
      exact ⟨vs, hs, by rw [← pd_len rr]; exact List.getElem?_eq_none_iff.mp e2⟩
    · cases e
  | tp a =>
    obtain ⟨p, ep, rfl⟩ := r
    unfold It.at at e
    dsimp only at e
    split at e
    · rename_i xs ex
      obtain ⟨vs, rr, hs⟩ := rdT_at R ep ex
      have e' : xs[i]?.map Iv.one = none := Option.some.inj e
      have e2 : xs[i]? = none := by cases q : xs[i]? with
        | none => rfl
        | some z => rw [q] at e'; cases e'
      exact ⟨vs, hs, by rw [← pd_len rr]; exact List.getElem?_eq_none_iff.mp e2⟩
    · cases e
  | rg lo n =>
    cases r
    unfold It.at at e
    dsimp only at e
    split at e
    · cases e
    · rename_i hn
      exact Nat.not_lt.mp hn
  | rd lo n =>
    cases r
    unfold It.at at e
    dsimp only at e
    split at e
    · cases e
    · rename_i hn
      exact Nat.not_lt.mp hn
  | en a =>
    obtain ⟨p, ep, rfl⟩ := r
    unfold It.at at e
    dsimp only at e
    split at e
    · rename_i xs ex
      obtain ⟨vs, rr, hs⟩ := rdL_at R ep ex
      have e' : xs[i]?.map (Iv.two (.int i)) = none := Option.some.inj e
      have e2 : xs[i]? = none := by cases q : xs[i]? with
        | none => rfl
        | some z => rw [q] at e'; cases e'
      exact ⟨vs, hs, by rw [← pd_len rr]; exact List.getElem?_eq_none_iff.mp e2⟩
    · cases e
  | zl a b =>
    obtain ⟨p, q, ep, eq, rfl⟩ := r
    unfold It.at at e
    dsimp only at e
    split at e
    · rename_i xs ys ex ey
      obtain ⟨vs, rr, hs⟩ := rdL_at R ep ex
      obtain ⟨ws, rr', hs'⟩ := rdL_at R eq ey
      split at e
      · cases e
      · rename_i hno
        refine ⟨vs, ws, hs, hs', ?_⟩
        rw [← pd_len rr, ← pd_len rr']
        by_cases h1 : xs.length ≤ i
        · exact .inl h1
        · by_cases h2 : ys.length ≤ i
          · exact .inr h2
          · exact absurd (List.getElem?_eq_getElem (Nat.not_le.mp h2)) (hno _ _ (List.getElem?_eq_getElem (Nat.not_le.mp h1)))
    · cases e
  | zt a b =>
    obtain ⟨p, q, ep, eq, rfl⟩ := r
    unfold It.at at e
    dsimp only at e
    split at e
    · rename_i xs ys ex ey
      obtain ⟨vs, rr, hs⟩ := rdT_at R ep ex
      obtain ⟨ws, rr', hs'⟩ := rdT_at R eq ey
      split at e
      · cases e
      · rename_i hno
        refine ⟨vs, ws, hs, hs', ?_⟩
        rw [← pd_len rr, ← pd_len rr']
        by_cases h1 : xs.length ≤ i
        · exact .inl h1
        · by_cases h2 : ys.length ≤ i
          · exact .inr h2
          · exact absurd (List.getElem?_eq_getElem (Nat.not_le.mp h2)) (hno _ _ (List.getElem?_eq_getElem (Nat.not_le.mp h1)))
    · cases e
  | rv a n =>
    obtain ⟨p, ep, rfl⟩ := r
    unfold It.at at e
    dsimp only at e
    split at e
    · split at e
      · split at e <;> cases e
      · cases e
    · rename_i hn
      exact Nat.not_lt.mp hn
theorem it_go (R : Rel K ρ h H) {it : It} {J : L2.It} {i : Nat} {v : Iv} (r : ItR K ρ it J) (e : it.at h i = some (some v)) : J.go i H ∧ ∀ x H', J.yld i H x H' → IvR ρ v x H H' := by
  cases it with
  | ls a =>
    obtain ⟨p, ep, rfl⟩ := r
    unfold It.at at e
    dsimp only at e
    split at e
    · rename_i xs ex
      obtain ⟨vs, rr, hs⟩ := rdL_at R ep ex
      have e' : xs[i]?.map Iv.one = some v := Option.some.inj e
      cases q : xs[i]? with
      | none => rw [q] at e'; cases e'
      | some z =>
        rw [q] at e'; cases e'
        obtain ⟨y, hy, ry⟩ := pd_get rr q
        refine ⟨⟨vs, y, hs, hy⟩, fun x H' ⟨h1, h2⟩ => ⟨h1, ?_⟩⟩
        cases (h2 vs hs).symm.trans hy
        exact ry
    · cases e
  | tp a =>
    obtain ⟨p, ep, rfl⟩ := r
    unfold It.at at e
    dsimp only at e
    split at e
    · rename_i xs ex
      obtain ⟨vs, rr, hs⟩ := rdT_at R ep ex
      have e' : xs[i]?.map Iv.one = some v := Option.some.inj e
      cases q : xs[i]? with
      | none => rw [q] at e'; cases e'
      | some z =>
        rw [q] at e'; cases e'
        obtain ⟨y, hy, ry⟩ := pd_get rr q
        refine ⟨⟨vs, y, hs, hy⟩, fun x H' ⟨h1, h2⟩ => ⟨h1, ?_⟩⟩
        cases (h2 vs hs).symm.trans hy
        exact ry
    · cases e
  | rg lo n =>
    cases r
    unfold It.at at e
    dsimp only at e
    split at e
    · rename_i hn
      cases e
      exact ⟨hn, fun x H' ⟨h1, h2⟩ => ⟨h1, h2⟩⟩
    · cases e
  | rd lo n =>
    cases r
    unfold It.at at e
    dsimp only at e
    split at e
    · rename_i hn
      cases e
      refine ⟨hn, fun x H' ⟨h1, h2⟩ => ⟨h1, ?_⟩⟩
      rw [h2]
      show V.int _ = V.int _
      congr 1
      omega
    · cases e
  | en a =>
    obtain ⟨p, ep, rfl⟩ := r
    unfold It.at at e
    dsimp only at e
    split at e
    · rename_i xs ex
      obtain ⟨vs, rr, hs⟩ := rdL_at R ep ex
      have e' : xs[i]?.map (Iv.two (.int i)) = some v := Option.some.inj e
      cases q : xs[i]? with
      | none => rw [q] at e'; cases e'
      | some z =>
        rw [q] at e'; cases e'
        obtain ⟨y, hy, ry⟩ := pd_get rr q
        refine ⟨⟨vs, y, hs, hy⟩, fun x H' ⟨t, x2, h1, h2, h3, h4⟩ => ⟨t, .int (i : Nat), x2, h1, h2, h3, rfl, ?_⟩⟩
        cases (h4 vs hs).symm.trans hy
        exact ry
    · cases e
  | zl a b =>
    obtain ⟨p, q, ep, eq, rfl⟩ := r
    unfold It.at at e
    dsimp only at e
    split at e
    · rename_i xs ys ex ey
      obtain ⟨vs, rr, hs⟩ := rdL_at R ep ex
      obtain ⟨ws, rr', hs'⟩ := rdL_at R eq ey
      split at e
      · rename_i x y hx hy
        cases e
        obtain ⟨x', hx', rx⟩ := pd_get rr hx
        obtain ⟨y', hy', ry⟩ := pd_get rr' hy
        refine ⟨⟨vs, ws, x', y', hs, hs', hx', hy'⟩, fun z H' ⟨t, x2, y2, h1, h2, h3, h4, h5⟩ => ⟨t, x2, y2, h1, h2, h3, ?_, ?_⟩⟩
        · cases (h4 vs hs).symm.trans hx'
          exact rx
        · cases (h5 ws hs').symm.trans hy'
          exact ry
      · cases e
    · cases e
  | zt a b =>
    obtain ⟨p, q, ep, eq, rfl⟩ := r
    unfold It.at at e
    dsimp only at e
    split at e
    · rename_i xs ys ex ey
      obtain ⟨vs, rr, hs⟩ := rdT_at R ep ex
      obtain ⟨ws, rr', hs'⟩ := rdT_at R eq ey
      split at e
      · rename_i x y hx hy
        cases e
        obtain ⟨x', hx', rx⟩ := pd_get rr hx
        obtain ⟨y', hy', ry⟩ := pd_get rr' hy
        refine ⟨⟨vs, ws, x', y', hs, hs', hx', hy'⟩, fun z H' ⟨t, x2, y2, h1, h2, h3, h4, h5⟩ => ⟨t, x2, y2, h1, h2, h3, ?_, ?_⟩⟩
        · cases (h4 vs hs).symm.trans hx'
          exact rx
        · cases (h5 ws hs').symm.trans hy'
          exact ry
      · cases e
    · cases e
  | rv a n =>
    obtain ⟨p, ep, rfl⟩ := r
    unfold It.at at e
    dsimp only at e
    split at e
    · rename_i hn
      split at e
      · rename_i xs ex
        obtain ⟨vs, rr, hs⟩ := rdL_at R ep ex
        split at e
        · rename_i x hx
          cases e
          obtain ⟨x', hx', rx⟩ := pd_get rr hx
          refine ⟨⟨hn, vs, x', hs, hx'⟩, fun z H' ⟨h1, h2⟩ => ⟨h1, ?_⟩⟩
          cases (h2 vs hs).symm.trans hx'
          exact rx
        · cases e
      · cases e
    · cases e
end
end Mi

set_option maxRecDepth 100000
/-! Mi, part B5: expressions. -/
namespace Mi
open PySem PySem.Spec PyProof.Rows L2

def tI (K : PySem.W.Frag) (C : Calls) (sk : Sk) (a b : Ex) : TI := fun σ H R => ∃ ρ env h x h1 y h2 it, REnv ρ env σ ∧ Rel K ρ h H ∧ evE C a env h = some (x, h1) ∧ evE C b env h1 = some (y, h2) ∧ mkIt h2 sk x y = some it ∧
  ∀ ρ' J H', Ext ρ H ρ' H' → Rel K ρ' h2 H' → ItR K ρ' it J → R J H'
theorem orI {X : Cx} {tg e : Expr} {t t' : TI} (p : PI X tg e t) (p' : PI X tg e t') : PI X tg e (fun σ H R => t σ H R ∨ t' σ H R) :=
  ⟨fun pins s σ H R I h => h.elim (p.run pins s σ H R I) (p'.run pins s σ H R I)⟩
theorem isNon_eq {e : Ex} (h : isNon e = true) : e = .non := by cases e <;> first | rfl | exact Bool.noConfusion h
theorem isTt_eq {e : Ex} (h : isTt e = true) : e = .bl true := by
  cases e with
  | bl b => cases b <;> first | rfl | exact Bool.noConfusion h
  | _ => exact Bool.noConfusion h
theorem isTup_eq {e : Expr} (h : isTup e = true) : ∃ es k p, e = .Tuple es k p := by
  cases e with
  | Tuple es k p => exact ⟨es, k, p, rfl⟩
  | _ => exact Bool.noConfusion h
section
variable {T : Tab} {C : Calls} {k : Nat} {G : Ga} {X : Cx}
theorem pa_one {e : Expr} {te : TE} (p : PE X e te) (h : noStar e = true) : PA X [e] (tCons te tNil) := pa_cons p pa_nil (star_cons h)
theorem pa_two {e e' : Expr} {te te' : TE} (p : PE X e te) (p' : PE X e' te') (h : noStar e = true) (h' : noStar e' = true) : PA X [e, e'] (tCons te (tCons te' tNil)) := pa_cons p (pa_one p' h') (star_cons h)
theorem isL_rel {K : PySem.W.Frag} {ρ : List Addr} {h : Hm} {H : Hp} (R : Rel K ρ h H) {a : Nat} {p : Addr} {o : Ob} (eo : h.get a = some o) (ep : ρ[a]? = some p) : (∀ xs, o = .lst xs ∨ o = .ro xs → ∃ vs, SqL K H p vs) ∧ (∀ xs, o = .tup xs → ∃ vs, SqT K H p vs) := by
  refine ⟨fun xs e => ?_, fun xs e => ?_⟩
  · rcases e with rfl | rfl
    · obtain ⟨vs, _, q⟩ := R.ob _ _ p eo ep; exact ⟨vs, .inl (.inl q)⟩
    · obtain ⟨vs, _, q⟩ := R.ob _ _ p eo ep; exact ⟨vs, ro_sq q⟩
  · subst e
    obtain ⟨vs, _, q⟩ := R.ob _ _ p eo ep; exact ⟨vs, .inl (.inl q)⟩
theorem rng_none (c : CtxOk T C k G X) (x : Str) (h : x ∈ btNames) : X.mg x = none := c.bt x h
theorem pi_any (c : CtxOk T C k G X) {f g : Expr → Bool} {nb : Bool} {a b : Ex} {sk : Sk} {tg it : Expr} (fa : ∀ pe, f pe = true → PE X pe (tE X.K C a)) (fb : ∀ pe, g pe = true → PE X pe (tE X.K C b)) (hnb : nb = true → b = .non)
    (h : chI G.sc f g nb sk tg it = true) : PI X tg it (tI X.K C sk a b) := by
  unfold chI at h
  rw [Bool.and_eq_true] at h
  replace h := h.2
  cases sk with
  | seq =>
    dsimp only at h
    rw [Bool.and_eq_true] at h
    have pe := fa _ h.2
    refine imI (orI (pi_list pe) (pi_tup pe)) fun σ H R q => ?_
    obtain ⟨ρ, env, hh, x, h1, y, h2, it', re, RR, ea, eb, em, q⟩ := q
    rw [hnb h.1] at eb
    unfold evE at eb
    cases eb
    replace em : itSeq h1 x = some it' := em
    unfold itSeq at em
    split at em
    all_goals first | (cases em; done) | skip
    rename_i n v
    split at em
    all_goals first | (cases em; done) | skip
    · rename_i xs eo
      cases em
      refine .inl ⟨ρ, env, hh, _, _, re, RR, ea, fun ρ' v' H' X' R' r' => ?_⟩
      obtain ⟨p, ep, rfl⟩ := r'
      exact ⟨p, rfl, (isL_rel R' eo ep).1 xs (.inl rfl), q ρ' _ H' X' R' ⟨p, ep, rfl⟩⟩
    · rename_i xs eo
      cases em
      refine .inl ⟨ρ, env, hh, _, _, re, RR, ea, fun ρ' v' H' X' R' r' => ?_⟩
      obtain ⟨p, ep, rfl⟩ := r'
      exact ⟨p, rfl, (isL_rel R' eo ep).1 xs (.inr rfl), q ρ' _ H' X' R' ⟨p, ep, rfl⟩⟩
    · rename_i xs eo
      cases em
      refine .inr ⟨ρ, env, hh, _, _, re, RR, ea, fun ρ' v' H' X' R' r' => ?_⟩
      obtain ⟨p, ep, rfl⟩ := r'
      exact ⟨p, rfl, (isL_rel R' eo ep).2 xs rfl, q ρ' _ H' X' R' ⟨p, ep, rfl⟩⟩
  | rng1 =>
    dsimp only at h
    split at h
    · rename_i x _ pa _
      simp only [Bool.and_eq_true] at h
      obtain ⟨⟨⟨⟨hx, hg⟩, hs⟩, hb⟩, hf⟩ := h
      have hx := of_decide_eq_true hx
      subst hx
      refine imI (pi_range1 (gl_of (by rw [c.sc]; exact hg)) (c.bt _ (by decide)) (pa_one (fa _ hf) hs) (star_cons hs)) fun σ H R q => ?_
      obtain ⟨ρ, env, hh, x, h1, y, h2, it', re, RR, ea, eb, em, q⟩ := q
      rw [hnb hb] at eb
      unfold evE at eb
      cases eb
      replace em : itRng1 x = some it' := em
      unfold itRng1 at em
      split at em
      all_goals first | (cases em; done) | skip
      split at em
      · rename_i hz
        cases em
        refine ⟨ρ, env, hh, _, _, re, RR, ea, fun ρ' v' H' X' R' r' => ?_⟩
        cases (show v' = .int _ from r')
        exact ⟨_, rfl, hz.1, hz.2, q ρ' _ H' X' R' rfl⟩
      · cases em
    · exact Bool.noConfusion h
  | rng2 =>
    dsimp only at h
    split at h
    · rename_i x _ pa pb _
      simp only [Bool.and_eq_true] at h
      obtain ⟨⟨⟨⟨⟨hx, hg⟩, hs⟩, hs'⟩, hf⟩, hf'⟩ := h
      have hx := of_decide_eq_true hx
      subst hx
      refine imI (pi_range2 (gl_of (by rw [c.sc]; exact hg)) (c.bt _ (by decide)) (pa_two (fa _ hf) (fb _ hf') hs hs') (by rw [star_cons hs, star_cons hs']; rfl) (star_cons hs')) fun σ H R q => ?_
      obtain ⟨ρ, env, hh, x, h1, y, h2, it', re, RR, ea, eb, em, q⟩ := q
      replace em : itRng2 x y = some it' := em
      unfold itRng2 at em
      split at em
      all_goals first | (cases em; done) | skip
      split at em
      · rename_i hz
        cases em
        refine ⟨ρ, env, hh, _, _, re, RR, ea, fun ρ' v' H' X' R' r' => ⟨ρ', env, h1, _, _, re.mono X'.pre, R', eb, fun ρ'' w' H'' X'' R'' r'' => ?_⟩⟩
        cases (show v' = .int _ from r')
        cases (show w' = .int _ from r'')
        exact ⟨_, _, rfl, ⟨hz.1, hz.2.1, hz.2.2.1, hz.2.2.2⟩, q ρ'' _ H'' (X'.trans X'') R'' rfl⟩
      · cases em
    · exact Bool.noConfusion h
  | rngd =>
    dsimp only at h
    split at h
    · rename_i x _ pa pb i _ _ _ _
      simp only [Bool.and_eq_true] at h
      obtain ⟨⟨⟨⟨⟨⟨hx, hg⟩, hs⟩, hs'⟩, hf⟩, hf'⟩, hi⟩ := h
      have hx := of_decide_eq_true hx
      have hi := of_decide_eq_true hi
      subst hx hi
      have p3 : ∀ (j : Nat) (p p' : Pos), PE X (.UnaryOp .USub (.Constant (.int 1) j p) p') (tUn (rU fun i => .int (-i)) (tC (.int 1))) := fun _ _ _ => pe_un un_neg pe_int
      refine imI (pi_range3 (gl_of (by rw [c.sc]; exact hg)) (c.bt _ (by decide)) (pa_cons (fa _ hf) (pa_two (fb _ hf') (p3 _ _ _) hs' rfl) (star_cons hs)) (star_cons hs) (star_any (by show (noStar pb && (noStar _ && true)) = true; rw [hs']; rfl))) fun σ H R q => ?_
      obtain ⟨ρ, env, hh, x, h1, y, h2, it', re, RR, ea, eb, em, q⟩ := q
      replace em : itRngd x y = some it' := em
      unfold itRngd at em
      split at em
      all_goals first | (cases em; done) | skip
      split at em
      · rename_i hz
        cases em
        refine ⟨ρ, env, hh, _, _, re, RR, ea, fun ρ' v' H' X' R' r' => ⟨ρ', env, h1, _, _, re.mono X'.pre, R', eb, fun ρ'' w' H'' X'' R'' r'' => ?_⟩⟩
        cases (show v' = .int _ from r')
        cases (show w' = .int _ from r'')
        exact ⟨1, rfl, _, _, _, _, rfl, RgC.neg hz.1 hz.2.1 hz.2.2.1 hz.2.2.2, q ρ'' _ H'' (X'.trans X'') R'' rfl⟩
      · cases em
    · exact Bool.noConfusion h
  | enum =>
    dsimp only at h
    split at h
    · rename_i x _ pa _
      simp only [Bool.and_eq_true] at h
      obtain ⟨⟨⟨⟨⟨hx, hg⟩, hs⟩, hb⟩, hf⟩, ht⟩ := h
      have hx := of_decide_eq_true hx
      obtain ⟨tes, tk, tp, rfl⟩ := isTup_eq ht
      subst hx
      refine imI (pi_enum (gl_of (by rw [c.sc]; exact hg)) (c.bt _ (by decide)) (pa_one (fa _ hf) hs) (star_cons hs)) fun σ H R q => ?_
      obtain ⟨ρ, env, hh, x, h1, y, h2, it', re, RR, ea, eb, em, q⟩ := q
      rw [hnb hb] at eb
      unfold evE at eb
      cases eb
      replace em : itEnum h1 x = some it' := em
      unfold itEnum at em
      split at em
      all_goals first | (cases em; done) | skip
      split at em
      all_goals first | (cases em; done) | skip
      · rename_i xs eo
        cases em
        refine ⟨ρ, env, hh, _, _, re, RR, ea, fun ρ' v' H' X' R' r' => ?_⟩
        obtain ⟨p, ep, rfl⟩ := r'
        obtain ⟨vs, hv⟩ := (isL_rel R' eo ep).1 xs (.inl rfl)
        exact ⟨p, vs, rfl, hv, q ρ' _ H' X' R' ⟨p, ep, rfl⟩⟩
      · rename_i xs eo
        cases em
        refine ⟨ρ, env, hh, _, _, re, RR, ea, fun ρ' v' H' X' R' r' => ?_⟩
        obtain ⟨p, ep, rfl⟩ := r'
        obtain ⟨vs, hv⟩ := (isL_rel R' eo ep).1 xs (.inr rfl)
        exact ⟨p, vs, rfl, hv, q ρ' _ H' X' R' ⟨p, ep, rfl⟩⟩
    · exact Bool.noConfusion h
  | zip =>
    dsimp only at h
    split at h
    · rename_i x _ pa pb _
      simp only [Bool.and_eq_true] at h
      obtain ⟨⟨⟨⟨⟨⟨hx, hg⟩, hs⟩, hs'⟩, hf⟩, hf'⟩, ht⟩ := h
      have hx := of_decide_eq_true hx
      obtain ⟨tes, tk, tp, rfl⟩ := isTup_eq ht
      subst hx
      refine imI (RZ.pi_zipA (gl_of (by rw [c.sc]; exact hg)) (c.bt _ (by decide)) (pa_two (fa _ hf) (fb _ hf') hs hs') (star_cons hs) (star_any (by simp [noStars, hs']))) fun σ H R q => ?_
      obtain ⟨ρ, env, hh, x, h1, y, h2, it', re, RR, ea, eb, em, q⟩ := q
      refine ⟨ρ, env, hh, _, _, re, RR, ea, fun ρ' v' H' X' R' r' => ⟨ρ', env, h1, _, _, re.mono X'.pre, R', eb, fun ρ'' w' H'' X'' R'' r'' => ?_⟩⟩
      replace em : itZip h2 x y = some it' := em
      unfold itZip at em
      split at em
      all_goals first | (cases em; done) | skip
      obtain ⟨p, ep, rfl⟩ := r'
      obtain ⟨p', ep', rfl⟩ := r''
      have ep := pre_get X''.pre ep
      split at em
      all_goals first | (cases em; done) | skip
      · rename_i xs ys eo eo'
        cases em
        obtain ⟨vs, hv⟩ := (isL_rel R'' eo ep).1 xs (.inl rfl)
        obtain ⟨ws, hw⟩ := (isL_rel R'' eo' ep').1 ys (.inl rfl)
        exact ⟨p, p', vs, ws, rfl, .inl ⟨hv, hw, q ρ'' _ H'' (X'.trans X'') R'' ⟨p, p', ep, ep', rfl⟩⟩⟩
      · rename_i xs ys eo eo'
        cases em
        obtain ⟨vs, hv⟩ := (isL_rel R'' eo ep).1 xs (.inr rfl)
        obtain ⟨ws, hw⟩ := (isL_rel R'' eo' ep').1 ys (.inl rfl)
        exact ⟨p, p', vs, ws, rfl, .inl ⟨hv, hw, q ρ'' _ H'' (X'.trans X'') R'' ⟨p, p', ep, ep', rfl⟩⟩⟩
      · rename_i xs ys eo eo'
        cases em
        obtain ⟨vs, hv⟩ := (isL_rel R'' eo ep).1 xs (.inl rfl)
        obtain ⟨ws, hw⟩ := (isL_rel R'' eo' ep').1 ys (.inr rfl)
        exact ⟨p, p', vs, ws, rfl, .inl ⟨hv, hw, q ρ'' _ H'' (X'.trans X'') R'' ⟨p, p', ep, ep', rfl⟩⟩⟩
      · rename_i xs ys eo eo'
        cases em
        obtain ⟨vs, hv⟩ := (isL_rel R'' eo ep).1 xs (.inr rfl)
        obtain ⟨ws, hw⟩ := (isL_rel R'' eo' ep').1 ys (.inr rfl)
        exact ⟨p, p', vs, ws, rfl, .inl ⟨hv, hw, q ρ'' _ H'' (X'.trans X'') R'' ⟨p, p', ep, ep', rfl⟩⟩⟩
      · rename_i xs ys eo eo'
        cases em
        obtain ⟨vs, hv⟩ := (isL_rel R'' eo ep).2 xs rfl
        obtain ⟨ws, hw⟩ := (isL_rel R'' eo' ep').2 ys rfl
        exact ⟨p, p', vs, ws, rfl, .inr ⟨hv, hw, q ρ'' _ H'' (X'.trans X'') R'' ⟨p, p', ep, ep', rfl⟩⟩⟩
    · exact Bool.noConfusion h
  | rev =>
    dsimp only at h
    split at h
    · rename_i x _ pa _
      simp only [Bool.and_eq_true] at h
      obtain ⟨⟨⟨⟨hx, hg⟩, hs⟩, hb⟩, hf⟩ := h
      have hx := of_decide_eq_true hx
      subst hx
      refine imI (pi_reversed (gl_of (by rw [c.sc]; exact hg)) (c.bt _ (by decide)) (pa_one (fa _ hf) hs) (star_cons hs)) fun σ H R q => ?_
      obtain ⟨ρ, env, hh, x, h1, y, h2, it', re, RR, ea, eb, em, q⟩ := q
      rw [hnb hb] at eb
      unfold evE at eb
      cases eb
      replace em : itRev h1 x = some it' := em
      unfold itRev at em
      split at em
      all_goals first | (cases em; done) | skip
      split at em
      all_goals first | (cases em; done) | skip
      · rename_i xs eo
        cases em
        refine ⟨ρ, env, hh, _, _, re, RR, ea, fun ρ' v' H' X' R' r' => ?_⟩
        obtain ⟨p, ep, rfl⟩ := r'
        obtain ⟨vs, rr, hv⟩ := R'.ob _ _ p eo ep
        exact ⟨p, vs, rfl, .inl (.inl hv), by rw [← pd_len rr]; exact q ρ' _ H' X' R' ⟨p, ep, rfl⟩⟩
      · rename_i xs eo
        cases em
        refine ⟨ρ, env, hh, _, _, re, RR, ea, fun ρ' v' H' X' R' r' => ?_⟩
        obtain ⟨p, ep, rfl⟩ := r'
        obtain ⟨vs, rr, hv⟩ := R'.ob _ _ p eo ep
        exact ⟨p, vs, rfl, ro_sq hv, by rw [← pd_len rr]; exact q ρ' _ H' X' R' ⟨p, ep, rfl⟩⟩
    · exact Bool.noConfusion h
end
end Mi

set_option maxRecDepth 100000
/-! Mi, part B6: expressions, the whole. -/
namespace Mi
open PySem PySem.Spec PyProof.Rows L2
section
variable {T : Tab} {C : Calls} {k : Nat}
/-- what is shown of a term: as a value, as a test, as a chain of tests -/
structure SoE (T : Tab) (C : Calls) (k : Nat) (e : Ex) : Prop where
  val : ∀ (G : Ga) (X : Cx) (pe : Expr), CtxOk T C k G X → chE T G e pe = true → PE X pe (tE X.K C e)
  tst : ∀ (G : Ga) (X : Cx) (pe : Expr), CtxOk T C k G X → chE T G e pe = true → PT X pe (tB' X.K C e)
  wh : ∀ (G : Ga) (X : Cx) (op : BoolOp) (l : List Expr) (pos : Pos), CtxOk T C k G X → chE T G e (.BoolOp op l pos) = true → PW X (.BoolOp op l pos) (tB' X.K C e)
def SoEs (T : Tab) (C : Calls) (k : Nat) (es : Exs) : Prop := ∀ (G : Ga) (X : Cx) (ps : List Expr), CtxOk T C k G X → chEs T G es ps = true → noStars ps = true → PA X ps (tEs X.K C es)
def SoKs (T : Tab) (C : Calls) (k : Nat) (es : Exs) : Prop := ∀ (G : Ga) (X : Cx) (ps : List Keyword), CtxOk T C k G X → chKs T G es ps = true → PK X ps (tEs X.K C es)
/-- a term that is no test by itself -/
theorem soE_plain {e : Ex} (v : ∀ (G : Ga) (X : Cx) (pe : Expr), CtxOk T C k G X → chE T G e pe = true → PE X pe (tE X.K C e)) (p : ∀ (G : Ga) (pe : Expr), chE T G e pe = true → plainTest pe = true) : SoE T C k e := by
  refine ⟨v, fun G X pe c h => ?_, fun G X op l pos c h => absurd (p _ _ h) (fun z => Bool.noConfusion z)⟩
  refine imT (pt_val (v G X pe c h) (test_plain (p _ _ h))) fun σ H Q q => ?_
  obtain ⟨ρ, env, hh, b, h1, re, R, e1, q⟩ := q
  exact ⟨ρ, env, hh, _, h1, re, R, e1, fun ρ' v' H' x' R' r' => ⟨b, r', q ρ' H' x' R'⟩⟩
theorem pl_1 {pe : Expr} {f : Expr → Bool} : True := trivial
theorem so_var (i : Nat) : SoE T C k (.var i) := soE_plain (fun G X pe c h => by
  unfold chE at h
  split at h
  · rename_i x p
    simp only [Bool.and_eq_true] at h
    obtain ⟨⟨h1, h2⟩, h3⟩ := h
    obtain ⟨d1, d2, _⟩ := nm_dbg h3
    refine imE (pe_var (i := i) (by rw [c.N]; exact of_decide_eq_true h1) (by rw [c.sc]; exact vis_of h2) d1 d2) fun σ H Q q => ?_
    obtain ⟨ρ, env, hh, u, h', re, R, e, q⟩ := q
    unfold evE at e
    obtain ⟨u', e1, e2⟩ := ob_some e
    cases e2
    obtain ⟨v, hv, rv⟩ := env_get re e1
    exact ⟨v, hv, q.here R rv⟩
  · exact Bool.noConfusion h) fun G pe h => by
  unfold chE at h
  split at h <;> first | rfl | exact Bool.noConfusion h
theorem so_int (i : Int) : SoE T C k (.int i) := soE_plain (fun G X pe c h => by
  unfold chE at h
  split at h
  · cases of_decide_eq_true h
    refine imE pe_int fun σ H Q q => ?_
    obtain ⟨ρ, env, hh, u, h', re, R, e, q⟩ := q
    unfold evE at e; cases e
    exact q.here R rfl
  · exact Bool.noConfusion h) fun G pe h => by
  unfold chE at h
  split at h <;> first | rfl | exact Bool.noConfusion h
theorem so_bl (i : Bool) : SoE T C k (.bl i) := soE_plain (fun G X pe c h => by
  unfold chE at h
  split at h
  · cases of_decide_eq_true h
    refine imE pe_bl fun σ H Q q => ?_
    obtain ⟨ρ, env, hh, u, h', re, R, e, q⟩ := q
    unfold evE at e; cases e
    exact q.here R rfl
  · exact Bool.noConfusion h) fun G pe h => by
  unfold chE at h
  split at h <;> first | rfl | exact Bool.noConfusion h
theorem so_str (i : Str) : SoE T C k (.str i) := soE_plain (fun G X pe c h => by
  unfold chE at h
  split at h
  · cases of_decide_eq_true h
    refine imE pe_str fun σ H Q q => ?_
    obtain ⟨ρ, env, hh, u, h', re, R, e, q⟩ := q
    unfold evE at e; cases e
    exact q.here R rfl
  · exact Bool.noConfusion h) fun G pe h => by
  unfold chE at h
  split at h <;> first | rfl | exact Bool.noConfusion h
theorem so_non : SoE T C k .non := soE_plain (fun G X pe c h => by
  unfold chE at h
  split at h
  · refine imE pe_non fun σ H Q q => ?_
    obtain ⟨ρ, env, hh, u, h', re, R, e, q⟩ := q
    unfold evE at e; cases e
    exact q.here R rfl
  · exact Bool.noConfusion h) fun G pe h => by
  unfold chE at h
  split at h <;> first | rfl | exact Bool.noConfusion h
theorem so_bin {op : Bop} {a b : Ex} (ha : SoE T C k a) (hb : SoE T C k b) : SoE T C k (.bin op a b) := soE_plain (fun G X pe c h => by
  unfold chE at h
  split at h
  · simp only [Bool.and_eq_true] at h
    obtain ⟨⟨h1, h2⟩, h3⟩ := h
    cases opB_eq h1
    refine imE (pe_op (op_bin op) (ha.val G X _ c h2) (hb.val G X _ c h3)) fun σ H Q q => ?_
    obtain ⟨ρ, env, hh, u, h', re, R, e, q⟩ := q
    unfold evE at e
    obtain ⟨x, h1, ea, e⟩ := bd_some e
    obtain ⟨y, h2, eb, e⟩ := bd_some e
    exact ⟨ρ, env, hh, x, h1, re, R, ea, fun ρ1 v1 H1 x1 R1 r1 => ⟨ρ1, env, h1, y, h2, re.mono x1.pre, R1, eb, fun ρ2 v2 H2 x2 R2 r2 => ⟨ρ2, h2, x, y, u, h', R2, r1.mono x2.pre, r2, e, q.mono (x1.trans x2)⟩⟩⟩
  · exact Bool.noConfusion h) fun G pe h => by
  unfold chE at h
  split at h <;> first | rfl | exact Bool.noConfusion h
theorem so_neg {a : Ex} (ha : SoE T C k a) : SoE T C k (.neg a) := soE_plain (fun G X pe c h => by
  unfold chE at h
  split at h
  · refine imE (pe_un un_neg (ha.val G X _ c h)) fun σ H Q q => ?_
    obtain ⟨ρ, env, hh, u, h', re, R, e, q⟩ := q
    unfold evE at e
    obtain ⟨x, h1, ea, e⟩ := bd_some e
    obtain ⟨y, en, e⟩ := ob_some e
    cases e
    unfold negU at en
    split at en
    · cases en
      refine ⟨ρ, env, hh, _, _, re, R, ea, fun ρ1 v1 H1 x1 R1 r1 => ⟨_, r1, (q.mono x1).here R1 rfl⟩⟩
    · cases en
  · exact Bool.noConfusion h) fun G pe h => by
  unfold chE at h
  split at h <;> first | rfl | exact Bool.noConfusion h
theorem so_not {a : Ex} (ha : SoE T C k a) : SoE T C k (.not a) := by
  refine ⟨fun G X pe c h => ?_, fun G X pe c h => ?_, fun G X op l pos c h => ?_⟩
  · unfold chE at h
    split at h
    · refine imE (pe_not (ha.val G X _ c h)) fun σ H Q q => ?_
      obtain ⟨ρ, env, hh, u, h', re, R, e, q⟩ := q
      unfold evE at e
      obtain ⟨x, h1, ea, e⟩ := bd_some e
      obtain ⟨y, en, e⟩ := ob_some e
      cases e
      unfold notU at en
      split at en
      · cases en
        exact ⟨ρ, env, hh, _, _, re, R, ea, fun ρ1 v1 H1 x1 R1 r1 => ⟨_, r1, (q.mono x1).here R1 rfl⟩⟩
      · cases en
    · exact Bool.noConfusion h
  · unfold chE at h
    split at h
    · refine imT (pt_not (ha.tst G X _ c h)) fun σ H Q q => ?_
      obtain ⟨ρ, env, hh, b, h', re, R, e, q⟩ := q
      unfold evE at e
      obtain ⟨x, h1, ea, e⟩ := bd_some e
      obtain ⟨y, en, e⟩ := ob_some e
      cases e
      unfold notU at en
      split at en
      · cases en
        exact ⟨ρ, env, hh, _, _, re, R, ea, fun ρ1 H1 x1 R1 => q ρ1 H1 x1 R1⟩
      · cases en
    · exact Bool.noConfusion h
  · unfold chE at h
    exact Bool.noConfusion h
theorem so_and {a b : Ex} (ha : SoE T C k a) (hb : SoE T C k b) : SoE T C k (.and a b) := by
  have wh : ∀ (G : Ga) (X : Cx) (op : BoolOp) (l : List Expr) (pos : Pos), CtxOk T C k G X → chE T G (.and a b) (.BoolOp op l pos) = true → PW X (.BoolOp op l pos) (tB' X.K C (.and a b)) := by
    intro G X op l pos c h
    unfold chE at h
    have fin : ∀ {pb : TT} (σ : L2.St) (H : Hp) (Q : Bool → Hp → Prop), (∀ σ H Q, tB' X.K C b σ H Q → pb σ H Q) → tB' X.K C (.and a b) σ H Q → tAnd (tB' X.K C a) pb σ H Q := by
      intro pb σ H Q hp q
      obtain ⟨ρ, env, hh, r, h', re, R, e, q⟩ := q
      unfold evE at e
      obtain ⟨x, h1, ea, e⟩ := bd_some e
      obtain ⟨d, rfl, e⟩ := bf_some e
      refine ⟨ρ, env, hh, d, h1, re, R, ea, fun ρ1 H1 x1 R1 => ?_⟩
      cases d with
      | true => exact hp _ _ _ ⟨ρ1, env, h1, r, h', re.mono x1.pre, R1, e, fun ρ2 H2 x2 R2 => q ρ2 H2 (x1.trans x2) R2⟩
      | false => cases e; exact q ρ1 H1 x1 R1
    split at h
    · rename_i he
      cases he
      rw [Bool.and_eq_true] at h
      exact imW (pw_and (ha.tst G X _ c h.1) (pw_and1 (hb.tst G X _ c h.2))) fun σ H Q => fin σ H Q fun _ _ _ z => z
    · rename_i he
      cases he
      rw [Bool.and_eq_true] at h
      exact imW (pw_and (ha.tst G X _ c h.1) (hb.wh G X _ _ _ c h.2)) fun σ H Q => fin σ H Q fun _ _ _ z => z
    · exact Bool.noConfusion h
  refine ⟨fun G X pe c h => ?_, fun G X pe c h => ?_, wh⟩
  · unfold chE at h
    have fin : ∀ {pb : TE} (σ : L2.St) (H : Hp) (Q : VK), (∀ σ H Q, tE X.K C b σ H Q → pb σ H Q) → tE X.K C (.and a b) σ H Q → tAndV (tE X.K C a) pb σ H Q := by
      intro pb σ H Q hp q
      obtain ⟨ρ, env, hh, r, h', re, R, e, q⟩ := q
      unfold evE at e
      obtain ⟨x, h1, ea, e⟩ := bd_some e
      obtain ⟨d, rfl, e⟩ := bf_some e
      refine ⟨ρ, env, hh, _, h1, re, R, ea, fun ρ1 v1 H1 x1 R1 r1 => ⟨d, r1, ?_⟩⟩
      cases d with
      | true => exact hp _ _ _ ⟨ρ1, env, h1, r, h', re.mono x1.pre, R1, e, q.mono x1⟩
      | false => cases e; exact (q.mono x1).here R1 rfl
    split at h
    · rw [Bool.and_eq_true] at h
      exact imE (pe_and (ha.val G X _ c h.1) (pe_one (hb.val G X _ c h.2))) fun σ H Q => fin σ H Q fun _ _ _ z => z
    · rw [Bool.and_eq_true] at h
      exact imE (pe_and (ha.val G X _ c h.1) (hb.val G X _ c h.2)) fun σ H Q => fin σ H Q fun _ _ _ z => z
    · exact Bool.noConfusion h
  · have : ∃ op l pos, pe = .BoolOp op l pos := by
      unfold chE at h
      split at h
      · exact ⟨_, _, _, rfl⟩
      · exact ⟨_, _, _, rfl⟩
      · exact Bool.noConfusion h
    obtain ⟨op, l, pos, rfl⟩ := this
    exact (wh G X op l pos c h).pt
theorem so_or {a b : Ex} (ha : SoE T C k a) (hb : SoE T C k b) : SoE T C k (.or a b) := by
  have wh : ∀ (G : Ga) (X : Cx) (op : BoolOp) (l : List Expr) (pos : Pos), CtxOk T C k G X → chE T G (.or a b) (.BoolOp op l pos) = true → PW X (.BoolOp op l pos) (tB' X.K C (.or a b)) := by
    intro G X op l pos c h
    unfold chE at h
    have fin : ∀ {pb : TT} (σ : L2.St) (H : Hp) (Q : Bool → Hp → Prop), (∀ σ H Q, tB' X.K C b σ H Q → pb σ H Q) → tB' X.K C (.or a b) σ H Q → tOr (tB' X.K C a) pb σ H Q := by
      intro pb σ H Q hp q
      obtain ⟨ρ, env, hh, r, h', re, R, e, q⟩ := q
      unfold evE at e
      obtain ⟨x, h1, ea, e⟩ := bd_some e
      obtain ⟨d, rfl, e⟩ := bf_some e
      refine ⟨ρ, env, hh, d, h1, re, R, ea, fun ρ1 H1 x1 R1 => ?_⟩
      cases d with
      | false => exact hp _ _ _ ⟨ρ1, env, h1, r, h', re.mono x1.pre, R1, e, fun ρ2 H2 x2 R2 => q ρ2 H2 (x1.trans x2) R2⟩
      | true => cases e; exact q ρ1 H1 x1 R1
    split at h
    · rename_i he
      cases he
      rw [Bool.and_eq_true] at h
      exact imW (pw_or (ha.tst G X _ c h.1) (pw_or1 (hb.tst G X _ c h.2))) fun σ H Q => fin σ H Q fun _ _ _ z => z
    · rename_i he
      cases he
      rw [Bool.and_eq_true] at h
      exact imW (pw_or (ha.tst G X _ c h.1) (hb.wh G X _ _ _ c h.2)) fun σ H Q => fin σ H Q fun _ _ _ z => z
    · exact Bool.noConfusion h
  refine ⟨fun G X pe c h => ?_, fun G X pe c h => ?_, wh⟩
  · unfold chE at h
    have fin : ∀ {pb : TE} (σ : L2.St) (H : Hp) (Q : VK), (∀ σ H Q, tE X.K C b σ H Q → pb σ H Q) → tE X.K C (.or a b) σ H Q → tOrV (tE X.K C a) pb σ H Q := by
      intro pb σ H Q hp q
      obtain ⟨ρ, env, hh, r, h', re, R, e, q⟩ := q
      unfold evE at e
      obtain ⟨x, h1, ea, e⟩ := bd_some e
      obtain ⟨d, rfl, e⟩ := bf_some e
      refine ⟨ρ, env, hh, _, h1, re, R, ea, fun ρ1 v1 H1 x1 R1 r1 => ⟨d, r1, ?_⟩⟩
      cases d with
      | false => exact hp _ _ _ ⟨ρ1, env, h1, r, h', re.mono x1.pre, R1, e, q.mono x1⟩
      | true => cases e; exact (q.mono x1).here R1 rfl
    split at h
    · rw [Bool.and_eq_true] at h
      exact imE (pe_or (ha.val G X _ c h.1) (pe_one (hb.val G X _ c h.2))) fun σ H Q => fin σ H Q fun _ _ _ z => z
    · rw [Bool.and_eq_true] at h
      exact imE (pe_or (ha.val G X _ c h.1) (hb.val G X _ c h.2)) fun σ H Q => fin σ H Q fun _ _ _ z => z
    · exact Bool.noConfusion h
  · have : ∃ op l pos, pe = .BoolOp op l pos := by
      unfold chE at h
      split at h
      · exact ⟨_, _, _, rfl⟩
      · exact ⟨_, _, _, rfl⟩
      · exact Bool.noConfusion h
    obtain ⟨op, l, pos, rfl⟩ := this
    exact (wh G X op l pos c h).pt
theorem so_ite {c0 a b : Ex} (hc : SoE T C k c0) (ha : SoE T C k a) (hb : SoE T C k b) : SoE T C k (.ite c0 a b) := by
  refine ⟨fun G X pe c h => ?_, fun G X pe c h => ?_, fun G X op l pos c h => ?_⟩
  · unfold chE at h
    split at h
    · simp only [Bool.and_eq_true] at h
      obtain ⟨⟨h1, h2⟩, h3⟩ := h
      refine imE (pe_ifExp (hc.tst G X _ c h1) (ha.val G X _ c h2) (hb.val G X _ c h3)) fun σ H Q q => ?_
      obtain ⟨ρ, env, hh, u, h', re, R, e, q⟩ := q
      unfold evE at e
      obtain ⟨x, h1, ea, e⟩ := bd_some e
      obtain ⟨d, rfl, e⟩ := bf_some e
      refine ⟨ρ, env, hh, d, h1, re, R, ea, fun ρ1 H1 x1 R1 => ?_⟩
      cases d with
      | true => exact ⟨ρ1, env, h1, u, h', re.mono x1.pre, R1, e, q.mono x1⟩
      | false => exact ⟨ρ1, env, h1, u, h', re.mono x1.pre, R1, e, q.mono x1⟩
    · exact Bool.noConfusion h
  · unfold chE at h
    split at h
    · simp only [Bool.and_eq_true] at h
      obtain ⟨⟨h1, h2⟩, h3⟩ := h
      refine imT (pt_iteE (hc.tst G X _ c h1) (ha.tst G X _ c h2) (hb.tst G X _ c h3)) fun σ H Q q => ?_
      obtain ⟨ρ, env, hh, u, h', re, R, e, q⟩ := q
      unfold evE at e
      obtain ⟨x, h1, ea, e⟩ := bd_some e
      obtain ⟨d, rfl, e⟩ := bf_some e
      refine ⟨ρ, env, hh, d, h1, re, R, ea, fun ρ1 H1 x1 R1 => ?_⟩
      cases d with
      | true => exact ⟨ρ1, env, h1, u, h', re.mono x1.pre, R1, e, fun ρ2 H2 x2 R2 => q ρ2 H2 (x1.trans x2) R2⟩
      | false => exact ⟨ρ1, env, h1, u, h', re.mono x1.pre, R1, e, fun ρ2 H2 x2 R2 => q ρ2 H2 (x1.trans x2) R2⟩
    · exact Bool.noConfusion h
  · unfold chE at h
    exact Bool.noConfusion h
theorem hu_room {X : Cx} (r : Room k X.A) : X.A.units + 65 < cLine := by have := r.un; omega
theorem so_cmp {op : Cop} {a b : Ex} (ha : SoE T C k a) (hb : SoE T C k b) : SoE T C k (.cmp op a b) := by
  have key : ∀ {X : Cx} (σ : L2.St) (H : Hp) (Q : VK), tE X.K C (.cmp op a b) σ H Q → tOp (RC X.K fun h => cmpU h op) (tE X.K C a) (tE X.K C b) σ H Q := by
    intro X σ H Q q
    obtain ⟨ρ, env, hh, u, h', re, R, e, q⟩ := q
    unfold evE at e
    obtain ⟨x, h1, ea, e⟩ := bd_some e
    obtain ⟨y, h2, eb, e⟩ := bd_some e
    obtain ⟨r, er, e⟩ := ob_some e
    cases e
    exact ⟨ρ, env, hh, x, h1, re, R, ea, fun ρ1 v1 H1 x1 R1 r1 => ⟨ρ1, env, h1, y, _, re.mono x1.pre, R1, eb, fun ρ2 v2 H2 x2 R2 r2 => ⟨ρ2, _, x, y, r, R2, r1.mono x2.pre, r2, er, (q.mono (x1.trans x2)).here R2 rfl⟩⟩⟩
  refine ⟨fun G X pe c h => ?_, fun G X pe c h => ?_, fun G X op l pos c h => ?_⟩
  · unfold chE at h
    split at h
    · simp only [Bool.and_eq_true] at h
      obtain ⟨⟨⟨h1, h2⟩, h3⟩, h4⟩ := h
      cases opC_eq h1
      exact imE (pe_cmpR (op_cmp (hu_room c.room) op) (ha.val G X _ c h3) (hb.val G X _ c h4) (set_marks h2)) key
    · exact Bool.noConfusion h
  · unfold chE at h
    split at h
    · simp only [Bool.and_eq_true] at h
      obtain ⟨⟨⟨h1, h2⟩, h3⟩, h4⟩ := h
      cases opC_eq h1
      refine imT (pt_cmpR (op_cmp (hu_room c.room) op) (ha.val G X _ c h3) (hb.val G X _ c h4) (set_marks h2)) fun σ H Q q => ?_
      obtain ⟨ρ, env, hh, b, h', re, R, e, q⟩ := q
      exact key σ H _ ⟨ρ, env, hh, _, h', re, R, e, fun ρ1 v1 H1 x1 R1 r1 => ⟨b, r1, q ρ1 H1 x1 R1⟩⟩
    · exact Bool.noConfusion h
  · unfold chE at h
    exact Bool.noConfusion h
theorem so_chain {op op' : Cop} {a b d : Ex} (ha : SoE T C k a) (hb : SoE T C k b) (hd : SoE T C k d) : SoE T C k (.chain op op' a b d) := by
  have key : ∀ {X : Cx} (σ : L2.St) (H : Hp) (Q : VK), tE X.K C (.chain op op' a b d) σ H Q → tChain (RC X.K fun h => cmpU h op) (RC X.K fun h => cmpU h op') (tE X.K C a) (tE X.K C b) (tE X.K C d) σ H Q := by
    intro X σ H Q q
    obtain ⟨ρ, env, hh, u, h', re, R, e, q⟩ := q
    unfold evE at e
    obtain ⟨x, h1, ea, e⟩ := bd_some e
    obtain ⟨y, h2, eb, e⟩ := bd_some e
    obtain ⟨r, er, e⟩ := ob_some e
    refine ⟨ρ, env, hh, x, h1, re, R, ea, fun ρ1 v1 H1 x1 R1 r1 => ⟨ρ1, env, h1, y, h2, re.mono x1.pre, R1, eb, fun ρ2 v2 H2 x2 R2 r2 => ⟨ρ2, h2, x, y, r, R2, r1.mono x2.pre, r2, er, r, rfl, ?_⟩⟩⟩
    cases r with
    | true =>
      obtain ⟨z, h3, ed, e⟩ := bd_some (show bd _ _ = some _ from e)
      obtain ⟨r', er', e⟩ := ob_some e
      cases e
      exact ⟨ρ2, env, h2, z, _, re.mono (x1.trans x2).pre, R2, ed, fun ρ3 v3 H3 x3 R3 r3 => ⟨ρ3, _, y, z, r', R3, r2.mono x3.pre, r3, er', (q.mono ((x1.trans x2).trans x3)).here R3 rfl⟩⟩
    | false =>
      cases (show some (U.bl false, h2) = some (u, h') from e)
      exact (q.mono (x1.trans x2)).here R2 rfl
  have marks : ∀ {p p' : CmpOp} {x y : Expr}, notSet y = true → lastMarks [p, p'] [x, y] = false := fun {p p' x y} hy => set_marks (op := p') hy
  refine ⟨fun G X pe c h => ?_, fun G X pe c h => ?_, fun G X op l pos c h => ?_⟩
  · unfold chE at h
    split at h
    · simp only [Bool.and_eq_true] at h
      obtain ⟨⟨⟨⟨⟨h1, h1'⟩, h2⟩, h3⟩, h4⟩, h5⟩ := h
      cases opC_eq h1
      cases opC_eq h1'
      exact imE (pe_chain (op_cmp (hu_room c.room) op) (op_cmp (hu_room c.room) op') (ha.val G X _ c h3) (hb.val G X _ c h4) (hd.val G X _ c h5) (marks h2)) key
    · exact Bool.noConfusion h
  · unfold chE at h
    split at h
    · simp only [Bool.and_eq_true] at h
      obtain ⟨⟨⟨⟨⟨h1, h1'⟩, h2⟩, h3⟩, h4⟩, h5⟩ := h
      cases opC_eq h1
      cases opC_eq h1'
      refine imT (pt_chain (op_cmp (hu_room c.room) op) (op_cmp (hu_room c.room) op') (ha.val G X _ c h3) (hb.val G X _ c h4) (hd.val G X _ c h5) (marks h2)) fun σ H Q q => ?_
      obtain ⟨ρ, env, hh, b, h', re, R, e, q⟩ := q
      exact key σ H _ ⟨ρ, env, hh, _, h', re, R, e, fun ρ1 v1 H1 x1 R1 r1 => ⟨b, r1, q ρ1 H1 x1 R1⟩⟩
    · exact Bool.noConfusion h
  · unfold chE at h
    exact Bool.noConfusion h
end
end Mi

set_option maxRecDepth 100000
/-! Mi, part B7: expressions, lists, calls. -/
namespace Mi
open PySem PySem.Spec PyProof.Rows L2
section
variable {T : Tab} {C : Calls} {k : Nat}
theorem so_nil : SoEs T C k .nil := fun G X ps c h hs => by
  unfold chEs at h
  split at h
  · refine imA pa_nil fun σ H Q q => ?_
    obtain ⟨ρ, env, hh, us, h', re, R, e, q⟩ := q
    unfold evEs at e; cases e
    exact q ρ [] H .refl R .nil
  · exact Bool.noConfusion h
theorem so_cons {a : Ex} {es : Exs} (ha : SoE T C k a) (hs : SoEs T C k es) : SoEs T C k (.cons a es) := fun G X ps c h hn => by
  unfold chEs at h
  split at h
  · rw [Bool.and_eq_true] at h
    unfold noStars at hn
    rw [Bool.and_eq_true] at hn
    refine imA (pa_cons (ha.val G X _ c h.1) (hs G X _ c h.2 hn.2) (star_cons hn.1)) fun σ H Q q => ?_
    obtain ⟨ρ, env, hh, us, h', re, R, e, q⟩ := q
    unfold evEs at e
    obtain ⟨x, h1, ea, e⟩ := bd_some e
    obtain ⟨xs, h2, eb, e⟩ := bd_some e
    cases e
    exact ⟨ρ, env, hh, x, h1, re, R, ea, fun ρ1 v1 H1 x1 R1 r1 => ⟨ρ1, env, h1, xs, _, re.mono x1.pre, R1, eb, fun ρ2 v2 H2 x2 R2 r2 => q ρ2 _ H2 (x1.trans x2) R2 (.cons (r1.mono x2.pre) r2)⟩⟩
  · exact Bool.noConfusion h
theorem sk_nil : SoKs T C k .nil := fun G X ps c h => by
  unfold chKs at h
  split at h
  · refine imK pk_nil fun σ H Q q => ?_
    obtain ⟨ρ, env, hh, us, h', re, R, e, q⟩ := q
    unfold evEs at e; cases e
    exact q ρ [] H .refl R .nil
  · exact Bool.noConfusion h
theorem sk_cons {a : Ex} {es : Exs} (ha : SoE T C k a) (hs : SoKs T C k es) : SoKs T C k (.cons a es) := fun G X ps c h => by
  unfold chKs at h
  split at h
  · rw [Bool.and_eq_true] at h
    refine imK (pk_cons (ha.val G X _ c h.1) (hs G X _ c h.2)) fun σ H Q q => ?_
    obtain ⟨ρ, env, hh, us, h', re, R, e, q⟩ := q
    unfold evEs at e
    obtain ⟨x, h1, ea, e⟩ := bd_some e
    obtain ⟨xs, h2, eb, e⟩ := bd_some e
    cases e
    exact ⟨ρ, env, hh, x, h1, re, R, ea, fun ρ1 v1 H1 x1 R1 r1 => ⟨ρ1, env, h1, xs, _, re.mono x1.pre, R1, eb, fun ρ2 v2 H2 x2 R2 r2 => q ρ2 _ H2 (x1.trans x2) R2 (.cons (r1.mono x2.pre) r2)⟩⟩
  · exact Bool.noConfusion h
theorem so_list {es : Exs} (hs : SoEs T C k es) : SoE T C k (.list es) := soE_plain (fun G X pe c h => by
  unfold chE at h
  split at h
  · rw [Bool.and_eq_true] at h
    refine imE (pe_lst (hs G X _ c h.2 h.1)) fun σ H Q q => ?_
    obtain ⟨ρ, env, hh, u, h', re, R, e, q⟩ := q
    unfold evE at e
    obtain ⟨us, h1, ea, e⟩ := bd_some e
    exact ⟨ρ, env, hh, us, h1, re, R, ea, fun ρ1 v1 H1 x1 R1 r1 => newL_post R1 r1 e (q.mono x1)⟩
  · exact Bool.noConfusion h) fun G pe h => by
  unfold chE at h
  split at h <;> first | rfl | exact Bool.noConfusion h
theorem so_tup {es : Exs} (hs : SoEs T C k es) : SoE T C k (.tup es) := soE_plain (fun G X pe c h => by
  unfold chE at h
  split at h
  · rw [Bool.and_eq_true] at h
    refine imE (pe_tup (hs G X _ c h.2 h.1)) fun σ H Q q => ?_
    obtain ⟨ρ, env, hh, u, h', re, R, e, q⟩ := q
    unfold evE at e
    obtain ⟨us, h1, ea, e⟩ := bd_some e
    exact ⟨ρ, env, hh, us, h1, re, R, ea, fun ρ1 v1 H1 x1 R1 r1 => newT_post R1 r1 e (q.mono x1)⟩
  · exact Bool.noConfusion h) fun G pe h => by
  unfold chE at h
  split at h <;> first | rfl | exact Bool.noConfusion h
theorem atI_rel {ρ : List Addr} {xs : List U} {vs : List V} {i : Int} {u : U} (r : RUs ρ xs vs) (e : atI xs i = some u) : ∃ v, atI vs i = some v ∧ RU ρ u v := by
  unfold atI at e ⊢
  rw [← pd_len r]
  cases hi : ixN xs.length i with
  | none => rw [hi] at e; cases e
  | some j =>
    rw [hi] at e
    exact pd_get r e
theorem so_sub {a i : Ex} (ha : SoE T C k a) (hi : SoE T C k i) : SoE T C k (.sub a i) := soE_plain (fun G X pe c h => by
  unfold chE at h
  split at h
  · simp only [Bool.and_eq_true] at h
    obtain ⟨⟨h1, h2⟩, h3⟩ := h
    refine imE (pe_ix (ix_list.or ix_tup) (ha.val G X _ c h2) (hi.val G X _ c h3) (ix_plain h1)) fun σ H Q q => ?_
    obtain ⟨ρ, env, hh, u, h', re, R, e, q⟩ := q
    unfold evE at e
    obtain ⟨x, h1, ea, e⟩ := bd_some e
    obtain ⟨y, h2, eb, e⟩ := bd_some e
    obtain ⟨w, ew, e⟩ := ob_some e
    cases e
    refine ⟨ρ, env, hh, x, h1, re, R, ea, fun ρ1 v1 H1 x1 R1 r1 => ⟨ρ1, env, h1, y, _, re.mono x1.pre, R1, eb, fun ρ2 v2 H2 x2 R2 r2 => ?_⟩⟩
    unfold subU at ew
    split at ew
    · rename_i xs kk es
      obtain ⟨n, p, vs, _, e1, _, rr, hs⟩ := rdS_rel R2 (r1.mono x2.pre) es
      cases (show v2 = .int _ from r2)
      subst e1
      obtain ⟨z, hz, rz⟩ := atI_rel rr ew
      have fin := (q.mono (x1.trans x2)).here R2 rz
      rcases hs with hs | hs
      · exact .inl ⟨p, vs, _, z, rfl, rfl, hs, hz, fin⟩
      · exact .inr ⟨p, vs, _, z, rfl, rfl, hs, hz, fin⟩
    · cases ew
  · exact Bool.noConfusion h) fun G pe h => by
  unfold chE at h
  split at h <;> first | rfl | exact Bool.noConfusion h
theorem cut_rel {ρ : List Addr} {xs : List U} {vs : List V} (r : RUs ρ xs vs) (lo hi : Option Int) : RUs ρ (cut xs lo hi) (cutV vs lo hi) := by
  unfold cut cutV
  rw [← pd_len r]
  exact pd_take _ (pd_drop _ r)
/-- one end of a slice -/
theorem po_any {G : Ga} {X : Cx} (c : CtxOk T C k G X) {f : Bool} {lo : Ex} (hl : SoE T C k lo) {plo : Option Expr} (h : (match plo with | none => !f && isNon lo | some q => f && chE T G lo q) = true) :
    PO X plo (fun σ H Q => ∃ ρ env h u h1 o, REnv ρ env σ ∧ Rel X.K ρ h H ∧ evE C lo env h = some (u, h1) ∧ bnd f u = some o ∧ ∀ ρ' H', Ext ρ H ρ' H' → Rel X.K ρ' h1 H' → Q o H') := by
  cases plo with
  | none =>
    dsimp only at h
    rw [Bool.and_eq_true] at h
    cases isNon_eq h.2
    have hf : f = false := by cases f <;> first | rfl | exact Bool.noConfusion h.1
    subst hf
    refine ⟨fun pins s σ H Q I q => po_none.run pins s σ H Q I ?_⟩
    obtain ⟨ρ, env, hh, u, h1, o, re, R, e, eb, q⟩ := q
    unfold evE at e
    cases e
    cases eb
    exact q ρ H .refl R
  | some pq =>
    dsimp only at h
    rw [Bool.and_eq_true] at h
    have hf : f = true := h.1
    subst hf
    refine ⟨fun pins s σ H Q I q => (po_some (hl.val G X _ c h.2)).run pins s σ H Q I ?_⟩
    obtain ⟨ρ, env, hh, u, h1, o, re, R, e, eb, q⟩ := q
    refine ⟨ρ, env, hh, u, h1, re, R, e, fun ρ' v' H' x' R' r' => ?_⟩
    unfold bnd at eb
    split at eb
    · rename_i z; cases z
    · cases eb
      exact ⟨_, r', q ρ' H' x' R'⟩
    · cases eb
theorem so_slice {a lo hi : Ex} {f f' : Bool} (ha : SoE T C k a) (hl : SoE T C k lo) (hr : SoE T C k hi) : SoE T C k (.slice a f f' lo hi) := soE_plain (fun G X pe c h => by
  unfold chE at h
  split at h
  · rw [Bool.and_eq_true, Bool.and_eq_true] at h
    obtain ⟨⟨h1, h2⟩, h3⟩ := h
    refine imE (pe_slice sl_list (ha.val G X _ c h1) (po_any c hl h2) (po_any c hr h3)) fun σ H Q q => ?_
    obtain ⟨ρ, env, hh, u, h', re, R, e, q⟩ := q
    unfold evE at e
    obtain ⟨x, h1, ea, e⟩ := bd_some e
    obtain ⟨l, h2, el, e⟩ := bd_some e
    obtain ⟨r, h3, er, e⟩ := bd_some e
    unfold sliceU at e
    split at e
    · cases e
    · rename_i xs ex
      split at e
      · cases e
      · rename_i lo' el'
        split at e
        · cases e
        · rename_i hi' eh'
          cases e
          refine ⟨ρ, env, hh, x, h1, re, R, ea, fun ρ1 v1 H1 x1 R1 r1 => ⟨ρ1, env, h1, l, h2, lo', re.mono x1.pre, R1, el, el', fun ρ2 H2 x2 R2 => ⟨ρ2, env, h2, r, h3, hi', re.mono (x1.trans x2).pre, R2, er, eh', fun ρ3 H3 x3 R3 => ?_⟩⟩⟩
          obtain ⟨n, p, vs, _, e1, _, rr, hs⟩ := rdL_rel R3 (r1.mono (x2.trans x3).pre) ex
          subst e1
          exact ⟨p, vs, rfl, hs, fun w hw => (q.mono ((x1.trans x2).trans x3)) _ _ _ (.push hw _) (R3.pushL hw (cut_rel rr _ _)) (ref_last R3.len)⟩
  · exact Bool.noConfusion h) fun G pe h => by
  unfold chE at h
  split at h <;> first | rfl | exact Bool.noConfusion h
theorem so_rev {a : Ex} (ha : SoE T C k a) : SoE T C k (.rev a) := soE_plain (fun G X pe c h => by
  unfold chE at h
  split at h
  · rw [Bool.and_eq_true] at h
    cases of_decide_eq_true h.1
    refine imE (pe_revL (ha.val G X _ c h.2)) fun σ H Q q => ?_
    obtain ⟨ρ, env, hh, u, h', re, R, e, q⟩ := q
    unfold evE at e
    obtain ⟨x, h1, ea, e⟩ := bd_some e
    obtain ⟨xs, ex, e⟩ := ob_some e
    cases e
    refine ⟨ρ, env, hh, x, h1, re, R, ea, fun ρ1 v1 H1 x1 R1 r1 => ?_⟩
    obtain ⟨n, p, vs, _, e1, _, rr, hs⟩ := rdL_rel R1 r1 ex
    exact ⟨p, vs, e1, hs, fun w hw => (q.mono x1) _ _ _ (.push hw _) (R1.pushL hw (pd_rev rr)) (ref_last R1.len)⟩
  · exact Bool.noConfusion h) fun G pe h => by
  unfold chE at h
  split at h <;> first | rfl | exact Bool.noConfusion h
theorem vOf_rel {ρ : List Addr} : ∀ {l : List U}, l.all noRef = true → RUs ρ l (l.map vOf)
  | [], _ => .nil
  | u :: r, h => by
    rw [List.all_cons, Bool.and_eq_true] at h
    refine .cons ?_ (vOf_rel h.2)
    cases u <;> first | rfl | exact Bool.noConfusion h.1
theorem so_call {f : Nat} {es : Exs} {dv : List U} (hs : SoEs T C k es) : SoE T C k (.call f es dv) := soE_plain (fun G X pe c h => by
  unfold chE at h
  split at h
  · rename_i x _ pes _
    simp only [Bool.and_eq_true] at h
    obtain ⟨⟨⟨⟨⟨h1, h2⟩, h3⟩, h4⟩, h5⟩, h6⟩ := h
    obtain ⟨a, fd, ps, m, kp, F, b, bd, _⟩ := c.fns f _ (of_decide_eq_true h1)
    have hd : ∃ ds, Binds X.K fd ps ds ∧ Vals (dv.map vOf) ds ∧ dv.all noRef = true := by
      rw [Bool.or_eq_true] at h6
      rcases h6 with h6 | h6
      · have : dv = [] := by cases dv <;> first | rfl | exact Bool.noConfusion h6
        subst this
        exact ⟨[], b, .nil, rfl⟩
      · obtain ⟨n, ds, h7, h8⟩ := bd dv (of_decide_eq_true h6)
        exact ⟨ds, h7, h8, n⟩
    obtain ⟨ds, hb, hv, hn⟩ := hd
    obtain ⟨d1, _, _⟩ := nm_dbg h3
    have hg : Gl X x := gl_of (by rw [c.sc]; exact h2)
    have pa := hs G X _ c h5 h4
    have key : ∀ (σ : L2.St) (H : Hp) (Q : VK), tE X.K C (.call f es dv) σ H Q → tCall (spC X.K C f) (dv.map vOf) E0 (tEs X.K C es) σ H Q := by
      intro σ H Q q
      obtain ⟨ρ, env, hh, u, h', re, R, e, q⟩ := q
      unfold evE at e
      obtain ⟨us, h1, ea, e⟩ := bd_some e
      exact ⟨ρ, env, hh, us, h1, re, R, ea, fun ρ1 v1 H1 x1 R1 r1 => ⟨ρ1, h1, us ++ dv, u, h', R1, pd_append r1 (vOf_rel hn), e, q.mono x1⟩⟩
    cases pes with
    | nil =>
      refine imE (pe_callG00 F c.room c.gd hg m kp hb hv pass0 d1) fun σ H Q q => ?_
      obtain ⟨ρ, env, hh, us, h1, re, R, ea, z⟩ := key σ H Q q
      cases es with
      | nil =>
        unfold evEs at ea
        cases ea
        exact z ρ [] H .refl R .nil
      | cons e1 e2 => unfold chEs at h5; exact Bool.noConfusion h5
    | cons e1 e2 =>
      unfold noStars at h4
      rw [Bool.and_eq_true] at h4
      exact imE (pe_callG F c.room c.gd hg m kp hb hv pass0 pa d1 (star_cons h4.1) (star_any h4.2)) key
  · exact Bool.noConfusion h) fun G pe h => by
  unfold chE at h
  split at h <;> first | rfl | exact Bool.noConfusion h
theorem kws_some {T : Tab} {G : Ga} {env : PySem.Env} {pos : Pos} : ∀ {ks : Exs} {kws : List Keyword}, chKs T G ks kws = true → (backToKw pos (keywordEach kws env)).all (·.1.isSome) = true ∧ (backToKw pos (keywordEach kws env)).filterMap (·.1) = kwN kws ∧ (backToKw pos (keywordEach kws env)).any (·.1.isNone) = false ∧ (isNil ks = false → kws ≠ [])
  | .nil, [], h => ⟨rfl, rfl, rfl, fun z => Bool.noConfusion z⟩
  | .nil, _ :: _, h => by unfold chKs at h; exact Bool.noConfusion h
  | .cons _ _, [], h => by unfold chKs at h; exact Bool.noConfusion h
  | .cons e es, ⟨none, v, p⟩ :: r, h => by unfold chKs at h; exact Bool.noConfusion h
  | .cons e es, ⟨some x, v, p⟩ :: r, h => by
    unfold chKs at h
    dsimp only at h
    rw [Bool.and_eq_true] at h
    obtain ⟨i1, i2, i3, _⟩ := kws_some (env := env) (pos := pos) h.2
    refine ⟨?_, ?_, ?_, fun _ z => nomatch z⟩
    · show ((some x, _) :: backToKw pos (keywordEach r env)).all _ = true
      rw [List.all_cons, i1]; rfl
    · show ((some x, _) :: backToKw pos (keywordEach r env)).filterMap _ = _
      rw [List.filterMap_cons, i2]; rfl
    · show ((some x, _) :: backToKw pos (keywordEach r env)).any _ = false
      rw [List.any_cons, i3]; rfl
theorem kwN_len {T : Tab} {G : Ga} : ∀ {ks : Exs} {kws : List Keyword}, chKs T G ks kws = true → ∀ {C : Calls} {env : Env} {h h1 : Hm} {us : List U}, evEs C ks env h = some (us, h1) → us.length = (kwN kws).length
  | .nil, [], _, _, _, _, _, _, e => by unfold evEs at e; cases e; rfl
  | .nil, _ :: _, h, _, _, _, _, _, _ => by unfold chKs at h; exact Bool.noConfusion h
  | .cons _ _, [], h, _, _, _, _, _, _ => by unfold chKs at h; exact Bool.noConfusion h
  | .cons e es, ⟨none, v, p⟩ :: r, h, _, _, _, _, _, _ => by unfold chKs at h; exact Bool.noConfusion h
  | .cons e es, ⟨some x, v, p⟩ :: r, h, C, env, hh, h1, us, ee => by
    unfold chKs at h
    dsimp only at h
    rw [Bool.and_eq_true] at h
    unfold evEs at ee
    obtain ⟨y, h2, e1, ee⟩ := bd_some ee
    obtain ⟨ys, h3, e2, ee⟩ := bd_some ee
    cases ee
    show ys.length + 1 = (kwN r).length + 1
    rw [kwN_len h.2 e2]
theorem es_len {T : Tab} {G : Ga} : ∀ {es : Exs} {ps : List Expr}, chEs T G es ps = true → ∀ {C : Calls} {env : Env} {h h1 : Hm} {us : List U}, evEs C es env h = some (us, h1) → us.length = ps.length
  | .nil, [], _, _, _, _, _, _, e => by unfold evEs at e; cases e; rfl
  | .nil, _ :: _, h, _, _, _, _, _, _ => by unfold chEs at h; exact Bool.noConfusion h
  | .cons _ _, [], h, _, _, _, _, _, _ => by unfold chEs at h; exact Bool.noConfusion h
  | .cons e es, p :: r, h, C, env, hh, h1, us, ee => by
    unfold chEs at h
    dsimp only at h
    rw [Bool.and_eq_true] at h
    unfold evEs at ee
    obtain ⟨y, h2, e1, ee⟩ := bd_some ee
    obtain ⟨ys, h3, e2, ee⟩ := bd_some ee
    cases ee
    show ys.length + 1 = r.length + 1
    rw [es_len h.2 e2]
theorem gv_rel {ρ : List Addr} {us : List U} {vs : List V} (r : RUs ρ us vs) : ∀ pm : List Nat, RUs ρ (pm.map fun i => us.getD i .non) (pm.map fun i => vs.getD i .non)
  | [] => .nil
  | i :: pm => by
    refine .cons ?_ (gv_rel r pm)
    show RU ρ (us.getD i .non) (vs.getD i .non)
    rw [List.getD_eq_getElem?_getD, List.getD_eq_getElem?_getD]
    cases e : us[i]? with
    | none => rw [pd_none r e]; rfl
    | some u =>
      obtain ⟨v, hv, rv⟩ := pd_get r e
      rw [hv]; exact rv
theorem so_callk {f : Nat} {es ks : Exs} {sh : Nat} {pm : List Nat} (hs : SoEs T C k es) (hk : SoKs T C k ks) : SoE T C k (.callk f es ks sh pm) := soE_plain (fun G X pe c h => by
  unfold chE at h
  split at h
  · rename_i x _ pes kws _
    simp only [Bool.and_eq_true] at h
    obtain ⟨⟨⟨⟨⟨⟨⟨h1, h2⟩, h3⟩, h4⟩, h5⟩, h6⟩, h7⟩, h8⟩ := h
    obtain ⟨a, fd, ps, m, kp, F, _, _, bk⟩ := c.fns f _ (of_decide_eq_true h1)
    obtain ⟨g, KB⟩ := bk sh _ _ _ (of_decide_eq_true h8)
    obtain ⟨d1, _, _⟩ := nm_dbg h3
    have hg : Gl X x := gl_of (by rw [c.sc]; exact h2)
    have pa := hs G X _ c h5 h4
    have pk := hk G X _ c h6
    have key : ∀ (σ : L2.St) (H : Hp) (Q : VK), tE X.K C (.callk f es ks sh pm) σ H Q → tCallN pes.length (kwN kws).length (spC X.K C f) (gvO pm) E0 (tEs X.K C es) (tEs X.K C ks) σ H Q := by
      intro σ H Q q
      obtain ⟨ρ, env, hh, u, h', re, R, e, q⟩ := q
      unfold evE at e
      obtain ⟨us, h1, ea, e⟩ := bd_some e
      obtain ⟨ws, h2, eb, e⟩ := bd_some e
      refine ⟨ρ, env, hh, us, h1, re, R, ea, fun ρ1 v1 H1 x1 R1 r1 => ⟨ρ1, env, h1, ws, h2, re.mono x1.pre, R1, eb, fun ρ2 v2 H2 x2 R2 r2 => ⟨?_, ?_, ρ2, h2, _, u, h', R2, ?_, e, q.mono (x1.trans x2)⟩⟩⟩
      · rw [← pd_len r1]; exact es_len h5 ea
      · rw [← pd_len r2]; exact kwN_len h6 eb
      · exact gv_rel (pd_append (r1.mono x2.pre) r2) pm
    obtain ⟨k1, k2, k3, k4⟩ := kws_some (env := X.env) (pos := ‹Pos›) h6
    cases pes with
    | nil =>
      obtain ⟨j1, j2, j3, _⟩ := kws_some (env := X.env) (pos := by assumption) h6
      refine imE (pe_callG0 F c.room c.gd hg m kp KB pass0 pk (kws_some h6).1 (kws_some h6).2.1 d1 (by rw [(kws_some h6).2.2.1]; rfl)) fun σ H Q q => ?_
      obtain ⟨ρ, env, hh, us, h1, re, R, ea, z⟩ := key σ H Q q
      cases es with
      | nil =>
        unfold evEs at ea
        cases ea
        exact z ρ [] H .refl R .nil
      | cons e1 e2 => unfold chEs at h5; exact Bool.noConfusion h5
    | cons e1 e2 =>
      have h4' := h4
      unfold noStars at h4
      rw [Bool.and_eq_true] at h4
      exact imE (pe_callGN F c.room c.gd hg m kp KB pass0 pa pk (kws_some h6).1 (kws_some h6).2.1 d1 (star_cons h4.1) (by rw [star_any h4', (kws_some h6).2.2.1]; rfl)) key
  · exact Bool.noConfusion h) fun G pe h => by
  unfold chE at h
  split at h <;> first | rfl | exact Bool.noConfusion h
end
end Mi

set_option maxRecDepth 100000
/-! Mi, part B8: built-in calls, methods, comprehensions; every term. -/
namespace Mi
open PySem PySem.Spec PyProof.Rows L2
section
variable {T : Tab} {C : Calls} {k : Nat}
theorem bi_in (b : Bi) : biS b ∈ btNames := by cases b <;> decide
theorem pe_bi {X : Cx} (hc : X.calm = true) (gd : X.A.guards = some []) (hu : X.A.units + 70 < cLine) (b : Bi) {p pos : Pos} {e : Expr} {es : List Expr} {t : TA} (hg : Gl X (biS b)) (hm : X.mg (biS b) = none) (ha : PA X (e :: es) t)
    (he : starEach (e :: es) X.env = (false, eval e X.env) :: starEach es X.env) (hpl : (backTo pos (starEach es X.env)).any (·.1) = false) : PE X (.Call (.Name (biS b) p) (e :: es) [] pos) (tCB (RF X.K fun h => biU h b) t) := by
  have hc' := call_bi hc gd hu b
  cases b
  · exact pe_callB hc' hg hm (by decide +kernel) ha (by decide) (by decide) he hpl
  · exact pe_callB hc' hg hm (by decide +kernel) ha (by decide) (by decide) he hpl
  · exact pe_callB hc' hg hm (by decide +kernel) ha (by decide) (by decide) he hpl
  · exact pe_callB hc' hg hm (by decide +kernel) ha (by decide) (by decide) he hpl
  · exact pe_callB hc' hg hm (by decide +kernel) ha (by decide) (by decide) he hpl
  · exact pe_callB hc' hg hm (by decide +kernel) ha (by decide) (by decide) he hpl
  · exact pe_callB hc' hg hm (by decide +kernel) ha (by decide) (by decide) he hpl
  · exact pe_callB hc' hg hm (by decide +kernel) ha (by decide) (by decide) he hpl
  · exact pe_callB hc' hg hm (by decide +kernel) ha (by decide) (by decide) he hpl
  · exact pe_callTy hc' hg hm (by decide +kernel) ha (by decide) (by decide) he hpl
  · exact pe_callTy hc' hg hm (by decide +kernel) ha (by decide) (by decide) he hpl
  · exact pe_callTy hc' hg hm (by decide +kernel) ha (by decide) (by decide) he hpl
  · exact pe_callB hc' hg hm (by decide +kernel) ha (by decide) (by decide) he hpl
  · exact pe_callB hc' hg hm (by decide +kernel) ha (by decide) (by decide) he hpl
theorem so_bi {b : Bi} {es : Exs} (hs : SoEs T C k es) : SoE T C k (.bi b es) := soE_plain (fun G X pe c h => by
  unfold chE at h
  split at h
  · rename_i x _ pes _
    simp only [Bool.and_eq_true] at h
    obtain ⟨⟨⟨⟨h1, h2⟩, h3⟩, h4⟩, h5⟩ := h
    cases of_decide_eq_true h1
    have hg : Gl X (biS b) := gl_of (by rw [c.sc]; exact h2)
    have pa := hs G X _ c h5 h3
    cases pes with
    | nil =>
      cases es with
      | nil => exact Bool.noConfusion h4
      | cons e1 e2 => unfold chEs at h5; exact Bool.noConfusion h5
    | cons e1 e2 =>
      unfold noStars at h3
      rw [Bool.and_eq_true] at h3
      refine imE (pe_bi c.calm c.gd (by have := c.room.un; omega) b hg (c.bt _ (bi_in b)) pa (star_cons h3.1) (star_any h3.2)) fun σ H Q q => ?_
      obtain ⟨ρ, env, hh, u, h', re, R, e, q⟩ := q
      unfold evE at e
      obtain ⟨us, h1, ea, e⟩ := bd_some e
      exact ⟨ρ, env, hh, us, h1, re, R, ea, fun ρ1 v1 H1 x1 R1 r1 => ⟨ρ1, h1, us, u, h', R1, r1, e, q.mono x1⟩⟩
  · exact Bool.noConfusion h) fun G pe h => by
  unfold chE at h
  split at h <;> first | rfl | exact Bool.noConfusion h
theorem ty_in (t : Ty) : tyS t ∈ btNames := by cases t <;> decide
theorem pe_ty {G : Ga} {X : Cx} (c : CtxOk T C k G X) (t : Ty) {p : Pos} (h : glB G.sc (tyS t) = true) : PE X (.Name (tyS t) p) (tC (.ty (tyN t))) := by
  have hg : Gl X (tyS t) := gl_of (by rw [c.sc]; exact h)
  have hm := c.bt _ (ty_in t)
  cases t <;> exact pe_bltn hg hm (by decide +kernel) rfl (by decide) (by decide)
theorem isi_in : ("isinstance" : Str) ∈ btNames := by decide
theorem so_isi {a : Ex} {t : Ty} (ha : SoE T C k a) : SoE T C k (.isi a t) := soE_plain (fun G X pe c h => by
  unfold chE at h
  split at h
  · rename_i x _ pa y _ _
    simp only [Bool.and_eq_true] at h
    obtain ⟨⟨⟨⟨⟨h1, h2⟩, h3⟩, h4⟩, h5⟩, h6⟩ := h
    cases of_decide_eq_true h1
    cases of_decide_eq_true h3
    have hg : Gl X ("isinstance" : Str) := gl_of (by rw [c.sc]; exact h2)
    refine imE (pe_callB call_isi hg (c.bt _ isi_in) (by decide +kernel) (pa_two (ha.val G X _ c h6) (pe_ty c t h4) h5 rfl) (by decide) (by decide) (star_cons h5) rfl) fun σ H Q q => ?_
    obtain ⟨ρ, env, hh, u, h', re, R, e, q⟩ := q
    unfold evE at e
    obtain ⟨w, h1, ea, e⟩ := bd_some e
    obtain ⟨r, er, e⟩ := ob_some e
    cases e
    refine ⟨ρ, env, hh, w, _, re, R, ea, fun ρ1 v1 H1 x1 R1 r1 => ?_⟩
    obtain ⟨tv, ht, kk⟩ := isTy_all R1 r1 er
    exact ⟨v1, .ty (tyN t), tv, .type (tyN t), r, rfl, .ty _, ht, kk _ _ er, (q.mono x1).here R1 rfl⟩
  · exact Bool.noConfusion h) fun G pe h => by
  unfold chE at h
  split at h <;> first | rfl | exact Bool.noConfusion h
theorem tys_pa {G : Ga} {X : Cx} (c : CtxOk T C k G X) : ∀ {ts : List Ty} {es : List Expr}, chTys G.sc ts es = true → PA X es (fun _ H Q => Q (ts.map fun t => .ty (tyN t)) H) ∧ noStars es = true
  | [], [], _ => ⟨pa_nil, rfl⟩
  | [], _ :: _, h => by unfold chTys at h; exact Bool.noConfusion h
  | t :: ts, [], h => by unfold chTys at h; exact Bool.noConfusion h
  | t :: ts, e :: es, h => by
    unfold chTys at h
    split at h
    · rename_i z _; cases z
    · rename_i e1 e2
      cases e1; cases e2
      simp only [Bool.and_eq_true] at h
      obtain ⟨⟨h1, h2⟩, h3⟩ := h
      cases of_decide_eq_true h1
      obtain ⟨i1, i2⟩ := tys_pa c h3
      exact ⟨imA (pa_cons (pe_ty c t h2) i1 rfl) fun σ H Q q => q, i2⟩
    · exact Bool.noConfusion h
theorem so_isi2 {a : Ex} {ts : List Ty} (ha : SoE T C k a) : SoE T C k (.isi2 a ts) := soE_plain (fun G X pe c h => by
  unfold chE at h
  split at h
  · rename_i x _ pa ptys _ _ _
    simp only [Bool.and_eq_true] at h
    obtain ⟨⟨⟨⟨⟨h1, h2⟩, h3⟩, h4⟩, h5⟩, h6⟩ := h
    have h4a := h4.1
    cases of_decide_eq_true h1
    obtain ⟨i1, i2⟩ := tys_pa c h3
    have hg : Gl X ("isinstance" : Str) := gl_of (by rw [c.sc]; exact h2)
    refine imE (pe_callB call_isiT hg (c.bt _ isi_in) (by decide +kernel) (pa_two (ha.val G X _ c h6) (pe_tup i1) h5 rfl) (by decide) (by decide) (star_cons h5) rfl) fun σ H Q q => ?_
    obtain ⟨ρ, env, hh, u, h', re, R, e, q⟩ := q
    unfold evE at e
    obtain ⟨w, h1, ea, e⟩ := bd_some e
    obtain ⟨r, er, e⟩ := ob_some e
    cases e
    cases ts with
    | nil => exact Bool.noConfusion h4a
    | cons t ts =>
    have hl : (t :: ts).length ≤ sizeLine := by
      have h7 := of_decide_eq_true h4.2
      exact Nat.le_of_lt (small1000 h7)
    refine ⟨ρ, env, hh, w, _, re, R, ea, fun ρ1 v1 H1 x1 R1 r1 => ⟨by rw [List.length_map]; exact hl, fun p hp => ?_⟩⟩
    have R2 := R1.junk hp (.tup ((t :: ts).map fun t => .ty (tyN t)))
    obtain ⟨tv, ht, kk⟩ := isTys_rel R2 r1 er
    exact ⟨v1, p, _, tv, _, r, rfl, upd_same, pd_mapL (F := ClsV) (f := fun t => V.ty (tyN t)) (g := fun t => Value.type (tyN t)) (fun _ => .ty _) (t :: ts), ht, kk, (q.mono (x1.trans (.junk hp _))).here R2 rfl⟩
  · exact Bool.noConfusion h) fun G pe h => by
  unfold chE at h
  split at h <;> first | rfl | exact Bool.noConfusion h
theorem rdL_isL {K : PySem.W.Frag} {ρ : List Addr} {h : Hm} {H : Hp} (R : Rel K ρ h H) {u : U} {v : V} (r : RU ρ u v) (e : (rdL h u).isSome = true) : tyV K "list" v H := by
  cases ex : rdL h u with
  | none => rw [ex] at e; exact Bool.noConfusion e
  | some xs =>
    obtain ⟨n, p, vs, _, rfl, _, rr, hs⟩ := rdL_rel R r ex
    exact .inl ⟨rfl, _, hs⟩
theorem kws_nil {cpos : Pos} {X : Cx} : (backToKw cpos (keywordEach [] X.env)).all (fun x => x.1.isSome) = true := rfl
theorem few_ok {X : Cx} {e : Expr} {es : List Expr} {cpos : Pos} (h : noStars (e :: es) = true) (h2 : decide ((e :: es).length < 30) = true) :
    ((backTo cpos (starEach (e :: es) X.env)).all (fun x => !x.1) && (backToKw cpos (keywordEach [] X.env)).all (fun x => x.1.isSome) && decide ((e :: es).length + ([] : List Keyword).length + (if ([] : List Keyword).isEmpty then 0 else 1) < 30)) = true := by
  rw [star_all h, kws_nil]
  exact h2
theorem so_meth {m : Me} {o : Ex} {es : Exs} (ho : SoE T C k o) (hs : SoEs T C k es) : SoE T C k (.meth m o es) := soE_plain (fun G X pe c h => by
  unfold chE at h
  split at h
  · rename_i po nm apos pes cpos
    simp only [Bool.and_eq_true] at h
    obtain ⟨⟨⟨⟨⟨⟨h1, h2⟩, h3⟩, h4⟩, h5⟩, h6⟩, h7⟩ := h
    cases of_decide_eq_true h1
    have pO := ho.val G X _ c h6
    have pA := hs G X _ c h7 h4
    have key : ∀ (hm : m ≠ .bitlen) (σ : L2.St) (H : Hp) (Q : VK), tE X.K C (.meth m o es) σ H Q → tBM X.K "list" (RM X.K fun h => meU h m) (tE X.K C o) (tEs X.K C es) σ H Q := by
      intro hm σ H Q q
      obtain ⟨ρ, env, hh, u, h', re, R, e, q⟩ := q
      unfold evE at e
      obtain ⟨x, h1, ea, e⟩ := bd_some e
      obtain ⟨d, ed, e⟩ := bf_some e
      cases d with
      | false => cases e
      | true =>
        rw [if_pos rfl] at e
        obtain ⟨us, h2, eb, e⟩ := bd_some e
        have ed : meTy h1 m x = true := U.bl.inj ed
        have el : (rdL h1 x).isSome = true := by
          cases m <;> first | exact ed | exact absurd rfl hm
        exact ⟨ρ, env, hh, x, h1, re, R, ea, fun ρ1 v1 H1 x1 R1 r1 => ⟨rdL_isL R1 r1 el, ρ1, env, h1, us, h2, re.mono x1.pre, R1, eb, fun ρ2 v2 H2 x2 R2 r2 => ⟨ρ2, h2, x, us, u, h', R2, r1.mono x2.pre, r2, e, q.mono (x1.trans x2)⟩⟩⟩
    have triv : ∀ (σ : L2.St) (H : Hp) (Q : VK), (m = .pop → ¬ es = .nil) → m = .pop → ¬ tE X.K C (.meth m o es) σ H Q := by
      intro σ H Q hn hm q
      subst hm
      obtain ⟨ρ, env, hh, u, h', re, R, e, q⟩ := q
      unfold evE at e
      obtain ⟨x, h1, ea, e⟩ := bd_some e
      obtain ⟨d, ed, e⟩ := bf_some e
      cases d with
      | false => cases e
      | true =>
        rw [if_pos rfl] at e
        obtain ⟨us, h2, eb, e⟩ := bd_some e
        replace e : mePop h2 x us = some (u, h') := e
        unfold mePop at e
        split at e
        · cases es with
          | nil => exact hn rfl rfl
          | cons e1 e2 =>
            unfold evEs at eb
            obtain ⟨_, _, _, eb⟩ := bd_some eb
            obtain ⟨_, _, _, eb⟩ := bd_some eb
            cases eb
        · cases e
    have pe_no : ∀ {pe : Expr} {t : TE}, (∀ σ H Q, ¬ t σ H Q) → PE X pe t := fun hn => ⟨fun _ _ _ _ _ _ q => absurd q (hn _ _ _)⟩
    cases pes with
    | nil =>
      cases es with
      | cons e1 e2 => unfold chEs at h7; exact Bool.noConfusion h7
      | nil =>
        have none_of : ∀ (σ : L2.St) (H : Hp) (Q : VK), (∀ hh x, meU hh m x [] = none) → ¬ tE X.K C (.meth m o .nil) σ H Q := by
          intro σ H Q hn q
          obtain ⟨ρ, env, hh, u, h', re, R, e, q⟩ := q
          unfold evE at e
          obtain ⟨x, h1, ea, e⟩ := bd_some e
          obtain ⟨d, ed, e⟩ := bf_some e
          cases d with
          | false => cases e
          | true =>
            rw [if_pos rfl] at e
            obtain ⟨us, h2, eb, e⟩ := bd_some e
            unfold evEs at eb
            cases eb
            rw [hn] at e
            cases e
        cases m with
        | pop =>
          refine imE (pe_bm0 PySem.F.plainAttrs_list PySem.F.slot_list_pop PySem.F.type_list_pop me_pop pO (base_plain h2) h3) fun σ H Q q => ?_
          obtain ⟨ρ, env, hh, x, h1, re, R, ea, z⟩ := key (fun z => nomatch z) σ H Q q
          refine ⟨ρ, env, hh, x, h1, re, R, ea, fun ρ1 v1 H1 x1 R1 r1 => ?_⟩
          obtain ⟨z1, ρ2, env2, h2, us, h3, re2, R2, eb, z2⟩ := z ρ1 v1 H1 x1 R1 r1
          unfold evEs at eb
          cases eb
          exact ⟨z1, z2 ρ2 [] H1 .refl R2 .nil⟩
        | bitlen =>
          refine imE (pe_bits pO (base_plain h2) h3) fun σ H Q q => ?_
          obtain ⟨ρ, env, hh, u, h', re, R, e, q⟩ := q
          unfold evE at e
          obtain ⟨x, h1, ea, e⟩ := bd_some e
          obtain ⟨d, ed, e⟩ := bf_some e
          cases d with
          | false => cases e
          | true =>
            rw [if_pos rfl] at e
            obtain ⟨us, h2, eb, e⟩ := bd_some e
            unfold evEs at eb
            cases eb
            replace e : meBits h1 x [] = some (u, h') := e
            unfold meBits at e
            split at e
            · cases e
              exact ⟨ρ, env, hh, _, _, re, R, ea, fun ρ1 v1 H1 x1 R1 r1 => ⟨_, r1, (q.mono x1).here R1 rfl⟩⟩
            · cases e
        | append => exact pe_no fun σ H Q => none_of σ H Q fun hh x => by show meAppend hh x [] = none; unfold meAppend; split <;> first | rfl | (rename_i z; cases z)
        | index => exact pe_no fun σ H Q => none_of σ H Q fun hh x => rfl
        | count => exact pe_no fun σ H Q => none_of σ H Q fun hh x => rfl
        | insert => exact pe_no fun σ H Q => none_of σ H Q fun hh x => by show meInsert hh x [] = none; unfold meInsert; split <;> first | rfl | (rename_i z; cases z)
        | extend => exact pe_no fun σ H Q => none_of σ H Q fun hh x => by show meExtend hh x [] = none; unfold meExtend; split <;> first | rfl | (rename_i z; cases z)
    | cons e1 e2 =>
      have h4' := h4
      unfold noStars at h4
      rw [Bool.and_eq_true] at h4
      have few := few_ok (X := X) (cpos := cpos) h4' h5
      cases m with
      | append => exact imE (pe_bm PySem.F.plainAttrs_list PySem.F.slot_list_append PySem.F.type_list_append me_append pO pA (base_plain h2) few h3 (star_cons h4.1) (star_any h4.2)) (key fun z => nomatch z)
      | index => exact imE (pe_bm PySem.F.plainAttrs_list PySem.F.slot_list_index PySem.F.type_list_index me_index pO pA (base_plain h2) few h3 (star_cons h4.1) (star_any h4.2)) (key fun z => nomatch z)
      | count => exact imE (pe_bm PySem.F.plainAttrs_list PySem.F.slot_list_count PySem.F.type_list_count me_count pO pA (base_plain h2) few h3 (star_cons h4.1) (star_any h4.2)) (key fun z => nomatch z)
      | insert => exact imE (pe_bm PySem.F.plainAttrs_list PySem.F.slot_list_insert PySem.F.type_list_insert me_insert pO pA (base_plain h2) few h3 (star_cons h4.1) (star_any h4.2)) (key fun z => nomatch z)
      | extend => exact imE (pe_bm PySem.F.plainAttrs_list PySem.F.slot_list_extend PySem.F.type_list_extend me_extend pO pA (base_plain h2) few h3 (star_cons h4.1) (star_any h4.2)) (key fun z => nomatch z)
      | pop =>
        refine pe_no fun σ H Q => triv σ H Q (fun _ z => ?_) rfl
        subst z
        unfold chEs at h7
        exact Bool.noConfusion h7
      | bitlen =>
        refine pe_no fun σ H Q q => ?_
        obtain ⟨ρ, env, hh, u, h', re, R, e, q⟩ := q
        unfold evE at e
        obtain ⟨x, h1, ea, e⟩ := bd_some e
        obtain ⟨d, ed, e⟩ := bf_some e
        cases d with
        | false => cases e
        | true =>
          rw [if_pos rfl] at e
          obtain ⟨us, h2, eb, e⟩ := bd_some e
          replace e : meBits h2 x us = some (u, h') := e
          unfold meBits at e
          split at e
          · cases es with
            | nil => unfold chEs at h7; exact Bool.noConfusion h7
            | cons a1 a2 =>
              unfold evEs at eb
              obtain ⟨_, _, _, eb⟩ := bd_some eb
              obtain ⟨_, _, _, eb⟩ := bd_some eb
              cases eb
          · cases e
  · exact Bool.noConfusion h) fun G pe h => by
  unfold chE at h
  split at h <;> first | rfl | exact Bool.noConfusion h
theorem so_lrng {a : Ex} (ha : SoE T C k a) : SoE T C k (.lrng a) := soE_plain (fun G X pe c h => by
  unfold chE at h
  split at h
  · rename_i x _ y _ pa _ _
    simp only [Bool.and_eq_true] at h
    obtain ⟨⟨⟨⟨⟨h1, h2⟩, h3⟩, h4⟩, h5⟩, h6⟩ := h
    cases of_decide_eq_true h1
    cases of_decide_eq_true h3
    have hg : Gl X ("list" : Str) := gl_of (by rw [c.sc]; exact h2)
    have hg' : Gl X ("range" : Str) := gl_of (by rw [c.sc]; exact h4)
    refine imE (pe_listRg c.calm hg (c.bt _ (by decide)) (prg_1 hg' (c.bt _ (by decide)) (ha.val G X _ c h6) (star_cons h5)) rfl) fun σ H Q q => ?_
    obtain ⟨ρ, env, hh, u, h', re, R, e, q⟩ := q
    unfold evE at e
    obtain ⟨w, h1, ea, e⟩ := bd_some e
    unfold lrU at e
    split at e
    · rename_i j
      split at e
      · rename_i hj
        refine ⟨ρ, env, hh, _, h1, re, R, ea, fun ρ1 v1 H1 x1 R1 r1 => ⟨j, r1, ⟨by decide, by decide, hj.1, by omega, by omega⟩, fun w hw => ?_⟩⟩
        have r : RUs ρ1 ((List.range j.toNat).map fun i : Nat => U.int (i : Int)) (rgV 0 j) := by
          unfold rgV
          rw [Int.sub_zero]
          refine pd_mapL (F := RU ρ1) (fun i => ?_) _
          show V.int _ = V.int _
          rw [Int.zero_add]
        exact (newL_post R1 r e (q.mono x1)).2 w hw
      · cases e
    · cases e
  · exact Bool.noConfusion h) fun G pe h => by
  unfold chE at h
  split at h <;> first | rfl | exact Bool.noConfusion h
end
end Mi

set_option maxRecDepth 100000
/-! Mi, part B9: comprehensions; every term. -/
namespace Mi
open PySem PySem.Spec PyProof.Rows L2
/-- as Ext, but the object at D may change -/
structure ExtD (D : Addr) (ρ : List Addr) (H : Hp) (ρ' : List Addr) (H' : Hp) : Prop where
  pre : ρ <+: ρ'
  new : ∀ p ∈ ρ'.tail, p ∉ ρ.tail → H p = none
  old : ∀ p, p ∉ ρ.tail → p ≠ D → H p ≠ none → H' p = H p
section
variable {D : Addr} {ρ ρ1 ρ2 : List Addr} {H H1 H2 : Hp}
theorem Ext.toD (x : Ext ρ H ρ1 H1) : ExtD D ρ H ρ1 H1 := ⟨x.pre, x.new, fun p h _ z => x.old p h z⟩
theorem Ext.notin (x : Ext ρ H ρ1 H1) {p : Addr} (n : p ∉ ρ.tail) (h : H p ≠ none) : p ∉ ρ1.tail := fun m => h (x.new p m n)
theorem ExtD.trans (a : ExtD D ρ H ρ1 H1) (b : ExtD D ρ1 H1 ρ2 H2) (hD : D ∉ ρ.tail → H D ≠ none → D ∉ ρ1.tail → H1 D ≠ none) : ExtD D ρ H ρ2 H2 := by
  have key : ∀ p, p ∉ ρ.tail → H p ≠ none → p ∉ ρ1.tail := fun p n h m => h (a.new p m n)
  refine ⟨a.pre.trans b.pre, fun p m n => ?_, fun p n e h => ?_⟩
  · by_cases z : H p = none
    · exact z
    · have h1 := key p n z
      by_cases e : p = D
      · subst e
        exact absurd (b.new p m h1) (hD n z h1)
      · have := b.new p m h1
        rw [a.old p n e z] at this
        exact absurd this z
  · have e1 := a.old p n e h
    rw [b.old p (key p n h) e (by rw [e1]; exact h), e1]
theorem ExtD.upd (a : ExtD D ρ H ρ1 H1) (o : HO) : ExtD D ρ H ρ1 (upd H1 D o) := ⟨a.pre, a.new, fun p n e h => by rw [upd_ne e]; exact a.old p n e h⟩
theorem Ext.withD (x : Ext ρ H ρ1 H1) (hD : H D = none) (y : ExtD D ρ1 H1 ρ2 H2) : Ext ρ H ρ2 H2 := by
  have key : ∀ p, p ∉ ρ.tail → H p ≠ none → p ∉ ρ1.tail := fun p n h m => h (x.new p m n)
  refine ⟨x.pre.trans y.pre, fun p m n => ?_, fun p n h => ?_⟩
  · by_cases z : H p = none
    · exact z
    · have := y.new p m (key p n z)
      rw [x.old p n z] at this
      exact absurd this z
  · have e := x.old p n h
    have ne : p ≠ D := fun z => h (by rw [z]; exact hD)
    rw [y.old p (key p n h) ne (by rw [e]; exact h), e]
theorem Ext.adopt (x : Ext ρ H ρ1 H1) (hD : H D = none) : Ext ρ H (ρ1 ++ [D]) H1 :=
  ⟨x.pre.trans (List.prefix_append ρ1 [D]), fun p m n => by
    rcases tail_app m with m | m
    · exact x.new p m n
    · rw [m]; exact hD, x.old⟩
theorem Rel.adopt {K : PySem.W.Frag} {h : Hm} (R : Rel K ρ h H) {p : Addr} (hp : p ∉ ρ.tail) {o : Ob} (r : RO K (ρ ++ [p]) H p o) (ht : H p ≠ none) : Rel K (ρ ++ [p]) (h.push o) H := by
  refine ⟨by rw [List.length_append, R.len]; rfl, ?_, fun q hq => ?_, ?_, fun i o' q e1 e2 => ?_⟩
  · rw [R.tapp, List.nodup_append]
    refine ⟨R.nd, by simp, fun a ha b hb => ?_⟩
    have : b = p := by simpa using hb
    subst this
    exact ne_in ha hp
  · rcases tail_app hq with m | m
    · exact R.tr q m
    · subst m; exact ht
  · obtain ⟨xs, e⟩ := R.s0
    exact ⟨xs, by rw [Hm.get_push_lt (Hm.get_lt e)]; exact e⟩
  · rw [Hm.get_push] at e1
    by_cases hi : i = h.n
    · rw [if_pos hi] at e1
      cases e1
      rw [hi, ← R.len] at e2
      have : q = p := by simpa using e2.symm
      subst this
      exact r
    · rw [if_neg hi] at e1
      obtain ⟨q', e3, r'⟩ := R.at e1
      rw [pre_get (List.prefix_append ρ [p]) e3] at e2
      cases e2
      exact r'.stay (List.prefix_append ρ [p]) (fun _ => rfl)
theorem wipe_rel {ρ : List Addr} {env : Env} {σ : L2.St} (r : REnv ρ env σ) : ∀ own : List Nat, REnv ρ (wipeE env own) (wipe σ own)
  | [] => r
  | i :: own => pd_set (F := RUo ρ) (x := none) (y := none) trivial i (wipe_rel r own)
end
section
variable {T : Tab} {C : Calls} {k : Nat} {K : PySem.W.Frag}
/-- the end of a turn: a test, the element, its append -/
theorem turn_one {cond elt : Ex} {ρ : List Addr} {h h4 : Hm} {H : Hp} {env : Env} {σ : L2.St} {D : Addr} {av : List V} {ys : List U} {N : Hp → Prop} (re : REnv ρ env σ) (R : Rel K ρ h H) (nD : D ∉ ρ.tail) (eD : H D = some (.lst av)) (hz : av.length + ys.length ≤ sizeLine)
    (e : bd (evE C cond env h) (fun c h3 => bf c (bd (evE C elt env h3) fun z h4 => some ([z], h4)) (some ([], h3))) = some (ys, h4))
    (hN : ∀ ρ3 H3 ws, ExtD D ρ H ρ3 H3 → Rel K ρ3 h4 H3 → D ∉ ρ3.tail → H3 D = some (.lst (av ++ ws)) → RUs ρ3 ys ws → N H3) :
    tB' K C cond σ H fun b H3 => if b = true then tE K C elt σ H3 fun y H4 => ∃ acc, H4 D = some (.lst acc) ∧ acc.length < sizeLine ∧ N (upd H4 D (.lst (acc ++ [y]))) else N H3 := by
  obtain ⟨c, h3, ec, e2⟩ := bd_some e
  clear e
  obtain ⟨d, ed, e⟩ := bf_some e2
  clear e2
  subst ed
  refine ⟨ρ, env, h, d, h3, re, R, ec, fun ρ1 H1 x1 R1 => ?_⟩
  have hD : H D ≠ none := by rw [eD]; exact fun z => nomatch z
  have nD1 := x1.notin nD hD
  have eD1 : H1 D = some (.lst av) := (x1.old D nD hD).trans eD
  cases d with
  | false =>
    cases e
    exact hN ρ1 H1 [] x1.toD R1 nD1 (by rw [List.append_nil]; exact eD1) .nil
  | true =>
    rw [if_pos rfl] at e
    obtain ⟨z, h5, ez, e⟩ := bd_some e
    cases e
    refine ⟨ρ1, env, h3, z, _, re.mono x1.pre, R1, ez, fun ρ2 v2 H2 x2 R2 r2 => ?_⟩
    have hD1 : H1 D ≠ none := by rw [eD1]; exact fun z => nomatch z
    have nD2 := x2.notin nD1 hD1
    have eD2 : H2 D = some (.lst av) := (x2.old D nD1 hD1).trans eD1
    refine ⟨av, eD2, Nat.lt_of_lt_of_le (Nat.lt_succ_self _) hz, ?_⟩
    exact hN ρ2 _ [v2] ((x1.trans x2).toD.upd _) (R2.out nD2 eD2 _) nD2 upd_same (.cons r2 .nil)
theorem lcLoop_stop {f : Iv → Hm → Option (List U × Hm)} {it : It} {m i : Nat} {h h3 : Hm} {rest : List U} (e : lcLoop f it m i h = some (rest, h3)) :
    (it.at h i = some none ∧ rest = [] ∧ h = h3) ∨ ∃ m' v ys h4 r, m = m' + 1 ∧ it.at h i = some (some v) ∧ f v h = some (ys, h4) ∧ lcLoop f it m' (i + 1) h4 = some (r, h3) ∧ rest = ys ++ r := by
  cases m with
  | zero =>
    unfold lcLoop at e
    obtain ⟨o, eo, e⟩ := ob_some e
    cases o with
    | none => cases e; exact .inl ⟨eo, rfl, rfl⟩
    | some v => cases e
  | succ m =>
    unfold lcLoop at e
    obtain ⟨o, eo, e⟩ := ob_some e
    cases o with
    | none => cases e; exact .inl ⟨eo, rfl, rfl⟩
    | some v =>
      obtain ⟨ys, h4, e1, e⟩ := bd_some e
      obtain ⟨r, h5, e2, e⟩ := bd_some e
      cases e
      exact .inr ⟨m, v, ys, h4, r, rfl, eo, e1, e2, rfl⟩
theorem iv_step {ρ : List Addr} {h : Hm} {H H' : Hp} {v : Iv} {x : V} (R : Rel K ρ h H) (iv : IvR ρ v x H H') {D : Addr} {av : List V} (eD : H D = some (.lst av)) : Rel K ρ h H' ∧ Ext ρ H ρ H' ∧ H' D = some (.lst av) := by
  cases v with
  | one u =>
    obtain ⟨rfl, _⟩ := iv
    exact ⟨R, .refl, eD⟩
  | two u w =>
    obtain ⟨a, x1, x2, _, hn, rfl, _⟩ := iv
    exact ⟨R.junk hn _, .junk hn _, by rw [upd_ne (ne_of_none eD hn)]; exact eD⟩
theorem tgIn_mem {own : List Nat} {t : Tn} (h : tgIn own t = true) : ∀ i ∈ slots t, i ∈ own := fun i hi => of_decide_eq_true (List.all_eq_true.mp h i hi)
theorem wipe_none {j : Nat} : ∀ (vs : List Nat) (τ : L2.St), j ∉ vs → wipe (τ.set j none) vs = (wipe τ vs).set j none
  | [], τ, _ => rfl
  | a :: q, τ, hn => by
    have h1 : j ≠ a := fun z => hn (by rw [z]; exact List.mem_cons_self)
    show (wipe (τ.set j none) q).set a none = ((wipe τ q).set a none).set j none
    rw [wipe_none q τ fun m => hn (List.mem_cons_of_mem _ m), List.set_comm _ _ h1]
theorem wipe_wipe : ∀ (vs : List Nat) (τ : L2.St), wipe (wipe τ vs) vs = wipe τ vs
  | [], τ => rfl
  | j :: r, τ => by
    show (wipe ((wipe τ r).set j none) r).set j none = (wipe τ r).set j none
    by_cases hj : j ∈ r
    · rw [wipe_set hj, wipe_wipe r]
    · rw [wipe_none r _ hj, wipe_wipe r, List.set_set]
theorem lc_read {own : List Nat} {tg : Tn} {sk : Sk} {a b cond elt : Ex} (ht : tgIn own tg = true) (σ : L2.St) (H : Hp) (Q : VK) (q : tE K C (.lc own tg sk a b cond elt) σ H Q) :
    tLc (tI K C sk a b) (gC K tg) (tB' K C cond) (tE K C elt) own σ H Q := by
  obtain ⟨ρ, env, hh, u, h', re, R, e, q⟩ := q
  unfold evE at e
  obtain ⟨x, h1, ea, e⟩ := bd_some e
  obtain ⟨y, h2, eb, e⟩ := bd_some e
  obtain ⟨it, em, e⟩ := ob_some e
  obtain ⟨zs, h3, el, e⟩ := bd_some e
  refine ⟨ρ, env, hh, x, h1, y, h2, it, re, R, ea, eb, em, fun ρ1 J H1 x1 R1 ri D hD => ?_⟩
  have hz : zs.length ≤ sizeLine := by
    unfold newL at e
    split at e
    · assumption
    · cases e
  have hD0 : H D = none := by
    by_cases z : H D = none
    · exact z
    · have nD : D ∉ ρ.tail := fun m => (R1.new hD) (tail_pre x1.pre m)
      rw [x1.old D nD z] at hD
      exact absurd hD z
  refine ⟨fun i m Hc => ∃ ρ' h rest acc av, Ext ρ1 H1 ρ' Hc ∧ Rel K ρ' h Hc ∧ D ∉ ρ'.tail ∧ Hc D = some (.lst av) ∧ RUs ρ' acc av ∧ lcLoop _ it m i h = some (rest, h3) ∧ acc ++ rest = zs,
    ⟨it.cnt h2, ρ1, h2, zs, [], [], .junk hD _, R1.junk hD _, R1.new hD, upd_same, .nil, el, rfl⟩, ?_⟩
  rintro i m Hc ⟨ρ', h, rest, acc, av, x', R', nD, eD, ra, el', ez⟩
  rcases lcLoop_stop el' with ⟨eo, rfl, rfl⟩ | ⟨m', v, ys, h4, r, rfl, eo, ef, er, rfl⟩
  · refine .inl ⟨it_stop R' (ri.mono x'.pre) eo, ?_⟩
    rw [List.append_nil] at ez
    subst ez
    unfold newL at e
    rw [if_pos hz] at e
    cases e
    refine q (ρ' ++ [D]) (.ref D) Hc ((x1.trans x').adopt hD0) (R'.adopt nD ⟨av, ra.mono (List.prefix_append ρ' [D]), eD⟩ (by rw [eD]; exact fun z => nomatch z)) (ref_last R'.len)
  · obtain ⟨g1, g2⟩ := it_go R' (ri.mono x'.pre) eo
    refine .inr ⟨g1, _, fun H' w => ⟨m', Nat.lt_succ_self m', w⟩, fun xx H' hy => ?_⟩
    have iv := g2 xx H' hy
    obtain ⟨RH, xH, eH⟩ := iv_step R' iv eD
    obtain ⟨σ1, eb', ef⟩ := ob_some ef
    have re' : REnv ρ' (wipeE env own) (wipe σ own) := wipe_rel (re.mono (x1.trans x').pre) own
    refine ⟨ρ', h, v, wipeE env own, σ1, Hc, R', iv, re', eb', fun σ2 re2 wp => ⟨?_, ?_⟩⟩
    · rw [wp own (tgIn_mem ht), wipe_wipe]
    · have hz2 : av.length + ys.length ≤ sizeLine := by
        have := congrArg List.length ez
        rw [List.length_append, List.length_append] at this
        have := pd_len ra
        omega
      refine turn_one re2 RH nD eH hz2 ef fun ρ3 H3 ws x3 R3 nD3 eD3 r3 => ?_
      refine ⟨ρ3, h4, r, acc ++ ys, av ++ ws, (x'.trans xH).withD hD x3, R3, nD3, eD3, pd_append (ra.mono x3.pre) r3, er, ?_⟩
      rw [List.append_assoc]; exact ez
theorem lc2_read {own vs : List Nat} {tg tg1 : Tn} {sk sk1 : Sk} {a b cond a1 b1 cond1 elt : Ex} (ht : tgIn own tg = true) (ht1 : tgIn vs tg1 = true) (σ : L2.St) (H : Hp) (Q : VK) (q : tE K C (.lc2 own vs tg sk a b cond tg1 sk1 a1 b1 cond1 elt) σ H Q) :
    tLc2 (tI K C sk a b) (gC K tg) (tB' K C cond) (tI K C sk1 a1 b1) (gC K tg1) (tB' K C cond1) (tE K C elt) own vs σ H Q := by
  obtain ⟨ρ, env, hh, u, h', re, R, e, q⟩ := q
  unfold evE at e
  obtain ⟨x, h1, ea, e⟩ := bd_some e
  obtain ⟨y, h2, eb, e⟩ := bd_some e
  obtain ⟨it, em, e⟩ := ob_some e
  obtain ⟨zs, h3, el, e⟩ := bd_some e
  refine ⟨ρ, env, hh, x, h1, y, h2, it, re, R, ea, eb, em, fun ρ1 J H1 x1 R1 ri D hD => ?_⟩
  have hz : zs.length ≤ sizeLine := by
    unfold newL at e
    split at e
    · assumption
    · cases e
  have hD0 : H D = none := by
    by_cases z : H D = none
    · exact z
    · have nD : D ∉ ρ.tail := fun m => (R1.new hD) (tail_pre x1.pre m)
      rw [x1.old D nD z] at hD
      exact absurd hD z
  refine ⟨fun i m Hc => ∃ ρ' h rest acc av, Ext ρ1 H1 ρ' Hc ∧ Rel K ρ' h Hc ∧ D ∉ ρ'.tail ∧ Hc D = some (.lst av) ∧ RUs ρ' acc av ∧ lcLoop _ it m i h = some (rest, h3) ∧ acc ++ rest = zs,
    ⟨it.cnt h2, ρ1, h2, zs, [], [], .junk hD _, R1.junk hD _, R1.new hD, upd_same, .nil, el, rfl⟩, ?_⟩
  rintro i m Hc ⟨ρ', h, rest, acc, av, x', R', nD, eD, ra, el', ez⟩
  rcases lcLoop_stop el' with ⟨eo, rfl, rfl⟩ | ⟨m', v, ys, h4, r, rfl, eo, ef, er, rfl⟩
  · refine .inl ⟨it_stop R' (ri.mono x'.pre) eo, ?_⟩
    rw [List.append_nil] at ez
    subst ez
    unfold newL at e
    rw [if_pos hz] at e
    cases e
    refine q (ρ' ++ [D]) (.ref D) Hc ((x1.trans x').adopt hD0) (R'.adopt nD ⟨av, ra.mono (List.prefix_append ρ' [D]), eD⟩ (by rw [eD]; exact fun z => nomatch z)) (ref_last R'.len)
  · obtain ⟨g1, g2⟩ := it_go R' (ri.mono x'.pre) eo
    refine .inr ⟨g1, _, fun H' w => ⟨m', Nat.lt_succ_self m', w⟩, fun xx H' hy => ?_⟩
    have iv := g2 xx H' hy
    obtain ⟨RH, xH, eH⟩ := iv_step R' iv eD
    obtain ⟨σ1, eb', ef⟩ := ob_some ef
    have re' : REnv ρ' (wipeE env own) (wipe σ own) := wipe_rel (re.mono (x1.trans x').pre) own
    refine ⟨ρ', h, v, wipeE env own, σ1, Hc, R', iv, re', eb', fun σ2 re2 wp => ⟨?_, ?_⟩⟩
    · rw [wp own (tgIn_mem ht), wipe_wipe]
    · have hl := congrArg List.length ez
      rw [List.length_append, List.length_append] at hl
      have hla := pd_len ra
      obtain ⟨c, hc, ec, ef2⟩ := bd_some ef
      clear ef
      obtain ⟨d, ed, ef⟩ := bf_some ef2
      clear ef2
      subst ed
      have hDH : H' D ≠ none := by rw [eH]; exact fun z => nomatch z
      refine ⟨ρ', σ1, h, d, hc, re2, RH, ec, fun ρ2 H2 x2 R2 => ?_⟩
      have nD2 := x2.notin nD hDH
      have eD2 : H2 D = some (.lst av) := (x2.old D nD hDH).trans eH
      cases d with
      | false =>
        cases ef
        exact ⟨ρ2, _, r, acc, av, (x'.trans xH).trans x2, R2, nD2, eD2, ra.mono x2.pre, er, ez⟩
      | true =>
        rw [if_pos rfl] at ef
        obtain ⟨p1, hp1, ep1, ef⟩ := bd_some ef
        obtain ⟨p2, hp2, ep2, ef⟩ := bd_some ef
        obtain ⟨it1, em1, ef⟩ := ob_some ef
        have hD2 : H2 D ≠ none := by rw [eD2]; exact fun z => nomatch z
        refine ⟨ρ2, σ1, hc, p1, hp1, p2, hp2, it1, re2.mono x2.pre, R2, ep1, ep2, em1, fun ρ3 J1 H3 x3 R3 ri1 => ?_⟩
        have nD3 := x3.notin nD2 hD2
        have eD3 : H3 D = some (.lst av) := (x3.old D nD2 hD2).trans eD2
        have X3 : Ext ρ1 H1 ρ3 H3 := ((x'.trans xH).trans x2).trans x3
        refine ⟨fun j k Hd => ∃ ρ'' h'' rest1 acc1 av1, Ext ρ1 H1 ρ'' Hd ∧ ρ3 <+: ρ'' ∧ Rel K ρ'' h'' Hd ∧ D ∉ ρ''.tail ∧ Hd D = some (.lst av1) ∧ RUs ρ'' (acc ++ acc1) av1 ∧ lcLoop _ it1 k j h'' = some (rest1, h4) ∧ acc1 ++ rest1 = ys,
          ⟨it1.cnt hp2, ρ3, hp2, ys, [], av, X3, List.prefix_refl _, R3, nD3, eD3, by rw [List.append_nil]; exact ra.mono (x2.trans x3).pre, ef, rfl⟩, ?_⟩
        rintro j k' Hd ⟨ρ'', h'', rest1, acc1, av1, X'', pp, R'', nD'', eD'', ra1, el1, ez1⟩
        rcases lcLoop_stop el1 with ⟨eo1, rfl, rfl⟩ | ⟨k'', v1, ys1, h5, r1, rfl, eo1, ef1, er1, rfl⟩
        · refine .inl ⟨it_stop R'' (ri1.mono pp) eo1, ?_⟩
          rw [List.append_nil] at ez1
          subst ez1
          exact ⟨ρ'', _, r, acc ++ acc1, av1, X'', R'', nD'', eD'', ra1, er, by rw [List.append_assoc]; exact ez⟩
        · obtain ⟨g3, g4⟩ := it_go R'' (ri1.mono pp) eo1
          refine .inr ⟨g3, _, fun H' w => ⟨k'', Nat.lt_succ_self k'', w⟩, fun xx H4 hy => ?_⟩
          have iv1 := g4 xx H4 hy
          obtain ⟨RH1, xH1, eH1⟩ := iv_step R'' iv1 eD''
          obtain ⟨τ1, eb1, ef1⟩ := ob_some ef1
          have re3 : REnv ρ'' (wipeE σ1 vs) (wipe σ2 vs) := wipe_rel (re2.mono ((x2.trans x3).pre.trans pp)) vs
          refine ⟨ρ'', h'', v1, wipeE σ1 vs, τ1, Hd, R'', iv1, re3, eb1, fun σ3 re4 wp1 => ⟨?_, ?_⟩⟩
          · rw [wp1 vs (tgIn_mem ht1), wipe_wipe]
          · have hl1 := congrArg List.length ez1
            rw [List.length_append, List.length_append] at hl1
            have hla1 := pd_len ra1
            rw [List.length_append] at hla1
            have hz2 : av1.length + ys1.length ≤ sizeLine := by omega
            refine turn_one re4 RH1 nD'' eH1 hz2 ef1 fun ρ4 H5 ws x4 R4 nD4 eD4 r4 => ?_
            refine ⟨ρ4, h5, r1, acc1 ++ ys1, av1 ++ ws, (X''.trans xH1).withD hD x4, pp.trans x4.pre, R4, nD4, eD4, ?_, er1, ?_⟩
            · rw [← List.append_assoc]; exact pd_append (ra1.mono x4.pre) r4
            · rw [List.append_assoc]; exact ez1
theorem pts_any {G : Ga} {X : Cx} (c : CtxOk T C k G X) {cond : Ex} (hc : SoE T C k cond) {ifs : List Expr} (h : (match ifs with | [] => isTt cond | [pc] => chE T G cond pc | _ => false) = true) : PTs X ifs (tB' X.K C cond) := by
  match ifs, h with
  | [], h =>
    cases isTt_eq h
    refine ⟨fun pins s σ H Q I q => pts_nil.run pins s σ H Q I ?_⟩
    obtain ⟨ρ, env, hh, b, h', re, R, e, q⟩ := q
    unfold evE at e
    cases e
    exact q ρ H .refl R
  | [pc], h => exact pts_one (hc.tst G X _ c h)
  | _ :: _ :: _, h => exact Bool.noConfusion h
theorem ownP_snd (N : List Str) (own : List Nat) : (ownP N own).map (·.2) = own := by
  unfold ownP
  rw [List.map_map]
  show own.map (fun i => i) = own
  exact List.map_id' own
theorem chI_set {sc : Scope} {f g : Expr → Bool} {nb : Bool} {sk : Sk} {tg it : Expr} (h : chI sc f g nb sk tg it = true) : notSet it = true := by
  unfold chI at h
  rw [Bool.and_eq_true] at h
  exact h.1
theorem lc_pe {G : Ga} {X : Cx} (c : CtxOk T C k G X) {own : List Nat} {tg : Tn} {sk : Sk} {a b cond elt : Ex} (ha : SoE T C k a) (hb : SoE T C k b) (hc : SoE T C k cond) (he : SoE T C k elt) {pelt ptg pit : Expr} {ifs : List Expr} {scope : Scope} {pos : Pos}
    (h1 : blkC G.N G.sc scope (ownP G.N own) = true) (h2 : chI G.sc (fun e => chE T G a e) (fun e => chE T G b e) (isNon b) sk ptg pit = true) (h3 : chT G.N scope tg ptg = true)
    (h5 : (match ifs with | [] => isTt cond | [pc] => chE T ⟨G.N, relS scope G.sc, scope⟩ cond pc | _ => false) = true) (h6 : chE T ⟨G.N, relS scope G.sc, scope⟩ elt pelt = true) :
    PE X (.ListComp pelt [⟨ptg, pit, ifs, 0⟩] scope pos) (tLc (tI X.K C sk a b) (gC X.K tg) (tB' X.K C cond) (tE X.K C elt) own) := by
  have := pe_lc (elt := pelt) (te := tE X.K C elt) (tt := tB' X.K C cond) (g := gC X.K tg) (own := ownP G.N own) (pos := pos) c.calm c.nd (pi_any c (fun pe z => ha.val G X pe c z) (fun pe z => hb.val G X pe c z) isNon_eq h2) (by rw [c.N, c.sc]; exact blkOk_by h1)
    (fun s H A cl fp => pg_C (c.blk s H scope cl A fp) tg ptg h3) (fun s H A cl fp => pts_any (c.blk s H scope cl A fp) hc h5) (fun s H A cl fp => he.val _ _ _ (c.blk s H scope cl A fp) h6) (set_folded (chI_set h2))
  rw [ownP_snd] at this
  exact this
theorem so_lc {own : List Nat} {tg : Tn} {sk : Sk} {a b cond elt : Ex} (ha : SoE T C k a) (hb : SoE T C k b) (hc : SoE T C k cond) (he : SoE T C k elt) : SoE T C k (.lc own tg sk a b cond elt) := soE_plain (fun G X pe c h => by
  unfold chE at h
  split at h
  · simp only [Bool.and_eq_true] at h
    obtain ⟨⟨⟨⟨⟨h1, h2⟩, h3⟩, h4⟩, h5⟩, h6⟩ := h
    exact imE (lc_pe c ha hb hc he h1 h2 h3 h5 h6) (lc_read h4)
  · exact Bool.noConfusion h) fun G pe h => by
  unfold chE at h
  split at h <;> first | rfl | exact Bool.noConfusion h
theorem lc2_pe {G : Ga} {X : Cx} (c : CtxOk T C k G X) {own vs : List Nat} {tg tg1 : Tn} {sk sk1 : Sk} {a b cond a1 b1 cond1 elt : Ex} (ha : SoE T C k a) (hb : SoE T C k b) (hc : SoE T C k cond) (ha1 : SoE T C k a1) (hb1 : SoE T C k b1) (hc1 : SoE T C k cond1) (he : SoE T C k elt)
    {pelt ptg pit ptg1 pit1 : Expr} {ifs ifs1 : List Expr} {scope : Scope} {pos : Pos}
    (h1 : blkC G.N G.sc scope (ownP G.N own) = true) (h2 : chI G.sc (fun e => chE T G a e) (fun e => chE T G b e) (isNon b) sk ptg pit = true) (h3 : chT G.N scope tg ptg = true)
    (h5 : (match ifs with | [] => isTt cond | [pc] => chE T ⟨G.N, relS scope G.sc, scope⟩ cond pc | _ => false) = true)
    (h2' : chI (relS scope G.sc) (fun e => chE T ⟨G.N, relS scope G.sc, scope⟩ a1 e) (fun e => chE T ⟨G.N, relS scope G.sc, scope⟩ b1 e) (isNon b1) sk1 ptg1 pit1 = true) (h3' : chT G.N scope tg1 ptg1 = true)
    (h5' : (match ifs1 with | [] => isTt cond1 | [pc] => chE T ⟨G.N, relS scope G.sc, scope⟩ cond1 pc | _ => false) = true)
    (h6 : chE T ⟨G.N, relS scope G.sc, scope⟩ elt pelt = true) (hv : (vs.all fun i => decide (i ∈ own)) = true) :
    PE X (.ListComp pelt [⟨ptg, pit, ifs, 0⟩, ⟨ptg1, pit1, ifs1, 0⟩] scope pos) (tLc2 (tI X.K C sk a b) (gC X.K tg) (tB' X.K C cond) (tI X.K C sk1 a1 b1) (gC X.K tg1) (tB' X.K C cond1) (tE X.K C elt) own vs) := by
  have := pe_lc2 (elt := pelt) (te := tE X.K C elt) (tt := tB' X.K C cond) (g := gC X.K tg) (tt1 := tB' X.K C cond1) (g1 := gC X.K tg1) (wi1 := tI X.K C sk1 a1 b1) (own := ownP G.N own) (vs1 := vs) (pos := pos) c.calm c.nd (pi_any c (fun pe z => ha.val G X pe c z) (fun pe z => hb.val G X pe c z) isNon_eq h2) (by rw [c.N, c.sc]; exact blkOk_by h1)
    (fun i hi => by rw [ownP_snd]; exact of_decide_eq_true (List.all_eq_true.mp hv i hi))
    (fun s H A cl fp => pg_C (c.blk s H scope cl A fp) tg ptg h3) (fun s H A cl fp => pts_any (c.blk s H scope cl A fp) hc h5)
    (fun s H A cl fp => pi_any (c.blk s H scope cl A fp) (fun pe z => ha1.val _ _ pe (c.blk s H scope cl A fp) z) (fun pe z => hb1.val _ _ pe (c.blk s H scope cl A fp) z) isNon_eq h2')
    (fun s H A cl fp => pg_C (c.blk s H scope cl A fp) tg1 ptg1 h3') (fun s H A cl fp => pts_any (c.blk s H scope cl A fp) hc1 h5')
    (fun s H A cl fp => he.val _ _ _ (c.blk s H scope cl A fp) h6) (set_folded (chI_set h2)) (fun env x => set_folded (chI_set h2') x)
  rw [ownP_snd] at this
  exact this
theorem so_lc2 {own vs : List Nat} {tg tg1 : Tn} {sk sk1 : Sk} {a b cond a1 b1 cond1 elt : Ex} (ha : SoE T C k a) (hb : SoE T C k b) (hc : SoE T C k cond) (ha1 : SoE T C k a1) (hb1 : SoE T C k b1) (hc1 : SoE T C k cond1) (he : SoE T C k elt) :
    SoE T C k (.lc2 own vs tg sk a b cond tg1 sk1 a1 b1 cond1 elt) := soE_plain (fun G X pe c h => by
  unfold chE at h
  split at h
  · simp only [Bool.and_eq_true] at h
    obtain ⟨⟨⟨⟨⟨⟨⟨⟨⟨⟨h1, h2⟩, h3⟩, h4⟩, h5⟩, h2'⟩, h3'⟩, h4'⟩, h5'⟩, h6⟩, hv⟩ := h
    exact imE (lc2_pe c ha hb hc ha1 hb1 hc1 he h1 h2 h3 h5 h2' h3' h5' h6 hv) (lc2_read h4 h4')
  · exact Bool.noConfusion h) fun G pe h => by
  unfold chE at h
  split at h <;> first | rfl | exact Bool.noConfusion h
mutual
theorem so_all (T : Tab) (C : Calls) (k : Nat) : ∀ e : Ex, SoE T C k e
  | .var i => so_var i
  | .int i => so_int i
  | .bl b => so_bl b
  | .non => so_non
  | .str s => so_str s
  | .bin _ a b => so_bin (so_all T C k a) (so_all T C k b)
  | .neg a => so_neg (so_all T C k a)
  | .not a => so_not (so_all T C k a)
  | .and a b => so_and (so_all T C k a) (so_all T C k b)
  | .or a b => so_or (so_all T C k a) (so_all T C k b)
  | .ite c a b => so_ite (so_all T C k c) (so_all T C k a) (so_all T C k b)
  | .cmp _ a b => so_cmp (so_all T C k a) (so_all T C k b)
  | .chain _ _ a b c => so_chain (so_all T C k a) (so_all T C k b) (so_all T C k c)
  | .list es => so_list (sos_all T C k es)
  | .tup es => so_tup (sos_all T C k es)
  | .sub a i => so_sub (so_all T C k a) (so_all T C k i)
  | .slice a _ _ lo hi => so_slice (so_all T C k a) (so_all T C k lo) (so_all T C k hi)
  | .rev a => so_rev (so_all T C k a)
  | .call _ es _ => so_call (sos_all T C k es)
  | .callk _ es ks _ _ => so_callk (sos_all T C k es) (sks_all T C k ks)
  | .bi _ es => so_bi (sos_all T C k es)
  | .isi a _ => so_isi (so_all T C k a)
  | .isi2 a _ => so_isi2 (so_all T C k a)
  | .meth _ o es => so_meth (so_all T C k o) (sos_all T C k es)
  | .lrng a => so_lrng (so_all T C k a)
  | .lc _ _ _ a b c e => so_lc (so_all T C k a) (so_all T C k b) (so_all T C k c) (so_all T C k e)
  | .lc2 _ _ _ _ a b c _ _ a1 b1 c1 e => so_lc2 (so_all T C k a) (so_all T C k b) (so_all T C k c) (so_all T C k a1) (so_all T C k b1) (so_all T C k c1) (so_all T C k e)
theorem sos_all (T : Tab) (C : Calls) (k : Nat) : ∀ es : Exs, SoEs T C k es
  | .nil => so_nil
  | .cons e es => so_cons (so_all T C k e) (sos_all T C k es)
theorem sks_all (T : Tab) (C : Calls) (k : Nat) : ∀ es : Exs, SoKs T C k es
  | .nil => sk_nil
  | .cons e es => sk_cons (so_all T C k e) (sks_all T C k es)
end
end
end Mi

set_option maxRecDepth 100000
/-! Mi, part B10: statements. -/
namespace Mi
open PySem PySem.Spec PyProof.Rows L2

def notComp : Expr → Bool
  | .ListComp _ _ _ _ => false
  | .SetComp _ _ _ _ => false
  | .DictComp _ _ _ _ _ => false
  | _ => true
def notTup : Expr → Bool
  | .Tuple _ _ _ => false
  | _ => true
def isStar : Expr → Bool
  | .Starred .. => true
  | _ => false
def swN (sc : Scope) (ts vs : List Expr) : Option (Option (List Str)) :=
  if (!(ts.length == 2 || ts.length == 3) || vs.length != ts.length) = true then some none
  else if (vs.any fun | .Starred .. => true | _ => false) = true then some none
  else
    let line := (ts.head?.map (·.pos.line)).getD 0
    let names := ts.filterMap fun
      | .Name id pos => if sc.names.lookup id == some .local && pos.line == line then some id else none
      | _ => none
    if (names.length != ts.length || names.eraseDups.length != names.length) = true then some none
    else if vs.all (foldedForSure 8) = true then some none
    else if vs.all (constantsAlone 8) = true then none else some (some names)
theorem swN_ok {sc : Scope} {env : PySem.Env} {ts vs : List Expr} {r : Option (List Str)} {k k2 : Nat} {p p2 : Pos} (hs : env.scope = sc) (hk : env.blockKind = .function) (h : swN sc ts vs = some r) : swappedStores [.Tuple ts k p] (.Tuple vs k2 p2) env = pure r := by
  subst hs
  have hkb : (env.blockKind != ScopeKind.function) = false := by rw [hk]; rfl
  unfold swN at h
  unfold swappedStores
  dsimp only
  rw [hkb, Bool.or_false]
  split at h
  · rename_i c1
    cases h
    rw [if_pos c1]
  · rename_i c1
    rw [if_neg c1]
    split at h
    · rename_i c2
      cases h
      exact if_pos c2
    · rename_i c2
      refine (if_neg c2).trans ?_
      dsimp only at h
      split at h
      · rename_i c3
        cases h
        exact if_pos c3
      · rename_i c3
        refine (if_neg c3).trans ?_
        split at h
        · rename_i c4
          cases h
          exact if_pos c4
        · rename_i c4
          refine (if_neg c4).trans ?_
          split at h
          · cases h
          · rename_i c5
            cases h
            exact if_neg c5
def chNms (N : List Str) (own : Scope) : List Nat → List Expr → Bool
  | [], [] => true
  | i :: is, .Name x _ :: ts => decide (N[i]? = some x) && tgB own x && chNms N own is ts
  | _, _ => false
def nmsOf : List Expr → List Str
  | [] => []
  | .Name x _ :: r => x :: nmsOf r
  | _ :: r => nmsOf r
def locAll (sc : Scope) (l : List Str) : Bool := l.all fun x => decide (sc.names.lookup x = some .local)
def parOk : List Nat → List Expr → List Expr → Bool
  | [i, j], [.Name _ _, .Name _ _], [_, _] => decide (i ≠ j)
  | [i, j, l], [.Name _ _, .Name _ _, .Name _ _], [_, _, _] => decide (i ≠ j) && decide (i ≠ l) && decide (j ≠ l)
  | _, _, _ => false
def setOk (sc : Scope) (x : Str) (px : Pos) : Expr → Bool
  | .ListComp _ _ scope pos => (decide (sc.names.lookup x = some .local) && (px.line == pos.line) && !(scope.names.any fun (n, k) => n == x && (k == .local || k == .cell)))
      || (!(sc.names.lookup x == some .local && px.line == pos.line && !(scope.names.any fun (n, k) => n == x && (k == .local || k == .cell))))
  | e => notComp e
mutual
def chS (T : Tab) (G : Ga) : Sm → Stmt → Bool
  | .pass, st => match st with
    | .Pass _ => true
    | _ => false
  | .ex e, st => match st with
    | .Expr pe _ => notComp pe && chE T G e pe
    | _ => false
  | .set i e, st => match st with
    | .Assign [.Name x px] pe _ => decide (G.N[i]? = some x) && tgB G.own x && setOk G.sc x px pe && chE T G e pe
    | _ => false
  | .par is es, st => match st with
    | .Assign [.Tuple ts _ _] (.Tuple vs _ _) _ => noStars vs && chEs T G es vs && chNms G.N G.own is ts && match swN G.sc ts vs with
      | some none => decide (ts.length ≤ 1000)
      | some (some l) => decide (l = nmsOf ts) && locAll G.sc l && parOk is ts vs
      | none => false
    | _ => false
  | .asg t e, st => match st with
    | .Assign [.Tuple ts k p] pe _ => notComp pe && notTup pe && chT G.N G.own t (.Tuple ts k p) && chE T G e pe
    | _ => false
  | .setsub o i e, st => match st with
    | .Assign [.Subscript po pi _] pe _ => notSlice pi && chE T G o po && chE T G i pi && chE T G e pe
    | _ => false
  | .parsub o i o' i' es, st => match st with
    | .Assign [.Tuple [.Subscript po pi _, .Subscript po' pi' _] _ _] (.Tuple vs _ _) _ => notSlice pi && notSlice pi' && noStars vs && chE T G o po && chE T G i pi && chE T G o' po' && chE T G i' pi' && chEs T G es vs
    | _ => false
  | .aug i op e, st => match st with
    | .AugAssign (.Name x _) pop pe _ => decide (G.N[i]? = some x) && tgB G.own x && opB op pop && chE T G e pe
    | _ => false
  | .ite c a b, st => match st with
    | .If pc pa pb _ => chE T G c pc && chSs T G a pa && chSs T G b pb
    | _ => false
  | .for tg sk a b body, st => match st with
    | .For ptg pit pbody [] _ => chI G.sc (fun e => chE T G a e) (fun e => chE T G b e) (isNon b) sk ptg pit && chT G.N G.own tg ptg && chSs T G body pbody
    | _ => false
  | .while c body, st => match st with
    | .While pc pbody [] _ => chE T G c pc && chSs T G body pbody
    | _ => false
  | .ret e, st => match st with
    | .Return (some pe) _ => chE T G e pe
    | _ => false
  | .retn, st => match st with
    | .Return none _ => true
    | _ => false
  | .raise, st => match st with
    | .Raise _ _ _ => true
    | _ => false
  | .brk, st => match st with
    | .Break _ => true
    | _ => false
  | .cnt, st => match st with
    | .Continue _ => true
    | _ => false
  | .mut1 m i es, st => match st with
    | .Expr pe _ => notComp pe && chE T G (.meth m (.var i) es) pe
    | _ => false
  | .mut2 m i a es, st => match st with
    | .Expr pe _ => notComp pe && chE T G (.meth m (.sub (.var i) a) es) pe
    | _ => false
  | .st1 i a e, st => match st with
    | .Assign [.Subscript po pi _] pe _ => notSlice pi && chE T G (.var i) po && chE T G a pi && chE T G e pe
    | _ => false
  | .st2 i a b e, st => match st with
    | .Assign [.Subscript po pi _] pe _ => notSlice pi && chE T G (.sub (.var i) a) po && chE T G b pi && chE T G e pe
    | _ => false
  | .sw i a j b es, st => match st with
    | .Assign [.Tuple [.Subscript po pi _, .Subscript po' pi' _] _ _] (.Tuple vs _ _) _ => notSlice pi && notSlice pi' && noStars vs && chE T G (.var i) po && chE T G a pi && chE T G (.var j) po' && chE T G b pi' && chEs T G es vs
    | _ => false
  | .popto i j, st => match st with
    | .Assign [.Name x px] pe _ => decide (G.N[i]? = some x) && tgB G.own x && setOk G.sc x px pe && chE T G (.meth .pop (.var j) .nil) pe
    | _ => false
  | .mv i j, st => match st with
    | .Assign [.Name x px] pe _ => decide (G.N[i]? = some x) && tgB G.own x && setOk G.sc x px pe && chE T G (.var j) pe
    | _ => false
  | .mutv i j, st => match st with
    | .Expr pe _ => notComp pe && chE T G (.meth .append (.var i) (.cons (.var j) .nil)) pe
    | _ => false
  | .spoil _ s, st => chS T G s st
def chSs (T : Tab) (G : Ga) : Sms → List Stmt → Bool
  | .nil, ps => match ps with
    | [] => true
    | _ => false
  | .cons s r, ps => match ps with
    | p :: ps => chS T G s p && chSs T G r ps
    | _ => false
end

/-! ### readings -/
def FlOk (D : Ends) (ρ : List Addr) (fl : Fl) (σ : L2.St) (H : Hp) : Prop :=
  match fl with
  | .nx => D.nx σ H
  | .rt u => ∀ v, RU ρ u v → D.rt v H
  | .bk => D.bk σ H
  | .ct => D.ct σ H
def Fin (K : PySem.W.Frag) (D : Ends) (ρ : List Addr) (H : Hp) (fl : Fl) (env1 : Env) (h1 : Hm) : Prop := ∀ ρ' σ' H', Ext ρ H ρ' H' → Rel K ρ' h1 H' → REnv ρ' env1 σ' → FlOk D ρ' fl σ' H'
def tS (K : PySem.W.Frag) (C : Calls) (s : Sm) : TS := fun D σ H => ∃ ρ env h fl env1 h1, REnv ρ env σ ∧ Rel K ρ h H ∧ exS C s env h = some (fl, env1, h1) ∧ Fin K D ρ H fl env1 h1
def tSs (K : PySem.W.Frag) (C : Calls) (s : Sms) : TS := fun D σ H => ∃ ρ env h fl env1 h1, REnv ρ env σ ∧ Rel K ρ h H ∧ exSs C s env h = some (fl, env1, h1) ∧ Fin K D ρ H fl env1 h1
theorem Fin.mono {K : PySem.W.Frag} {D : Ends} {ρ ρ' : List Addr} {H H' : Hp} {fl : Fl} {env1 : Env} {h1 : Hm} (q : Fin K D ρ H fl env1 h1) (x : Ext ρ H ρ' H') : Fin K D ρ' H' fl env1 h1 := fun ρ2 σ2 H2 x2 => q ρ2 σ2 H2 (x.trans x2)
theorem Fin.here {K : PySem.W.Frag} {D : Ends} {ρ : List Addr} {H : Hp} {fl : Fl} {env1 : Env} {h1 : Hm} {σ : L2.St} (q : Fin K D ρ H fl env1 h1) (R : Rel K ρ h1 H) (re : REnv ρ env1 σ) : FlOk D ρ fl σ H := q ρ σ H .refl R re
theorem imS {X : Cx} {s : Stmt} {t t' : TS} (p : PS X s t) (i : ∀ D σ H, t' D σ H → t D σ H) : PS X s t' := ⟨fun pins s σ H D I h => p.run pins s σ H D I (i _ _ _ h)⟩
theorem imSs {X : Cx} {s : List Stmt} {t t' : TS} (p : PSs X s t) (i : ∀ D σ H, t' D σ H → t D σ H) : PSs X s t' := ⟨fun pins s σ H D I h => p.run pins s σ H D I (i _ _ _ h)⟩
/-- a def's body: nothing is raised; own is the scope itself -/
structure CtxS (T : Tab) (C : Calls) (k : Nat) (G : Ga) (X : Cx) : Prop where
  c : CtxOk T C k G X
  own : G.own = G.sc
  xe : X.xe = fun _ _ => False
  fn : ∀ x, X.fn x = true
  kind : X.env.scope.kind = .function
def SoS (T : Tab) (C : Calls) (k : Nat) (s : Sm) : Prop := ∀ (G : Ga) (X : Cx) (p : Stmt), CtxS T C k G X → chS T G s p = true → PS X p (tS X.K C s)
def SoSs (T : Tab) (C : Calls) (k : Nat) (s : Sms) : Prop := ∀ (G : Ga) (X : Cx) (p : List Stmt), CtxS T C k G X → chSs T G s p = true → PSs X p (tSs X.K C s)
theorem bs_some {o : ResS} {k : Env → Hm → ResS} {r : Fl × Env × Hm} (e : bs o k = some r) : (∃ σ h, o = some (.nx, σ, h) ∧ k σ h = some r) ∨ (o = some r ∧ r.1 ≠ .nx) := by
  unfold bs at e
  split at e
  · exact .inl ⟨_, _, rfl, e⟩
  · rename_i hno
    refine .inr ⟨e, ?_⟩
    obtain ⟨fl, σ, h⟩ := r
    intro z
    dsimp only at z
    subst z
    exact hno σ h e
theorem swaps_no {e : Expr} {t : Option Expr} {l : Nat} {env : PySem.Env} (h : notComp e = true) : swapsWith e t l env = pure false := by
  cases e <;> first | rfl | exact Bool.noConfusion h
theorem swaps_sub {e o i : Expr} {p : Pos} {l : Nat} {env : PySem.Env} : swapsWith e (some (.Subscript o i p)) l env = pure false := by
  cases e <;> rfl
theorem swaps_tup {e : Expr} {es : List Expr} {k : Nat} {p : Pos} {l : Nat} {env : PySem.Env} : swapsWith e (some (.Tuple es k p)) l env = pure false := by
  cases e <;> rfl
theorem soleN {t e : Expr} {l : Nat} {env : PySem.Env} (h : notComp e = true) : swapsWithSole [t] e l env = pure false := swaps_no h
theorem soleS {o i : Expr} {p : Pos} {e : Expr} {l : Nat} {env : PySem.Env} : swapsWithSole [.Subscript o i p] e l env = pure false := swaps_sub (o := o) (i := i) (p := p) (l := l) (env := env)
theorem soleT {es : List Expr} {k : Nat} {p : Pos} {e : Expr} {l : Nat} {env : PySem.Env} : swapsWithSole [.Tuple es k p] e l env = pure false := swaps_tup (es := es) (k := k) (p := p) (l := l) (env := env)
theorem asg_sub {o i : Expr} {p : Pos} {env : PySem.Env} (h : notSlice i = true) (v : Value) : assign (.Subscript o i p) env v = (do
      let ov ← holding [v] (eval o env)
      let iv ← holding [v, ov] (eval i env)
      standAt p
      holding [v, ov, iv] (setItem ov iv v)
      release [v, ov, iv] []) := by
  cases i <;> first | rfl | exact Bool.noConfusion h
theorem stores_tup {t : Expr} {e : Expr} {env : PySem.Env} (h : notTup e = true) : swappedStores [t] e env = pure none := by
  cases e <;> first | (cases t <;> rfl) | exact Bool.noConfusion h
theorem stores_sub {o i : Expr} {p : Pos} {e : Expr} {env : PySem.Env} : swappedStores [.Subscript o i p] e env = pure none := by
  cases e <;> rfl
section
variable {T : Tab} {C : Calls} {k : Nat}
theorem bkind {X : Cx} (h : X.env.scope.kind = .function) : X.env.blockKind = .function := by
  unfold PySem.Env.blockKind
  rw [h]
  rfl
theorem ss_pass : SoS T C k .pass := fun G X p c h => by
  unfold chS at h
  split at h
  · refine imS ps_pass fun D σ H q => ?_
    obtain ⟨ρ, env, hh, fl, env1, h1, re, R, e, q⟩ := q
    unfold exS at e; cases e
    exact q.here R re
  · exact Bool.noConfusion h
theorem ss_brk : SoS T C k .brk := fun G X p c h => by
  unfold chS at h
  split at h
  · refine imS ps_break fun D σ H q => ?_
    obtain ⟨ρ, env, hh, fl, env1, h1, re, R, e, q⟩ := q
    unfold exS at e; cases e
    exact q.here R re
  · exact Bool.noConfusion h
theorem ss_cnt : SoS T C k .cnt := fun G X p c h => by
  unfold chS at h
  split at h
  · refine imS ps_continue fun D σ H q => ?_
    obtain ⟨ρ, env, hh, fl, env1, h1, re, R, e, q⟩ := q
    unfold exS at e; cases e
    exact q.here R re
  · exact Bool.noConfusion h
theorem ss_raise : SoS T C k .raise := fun G X p c h => by
  refine imS ps_never fun D σ H q => ?_
  obtain ⟨ρ, env, hh, fl, env1, h1, re, R, e, q⟩ := q
  unfold exS at e; cases e
theorem ss_ex {e : Ex} : SoS T C k (.ex e) := fun G X p c h => by
  unfold chS at h
  split at h
  · rw [Bool.and_eq_true] at h
    refine imS (ps_expr ((so_all T C k e).val G X _ c.c h.2) (swaps_no h.1)) fun D σ H q => ?_
    obtain ⟨ρ, env, hh, fl, env1, h1, re, R, e, q⟩ := q
    unfold exS at e
    obtain ⟨u, h2, ea, e⟩ := bd_some e
    cases e
    exact ⟨ρ, env, hh, u, _, re, R, ea, fun ρ1 v1 H1 x1 R1 r1 => (q.mono x1).here R1 (re.mono x1.pre)⟩
  · exact Bool.noConfusion h
theorem ss_ret {e : Ex} : SoS T C k (.ret e) := fun G X p c h => by
  unfold chS at h
  split at h
  · refine imS (ps_ret ((so_all T C k e).val G X _ c.c h)) fun D σ H q => ?_
    obtain ⟨ρ, env, hh, fl, env1, h1, re, R, e, q⟩ := q
    unfold exS at e
    obtain ⟨u, h2, ea, e⟩ := bd_some e
    cases e
    exact ⟨ρ, env, hh, u, _, re, R, ea, fun ρ1 v1 H1 x1 R1 r1 => (q.mono x1).here R1 (re.mono x1.pre) v1 r1⟩
  · exact Bool.noConfusion h
theorem ss_retn : SoS T C k .retn := fun G X p c h => by
  unfold chS at h
  split at h
  · refine imS ps_retN fun D σ H q => ?_
    obtain ⟨ρ, env, hh, fl, env1, h1, re, R, e, q⟩ := q
    unfold exS at e; cases e
    exact q.here R re .non rfl
  · exact Bool.noConfusion h
theorem set_env {ρ : List Addr} {env : Env} {σ : L2.St} (re : REnv ρ env σ) {i : Nat} {u : U} {v : V} (r : RU ρ u v) : REnv ρ (env.set i (some u)) (σ.set i (some v)) := pd_set (F := RUo ρ) (x := some u) (y := some v) r i re
theorem ss_set {i : Nat} {e : Ex} : SoS T C k (.set i e) := fun G X p c h => by
  have key : ∀ {te : TE}, (∀ σ H Q, tE X.K C e σ H Q → te σ H Q) → ∀ D σ H, tS X.K C (.set i e) D σ H → tAsg te (gName i) D σ H := by
    intro te hte D σ H q
    obtain ⟨ρ, env, hh, fl, env1, h1, re, R, e, q⟩ := q
    unfold exS at e
    obtain ⟨u, h2, ea, e⟩ := bd_some e
    cases e
    exact hte _ _ _ ⟨ρ, env, hh, u, _, re, R, ea, fun ρ1 v1 H1 x1 R1 r1 => (q.mono x1).here R1 (set_env (re.mono x1.pre) r1)⟩
  unfold chS at h
  split at h
  · rename_i x px pe spos
    simp only [Bool.and_eq_true] at h
    obtain ⟨⟨⟨h1, h2⟩, h3⟩, h4⟩ := h
    have hi : X.N[i]? = some x := by rw [c.c.N]; exact of_decide_eq_true h1
    obtain ⟨l1, l2⟩ := c.c.tg x h2
    have pv := (so_all T C k e).val G X pe c.c h4
    by_cases hsw : ∀ pos : Pos, swapsWith pe (some (.Name x px)) pos.line X.env = pure false
    · exact imS (ps_set c.c.nd hi l1 pv (hsw _) l2) (key fun _ _ _ z => z)
    · cases pe with
      | ListComp pelt gs scope pos =>
        have hloc : X.env.scope.names.lookup x = some .local ∧ (px.line == pos.line) = true ∧ (scope.names.any fun (n, k) => n == x && (k == .local || k == .cell)) = false := by
          unfold setOk at h3
          rw [Bool.or_eq_true] at h3
          rcases h3 with h3 | h3
          · simp only [Bool.and_eq_true, Bool.not_eq_true'] at h3
            exact ⟨by rw [c.c.sc]; exact of_decide_eq_true h3.1.1, h3.1.2, h3.2⟩
          · exfalso
            refine hsw fun q => ?_
            unfold swapsWith
            have hb := bkind c.kind
            have e1 : (X.env.blockKind == ScopeKind.function) = true := by rw [hb]; rfl
            have e2 : X.env.kindOf x = G.sc.names.lookup x := by rw [← c.c.sc]; rfl
            dsimp only
            rw [e1, e2, Bool.true_and]
            rw [Bool.not_eq_true'] at h3
            exact congrArg pure h3
        obtain ⟨hloc, hline, hno⟩ := hloc
        have hsw2 : ∀ l : Nat, swapsWith (.ListComp pelt gs scope pos) (some (.Name x px)) l X.env = pure true := fun l => sw_true c.kind hloc hline hno
        cases e with
        | lc own tg sk a b cond elt =>
          unfold chE at h4
          split at h4
          · rename_i he
            cases he
            simp only [Bool.and_eq_true] at h4
            obtain ⟨⟨⟨⟨⟨q1, q2⟩, q3⟩, q4⟩, q5⟩, q6⟩ := h4
            have := ps_setLc (elt := pelt) (spos := spos) (te := tE X.K C elt) (tt := tB' X.K C cond) (g := gC X.K tg) (own := ownP G.N own) (pos := pos) c.c.calm c.c.nd hi hloc (hsw2 _)
              (pi_any c.c (fun pe z => (so_all T C k a).val G X pe c.c z) (fun pe z => (so_all T C k b).val G X pe c.c z) isNon_eq q2) (by rw [c.c.N, c.c.sc]; exact blkOk_by q1)
              (fun s H A cl fp => pg_C (c.c.blk s H scope cl A fp) tg _ q3) (fun s H A cl fp => pts_any (c.c.blk s H scope cl A fp) (so_all T C k cond) q5) (fun s H A cl fp => (so_all T C k elt).val _ _ _ (c.c.blk s H scope cl A fp) q6) (set_folded (chI_set q2))
            rw [ownP_snd] at this
            exact imS this (key (lc_read q4))
          · exact Bool.noConfusion h4
        | lc2 own vs tg sk a b cond tg1 sk1 a1 b1 cond1 elt =>
          unfold chE at h4
          split at h4
          · rename_i he
            cases he
            simp only [Bool.and_eq_true] at h4
            obtain ⟨⟨⟨⟨⟨⟨⟨⟨⟨⟨q1, q2⟩, q3⟩, q4⟩, q5⟩, q2'⟩, q3'⟩, q4'⟩, q5'⟩, q6⟩, qv⟩ := h4
            have := ps_setLc2 (elt := pelt) (spos := spos) (te := tE X.K C elt) (tt := tB' X.K C cond) (g := gC X.K tg) (tt1 := tB' X.K C cond1) (g1 := gC X.K tg1) (wi1 := tI X.K C sk1 a1 b1) (own := ownP G.N own) (vs1 := vs) (pos := pos) c.c.calm c.c.nd hi hloc (hsw2 _)
              (pi_any c.c (fun pe z => (so_all T C k a).val G X pe c.c z) (fun pe z => (so_all T C k b).val G X pe c.c z) isNon_eq q2) (by rw [c.c.N, c.c.sc]; exact blkOk_by q1)
              (fun i hi => by rw [ownP_snd]; exact of_decide_eq_true (List.all_eq_true.mp qv i hi))
              (fun s H A cl fp => pg_C (c.c.blk s H scope cl A fp) tg _ q3) (fun s H A cl fp => pts_any (c.c.blk s H scope cl A fp) (so_all T C k cond) q5)
              (fun s H A cl fp => pi_any (c.c.blk s H scope cl A fp) (fun pe z => (so_all T C k a1).val _ _ pe (c.c.blk s H scope cl A fp) z) (fun pe z => (so_all T C k b1).val _ _ pe (c.c.blk s H scope cl A fp) z) isNon_eq q2')
              (fun s H A cl fp => pg_C (c.c.blk s H scope cl A fp) tg1 _ q3') (fun s H A cl fp => pts_any (c.c.blk s H scope cl A fp) (so_all T C k cond1) q5')
              (fun s H A cl fp => (so_all T C k elt).val _ _ _ (c.c.blk s H scope cl A fp) q6) (set_folded (chI_set q2)) (fun env x => set_folded (chI_set q2') x)
            rw [ownP_snd] at this
            exact imS this (key (lc2_read q4 q4'))
          · exact Bool.noConfusion h4
        | _ => unfold chE at h4; exact Bool.noConfusion h4
      | _ => exact absurd (fun _ => swaps_no (by first | rfl | exact h3)) hsw
  · exact Bool.noConfusion h
theorem setAll_len : ∀ {is : List Nat} {us : List U} {env env1 : Env}, setAll is us env = some env1 → is.length = us.length
  | [], [], _, _, _ => rfl
  | [], _ :: _, _, _, e => by cases e
  | _ :: _, [], _, _, e => by cases e
  | i :: is, u :: us, env, env1, e => congrArg Nat.succ (setAll_len (is := is) (us := us) e)
def gL (is : List Nat) : TGs := fun vs σ H Q => ∃ ρ us env env1, RUs ρ us vs ∧ REnv ρ env σ ∧ setAll is us env = some env1 ∧ ∀ σ1, REnv ρ env1 σ1 → Q σ1 H
theorem imGs {X : Cx} {ts : List Expr} {t t' : TGs} (p : PGs X ts t) (i : ∀ v σ H Q, t' v σ H Q → t v σ H Q) : PGs X ts t' := ⟨fun pins s σ H vs us Q I r h => p.run pins s σ H vs us Q I r (i _ _ _ _ h)⟩
theorem pgs_nms {G : Ga} {X : Cx} (c : CtxOk T C k G X) : ∀ {is : List Nat} {ts : List Expr}, chNms G.N G.own is ts = true → PGs X ts (gL is) ∧ noStars ts = true ∧ ts.length = is.length
  | [], [], _ => ⟨imGs pgs_nil (fun vs σ H Q q => by
      obtain ⟨ρ, us, env, env1, r, re, e, q⟩ := q
      cases us with
      | nil => cases r; cases e; exact ⟨rfl, q σ re⟩
      | cons _ _ => cases e), rfl, rfl⟩
  | [], _ :: _, h => by unfold chNms at h; exact Bool.noConfusion h
  | i :: is, [], h => by unfold chNms at h; exact Bool.noConfusion h
  | i :: is, t :: ts, h => by
    cases t with
    | Name x px =>
      simp only [chNms, Bool.and_eq_true] at h
      obtain ⟨⟨h1, h2⟩, h3⟩ := h
      obtain ⟨i1, i2, i3⟩ := pgs_nms c h3
      obtain ⟨l1, l2⟩ := c.tg _ h2
      refine ⟨imGs (pgs_cons (pg_name (i := i) c.nd (by rw [c.N]; exact of_decide_eq_true h1) l1 l2) i1 rfl) fun vs σ H Q q => ?_, i2, congrArg Nat.succ i3⟩
      obtain ⟨ρ, us, env, env1, r, re, e, q⟩ := q
      cases us with
      | nil => cases e
      | cons u us =>
        cases r with
        | cons r1 r2 => exact ⟨_, _, rfl, ρ, us, _, env1, r2, set_env re r1, e, q⟩
    | _ => exact Bool.noConfusion h
theorem ss_par {is : List Nat} {es : Exs} : SoS T C k (.par is es) := fun G X p c h => by
  unfold chS at h
  split at h
  · rename_i ts kk pt vs k2 p2 pos
    simp only [Bool.and_eq_true] at h
    obtain ⟨⟨⟨h1, h2⟩, h3⟩, h4⟩ := h
    have pa := sos_all T C k es G X vs c.c h2 h1
    obtain ⟨g1, g2, g3⟩ := pgs_nms c.c h3
    split at h4
    · rename_i hsw
      refine imS (ps_asg (pe_tup pa) (pg_tup c.c.calm g1 (asg_len g2) (asg_find g2)) soleT (swN_ok c.c.sc (bkind c.kind) hsw)) fun D σ H q => ?_
      obtain ⟨ρ, env, hh, fl, env1, h1, re, R, e, q⟩ := q
      unfold exS at e
      obtain ⟨us, h5, ea, e⟩ := bd_some e
      obtain ⟨env2, eb, e⟩ := ob_some e
      cases e
      refine ⟨ρ, env, hh, us, _, re, R, ea, fun ρ1 v1 H1 x1 R1 r1 => ⟨?_, fun p hp => ⟨p, v1, rfl, .inl (.inl upd_same), ?_, ?_⟩⟩⟩
      · rw [← pd_len r1, ← setAll_len eb, ← g3]
        exact Nat.le_of_lt (small1000 (of_decide_eq_true h4))
      · rw [← pd_len r1, ← setAll_len eb, ← g3]
      · exact ⟨ρ1, us, env, _, r1, re.mono x1.pre, eb, fun σ1 re1 => (q.mono (x1.trans (.junk hp _))).here (R1.junk hp _) re1⟩
    · rename_i l hsw
      simp only [Bool.and_eq_true] at h4
      obtain ⟨⟨h5, h6⟩, h7⟩ := h4
      have h5 := of_decide_eq_true h5
      subst h5
      have hw : swappedStores [.Tuple ts kk pt] (.Tuple vs k2 p2) X.env = pure (some (nmsOf ts)) := swN_ok c.c.sc (bkind c.kind) hsw
      have loc : ∀ x ∈ nmsOf ts, X.env.scope.names.lookup x = some .local := fun x hx => by
        rw [c.c.sc]
        exact of_decide_eq_true (List.all_eq_true.mp h6 x hx)
      unfold parOk at h7
      split at h7
      · rename_i i j x px y py v1 v2
        simp only [chNms, Bool.and_eq_true] at h3
        obtain ⟨⟨n1, _⟩, ⟨n2, _⟩, _⟩ := h3
        refine imS (ps_par c.c.calm c.c.nd (by rw [c.c.N]; exact of_decide_eq_true n1) (by rw [c.c.N]; exact of_decide_eq_true n2) (of_decide_eq_true h7) (loc x (by simp [nmsOf])) (loc y (by simp [nmsOf])) pa hw) fun D σ H q => ?_
        obtain ⟨ρ, env, hh, fl, env1, h1, re, R, e, q⟩ := q
        unfold exS at e
        obtain ⟨us, h5, ea, e⟩ := bd_some e
        obtain ⟨env2, eb, e⟩ := ob_some e
        cases e
        refine ⟨ρ, env, hh, us, _, re, R, ea, fun ρ1 w1 H1 x1 R1 r1 => ?_⟩
        match us, r1, eb with
        | [u1, u2], .cons r1 (.cons r2 .nil), eb =>
          cases eb
          exact ⟨_, _, rfl, (q.mono x1).here R1 (set_env (set_env (re.mono x1.pre) r1) r2)⟩
      · rename_i i j l x px y py z pz v1 v2 v3
        simp only [chNms, Bool.and_eq_true] at h3
        obtain ⟨⟨n1, _⟩, ⟨n2, _⟩, ⟨n3, _⟩, _⟩ := h3
        simp only [Bool.and_eq_true] at h7
        obtain ⟨⟨d1, d2⟩, d3⟩ := h7
        refine imS (ps_par3 c.c.calm c.c.nd (by rw [c.c.N]; exact of_decide_eq_true n1) (by rw [c.c.N]; exact of_decide_eq_true n2) (by rw [c.c.N]; exact of_decide_eq_true n3) (of_decide_eq_true d1) (of_decide_eq_true d2) (of_decide_eq_true d3)
          (loc x (by simp [nmsOf])) (loc y (by simp [nmsOf])) (loc z (by simp [nmsOf])) pa hw) fun D σ H q => ?_
        obtain ⟨ρ, env, hh, fl, env1, h1, re, R, e, q⟩ := q
        unfold exS at e
        obtain ⟨us, h5, ea, e⟩ := bd_some e
        obtain ⟨env2, eb, e⟩ := ob_some e
        cases e
        refine ⟨ρ, env, hh, us, _, re, R, ea, fun ρ1 w1 H1 x1 R1 r1 => ?_⟩
        match us, r1, eb with
        | [u1, u2, u3], .cons r1 (.cons r2 (.cons r3 .nil)), eb =>
          cases eb
          exact ⟨_, _, _, rfl, (q.mono x1).here R1 (set_env (set_env (set_env (re.mono x1.pre) r1) r2) r3)⟩
      · exact Bool.noConfusion h7
    · exact Bool.noConfusion h4
  · exact Bool.noConfusion h
theorem ss_asg {t : Tn} {e : Ex} : SoS T C k (.asg t e) := fun G X p c h => by
  unfold chS at h
  split at h
  · simp only [Bool.and_eq_true] at h
    obtain ⟨⟨⟨h1, h2⟩, h3⟩, h4⟩ := h
    refine imS (ps_asg ((so_all T C k e).val G X _ c.c h4) (pg_B c.c t _ h3) (soleN h1) (stores_tup h2)) fun D σ H q => ?_
    obtain ⟨ρ, env, hh, fl, env1, h1, re, R, e, q⟩ := q
    unfold exS at e
    obtain ⟨u, h5, ea, e⟩ := bd_some e
    obtain ⟨env2, eb, e⟩ := ob_some e
    cases e
    exact ⟨ρ, env, hh, u, _, re, R, ea, fun ρ1 v1 H1 x1 R1 r1 => ⟨ρ1, _, u, env, _, R1, r1, re.mono x1.pre, eb, fun σ1 re1 _ => (q.mono x1).here R1 re1⟩⟩
  · exact Bool.noConfusion h
/-- o[i] = v by values -/
def gSetU (K : PySem.W.Frag) : V → V → V → Hp → (Hp → Prop) → Prop := fun o i v H Q => ∃ ρ h a b c h1, Rel K ρ h H ∧ RU ρ a o ∧ RU ρ b i ∧ RU ρ c v ∧ setU h a b c = some h1 ∧ ∀ H', Ext ρ H ρ H' → Rel K ρ h1 H' → Q H'
theorem setU_rel {K : PySem.W.Frag} {o i v : V} {H : Hp} {Q : Hp → Prop} (q : gSetU K o i v H Q) : rSetL o i v H Q := by
  obtain ⟨ρ, h, a, b, c, h1, R, ra, rb, rc, e, q⟩ := q
  unfold setU at e
  split at e
  · obtain ⟨p, ep, rfl⟩ := ra
    cases (show i = .int _ from rb)
    split at e
    · rename_i xs eo
      obtain ⟨vs, rr, qq⟩ := R.ob _ _ p eo ep
      split at e
      · rename_i j ej
        cases e
        exact ⟨p, vs, _, j, rfl, rfl, qq, by rw [← pd_len rr]; exact ej, q _ (.set ep (R.lst0 eo) _) (R.setL eo ep (pd_set rc j rr))⟩
      · cases e
    · cases e
  · cases e
theorem ss_setsub {o i e : Ex} : SoS T C k (.setsub o i e) := fun G X p c h => by
  unfold chS at h
  split at h
  · simp only [Bool.and_eq_true] at h
    obtain ⟨⟨⟨h1, h2⟩, h3⟩, h4⟩ := h
    refine imS (ps_asg ((so_all T C k e).val G X _ c.c h4) (pg_sub ((so_all T C k o).val G X _ c.c h2) ((so_all T C k i).val G X _ c.c h3) set_list (asg_sub h1)) soleS stores_sub) fun D σ H q => ?_
    obtain ⟨ρ, env, hh, fl, env1, h1, re, R, e, q⟩ := q
    unfold exS at e
    obtain ⟨v, h5, ea, e⟩ := bd_some e
    obtain ⟨x, h6, eb, e⟩ := bd_some e
    obtain ⟨y, h7, ec, e⟩ := bd_some e
    obtain ⟨h8, ed, e⟩ := ob_some e
    cases e
    refine ⟨ρ, env, hh, v, h5, re, R, ea, fun ρ1 v1 H1 x1 R1 r1 => ⟨ρ1, env, h5, x, h6, re.mono x1.pre, R1, eb, fun ρ2 v2 H2 x2 R2 r2 => ⟨ρ2, env, h6, y, h7, re.mono (x1.trans x2).pre, R2, ec, fun ρ3 v3 H3 x3 R3 r3 => setU_rel (K := X.K) ?_⟩⟩⟩
    exact ⟨ρ3, h7, x, y, v, _, R3, r2.mono x3.pre, r3, r1.mono (x2.trans x3).pre, ed, fun H' x4 R4 => (q.mono (((x1.trans x2).trans x3).trans x4)).here R4 (re.mono ((x1.trans x2).trans x3).pre)⟩
  · exact Bool.noConfusion h
theorem ss_parsub {o i o' i' : Ex} {es : Exs} : SoS T C k (.parsub o i o' i' es) := fun G X p c h => by
  unfold chS at h
  split at h
  · simp only [Bool.and_eq_true] at h
    obtain ⟨⟨⟨⟨⟨⟨⟨h1, h1'⟩, h2⟩, h3⟩, h4⟩, h5⟩, h6⟩, h7⟩ := h
    have pa := sos_all T C k es G X _ c.c h7 h2
    have g1 := fun p => pg_sub (X := X) (pos := p) ((so_all T C k o).val G X _ c.c h3) ((so_all T C k i).val G X _ c.c h4) set_list (asg_sub h1)
    have g2 := fun p => pg_sub (X := X) (pos := p) ((so_all T C k o').val G X _ c.c h5) ((so_all T C k i').val G X _ c.c h6) set_list (asg_sub h1')
    refine imS (ps_asg (pe_tup pa) (pg_tup c.c.calm (pgs_cons (g1 _) (pgs_cons (g2 _) pgs_nil rfl) rfl) rfl rfl) soleT ?_) fun D σ H q => ?_
    · refine swN_ok (r := none) rfl (bkind c.kind) ?_
      unfold swN
      split
      · rfl
      · split
        · rfl
        · rfl
    · obtain ⟨ρ, env, hh, fl, env1, h1, re, R, e, q⟩ := q
      unfold exS at e
      obtain ⟨us, h5, ea, e⟩ := bd_some e
      split at e
      · rename_i v w
        obtain ⟨x, h6, eb, e⟩ := bd_some e
        obtain ⟨y, h7, ec, e⟩ := bd_some e
        obtain ⟨h8, ed, e⟩ := ob_some e
        obtain ⟨x', h9, eb', e⟩ := bd_some e
        obtain ⟨y', h10, ec', e⟩ := bd_some e
        obtain ⟨h11, ed', e⟩ := ob_some e
        cases e
        refine ⟨ρ, env, hh, _, h5, re, R, ea, fun ρ1 v1 H1 x1 R1 r1 => ?_⟩
        obtain ⟨a1, a2, rfl, ra1, ra2⟩ := pd_two r1
        refine ⟨by show 2 ≤ sizeLine; decide, fun p hp => ⟨p, [a1, a2], rfl, .inl (.inl upd_same), rfl, a1, [a2], rfl, ?_⟩⟩
        have R1' := R1.junk hp (.tup [a1, a2])
        have x1' := x1.trans (.junk hp (.tup [a1, a2]))
        refine ⟨ρ1, env, h5, x, h6, re.mono x1.pre, R1', eb, fun ρ2 v2 H2 x2 R2 r2 => ⟨ρ2, env, h6, y, h7, re.mono (x1'.trans x2).pre, R2, ec, fun ρ3 v3 H3 x3 R3 r3 => setU_rel (K := X.K) ?_⟩⟩
        refine ⟨ρ3, h7, x, y, v, _, R3, r2.mono x3.pre, r3, ra1.mono (x2.trans x3).pre, ed, fun H' x4 R4 => ⟨a2, [], rfl, ?_⟩⟩
        have X4 := ((x1'.trans x2).trans x3).trans x4
        refine ⟨ρ3, env, h8, x', h9, re.mono X4.pre, R4, eb', fun ρ5 v5 H5 x5 R5 r5 => ⟨ρ5, env, h9, y', h10, re.mono (X4.trans x5).pre, R5, ec', fun ρ6 v6 H6 x6 R6 r6 => setU_rel (K := X.K) ?_⟩⟩
        refine ⟨ρ6, h10, x', y', w, _, R6, r5.mono x6.pre, r6, ra2.mono (((x2.trans x3).trans x4).trans (x5.trans x6)).pre, ed', fun H' x7 R7 => ⟨rfl, ?_⟩⟩
        exact (q.mono (((X4.trans x5).trans x6).trans x7)).here R7 (re.mono ((X4.trans x5).trans x6).pre)
      · cases e
  · exact Bool.noConfusion h
end
end Mi

set_option maxRecDepth 100000
/-! Mi, part B11: loops, blocks, defs. -/
namespace Mi
open PySem PySem.Spec PyProof.Rows L2
section
variable {T : Tab} {C : Calls} {k : Nat}
theorem ss_aug {i : Nat} {op : Bop} {e : Ex} : SoS T C k (.aug i op e) := fun G X p c h => by
  unfold chS at h
  split at h
  · rename_i x px pop pe pos
    simp only [Bool.and_eq_true] at h
    obtain ⟨⟨⟨h1, h2⟩, h3⟩, h4⟩ := h
    obtain ⟨l1, l2⟩ := c.c.tg _ h2
    have hi : X.N[i]? = some x := by rw [c.c.N]; exact of_decide_eq_true h1
    have pe' := (so_all T C k e).val G X _ c.c h4
    cases opB_eq h3
    have key : ∀ (D : Ends) (σ : L2.St) (H : Hp) (ti : TIp), tS X.K C (.aug i op e) D σ H → (∀ ρ u v z x y H Q, RU ρ u x → RU ρ v y → augU op u v = some z → (∀ w, RU ρ z w → Q w H) → ti x y H Q) → tAug i (tE X.K C e) ti D σ H := by
      intro D σ H ti q hti
      obtain ⟨ρ, env, hh, fl, env1, h1, re, R, e, q⟩ := q
      unfold exS at e
      obtain ⟨x0, ex, e⟩ := ob_some e
      obtain ⟨y, h5, ea, e⟩ := bd_some e
      obtain ⟨z, ez, e⟩ := ob_some e
      cases e
      obtain ⟨v, hv, rv⟩ := env_get re ex
      exact ⟨v, hv, ρ, env, hh, y, _, re, R, ea, fun ρ1 v1 H1 x1 R1 r1 => hti ρ1 x0 y z v v1 H1 _ (rv.mono x1.pre) r1 ez fun w rw => (q.mono x1).here R1 (set_env (re.mono x1.pre) rw)⟩
    cases op with
    | add =>
      refine imS (ps_aug c.c.nd hi l1 pe' ip_add l2) fun D σ H q => key D σ H _ q fun ρ u v z x y H Q ru rv ea hq => ?_
      unfold augU at ea
      split at ea
      · cases ea; cases (show x = .int _ from ru); cases (show y = .int _ from rv); exact ⟨_, _, rfl, rfl, hq _ rfl⟩
      · rename_i z3; cases z3
      · cases ea
    | sub =>
      refine imS (ps_aug c.c.nd hi l1 pe' ip_sub l2) fun D σ H q => key D σ H _ q fun ρ u v z x y H Q ru rv ea hq => ?_
      unfold augU at ea
      split at ea
      · rename_i z3; cases z3
      · cases ea; cases (show x = .int _ from ru); cases (show y = .int _ from rv); exact ⟨_, _, rfl, rfl, hq _ rfl⟩
      · cases ea
    | _ =>
      refine imS ps_never fun D σ H q => ?_
      obtain ⟨ρ, env, hh, fl, env1, h1, re, R, e, q⟩ := q
      unfold exS at e
      obtain ⟨x0, ex, e⟩ := ob_some e
      obtain ⟨y, h5, ea, e⟩ := bd_some e
      obtain ⟨z, ez, e⟩ := ob_some e
      cases ez
  · exact Bool.noConfusion h
theorem ss_ite {c0 : Ex} {a b : Sms} (ha : SoSs T C k a) (hb : SoSs T C k b) : SoS T C k (.ite c0 a b) := fun G X p c h => by
  unfold chS at h
  split at h
  · simp only [Bool.and_eq_true] at h
    obtain ⟨⟨h1, h2⟩, h3⟩ := h
    refine imS (ps_if ((so_all T C k c0).tst G X _ c.c h1) (ha G X _ c h2) (hb G X _ c h3)) fun D σ H q => ?_
    obtain ⟨ρ, env, hh, fl, env1, h1, re, R, e, q⟩ := q
    unfold exS at e
    obtain ⟨x, h5, ea, e1⟩ := bd_some e
    clear e
    obtain ⟨d, ed, e⟩ := bf_some e1
    clear e1
    subst ed
    refine ⟨ρ, env, hh, d, h5, re, R, ea, fun ρ1 H1 x1 R1 => ?_⟩
    cases d with
    | true => exact ⟨ρ1, env, h5, fl, env1, h1, re.mono x1.pre, R1, e, q.mono x1⟩
    | false => exact ⟨ρ1, env, h5, fl, env1, h1, re.mono x1.pre, R1, e, q.mono x1⟩
  · exact Bool.noConfusion h
theorem forLoop_stop {f : Iv → Env → Hm → ResS} {it : It} {m i : Nat} {env : Env} {h : Hm} {r : Fl × Env × Hm} (e : forLoop f it m i env h = some r) :
    (it.at h i = some none ∧ r = (.nx, env, h)) ∨ ∃ m' v, m = m' + 1 ∧ it.at h i = some (some v) ∧ bl (f v env h) (fun σ1 h1 => forLoop f it m' (i + 1) σ1 h1) = some r := by
  cases m with
  | zero =>
    unfold forLoop at e
    obtain ⟨o, eo, e⟩ := ob_some e
    cases o with
    | none => cases e; exact .inl ⟨eo, rfl⟩
    | some v => cases e
  | succ m =>
    unfold forLoop at e
    obtain ⟨o, eo, e⟩ := ob_some e
    cases o with
    | none => cases e; exact .inl ⟨eo, rfl⟩
    | some v => exact .inr ⟨m, v, rfl, eo, e⟩
theorem bl_some {o : ResS} {k : Env → Hm → ResS} {r : Fl × Env × Hm} (e : bl o k = some r) : ∃ fl σ h, o = some (fl, σ, h) ∧ (match fl with | .nx => k σ h = some r | .ct => k σ h = some r | .bk => r = (.nx, σ, h) | .rt u => r = (.rt u, σ, h)) := by
  unfold bl at e
  split at e
  · exact ⟨_, _, _, rfl, e⟩
  · exact ⟨_, _, _, rfl, e⟩
  · exact ⟨_, _, _, rfl, (Option.some.inj e).symm⟩
  · exact ⟨_, _, _, rfl, (Option.some.inj e).symm⟩
  · cases e
theorem ss_for {tg : Tn} {sk : Sk} {a b : Ex} {body : Sms} (hb : SoSs T C k body) : SoS T C k (.for tg sk a b body) := fun G X p c h => by
  unfold chS at h
  split at h
  · rename_i ptg pit pbody pos
    simp only [Bool.and_eq_true] at h
    obtain ⟨⟨h1, h2⟩, h3⟩ := h
    refine imS (ps_for (by rw [c.xe]; exact PassesOwn.never) c.c.calm (pi_any c.c (fun pe z => (so_all T C k a).val G X pe c.c z) (fun pe z => (so_all T C k b).val G X pe c.c z) isNon_eq h1) (pg_C c.c tg _ h2) (hb G X _ c h3) (set_folded (chI_set h1))) fun D σ H q => ?_
    obtain ⟨ρ, env, hh, fl, env1, h4, re, R, e, q⟩ := q
    unfold exS at e
    obtain ⟨x, h5, ea, e⟩ := bd_some e
    obtain ⟨y, h6, eb, e⟩ := bd_some e
    obtain ⟨it, em, e⟩ := ob_some e
    refine ⟨ρ, env, hh, x, h5, y, h6, it, re, R, ea, eb, em, fun ρ1 J H1 x1 R1 ri => ?_⟩
    refine ⟨fun i m τ Hc => ∃ ρ' envc hc, Ext ρ1 H1 ρ' Hc ∧ Rel X.K ρ' hc Hc ∧ REnv ρ' envc τ ∧ forLoop _ it m i envc hc = some (fl, env1, h4), ⟨it.cnt h6, ρ1, env, h6, .refl, R1, re.mono x1.pre, e⟩, ?_⟩
    rintro i m τ Hc ⟨ρ', envc, hc, x', R', re', e'⟩
    rcases forLoop_stop e' with ⟨eo, er⟩ | ⟨m', v, rfl, eo, eb'⟩
    · cases er
      exact .inl ⟨it_stop R' (ri.mono x'.pre) eo, (q.mono (x1.trans x')).here R' re'⟩
    · obtain ⟨g1, g2⟩ := it_go R' (ri.mono x'.pre) eo
      refine .inr ⟨g1, _, fun τ' H' w => ⟨m', Nat.lt_succ_self m', w⟩, fun xx H' hy => ?_⟩
      have iv := g2 xx H' hy
      obtain ⟨RH, xH⟩ : Rel X.K ρ' hc H' ∧ Ext ρ' Hc ρ' H' := by
        cases v with
        | one u => obtain ⟨rfl, _⟩ := iv; exact ⟨R', .refl⟩
        | two u w => obtain ⟨t, y1, y2, _, hn, rfl, _⟩ := iv; exact ⟨R'.junk hn _, .junk hn _⟩
      obtain ⟨fl1, τ1, hb1, ef, eb'⟩ := bl_some eb'
      obtain ⟨env2, ebi, ef⟩ := ob_some ef
      refine ⟨ρ', hc, v, envc, env2, Hc, R', iv, re', ebi, fun τ2 re2 _ => ?_⟩
      refine ⟨ρ', env2, hc, fl1, τ1, hb1, re2, RH, ef, fun ρ3 τ3 H3 x3 R3 re3 => ?_⟩
      have X3 := (x'.trans xH).trans x3
      cases fl1 with
      | nx => exact ⟨ρ3, τ1, hb1, X3, R3, re3, eb'⟩
      | ct => exact ⟨ρ3, τ1, hb1, X3, R3, re3, eb'⟩
      | bk => cases eb'; exact (q.mono (x1.trans X3)).here R3 re3
      | rt u => cases eb'; exact (q.mono (x1.trans X3)).here R3 re3
  · exact Bool.noConfusion h
theorem ss_while {c0 : Ex} {body : Sms} (hb : SoSs T C k body) : SoS T C k (.while c0 body) := fun G X p c h => by
  unfold chS at h
  split at h
  · simp only [Bool.and_eq_true] at h
    obtain ⟨h1, h2⟩ := h
    refine imS (ps_while (by rw [c.xe]; exact PassesOwn.never) ((so_all T C k c0).tst G X _ c.c h1) (hb G X _ c h2)) fun D σ H q => ?_
    obtain ⟨ρ, env, hh, fl, env1, h4, re, R, e, q⟩ := q
    unfold exS at e
    refine ⟨fun m τ Hc => ∃ ρ' envc hc, Ext ρ H ρ' Hc ∧ Rel X.K ρ' hc Hc ∧ REnv ρ' envc τ ∧ whLoop (evE C c0) (exSs C body) m envc hc = some (fl, env1, h4), ⟨whMost, ρ, env, hh, .refl, R, re, e⟩, ?_⟩
    rintro m τ Hc ⟨ρ', envc, hc, x', R', re', e'⟩
    cases m with
    | zero => unfold whLoop at e'; cases e'
    | succ m =>
      unfold whLoop at e'
      obtain ⟨x, h5, ea, e2⟩ := bd_some e'
      clear e'
      obtain ⟨d, ed, e'⟩ := bf_some e2
      clear e2
      subst ed
      refine ⟨ρ', envc, hc, d, h5, re', R', ea, fun ρ1 H1 x1 R1 => ?_⟩
      cases d with
      | false =>
        cases e'
        exact (q.mono (x'.trans x1)).here R1 (re'.mono x1.pre)
      | true =>
        rw [if_pos rfl] at e'
        refine ⟨_, fun τ' H' w => ⟨m, Nat.lt_succ_self m, w⟩, ?_⟩
        obtain ⟨fl1, τ1, hb1, ef, eb'⟩ := bl_some e'
        refine ⟨ρ1, envc, h5, fl1, τ1, hb1, re'.mono x1.pre, R1, ef, fun ρ3 τ3 H3 x3 R3 re3 => ?_⟩
        have X3 := (x'.trans x1).trans x3
        cases fl1 with
        | nx => exact ⟨ρ3, τ1, hb1, X3, R3, re3, eb'⟩
        | ct => exact ⟨ρ3, τ1, hb1, X3, R3, re3, eb'⟩
        | bk => cases eb'; exact (q.mono X3).here R3 re3
        | rt u => cases eb'; exact (q.mono X3).here R3 re3
  · exact Bool.noConfusion h
theorem sss_nil : SoSs T C k .nil := fun G X p c h => by
  unfold chSs at h
  split at h
  · refine imSs pss_nil fun D σ H q => ?_
    obtain ⟨ρ, env, hh, fl, env1, h4, re, R, e, q⟩ := q
    unfold exSs at e
    cases e
    exact q.here R re
  · exact Bool.noConfusion h
theorem sss_cons {s : Sm} {r : Sms} (hs : SoS T C k s) (hr : SoSs T C k r) : SoSs T C k (.cons s r) := fun G X p c h => by
  unfold chSs at h
  split at h
  · rw [Bool.and_eq_true] at h
    refine imSs (pss_cons (hs G X _ c h.1) (hr G X _ c h.2)) fun D σ H q => ?_
    obtain ⟨ρ, env, hh, fl, env1, h4, re, R, e, q⟩ := q
    unfold exSs at e
    rcases bs_some e with ⟨σ1, h5, e1, e2⟩ | ⟨e1, ne⟩
    · refine ⟨ρ, env, hh, .nx, σ1, h5, re, R, e1, fun ρ1 τ1 H1 x1 R1 re1 => ?_⟩
      exact ⟨ρ1, σ1, h5, fl, env1, h4, re1, R1, e2, q.mono x1⟩
    · refine ⟨ρ, env, hh, fl, env1, h4, re, R, e1, fun ρ1 τ1 H1 x1 R1 re1 => ?_⟩
      have z := (q.mono x1).here R1 re1
      cases fl with
      | nx => exact absurd rfl ne
      | rt u => exact z
      | bk => exact z
      | ct => exact z
  · exact Bool.noConfusion h
mutual
theorem ss_all (T : Tab) (C : Calls) (k : Nat) : ∀ s : Sm, SoS T C k s
  | .pass => ss_pass
  | .ex _ => ss_ex
  | .set _ _ => ss_set
  | .par _ _ => ss_par
  | .asg _ _ => ss_asg
  | .setsub _ _ _ => ss_setsub
  | .parsub _ _ _ _ _ => ss_parsub
  | .aug _ _ _ => ss_aug
  | .ite _ a b => ss_ite (sss_all T C k a) (sss_all T C k b)
  | .for _ _ _ _ b => ss_for (sss_all T C k b)
  | .while _ b => ss_while (sss_all T C k b)
  | .ret _ => ss_ret
  | .retn => ss_retn
  | .raise => ss_raise
  | .brk => ss_brk
  | .cnt => ss_cnt
  | .mut1 m i es => fun G X p c h => ss_ex (e := .meth m (.var i) es) G X p c h
  | .mut2 m i a es => fun G X p c h => ss_ex (e := .meth m (.sub (.var i) a) es) G X p c h
  | .st1 i a e => fun G X p c h => ss_setsub (o := .var i) (i := a) (e := e) G X p c h
  | .st2 i a b e => fun G X p c h => ss_setsub (o := .sub (.var i) a) (i := b) (e := e) G X p c h
  | .sw i a j b es => fun G X p c h => ss_parsub (o := .var i) (i := a) (o' := .var j) (i' := b) (es := es) G X p c h
  | .popto i j => fun G X p c h => ss_set (i := i) (e := .meth .pop (.var j) .nil) G X p c h
  | .mv i j => fun G X p c h => ss_set (i := i) (e := .var j) G X p c h
  | .mutv i j => fun G X p c h => ss_ex (e := .meth .append (.var i) (.cons (.var j) .nil)) G X p c h
  | .spoil _ s => fun G X p c h => ss_all T C k s G X p c h
theorem sss_all (T : Tab) (C : Calls) (k : Nat) : ∀ s : Sms, SoSs T C k s
  | .nil => sss_nil
  | .cons s r => sss_cons (ss_all T C k s) (sss_all T C k r)
end
end

/-! ### defs -/
/-- a def of the table: its name, its statement, its slots; how many parameters it has -/
structure Dd where
  name : Str
  st : Stmt
  N : List Str
  ps : List Str
  d : Df
def chD (T : Tab) (D : Dd) : Bool := decide (D.d.np = D.ps.length) && decide (D.d.ns = D.N.length) && chSs T ⟨D.N, defScope D.st, defScope D.st⟩ D.d.body (defBody D.st)
/-- a def, with defaults or none -/
def FunG (K : PySem.W.Frag) (x : Str) (st : Stmt) (f : Addr) (fd : FuncData) : Prop :=
  ∃ (o1 : Value) (o2 : Option Addr) (z1 z2 z3 z4 : Value) (an : Option Addr) (cd z5 : Value) (sl : Array (Option Value)),
    fd = PySem.W.fnOf x x (defArgs st) (defBody st) (defScope st) z1 z2 z3 z4 an cd z5 ∧ K.lookup f = some ⟨o1, o2, .func fd, sl⟩ ∧ PySem.W.codeIn K cd x = true
theorem FunG.run {P : Program} {w : World} {K : PySem.W.Frag} {mg : Str → Option Value} {base : Heap} {x : Str} {st : Stmt} {f : Addr} {fd : FuncData} {N ps : List Str} {k : Nat} {sp : Sp} (F : FunG K x st f fd) (S : FnScope N ps (defScope st))
    (len : ∀ vs H Q E, sp vs H Q E → vs.length = ps.length)
    (hb : ∀ (cd : Value) (A : Around) (outer : List PySem.Env) (s : Shared) (H : Hp) (vs : List V) (Q : VK) (E : XK), A.guards = some [] → Room k (A.deeper (envOfC x (defScope st) s.heap.objs.size f cd)) → sp vs H Q E →
      ∃ t, PSs (cxOf CX0 P w K mg base N x (defScope st) f cd A outer s H E).nox (defBody st) t ∧ t { nx := fun _ H' => Q .non H', rt := Q } (L2.start N vs) H) :
    FnG P w K mg base CX0 (k + 1) f fd ps sp := by
  obtain ⟨o1, o2, z1, z2, z3, z4, an, cd, z5, sl, rfl, l, c⟩ := F
  refine fnG_of l c S len fun A outer s H vs Q E gd hr hq => ?_
  obtain ⟨t, h1, h2⟩ := hb cd A outer s H vs Q E gd hr hq
  exact ⟨t, h1.nox, h2⟩
/-- a def stands at f -/
structure At (K : PySem.W.Frag) (mg : Str → Option Value) (T : Tab) (i : Nat) (D : Dd) (f : Addr) (fd : FuncData) : Prop where
  m : mg D.name = some (.ref f)
  F : FunG K D.name D.st f fd
  kp : PySem.W.keepIn K (.ref f) = true
  b : Binds K fd D.ps []
  df : ∀ dv, (i, dv) ∈ T.dfs → dv.all noRef = true ∧ ∃ ds, Binds K fd D.ps ds ∧ Vals (dv.map vOf) ds
  kw : ∀ (sh np : Nat) (ks : List Str) (pm : List Nat), T.kws[sh]? = some (i, np, ks, pm) → ∃ g, KBn K fd D.ps np ks g (gvO pm)
structure Prg (K : PySem.W.Frag) (mg : Str → Option Value) (T : Tab) (P : Nat → Option Df) (Ds : List Dd) : Prop where
  bt : ∀ x ∈ btNames, mg x = none
  nm : ∀ (i : Nat) (x : Str), T.names[i]? = some x → ∃ D : Dd, Ds[i]? = some D ∧ D.name = x
  df : ∀ (i : Nat) (D : Dd), Ds[i]? = some D → P i = some D.d ∧ FnScope D.N D.ps (defScope D.st) ∧ chD T D = true
  none : ∀ (i : Nat), Ds[i]? = none → P i = none
  ats : ∀ (i : Nat) (D : Dd), Ds[i]? = some D → ∃ f fd, At K mg T i D f fd
theorem start_rel {ρ : List Addr} {us : List U} {vs : List V} (r : RUs ρ us vs) (n m : Nat) : REnv ρ (us.map some ++ List.replicate n none) (vs.map some ++ List.replicate n none) := by
  refine pd_append ?_ ?_
  · induction r with
    | nil => exact .nil
    | cons q _ ih => exact .cons q ih
  · have : ∀ n : Nat, Paired (RUo ρ) (List.replicate n (Option.none : Option U)) (List.replicate n (Option.none : Option V)) := by
      intro n
      induction n with
      | zero => exact .nil
      | succ n ih => exact .cons trivial ih
    exact this n
theorem callN_len {P : Nat → Option Df} {k i : Nat} {us : List U} {h : Hm} {r : U × Hm} (e : callN P k i us h = some r) : ∃ d, P i = some d ∧ us.length = d.np := by
  cases k with
  | zero => cases e
  | succ k =>
    unfold callN at e
    split at e
    · rename_i d ed
      unfold runD at e
      split at e
      · rename_i hl
        exact ⟨d, ed, hl⟩
      · cases e
    · cases e
/-- every def keeps what the evaluator says of it -/
theorem all_ok {P : Program} {w : World} {K : PySem.W.Frag} {mg : Str → Option Value} {base : Heap} {T : Tab} {Q : Nat → Option Df} {Ds : List Dd} (G : Prg K mg T Q Ds) : ∀ (k i : Nat) (D : Dd) (f : Addr) (fd : FuncData), Ds[i]? = some D → At K mg T i D f fd →
    FnG P w K mg base CX0 k f fd D.ps (spC K (callN Q k) i)
  | 0, i, D, f, fd, hD, A => by
    have no : ∀ vs H Qv E, ¬ spC K (callN Q 0) i vs H Qv E := fun vs H Qv E q => by
      obtain ⟨_, _, _, _, _, _, _, e, _⟩ := q
      cases e
    exact ⟨fun vs H Qv E q => absurd q (no vs H Qv E), fun _ _ _ _ _ _ _ _ _ _ _ _ _ _ q => absurd q (no _ _ _ _)⟩
  | k + 1, i, D, f, fd, hD, A => by
    obtain ⟨hP, hS, hC⟩ := G.df i D hD
    unfold chD at hC
    rw [Bool.and_eq_true, Bool.and_eq_true] at hC
    obtain ⟨⟨c1, c2⟩, c3⟩ := hC
    have c1 := of_decide_eq_true c1
    have c2 := of_decide_eq_true c2
    refine A.F.run hS (fun vs H Qv E q => ?_) fun cdv Ar outer s H vs Qv E gd hr q => ?_
    · obtain ⟨ρ, h, us, u, h1, R, r, e, _⟩ := q
      obtain ⟨d, e1, e2⟩ := callN_len e
      rw [hP] at e1
      cases e1
      rw [← pd_len r, e2, c1]
    · obtain ⟨ρ, h, us, u, h1, R, r, e, q⟩ := q
      unfold callN at e
      rw [hP] at e
      dsimp only at e
      unfold runD at e
      have X : CtxS T (callN Q k) k ⟨D.N, defScope D.st, defScope D.st⟩ (cxOf CX0 P w K mg base D.N D.name (defScope D.st) f cdv Ar outer s H E).nox := by
        refine ⟨⟨rfl, rfl, fun x hx => ⟨?_, .inl rfl⟩, hS.nd, rfl, hr, gd, G.bt, fun j x hj => ?_⟩, rfl, rfl, fun _ => rfl, hS.kind⟩
        · unfold tgB at hx
          split at hx
          · rename_i hl; exact .inl hl
          · rename_i hl; exact .inr hl
          · exact Bool.noConfusion hx
        · obtain ⟨D', hD', rfl⟩ := G.nm j x hj
          obtain ⟨f', fd', A'⟩ := G.ats j D' hD'
          exact ⟨f', fd', D'.ps, A'.m, A'.kp, all_ok G k j D' f' fd' hD' A', A'.b, A'.df, A'.kw⟩
      refine ⟨_, sss_all T (callN Q k) k D.d.body _ _ _ X c3, ?_⟩
      split at e
      · rename_i hl
        have rs : REnv ρ (startE D.d us) (L2.start D.N vs) := by
          unfold startE L2.start
          rw [c2, pd_len r]
          exact start_rel r _ 0
        split at e
        · rename_i v σ1 h2 ex
          cases e
          refine ⟨ρ, _, h, _, _, _, rs, R, ex, fun ρ1 τ1 H1 x1 R1 re1 => ?_⟩
          exact fun w rw => (q.mono x1).here R1 rw
        · rename_i σ1 h2 ex
          cases e
          refine ⟨ρ, _, h, _, _, _, rs, R, ex, fun ρ1 τ1 H1 x1 R1 re1 => ?_⟩
          exact (q.mono x1).here R1 rfl
        · cases e
      · cases e
end Mi

set_option maxRecDepth 100000
/-! Mi, part C: from a law's row to the evaluator. -/
namespace Mi
open PySem PySem.Spec PyProof.Rows L2
def heap0 (ns : List Int) : Hm := (⟨0, .lf⟩ : Hm).push (.ro (ns.map .int))
theorem ints_paired (ρ : List Addr) : ∀ ns : List Int, RUs ρ (ns.map U.int) (ns.map V.int)
  | [] => .nil
  | i :: r => .cons rfl (ints_paired ρ r)
theorem rel0 {K : PySem.W.Frag} {H : Hp} {a : Addr} {ns : List Int} (hO : Only H) (hS : SqL K H a (ns.map V.int)) : Rel K [a] (heap0 ns) H := by
  have g0 : (heap0 ns).get 0 = some (.ro (ns.map .int)) := Hm.get_push_self ⟨0, .lf⟩ _
  refine ⟨rfl, .nil, fun p m => (nomatch m), ⟨_, g0⟩, fun i o p e1 e2 => ?_⟩
  cases i with
  | succ i => simp at e2
  | zero =>
    rw [g0] at e1
    cases e1
    cases e2
    refine ⟨_, ints_paired _ ns, ?_⟩
    rcases hS with (q | ⟨o, q⟩) | q
    · rcases hO a with z | ⟨o, xs, z⟩
      · rw [z] at q; cases q
      · rw [z] at q; cases q
    · exact .inl ⟨o, q⟩
    · exact .inr q
theorem walk_mi {l : PySem.W.OpenLaw} {k li : Nat} {q : Program} {loose : List Str} {XP : (Str → Option Value) → Heap → Prop} {YP : World → Heap → Prop} {d : DefRec} {K : Params → PySem.W.Frag} {T : Tab} {Q : Nat → Option Df} {Ds : List Dd} {D : Dd} {x : Str}
    (hn : l.most = some 63) (hdf : d.params.defaults = []) (hr : Room k callerA)
    (hD : Ds[li]? = some D) (hps : D.ps = [x])
    (hY : ∀ (w : World) (h : Heap), YP w h → (K w.params).In h)
    (F : ∀ (w : World) (mg : Str → Option Value) (fa : Addr) (h : Heap), (K w.params).In h → h.Ns mainGlobals mg → mg d.name = some (.ref fa) →
      ∃ fd : FuncData, (∀ (s : Shared) (u : Value), BindsTo s fd ⟨[u], []⟩ [(x, u)]) ∧ Prg (K w.params) mg T Q Ds ∧ At (K w.params) mg T li D fa fd)
    (main : ∀ ns : List Int, ns.length ≤ 63 → (∀ z ∈ ns, Builtin.Int.intBits z ≤ 1048576) → ∃ h1, callN Q k li [.ref 0] (heap0 ns) = some (.bl true, h1)) :
    PySem.W.WalkO q loose XP YP l.row.toRowW d [] (fun f vs => PySem.call f vs) := by
  refine walkG (l := l) (n := 63) (k := k) (x := x) (CX := fun _ => CX0) (sp := fun w => spC (K w.params) (callN Q k) li) hn (by decide) hdf hr hY (fun w mg fa h X G hm => ?_) (fun w H a ns hl hb hO hS => ?_) (fun _ _ _ _ _ h => h)
  · obtain ⟨fd, h1, h2, h3⟩ := F w mg fa h X G hm
    refine ⟨fd, h1, fun base _ _ => ?_⟩
    have := all_ok (P := l.prog) (w := w) (base := base) h2 k li D fa fd hD h3
    rw [hps] at this
    exact this
  · obtain ⟨h1, e⟩ := main ns hl hb
    refine ⟨[a], heap0 ns, [.ref 0], .bl true, h1, rel0 hO hS, .cons ⟨a, rfl, rfl⟩ .nil, e, ?_⟩
    intro ρ' v H' _ _ r
    exact r
/-- a def as the top has left it -/
theorem at_mk {K : PySem.W.Frag} {mg : Str → Option Value} {h : Heap} {T : Tab} {i : Nat} {D : Dd} {f : Addr} {oc z1 z2 z3 z4 cd z5 : Value} {od an : Option Addr} {sl : Array (Option Value)} (X : K.In h) (G : h.Ns mainGlobals mg)
    (a : PySem.W.nsIn K mainGlobals D.name = some (some (.ref f)))
    (l : K.lookup f = some ⟨oc, od, .func (PySem.W.fnOf D.name D.name (defArgs D.st) (defBody D.st) (defScope D.st) z1 z2 z3 z4 an cd z5), sl⟩)
    (c : PySem.W.codeIn K cd D.name = true) (k : PySem.W.keepIn K (.ref f) = true)
    (b : Binds K (PySem.W.fnOf D.name D.name (defArgs D.st) (defBody D.st) (defScope D.st) z1 z2 z3 z4 an cd z5) D.ps [])
    (df : ∀ dv, (i, dv) ∈ T.dfs → dv.all noRef = true ∧ ∃ ds, Binds K (PySem.W.fnOf D.name D.name (defArgs D.st) (defBody D.st) (defScope D.st) z1 z2 z3 z4 an cd z5) D.ps ds ∧ Vals (dv.map vOf) ds)
    (kw : ∀ (sh np : Nat) (ks : List Str) (pm : List Nat), T.kws[sh]? = some (i, np, ks, pm) → ∃ g, KBn K (PySem.W.fnOf D.name D.name (defArgs D.st) (defBody D.st) (defScope D.st) z1 z2 z3 z4 an cd z5) D.ps np ks g (gvO pm)) :
    At K mg T i D f (PySem.W.fnOf D.name D.name (defArgs D.st) (defBody D.st) (defScope D.st) z1 z2 z3 z4 an cd z5) :=
  ⟨PySem.W.mg_of X G a, ⟨oc, od, z1, z2, z3, z4, an, cd, z5, sl, rfl, l, c⟩, k, b, df, kw⟩
def gO (pm : List Nat) : List Value → List Value → List Value := fun us ws => pm.map fun i => (us ++ ws).getD i .none
theorem vals_getD {vs : List V} {us : List Value} (r : Vals vs us) (i : Nat) : RelV (vs.getD i .non) (us.getD i .none) := by
  induction r generalizing i with
  | nil => exact rfl
  | cons q _ ih =>
    cases i with
    | zero => exact q
    | succ i => exact ih i
theorem kbn_mk {K : PySem.W.Frag} {fd : FuncData} {ps : List Str} {n : Nat} {ks : List Str} {pm : List Nat}
    (h : ∀ (us ws : List Value), us.length = n → ws.length = ks.length → bindArgs fd ⟨us, ks.zip ws⟩ = pure (ps.zip (gO pm us ws))) : ∃ g, KBn K fd ps n ks g (gvO pm) := by
  refine ⟨gO pm, fun s us ws _ l1 l2 => .of_eq (h us ws l1 l2), fun {vs us zs ws} r1 r2 => ?_⟩
  have : ∀ l : List Nat, Vals (l.map fun i => (vs ++ zs).getD i .non) (l.map fun i => (us ++ ws).getD i .none) := by
    intro l
    induction l with
    | nil => exact .nil
    | cons i r ih => exact .cons (vals_getD (r1.append r2) i) ih
  exact this pm
/-- defaults behind: a def with defaults called with some of them left -/
theorem dflt_mk {K : PySem.W.Frag} {x : Str} {params : Arguments} {body : List Stmt} {scope : Scope} {ps : List Str} {Ta : Addr} {o : Obj} {its : List Value} {m n : Nat} {z2 z3 z4 cd z5 : Value} {an : Option Addr} {dvs : List V} (lT : K.lookup Ta = some o) (oT : o.data = .seq its.toArray m) (rT : Vals dvs its) (j : Nat)
    (hn : n + (its.length - j) = ps.length)
    (h : ∀ us : List Value, us.length = n → ∃ k, bindArgs (PySem.W.fnOf x x params body scope (.ref Ta) z2 z3 z4 an cd z5) ⟨us, []⟩ = seqItems? (.ref Ta) >>= k ∧ k (some its.toArray) = pure (ps.zip (us ++ its.drop j))) :
    ∃ ds, Binds K (PySem.W.fnOf x x params body scope (.ref Ta) z2 z3 z4 an cd z5) ps ds ∧ Vals (dvs.drop j) ds := by
  refine ⟨its.drop j, fun s us X hlen => ?_, rT.drop j⟩
  have l2 : us.length = n := by
    rw [List.length_append, List.length_drop] at hlen
    omega
  obtain ⟨k, e1, e2⟩ := h us l2
  refine BindsTo.of_looks fun M => ?_
  rw [e1]
  exact looks_items X lT oT (.of_pure e2)
theorem binds_all_dflt {K : PySem.W.Frag} {x : Str} {params : Arguments} {body : List Stmt} {scope : Scope} {ps : List Str} {Ta : Addr} {o : Obj} {its : List Value} {m : Nat} {z2 z3 z4 cd z5 : Value} {an : Option Addr} (lT : K.lookup Ta = some o) (oT : o.data = .seq its.toArray m)
    (h : ∀ us : List Value, us.length = ps.length → ∃ k, bindArgs (PySem.W.fnOf x x params body scope (.ref Ta) z2 z3 z4 an cd z5) ⟨us, []⟩ = seqItems? (.ref Ta) >>= k ∧ k (some its.toArray) = pure (ps.zip us)) :
    Binds K (PySem.W.fnOf x x params body scope (.ref Ta) z2 z3 z4 an cd z5) ps [] := by
  refine fun s us X hlen => ?_
  rw [List.append_nil] at hlen ⊢
  obtain ⟨k, e1, e2⟩ := h us hlen
  refine BindsTo.of_looks fun M => ?_
  rw [e1]
  exact looks_items X lT oT (.of_pure e2)
end Mi
namespace Mi
open PySem PySem.Spec PyProof.Rows L2
/-! ### what a printed program needs -/
def scC' (N P : List Str) (sc : Scope) : Bool :=
  decide (sc.kind = .function) && (!sc.isCoroutine && !sc.isGenerator && (decide N.Nodup && (decide (N.take P.length = P) && (P.all (fun x => decide (sc.names.lookup x = some .local) || decide (sc.names.lookup x = some .cell)) && sc.names.all fun y => !decide (y.2 = .free)))))
theorem scC'_by {N P : List Str} {sc : Scope} (h : scC' N P sc = true) : FnScope N P sc := by
  unfold scC' at h
  simp only [Bool.and_eq_true, Bool.not_eq_true', decide_eq_true_eq, List.all_eq_true, Bool.or_eq_true, decide_eq_false_iff_not] at h
  obtain ⟨h1, ⟨h2, h3⟩, h4, h5, h6, h7⟩ := h
  exact ⟨h1, h2, h3, h4, h5, h6, h7⟩
def okD (T : Tab) (D : Dd) : Bool := scC' D.N D.ps (defScope D.st) && chD T D
def AtsFrom (K : PySem.W.Frag) (mg : Str → Option Value) (T : Tab) : Nat → List Dd → Prop
  | _, [] => True
  | n, D :: r => (∃ f fd, At K mg T n D f fd) ∧ AtsFrom K mg T (n + 1) r
theorem AtsFrom.get {K : PySem.W.Frag} {mg : Str → Option Value} {T : Tab} : ∀ {Ds : List Dd} {n : Nat}, AtsFrom K mg T n Ds → ∀ (i : Nat) (D : Dd), Ds[i]? = some D → ∃ f fd, At K mg T (n + i) D f fd
  | [], _, _, i, D, e => by simp at e
  | D' :: r, n, ⟨a, b⟩, 0, D, e => by
    simp at e
    subst e
    exact a
  | D' :: r, n, ⟨a, b⟩, i + 1, D, e => by
    have := AtsFrom.get b i D (by simpa using e)
    rwa [show n + 1 + i = n + (i + 1) by omega] at this
def OksD (T : Tab) : List Dd → Prop
  | [] => True
  | D :: r => okD T D = true ∧ OksD T r
theorem OksD.get {T : Tab} : ∀ {Ds : List Dd}, OksD T Ds → ∀ (i : Nat) (D : Dd), Ds[i]? = some D → okD T D = true
  | [], _, i, D, e => by simp at e
  | D' :: r, ⟨a, b⟩, 0, D, e => by
    simp at e
    subst e
    exact a
  | D' :: r, ⟨a, b⟩, i + 1, D, e => OksD.get b i D (by simpa using e)
abbrev qOf (Ds : List Dd) : Nat → Option Df := fun i => (Ds[i]?).map (·.d)
theorem prg_mk {K : PySem.W.Frag} {mg : Str → Option Value} {h : Heap} {T : Tab} {Ds : List Dd} (X : K.In h) (G : h.Ns mainGlobals mg) (bt : ∀ x ∈ btNames, PySem.W.nsIn K mainGlobals x = some none) (hT : T.names = Ds.map (·.name)) (ok : OksD T Ds) (ats : AtsFrom K mg T 0 Ds) : Prg K mg T (qOf Ds) Ds := by
  refine ⟨fun x hx => PySem.W.mg_none_of X G (bt x hx), fun i x e => ?_, fun i D e => ⟨?_, ?_, ?_⟩, fun i e => ?_, fun i D e => ?_⟩
  · rw [hT, List.getElem?_map] at e
    cases hd : Ds[i]? with
    | none => rw [hd] at e; cases e
    | some D => rw [hd] at e; cases e; exact ⟨D, rfl, rfl⟩
  · unfold qOf; rw [e]; rfl
  · have := ok.get i D e
    unfold okD at this
    rw [Bool.and_eq_true] at this
    exact scC'_by this.1
  · have := ok.get i D e
    unfold okD at this
    rw [Bool.and_eq_true] at this
    exact this.2
  · unfold qOf; rw [e]; rfl
  · have := ats.get i D e
    rwa [Nat.zero_add] at this
theorem bt_mk {K : PySem.W.Frag} {mg : Nat} (h : ∀ x ∈ btNames, (PySem.W.nsIn K mg x).isEqSome none = true) : ∀ x ∈ btNames, PySem.W.nsIn K mg x = some none := fun x hx => by
  have := h x hx
  cases e : PySem.W.nsIn K mg x with
  | none => rw [e] at this; cases this
  | some y => rw [e] at this; cases y with
    | none => rfl
    | some z => cases this
theorem no_df {T : Tab} {i : Nat} {P : List U → Prop} (h : (T.dfs.all fun p => !decide (p.1 = i)) = true) : ∀ dv, (i, dv) ∈ T.dfs → P dv := fun dv m => by
  rw [List.all_eq_true] at h
  have := h _ m
  simp at this
theorem no_kw {T : Tab} {i : Nat} {P : Nat → Nat → List Str → List Nat → Prop} (h : (T.kws.all fun p => !decide (p.1 = i)) = true) : ∀ (sh np : Nat) (ks : List Str) (pm : List Nat), T.kws[sh]? = some (i, np, ks, pm) → P sh np ks pm := fun sh np ks pm m => by
  rw [List.all_eq_true] at h
  have := h _ (List.mem_of_getElem? m)
  simp at this
def AllDf (i : Nat) (P : List U → Prop) : List (Nat × List U) → Prop
  | [] => True
  | q :: r => (q.1 = i → P q.2) ∧ AllDf i P r
theorem AllDf.get {i : Nat} {P : List U → Prop} : ∀ {l : List (Nat × List U)}, AllDf i P l → ∀ dv, (i, dv) ∈ l → P dv
  | q :: r, ⟨a, b⟩, dv, m => by
    rcases List.mem_cons.mp m with e | m
    · subst e; exact a rfl
    · exact b.get dv m
def AllKw (i : Nat) (P : Nat → List Str → List Nat → Prop) : List (Nat × Nat × List Str × List Nat) → Prop
  | [] => True
  | q :: r => (q.1 = i → P q.2.1 q.2.2.1 q.2.2.2) ∧ AllKw i P r
theorem AllKw.get {i : Nat} {P : Nat → List Str → List Nat → Prop} : ∀ {l : List (Nat × Nat × List Str × List Nat)}, AllKw i P l → ∀ (sh np : Nat) (ks : List Str) (pm : List Nat), l[sh]? = some (i, np, ks, pm) → P np ks pm := by
  intro l a sh np ks pm e
  have m := List.mem_of_getElem? e
  clear e
  induction l with
  | nil => cases m
  | cons q r ih =>
    rcases List.mem_cons.mp m with e | m
    · subst e; exact a.1 rfl
    · exact ih a.2 m
/-- keywords, defaults standing behind -/
theorem kbn_mkD {K : PySem.W.Frag} {x : Str} {params : Arguments} {body : List Stmt} {scope : Scope} {ps ks : List Str} {pm : List Nat} {n : Nat} {Ta : Addr} {o : Obj} {its : List Value} {m : Nat} {z2 z3 z4 cd z5 : Value} {an : Option Addr} (lT : K.lookup Ta = some o) (oT : o.data = .seq its.toArray m)
    (h : ∀ us ws : List Value, us.length = n → ws.length = ks.length → ∃ k, bindArgs (PySem.W.fnOf x x params body scope (.ref Ta) z2 z3 z4 an cd z5) ⟨us, ks.zip ws⟩ = seqItems? (.ref Ta) >>= k ∧ k (some its.toArray) = pure (ps.zip (gO pm us ws))) :
    ∃ g, KBn K (PySem.W.fnOf x x params body scope (.ref Ta) z2 z3 z4 an cd z5) ps n ks g (gvO pm) := by
  refine ⟨gO pm, fun s us ws X l1 l2 => ?_, fun {vs us zs ws} r1 r2 => ?_⟩
  · obtain ⟨k, e1, e2⟩ := h us ws l1 l2
    refine BindsTo.of_looks fun M => ?_
    rw [e1]
    exact looks_items X lT oT (.of_pure e2)
  · have : ∀ l : List Nat, Vals (l.map fun i => (vs ++ zs).getD i .non) (l.map fun i => (us ++ ws).getD i .none) := by
      intro l
      induction l with
      | nil => exact .nil
      | cons i r ih => exact .cons (vals_getD (r1.append r2) i) ih
    exact this pm
end Mi
namespace Mi
open PySem PySem.Spec PyProof.Rows L2
def AllBt (K : PySem.W.Frag) : List Str → Prop
  | [] => True
  | x :: r => PySem.W.nsIn K mainGlobals x = some none ∧ AllBt K r
theorem AllBt.get {K : PySem.W.Frag} : ∀ {l : List Str}, AllBt K l → ∀ x ∈ l, PySem.W.nsIn K mainGlobals x = some none
  | y :: r, ⟨a, b⟩, x, m => by
    rcases List.mem_cons.mp m with e | m
    · subst e; exact a
    · exact b.get x m
theorem bt_then {K : PySem.W.Frag} {h : Heap} {goal : Prop} (_ : K.In h)
    (b0 : PySem.W.nsIn K mainGlobals "len" = some none)
    (b1 : PySem.W.nsIn K mainGlobals "sum" = some none)
    (b2 : PySem.W.nsIn K mainGlobals "min" = some none)
    (b3 : PySem.W.nsIn K mainGlobals "max" = some none)
    (b4 : PySem.W.nsIn K mainGlobals "all" = some none)
    (b5 : PySem.W.nsIn K mainGlobals "any" = some none)
    (b6 : PySem.W.nsIn K mainGlobals "abs" = some none)
    (b7 : PySem.W.nsIn K mainGlobals "int" = some none)
    (b8 : PySem.W.nsIn K mainGlobals "list" = some none)
    (b9 : PySem.W.nsIn K mainGlobals "tuple" = some none)
    (b10 : PySem.W.nsIn K mainGlobals "sorted" = some none)
    (b11 : PySem.W.nsIn K mainGlobals "bool" = some none)
    (b12 : PySem.W.nsIn K mainGlobals "str" = some none)
    (b13 : PySem.W.nsIn K mainGlobals "dict" = some none)
    (b14 : PySem.W.nsIn K mainGlobals "isinstance" = some none)
    (b15 : PySem.W.nsIn K mainGlobals "range" = some none)
    (b16 : PySem.W.nsIn K mainGlobals "enumerate" = some none)
    (b17 : PySem.W.nsIn K mainGlobals "zip" = some none)
    (b18 : PySem.W.nsIn K mainGlobals "reversed" = some none)
    (b19 : PySem.W.nsIn K mainGlobals "repr" = some none)
    (r : (∀ x ∈ btNames, PySem.W.nsIn K mainGlobals x = some none) → goal) : goal :=
  r (AllBt.get (l := btNames) ⟨b0, b1, b2, b3, b4, b5, b6, b7, b8, b9, b10, b11, b12, b13, b14, b15, b16, b17, b18, b19, trivial⟩)
end Mi

set_option maxRecDepth 100000
/-! Mi, part P1: the evaluator over plain trees; who owns what. -/
namespace Mi
open PySem
/-! ### plain values -/
inductive D where
  | non | bl (b : Bool) | int (i : Int) | str (s : Str) | pur | lst (xs : List D) | tup (xs : List D)
abbrev PW := List Int
abbrev PE := List (Option D)
def scaP : D → Option U
  | .non => some .non
  | .bl b => some (.bl b)
  | .int i => some (.int i)
  | .str s => some (.str s)
  | _ => none
mutual
def hgt : D → Nat
  | .lst xs => hgts xs + 1
  | .tup xs => hgts xs + 1
  | .pur => 100
  | _ => 0
def hgts : List D → Nat
  | [] => 0
  | x :: r => max (hgt x) (hgts r)
end
mutual
def py : D → PyData
  | .non => .none
  | .bl b => .bool b
  | .int i => .int i
  | .str s => .str s
  | .pur => .none
  | .lst xs => .list (pys xs)
  | .tup xs => .tuple (pys xs)
def pys : List D → List PyData
  | [] => []
  | x :: r => py x :: pys r
end
def h00 : Hm := ⟨0, .lf⟩
def rdSD : D → Option (List D)
  | .lst xs => some xs
  | .tup xs => some xs
  | _ => none
def rdLD : D → Option (List D)
  | .lst xs => some xs
  | _ => none
def scas : List D → Option (List U)
  | [] => some []
  | d :: r => match scaP d with
    | some u => match scas r with
      | some us => some (u :: us)
      | none => none
    | none => none
def intsD : List D → Option (List Int)
  | [] => some []
  | .int i :: r => match intsD r with
    | some l => some (i :: l)
    | none => none
  | _ :: _ => none
def boolsD : List D → Option (List Bool)
  | [] => some []
  | .bl b :: r => match boolsD r with
    | some l => some (b :: l)
    | none => none
  | _ :: _ => none
def deepEq (d e : D) : Option Bool :=
  if hgt d ≤ 64 ∧ hgt e ≤ 64 ∧ (SeqAt.shaped (py d) && SeqAt.shaped (py e)) = true then some (PyData.eqv (py d) (py e)) else none
def eqD (d e : D) : Option Bool :=
  match scaP d, scaP e with
  | some u, some v => eqU h00 u v
  | _, _ => deepEq d e
def deepIn (x : D) (ys : List D) : Option Bool :=
  if hgt x ≤ 64 ∧ hgts ys < 64 ∧ (SeqAt.shaped (py x) && SeqAt.shaped (.list (pys ys))) = true then some ((pys ys).any fun z => PyData.eqv z (py x)) else none
def deepIn2 (x : D) : D → Option Bool
  | .lst ys => deepIn x ys
  | _ => none
def inD (x y : D) : Option Bool :=
  match rdSD y with
  | none => none
  | some ys => match scaP x, scas ys with
    | some u, some us => some (us.any fun z => eqF z u)
    | _, _ => deepIn2 x y
def notO : Option Bool → Option Bool
  | some b => some (!b)
  | none => none
def newLD (xs : List D) : Option D := if xs.length ≤ sizeLine then some (.lst xs) else none
def newTD (xs : List D) : Option D := if xs.length ≤ sizeLine then some (.tup xs) else none
def binD : Bop → D → D → Option D
  | .add, .int i, .int j => some (.int (i + j))
  | .add, .str i, .str j => if i.length + j.length ≤ sizeLine then some (.str (i ++ j)) else none
  | .add, .lst xs, .lst ys => newLD (xs ++ ys)
  | .add, .tup xs, .tup ys => if xs.isEmpty || ys.isEmpty then none else newTD (xs ++ ys)
  | .sub, .int i, .int j => some (.int (i - j))
  | .mul, .int i, .int j => if mulOk i j then some (.int (i * j)) else none
  | .mul, .lst xs, .int k => if repOk xs.length k then some (.lst (List.replicate k.toNat xs).flatten) else none
  | .fdiv, .int i, .int j => if divOk j then some (.int (i / j)) else none
  | .mod, .int i, .int j => if 0 < j then some (.int (i % j)) else none
  | .pow, .int i, .int j => if powOk i j then some (.int (i ^ j.toNat)) else none
  | _, _, _ => none
def isNonD : D → Bool
  | .non => true
  | _ => false
def cmpD : Cop → D → D → Option Bool
  | .eq, u, v => eqD u v
  | .ne, u, v => notO (eqD u v)
  | .lt, .int i, .int j => some (decide (i < j))
  | .le, .int i, .int j => some (decide (i ≤ j))
  | .gt, .int i, .int j => some (decide (j < i))
  | .ge, .int i, .int j => some (decide (j ≤ i))
  | .is, u, .non => some (isNonD u)
  | .isn, u, .non => some (!isNonD u)
  | .is, .bl a, .bl b => some (decide (a = b))
  | .isn, .bl a, .bl b => some (!decide (a = b))
  | .isin, u, v => inD u v
  | .nin, u, v => notO (inD u v)
  | _, _, _ => none
def isTyD (d : D) (t : Ty) : Option Bool :=
  match d, t with
  | .pur, _ => none
  | .non, _ => some false
  | .bl _, .bool => some true
  | .bl _, .int => some true
  | .bl _, _ => some false
  | .int _, .int => some true
  | .int _, _ => some false
  | .str _, .str => some true
  | .str _, _ => some false
  | .lst _, .list => some true
  | .lst _, _ => some false
  | .tup _, .tuple => some true
  | .tup _, _ => some false
def isTysD (d : D) : List Ty → Option Bool
  | [] => some false
  | t :: r => match isTyD d t with
    | some true => some true
    | some false => isTysD d r
    | none => none
def bndD (f : Bool) (u : D) : Option (Option Int) :=
  match f, u with
  | false, _ => some none
  | true, .int i => some (some i)
  | true, _ => none
def sliceD (u : D) (fl fh : Bool) (lo hi : D) : Option D :=
  match u with
  | .lst xs => match bndD fl lo with
    | none => none
    | some l => match bndD fh hi with
      | none => none
      | some r => some (.lst (cut xs l r))
  | _ => none
def biD : Bi → List D → Option D
  | .len, [.lst xs] => some (.int xs.length)
  | .len, [.tup xs] => some (.int xs.length)
  | .len, [.str z] => if z.length ≤ sizeLine then some (.int z.length) else none
  | .sum, [.lst xs] => match intsD xs with
    | none => none
    | some l => some (.int l.sum)
  | .min1, [.lst xs] => match intsD xs with
    | none => none
    | some l => if l = [] then none else some (.int (minI l))
  | .max1, [.lst xs] => match intsD xs with
    | none => none
    | some l => if l = [] then none else some (.int (maxI l))
  | .min2, [.int i, .int j] => some (.int (if j < i then j else i))
  | .max2, [.int i, .int j] => some (.int (if j > i then j else i))
  | .all, [.lst xs] => match boolsD xs with
    | none => none
    | some l => some (.bl (l.all id))
  | .any, [.lst xs] => match boolsD xs with
    | none => none
    | some l => some (.bl (l.any id))
  | .abs, [.int i] => some (.int (if i < 0 then -i else i))
  | .int, [.int i] => some (.int i)
  | .int, [.bl b] => some (.int (if b then 1 else 0))
  | .list, [.lst xs] => some (.lst xs)
  | .list, [.tup xs] => some (.lst xs)
  | .tuple, [.lst xs] => some (.tup xs)
  | .repr, [x] => if hgt x ≤ 64 ∧ (SeqAt.shaped (py x) && ((py x).showable && decide ((py x).shown.length ≤ sizeLine))) = true then some (.str (py x).shown) else none
  | .sorted, [.lst xs] => match intsD xs with
    | none => none
    | some l => some (.lst ((sortI l).map .int))
  | _, _ => none
def meD : Me → D → List D → Option D
  | .index, .lst xs, [u] => match scaP u, scas xs with
    | some v, some vs => match findI v 0 vs with
      | some i => some (.int i)
      | none => none
    | _, _ => none
  | .index, .lst xs, [u, .int k] => match scaP u, scas xs with
    | some v, some vs => if 0 ≤ k then match findI v k.toNat (vs.drop k.toNat) with
      | some i => some (.int i)
      | none => none else none
    | _, _ => none
  | .count, .lst xs, [.int k] => match intsD xs with
    | none => none
    | some l => some (.int (l.count k))
  | .bitlen, .int i, [] => some (.int (Builtin.Int.intBits i))
  | _, _, _ => none
def subD (d i : D) : Option D :=
  match rdSD d, i with
  | some xs, .int k => L2.atI xs k
  | _, _ => none
def subW (w : PW) : D → Option D
  | .int k => match L2.atI w k with
    | some z => some (.int z)
    | none => none
  | _ => none
def subP (w : PW) : D → D → Option D
  | .pur, i => subW w i
  | d, i => subD d i
def setD : D → D → D → Option D
  | .lst xs, .int k, v => match L2.ixN xs.length k with
    | some j => some (.lst (xs.set j v))
    | none => none
  | _, _, _ => none
def setW (w : PW) : D → D → Option PW
  | .int k, .int z => match L2.ixN w.length k with
    | some j => some (w.set j z)
    | none => none
  | _, _ => none
def lrD : D → Option D
  | .int j => if -(2 ^ 62) ≤ j ∧ j ≤ 16777216 then newLD ((List.range j.toNat).map fun i : Nat => .int (i : Int)) else none
  | _ => none
/-- changes of a list -/
def mutD : Me → D → List D → Option D
  | .append, .lst xs, [u] => if xs.length < sizeLine then some (.lst (xs ++ [u])) else none
  | .insert, .lst xs, [.int i, u] => if xs.length < sizeLine ∧ 0 ≤ i ∧ i < 2 ^ 63 then some (.lst (xs.take i.toNat ++ [u] ++ xs.drop i.toNat)) else none
  | .extend, .lst xs, [.lst ys] => if xs.length + ys.length ≤ sizeLine then some (.lst (xs ++ ys)) else none
  | .pop, .lst xs, [] => match xs[xs.length - 1]? with
    | some _ => some (.lst xs.dropLast)
    | none => none
  | _, _, _ => none
/-! ### what is walked -/
inductive Pv where | one (d : D) | two (d e : D)
def two : List D → List D → List Pv
  | x :: xs, y :: ys => .two x y :: two xs ys
  | _, _ => []
def enumD : Nat → List D → List Pv
  | _, [] => []
  | i, x :: xs => .two (.int i) x :: enumD (i + 1) xs
def upR : Int → Nat → List Pv
  | _, 0 => []
  | i, n + 1 => .one (.int i) :: upR (i + 1) n
def downR : Int → Nat → List Pv
  | _, 0 => []
  | i, n + 1 => .one (.int i) :: downR (i - 1) n
def itemsD : Sk → D → D → Option (List Pv)
  | .seq, .lst xs, _ => some (xs.map .one)
  | .seq, .tup xs, _ => some (xs.map .one)
  | .rng1, .int j, _ => if -(2 ^ 62) ≤ j ∧ j < 2 ^ 62 then some (upR 0 j.toNat) else none
  | .rng2, .int i, .int j => if -(2 ^ 62) ≤ i ∧ i < 2 ^ 62 ∧ -(2 ^ 62) ≤ j ∧ j < 2 ^ 62 then some (upR i (j - i).toNat) else none
  | .rngd, .int i, .int j => if -(2 ^ 62) ≤ i ∧ i < 2 ^ 62 ∧ -(2 ^ 62) ≤ j ∧ j < 2 ^ 62 then some (downR i (i - j).toNat) else none
  | .enum, .lst xs, _ => some (enumD 0 xs)
  | .zip, .lst xs, .lst ys => some (two xs ys)
  | .zip, .tup xs, .tup ys => some (two xs ys)
  | .rev, .lst xs, _ => some (xs.reverse.map .one)
  | _, _, _ => none
def bindP : Tn → D → PE → Option PE
  | .nm i, u, σ => some (σ.set i (some u))
  | .tp2 a b, u, σ => match rdSD u with
    | some [x, y] => match bindP a x σ with
      | some σ1 => bindP b y σ1
      | none => none
    | _ => none
  | .tp3 a b c, u, σ => match rdSD u with
    | some [x, y, z] => match bindP a x σ with
      | some σ1 => match bindP b y σ1 with
        | some σ2 => bindP c z σ2
        | none => none
      | none => none
    | _ => none
def bindPv (t : Tn) (v : Pv) (σ : PE) : Option PE :=
  match v with
  | .one u => bindP t u σ
  | .two u w => match t with
    | .tp2 a b => match bindP a u σ with
      | some σ1 => bindP b w σ1
      | none => none
    | _ => none
def wipeP (σ : PE) : List Nat → PE
  | [] => σ
  | i :: r => (wipeP σ r).set i none
/-! ### one behind another -/
def pb {α β : Type} (o : Option (α × PW)) (k : α → PW → Option β) : Option β :=
  match o with
  | some (x, w) => k x w
  | none => none
def pf {β : Type} (u : D) (p q : Option β) : Option β :=
  match u with
  | .bl true => p
  | .bl false => q
  | _ => none
abbrev PR := Option (D × PW)
abbrev PX := PE → PW → PR
abbrev PXs := PE → PW → Option (List D × PW)
def lcP (f : Pv → PW → Option (List D × PW)) : List Pv → PW → Option (List D × PW)
  | [], w => some ([], w)
  | v :: r, w => pb (f v w) fun ys w1 => pb (lcP f r w1) fun zs w2 => some (ys ++ zs, w2)
inductive Pl where | nx | rt (u : D) | bk | ct
abbrev PS' := Option (Pl × PE × PW)
abbrev PSt := PE → PW → PS'
def pbs (o : PS') (k : PE → PW → PS') : PS' :=
  match o with
  | some (.nx, σ, w) => k σ w
  | x => x
def pbl (o : PS') (k : PE → PW → PS') : PS' :=
  match o with
  | some (.nx, σ, w) => k σ w
  | some (.ct, σ, w) => k σ w
  | some (.bk, σ, w) => some (.nx, σ, w)
  | some (.rt u, σ, w) => some (.rt u, σ, w)
  | none => none
def forP (f : Pv → PE → PW → PS') : List Pv → PE → PW → PS'
  | [], σ, w => some (.nx, σ, w)
  | v :: r, σ, w => pbl (f v σ w) fun σ1 w1 => forP f r σ1 w1
def whP (t : PX) (f : PSt) : Nat → PE → PW → PS'
  | 0, _, _ => none
  | k + 1, σ, w => pb (t σ w) fun x w1 => pf x (pbl (f σ w1) fun σ1 w2 => whP t f k σ1 w2) (some (.nx, σ, w1))
def getP (σ : PE) (i : Nat) : Option D :=
  match σ[i]? with
  | some (some u) => some u
  | _ => none
def negD : D → Option D
  | .int i => some (.int (-i))
  | _ => none
def notD : D → Option D
  | .bl b => some (.bl (!b))
  | _ => none
def augD : Bop → D → D → Option D
  | .add, .int a, .int b => some (.int (a + b))
  | .sub, .int a, .int b => some (.int (a - b))
  | _, _, _ => none
abbrev CallsP := Nat → List D → PW → PR
/-! ### the pieces -/
def cVar (i : Nat) : PX := fun σ w => ob (getP σ i) fun d => some (d, w)
def cK (d : D) : PX := fun _ w => some (d, w)
def cBin (op : Bop) (a b : PX) : PX := fun σ w => pb (a σ w) fun x w1 => pb (b σ w1) fun y w2 => ob (binD op x y) fun d => some (d, w2)
def cNeg (a : PX) : PX := fun σ w => pb (a σ w) fun x w1 => ob (negD x) fun d => some (d, w1)
def cNot (a : PX) : PX := fun σ w => pb (a σ w) fun x w1 => ob (notD x) fun d => some (d, w1)
def cAnd (a b : PX) : PX := fun σ w => pb (a σ w) fun x w1 => pf x (b σ w1) (some (.bl false, w1))
def cOr (a b : PX) : PX := fun σ w => pb (a σ w) fun x w1 => pf x (some (.bl true, w1)) (b σ w1)
def cIte (c a b : PX) : PX := fun σ w => pb (c σ w) fun x w1 => pf x (a σ w1) (b σ w1)
def cCmp (op : Cop) (a b : PX) : PX := fun σ w => pb (a σ w) fun x w1 => pb (b σ w1) fun y w2 => ob (cmpD op x y) fun r => some (.bl r, w2)
def cChain (op op' : Cop) (a b c : PX) : PX := fun σ w => pb (a σ w) fun x w1 => pb (b σ w1) fun y w2 => ob (cmpD op x y) fun r =>
  pf (.bl r) (pb (c σ w2) fun z w3 => ob (cmpD op' y z) fun r => some (.bl r, w3)) (some (.bl false, w2))
def cList (es : PXs) : PX := fun σ w => pb (es σ w) fun us w1 => ob (newLD us) fun d => some (d, w1)
def cTup (es : PXs) : PX := fun σ w => pb (es σ w) fun us w1 => ob (newTD us) fun d => some (d, w1)
def cSub (a i : PX) : PX := fun σ w => pb (a σ w) fun x w1 => pb (i σ w1) fun y w2 => ob (subP w2 x y) fun u => some (u, w2)
def cSlice (a : PX) (fl fh : Bool) (lo hi : PX) : PX := fun σ w => pb (a σ w) fun x w1 => pb (lo σ w1) fun l w2 => pb (hi σ w2) fun r w3 => ob (sliceD x fl fh l r) fun d => some (d, w3)
def cRev (a : PX) : PX := fun σ w => pb (a σ w) fun x w1 => ob (rdLD x) fun xs => some (.lst xs.reverse, w1)
def cCall (C : CallsP) (f : Nat) (es : PXs) (dv : List D) : PX := fun σ w => pb (es σ w) fun us w1 => C f (us ++ dv) w1
def cCallk (C : CallsP) (f : Nat) (es ks : PXs) (pm : List Nat) : PX := fun σ w => pb (es σ w) fun us w1 => pb (ks σ w1) fun ws w2 => C f (pm.map fun i => (us ++ ws).getD i .non) w2
def cBi (b : Bi) (es : PXs) : PX := fun σ w => pb (es σ w) fun us w1 => ob (biD b us) fun d => some (d, w1)
def cIsi (a : PX) (t : Ty) : PX := fun σ w => pb (a σ w) fun x w1 => ob (isTyD x t) fun r => some (.bl r, w1)
def cIsi2 (a : PX) (ts : List Ty) : PX := fun σ w => pb (a σ w) fun x w1 => ob (isTysD x ts) fun r => some (.bl r, w1)
def cMeth (m : Me) (o : PX) (es : PXs) : PX := fun σ w => pb (o σ w) fun x w1 => pb (es σ w1) fun us w2 => ob (meD m x us) fun d => some (d, w2)
def cLrng (a : PX) : PX := fun σ w => pb (a σ w) fun x w1 => ob (lrD x) fun d => some (d, w1)
def turnP (own : List Nat) (tg : Tn) (σ : PE) (c : PX) (k : PE → PW → Option (List D × PW)) (v : Pv) (w : PW) : Option (List D × PW) :=
  ob (bindPv tg v (wipeP σ own)) fun σ1 => pb (c σ1 w) fun c w1 => pf c (k σ1 w1) (some ([], w1))
def eltP (e : PX) : PE → PW → Option (List D × PW) := fun σ w => pb (e σ w) fun z w1 => some ([z], w1)
def walkP (sk : Sk) (a b : PX) (σ : PE) (w : PW) : Option (List Pv × PW) := pb (a σ w) fun x w1 => pb (b σ w1) fun y w2 => ob (itemsD sk x y) fun it => some (it, w2)
def cLc (own : List Nat) (tg : Tn) (sk : Sk) (a b c e : PX) : PX := fun σ w => pb (walkP sk a b σ w) fun it w1 =>
  pb (lcP (turnP own tg σ c (eltP e)) it w1) fun zs w2 => ob (newLD zs) fun d => some (d, w2)
def cLc2 (own vs : List Nat) (tg : Tn) (sk : Sk) (a b c : PX) (tg1 : Tn) (sk1 : Sk) (a1 b1 c1 e : PX) : PX := fun σ w => pb (walkP sk a b σ w) fun it w1 =>
  pb (lcP (turnP own tg σ c fun σ1 w2 => pb (walkP sk1 a1 b1 σ1 w2) fun it1 w3 => lcP (turnP vs tg1 σ1 c1 (eltP e)) it1 w3) it w1) fun zs w2 => ob (newLD zs) fun d => some (d, w2)
def cNil : PXs := fun _ w => some ([], w)
def cCons (e : PX) (es : PXs) : PXs := fun σ w => pb (e σ w) fun u w1 => pb (es σ w1) fun us w2 => some (u :: us, w2)
/-! statements -/
def tSet (i : Nat) (e : PX) : PSt := fun σ w => pb (e σ w) fun u w1 => some (.nx, σ.set i (some u), w1)
def setAllP : List Nat → List D → PE → Option PE
  | [], [], σ => some σ
  | i :: is, u :: us, σ => setAllP is us (σ.set i (some u))
  | _, _, _ => none
def tEx (e : PX) : PSt := fun σ w => pb (e σ w) fun _ w1 => some (.nx, σ, w1)
def tPar (is : List Nat) (es : PXs) : PSt := fun σ w => pb (es σ w) fun us w1 => ob (setAllP is us σ) fun σ1 => some (.nx, σ1, w1)
def tAsg (t : Tn) (e : PX) : PSt := fun σ w => pb (e σ w) fun u w1 => ob (bindP t u σ) fun σ1 => some (.nx, σ1, w1)
def tAug (i : Nat) (op : Bop) (e : PX) : PSt := fun σ w => ob (getP σ i) fun x => pb (e σ w) fun y w1 => ob (augD op x y) fun z => some (.nx, σ.set i (some z), w1)
def tIte (c : PX) (a b : PSt) : PSt := fun σ w => pb (c σ w) fun x w1 => pf x (a σ w1) (b σ w1)
def tFor (tg : Tn) (sk : Sk) (a b : PX) (body : PSt) : PSt := fun σ w => pb (walkP sk a b σ w) fun it w1 =>
  forP (fun v σ w => ob (bindPv tg v σ) fun σ1 => body σ1 w) it σ w1
def tWhile (c : PX) (body : PSt) : PSt := fun σ w => whP c body whMost σ w
def tRet (e : PX) : PSt := fun σ w => pb (e σ w) fun u w1 => some (.rt u, σ, w1)
def tMut1 (m : Me) (i : Nat) (es : PXs) : PSt := fun σ w => pb (es σ w) fun us w1 => ob (getP σ i) fun d => ob (mutD m d us) fun d' => some (.nx, σ.set i (some d'), w1)
def tMut2 (m : Me) (i : Nat) (a : PX) (es : PXs) : PSt := fun σ w => pb (a σ w) fun y w1 => pb (es σ w1) fun us w2 => ob (getP σ i) fun d => ob (subD d y) fun c => ob (mutD m c us) fun c' => ob (setD d y c') fun d' => some (.nx, σ.set i (some d'), w2)
def st1D (σ : PE) (w : PW) (i : Nat) (y v : D) : Option (PE × PW) :=
  ob (getP σ i) fun d => match d with
    | .pur => ob (setW w y v) fun w1 => some (σ, w1)
    | d => ob (setD d y v) fun d' => some (σ.set i (some d'), w)
def tSt1 (i : Nat) (a e : PX) : PSt := fun σ w => pb (e σ w) fun v w1 => pb (a σ w1) fun y w2 => ob (st1D σ w2 i y v) fun r => some (.nx, r.1, r.2)
def tSt2 (i : Nat) (a b e : PX) : PSt := fun σ w => pb (e σ w) fun v w1 => pb (a σ w1) fun y w2 => pb (b σ w2) fun z w3 => ob (getP σ i) fun d => ob (subD d y) fun c => ob (setD c z v) fun c' => ob (setD d y c') fun d' => some (.nx, σ.set i (some d'), w3)
def tSw (i : Nat) (a : PX) (j : Nat) (b : PX) (es : PXs) : PSt := fun σ w => pb (es σ w) fun us w1 => match us with
  | [u, v] => pb (a σ w1) fun y w2 => ob (getP σ i) fun d => ob (setD d y u) fun d' => pb (b (σ.set i (some d')) w2) fun z w3 => ob (getP (σ.set i (some d')) j) fun e => ob (setD e z v) fun e' => some (.nx, (σ.set i (some d')).set j (some e'), w3)
  | _ => none
def tPopto (i j : Nat) : PSt := fun σ w => ob (getP σ j) fun d => match d with
  | .lst xs => match xs[xs.length - 1]? with
    | some y => some (.nx, (σ.set j (some (.lst xs.dropLast))).set i (some y), w)
    | none => none
  | _ => none
def tMv (i j : Nat) : PSt := fun σ w => ob (getP σ j) fun d => some (.nx, (σ.set j none).set i (some d), w)
def tMutv (i j : Nat) : PSt := fun σ w => ob (getP σ j) fun u => ob (getP (σ.set j none) i) fun d => ob (mutD .append d [u]) fun d' => some (.nx, (σ.set j none).set i (some d'), w)
/-- flat: the value is no higher than n -/
def tSetF (n i : Nat) (a : PX) : PSt := fun σ w => pb (a σ w) fun d w1 => if hgt d ≤ n then some (.nx, σ.set i (some d), w1) else none
def tRetF (n : Nat) (a : PX) : PSt := fun σ w => pb (a σ w) fun d w1 => if hgt d ≤ n then some (.rt d, σ, w1) else none
/-- all that a slot owns is spoilt: by a call, by an append to each item -/
def tSpl (n i : Nat) (c : List D → PW → PR) : PSt := fun σ w => ob (getP σ i) fun d => if hgt d ≤ n then ob (c [d] w) fun _ => some (.nx, σ.set i none, w) else none
def isShort : D → Bool
  | .lst ds => decide (ds.length < sizeLine)
  | _ => false
def appOk (n x y i : Nat) (σ : PE) (ds : List D) : Bool := decide (x = y) && (decide (x ≠ i) && (decide (x < σ.length) && (decide (hgts ds + 1 ≤ n) && ds.all isShort)))
def tApp (n x y i : Nat) : PSt := fun σ w => ob (getP σ i) fun d => match d with
  | .lst ds => if appOk n x y i σ ds = true then some (.nx, (σ.set i none).set x none, w) else none
  | _ => none
def tK (f : Pl) : PSt := fun σ w => some (f, σ, w)
def tNo : PSt := fun _ _ => none
def tNil : PSt := tK .nx
def tCons (s r : PSt) : PSt := fun σ w => pbs (s σ w) r
def dOf : U → D
  | .non => .non
  | .bl b => .bl b
  | .int i => .int i
  | .str s => .str s
  | .ref _ => .non
section
variable (C : CallsP)
mutual
def evP : Ex → PX
  | .var i => cVar i
  | .int i => cK (.int i)
  | .bl b => cK (.bl b)
  | .non => cK .non
  | .str s => cK (.str s)
  | .bin op a b => cBin op (evP a) (evP b)
  | .neg a => cNeg (evP a)
  | .not a => cNot (evP a)
  | .and a b => cAnd (evP a) (evP b)
  | .or a b => cOr (evP a) (evP b)
  | .ite c a b => cIte (evP c) (evP a) (evP b)
  | .cmp op a b => cCmp op (evP a) (evP b)
  | .chain op op' a b c => cChain op op' (evP a) (evP b) (evP c)
  | .list es => cList (evPs es)
  | .tup es => cTup (evPs es)
  | .sub a i => cSub (evP a) (evP i)
  | .slice a fl fh lo hi => cSlice (evP a) fl fh (evP lo) (evP hi)
  | .rev a => cRev (evP a)
  | .call f es dv => cCall C f (evPs es) (dv.map dOf)
  | .callk f es ks _ pm => cCallk C f (evPs es) (evPs ks) pm
  | .bi b es => cBi b (evPs es)
  | .isi a t => cIsi (evP a) t
  | .isi2 a ts => cIsi2 (evP a) ts
  | .meth m o es => cMeth m (evP o) (evPs es)
  | .lrng a => cLrng (evP a)
  | .lc own tg sk a b c e => cLc own tg sk (evP a) (evP b) (evP c) (evP e)
  | .lc2 own vs tg sk a b c tg1 sk1 a1 b1 c1 e => cLc2 own vs tg sk (evP a) (evP b) (evP c) tg1 sk1 (evP a1) (evP b1) (evP c1) (evP e)
def evPs : Exs → PXs
  | .nil => cNil
  | .cons e es => cCons (evP e) (evPs es)
end
mutual
def exP : Sm → PSt
  | .pass => tNil
  | .ex e => tEx (evP C e)
  | .set i e => tSet i (evP C e)
  | .par is es => tPar is (evPs C es)
  | .asg t e => tAsg t (evP C e)
  | .setsub _ _ _ => tNo
  | .parsub _ _ _ _ _ => tNo
  | .aug i op e => tAug i op (evP C e)
  | .ite c a b => tIte (evP C c) (exPs a) (exPs b)
  | .for tg sk a b body => tFor tg sk (evP C a) (evP C b) (exPs body)
  | .while c body => tWhile (evP C c) (exPs body)
  | .ret e => tRet (evP C e)
  | .retn => tK (.rt .non)
  | .raise => tNo
  | .brk => tK .bk
  | .cnt => tK .ct
  | .mut1 m i es => tMut1 m i (evPs C es)
  | .mut2 m i a es => tMut2 m i (evP C a) (evPs C es)
  | .st1 i a e => tSt1 i (evP C a) (evP C e)
  | .st2 i a b e => tSt2 i (evP C a) (evP C b) (evP C e)
  | .sw i a j b es => tSw i (evP C a) j (evP C b) (evPs C es)
  | .popto i j => tPopto i j
  | .mv i j => tMv i j
  | .mutv i j => tMutv i j
  | .spoil n s => match s with
    | .set i e => tSetF n i (evP C e)
    | .ret e => tRetF n (evP C e)
    | .ex (.call f (.cons (.var i) .nil) []) => tSpl n i (C f)
    | .for (.nm x) .seq (.var i) .non (.cons (.mut1 .append y (.cons (.str _) .nil)) .nil) => tApp n x y i
    | _ => tNo
def exPs : Sms → PSt
  | .nil => tNil
  | .cons s r => tCons (exP s) (exPs r)
end
end
def startP (d : Df) (us : List D) : PE := us.map some ++ List.replicate (d.ns - us.length) none
def runP (C : CallsP) (d : Df) (us : List D) (w : PW) : PR :=
  if us.length = d.np then
    match exPs C d.body (startP d us) w with
    | some (.rt u, _, w1) => some (u, w1)
    | some (.nx, _, w1) => some (.non, w1)
    | _ => none
  else none
def callP (P : Nat → Option Df) : Nat → CallsP
  | 0, _, _, _ => none
  | k + 1, f, us, w => match P f with
    | some d => runP (callP P k) d us w
    | none => none
end Mi

set_option maxRecDepth 100000
/-! Mi, part P2: kinds; how plain trees stand in the small heap. -/
namespace Mi
open PySem
/-! ### kinds and marks -/
inductive Kd where | sc | own (n : Nat) | pu
  deriving DecidableEq
abbrev Mks := List (Option Kd)
abbrev Es := List (Nat × Bool)
def mkO (m : Mks) (i : Nat) : Option Kd := match m[i]? with
  | some k => k
  | none => none
/-- k is at least k' -/
def Kd.ge : Kd → Kd → Bool
  | .sc, .sc => true
  | .sc, .own _ => true
  | .own a, .own b => decide (b ≤ a)
  | .pu, .pu => true
  | _, _ => false
def Kd.meet : Kd → Kd → Option Kd
  | .sc, .sc => some .sc
  | .sc, .own n => some (.own n)
  | .own n, .sc => some (.own n)
  | .own a, .own b => some (.own (min a b))
  | .pu, .pu => some .pu
  | _, _ => none
def escK (b : Bool) : Kd → Kd
  | .own n => .own (min n (if b then 1 else 0))
  | k => k
def escM (m : Mks) : Es → Mks
  | [] => m
  | (i, b) :: r => match mkO m i with
    | some k => escM (m.set i (some (escK b k))) r
    | none => escM m r
/-! ### standing in the heap -/
mutual
inductive Rp (Z : Nat → Prop) (h : Hm) : U → D → Prop
  | sca {u d} : scaP d = some u → Rp Z h u d
  | lst {a us ds} : Z a → h.get a = some (.lst us) → Rps Z h us ds → Rp Z h (.ref a) (.lst ds)
  | tup {a us ds} : Z a → h.get a = some (.tup us) → Rps Z h us ds → Rp Z h (.ref a) (.tup ds)
inductive Rps (Z : Nat → Prop) (h : Hm) : List U → List D → Prop
  | nil : Rps Z h [] []
  | cons {u us d ds} : Rp Z h u d → Rps Z h us ds → Rps Z h (u :: us) (d :: ds)
end
mutual
inductive Ro (Z : Nat → Prop) (h : Hm) : Nat → U → D → List Nat → Prop
  | sh {u d} : Rp Z h u d → Ro Z h 0 u d []
  | sca {n u d} : scaP d = some u → Ro Z h n u d []
  | lst {n a us ds fp} : h.get a = some (.lst us) → Ros Z h n us ds fp → Ro Z h (n + 1) (.ref a) (.lst ds) (a :: fp)
  | tup {n a us ds fp} : h.get a = some (.tup us) → Ros Z h n us ds fp → Ro Z h (n + 1) (.ref a) (.tup ds) (a :: fp)
inductive Ros (Z : Nat → Prop) (h : Hm) : Nat → List U → List D → List Nat → Prop
  | nil {n} : Ros Z h n [] [] []
  | cons {n u us d ds fp fps} : Ro Z h n u d fp → Ros Z h n us ds fps → Ros Z h n (u :: us) (d :: ds) (fp ++ fps)
end
def Rk (pp : Option Nat) (Z : Nat → Prop) (h : Hm) : Kd → U → D → List Nat → Prop
  | .sc, u, d, fp => scaP d = some u ∧ fp = []
  | .own n, u, d, fp => Ro Z h n u d fp
  | .pu, u, d, fp => d = .pur ∧ fp = [] ∧ ∃ p, pp = some p ∧ u = .ref p
abbrev Tt : Nat → Prop := fun _ => True
/-! ### plain lemmas -/
section
variable {Z Z' : Nat → Prop} {h h' : Hm}
mutual
theorem Rp.fr (hz : ∀ a, Z a → Z' a) (hg : ∀ a, Z a → h'.get a = h.get a) : ∀ {u : U} {d : D}, Rp Z h u d → Rp Z' h' u d
  | _, _, .sca e => .sca e
  | _, _, .lst z e r => .lst (hz _ z) (by rw [hg _ z]; exact e) (r.fr hz hg)
  | _, _, .tup z e r => .tup (hz _ z) (by rw [hg _ z]; exact e) (r.fr hz hg)
theorem Rps.fr (hz : ∀ a, Z a → Z' a) (hg : ∀ a, Z a → h'.get a = h.get a) : ∀ {us : List U} {ds : List D}, Rps Z h us ds → Rps Z' h' us ds
  | _, _, .nil => .nil
  | _, _, .cons r t => .cons (r.fr hz hg) (t.fr hz hg)
end
theorem Rp.mono (hz : ∀ a, Z a → Z' a) {u : U} {d : D} (r : Rp Z h u d) : Rp Z' h u d := r.fr hz fun _ _ => rfl
theorem Rps.mono (hz : ∀ a, Z a → Z' a) {us : List U} {ds : List D} (r : Rps Z h us ds) : Rps Z' h us ds := r.fr hz fun _ _ => rfl
theorem Rp.isca {u v : U} {d : D} (r : Rp Z h u d) (e : scaP d = some v) : u = v := by
  cases r with
  | sca e2 => rw [e2] at e; exact Option.some.inj e
  | lst => cases e
  | tup => cases e
mutual
theorem Ro.fr : ∀ {n : Nat} {u : U} {d : D} {fp : List Nat}, (∀ a, Z a → Z' a) → (∀ a, Z a ∨ a ∈ fp → h'.get a = h.get a) → Ro Z h n u d fp → Ro Z' h' n u d fp
  | _, _, _, _, hz, hg, .sh r => .sh (r.fr hz fun a z => hg a (.inl z))
  | _, _, _, _, hz, hg, .sca e => .sca e
  | _, _, _, _, hz, hg, .lst e r => .lst (by rw [hg _ (.inr (List.mem_cons_self ..))]; exact e) (r.fr hz fun a z => hg a (z.imp id fun m => List.mem_cons_of_mem _ m))
  | _, _, _, _, hz, hg, .tup e r => .tup (by rw [hg _ (.inr (List.mem_cons_self ..))]; exact e) (r.fr hz fun a z => hg a (z.imp id fun m => List.mem_cons_of_mem _ m))
theorem Ros.fr : ∀ {n : Nat} {us : List U} {ds : List D} {fp : List Nat}, (∀ a, Z a → Z' a) → (∀ a, Z a ∨ a ∈ fp → h'.get a = h.get a) → Ros Z h n us ds fp → Ros Z' h' n us ds fp
  | _, _, _, _, hz, hg, .nil => .nil
  | _, _, _, _, hz, hg, .cons r t => .cons (r.fr hz fun a z => hg a (z.imp id fun m => List.mem_append_left _ m)) (t.fr hz fun a z => hg a (z.imp id fun m => List.mem_append_right _ m))
end
theorem Ro.mono (hz : ∀ a, Z a → Z' a) {n : Nat} {u : U} {d : D} {fp : List Nat} (r : Ro Z h n u d fp) : Ro Z' h n u d fp := r.fr hz fun _ _ => rfl
theorem Ros.mono (hz : ∀ a, Z a → Z' a) {n : Nat} {us : List U} {ds : List D} {fp : List Nat} (r : Ros Z h n us ds fp) : Ros Z' h n us ds fp := r.fr hz fun _ _ => rfl
/- everything frozen -/
mutual
theorem Ro.rp : ∀ {n : Nat} {u : U} {d : D} {fp : List Nat}, (∀ a, Z a ∨ a ∈ fp → Z' a) → Ro Z h n u d fp → Rp Z' h u d
  | _, _, _, _, hz, .sh r => r.mono fun a z => hz a (.inl z)
  | _, _, _, _, hz, .sca e => .sca e
  | _, _, _, _, hz, .lst e r => .lst (hz _ (.inr (List.mem_cons_self ..))) e (r.rps fun a z => hz a (z.imp id fun m => List.mem_cons_of_mem _ m))
  | _, _, _, _, hz, .tup e r => .tup (hz _ (.inr (List.mem_cons_self ..))) e (r.rps fun a z => hz a (z.imp id fun m => List.mem_cons_of_mem _ m))
theorem Ros.rps : ∀ {n : Nat} {us : List U} {ds : List D} {fp : List Nat}, (∀ a, Z a ∨ a ∈ fp → Z' a) → Ros Z h n us ds fp → Rps Z' h us ds
  | _, _, _, _, hz, .nil => .nil
  | _, _, _, _, hz, .cons r t => .cons (r.rp fun a z => hz a (z.imp id fun m => List.mem_append_left _ m)) (t.rps fun a z => hz a (z.imp id fun m => List.mem_append_right _ m))
end
theorem Rps.ros : ∀ {us : List U} {ds : List D}, Rps Z h us ds → Ros Z h 0 us ds []
  | _, _, .nil => .nil
  | _, _, .cons r t => show Ros Z h 0 _ _ ([] ++ []) from .cons (.sh r) (Rps.ros t)
/- a deeper owner is a shallower one: part of what it owned is frozen -/
mutual
theorem Ro.weak : ∀ {n m : Nat} {u : U} {d : D} {fp : List Nat}, Ro Z h n u d fp → m ≤ n → fp.Nodup → ∃ fp', (∀ a ∈ fp', a ∈ fp) ∧ fp'.Nodup ∧ Ro (fun a => Z a ∨ (a ∈ fp ∧ a ∉ fp')) h m u d fp'
  | _, 0, _, _, _, r, hm, hn => ⟨[], fun _ h => (nomatch h), .nil, .sh (r.rp fun a z => z.imp id fun m => ⟨m, fun h => (nomatch h)⟩)⟩
  | 0, m + 1, _, _, _, r, hm, hn => absurd hm (by omega)
  | n + 1, m + 1, _, _, _, .sca e, hm, hn => ⟨[], fun _ h => (nomatch h), .nil, .sca e⟩
  | n + 1, m + 1, _, _, _, .lst (a := a) (fp := fp) e r, hm, hn => by
    obtain ⟨fp', h1, h2, h3⟩ := r.weak (m := m) (by omega) (List.nodup_cons.mp hn).2
    have hx := (List.nodup_cons.mp hn).1
    refine ⟨a :: fp', fun b m => ?_, List.nodup_cons.mpr ⟨fun z => hx (h1 _ z), h2⟩, .lst e (h3.mono fun b z => z.imp id fun q => ⟨List.mem_cons_of_mem _ q.1, fun y => ?_⟩)⟩
    · rcases List.mem_cons.mp m with e | m
      · exact e ▸ List.mem_cons_self ..
      · exact List.mem_cons_of_mem _ (h1 _ m)
    · rcases List.mem_cons.mp y with e | y
      · exact hx (e ▸ q.1)
      · exact q.2 y
  | n + 1, m + 1, _, _, _, .tup (a := a) (fp := fp) e r, hm, hn => by
    obtain ⟨fp', h1, h2, h3⟩ := r.weak (m := m) (by omega) (List.nodup_cons.mp hn).2
    have hx := (List.nodup_cons.mp hn).1
    refine ⟨a :: fp', fun b m => ?_, List.nodup_cons.mpr ⟨fun z => hx (h1 _ z), h2⟩, .tup e (h3.mono fun b z => z.imp id fun q => ⟨List.mem_cons_of_mem _ q.1, fun y => ?_⟩)⟩
    · rcases List.mem_cons.mp m with e | m
      · exact e ▸ List.mem_cons_self ..
      · exact List.mem_cons_of_mem _ (h1 _ m)
    · rcases List.mem_cons.mp y with e | y
      · exact hx (e ▸ q.1)
      · exact q.2 y
theorem Ros.weak : ∀ {n m : Nat} {us : List U} {ds : List D} {fp : List Nat}, Ros Z h n us ds fp → m ≤ n → fp.Nodup → ∃ fp', (∀ a ∈ fp', a ∈ fp) ∧ fp'.Nodup ∧ Ros (fun a => Z a ∨ (a ∈ fp ∧ a ∉ fp')) h m us ds fp'
  | _, _, _, _, _, .nil, hm, hn => ⟨[], fun _ h => (nomatch h), .nil, .nil⟩
  | _, _, _, _, _, .cons (fp := fp) (fps := fps) r t, hm, hn => by
    obtain ⟨n1, n2, n3⟩ := List.nodup_append.mp hn
    obtain ⟨fp', h1, h2, h3⟩ := r.weak hm n1
    obtain ⟨fps', g1, g2, g3⟩ := t.weak hm n2
    refine ⟨fp' ++ fps', fun a m => ?_, List.nodup_append.mpr ⟨h2, g2, fun a ha b hb => n3 a (h1 a ha) b (g1 b hb)⟩, .cons (h3.mono fun a z => z.imp id fun q => ⟨List.mem_append_left _ q.1, fun y => ?_⟩) (g3.mono fun a z => z.imp id fun q => ⟨List.mem_append_right _ q.1, fun y => ?_⟩)⟩
    · rcases List.mem_append.mp m with m | m
      · exact List.mem_append_left _ (h1 _ m)
      · exact List.mem_append_right _ (g1 _ m)
    · rcases List.mem_append.mp y with y | y
      · exact q.2 y
      · exact n3 a q.1 a (g1 _ y) rfl
    · rcases List.mem_append.mp y with y | y
      · exact n3 a (h1 _ y) a q.1 rfl
      · exact q.2 y
end
theorem Ro.all {n : Nat} {u : U} {d : D} {fp : List Nat} (r : Ro Z h n u d fp) : Rp Tt h u d := r.rp fun _ _ => trivial
theorem Ros.all {n : Nat} {us : List U} {ds : List D} {fp : List Nat} (r : Ros Z h n us ds fp) : Rps Tt h us ds := r.rps fun _ _ => trivial
theorem Rps.length : ∀ {us : List U} {ds : List D}, Rps Z h us ds → us.length = ds.length
  | _, _, .nil => rfl
  | _, _, .cons _ t => congrArg Nat.succ (Rps.length t)
theorem Ros.length {n : Nat} {us : List U} {ds : List D} {fp : List Nat} (r : Ros Z h n us ds fp) : us.length = ds.length := r.all.length
end
end Mi

set_option maxRecDepth 100000
/-! Mi, part P3: operations, plain and in the heap. -/
namespace Mi
open PySem
section
variable {Z : Nat → Prop} {h : Hm}
theorem rdS_p {u : U} {d : D} {ds : List D} (r : Rp Z h u d) (e : rdSD d = some ds) : ∃ us, rdS h u = some us ∧ Rps Z h us ds := by
  cases r with
  | sca e2 => cases d <;> first | (cases e2; cases e) | cases e2
  | lst z g t =>
    cases e
    exact ⟨_, by unfold rdS; dsimp only; rw [g], t⟩
  | tup z g t =>
    cases e
    exact ⟨_, by unfold rdS; dsimp only; rw [g], t⟩
theorem rdL_p {u : U} {ds : List D} (r : Rp Z h u (.lst ds)) : ∃ us, rdL h u = some us ∧ Rps Z h us ds := by
  cases r with
  | sca e2 => cases e2
  | lst z g t =>
    exact ⟨_, by unfold rdL; dsimp only; rw [g], t⟩
theorem intsD_p : ∀ {us : List U} {ds : List D} {l : List Int}, Rps Z h us ds → intsD ds = some l → intsOf us = some l
  | _, _, _, .nil, e => by cases e; rfl
  | u :: us, d :: ds, l, .cons r t, e => by
    cases d with
    | int i =>
      unfold intsD at e
      cases e2 : intsD ds with
      | none => rw [e2] at e; cases e
      | some l' =>
        rw [e2] at e; cases e
        have := r.isca (v := .int i) rfl
        subst this
        unfold intsOf
        rw [intsD_p t e2]
    | _ => cases e
theorem boolsD_p : ∀ {us : List U} {ds : List D} {l : List Bool}, Rps Z h us ds → boolsD ds = some l → boolsOf us = some l
  | _, _, _, .nil, e => by cases e; rfl
  | u :: us, d :: ds, l, .cons r t, e => by
    cases d with
    | bl i =>
      unfold boolsD at e
      cases e2 : boolsD ds with
      | none => rw [e2] at e; cases e
      | some l' =>
        rw [e2] at e; cases e
        have := r.isca (v := .bl i) rfl
        subst this
        unfold boolsOf
        rw [boolsD_p t e2]
    | _ => cases e
theorem fl_sca {u : U} {d : D} (e : scaP d = some u) : fl u = true := by
  cases d <;> first | (cases e; rfl) | cases e
theorem scas_p : ∀ {us : List U} {ds : List D} {vs : List U}, Rps Z h us ds → scas ds = some vs → us = vs ∧ us.all fl = true
  | _, _, _, .nil, e => by cases e; exact ⟨rfl, rfl⟩
  | u :: us, d :: ds, vs, .cons r t, e => by
    unfold scas at e
    cases e1 : scaP d with
    | none => rw [e1] at e; cases e
    | some v =>
      rw [e1] at e
      cases e2 : scas ds with
      | none => rw [e2] at e; cases e
      | some vs' =>
        rw [e2] at e; cases e
        obtain ⟨h1, h2⟩ := scas_p t e2
        have := r.isca e1
        subst this h1
        exact ⟨rfl, by rw [List.all_cons, fl_sca e1, h2]; rfl⟩
mutual
theorem toD_p : ∀ {u : U} {d : D} (k : Nat), Rp Z h u d → hgt d ≤ k → toD h k u = some (py d)
  | u, d, k, .sca e, hk => by
    cases d <;> first | (cases e; cases k <;> rfl) | cases e
  | _, _, 0, .lst z g t, hk => by unfold hgt at hk; omega
  | _, _, k + 1, .lst (us := us) (ds := ds) z g t, hk => by
    have := allD_p k t (by unfold hgt at hk; omega)
    unfold toD py
    rw [g]; dsimp only; rw [this]; rfl
  | _, _, 0, .tup z g t, hk => by unfold hgt at hk; omega
  | _, _, k + 1, .tup (us := us) (ds := ds) z g t, hk => by
    have := allD_p k t (by unfold hgt at hk; omega)
    unfold toD py
    rw [g]; dsimp only; rw [this]; rfl
theorem allD_p : ∀ {us : List U} {ds : List D} (k : Nat), Rps Z h us ds → hgts ds ≤ k → allD (toD h k) us = some (pys ds)
  | _, _, k, .nil, hk => rfl
  | _, _, k, .cons (d := d) (ds := ds) r t, hk => by
    unfold hgts at hk
    unfold allD pys
    rw [toD_p k r (by omega), allD_p k t (by omega)]
end
theorem eqU_fl {h h' : Hm} {u v : U} (hu : fl u = true) (hv : fl v = true) : eqU h u v = eqU h' u v := by
  have td : ∀ {w : U}, fl w = true → toD h 64 w = toD h' 64 w := fun {w} hw => by cases w <;> first | rfl | cases hw
  unfold eqU
  rw [td hu, td hv]
theorem Rp.comp {u : U} {d : D} (r : Rp Z h u d) (e : scaP d = none) : sc u v = false ∧ sc v u = false := by
  cases r with
  | sca e2 => rw [e2] at e; cases e
  | lst => cases v <;> exact ⟨rfl, rfl⟩
  | tup => cases v <;> exact ⟨rfl, rfl⟩
theorem eqU_p {Z' : Nat → Prop} {u v : U} {d e : D} {b : Bool} (r : Rp Z h u d) (q : Rp Z' h v e) (he : eqD d e = some b) : eqU h u v = some b := by
  have deep : (scaP d = none ∨ scaP e = none) → deepEq d e = some b → eqU h u v = some b := by
    intro hs he
    unfold deepEq at he
    split at he
    · rename_i hc
      cases he
      unfold eqU
      have : sc u v = false := by
        rcases hs with z | z
        · exact (r.comp z).1
        · exact (q.comp z).2
      rw [this, if_neg (by decide), toD_p 64 r hc.1, toD_p 64 q hc.2.1]
      dsimp only
      rw [hc.2.2]
      rfl
    · cases he
  unfold eqD at he
  cases e1 : scaP d with
  | none => rw [e1] at he; exact deep (.inl e1) he
  | some u' =>
    rw [e1] at he
    cases e2 : scaP e with
    | none => rw [e2] at he; exact deep (.inr e2) he
    | some v' =>
      rw [e2] at he
      have h1 := r.isca e1
      have h2 := q.isca e2
      subst h1 h2
      rw [eqU_fl (fl_sca e1) (fl_sca e2) (h' := h00)]
      exact he
theorem fl_false {u : U} {d : D} (r : Rp Z h u d) (e : scaP d = none) : fl u = false := by
  cases r with
  | sca e2 => rw [e2] at e; cases e
  | lst => rfl
  | tup => rfl
theorem fls_false : ∀ {us : List U} {ds : List D}, Rps Z h us ds → scas ds = none → us.all fl = false
  | _, _, .nil, e => by cases e
  | u :: us, d :: ds, .cons r t, e => by
    unfold scas at e
    cases e1 : scaP d with
    | none => rw [List.all_cons, fl_false r e1]; rfl
    | some v =>
      rw [e1] at e
      cases e2 : scas ds with
      | none => rw [List.all_cons, fls_false t e2, Bool.and_false]
      | some vs => rw [e2] at e; cases e
theorem inU_p {Z' : Nat → Prop} {u v : U} {d e : D} {b : Bool} (r : Rp Z h u d) (q : Rp Z' h v e) (he : inD d e = some b) : inU h u v = some b := by
  unfold inD at he
  cases e0 : rdSD e with
  | none => rw [e0] at he; cases he
  | some ys =>
    rw [e0] at he
    dsimp only at he
    obtain ⟨vs, g, t⟩ := rdS_p q e0
    have deep : (scaP d = none ∨ scas ys = none) → deepIn2 d e = some b → inU h u v = some b := by
      intro hs he
      have hf : (fl u && vs.all fl) = false := by
        rcases hs with z | z
        · rw [fl_false r z]; rfl
        · rw [fls_false t z, Bool.and_false]
      cases e with
      | lst zs =>
        cases e0
        have he : deepIn d ys = some b := he
        unfold deepIn at he
        split at he
        · rename_i hc
          cases he
          have h2 : toD h 64 v = some (.list (pys ys)) := toD_p 64 q (by unfold hgt; omega)
          unfold inU
          rw [g]
          dsimp only
          rw [hf, if_neg (by decide), toD_p 64 r hc.1, h2]
          dsimp only
          rw [hc.2.2]
          rfl
        · cases he
      | _ => cases he
    cases e1 : scaP d with
    | none => rw [e1] at he; exact deep (.inl e1) he
    | some u' =>
      rw [e1] at he
      cases e2 : scas ys with
      | none => rw [e2] at he; exact deep (.inr e2) he
      | some vs' =>
        rw [e2] at he
        cases he
        obtain ⟨h1, h2⟩ := scas_p t e2
        have h3 := r.isca e1
        subst h1 h3
        unfold inU
        rw [g]
        dsimp only
        rw [fl_sca e1, h2]
        rfl
theorem isNon_p {u : U} {d : D} (r : Rp Z h u d) : decide (u = .non) = isNonD d := by
  cases r with
  | sca e => cases d <;> first | (cases e; rfl) | cases e
  | lst => rfl
  | tup => rfl
theorem cmpU_p {Z' : Nat → Prop} {op : Cop} {u v : U} {d e : D} {b : Bool} (r : Rp Z h u d) (q : Rp Z' h v e) (he : cmpD op d e = some b) : cmpU h op u v = some b := by
  cases op with
  | eq => exact eqU_p r q he
  | ne =>
    have he : notO (eqD d e) = some b := he
    cases e1 : eqD d e with
    | none => rw [e1] at he; cases he
    | some c => rw [e1] at he; cases he; show (match eqU h u v with | some b => some (!b) | none => none) = _; rw [eqU_p r q e1]
  | isin => exact inU_p r q he
  | nin =>
    have he : notO (inD d e) = some b := he
    cases e1 : inD d e with
    | none => rw [e1] at he; cases he
    | some c => rw [e1] at he; cases he; show (match inU h u v with | some b => some (!b) | none => none) = _; rw [inU_p r q e1]
  | is =>
    cases e with
    | non =>
      cases (q.isca (v := .non) rfl)
      have : cmpU h .is u .non = some (decide (u = .non)) := by cases u <;> rfl
      rw [this, isNon_p r]
      cases d <;> exact he
    | bl c =>
      cases (q.isca (v := .bl c) rfl)
      cases d with
      | bl a => cases (r.isca (v := .bl a) rfl); exact he
      | _ => cases he
    | _ => cases d <;> cases he
  | isn =>
    cases e with
    | non =>
      cases (q.isca (v := .non) rfl)
      have : cmpU h .isn u .non = some (!decide (u = .non)) := by cases u <;> rfl
      rw [this, isNon_p r]
      cases d <;> exact he
    | bl c =>
      cases (q.isca (v := .bl c) rfl)
      cases d with
      | bl a => cases (r.isca (v := .bl a) rfl); exact he
      | _ => cases he
    | _ => cases d <;> cases he
  | _ =>
    cases d with
    | int i =>
      cases e with
      | int j =>
        cases (r.isca (v := .int i) rfl)
        cases (q.isca (v := .int j) rfl)
        exact he
      | _ => cases he
    | _ => cases he
theorem isTy_p {u : U} {d : D} {t : Ty} {b : Bool} (r : Rp Z h u d) (he : isTyD d t = some b) : isTy h u t = some b := by
  cases r with
  | sca e => cases d <;> first | (cases e; cases t <;> exact he) | cases e
  | lst z g _ =>
    unfold isTy
    dsimp only
    rw [g]; cases t <;> exact he
  | tup z g _ =>
    unfold isTy
    dsimp only
    rw [g]; cases t <;> exact he
theorem isTys_p {u : U} {d : D} (r : Rp Z h u d) : ∀ {ts : List Ty} {b : Bool}, isTysD d ts = some b → isTys h u ts = some b
  | [], b, he => he
  | t :: ts, b, he => by
    unfold isTysD at he
    unfold isTys
    cases e1 : isTyD d t with
    | none => rw [e1] at he; cases he
    | some c =>
      rw [isTy_p r e1]
      rw [e1] at he
      cases c with
      | true => exact he
      | false => exact isTys_p r he
theorem getO {α : Type} {R : α → Prop} {xs : List α} {j : Nat} {x : α} (h : ∀ x ∈ xs, R x) (e : xs[j]? = some x) : R x := h x (List.mem_of_getElem? e)
theorem Rps.get : ∀ {us : List U} {ds : List D} {j : Nat} {d : D}, Rps Z h us ds → ds[j]? = some d → ∃ u, us[j]? = some u ∧ Rp Z h u d
  | _, _, _, _, .nil, e => by simp at e
  | _, _, 0, d, .cons r t, e => by simp at e; subst e; exact ⟨_, rfl, r⟩
  | _, _, j + 1, d, .cons r t, e => by
    obtain ⟨u, h1, h2⟩ := t.get (j := j) (by simpa using e)
    exact ⟨u, by simpa using h1, h2⟩
end
end Mi

set_option maxRecDepth 100000
/-! Mi, part P4: the check of terms; what stands where. -/
namespace Mi
open PySem
/-! ### the check of terms -/
def np : Option (Kd × Es) → Option (Kd × Es)
  | some (.pu, _) => none
  | x => x
def chkC (r : Option (Kd × Es)) (a : Ex) (m : Mks) : Option (Nat × Es) :=
  match a with
  | .var i => match mkO m i with
    | some (.own n) => some (0, if n = 0 then [] else [(i, true)])
    | _ => none
  | _ => match r with
    | some (.own n, E) => some (n - 1, E)
    | _ => none
def isPu (a : Ex) (m : Mks) : Bool :=
  match a with
  | .var i => decide (mkO m i = some .pu)
  | _ => false
def lvl : Kd → Option Nat
  | .sc => some 9
  | .own n => some n
  | .pu => none
def lvls : List Kd → Option Nat
  | [] => some 9
  | k :: r => match lvl k with
    | some a => match lvls r with
      | some b => some (min a b)
      | none => none
    | none => none
def biB : Bi → Bool
  | .list => false
  | .tuple => false
  | .sorted => false
  | _ => true
def meB : Me → Bool
  | .index => true
  | .count => true
  | .bitlen => true
  | _ => false
def chkW (sk : Sk) (ra rb : Option (Kd × Es)) (a b : Ex) (m : Mks) : Option Es :=
  match sk with
  | .zip => match chkC ra a m, chkC rb b m with
    | some (_, E1), some (_, E2) => if ra.isSome && rb.isSome then some (E1 ++ E2) else none
    | _, _ => none
  | .rng1 => if (np ra).isSome && (np rb).isSome then some [] else none
  | .rng2 => if (np ra).isSome && (np rb).isSome then some [] else none
  | .rngd => if (np ra).isSome && (np rb).isSome then some [] else none
  | _ => match chkC ra a m with
    | some (_, E1) => if ra.isSome && (np rb).isSome then some E1 else none
    | none => none
def wipeM (m : Mks) : List Nat → Mks
  | [] => m
  | i :: r => (wipeM m r).set i none
def bindM : Tn → Mks → Mks
  | .nm i, m => m.set i (some (.own 0))
  | .tp2 a b, m => bindM b (bindM a m)
  | .tp3 a b c, m => bindM c (bindM b (bindM a m))
def notIn (own : List Nat) (E : Es) : Es := E.filter fun q => !decide (q.1 ∈ own)
abbrev RR := Option (Kd × Es)
abbrev RRs := Option (List Kd × Es)
def kVar (i : Nat) (m : Mks) : RR := match mkO m i with
  | some .sc => some (.sc, [])
  | some (.own n) => some (.own 0, if n = 0 then [] else [(i, false)])
  | some .pu => some (.pu, [])
  | none => none
def kBin (op : Bop) (a b : Ex) (m : Mks) (ra rb : RR) : RR := match ra, rb with
  | some (ka, Ea), some (kb, Eb) => match op with
    | .add => if ka = .sc ∨ kb = .sc then some (.sc, []) else match chkC (some (ka, Ea)) a m, chkC (some (kb, Eb)) b m with
      | some (n1, E1), some (n2, E2) => some (.own (min n1 n2 + 1), E1 ++ E2)
      | _, _ => none
    | .mul => if ka = .sc then some (.sc, []) else match chkC (some (ka, Ea)) a m with
      | some (_, E1) => some (.own 1, E1)
      | none => none
    | _ => some (.sc, [])
  | _, _ => none
def kS1 (ra : RR) : RR := match ra with
  | some _ => some (.sc, [])
  | none => none
def kS2 (ra rb : RR) : RR := match ra, rb with
  | some _, some _ => some (.sc, [])
  | _, _ => none
def kS3 (ra rb rc : RR) : RR := match ra, rb, rc with
  | some _, some _, some _ => some (.sc, [])
  | _, _, _ => none
def kAnd (ra rb : RR) : RR := match ra with
  | some _ => rb
  | none => none
def kIte (rc ra rb : RR) : RR := match rc, ra, rb with
  | some _, some (ka, Ea), some (kb, Eb) => match ka.meet kb with
    | some k => some (k, Ea ++ Eb)
    | none => none
  | _, _, _ => none
def kNew (rs : RRs) : RR := match rs with
  | some (ks, E) => match lvls ks with
    | some n => some (.own (n + 1), E)
    | none => none
  | none => none
def kSub (a : Ex) (m : Mks) (ra ri : RR) : RR := match ri with
  | some _ => if isPu a m then some (.sc, []) else match ra with
    | some r => match chkC (some r) a m with
      | some (n, E) => some (.own n, E)
      | none => none
    | none => none
  | none => none
def kCon (a : Ex) (m : Mks) (ra : RR) : RR := match ra with
  | some r => match chkC (some r) a m with
    | some (n, E) => some (.own (n + 1), E)
    | none => none
  | none => none
def kSlice (a : Ex) (m : Mks) (ra rl rh : RR) : RR := match rl, rh with
  | some _, some _ => kCon a m ra
  | _, _ => none
def kRet (k : Kd) (E : Es) : RR := match k with
  | .sc => some (.sc, [])
  | .own n => some (.own n, E)
  | .pu => none
/-- what a def gives, which of its parameters is a purse -/
structure Sg where
  ret : Kd
  pus : List Bool
def isP (k : Kd) : Bool := decide (k = .pu)
def kCall (g : Sg) (dv : List U) (rs : RRs) : RR := match rs with
  | some (ks, E) => if dv.all noRef && decide (g.pus = ks.map isP ++ dv.map fun _ => false) then kRet g.ret E else none
  | none => none
def kCallk (g : Sg) (pm : List Nat) (rs rs' : RRs) : RR := match rs, rs' with
  | some (ks, E), some (ks', E') => if decide (g.pus = pm.map fun i => (ks.map isP ++ ks'.map isP).getD i false) then kRet g.ret (E ++ E') else none
  | _, _ => none
def kBi1 (m : Mks) (E : Es) : Exs → List Kd → RR
  | .cons e .nil, [k] => kCon e m (some (k, E))
  | _, _ => none
def isSo : Bi → Bool
  | .sorted => true
  | _ => false
def kBi (b : Bi) (es : Exs) (m : Mks) (rs : RRs) : RR := match rs with
  | some (ks, E) => match lvls ks with
    | some _ => if biB b then some (.sc, []) else if isSo b then some (.own 9, []) else kBi1 m E es ks
    | none => none
  | none => none
def kMeth (me : Me) (ro : RR) (rs : RRs) : RR := match ro, rs with
  | some _, some (ks, _) => match lvls ks with
    | some _ => if meB me then some (.sc, []) else none
    | none => none
  | _, _ => none
def kRng (ra : RR) : RR := match ra with
  | some _ => some (.own 9, [])
  | none => none
def kLc (own : List Nat) (E1 : Es) (rc re : RR) : RR := match rc, re with
  | some _, some (.sc, Ee) => some (.own 9, E1 ++ notIn own Ee)
  | some _, some (.own n, Ee) => some (.own (n + 1), E1 ++ notIn own Ee)
  | _, _ => none
def inM (m : Mks) (E1 : Es) (own : List Nat) (tg : Tn) : Mks := bindM tg (wipeM (escM m E1) own)
def kLcW (own : List Nat) (tg : Tn) (w : Option Es) (k : Es → RR) : RR := if tgIn own tg then match w with
  | some E1 => k E1
  | none => none else none
/-- inner part of a double comprehension: only the element counts -/
def kIn (rc : RR) (r : RR) : RR := match rc with
  | some _ => r
  | none => none
def kOut (own : List Nat) (E1 : Es) (r : RR) : RR := match r with
  | some (.own n, E) => some (.own n, E1 ++ notIn own E)
  | _ => none
mutual
def chkE (rk : Nat → Sg) : Ex → Mks → RR
  | .var i, m => kVar i m
  | .int _, _ => some (.sc, [])
  | .bl _, _ => some (.sc, [])
  | .non, _ => some (.sc, [])
  | .str _, _ => some (.sc, [])
  | .bin op a b, m => kBin op a b m (np (chkE rk a m)) (np (chkE rk b m))
  | .neg a, m => kS1 (np (chkE rk a m))
  | .not a, m => kS1 (np (chkE rk a m))
  | .and a b, m => kAnd (np (chkE rk a m)) (np (chkE rk b m))
  | .or a b, m => kAnd (np (chkE rk a m)) (np (chkE rk b m))
  | .ite c a b, m => kIte (np (chkE rk c m)) (np (chkE rk a m)) (np (chkE rk b m))
  | .cmp _ a b, m => kS2 (np (chkE rk a m)) (np (chkE rk b m))
  | .chain _ _ a b c, m => kS3 (np (chkE rk a m)) (np (chkE rk b m)) (np (chkE rk c m))
  | .list es, m => kNew (chkEs rk es m)
  | .tup es, m => kNew (chkEs rk es m)
  | .sub a i, m => kSub a m (np (chkE rk a m)) (np (chkE rk i m))
  | .slice a _ _ lo hi, m => kSlice a m (np (chkE rk a m)) (np (chkE rk lo m)) (np (chkE rk hi m))
  | .rev a, m => kCon a m (np (chkE rk a m))
  | .call f es dv, m => kCall (rk f) dv (chkEs rk es m)
  | .callk f es ks _ pm, m => kCallk (rk f) pm (chkEs rk es m) (chkEs rk ks m)
  | .bi b es, m => kBi b es m (chkEs rk es m)
  | .isi a _, m => kS1 (np (chkE rk a m))
  | .isi2 a _, m => kS1 (np (chkE rk a m))
  | .meth me o es, m => kMeth me (np (chkE rk o m)) (chkEs rk es m)
  | .lrng a, m => kRng (np (chkE rk a m))
  | .lc own tg sk a b c e, m => kLcW own tg (chkW sk (chkE rk a m) (chkE rk b m) a b m) fun E1 => kLc own E1 (np (chkE rk c (inM m E1 own tg))) (np (chkE rk e (inM m E1 own tg)))
  | .lc2 own vs tg sk a b c tg1 sk1 a1 b1 c1 e, m => kLcW own tg (chkW sk (chkE rk a m) (chkE rk b m) a b m) fun E1 => kOut own E1 (kIn (np (chkE rk c (inM m E1 own tg)))
      (kLcW vs tg1 (chkW sk1 (chkE rk a1 (inM m E1 own tg)) (chkE rk b1 (inM m E1 own tg)) a1 b1 (inM m E1 own tg)) fun E2 => kLc vs E2 (np (chkE rk c1 (inM (inM m E1 own tg) E2 vs tg1))) (np (chkE rk e (inM (inM m E1 own tg) E2 vs tg1)))))
def chkEs (rk : Nat → Sg) : Exs → Mks → RRs
  | .nil, _ => some ([], [])
  | .cons e es, m => match chkE rk e m, chkEs rk es m with
    | some (k, E), some (ks, E') => some (k :: ks, E ++ E')
    | _, _ => none
end
/-! ### what stands where -/
def PWok (pp : Option Nat) (w : PW) (h : Hm) : Prop := ∀ p, pp = some p → h.get p = some (.lst (w.map .int))
def Fr (pp : Option Nat) (h h' : Hm) : Prop := h.n ≤ h'.n ∧ ∀ a, a < h.n → some a ≠ pp → h'.get a = h.get a
structure PI (pp : Option Nat) (n0 : Nat) (Z0 Z : Nat → Prop) (m : Mks) (F : Nat → List Nat) (h : Hm) (σh : Env) (σp : PE) (w : PW) : Prop where
  sl : ∀ i k, mkO m i = some k → ∀ d, getP σp i = some d → ∃ u, getE σh i = some u ∧ Rk pp Z h k u d (F i)
  nd : ∀ i, (F i).Nodup
  dj : ∀ i j a, a ∈ F i → a ∈ F j → i = j
  fa : ∀ i a, a ∈ F i → ¬ Z a ∧ n0 ≤ a ∧ a < h.n ∧ some a ≠ pp
  za : ∀ a, Z a → (Z0 a ∨ n0 ≤ a) ∧ a < h.n ∧ some a ≠ pp
  pw : PWok pp w h
  ln : σh.length = σp.length
  nh : n0 ≤ h.n
def EscZ (Z : Nat → Prop) (F : Nat → List Nat) (σh : Env) (E : Es) (a : Nat) : Prop := Z a ∨ ∃ q ∈ E, a ∈ F q.1 ∧ (q.2 = true → getE σh q.1 ≠ some (.ref a))
def Lim (pp : Option Nat) (B : Nat → Prop) (h h' : Hm) (Zr : Nat → Prop) (fp : List Nat) : Prop :=
  (∀ a, Zr a → (B a ∨ h.n ≤ a) ∧ a < h'.n ∧ some a ≠ pp) ∧ (∀ a ∈ fp, h.n ≤ a ∧ a < h'.n ∧ ¬ Zr a ∧ some a ≠ pp) ∧ fp.Nodup
def RE (pp : Option Nat) (B : Nat → Prop) (h : Hm) (k : Kd) (d : D) (w' : PW) (o : Res) : Prop :=
  ∃ u h' Zr fp, o = some (u, h') ∧ Fr pp h h' ∧ PWok pp w' h' ∧ Rk pp Zr h' k u d fp ∧ Lim pp B h h' Zr fp
def Bd (pp : Option Nat) (h : Hm) : Nat → Prop := fun a => a < h.n ∧ some a ≠ pp
/-- read only -/
def WRE (pp : Option Nat) (h : Hm) (d : D) (w' : PW) (o : Res) : Prop :=
  ∃ u h', o = some (u, h') ∧ Fr pp h h' ∧ PWok pp w' h' ∧ Rp (Bd pp h') h' u d
section
variable {pp : Option Nat} {n0 : Nat} {Z0 Z Z' : Nat → Prop} {m : Mks} {F : Nat → List Nat} {h h1 h2 h' : Hm} {σh : Env} {σp : PE} {w w1 w2 : PW}
theorem Fr.refl : Fr pp h h := ⟨Nat.le_refl _, fun _ _ _ => rfl⟩
theorem Fr.trans (a : Fr pp h h1) (b : Fr pp h1 h2) : Fr pp h h2 := ⟨Nat.le_trans a.1 b.1, fun x hx hp => (b.2 x (Nat.lt_of_lt_of_le hx a.1) hp).trans (a.2 x hx hp)⟩
theorem Fr.push (o : Ob) : Fr pp h (h.push o) := ⟨Nat.le_succ _, fun a ha _ => Hm.get_push_lt ha⟩
theorem PWok.lt {p : Nat} (q : PWok pp w h) (e : pp = some p) : p < h.n := Hm.get_lt (q p e)
theorem PWok.ne (q : PWok pp w h) {a : Nat} (ha : h.n ≤ a) : some a ≠ pp := fun e => by have := q.lt e.symm; omega
theorem PWok.push (q : PWok pp w h) (o : Ob) : PWok pp w (h.push o) := fun p e => by rw [Hm.get_push_lt (q.lt e)]; exact q p e
theorem Bd.fr (f : Fr pp h h') {a : Nat} (b : Bd pp h a) : Bd pp h' a := ⟨Nat.lt_of_lt_of_le b.1 f.1, b.2⟩
theorem Rp.up {u : U} {d : D} (f : Fr pp h h') (r : Rp (Bd pp h) h u d) : Rp (Bd pp h') h' u d := r.fr (fun _ b => b.fr f) fun a b => f.2 a b.1 b.2
theorem Rps.up {us : List U} {ds : List D} (f : Fr pp h h') (r : Rps (Bd pp h) h us ds) : Rps (Bd pp h') h' us ds := r.fr (fun _ b => b.fr f) fun a b => f.2 a b.1 b.2
theorem PI.fr (I : PI pp n0 Z0 Z m F h σh σp w) (f : Fr pp h h1) (q : PWok pp w1 h1) : PI pp n0 Z0 Z m F h1 σh σp w1 := by
  refine ⟨fun i k hk d hd => ?_, I.nd, I.dj, fun i a ha => ?_, fun a ha => ?_, q, I.ln, Nat.le_trans I.nh f.1⟩
  · obtain ⟨u, e, r⟩ := I.sl i k hk d hd
    refine ⟨u, e, ?_⟩
    cases k with
    | sc => exact r
    | pu => exact r
    | own n =>
      have r : Ro Z h n u d (F i) := r
      refine r.fr (fun _ z => z) fun a z => ?_
      rcases z with z | z
      · exact f.2 a (I.za a z).2.1 (I.za a z).2.2
      · exact f.2 a (I.fa i a z).2.2.1 (I.fa i a z).2.2.2
  · obtain ⟨a1, a2, a3, a4⟩ := I.fa i a ha
    exact ⟨a1, a2, Nat.lt_of_lt_of_le a3 f.1, a4⟩
  · obtain ⟨a1, a2, a3⟩ := I.za a ha
    exact ⟨a1, Nat.lt_of_lt_of_le a2 f.1, a3⟩
theorem Rk.up {k : Kd} {u : U} {d : D} {fp : List Nat} {Zr B : Nat → Prop} (f : Fr pp h1 h2) (l : Lim pp B h h1 Zr fp) (r : Rk pp Zr h1 k u d fp) : Rk pp Zr h2 k u d fp := by
  cases k with
  | sc => exact r
  | pu => exact r
  | own n =>
    have r : Ro Zr h1 n u d fp := r
    refine r.fr (fun _ z => z) fun a z => ?_
    rcases z with z | z
    · exact f.2 a (l.1 a z).2.1 (l.1 a z).2.2
    · exact f.2 a (l.2.1 a z).2.1 (l.2.1 a z).2.2.2
theorem Lim.up {B : Nat → Prop} {Zr : Nat → Prop} {fp : List Nat} (f : Fr pp h1 h2) (l : Lim pp B h h1 Zr fp) : Lim pp B h h2 Zr fp :=
  ⟨fun a z => ⟨(l.1 a z).1, Nat.lt_of_lt_of_le (l.1 a z).2.1 f.1, (l.1 a z).2.2⟩, fun a m => ⟨(l.2.1 a m).1, Nat.lt_of_lt_of_le (l.2.1 a m).2.1 f.1, (l.2.1 a m).2.2⟩, l.2.2⟩
/-- what is reached later, seen from before -/
theorem Lim.dn {B : Nat → Prop} {Zr : Nat → Prop} {fp : List Nat} (f : Fr pp h h1) (l : Lim pp B h1 h2 Zr fp) : Lim pp B h h2 Zr fp :=
  ⟨fun a z => ⟨(l.1 a z).1.imp id fun q => Nat.le_trans f.1 q, (l.1 a z).2⟩, fun a m => ⟨Nat.le_trans f.1 (l.2.1 a m).1, (l.2.1 a m).2⟩, l.2.2⟩
theorem Lim.wider {B B' : Nat → Prop} {Zr : Nat → Prop} {fp : List Nat} (hb : ∀ a, B a → B' a) (l : Lim pp B h h1 Zr fp) : Lim pp B' h h1 Zr fp :=
  ⟨fun a z => ⟨(l.1 a z).1.imp (hb a) id, (l.1 a z).2⟩, l.2⟩
theorem Rk.rp {k : Kd} {u : U} {d : D} {fp : List Nat} {Zr B : Nat → Prop} (l : Lim pp B h h1 Zr fp) (r : Rk pp Zr h1 k u d fp) (hk : k ≠ .pu) : Rp (Bd pp h1) h1 u d := by
  cases k with
  | sc => exact .sca r.1
  | pu => exact absurd rfl hk
  | own n =>
    have r : Ro Zr h1 n u d fp := r
    refine r.rp fun a z => ?_
    rcases z with z | z
    · exact (l.1 a z).2
    · exact ⟨(l.2.1 a z).2.1, (l.2.1 a z).2.2.2⟩
theorem np_some {r : Option (Kd × Es)} {k : Kd} {E : Es} (e : np r = some (k, E)) : r = some (k, E) ∧ k ≠ .pu := by
  unfold np at e
  split at e
  · cases e
  · rename_i x hx
    subst e
    refine ⟨rfl, fun z => ?_⟩
    subst z
    exact hx E rfl
theorem np_some' {r : Option (Kd × Es)} {q : Kd × Es} (e : np r = some q) : r = some q ∧ q.1 ≠ .pu := np_some (k := q.1) (E := q.2) e
theorem lim_sc {B : Nat → Prop} : Lim pp B h h1 (fun _ => False) [] := ⟨fun _ z => z.elim, fun _ z => (nomatch z), .nil⟩
theorem RE.sc {B : Nat → Prop} {u : U} {d : D} {o : Res} (e : o = some (u, h1)) (f : Fr pp h h1) (q : PWok pp w1 h1) (r : scaP d = some u) : RE pp B h .sc d w1 o :=
  ⟨u, h1, fun _ => False, [], e, f, q, ⟨r, rfl⟩, lim_sc⟩
end
end Mi

set_option maxRecDepth 100000
/-! Mi, part P5: what is frozen, what is set; lists that are owned. -/
namespace Mi
open PySem
theorem mk_set {m : Mks} {i j : Nat} {k : Option Kd} {q : Kd} (e : mkO (m.set i k) j = some q) : (j = i ∧ k = some q) ∨ (j ≠ i ∧ mkO m j = some q) := by
  unfold mkO at e ⊢
  rw [List.getElem?_set] at e
  by_cases h : i = j
  · rw [if_pos h] at e
    by_cases h2 : i < m.length
    · rw [if_pos h2] at e
      exact .inl ⟨h.symm, e⟩
    · rw [if_neg h2] at e
      cases e
  · rw [if_neg h] at e
    exact .inr ⟨fun z => h z.symm, e⟩
theorem getP_set {σ : PE} {i j : Nat} {k : Option D} {q : D} (e : getP (σ.set i k) j = some q) : (j = i ∧ i < σ.length ∧ k = some q) ∨ (j ≠ i ∧ getP σ j = some q) := by
  unfold getP at e ⊢
  rw [List.getElem?_set] at e
  by_cases h : i = j
  · rw [if_pos h] at e
    by_cases h2 : i < σ.length
    · rw [if_pos h2] at e
      refine .inl ⟨h.symm, h2, ?_⟩
      cases k with
      | none => cases e
      | some d => exact e
    · rw [if_neg h2] at e
      cases e
  · rw [if_neg h] at e
    exact .inr ⟨fun z => h z.symm, e⟩
theorem getE_set_ne {σ : Env} {i j : Nat} {k : Option U} (h : j ≠ i) : getE (σ.set i k) j = getE σ j := by
  unfold getE
  rw [List.getElem?_set, if_neg (fun z => h z.symm)]
theorem getE_set_eq {σ : Env} {i : Nat} {u : U} (h : i < σ.length) : getE (σ.set i (some u)) i = some u := by
  unfold getE
  rw [List.getElem?_set, if_pos rfl, if_pos h]
section
variable {pp : Option Nat} {n0 : Nat} {Z0 Z Z' : Nat → Prop} {m : Mks} {F : Nat → List Nat} {h h1 h2 h' : Hm} {σh : Env} {σp : PE} {w w1 w2 : PW}
theorem EscZ.nil {a : Nat} (e : EscZ Z F σh [] a) : Z a := by
  rcases e with e | ⟨q, hq, _⟩
  · exact e
  · exact (nomatch hq)
theorem EscZ.sub {E E' : Es} (hs : ∀ q ∈ E, q ∈ E') {a : Nat} (e : EscZ Z F σh E a) : EscZ Z F σh E' a := e.imp id fun ⟨q, hq, r⟩ => ⟨q, hs q hq, r⟩
theorem EscZ.l {E E' : Es} {a : Nat} (e : EscZ Z F σh E a) : EscZ Z F σh (E ++ E') a := e.sub fun q hq => List.mem_append_left _ hq
theorem EscZ.r {E E' : Es} {a : Nat} (e : EscZ Z F σh E' a) : EscZ Z F σh (E ++ E') a := e.sub fun q hq => List.mem_append_right _ hq
theorem PI.esz (I : PI pp n0 Z0 Z m F h σh σp w) {E : Es} {a : Nat} (e : EscZ Z F σh E a) : (Z0 a ∨ n0 ≤ a) ∧ a < h.n ∧ some a ≠ pp := by
  rcases e with e | ⟨q, _, e, _⟩
  · exact I.za a e
  · obtain ⟨_, a2, a3, a4⟩ := I.fa _ a e
    exact ⟨.inr a2, a3, a4⟩
/-- a wider frozen part -/
theorem PI.widen (I : PI pp n0 Z0 Z m F h σh σp w) (hz : ∀ a, Z a → Z' a) (hf : ∀ i a, a ∈ F i → ¬ Z' a) (ha : ∀ a, Z' a → (Z0 a ∨ n0 ≤ a) ∧ a < h.n ∧ some a ≠ pp) : PI pp n0 Z0 Z' m F h σh σp w := by
  refine ⟨fun i k hk d hd => ?_, I.nd, I.dj, fun i a q => ⟨hf i a q, (I.fa i a q).2⟩, ha, I.pw, I.ln, I.nh⟩
  obtain ⟨u, e, r⟩ := I.sl i k hk d hd
  refine ⟨u, e, ?_⟩
  cases k with
  | sc => exact r
  | pu => exact r
  | own n => exact (show Ro Z h n u d (F i) from r).mono hz
theorem Ro.cut1 {n : Nat} {u : U} {d : D} {fp : List Nat} (hn : fp.Nodup) (r : Ro Z h n u d fp) : Ro (fun a => Z a ∨ (a ∈ fp ∧ u ≠ .ref a)) h (min n 1) u d (fp.filter fun a => decide (u = .ref a)) := by
  cases r with
  | sh r => rw [Nat.zero_min]; exact .sh (r.mono fun a z => .inl z)
  | sca e => exact .sca e
  | lst e t =>
    rename_i n a us ds fp
    have hx := (List.nodup_cons.mp hn).1
    have : (a :: fp).filter (fun b => decide (U.ref a = .ref b)) = [a] := by
      rw [List.filter_cons, if_pos (decide_eq_true rfl), List.filter_eq_nil_iff.mpr]
      intro b hb z
      cases (of_decide_eq_true z)
      exact hx hb
    rw [this, show min (n + 1) 1 = 1 by omega]
    refine .lst e (t.rps fun b z => z.imp id fun q => ⟨List.mem_cons_of_mem _ q, fun z => ?_⟩).ros
    cases z
    exact hx q
  | tup e t =>
    rename_i n a us ds fp
    have hx := (List.nodup_cons.mp hn).1
    have : (a :: fp).filter (fun b => decide (U.ref a = .ref b)) = [a] := by
      rw [List.filter_cons, if_pos (decide_eq_true rfl), List.filter_eq_nil_iff.mpr]
      intro b hb z
      cases (of_decide_eq_true z)
      exact hx hb
    rw [this, show min (n + 1) 1 = 1 by omega]
    refine .tup e (t.rps fun b z => z.imp id fun q => ⟨List.mem_cons_of_mem _ q, fun z => ?_⟩).ros
    cases z
    exact hx q
def escF (F : Nat → List Nat) (σh : Env) (i : Nat) (b : Bool) : Nat → List Nat := fun j => if j = i then (if b then (F j).filter fun a => decide (getE σh i = some (.ref a)) else []) else F j
theorem escF_ne {i j : Nat} {b : Bool} (h : j ≠ i) : escF F σh i b j = F j := if_neg h
theorem escF_t {i : Nat} : escF F σh i true i = (F i).filter fun a => decide (getE σh i = some (.ref a)) := (if_pos rfl).trans (if_pos rfl)
theorem escF_f {i : Nat} : escF F σh i false i = [] := (if_pos rfl).trans (if_neg (by decide))
theorem escF_in {i : Nat} {b : Bool} {j a : Nat} (q : a ∈ escF F σh i b j) : a ∈ F j ∧ (j = i → b = true ∧ getE σh i = some (.ref a)) := by
  by_cases hj : j = i
  · subst hj
    cases b with
    | true =>
      rw [escF_t] at q
      obtain ⟨q1, q2⟩ := List.mem_filter.mp q
      exact ⟨q1, fun _ => ⟨rfl, of_decide_eq_true q2⟩⟩
    | false => rw [escF_f] at q; exact (nomatch q)
  · rw [escF_ne hj] at q
    exact ⟨q, fun z => absurd z hj⟩
theorem PI.esc1 (I : PI pp n0 Z0 Z m F h σh σp w) (i : Nat) (b : Bool) : PI pp n0 Z0 (EscZ Z F σh [(i, b)]) (escM m [(i, b)]) (escF F σh i b) h σh σp w := by
  have hZ : ∀ a, Z a → EscZ Z F σh [(i, b)] a := fun a z => .inl z
  have hs : ∀ j k, mkO m j = some k → ∀ d, getP σp j = some d → ∃ u, getE σh j = some u ∧ Rk pp (EscZ Z F σh [(i, b)]) h (if j = i then escK b k else k) u d (escF F σh i b j) := by
    intro j k hk d hd
    obtain ⟨u, e, r⟩ := I.sl j k hk d hd
    refine ⟨u, e, ?_⟩
    by_cases hj : j = i
    · subst hj
      rw [if_pos rfl]
      cases k with
      | sc =>
        refine ⟨r.1, ?_⟩
        have e2 : F j = [] := r.2
        cases b with
        | true => rw [escF_t, e2]; rfl
        | false => exact escF_f
      | pu =>
        refine ⟨r.1, ?_, r.2.2⟩
        have e2 : F j = [] := r.2.1
        cases b with
        | true => rw [escF_t, e2]; rfl
        | false => exact escF_f
      | own n =>
        have r : Ro Z h n u d (F j) := r
        cases b with
        | false =>
          rw [escF_f]
          show Ro _ h (min n 0) u d []
          rw [Nat.min_zero]
          refine .sh (r.rp fun a z => ?_)
          rcases z with z | z
          · exact .inl z
          · exact .inr ⟨(j, false), List.mem_cons_self .., z, fun y => Bool.noConfusion y⟩
        | true =>
          rw [escF_t]
          show Ro _ h (min n 1) u d _
          have e2 : ((F j).filter fun a => decide (getE σh j = some (.ref a))) = (F j).filter fun a => decide (u = .ref a) := by
            congr 1
            funext a
            rw [e]
            by_cases hu : u = .ref a
            · rw [hu]; simp
            · have : ¬ (some u = some (U.ref a)) := fun z => hu (Option.some.inj z)
              rw [decide_eq_false this, decide_eq_false hu]
          rw [e2]
          refine (r.cut1 (I.nd j)).mono fun a z => ?_
          rcases z with z | z
          · exact .inl z
          · exact .inr ⟨(j, true), List.mem_cons_self .., z.1, fun _ y => z.2 (by rw [e] at y; exact Option.some.inj y)⟩
    · rw [if_neg hj, escF_ne hj]
      cases k with
      | sc => exact r
      | pu => exact r
      | own n => exact (show Ro Z h n u d (F j) from r).mono hZ
  refine ⟨fun j q hq d hd => ?_, fun j => ?_, fun j l a q1 q2 => I.dj j l a (escF_in q1).1 (escF_in q2).1, fun j a q => ⟨fun z => ?_, (I.fa j a (escF_in q).1).2⟩, fun a z => I.esz z, I.pw, I.ln, I.nh⟩
  · unfold escM at hq
    cases hk : mkO m i with
    | none =>
      rw [hk] at hq
      have hq : mkO m j = some q := hq
      have hj : j ≠ i := fun z => by rw [z, hk] at hq; cases hq
      have := hs j q hq d hd
      rwa [if_neg hj] at this
    | some k =>
      rw [hk] at hq
      have hq : mkO (m.set i (some (escK b k))) j = some q := hq
      rcases mk_set hq with ⟨hj, e⟩ | ⟨hj, e⟩
      · cases e
        have := hs j k (hj ▸ hk) d hd
        rwa [if_pos hj] at this
      · have := hs j q e d hd
        rwa [if_neg hj] at this
  · by_cases hj : j = i
    · subst hj
      cases b with
      | true => rw [escF_t]; exact (I.nd j).filter _
      | false => rw [escF_f]; exact .nil
    · rw [escF_ne hj]; exact I.nd j
  · obtain ⟨q1, q2⟩ := escF_in q
    rcases z with z | ⟨p, hp, z1, z2⟩
    · exact (I.fa j a q1).1 z
    · have hp : p = (i, b) := by simpa using hp
      subst hp
      have := q2 (I.dj j i a q1 z1)
      exact z2 this.1 this.2
theorem escM_cons (m : Mks) (q : Nat × Bool) (E : Es) : escM m (q :: E) = escM (escM m [q]) E := by
  obtain ⟨i, b⟩ := q
  have a : ∀ r, escM m ((i, b) :: r) = (match mkO m i with | some k => escM (m.set i (some (escK b k))) r | none => escM m r) := fun _ => rfl
  rw [a, a]
  cases mkO m i <;> rfl
theorem PI.esc (I : PI pp n0 Z0 Z m F h σh σp w) : ∀ {E : Es} {m : Mks} {Z : Nat → Prop} {F : Nat → List Nat}, PI pp n0 Z0 Z m F h σh σp w → ∃ F', PI pp n0 Z0 (EscZ Z F σh E) (escM m E) F' h σh σp w ∧ ∀ j a, a ∈ F' j → a ∈ F j
  | [], m, Z, F, J => by
    refine ⟨F, ?_, fun j a q => q⟩
    have : EscZ Z F σh [] = Z := by
      funext a
      exact propext ⟨EscZ.nil, .inl⟩
    rw [this]
    exact J
  | (i, b) :: E, m, Z, F, J => by
    obtain ⟨F', J', hF⟩ := PI.esc I (E := E) (J.esc1 i b)
    rw [escM_cons]
    have key : ∀ a, EscZ (EscZ Z F σh [(i, b)]) (escF F σh i b) σh E a ↔ EscZ Z F σh ((i, b) :: E) a := by
      intro a
      constructor
      · intro z
        rcases z with z | ⟨p, hp, z1, z2⟩
        · exact z.sub fun q hq => by
            have : q = (i, b) := by simpa using hq
            rw [this]; exact List.mem_cons_self ..
        · exact .inr ⟨p, List.mem_cons_of_mem _ hp, (escF_in z1).1, z2⟩
      · intro z
        rcases z with z | ⟨p, hp, z1, z2⟩
        · exact .inl (.inl z)
        · rcases List.mem_cons.mp hp with e | hp
          · exact .inl (.inr ⟨p, by rw [e]; exact List.mem_cons_self .., z1, z2⟩)
          · by_cases hc : EscZ Z F σh [(i, b)] a
            · exact .inl hc
            · refine .inr ⟨p, hp, ?_, z2⟩
              by_cases hpi : p.1 = i
              · rw [hpi] at z1 ⊢
                cases b with
                | false => exact absurd (.inr ⟨(i, false), List.mem_cons_self .., z1, fun y => Bool.noConfusion y⟩) hc
                | true =>
                  rw [escF_t]
                  refine List.mem_filter.mpr ⟨z1, ?_⟩
                  by_cases hu : getE σh i = some (.ref a)
                  · exact decide_eq_true hu
                  · exact absurd (.inr ⟨(i, true), List.mem_cons_self .., z1, fun _ => hu⟩) hc
              · rw [escF_ne hpi]; exact z1
    have key : EscZ (EscZ Z F σh [(i, b)]) (escF F σh i b) σh E = EscZ Z F σh ((i, b) :: E) := funext fun a => propext (key a)
    rw [key] at J'
    exact ⟨F', J', fun j a q => (escF_in (hF j a q)).1⟩
/-- a slot gets a value -/
theorem PI.set (I : PI pp n0 Z0 Z m F h σh σp w) {i : Nat} {k : Kd} {u : U} {d : D} {fp : List Nat} (r : Rk pp Z h k u d fp) (hn : fp.Nodup) (hf : ∀ a ∈ fp, ¬ Z a ∧ n0 ≤ a ∧ a < h.n ∧ some a ≠ pp) (hd : ∀ j a, j ≠ i → a ∈ F j → a ∉ fp) :
    PI pp n0 Z0 Z (m.set i (some k)) (fun j => if j = i then fp else F j) h (σh.set i (some u)) (σp.set i (some d)) w := by
  have h1 : ∀ {j}, j ≠ i → (if j = i then fp else F j) = F j := fun hj => if_neg hj
  refine ⟨fun j q hq e he => ?_, fun j => ?_, fun j l a q1 q2 => ?_, fun j a q => ?_, I.za, I.pw, by rw [List.length_set, List.length_set]; exact I.ln, I.nh⟩
  · rcases getP_set he with ⟨hj, hl, e1⟩ | ⟨hj, e1⟩
    · cases e1
      subst hj
      rw [if_pos rfl]
      rcases mk_set hq with ⟨_, e2⟩ | ⟨hj, _⟩
      · cases e2
        exact ⟨u, getE_set_eq (by rw [I.ln]; exact hl), r⟩
      · exact absurd rfl hj
    · rcases mk_set hq with ⟨hj', _⟩ | ⟨_, e2⟩
      · exact absurd hj' hj
      · rw [h1 hj, getE_set_ne hj]
        exact I.sl j q e2 e e1
  · by_cases hj : j = i
    · rw [if_pos hj]; exact hn
    · rw [if_neg hj]; exact I.nd j
  · by_cases hj : j = i
    · rw [if_pos hj] at q1
      by_cases hl : l = i
      · rw [hj, hl]
      · rw [if_neg hl] at q2
        exact absurd q1 (hd l a hl q2)
    · rw [if_neg hj] at q1
      by_cases hl : l = i
      · rw [if_pos hl] at q2
        exact absurd q2 (hd j a hj q1)
      · rw [if_neg hl] at q2
        exact I.dj j l a q1 q2
  · by_cases hj : j = i
    · rw [if_pos hj] at q; exact hf a q
    · rw [if_neg hj] at q; exact I.fa j a q
/-- a frozen value -/
theorem PI.set0 (I : PI pp n0 Z0 Z m F h σh σp w) {i : Nat} {u : U} {d : D} (r : Rp Z h u d) : ∃ F', PI pp n0 Z0 Z (m.set i (some (.own 0))) F' h (σh.set i (some u)) (σp.set i (some d)) w ∧ ∀ j a, a ∈ F' j → j ≠ i ∧ a ∈ F j :=
  ⟨_, I.set (k := .own 0) (fp := []) (Ro.sh r) .nil (fun _ q => (nomatch q)) fun _ _ _ _ q => (nomatch q), fun j a q => by
    by_cases hj : j = i
    · have q : a ∈ (if j = i then [] else F j) := q
      rw [if_pos hj] at q; exact (nomatch q)
    · have q : a ∈ (if j = i then [] else F j) := q
      rw [if_neg hj] at q; exact ⟨hj, q⟩⟩
/-- a slot is emptied -/
theorem PI.clr (I : PI pp n0 Z0 Z m F h σh σp w) {i : Nat} : PI pp n0 Z0 Z (m.set i none) (fun j => if j = i then [] else F j) h (σh.set i none) (σp.set i none) w := by
  have h1 : ∀ {j a}, a ∈ (if j = i then [] else F j) → a ∈ F j := fun {j a} q => by
    by_cases hj : j = i
    · rw [if_pos hj] at q; exact (nomatch q)
    · rw [if_neg hj] at q; exact q
  refine ⟨fun j q hq e he => ?_, fun j => ?_, fun j l a q1 q2 => I.dj j l a (h1 q1) (h1 q2), fun j a q => I.fa j a (h1 q), I.za, I.pw, by rw [List.length_set, List.length_set]; exact I.ln, I.nh⟩
  · rcases mk_set hq with ⟨_, e2⟩ | ⟨hj, e2⟩
    · cases e2
    · rcases getP_set he with ⟨hj', _⟩ | ⟨_, e1⟩
      · exact absurd hj' hj
      · rw [getE_set_ne hj, if_neg hj]
        exact I.sl j q e2 e e1
  · by_cases hj : j = i
    · rw [if_pos hj]; exact .nil
    · rw [if_neg hj]; exact I.nd j
theorem PI.wipe (I : PI pp n0 Z0 Z m F h σh σp w) : ∀ own : List Nat, ∃ F', PI pp n0 Z0 Z (wipeM m own) F' h (wipeE σh own) (wipeP σp own) w ∧ (∀ j a, a ∈ F' j → j ∉ own ∧ a ∈ F j) ∧ ∀ j, j ∉ own → getE (wipeE σh own) j = getE σh j
  | [] => ⟨F, I, fun _ _ q => ⟨fun z => (nomatch z), q⟩, fun _ _ => rfl⟩
  | i :: r => by
    obtain ⟨F', J, q1, q2⟩ := PI.wipe I r
    refine ⟨_, J.clr (i := i), fun j a q => ?_, fun j hj => ?_⟩
    · by_cases hj : j = i
      · rw [if_pos hj] at q; exact (nomatch q)
      · rw [if_neg hj] at q
        exact ⟨fun z => (List.mem_cons.mp z).elim hj (q1 j a q).1, (q1 j a q).2⟩
    · show getE ((wipeE σh r).set i none) j = _
      rw [getE_set_ne (fun z : j = i => hj (by rw [z]; exact List.mem_cons_self ..))]
      exact q2 j fun z => hj (List.mem_cons_of_mem _ z)
theorem tgIn2 {own : List Nat} {a b : Tn} (e : tgIn own (.tp2 a b) = true) : tgIn own a = true ∧ tgIn own b = true := by
  unfold tgIn slots at e
  rw [List.all_append, Bool.and_eq_true] at e
  exact e
theorem tgIn3 {own : List Nat} {a b c : Tn} (e : tgIn own (.tp3 a b c) = true) : tgIn own a = true ∧ tgIn own b = true ∧ tgIn own c = true := by
  unfold tgIn slots at e
  rw [List.all_append, List.all_append, Bool.and_eq_true, Bool.and_eq_true] at e
  exact ⟨e.1.1, e.1.2, e.2⟩
theorem PI.bind : ∀ {t : Tn} {m : Mks} {F : Nat → List Nat} {σh : Env} {σp σp1 : PE} {u : U} {d : D}, PI pp n0 Z0 Z m F h σh σp w → Rp Z h u d → bindP t d σp = some σp1 →
    ∃ σh1 F', bindT h t u σh = some σh1 ∧ PI pp n0 Z0 Z (bindM t m) F' h σh1 σp1 w ∧ (∀ j a, a ∈ F' j → a ∈ F j) ∧ ∀ own, tgIn own t = true → ∀ j, j ∉ own → getE σh1 j = getE σh j
  | .nm i, m, F, σh, σp, σp1, u, d, I, r, e => by
    cases e
    obtain ⟨F', J, q⟩ := I.set0 (i := i) r
    refine ⟨_, F', rfl, J, fun j a z => (q j a z).2, fun own ho j hj => getE_set_ne fun z => hj ?_⟩
    unfold tgIn slots at ho
    rw [List.all_cons, Bool.and_eq_true] at ho
    exact z ▸ of_decide_eq_true ho.1
  | .tp2 a b, m, F, σh, σp, σp1, u, d, I, r, e => by
    unfold bindP at e
    split at e
    · rename_i x y ex
      obtain ⟨us, e1, t⟩ := rdS_p r ex
      cases t with
      | cons rx t =>
        cases t with
        | cons ry t =>
          cases t
          split at e
          · rename_i σ1 eb
            obtain ⟨σh1, F1, g1, J1, s1, o1⟩ := PI.bind I rx eb
            obtain ⟨σh2, F2, g2, J2, s2, o2⟩ := PI.bind J1 ry e
            refine ⟨σh2, F2, ?_, J2, fun j a z => s1 j a (s2 j a z), fun own ho j hj => (o2 own (tgIn2 ho).2 j hj).trans (o1 own (tgIn2 ho).1 j hj)⟩
            unfold bindT
            rw [e1]; dsimp only; rw [g1]; exact g2
          · cases e
    · cases e
  | .tp3 a b c, m, F, σh, σp, σp1, u, d, I, r, e => by
    unfold bindP at e
    split at e
    · rename_i x y z ex
      obtain ⟨us, e1, t⟩ := rdS_p r ex
      cases t with
      | cons rx t =>
        cases t with
        | cons ry t =>
          cases t with
          | cons rz t =>
            cases t
            split at e
            · rename_i σ1 eb
              split at e
              · rename_i σ2 eb2
                obtain ⟨σh1, F1, g1, J1, s1, o1⟩ := PI.bind I rx eb
                obtain ⟨σh2, F2, g2, J2, s2, o2⟩ := PI.bind J1 ry eb2
                obtain ⟨σh3, F3, g3, J3, s3, o3⟩ := PI.bind J2 rz e
                refine ⟨σh3, F3, ?_, J3, fun j a z => s1 j a (s2 j a (s3 j a z)), fun own ho j hj => (o3 own (tgIn3 ho).2.2 j hj).trans ((o2 own (tgIn3 ho).2.1 j hj).trans (o1 own (tgIn3 ho).1 j hj))⟩
                unfold bindT
                rw [e1]; dsimp only; rw [g1]; dsimp only; rw [g2]; exact g3
              · cases e
            · cases e
    · cases e
end
end Mi

set_option maxRecDepth 100000
/-! Mi, part P6: containers, plain and in the heap; first terms. -/
namespace Mi
open PySem
theorem bd_eq {α β : Type} {o : Option (α × Hm)} {x : α} {h : Hm} {k : α → Hm → Option β} (e : o = some (x, h)) : bd o k = k x h := by rw [e]; rfl
theorem ob_eq {α β : Type} {o : Option α} {x : α} {k : α → Option β} (e : o = some x) : ob o k = k x := by rw [e]; rfl
theorem pb_some {α β : Type} {o : Option (α × PW)} {k : α → PW → Option β} {r : β} (e : pb o k = some r) : ∃ x w, o = some (x, w) ∧ k x w = some r := by
  unfold pb at e
  split at e
  · exact ⟨_, _, rfl, e⟩
  · cases e
theorem pf_some {β : Type} {u : D} {p q : Option β} {r : β} (e : pf u p q = some r) : ∃ b, u = .bl b ∧ (if b = true then p else q) = some r := by
  unfold pf at e
  split at e
  · exact ⟨true, rfl, e⟩
  · exact ⟨false, rfl, e⟩
  · cases e
/-- a part of a footprint -/
def Sub (fp' fp : List Nat) : Prop := (∀ a ∈ fp', a ∈ fp) ∧ (fp.Nodup → fp'.Nodup)
theorem Sub.refl (fp : List Nat) : Sub fp fp := ⟨fun _ h => h, id⟩
theorem Sub.nil (fp : List Nat) : Sub [] fp := ⟨fun _ h => (nomatch h), fun _ => .nil⟩
section
variable {pp : Option Nat} {n0 : Nat} {Z0 Z Z' B Zr : Nat → Prop} {m : Mks} {F : Nat → List Nat} {h h1 h2 h' : Hm} {σh : Env} {σp : PE} {w w1 w2 : PW} {n k : Nat}
theorem Sub.app {a a' b b' : List Nat} (x : Sub a' a) (y : Sub b' b) : Sub (a' ++ b') (a ++ b) :=
  ⟨fun c hc => (List.mem_append.mp hc).elim (fun q => List.mem_append_left _ (x.1 c q)) fun q => List.mem_append_right _ (y.1 c q), fun hn => by
    obtain ⟨n1, n2, n3⟩ := List.nodup_append.mp hn
    exact List.nodup_append.mpr ⟨x.2 n1, y.2 n2, fun c hc d hd => n3 c (x.1 c hc) d (y.1 d hd)⟩⟩
theorem Ros.app : ∀ {us us' : List U} {ds ds' : List D} {fp fp' : List Nat}, Ros Z h n us ds fp → Ros Z h n us' ds' fp' → Ros Z h n (us ++ us') (ds ++ ds') (fp ++ fp')
  | _, _, _, _, _, _, .nil, s => s
  | _, _, _, _, _, fp', .cons (fp := a) (fps := b) r t, s => by
    rw [List.append_assoc]
    exact .cons r (t.app s)
theorem Ros.take : ∀ {us : List U} {ds : List D} {fp : List Nat} (k : Nat), Ros Z h n us ds fp → ∃ fp', Sub fp' fp ∧ Ros Z h n (us.take k) (ds.take k) fp'
  | _, _, fp, 0, _ => ⟨[], .nil _, .nil⟩
  | _, _, _, _ + 1, .nil => ⟨[], .nil _, .nil⟩
  | _, _, _, k + 1, .cons r t => by
    obtain ⟨fp', s, q⟩ := t.take k
    exact ⟨_, (Sub.refl _).app s, .cons r q⟩
theorem Ros.drop : ∀ {us : List U} {ds : List D} {fp : List Nat} (k : Nat), Ros Z h n us ds fp → ∃ fp', Sub fp' fp ∧ Ros Z h n (us.drop k) (ds.drop k) fp'
  | _, _, fp, 0, r => ⟨fp, .refl _, r⟩
  | _, _, _, _ + 1, .nil => ⟨[], .nil _, .nil⟩
  | _, _, _, k + 1, .cons (fp := a) (fps := b) r t => by
    obtain ⟨fp', s, q⟩ := t.drop k
    exact ⟨fp', ⟨fun c hc => List.mem_append_right _ (s.1 c hc), fun hn => s.2 (List.nodup_append.mp hn).2.1⟩, q⟩
theorem Sub.trans {a b c : List Nat} (x : Sub a b) (y : Sub b c) : Sub a c := ⟨fun z hz => y.1 z (x.1 z hz), fun hn => x.2 (y.2 hn)⟩
theorem Ros.cut {us : List U} {ds : List D} {fp : List Nat} (lo hi : Option Int) (r : Ros Z h n us ds fp) : ∃ fp', Sub fp' fp ∧ Ros Z h n (cut us lo hi) (cut ds lo hi) fp' := by
  unfold Mi.cut
  rw [r.length]
  obtain ⟨f1, s1, r1⟩ := r.drop (HT.sIx ds.length 0 lo)
  obtain ⟨f2, s2, r2⟩ := r1.take (HT.sIx ds.length ds.length hi - HT.sIx ds.length 0 lo)
  exact ⟨f2, s2.trans s1, r2⟩
theorem Ros.rev : ∀ {us : List U} {ds : List D} {fp : List Nat}, Ros Z h n us ds fp → ∃ fp', Sub fp' fp ∧ Ros Z h n us.reverse ds.reverse fp'
  | _, _, _, .nil => ⟨[], .nil _, .nil⟩
  | _, _, _, .cons (fp := a) (fps := b) r t => by
    obtain ⟨fp', s, q⟩ := t.rev
    rw [List.reverse_cons, List.reverse_cons]
    refine ⟨fp' ++ (a ++ []), ⟨fun c hc => ?_, fun hn => ?_⟩, q.app (.cons r .nil)⟩
    · rw [List.append_nil] at hc
      exact (List.mem_append.mp hc).elim (fun q => List.mem_append_right _ (s.1 c q)) fun q => List.mem_append_left _ q
    · rw [List.append_nil]
      obtain ⟨n1, n2, n3⟩ := List.nodup_append.mp hn
      exact List.nodup_append.mpr ⟨s.2 n2, n1, fun c hc d hd z => n3 d hd c (s.1 c hc) z.symm⟩
theorem Rps.app : ∀ {us us' : List U} {ds ds' : List D}, Rps Z h us ds → Rps Z h us' ds' → Rps Z h (us ++ us') (ds ++ ds')
  | _, _, _, _, .nil, s => s
  | _, _, _, _, .cons r t, s => .cons r (t.app s)
theorem Rps.rep {us : List U} {ds : List D} (r : Rps Z h us ds) : ∀ k : Nat, Rps Z h (List.replicate k us).flatten (List.replicate k ds).flatten
  | 0 => .nil
  | k + 1 => by
    rw [List.replicate_succ, List.replicate_succ, List.flatten_cons, List.flatten_cons]
    exact r.app (r.rep k)
theorem Ros.get : ∀ {us : List U} {ds : List D} {fp : List Nat} {j : Nat} {d : D}, Ros Z h n us ds fp → ds[j]? = some d → ∃ u fp', us[j]? = some u ∧ Sub fp' fp ∧ Ro Z h n u d fp'
  | _, _, _, _, _, .nil, e => by simp at e
  | _, _, _, 0, d, .cons (fp := a) (fps := b) r t, e => by
    simp at e; subst e
    exact ⟨_, a, rfl, ⟨fun c hc => List.mem_append_left _ hc, fun hn => (List.nodup_append.mp hn).1⟩, r⟩
  | _, _, _, j + 1, d, .cons (fp := a) (fps := b) r t, e => by
    obtain ⟨u, fp', h1, s, h2⟩ := t.get (j := j) (by simpa using e)
    exact ⟨u, fp', by simpa using h1, ⟨fun c hc => List.mem_append_right _ (s.1 c hc), fun hn => s.2 (List.nodup_append.mp hn).2.1⟩, h2⟩
theorem Ros.scal : ∀ {us : List U} {ds : List D}, (∀ x ∈ us.zip ds, scaP x.2 = some x.1) → us.length = ds.length → Ros Z h n us ds []
  | [], [], _, _ => .nil
  | u :: us, d :: ds, hs, hl => show Ros Z h n _ _ ([] ++ []) from .cons (.sca (hs (u, d) (List.mem_cons_self ..))) (Ros.scal (fun x hx => hs x (List.mem_cons_of_mem _ hx)) (Nat.succ.inj hl))
  | [], _ :: _, _, hl => by cases hl
  | _ :: _, [], _, hl => by cases hl
theorem Ros.ints : ∀ l : List Int, Ros Z h n (l.map .int) (l.map .int) []
  | [] => .nil
  | i :: r => show Ros Z h n _ _ ([] ++ []) from .cons (.sca rfl) (Ros.ints r)
theorem Lim.sub {fp fp' : List Nat} (s : Sub fp' fp) (l : Lim pp B h h1 Zr fp) : Lim pp B h h1 Zr fp' := ⟨l.1, fun a q => l.2.1 a (s.1 a q), s.2 l.2.2⟩
theorem Lim.froz {fp fp' : List Nat} (s : ∀ a ∈ fp', a ∈ fp) (hn : fp'.Nodup) (l : Lim pp B h h1 Zr fp) : Lim pp B h h1 (fun a => Zr a ∨ (a ∈ fp ∧ a ∉ fp')) fp' := by
  refine ⟨fun a z => ?_, fun a q => ?_, hn⟩
  · rcases z with z | z
    · exact l.1 a z
    · obtain ⟨q1, q2, q3, q4⟩ := l.2.1 a z.1
      exact ⟨.inr q1, q2, q4⟩
  · obtain ⟨q1, q2, q3, q4⟩ := l.2.1 a (s a q)
    exact ⟨q1, q2, fun z => z.elim q3 fun z => z.2 q, q4⟩
/-- two values, one behind another -/
theorem Lim.join {Z1 Z2 : Nat → Prop} {f1 f2 : List Nat} (hb : ∀ a, B a → a < h.n) (x : Fr pp h h1) (y : Fr pp h1 h2) (l1 : Lim pp B h h1 Z1 f1) (l2 : Lim pp B h1 h2 Z2 f2) : Lim pp B h h2 (fun a => Z1 a ∨ Z2 a) (f1 ++ f2) := by
  refine ⟨fun a z => ?_, fun a q => ?_, ?_⟩
  · rcases z with z | z
    · exact (l1.up y).1 a z
    · exact (l2.dn x).1 a z
  · rcases List.mem_append.mp q with q | q
    · obtain ⟨q1, q2, q3, q4⟩ := l1.2.1 a q
      refine ⟨q1, Nat.lt_of_lt_of_le q2 y.1, fun z => z.elim q3 fun z => ?_, q4⟩
      rcases (l2.1 a z).1 with z | z
      · have := hb a z; omega
      · omega
    · obtain ⟨q1, q2, q3, q4⟩ := l2.2.1 a q
      refine ⟨Nat.le_trans x.1 q1, q2, fun z => z.elim (fun z => ?_) q3, q4⟩
      have := (l1.1 a z).2.1
      omega
  · refine List.nodup_append.mpr ⟨l1.2.2, l2.2.2, fun a ha b hb' z => ?_⟩
    have q1 := (l1.2.1 a ha).2.1
    have q2 := (l2.2.1 b hb').1
    omega
theorem Lim.mono2 {fp : List Nat} (hz : ∀ a, Z' a → Zr a) (l : Lim pp B h h1 Zr fp) : Lim pp B h h1 Z' fp := ⟨fun a z => l.1 a (hz a z), fun a q => ⟨(l.2.1 a q).1, (l.2.1 a q).2.1, fun z => (l.2.1 a q).2.2.1 (hz a z), (l.2.1 a q).2.2.2⟩, l.2.2⟩
/-- a new list, a new tuple -/
theorem new_lst {us : List U} {ds : List D} {fp : List Nat} (x : Fr pp h h2) (q : PWok pp w h2) (r : Ros Zr h2 n us ds fp) (l : Lim pp B h h2 Zr fp) : RE pp B h (.own (n + 1)) (.lst ds) w (some (.ref h2.n, h2.push (.lst us))) := by
  refine ⟨_, _, Zr, h2.n :: fp, rfl, x.trans (.push _), q.push _, ?_, ?_⟩
  · refine .lst (Hm.get_push_self _ _) (r.fr (fun _ z => z) fun a z => Hm.get_push_lt ?_)
    rcases z with z | z
    · exact (l.1 a z).2.1
    · exact (l.2.1 a z).2.1
  · refine ⟨fun a z => ⟨(l.1 a z).1, Nat.lt_succ_of_lt (l.1 a z).2.1, (l.1 a z).2.2⟩, fun a m => ?_, List.nodup_cons.mpr ⟨fun z => ?_, l.2.2⟩⟩
    · rcases List.mem_cons.mp m with e | m
      · subst e
        exact ⟨x.1, Nat.lt_succ_self _, fun z => absurd (l.1 _ z).2.1 (Nat.lt_irrefl _), q.ne (Nat.le_refl _)⟩
      · obtain ⟨q1, q2, q3⟩ := l.2.1 a m
        exact ⟨q1, Nat.lt_succ_of_lt q2, q3⟩
    · exact absurd (l.2.1 _ z).2.1 (Nat.lt_irrefl _)
theorem new_tup {us : List U} {ds : List D} {fp : List Nat} (x : Fr pp h h2) (q : PWok pp w h2) (r : Ros Zr h2 n us ds fp) (l : Lim pp B h h2 Zr fp) : RE pp B h (.own (n + 1)) (.tup ds) w (some (.ref h2.n, h2.push (.tup us))) := by
  refine ⟨_, _, Zr, h2.n :: fp, rfl, x.trans (.push _), q.push _, ?_, ?_⟩
  · refine .tup (Hm.get_push_self _ _) (r.fr (fun _ z => z) fun a z => Hm.get_push_lt ?_)
    rcases z with z | z
    · exact (l.1 a z).2.1
    · exact (l.2.1 a z).2.1
  · refine ⟨fun a z => ⟨(l.1 a z).1, Nat.lt_succ_of_lt (l.1 a z).2.1, (l.1 a z).2.2⟩, fun a m => ?_, List.nodup_cons.mpr ⟨fun z => ?_, l.2.2⟩⟩
    · rcases List.mem_cons.mp m with e | m
      · subst e
        exact ⟨x.1, Nat.lt_succ_self _, fun z => absurd (l.1 _ z).2.1 (Nat.lt_irrefl _), q.ne (Nat.le_refl _)⟩
      · obtain ⟨q1, q2, q3⟩ := l.2.1 a m
        exact ⟨q1, Nat.lt_succ_of_lt q2, q3⟩
    · exact absurd (l.2.1 _ z).2.1 (Nat.lt_irrefl _)
/-- a lower kind -/
theorem Rk.lower {k k' : Kd} {u : U} {d : D} {fp : List Nat} (hk : k.ge k' = true) (l : Lim pp B h h1 Zr fp) (r : Rk pp Zr h2 k u d fp) : ∃ Zr' fp', Rk pp Zr' h2 k' u d fp' ∧ Lim pp B h h1 Zr' fp' ∧ (∀ a, Zr a → Zr' a) := by
  cases k with
  | sc =>
    cases k' with
    | sc => exact ⟨Zr, fp, r, l, fun _ z => z⟩
    | own n => exact ⟨Zr, [], .sca r.1, l.sub (.nil _), fun _ z => z⟩
    | pu => cases hk
  | pu =>
    cases k' with
    | pu => exact ⟨Zr, fp, r, l, fun _ z => z⟩
    | sc => cases hk
    | own n => cases hk
  | own a =>
    cases k' with
    | own b =>
      obtain ⟨fp', s1, s2, r'⟩ := (show Ro Zr h2 a u d fp from r).weak (of_decide_eq_true hk) l.2.2
      exact ⟨_, fp', r', l.froz s1 s2, fun _ z => .inl z⟩
    | sc => cases hk
    | pu => cases hk
theorem RE.lower {k k' : Kd} {d : D} {o : Res} (hk : k.ge k' = true) (r : RE pp B h k d w o) : RE pp B h k' d w o := by
  obtain ⟨u, h', Zr, fp, e, x, q, r, l⟩ := r
  obtain ⟨Zr', fp', r', l', _⟩ := r.lower hk l
  exact ⟨u, h', Zr', fp', e, x, q, r', l'⟩
theorem RE.wider {B' : Nat → Prop} {k : Kd} {d : D} {o : Res} (hb : ∀ a, B a → B' a) (r : RE pp B h k d w o) : RE pp B' h k d w o := by
  obtain ⟨u, h', Zr, fp, e, x, q, r, l⟩ := r
  exact ⟨u, h', Zr, fp, e, x, q, r, l.wider hb⟩
/-- seen from before -/
theorem RE.dn {k : Kd} {d : D} {o : Res} (x : Fr pp h h1) (r : RE pp B h1 k d w o) : RE pp B h k d w o := by
  obtain ⟨u, h', Zr, fp, e, x', q, r, l⟩ := r
  exact ⟨u, h', Zr, fp, e, x.trans x', q, r, l.dn x⟩
/-- what a container holds -/
inductive Kid (pp : Option Nat) (Zr : Nat → Prop) (h : Hm) (n : Nat) : U → D → List Nat → Prop
  | sca {u d} : scaP d = some u → Kid pp Zr h n u d []
  | lst {a us ds fp} : h.get a = some (.lst us) → Bd pp h a → Ros Zr h n us ds fp → Kid pp Zr h n (.ref a) (.lst ds) fp
  | tup {a us ds fp} : h.get a = some (.tup us) → Bd pp h a → Ros Zr h n us ds fp → Kid pp Zr h n (.ref a) (.tup ds) fp
theorem Kid.up {u : U} {d : D} {fp : List Nat} (f : Fr pp h1 h2) (l : Lim pp B h h1 Zr fp) (r : Kid pp Zr h1 n u d fp) : Kid pp Zr h2 n u d fp := by
  have key : ∀ a, Zr a ∨ a ∈ fp → h2.get a = h1.get a := fun a z => by
    rcases z with z | z
    · exact f.2 a (l.1 a z).2.1 (l.1 a z).2.2
    · exact f.2 a (l.2.1 a z).2.1 (l.2.1 a z).2.2.2
  cases r with
  | sca e => exact .sca e
  | lst e b t => exact .lst (by rw [f.2 _ b.1 b.2]; exact e) (b.fr f) (t.fr (fun _ z => z) key)
  | tup e b t => exact .tup (by rw [f.2 _ b.1 b.2]; exact e) (b.fr f) (t.fr (fun _ z => z) key)
theorem Ro.kid {u : U} {d : D} {fp : List Nat} (l : Lim pp B h h1 Zr fp) (r : Ro Zr h1 n u d fp) : ∃ fp', Sub fp' fp ∧ Kid pp Zr h1 (n - 1) u d fp' := by
  cases r with
  | sca e => exact ⟨[], .nil _, .sca e⟩
  | lst e t =>
    have := l.2.1 _ (List.mem_cons_self ..)
    exact ⟨_, ⟨fun a q => List.mem_cons_of_mem _ q, fun hn => (List.nodup_cons.mp hn).2⟩, .lst e ⟨this.2.1, this.2.2.2⟩ t⟩
  | tup e t =>
    have := l.2.1 _ (List.mem_cons_self ..)
    exact ⟨_, ⟨fun a q => List.mem_cons_of_mem _ q, fun hn => (List.nodup_cons.mp hn).2⟩, .tup e ⟨this.2.1, this.2.2.2⟩ t⟩
  | sh r =>
    cases r with
    | sca e => exact ⟨[], .nil _, .sca e⟩
    | lst z e t => exact ⟨[], .nil _, .lst e (l.1 _ z).2 t.ros⟩
    | tup z e t => exact ⟨[], .nil _, .tup e (l.1 _ z).2 t.ros⟩
theorem Kid.lower {k : Nat} {u : U} {d : D} {fp : List Nat} (hk : k ≤ n) (l : Lim pp B h h1 Zr fp) (r : Kid pp Zr h2 n u d fp) : ∃ Zr' fp', Kid pp Zr' h2 k u d fp' ∧ Lim pp B h h1 Zr' fp' ∧ (∀ a, Zr a → Zr' a) := by
  cases r with
  | sca e => exact ⟨Zr, [], .sca e, l, fun _ z => z⟩
  | lst e b t =>
    obtain ⟨fp', s1, s2, r'⟩ := t.weak hk l.2.2
    exact ⟨_, fp', .lst e b r', l.froz s1 s2, fun _ z => .inl z⟩
  | tup e b t =>
    obtain ⟨fp', s1, s2, r'⟩ := t.weak hk l.2.2
    exact ⟨_, fp', .tup e b r', l.froz s1 s2, fun _ z => .inl z⟩
theorem Kid.mono {u : U} {d : D} {fp : List Nat} (hz : ∀ a, Zr a → Z' a) (r : Kid pp Zr h n u d fp) : Kid pp Z' h n u d fp := by
  cases r with
  | sca e => exact .sca e
  | lst e b t => exact .lst e b (t.mono hz)
  | tup e b t => exact .tup e b (t.mono hz)
end
end Mi

set_option maxRecDepth 100000
/-! Mi, part Sp: defs that spoil all that they are handed. -/
namespace Mi
open PySem
/-- what a call of such a def does: it changes what the value owns, nothing else -/
def SplOk (C : Calls) (CP : CallsP) (f : Nat) : Prop := ∀ {Z : Nat → Prop} {h : Hm} {u : U} {d : D} {n : Nat} {fp : List Nat} {w : PW} {r : D × PW},
  CP f [d] w = some r → Ro Z h n u d fp → hgt d ≤ n → (∀ a ∈ fp, a < h.n) → fp.Nodup → ∃ h', C f [u] h = some (.non, h') ∧ h.n ≤ h'.n ∧ ∀ a, a < h.n → a ∉ fp → h'.get a = h.get a
def spBody (j x : Nat) : Sms := .cons (.ex (.call j (.cons (.var x) .nil) [])) .nil
def spFor (j x : Nat) : Sm := .for (.nm x) .seq (.var 0) .non (spBody j x)
def spApp (s : Str) : Sm := .mut1 .append 0 (.cons (.str s) .nil)
/-- lists, tuples, dictionaries -/
def dSpA (j : Nat) (s t : Str) : Df := ⟨1, 3, .cons (.ite (.isi (.var 0) .dict) (.cons (.for (.nm 1) .seq (.bi .list (.cons (.var 0) .nil)) .non (.cons (.ex (.call j (.cons (.sub (.var 0) (.var 1)) .nil) [])) .nil)) (.cons (.st1 0 (.str s) (.str t)) .nil)) .nil)
  (.cons (.ite (.isi2 (.var 0) [.list, .tuple]) (.cons (spFor j 2) .nil) .nil) (.cons (.ite (.isi (.var 0) .list) (.cons (spApp s) .nil) .nil) .nil))⟩
/-- lists alone -/
def dSpB (j : Nat) (s : Str) : Df := ⟨1, 2, .cons (.ite (.isi (.var 0) .list) (.cons (spFor j 1) (.cons (spApp s) .nil)) .nil) .nil⟩
section
variable {Z Z' : Nat → Prop} {h h' : Hm}
mutual
theorem Ro.flat : ∀ {n : Nat} {u : U} {d : D} {fp : List Nat}, Ro Z h n u d fp → ∀ {N : Nat} {Z' : Nat → Prop}, hgt d ≤ n → hgt d ≤ N → Ro Z' h N u d fp
  | _, _, _, _, .sh r, N, Z', h1, h2 => by
    cases r with
    | sca e => cases N with
      | zero => exact .sca e
      | succ N => exact .sca e
    | lst => exact absurd h1 (by unfold hgt; omega)
    | tup => exact absurd h1 (by unfold hgt; omega)
  | _, _, _, _, .sca e, N, Z', h1, h2 => .sca e
  | _, _, _, _, .lst (ds := ds) e r, N, Z', h1, h2 => by
    have h1 : hgts ds + 1 ≤ _ := h1
    have h2 : hgts ds + 1 ≤ N := h2
    cases N with
    | zero => omega
    | succ N => exact .lst e (r.flat (by omega) (by omega))
  | _, _, _, _, .tup (ds := ds) e r, N, Z', h1, h2 => by
    have h1 : hgts ds + 1 ≤ _ := h1
    have h2 : hgts ds + 1 ≤ N := h2
    cases N with
    | zero => omega
    | succ N => exact .tup e (r.flat (by omega) (by omega))
theorem Ros.flat : ∀ {n : Nat} {us : List U} {ds : List D} {fp : List Nat}, Ros Z h n us ds fp → ∀ {N : Nat} {Z' : Nat → Prop}, hgts ds ≤ n → hgts ds ≤ N → Ros Z' h N us ds fp
  | _, _, _, _, .nil, N, Z', h1, h2 => .nil
  | _, _, _, _, .cons (d := d) (ds := ds) r t, N, Z', h1, h2 => by
    have h1 : max (hgt d) (hgts ds) ≤ _ := h1
    have h2 : max (hgt d) (hgts ds) ≤ N := h2
    exact .cons (r.flat (by omega) (by omega)) (t.flat (by omega) (by omega))
end
end
section
variable {C : Calls} {CP : CallsP} {j x : Nat}
theorem getP_set_eq {σ : PE} {i : Nat} {d : D} (h : i < σ.length) : getP (σ.set i (some d)) i = some d := by
  unfold getP
  rw [List.getElem?_set, if_pos rfl, if_pos h]
theorem getP_set_ne {σ : PE} {i j : Nat} {k : Option D} (h : j ≠ i) : getP (σ.set i k) j = getP σ j := by
  unfold getP
  rw [List.getElem?_set, if_neg (fun z => h z.symm)]
/-- the plain loop: each item was handed on -/
theorem spP_loop : ∀ (xs : List D) {σ σ' : PE} {w w' : PW} {fl : Pl}, x < σ.length → forP (fun v σ w => ob (bindPv (.nm x) v σ) fun σ1 => exPs CP (spBody j x) σ1 w) (xs.map Pv.one) σ w = some (fl, σ', w') →
    fl = .nx ∧ (∀ y ∈ xs, ∃ w1 r, CP j [y] w1 = some r) ∧ σ'.length = σ.length ∧ ∀ i, i ≠ x → getP σ' i = getP σ i
  | [], σ, σ', w, w', fl, hx, e => by
    cases e
    exact ⟨rfl, fun y hy => (nomatch hy), rfl, fun _ _ => rfl⟩
  | y :: r, σ, σ', w, w', fl, hx, e => by
    have ev : exPs CP (spBody j x) (σ.set x (some y)) w = (match CP j [y] w with | some (_, w1) => some (.nx, σ.set x (some y), w1) | none => none) := by
      show pbs (pb (pb (pb (ob (getP (σ.set x (some y)) x) fun d => some (d, w)) fun u w1 => pb (some ([], w1)) fun us w2 => some (u :: us, w2)) fun us w1 => CP j (us ++ []) w1) fun _ w1 => some (.nx, σ.set x (some y), w1)) (fun σ w => some (.nx, σ, w)) = _
      rw [getP_set_eq hx]
      show pbs (pb (CP j [y] w) _) _ = _
      cases CP j [y] w with
      | none => rfl
      | some q => rfl
    have e : pbl (exPs CP (spBody j x) (σ.set x (some y)) w) (fun σ1 w1 => forP _ (r.map Pv.one) σ1 w1) = some (fl, σ', w') := e
    rw [ev] at e
    cases hc : CP j [y] w with
    | none => rw [hc] at e; cases e
    | some q =>
      rw [hc] at e
      have e : forP _ (r.map Pv.one) (σ.set x (some y)) q.2 = some (fl, σ', w') := e
      obtain ⟨h1, h2, h3, h4⟩ := spP_loop r (by rw [List.length_set]; exact hx) e
      refine ⟨h1, fun z hz => ?_, by rw [h3, List.length_set], fun i hi => by rw [h4 i hi, getP_set_ne hi]⟩
      rcases List.mem_cons.mp hz with rfl | hz
      · exact ⟨w, q, hc⟩
      · exact h2 z hz
/-- the loop in the heap -/
theorem sp_loopG {P : D → Prop} {B : Sms} (H : ∀ {Z : Nat → Prop} {h : Hm} {u : U} {d : D} {n : Nat} {fp : List Nat} {σ : Env}, P d → getE σ x = some u → Ro Z h n u d fp → hgt d ≤ n → (∀ a ∈ fp, a < h.n) → fp.Nodup → ∃ h', exSs C B σ h = some (.nx, σ, h') ∧ h.n ≤ h'.n ∧ ∀ a, a < h.n → a ∉ fp → h'.get a = h.get a)
    {Z : Nat → Prop} {n : Nat} {it : It} {a : Nat} {all : List U} {h0 : Hm} (hat : ∀ h i, h.get a = h0.get a → It.at h it i = some (all[i]?.map .one)) :
    ∀ (us : List U) (ds : List D) (fp : List Nat) (i : Nat) (σ : Env) (h : Hm), all.drop i = us → Ros Z h n us ds fp → (∀ y ∈ ds, P y) → hgts ds ≤ n → (∀ b ∈ fp, b < h.n) → fp.Nodup → a < h.n → a ∉ fp → h.get a = h0.get a → x < σ.length →
      ∃ σ' h', forLoop (fun v σ h => ob (bindI h (.nm x) v σ) fun σ1 => exSs C B σ1 h) it us.length i σ h = some (.nx, σ', h') ∧ σ'.length = σ.length ∧ (∀ k, k ≠ x → getE σ' k = getE σ k) ∧ h.n ≤ h'.n ∧ ∀ b, b < h.n → b ∉ fp → h'.get b = h.get b
  | [], ds, fp, i, σ, h, hd, r, hc, hh, hf, hn, ha, han, hg, hx => by
    refine ⟨σ, h, ?_, rfl, fun _ _ => rfl, Nat.le_refl _, fun _ _ _ => rfl⟩
    have hi : all[i]? = none := by
      rw [List.getElem?_eq_none_iff]
      have := congrArg List.length hd
      rw [List.length_drop] at this
      simp at this
      omega
    show ob (It.at h it i) _ = _
    rw [hat h i hg, hi]
    rfl
  | u :: r, _, _, i, σ, h, hd, .cons (d := d) (ds := ds) (fp := fp) (fps := fps) r1 r2, hc, hh, hf, hn, ha, han, hg, hx => by
    have hh : max (hgt d) (hgts ds) ≤ n := hh
    have hi : all[i]? = some u := by
      have := List.getElem?_drop (xs := all) (i := i) (j := 0)
      rw [hd] at this
      simpa using this.symm
    have hnd := List.nodup_append.mp hn
    obtain ⟨h1, e2, n1, g1⟩ := H (hc d (List.mem_cons_self ..)) (getE_set_eq (σ := σ) (u := u) hx) r1 (by omega) (fun b hb => hf b (List.mem_append_left _ hb)) hnd.1
    have ne : ∀ b ∈ fps, b ∉ fp := fun b hb hb2 => hnd.2.2 b hb2 b hb rfl
    have r2' : Ros (fun _ => False) h1 n r ds fps := by
      have := r2.flat (N := n) (Z' := fun _ => False) (by omega) (by omega)
      refine this.fr (fun a z => z.elim) fun b hb => ?_
      rcases hb with hb | hb
      · exact hb.elim
      · exact g1 b (hf b (List.mem_append_right _ hb)) (ne b hb)
    have ga : h1.get a = h.get a := g1 a ha fun z => han (List.mem_append_left _ z)
    obtain ⟨σ', h', e3, l3, k3, n3, g3⟩ := sp_loopG H (Z := fun _ => False) hat r ds fps (i + 1) (σ.set x (some u)) h1 (by rw [← List.tail_drop, hd]; rfl) r2' (fun y hy => hc y (List.mem_cons_of_mem _ hy)) (by omega) (fun b hb => Nat.lt_of_lt_of_le (hf b (List.mem_append_right _ hb)) n1) hnd.2.1 (Nat.lt_of_lt_of_le ha n1) (fun z => han (List.mem_append_right _ z)) (ga.trans hg) (by rw [List.length_set]; exact hx)
    refine ⟨σ', h', ?_, by rw [l3, List.length_set], fun k hk => by rw [k3 k hk, getE_set_ne hk], Nat.le_trans n1 n3, fun b hb hbn => ?_⟩
    · show ob (It.at h it i) _ = _
      rw [hat h i hg, hi]
      show bl (exSs C B (σ.set x (some u)) h) _ = _
      rw [e2]
      exact e3
    · rw [g3 b (Nat.lt_of_lt_of_le hb n1) fun z => hbn (List.mem_append_right _ z), g1 b hb fun z => hbn (List.mem_append_left _ z)]
theorem sp_body (H : SplOk C CP j) {Z : Nat → Prop} {h : Hm} {u : U} {d : D} {n : Nat} {fp : List Nat} {σ : Env} (hc : ∃ w1 r, CP j [d] w1 = some r) (g : getE σ x = some u) (r1 : Ro Z h n u d fp) (hh : hgt d ≤ n) (hf : ∀ a ∈ fp, a < h.n) (hn : fp.Nodup) :
    ∃ h', exSs C (spBody j x) σ h = some (.nx, σ, h') ∧ h.n ≤ h'.n ∧ ∀ a, a < h.n → a ∉ fp → h'.get a = h.get a := by
  obtain ⟨w1, q, e1⟩ := hc
  obtain ⟨h1, e2, n1, g1⟩ := H e1 r1 hh hf hn
  refine ⟨h1, ?_, n1, g1⟩
  show bs (bd (bd (bd (ob (getE σ x) fun u => some (u, h)) fun u h1 => bd (some ([], h1)) fun us h2 => some (u :: us, h2)) fun us h1 => C j (us ++ []) h1) fun _ h1 => some (Fl.nx, σ, h1)) (fun σ h => some (.nx, σ, h)) = _
  rw [g]
  show bs (bd (C j [u] h) _) _ = _
  rw [e2]; rfl
theorem sp_loop (H : SplOk C CP j) {Z : Nat → Prop} {n : Nat} {it : It} {a : Nat} {all : List U} {h0 : Hm} (hat : ∀ h i, h.get a = h0.get a → It.at h it i = some (all[i]?.map .one))
    (us : List U) (ds : List D) (fp : List Nat) (i : Nat) (σ : Env) (h : Hm) (hd : all.drop i = us) (r : Ros Z h n us ds fp) (hc : ∀ y ∈ ds, ∃ w1 r, CP j [y] w1 = some r) (hh : hgts ds ≤ n) (hf : ∀ b ∈ fp, b < h.n) (hn : fp.Nodup) (ha : a < h.n) (han : a ∉ fp) (hg : h.get a = h0.get a) (hx : x < σ.length) :
      ∃ σ' h', forLoop (fun v σ h => ob (bindI h (.nm x) v σ) fun σ1 => exSs C (spBody j x) σ1 h) it us.length i σ h = some (.nx, σ', h') ∧ σ'.length = σ.length ∧ (∀ k, k ≠ x → getE σ' k = getE σ k) ∧ h.n ≤ h'.n ∧ ∀ b, b < h.n → b ∉ fp → h'.get b = h.get b :=
  sp_loopG (P := fun d => ∃ w1 r, CP j [d] w1 = some r) (fun hc g r1 hh hf hn => sp_body H hc g r1 hh hf hn) hat us ds fp i σ h hd r hc hh hf hn ha han hg hx
/-! append to each item of a list -/
def apBody (x : Nat) (s : Str) : Sms := .cons (.mut1 .append x (.cons (.str s) .nil)) .nil
theorem app_ok {s : Str} {σ : Env} {h : Hm} {a : Nat} {us : List U} (g : getE σ x = some (.ref a)) (hg : h.get a = some (.lst us)) (hz : us.length < sizeLine) : exS C (.mut1 .append x (.cons (.str s) .nil)) σ h = some (.nx, σ, h.set a (.lst (us ++ [.str s]))) := by
  show bd (bd (ob (getE σ x) fun u => some (u, h)) fun x h1 => bf (.bl (meTy h1 .append x)) (bd (bd (some (U.str s, h1)) fun u h1 => bd (some ([], h1)) fun us h2 => some (u :: us, h2)) fun us h2 => meU h2 .append x us) none) (fun _ h1 => some (Fl.nx, σ, h1)) = _
  rw [g]
  have e1 : meTy h .append (.ref a) = true := by
    show (rdL h (.ref a)).isSome = true
    unfold rdL
    dsimp only
    rw [hg]; rfl
  show bd (bf (.bl (meTy h .append (.ref a))) _ none) _ = _
  rw [e1]
  show bd (meAppend h (.ref a) [.str s]) _ = _
  unfold meAppend
  dsimp only
  rw [hg]
  dsimp only
  rw [if_pos hz]
  rfl
theorem ap_body {s : Str} {Z : Nat → Prop} {h : Hm} {u : U} {d : D} {n : Nat} {fp : List Nat} {σ : Env} (hc : isShort d = true) (g : getE σ x = some u) (r1 : Ro Z h n u d fp) (hh : hgt d ≤ n) (hf : ∀ a ∈ fp, a < h.n) (hn : fp.Nodup) :
    ∃ h', exSs C (apBody x s) σ h = some (.nx, σ, h') ∧ h.n ≤ h'.n ∧ ∀ a, a < h.n → a ∉ fp → h'.get a = h.get a := by
  cases r1 with
  | sh q => cases q with
    | sca e => cases d <;> first | cases hc | cases e
    | lst => exact absurd hh (by unfold hgt; omega)
    | tup => cases hc
  | sca e => cases d <;> first | cases hc | cases e
  | tup => cases hc
  | @lst n a us ds fq e r =>
    have hz : us.length < sizeLine := by rw [r.length]; exact of_decide_eq_true hc
    refine ⟨h.set a (.lst (us ++ [.str s])), ?_, Nat.le_refl _, fun b hb hbn => ?_⟩
    · show bs (exS C (.mut1 .append x (.cons (.str s) .nil)) σ h) (fun σ h => some (.nx, σ, h)) = _
      rw [app_ok g e hz]; rfl
    · rw [Hm.get_set _ _ (hf a (List.mem_cons_self ..)), if_neg (show ¬ b = a from fun z => hbn (by rw [z]; exact List.mem_cons_self ..))]
theorem ap_loop {s : Str} {i : Nat} {Z : Nat → Prop} {h : Hm} {a : Nat} {us : List U} {ds : List D} {m : Nat} {fq : List Nat} {σ : Env} (g : getE σ i = some (.ref a)) (hg : h.get a = some (.lst us)) (r : Ros Z h m us ds fq) (hc : ds.all isShort = true) (hd : hgts ds ≤ m) (hf : ∀ b ∈ a :: fq, b < h.n) (hn : (a :: fq).Nodup) (hx : x < σ.length) :
    ∃ σ' h', exS C (.for (.nm x) .seq (.var i) .non (apBody x s)) σ h = some (.nx, σ', h') ∧ σ'.length = σ.length ∧ (∀ k, k ≠ x → getE σ' k = getE σ k) ∧ h.n ≤ h'.n ∧ ∀ b, b < h.n → b ∉ fq → h'.get b = h.get b := by
  have hn := List.nodup_cons.mp hn
  have hat : ∀ h' i, h'.get a = h.get a → It.at h' (.ls a) i = some (us[i]?.map .one) := fun h' i e => by
    show (match rdL h' (.ref a) with | some xs => some (xs[i]?.map Iv.one) | none => none) = _
    have : rdL h' (.ref a) = some us := by unfold rdL; dsimp only; rw [e, hg]
    rw [this]
  obtain ⟨σ', h', e1, l1, k1, n1, g1⟩ := sp_loopG (C := C) (x := x) (P := fun d => isShort d = true) (B := apBody x s) (fun hc g r1 hh hf hn => ap_body hc g r1 hh hf hn) hat us ds fq 0 σ h rfl r (fun y hy => List.all_eq_true.mp hc y hy) hd (fun b hb => hf b (List.mem_cons_of_mem _ hb)) hn.2 (hf a (List.mem_cons_self ..)) hn.1 rfl hx
  refine ⟨σ', h', ?_, l1, k1, n1, g1⟩
  show bd (ob (getE σ i) fun u => some (u, h)) (fun x' h1 => bd (some (U.non, h1)) fun y h2 => ob (mkIt h2 .seq x' y) fun it => forLoop (fun v σ h => ob (bindI h (.nm x) v σ) fun σ1 => exSs C (apBody x s) σ1 h) it (it.cnt h2) 0 σ h2) = _
  rw [g]
  have e6 : mkIt h .seq (.ref a) .non = some (.ls a) := by
    show itSeq h (.ref a) = _
    unfold itSeq
    dsimp only
    rw [hg]
  show ob (mkIt h .seq (.ref a) .non) _ = _
  rw [ob_eq e6]
  have e7 : (It.ls a).cnt h = us.length := by
    show cntL h a = _
    unfold cntL rdS
    dsimp only
    rw [hg]
  rw [e7]
  exact e1
theorem isTyD_lst {ds : List D} : isTyD (.lst ds) .dict = some false ∧ isTyD (.lst ds) .list = some true ∧ isTysD (.lst ds) [.list, .tuple] = some true := ⟨rfl, rfl, rfl⟩
/-- what the value is, read off -/
theorem sp_isTy {h : Hm} {u : U} {d : D} {n : Nat} {fp : List Nat} {Z : Nat → Prop} (r : Ro Z h n u d fp) (hd : hgt d ≤ n) :
    (scaP d = some u ∧ ∀ t, t ≠ .list → t ≠ .tuple → isTy h u t = isTyD d t) ∨
    (∃ a us ds fq m, u = .ref a ∧ d = .lst ds ∧ h.get a = some (.lst us) ∧ fp = a :: fq ∧ n = m + 1 ∧ Ros Z h m us ds fq) ∨
    (∃ a us ds fq m, u = .ref a ∧ d = .tup ds ∧ h.get a = some (.tup us) ∧ fp = a :: fq ∧ n = m + 1 ∧ Ros Z h m us ds fq) := by
  cases r with
  | sh q => cases q with
    | sca e => exact .inl ⟨e, fun t _ _ => by cases d <;> cases e <;> cases t <;> rfl⟩
    | lst => exact absurd hd (by unfold hgt; omega)
    | tup => exact absurd hd (by unfold hgt; omega)
  | sca e => exact .inl ⟨e, fun t _ _ => by cases d <;> cases e <;> cases t <;> rfl⟩
  | lst e r => exact .inr (.inl ⟨_, _, _, _, _, rfl, rfl, e, rfl, rfl, r⟩)
  | tup e r => exact .inr (.inr ⟨_, _, _, _, _, rfl, rfl, e, rfl, rfl, r⟩)
theorem spApp_ok {s : Str} {σ : Env} {h : Hm} {a : Nat} {us : List U} (g : getE σ 0 = some (.ref a)) (hg : h.get a = some (.lst us)) (hz : us.length < sizeLine) : exS C (spApp s) σ h = some (.nx, σ, h.set a (.lst (us ++ [.str s]))) := by
  show bd (bd (ob (getE σ 0) fun u => some (u, h)) fun x h1 => bf (.bl (meTy h1 .append x)) (bd (bd (some (U.str s, h1)) fun u h1 => bd (some ([], h1)) fun us h2 => some (u :: us, h2)) fun us h2 => meU h2 .append x us) none) (fun _ h1 => some (Fl.nx, σ, h1)) = _
  rw [g]
  have e1 : meTy h .append (.ref a) = true := by
    show (rdL h (.ref a)).isSome = true
    unfold rdL
    dsimp only
    rw [hg]; rfl
  show bd (bf (.bl (meTy h .append (.ref a))) _ none) _ = _
  rw [e1]
  show bd (meAppend h (.ref a) [.str s]) _ = _
  unfold meAppend
  dsimp only
  rw [hg]
  dsimp only
  rw [if_pos hz]
  rfl
theorem spApp_p {s : Str} {σ : PE} {w : PW} {ds : List D} {q : Pl × PE × PW} (g : getP σ 0 = some (.lst ds)) (e : exP CP (spApp s) σ w = some q) : ds.length < sizeLine := by
  have e : pb (pb (some (D.str s, w)) fun u w1 => pb (some ([], w1)) fun us w2 => some (u :: us, w2)) (fun us w1 => ob (getP σ 0) fun d => ob (mutD .append d us) fun d' => some (.nx, σ.set 0 (some d'), w1)) = some q := e
  have e : ob (getP σ 0) (fun d => ob (mutD .append d [.str s]) fun d' => some (Pl.nx, σ.set 0 (some d'), w)) = some q := e
  rw [g] at e
  have e : ob (mutD .append (.lst ds) [.str s]) (fun d' => some (Pl.nx, σ.set 0 (some d'), w)) = some q := e
  obtain ⟨d', e1, _⟩ := ob_some e
  have e1 : (if ds.length < sizeLine then some (D.lst (ds ++ [.str s])) else none) = some d' := e1
  split at e1
  · assumption
  · cases e1
theorem spFor_l {σ : Env} {h : Hm} {a : Nat} {us : List U} (g : getE σ 0 = some (.ref a)) (hg : h.get a = some (.lst us)) : exS C (spFor j x) σ h = forLoop (fun v σ h => ob (bindI h (.nm x) v σ) fun σ1 => exSs C (spBody j x) σ1 h) (.ls a) us.length 0 σ h := by
  show bd (ob (getE σ 0) fun u => some (u, h)) (fun x' h1 => bd (some (U.non, h1)) fun y h2 => ob (mkIt h2 .seq x' y) fun it => forLoop (fun v σ h => ob (bindI h (.nm x) v σ) fun σ1 => exSs C (spBody j x) σ1 h) it (it.cnt h2) 0 σ h2) = _
  rw [g]
  have e6 : mkIt h .seq (.ref a) .non = some (.ls a) := by
    show itSeq h (.ref a) = _
    unfold itSeq
    dsimp only
    rw [hg]
  show ob (mkIt h .seq (.ref a) .non) _ = _
  rw [ob_eq e6]
  have e7 : (It.ls a).cnt h = us.length := by
    show cntL h a = _
    unfold cntL rdS
    dsimp only
    rw [hg]
  rw [e7]
theorem spFor_t {σ : Env} {h : Hm} {a : Nat} {us : List U} (g : getE σ 0 = some (.ref a)) (hg : h.get a = some (.tup us)) : exS C (spFor j x) σ h = forLoop (fun v σ h => ob (bindI h (.nm x) v σ) fun σ1 => exSs C (spBody j x) σ1 h) (.tp a) us.length 0 σ h := by
  show bd (ob (getE σ 0) fun u => some (u, h)) (fun x' h1 => bd (some (U.non, h1)) fun y h2 => ob (mkIt h2 .seq x' y) fun it => forLoop (fun v σ h => ob (bindI h (.nm x) v σ) fun σ1 => exSs C (spBody j x) σ1 h) it (it.cnt h2) 0 σ h2) = _
  rw [g]
  have e6 : mkIt h .seq (.ref a) .non = some (.tp a) := by
    show itSeq h (.ref a) = _
    unfold itSeq
    dsimp only
    rw [hg]
  show ob (mkIt h .seq (.ref a) .non) _ = _
  rw [ob_eq e6]
  have e7 : (It.tp a).cnt h = us.length := by
    show cntL h a = _
    unfold cntL rdS
    dsimp only
    rw [hg]
  rw [e7]
theorem at_ls {h0 : Hm} {a : Nat} {us : List U} (hg : h0.get a = some (.lst us)) (h : Hm) (i : Nat) (e : h.get a = h0.get a) : It.at h (.ls a) i = some (us[i]?.map .one) := by
  show (match rdL h (.ref a) with | some xs => some (xs[i]?.map Iv.one) | none => none) = _
  have : rdL h (.ref a) = some us := by unfold rdL; dsimp only; rw [e, hg]
  rw [this]
theorem at_tp {h0 : Hm} {a : Nat} {us : List U} (hg : h0.get a = some (.tup us)) (h : Hm) (i : Nat) (e : h.get a = h0.get a) : It.at h (.tp a) i = some (us[i]?.map .one) := by
  show (match rdT h (.ref a) with | some xs => some (xs[i]?.map Iv.one) | none => none) = _
  have : rdT h (.ref a) = some us := by unfold rdT; dsimp only; rw [e, hg]
  rw [this]
/-- the plain loop over what slot 0 holds -/
theorem spFor_p {σ : PE} {w : PW} {ds : List D} {q : Pl × PE × PW} (hx : x < σ.length) (h0 : x ≠ 0) (g : getP σ 0 = some (.lst ds) ∨ getP σ 0 = some (.tup ds)) (e : exP CP (spFor j x) σ w = some q) :
    q.1 = .nx ∧ (∀ y ∈ ds, ∃ w1 r, CP j [y] w1 = some r) ∧ getP q.2.1 0 = getP σ 0 := by
  have e : pb (pb (ob (getP σ 0) fun d => some (d, w)) fun x w1 => pb (some (D.non, w1)) fun y w2 => ob (itemsD .seq x y) fun it => some (it, w2)) (fun it w1 => forP (fun v σ w => ob (bindPv (.nm x) v σ) fun σ1 => exPs CP (spBody j x) σ1 w) it σ w1) = some q := e
  have key : forP (fun v σ w => ob (bindPv (.nm x) v σ) fun σ1 => exPs CP (spBody j x) σ1 w) (ds.map Pv.one) σ w = some q := by
    rcases g with g | g <;> (rw [g] at e; exact e)
  obtain ⟨h1, h2, _, h4⟩ := spP_loop (σ' := q.2.1) (w' := q.2.2) (fl := q.1) ds hx key
  exact ⟨h1, h2, h4 0 (fun z => h0 z.symm)⟩
theorem bs_nx9 {σ : Env} {h : Hm} {k : Env → Hm → ResS} : bs (some (.nx, σ, h)) k = k σ h := rfl
/-- a list: loop, then append -/
theorem sp_list (H : SplOk C CP j) {Z : Nat → Prop} {m a : Nat} {us : List U} {ds : List D} {fq : List Nat} {s : Str} {σ : Env} {h : Hm} (hx : x < σ.length) (h0 : x ≠ 0) (g : getE σ 0 = some (.ref a)) (hg : h.get a = some (.lst us)) (r : Ros Z h m us ds fq)
    (hc : ∀ y ∈ ds, ∃ w1 q, CP j [y] w1 = some q) (hz : ds.length < sizeLine) (hd : hgts ds ≤ m) (hf : ∀ b ∈ a :: fq, b < h.n) (hn : (a :: fq).Nodup) :
    ∃ σ1 h1, exS C (spFor j x) σ h = some (.nx, σ1, h1) ∧ getE σ1 0 = some (.ref a) ∧ h1.get a = some (.lst us) ∧ us.length < sizeLine ∧ h.n ≤ h1.n ∧ a < h1.n ∧ ∀ b, b < h.n → b ∉ fq → h1.get b = h.get b := by
  have hn := List.nodup_cons.mp hn
  obtain ⟨σ1, h1, e1, _, k1, n1, g1⟩ := sp_loop H (x := x) (at_ls hg) us ds fq 0 σ h rfl r hc hd (fun b hb => hf b (List.mem_cons_of_mem _ hb)) hn.2 (hf a (List.mem_cons_self ..)) hn.1 rfl hx
  exact ⟨σ1, h1, (spFor_l g hg).trans e1, (k1 0 (fun z => h0 z.symm)).trans g, (g1 a (hf a (List.mem_cons_self ..)) hn.1).trans hg, by rw [r.length]; exact hz, n1, Nat.lt_of_lt_of_le (hf a (List.mem_cons_self ..)) n1, g1⟩
theorem sp_tuple (H : SplOk C CP j) {Z : Nat → Prop} {m a : Nat} {us : List U} {ds : List D} {fq : List Nat} {σ : Env} {h : Hm} (hx : x < σ.length) (h0 : x ≠ 0) (g : getE σ 0 = some (.ref a)) (hg : h.get a = some (.tup us)) (r : Ros Z h m us ds fq)
    (hc : ∀ y ∈ ds, ∃ w1 q, CP j [y] w1 = some q) (hd : hgts ds ≤ m) (hf : ∀ b ∈ a :: fq, b < h.n) (hn : (a :: fq).Nodup) :
    ∃ σ1 h1, exS C (spFor j x) σ h = some (.nx, σ1, h1) ∧ getE σ1 0 = some (.ref a) ∧ h1.get a = some (.tup us) ∧ h.n ≤ h1.n ∧ ∀ b, b < h.n → b ∉ fq → h1.get b = h.get b := by
  have hn := List.nodup_cons.mp hn
  obtain ⟨σ1, h1, e1, _, k1, n1, g1⟩ := sp_loop H (x := x) (at_tp hg) us ds fq 0 σ h rfl r hc hd (fun b hb => hf b (List.mem_cons_of_mem _ hb)) hn.2 (hf a (List.mem_cons_self ..)) hn.1 rfl hx
  exact ⟨σ1, h1, (spFor_t g hg).trans e1, (k1 0 (fun z => h0 z.symm)).trans g, (g1 a (hf a (List.mem_cons_self ..)) hn.1).trans hg, n1, g1⟩
theorem isi_h {σ : Env} {h : Hm} {u : U} {t : Ty} {b : Bool} (g : getE σ 0 = some u) (e : isTy h u t = some b) {A B : Sms} : exS C (.ite (.isi (.var 0) t) A B) σ h = if b = true then exSs C A σ h else exSs C B σ h := by
  show bd (bd (ob (getE σ 0) fun u => some (u, h)) fun x h1 => ob (isTy h1 x t) fun r => some (.bl r, h1)) (fun x h1 => bf x (exSs C A σ h1) (exSs C B σ h1)) = _
  rw [g]
  show bd (ob (isTy h u t) fun r => some (U.bl r, h)) _ = _
  rw [e]
  cases b <;> rfl
theorem isi2_h {σ : Env} {h : Hm} {u : U} {ts : List Ty} {b : Bool} (g : getE σ 0 = some u) (e : isTys h u ts = some b) {A B : Sms} : exS C (.ite (.isi2 (.var 0) ts) A B) σ h = if b = true then exSs C A σ h else exSs C B σ h := by
  show bd (bd (ob (getE σ 0) fun u => some (u, h)) fun x h1 => ob (isTys h1 x ts) fun r => some (.bl r, h1)) (fun x h1 => bf x (exSs C A σ h1) (exSs C B σ h1)) = _
  rw [g]
  show bd (ob (isTys h u ts) fun r => some (U.bl r, h)) _ = _
  rw [e]
  cases b <;> rfl
theorem isi_p {σ : PE} {w : PW} {d : D} {t : Ty} {b : Bool} (g : getP σ 0 = some d) (e : isTyD d t = some b) {A B : Sms} : exP CP (.ite (.isi (.var 0) t) A B) σ w = if b = true then exPs CP A σ w else exPs CP B σ w := by
  show pb (pb (ob (getP σ 0) fun d => some (d, w)) fun x w1 => ob (isTyD x t) fun r => some (D.bl r, w1)) (fun x w1 => pf x (exPs CP A σ w1) (exPs CP B σ w1)) = _
  rw [g]
  show pb (ob (isTyD d t) fun r => some (D.bl r, w)) _ = _
  rw [e]
  cases b <;> rfl
theorem isi2_p {σ : PE} {w : PW} {d : D} {ts : List Ty} {b : Bool} (g : getP σ 0 = some d) (e : isTysD d ts = some b) {A B : Sms} : exP CP (.ite (.isi2 (.var 0) ts) A B) σ w = if b = true then exPs CP A σ w else exPs CP B σ w := by
  show pb (pb (ob (getP σ 0) fun d => some (d, w)) fun x w1 => ob (isTysD x ts) fun r => some (D.bl r, w1)) (fun x w1 => pf x (exPs CP A σ w1) (exPs CP B σ w1)) = _
  rw [g]
  show pb (ob (isTysD d ts) fun r => some (D.bl r, w)) _ = _
  rw [e]
  cases b <;> rfl
theorem exSs_one {s : Sm} {σ : Env} {h : Hm} : exSs C (.cons s .nil) σ h = bs (exS C s σ h) fun σ h => some (.nx, σ, h) := rfl
theorem exSs_cons {s : Sm} {r : Sms} {σ : Env} {h : Hm} : exSs C (.cons s r) σ h = bs (exS C s σ h) fun σ h => exSs C r σ h := rfl
theorem exPs_one {s : Sm} {σ : PE} {w : PW} : exPs CP (.cons s .nil) σ w = pbs (exP CP s σ w) fun σ w => some (.nx, σ, w) := rfl
theorem exPs_cons' {s : Sm} {r : Sms} {σ : PE} {w : PW} : exPs CP (.cons s r) σ w = pbs (exP CP s σ w) (exPs CP r) := rfl
theorem pbs_one {o : PS'} {q : Pl × PE × PW} (e : pbs o (fun σ w => some (.nx, σ, w)) = some q) : o = some q := by
  unfold pbs at e
  split at e
  · rename_i e1
    rw [← e]
  · exact e
theorem bs_one {o : ResS} {q : Fl × Env × Hm} (e : o = some q) : bs o (fun σ h => some (.nx, σ, h)) = some q := by
  obtain ⟨fl, σ, h⟩ := q
  subst e
  cases fl <;> rfl
theorem runP_some {df : Df} {ds : List D} {w : PW} {q : D × PW} (e : runP CP df ds w = some q) : ∃ fl σ w1, exPs CP df.body (startP df ds) w = some (fl, σ, w1) := by
  unfold runP at e
  split at e
  · split at e
    · rename_i e1; exact ⟨_, _, _, e1⟩
    · rename_i e1; exact ⟨_, _, _, e1⟩
    · cases e
  · cases e
theorem runD_nx {df : Df} {us : List U} {h h' : Hm} {σ : Env} (hl : us.length = df.np) (e : exSs C df.body (startE df us) h = some (.nx, σ, h')) : runD C df us h = some (.non, h') := by
  unfold runD
  rw [if_pos hl, e]
/-- shape B: lists alone -/
theorem spl_B (H : SplOk C CP j) {s : Str} {Z : Nat → Prop} {h : Hm} {u : U} {d : D} {n : Nat} {fp : List Nat} {w : PW} {q : D × PW}
    (e : runP CP (dSpB j s) [d] w = some q) (r : Ro Z h n u d fp) (hd : hgt d ≤ n) (hf : ∀ a ∈ fp, a < h.n) (hn : fp.Nodup) : ∃ h', runD C (dSpB j s) [u] h = some (.non, h') ∧ h.n ≤ h'.n ∧ ∀ a, a < h.n → a ∉ fp → h'.get a = h.get a := by
  obtain ⟨fl, σp, w1, e⟩ := runP_some e
  have g0 : getE (startE (dSpB j s) [u]) 0 = some u := rfl
  have p0 : getP (startP (dSpB j s) [d]) 0 = some d := rfl
  replace e := pbs_one (exPs_one.symm.trans e)
  rcases sp_isTy r hd with ⟨e1, ty⟩ | ⟨a, us, ds, fq, m, rfl, rfl, hg, rfl, rfl, rs⟩ | ⟨a, us, ds, fq, m, rfl, rfl, hg, rfl, rfl, rs⟩
  · refine ⟨h, runD_nx rfl (σ := startE (dSpB j s) [u]) ?_, Nat.le_refl _, fun _ _ _ => rfl⟩
    refine exSs_one.trans (bs_one ?_)
    have : isTy h u .list = some false := by cases d <;> cases e1 <;> rfl
    rw [isi_h g0 this, if_neg (by decide)]
    rfl
  · rw [isi_p p0 (show isTyD (.lst ds) .list = some true from rfl), if_pos rfl, exPs_cons'] at e
    have hh : hgts ds + 1 ≤ m + 1 := hd
    cases e1 : exP CP (spFor j 1) (startP (dSpB j s) [.lst ds]) w with
    | none => rw [e1] at e; cases e
    | some q1 =>
      obtain ⟨f1, f2, f3⟩ := spFor_p (by show 1 < 2; omega) (by decide) (.inl p0) e1
      obtain ⟨fl1, σ1, w2⟩ := q1
      cases f1
      rw [e1] at e
      have hz := spApp_p (f3.trans p0) (pbs_one e)
      obtain ⟨σ2, h1, e2, g2, g3, hz2, n1, ha, fr⟩ := sp_list H (x := 1) (s := s) (σ := startE (dSpB j s) [.ref a]) (by show 1 < 2; omega) (by decide) g0 hg rs f2 hz (by omega) hf hn
      refine ⟨h1.set a (.lst (us ++ [.str s])), runD_nx rfl (σ := σ2) ?_, n1, fun b hb hbn => ?_⟩
      · refine exSs_one.trans (bs_one ?_)
        have : isTy h (.ref a) .list = some true := by unfold isTy; dsimp only; rw [hg]
        rw [isi_h g0 this, if_pos rfl, exSs_cons, e2, bs_nx9]
        exact exSs_one.trans (bs_one (spApp_ok g2 g3 hz2))
      · rw [Hm.get_set _ _ ha, if_neg (show ¬ b = a from fun z => hbn (by rw [z]; exact List.mem_cons_self ..))]
        exact fr b hb fun z => hbn (List.mem_cons_of_mem _ z)
  · refine ⟨h, runD_nx rfl (σ := startE (dSpB j s) [.ref a]) ?_, Nat.le_refl _, fun _ _ _ => rfl⟩
    refine exSs_one.trans (bs_one ?_)
    have : isTy h (.ref a) .list = some false := by unfold isTy; dsimp only; rw [hg]
    rw [isi_h g0 this, if_neg (by decide)]
    rfl
/-- shape A: lists, tuples -/
theorem spl_A (H : SplOk C CP j) {s t : Str} {Z : Nat → Prop} {h : Hm} {u : U} {d : D} {n : Nat} {fp : List Nat} {w : PW} {q : D × PW}
    (e : runP CP (dSpA j s t) [d] w = some q) (r : Ro Z h n u d fp) (hd : hgt d ≤ n) (hf : ∀ a ∈ fp, a < h.n) (hn : fp.Nodup) : ∃ h', runD C (dSpA j s t) [u] h = some (.non, h') ∧ h.n ≤ h'.n ∧ ∀ a, a < h.n → a ∉ fp → h'.get a = h.get a := by
  obtain ⟨fl, σp, w1, e⟩ := runP_some e
  have g0 : getE (startE (dSpA j s t) [u]) 0 = some u := rfl
  have p0 : getP (startP (dSpA j s t) [d]) 0 = some d := rfl
  rcases sp_isTy r hd with ⟨e1, ty⟩ | ⟨a, us, ds, fq, m, rfl, rfl, hg, rfl, rfl, rs⟩ | ⟨a, us, ds, fq, m, rfl, rfl, hg, rfl, rfl, rs⟩
  · refine ⟨h, runD_nx rfl (σ := startE (dSpA j s t) [u]) ?_, Nat.le_refl _, fun _ _ _ => rfl⟩
    have t1 : isTy h u .dict = some false := by cases d <;> cases e1 <;> rfl
    have t2 : isTys h u [.list, .tuple] = some false := by cases d <;> cases e1 <;> rfl
    have t3 : isTy h u .list = some false := by cases d <;> cases e1 <;> rfl
    refine exSs_cons.trans ?_
    rw [isi_h g0 t1, if_neg (by decide)]
    refine exSs_cons.trans ?_
    rw [isi2_h g0 t2, if_neg (by decide)]
    refine exSs_cons.trans ?_
    rw [isi_h g0 t3, if_neg (by decide)]
    rfl
  · have hh : hgts ds + 1 ≤ m + 1 := hd
    replace e := exPs_cons'.symm.trans e
    rw [isi_p p0 (show isTyD (.lst ds) .dict = some false from rfl), if_neg (by decide)] at e
    have e : exPs CP (.cons (.ite (.isi2 (.var 0) [.list, .tuple]) (.cons (spFor j 2) .nil) .nil) (.cons (.ite (.isi (.var 0) .list) (.cons (spApp s) .nil) .nil) .nil)) (startP (dSpA j s t) [.lst ds]) w = some (fl, σp, w1) := e
    rw [exPs_cons', isi2_p p0 (show isTysD (.lst ds) [.list, .tuple] = some true from rfl), if_pos rfl, exPs_one] at e
    cases e1 : exP CP (spFor j 2) (startP (dSpA j s t) [.lst ds]) w with
    | none => rw [e1] at e; cases e
    | some q1 =>
      obtain ⟨f1, f2, f3⟩ := spFor_p (by show 2 < 3; omega) (by decide) (.inl p0) e1
      obtain ⟨fl1, σ1, w2⟩ := q1
      cases f1
      rw [e1] at e
      have e : exPs CP (.cons (.ite (.isi (.var 0) .list) (.cons (spApp s) .nil) .nil) .nil) σ1 w2 = some (fl, σp, w1) := e
      replace e := pbs_one (exPs_one.symm.trans e)
      rw [isi_p (f3.trans p0) (show isTyD (.lst ds) .list = some true from rfl), if_pos rfl] at e
      have hz := spApp_p (f3.trans p0) (pbs_one (exPs_one.symm.trans e))
      obtain ⟨σ2, h1, e2, g2, g3, hz2, n1, ha, fr⟩ := sp_list H (x := 2) (s := s) (σ := startE (dSpA j s t) [.ref a]) (by show 2 < 3; omega) (by decide) g0 hg rs f2 hz (by omega) hf hn
      refine ⟨h1.set a (.lst (us ++ [.str s])), runD_nx rfl (σ := σ2) ?_, n1, fun b hb hbn => ?_⟩
      · have t1 : isTy h (.ref a) .dict = some false := by unfold isTy; dsimp only; rw [hg]
        have t2 : isTys h (.ref a) [.list, .tuple] = some true := by
          unfold isTys
          have : isTy h (.ref a) .list = some true := by unfold isTy; dsimp only; rw [hg]
          rw [this]
        have t3 : isTy h1 (.ref a) .list = some true := by unfold isTy; dsimp only; rw [g3]
        refine exSs_cons.trans ?_
        rw [isi_h g0 t1, if_neg (by decide)]
        refine exSs_cons.trans ?_
        rw [isi2_h g0 t2, if_pos rfl, exSs_one, e2]
        refine exSs_cons.trans ?_
        rw [isi_h g2 t3, if_pos rfl, exSs_one, spApp_ok g2 g3 hz2]
        rfl
      · rw [Hm.get_set _ _ ha, if_neg (show ¬ b = a from fun z => hbn (by rw [z]; exact List.mem_cons_self ..))]
        exact fr b hb fun z => hbn (List.mem_cons_of_mem _ z)
  · have hh : hgts ds + 1 ≤ m + 1 := hd
    replace e := exPs_cons'.symm.trans e
    rw [isi_p p0 (show isTyD (.tup ds) .dict = some false from rfl), if_neg (by decide)] at e
    have e : exPs CP (.cons (.ite (.isi2 (.var 0) [.list, .tuple]) (.cons (spFor j 2) .nil) .nil) (.cons (.ite (.isi (.var 0) .list) (.cons (spApp s) .nil) .nil) .nil)) (startP (dSpA j s t) [.tup ds]) w = some (fl, σp, w1) := e
    rw [exPs_cons', isi2_p p0 (show isTysD (.tup ds) [.list, .tuple] = some true from rfl), if_pos rfl, exPs_one] at e
    cases e1 : exP CP (spFor j 2) (startP (dSpA j s t) [.tup ds]) w with
    | none => rw [e1] at e; cases e
    | some q1 =>
      obtain ⟨f1, f2, f3⟩ := spFor_p (by show 2 < 3; omega) (by decide) (.inr p0) e1
      obtain ⟨σ2, h1, e2, g2, g3, n1, fr⟩ := sp_tuple H (x := 2) (σ := startE (dSpA j s t) [.ref a]) (by show 2 < 3; omega) (by decide) g0 hg rs f2 (by omega) hf hn
      refine ⟨h1, runD_nx rfl (σ := σ2) ?_, n1, fun b hb hbn => fr b hb fun z => hbn (List.mem_cons_of_mem _ z)⟩
      have t1 : isTy h (.ref a) .dict = some false := by unfold isTy; dsimp only; rw [hg]
      have t2 : isTys h (.ref a) [.list, .tuple] = some true := by
        unfold isTys
        have : isTy h (.ref a) .list = some false := by unfold isTy; dsimp only; rw [hg]
        rw [this]
        unfold isTys
        have : isTy h (.ref a) .tuple = some true := by unfold isTy; dsimp only; rw [hg]
        rw [this]
      have t3 : isTy h1 (.ref a) .list = some false := by unfold isTy; dsimp only; rw [g3]
      refine exSs_cons.trans ?_
      rw [isi_h g0 t1, if_neg (by decide)]
      refine exSs_cons.trans ?_
      rw [isi2_h g0 t2, if_pos rfl, exSs_one, e2]
      refine exSs_cons.trans ?_
      rw [isi_h g2 t3, if_neg (by decide)]
      rfl
end
end Mi

set_option maxRecDepth 100000
/-! Mi, part P7: terms. -/
namespace Mi
open PySem
def EOk (C : Calls) (CP : CallsP) (rk : Nat → Sg) (e : Ex) : Prop := ∀ {pp : Option Nat} {n0 : Nat} {Z0 Z : Nat → Prop} {m : Mks} {F : Nat → List Nat} {h : Hm} {σh : Env} {σp : PE} {w w' : PW} {d : D} {k : Kd} {E : Es},
  PI pp n0 Z0 Z m F h σh σp w → evP CP e σp w = some (d, w') → chkE rk e m = some (k, E) → RE pp (EscZ Z F σh E) h k d w' (evE C e σh h)
inductive Rks (pp : Option Nat) (Zr : Nat → Prop) (h : Hm) : List Kd → List U → List D → List Nat → Prop
  | nil : Rks pp Zr h [] [] [] []
  | cons {k ks u us d ds fp fps} : Rk pp Zr h k u d fp → Rks pp Zr h ks us ds fps → Rks pp Zr h (k :: ks) (u :: us) (d :: ds) (fp ++ fps)
def EsOk (C : Calls) (CP : CallsP) (rk : Nat → Sg) (e : Exs) : Prop := ∀ {pp : Option Nat} {n0 : Nat} {Z0 Z : Nat → Prop} {m : Mks} {F : Nat → List Nat} {h : Hm} {σh : Env} {σp : PE} {w w' : PW} {ds : List D} {ks : List Kd} {E : Es},
  PI pp n0 Z0 Z m F h σh σp w → evPs CP e σp w = some (ds, w') → chkEs rk e m = some (ks, E) →
    ∃ us h' Zr fp, evEs C e σh h = some (us, h') ∧ Fr pp h h' ∧ PWok pp w' h' ∧ Rks pp Zr h' ks us ds fp ∧ Lim pp (EscZ Z F σh E) h h' Zr fp
inductive Ras (pp : Option Nat) (Za : Nat → Prop) (h : Hm) : List Bool → List U → List D → Prop
  | nil : Ras pp Za h [] [] []
  | cons {u us d ds bs} : Rp Za h u d → Ras pp Za h bs us ds → Ras pp Za h (false :: bs) (u :: us) (d :: ds)
  | pur {us ds bs p} : pp = some p → Ras pp Za h bs us ds → Ras pp Za h (true :: bs) (.ref p :: us) (.pur :: ds)
structure CallOk (C : Calls) (CP : CallsP) (rk : Nat → Sg) : Prop where
  call : ∀ {pp : Option Nat} {f : Nat} {us : List U} {ds : List D} {h : Hm} {w w' : PW} {d : D} {Za : Nat → Prop},
    CP f ds w = some (d, w') → Ras pp Za h (rk f).pus us ds → (∀ a, Za a → a < h.n ∧ some a ≠ pp) → PWok pp w h → (rk f).ret ≠ .pu → RE pp Za h (rk f).ret d w' (C f us h)
  spl : ∀ {f : Nat}, (rk f).ret = .pu → SplOk C CP f
section
variable {C : Calls} {CP : CallsP} {rk : Nat → Sg}
variable {pp : Option Nat} {n0 : Nat} {Z0 Z Z' B Zr : Nat → Prop} {m : Mks} {F : Nat → List Nat} {h h1 h2 h' : Hm} {σh : Env} {σp : PE} {w w1 w2 w' : PW} {n : Nat} {a b c e i : Ex} {d : D}
theorem EOk.wr {q : Kd × Es} (H : EOk C CP rk e) (I : PI pp n0 Z0 Z m F h σh σp w) (ev : evP CP e σp w = some (d, w')) (cc : np (chkE rk e m) = some q) : WRE pp h d w' (evE C e σh h) := by
  obtain ⟨c1, c2⟩ := np_some' cc
  obtain ⟨u, h', Zr, fp, e1, x, q, r, l⟩ := H I ev c1
  exact ⟨u, h', e1, x, q, r.rp l c2⟩
theorem rd2 {β : Type} {K : D → D → PW → Option β} {r : β} {qa qb : Kd × Es} (ha : EOk C CP rk a) (hb : EOk C CP rk b) (I : PI pp n0 Z0 Z m F h σh σp w)
    (e : pb (evP CP a σp w) (fun x w1 => pb (evP CP b σp w1) fun y w2 => K x y w2) = some r) (ca : np (chkE rk a m) = some qa) (cb : np (chkE rk b m) = some qb) :
    ∃ x y w2 u v h1 h2, evE C a σh h = some (u, h1) ∧ evE C b σh h1 = some (v, h2) ∧ Fr pp h h2 ∧ PWok pp w2 h2 ∧ Rp (Bd pp h2) h2 u x ∧ Rp (Bd pp h2) h2 v y ∧ K x y w2 = some r := by
  obtain ⟨x, w1, e1, e⟩ := pb_some e
  obtain ⟨y, w2, e2, e⟩ := pb_some e
  obtain ⟨u, h1, g1, x1, q1, r1⟩ := ha.wr I e1 ca
  obtain ⟨v, h2, g2, x2, q2, r2⟩ := hb.wr (I.fr x1 q1) e2 cb
  exact ⟨x, y, w2, u, v, h1, h2, g1, g2, x1.trans x2, q2, r1.up x2, r2, e⟩
theorem chkC_else {r : Kd × Es} (hv : ∀ i, a ≠ .var i) : chkC (some r) a m = (match some r with | some (.own n, E) => some (n - 1, E) | _ => none) := by
  cases a <;> first | rfl | exact absurd rfl (hv _)
theorem cOk {r : Kd × Es} {E : Es} (ha : EOk C CP rk a) (I : PI pp n0 Z0 Z m F h σh σp w) (ev : evP CP a σp w = some (d, w')) (ca : np (chkE rk a m) = some r) (cc : chkC (some r) a m = some (n, E)) :
    ∃ u h' Zr fp, evE C a σh h = some (u, h') ∧ Fr pp h h' ∧ PWok pp w' h' ∧ Kid pp Zr h' n u d fp ∧ Lim pp (EscZ Z F σh E) h h' Zr fp := by
  have other : (∀ i, a ≠ .var i) → ∃ u h' Zr fp, evE C a σh h = some (u, h') ∧ Fr pp h h' ∧ PWok pp w' h' ∧ Kid pp Zr h' n u d fp ∧ Lim pp (EscZ Z F σh E) h h' Zr fp := by
    intro hv
    rw [chkC_else hv] at cc
    obtain ⟨k, E1⟩ := r
    cases k with
    | own n1 =>
      cases cc
      obtain ⟨u, h', Zr, fp, e1, x, q, r, l⟩ := ha I ev (np_some ca).1
      obtain ⟨fp', s, kd⟩ := Ro.kid l r
      exact ⟨u, h', Zr, fp', e1, x, q, kd, l.sub s⟩
    | sc => cases cc
    | pu => cases cc
  cases a with
  | var i =>
    have ev : ob (getP σp i) (fun d => some (d, w)) = some (d, w') := ev
    cases hd : getP σp i with
    | none => rw [hd] at ev; cases ev
    | some d0 =>
      rw [hd] at ev
      cases ev
      unfold chkC at cc
      dsimp only at cc
      split at cc
      · rename_i n1 hk
        cases cc
        obtain ⟨u, eu, ru⟩ := I.sl i _ hk _ hd
        have ru : Ro Z h n1 u d (F i) := ru
        have ee : evE C (.var i) σh h = some (u, h) := by
          show ob (getE σh i) _ = _
          rw [eu]; rfl
        have hF : F i = F i := rfl
        have lz : Lim pp (EscZ Z F σh (if n1 = 0 then [] else [(i, true)])) h h Z [] := ⟨fun a z => ⟨.inl (.inl z), (I.za a z).2⟩, fun _ z => (nomatch z), .nil⟩
        generalize hfp : F i = fp at ru
        cases ru with
        | sca e => exact ⟨u, h, Z, [], ee, .refl, I.pw, .sca e, lz⟩
        | sh r =>
          refine ⟨u, h, Z, [], ee, .refl, I.pw, ?_, lz⟩
          cases r with
          | sca e => exact .sca e
          | lst z e t => exact .lst e (I.za _ z).2 t.ros
          | tup z e t => exact .tup e (I.za _ z).2 t.ros
        | lst e t =>
          rename_i n1 a us ds fp
          have hin : ∀ x, x ∈ a :: fp → x ∈ F i := fun x hx => by rw [hfp]; exact hx
          have hn := I.nd i
          rw [hfp] at hn
          have hba := I.fa i a (hin a (List.mem_cons_self ..))
          refine ⟨.ref a, h, fun x => Z x ∨ x ∈ fp, [], ee, .refl, I.pw, .lst e hba.2.2 (t.rps fun x z => z).ros, ⟨fun x z => ?_, fun _ z => (nomatch z), .nil⟩⟩
          rw [if_neg (Nat.succ_ne_zero n1)]
          rcases z with z | z
          · exact ⟨.inl (.inl z), (I.za x z).2⟩
          · refine ⟨.inl (.inr ⟨(i, true), List.mem_cons_self .., hin x (List.mem_cons_of_mem _ z), fun _ y => ?_⟩), (I.fa i x (hin x (List.mem_cons_of_mem _ z))).2.2⟩
            rw [eu] at y
            cases y
            exact (List.nodup_cons.mp hn).1 z
        | tup e t =>
          rename_i n1 a us ds fp
          have hin : ∀ x, x ∈ a :: fp → x ∈ F i := fun x hx => by rw [hfp]; exact hx
          have hn := I.nd i
          rw [hfp] at hn
          have hba := I.fa i a (hin a (List.mem_cons_self ..))
          refine ⟨.ref a, h, fun x => Z x ∨ x ∈ fp, [], ee, .refl, I.pw, .tup e hba.2.2 (t.rps fun x z => z).ros, ⟨fun x z => ?_, fun _ z => (nomatch z), .nil⟩⟩
          rw [if_neg (Nat.succ_ne_zero n1)]
          rcases z with z | z
          · exact ⟨.inl (.inl z), (I.za x z).2⟩
          · refine ⟨.inl (.inr ⟨(i, true), List.mem_cons_self .., hin x (List.mem_cons_of_mem _ z), fun _ y => ?_⟩), (I.fa i x (hin x (List.mem_cons_of_mem _ z))).2.2⟩
            rw [eu] at y
            cases y
            exact (List.nodup_cons.mp hn).1 z
      · cases cc
  | _ => exact other fun i z => by cases z
/-! ### the plain ones -/
theorem eo_var {i : Nat} : EOk C CP rk (.var i) := by
  intro pp n0 Z0 Z m F h σh σp w w' d k E I ev cc
  have ev : ob (getP σp i) (fun d => some (d, w)) = some (d, w') := ev
  cases hd : getP σp i with
  | none => rw [hd] at ev; cases ev
  | some d0 =>
    rw [hd] at ev
    cases ev
    have cc : kVar i m = some (k, E) := cc
    unfold kVar at cc
    cases hk : mkO m i with
    | none => rw [hk] at cc; cases cc
    | some k0 =>
      rw [hk] at cc
      obtain ⟨u, eu, ru⟩ := I.sl i _ hk _ hd
      have ee : evE C (.var i) σh h = some (u, h) := by
        show ob (getE σh i) _ = _
        rw [eu]; rfl
      cases k0 with
      | sc => cases cc; exact .sc ee .refl I.pw ru.1
      | pu => cases cc; exact ⟨u, h, fun _ => False, [], ee, .refl, I.pw, ⟨ru.1, rfl, ru.2.2⟩, lim_sc⟩
      | own n =>
        cases cc
        have ru : Ro Z h n u d (F i) := ru
        refine ⟨u, h, fun a => Z a ∨ a ∈ F i, [], ee, .refl, I.pw, (show Ro _ h 0 u d [] from .sh (ru.rp fun a z => z)), ⟨fun a z => ?_, fun _ z => (nomatch z), .nil⟩⟩
        rcases z with z | z
        · exact ⟨.inl (.inl z), (I.za a z).2⟩
        · refine ⟨.inl ?_, (I.fa i a z).2.2⟩
          by_cases hn : n = 0
          · subst hn
            generalize F i = fp at ru z
            cases ru with
            | sh r => exact (nomatch z)
            | sca e => exact (nomatch z)
          · rw [if_neg hn]
            exact .inr ⟨(i, false), List.mem_cons_self .., z, fun y => Bool.noConfusion y⟩
theorem eo_k {u : U} {d0 : D} (e : Ex) (h1 : ∀ σ h, evE C e σ h = some (u, h)) (h2 : ∀ σ w, evP CP e σ w = some (d0, w)) (h3 : ∀ m, chkE rk e m = some (.sc, [])) (h4 : scaP d0 = some u) : EOk C CP rk e := by
  intro pp n0 Z0 Z m F h σh σp w w' d k E I ev cc
  rw [h2] at ev
  rw [h3] at cc
  cases ev
  cases cc
  exact .sc (h1 σh h) .refl I.pw h4
theorem eo_neg (ha : EOk C CP rk a) : EOk C CP rk (.neg a) := by
  intro pp n0 Z0 Z m F h σh σp w w' d k E I ev cc
  have cc : kS1 (np (chkE rk a m)) = some (k, E) := cc
  unfold kS1 at cc
  split at cc
  · rename_i q cq
    cases cc
    have ev : pb (evP CP a σp w) (fun x w1 => ob (negD x) fun d => some (d, w1)) = some (d, w') := ev
    obtain ⟨x, w1, e1, ev⟩ := pb_some ev
    obtain ⟨y, e2, ev⟩ := ob_some ev
    cases ev
    obtain ⟨u, h1, g1, x1, q1, r1⟩ := ha.wr I e1 cq
    cases x with
    | int j =>
      cases e2
      cases (r1.isca (v := .int j) rfl)
      exact .sc (u := .int (-j)) ((bd_eq g1).trans rfl) x1 q1 rfl
    | _ => cases e2
  · cases cc
theorem eo_not (ha : EOk C CP rk a) : EOk C CP rk (.not a) := by
  intro pp n0 Z0 Z m F h σh σp w w' d k E I ev cc
  have cc : kS1 (np (chkE rk a m)) = some (k, E) := cc
  unfold kS1 at cc
  split at cc
  · rename_i q cq
    cases cc
    have ev : pb (evP CP a σp w) (fun x w1 => ob (notD x) fun d => some (d, w1)) = some (d, w') := ev
    obtain ⟨x, w1, e1, ev⟩ := pb_some ev
    obtain ⟨y, e2, ev⟩ := ob_some ev
    cases ev
    obtain ⟨u, h1, g1, x1, q1, r1⟩ := ha.wr I e1 cq
    cases x with
    | bl j =>
      cases e2
      cases (r1.isca (v := .bl j) rfl)
      exact .sc (u := .bl (!j)) ((bd_eq g1).trans rfl) x1 q1 rfl
    | _ => cases e2
  · cases cc
theorem RE.bl {k : Kd} {o : Res} {t : Bool} (hk : k ≠ .pu) (e : o = some (.bl t, h1)) (f : Fr pp h h1) (q : PWok pp w1 h1) : RE pp B h k (.bl t) w1 o := by
  cases k with
  | sc => exact .sc e f q rfl
  | own n => exact ⟨_, h1, fun _ => False, [], e, f, q, .sca rfl, lim_sc⟩
  | pu => exact absurd rfl hk
theorem eo_and (ha : EOk C CP rk a) (hb : EOk C CP rk b) : EOk C CP rk (.and a b) := by
  intro pp n0 Z0 Z m F h σh σp w w' d k E I ev cc
  have cc : kAnd (np (chkE rk a m)) (np (chkE rk b m)) = some (k, E) := cc
  unfold kAnd at cc
  split at cc
  · rename_i q cq
    obtain ⟨c1, c2⟩ := np_some cc
    have ev : pb (evP CP a σp w) (fun x w1 => pf x (evP CP b σp w1) (some (.bl false, w1))) = some (d, w') := ev
    obtain ⟨x, w1, e1, ev⟩ := pb_some ev
    obtain ⟨t, ht, ev2⟩ := pf_some ev
    subst ht
    clear ev
    have ev := ev2
    clear ev2
    obtain ⟨u, h1, g1, x1, q1, r1⟩ := ha.wr I e1 cq
    cases (r1.isca (v := .bl t) rfl)
    have ee : evE C (.and a b) σh h = bf (.bl t) (evE C b σh h1) (some (.bl false, h1)) := bd_eq g1
    cases t with
    | true =>
      rw [if_pos rfl] at ev
      have := (hb (I.fr x1 q1) ev c1).dn x1
      rw [show evE C (.and a b) σh h = evE C b σh h1 from ee]
      exact this
    | false =>
      cases ev
      exact .bl c2 ee x1 q1
  · cases cc
theorem eo_or (ha : EOk C CP rk a) (hb : EOk C CP rk b) : EOk C CP rk (.or a b) := by
  intro pp n0 Z0 Z m F h σh σp w w' d k E I ev cc
  have cc : kAnd (np (chkE rk a m)) (np (chkE rk b m)) = some (k, E) := cc
  unfold kAnd at cc
  split at cc
  · rename_i q cq
    obtain ⟨c1, c2⟩ := np_some cc
    have ev : pb (evP CP a σp w) (fun x w1 => pf x (some (.bl true, w1)) (evP CP b σp w1)) = some (d, w') := ev
    obtain ⟨x, w1, e1, ev⟩ := pb_some ev
    obtain ⟨t, ht, ev2⟩ := pf_some ev
    subst ht
    clear ev
    have ev := ev2
    clear ev2
    obtain ⟨u, h1, g1, x1, q1, r1⟩ := ha.wr I e1 cq
    cases (r1.isca (v := .bl t) rfl)
    have ee : evE C (.or a b) σh h = bf (.bl t) (some (.bl true, h1)) (evE C b σh h1) := bd_eq g1
    cases t with
    | true =>
      cases ev
      exact .bl c2 ee x1 q1
    | false =>
      rw [if_neg (by decide)] at ev
      have := (hb (I.fr x1 q1) ev c1).dn x1
      rw [show evE C (.or a b) σh h = evE C b σh h1 from ee]
      exact this
  · cases cc
theorem meet_ge {k1 k2 k : Kd} (e : k1.meet k2 = some k) : k1.ge k = true ∧ k2.ge k = true := by
  cases k1 <;> cases k2 <;> cases e <;> (simp [Kd.ge] <;> omega)
theorem eo_ite (hc : EOk C CP rk c) (ha : EOk C CP rk a) (hb : EOk C CP rk b) : EOk C CP rk (.ite c a b) := by
  intro pp n0 Z0 Z m F h σh σp w w' d k E I ev cc
  have cc : kIte (np (chkE rk c m)) (np (chkE rk a m)) (np (chkE rk b m)) = some (k, E) := cc
  unfold kIte at cc
  split at cc
  · rename_i q ka Ea kb Eb cq c1 c2
    split at cc
    · rename_i k0 hk
      cases cc
      obtain ⟨m1, m2⟩ := meet_ge hk
      have ev : pb (evP CP c σp w) (fun x w1 => pf x (evP CP a σp w1) (evP CP b σp w1)) = some (d, w') := ev
      obtain ⟨x, w1, e1, ev⟩ := pb_some ev
      obtain ⟨t, ht, ev2⟩ := pf_some ev
      subst ht
      clear ev
      have ev := ev2
      clear ev2
      obtain ⟨u, h1, g1, x1, q1, r1⟩ := hc.wr I e1 cq
      cases (r1.isca (v := .bl t) rfl)
      have ee : evE C (.ite c a b) σh h = bf (.bl t) (evE C a σh h1) (evE C b σh h1) := bd_eq g1
      cases t with
      | true =>
        rw [if_pos rfl] at ev
        rw [show evE C (.ite c a b) σh h = evE C a σh h1 from ee]
        exact (((ha (I.fr x1 q1) ev (np_some c1).1).dn x1).lower m1).wider fun a z => z.l
      | false =>
        rw [if_neg (by decide)] at ev
        rw [show evE C (.ite c a b) σh h = evE C b σh h1 from ee]
        exact (((hb (I.fr x1 q1) ev (np_some c2).1).dn x1).lower m2).wider fun a z => z.r
    · cases cc
  · cases cc
theorem eo_cmp {op : Cop} (ha : EOk C CP rk a) (hb : EOk C CP rk b) : EOk C CP rk (.cmp op a b) := by
  intro pp n0 Z0 Z m F h σh σp w w' d k E I ev cc
  have cc : kS2 (np (chkE rk a m)) (np (chkE rk b m)) = some (k, E) := cc
  unfold kS2 at cc
  split at cc
  · rename_i qa qb ca cb
    cases cc
    have ev : pb (evP CP a σp w) (fun x w1 => pb (evP CP b σp w1) fun y w2 => ob (cmpD op x y) fun r => some (.bl r, w2)) = some (d, w') := ev
    obtain ⟨x, y, w2, u, v, h1, h2, g1, g2, x2, q2, r1, r2, ev⟩ := rd2 ha hb I ev ca cb
    obtain ⟨t, et, ev⟩ := ob_some ev
    cases ev
    exact .sc (u := .bl t) ((bd_eq g1).trans ((bd_eq g2).trans (ob_eq (cmpU_p r1 r2 et)))) x2 q2 rfl
  · cases cc
theorem eo_chain {op op' : Cop} (ha : EOk C CP rk a) (hb : EOk C CP rk b) (hc : EOk C CP rk c) : EOk C CP rk (.chain op op' a b c) := by
  intro pp n0 Z0 Z m F h σh σp w w' d k E I ev cc
  have cc : kS3 (np (chkE rk a m)) (np (chkE rk b m)) (np (chkE rk c m)) = some (k, E) := cc
  unfold kS3 at cc
  split at cc
  · rename_i qa qb qc ca cb c3
    cases cc
    have ev : pb (evP CP a σp w) (fun x w1 => pb (evP CP b σp w1) fun y w2 => ob (cmpD op x y) fun r => pf (.bl r) (pb (evP CP c σp w2) fun z w3 => ob (cmpD op' y z) fun r => some (.bl r, w3)) (some (.bl false, w2))) = some (d, w') := ev
    obtain ⟨x, y, w2, u, v, h1, h2, g1, g2, x2, q2, r1, r2, ev⟩ := rd2 ha hb I ev ca cb
    obtain ⟨t, et, ev⟩ := ob_some ev
    have ee : evE C (.chain op op' a b c) σh h = bf (.bl t) (bd (evE C c σh h2) fun z h3 => ob (cmpU h3 op' v z) fun r => some (.bl r, h3)) (some (.bl false, h2)) :=
      (bd_eq g1).trans ((bd_eq g2).trans (ob_eq (cmpU_p r1 r2 et)))
    cases t with
    | false => cases ev; exact .sc ee x2 q2 rfl
    | true =>
      have ev : pb (evP CP c σp w2) (fun z w3 => ob (cmpD op' y z) fun r => some (.bl r, w3)) = some (d, w') := ev
      obtain ⟨z, w3, e3, ev⟩ := pb_some ev
      obtain ⟨t, et, ev⟩ := ob_some ev
      cases ev
      obtain ⟨u3, h3, g3, x3, q3, r3⟩ := hc.wr (I.fr x2 q2) e3 c3
      exact .sc (u := .bl t) (ee.trans ((bd_eq g3).trans (ob_eq (cmpU_p (r2.up x3) r3 et)))) (x2.trans x3) q3 rfl
  · cases cc
theorem eo_isi {t : Ty} (ha : EOk C CP rk a) : EOk C CP rk (.isi a t) := by
  intro pp n0 Z0 Z m F h σh σp w w' d k E I ev cc
  have cc : kS1 (np (chkE rk a m)) = some (k, E) := cc
  unfold kS1 at cc
  split at cc
  · rename_i q cq
    cases cc
    have ev : pb (evP CP a σp w) (fun x w1 => ob (isTyD x t) fun d => some (.bl d, w1)) = some (d, w') := ev
    obtain ⟨x, w1, e1, ev⟩ := pb_some ev
    obtain ⟨y, e2, ev⟩ := ob_some ev
    cases ev
    obtain ⟨u, h1, g1, x1, q1, r1⟩ := ha.wr I e1 cq
    exact .sc (u := .bl y) ((bd_eq g1).trans (ob_eq (isTy_p r1 e2))) x1 q1 rfl
  · cases cc
theorem eo_isi2 {ts : List Ty} (ha : EOk C CP rk a) : EOk C CP rk (.isi2 a ts) := by
  intro pp n0 Z0 Z m F h σh σp w w' d k E I ev cc
  have cc : kS1 (np (chkE rk a m)) = some (k, E) := cc
  unfold kS1 at cc
  split at cc
  · rename_i q cq
    cases cc
    have ev : pb (evP CP a σp w) (fun x w1 => ob (isTysD x ts) fun d => some (.bl d, w1)) = some (d, w') := ev
    obtain ⟨x, w1, e1, ev⟩ := pb_some ev
    obtain ⟨y, e2, ev⟩ := ob_some ev
    cases ev
    obtain ⟨u, h1, g1, x1, q1, r1⟩ := ha.wr I e1 cq
    exact .sc (u := .bl y) ((bd_eq g1).trans (ob_eq (isTys_p r1 e2))) x1 q1 rfl
  · cases cc
theorem lr_zip (l : List Nat) : ∀ x ∈ (l.map fun i : Nat => U.int (i : Int)).zip (l.map fun i : Nat => D.int (i : Int)), scaP x.2 = some x.1 := by
  induction l with
  | nil => intro x hx; exact (nomatch hx)
  | cons a r ih =>
    intro x hx
    rcases List.mem_cons.mp hx with e | hx
    · subst e; rfl
    · exact ih x hx
theorem eo_lrng (ha : EOk C CP rk a) : EOk C CP rk (.lrng a) := by
  intro pp n0 Z0 Z m F h σh σp w w' d k E I ev cc
  have cc : kRng (np (chkE rk a m)) = some (k, E) := cc
  unfold kRng at cc
  split at cc
  · rename_i q cq
    cases cc
    have ev : pb (evP CP a σp w) (fun x w1 => ob (lrD x) fun d => some (d, w1)) = some (d, w') := ev
    obtain ⟨x, w1, e1, ev⟩ := pb_some ev
    obtain ⟨y, e2, ev⟩ := ob_some ev
    cases ev
    obtain ⟨u, h1, g1, x1, q1, r1⟩ := ha.wr I e1 cq
    cases x with
    | int j =>
      cases (r1.isca (v := .int j) rfl)
      unfold lrD at e2
      dsimp only at e2
      split at e2
      · rename_i hc
        unfold newLD at e2
        split at e2
        · rename_i hl
          cases e2
          have ee : evE C (.lrng a) σh h = some (.ref h1.n, h1.push (.lst ((List.range j.toNat).map fun i : Nat => .int (i : Int)))) := by
            refine (bd_eq g1).trans ?_
            show lrU h1 (.int j) = _
            unfold lrU
            dsimp only
            rw [if_pos hc]
            unfold newL
            rw [if_pos (by simpa using hl)]
          rw [ee]
          refine new_lst (n := 8) x1 q1 (Ros.scal (lr_zip _) (by simp)) lim_sc
        · cases e2
      · cases e2
    | _ => cases e2
  · cases cc
end
end Mi

set_option maxRecDepth 100000
/-! Mi, part P8: terms with containers and calls. -/
namespace Mi
open PySem
section
variable {C : Calls} {CP : CallsP} {rk : Nat → Sg}
variable {pp : Option Nat} {n0 : Nat} {Z0 Z Z' B Zr : Nat → Prop} {m : Mks} {F : Nat → List Nat} {h h1 h2 h' : Hm} {σh : Env} {σp : PE} {w w1 w2 w' : PW} {n : Nat} {a b c e i : Ex} {d : D} {es : Exs}
theorem es_nil : EsOk C CP rk .nil := by
  intro pp n0 Z0 Z m F h σh σp w w' ds ks E I ev cc
  cases ev
  have cc : some ([], []) = some (ks, E) := cc
  cases cc
  exact ⟨[], h, fun _ => False, [], rfl, .refl, I.pw, .nil, lim_sc⟩
theorem Rk.mono {k : Kd} {u : U} {fp : List Nat} (hz : ∀ a, Z a → Z' a) (r : Rk pp Z h k u d fp) : Rk pp Z' h k u d fp := by
  cases k with
  | sc => exact r
  | pu => exact r
  | own n => exact (show Ro Z h n u d fp from r).mono hz
theorem Rks.mono (hz : ∀ a, Z a → Z' a) : ∀ {ks : List Kd} {us : List U} {ds : List D} {fp : List Nat}, Rks pp Z h ks us ds fp → Rks pp Z' h ks us ds fp
  | _, _, _, _, .nil => .nil
  | _, _, _, _, .cons r t => .cons (r.mono hz) (t.mono hz)
theorem es_cons (he : EOk C CP rk e) (hs : EsOk C CP rk es) : EsOk C CP rk (.cons e es) := by
  intro pp n0 Z0 Z m F h σh σp w w' ds ks E I ev cc
  have cc : (match chkE rk e m, chkEs rk es m with
    | some (k, E), some (ks, E') => some (k :: ks, E ++ E')
    | _, _ => none) = some (ks, E) := cc
  split at cc
  · rename_i k E1 ks' E2 c1 c2
    cases cc
    have ev : pb (evP CP e σp w) (fun u w1 => pb (evPs CP es σp w1) fun us w2 => some (u :: us, w2)) = some (ds, w') := ev
    obtain ⟨x, w1, e1, ev⟩ := pb_some ev
    obtain ⟨xs, w2, e2, ev⟩ := pb_some ev
    cases ev
    obtain ⟨u, h1, Z1, f1, g1, x1, q1, r1, l1⟩ := he I e1 c1
    obtain ⟨us, h2, Z2, f2, g2, x2, q2, r2, l2⟩ := hs (I.fr x1 q1) e2 c2
    refine ⟨u :: us, h2, fun a => Z1 a ∨ Z2 a, f1 ++ f2, (bd_eq g1).trans (bd_eq g2), x1.trans x2, q2, .cons ((r1.up x2 l1).mono fun _ => .inl) (r2.mono fun _ => .inr), ?_⟩
    exact Lim.join (fun a z => (I.esz z).2.1) x1 x2 (l1.wider fun a z => z.l) (l2.wider fun a z => z.r)
  · cases cc
theorem Rks.rps : ∀ {ks : List Kd} {us : List U} {ds : List D} {fp : List Nat} {n : Nat}, lvls ks = some n → (∀ a, Z a ∨ a ∈ fp → Z' a) → Rks pp Z h ks us ds fp → Rps Z' h us ds
  | _, _, _, _, _, e, hz, .nil => .nil
  | k :: ks, _, _, _, n, e, hz, .cons r t => by
    unfold lvls at e
    split at e
    · rename_i a ea
      split at e
      · rename_i b eb
        refine .cons ?_ (t.rps eb fun a z => hz a (z.imp id fun q => List.mem_append_right _ q))
        cases k with
        | sc => exact .sca r.1
        | pu => cases ea
        | own n => exact (show Ro Z h n _ _ _ from r).rp fun a z => hz a (z.imp id fun q => List.mem_append_left _ q)
      · cases e
    · cases e
theorem Rks.ros : ∀ {ks : List Kd} {us : List U} {ds : List D} {fp : List Nat} {n m : Nat}, Rks pp Z h ks us ds fp → lvls ks = some n → m ≤ n → fp.Nodup → ∃ fp', (∀ a ∈ fp', a ∈ fp) ∧ fp'.Nodup ∧ Ros (fun a => Z a ∨ (a ∈ fp ∧ a ∉ fp')) h m us ds fp'
  | _, _, _, _, _, _, .nil, e, hm, hn => ⟨[], fun _ h => (nomatch h), .nil, .nil⟩
  | k :: ks, _, _, _, n, m, .cons (fp := fp) (fps := fps) r t, e, hm, hn => by
    unfold lvls at e
    split at e
    · rename_i a ea
      split at e
      · rename_i b eb
        cases e
        obtain ⟨n1, n2, n3⟩ := List.nodup_append.mp hn
        obtain ⟨fps', g1, g2, g3⟩ := t.ros (m := m) eb (by omega) n2
        obtain ⟨fp', k1, k2, k3⟩ : ∃ fp', (∀ a ∈ fp', a ∈ fp) ∧ fp'.Nodup ∧ Ro (fun a => Z a ∨ (a ∈ fp ∧ a ∉ fp')) h m _ _ fp' := by
          cases k with
          | sc => exact ⟨[], fun _ h => (nomatch h), .nil, .sca r.1⟩
          | pu => cases ea
          | own j =>
            have ea : some j = some a := ea
            have hj : j = a := Option.some.inj ea
            subst hj
            exact (show Ro Z h j _ _ _ from r).weak (by omega) n1
        refine ⟨fp' ++ fps', fun a m => ?_, List.nodup_append.mpr ⟨k2, g2, fun a ha b hb => n3 a (k1 a ha) b (g1 b hb)⟩, .cons (k3.mono fun a z => z.imp id fun q => ⟨List.mem_append_left _ q.1, fun y => ?_⟩) (g3.mono fun a z => z.imp id fun q => ⟨List.mem_append_right _ q.1, fun y => ?_⟩)⟩
        · rcases List.mem_append.mp m with m | m
          · exact List.mem_append_left _ (k1 _ m)
          · exact List.mem_append_right _ (g1 _ m)
        · rcases List.mem_append.mp y with y | y
          · exact q.2 y
          · exact n3 a q.1 a (g1 _ y) rfl
        · rcases List.mem_append.mp y with y | y
          · exact n3 a (k1 _ y) a q.1 rfl
          · exact q.2 y
      · cases e
    · cases e
theorem Rks.length : ∀ {ks : List Kd} {us : List U} {ds : List D} {fp : List Nat}, Rks pp Z h ks us ds fp → us.length = ds.length
  | _, _, _, _, .nil => rfl
  | _, _, _, _, .cons _ t => congrArg Nat.succ (Rks.length t)
theorem Rks.rpsB {ks : List Kd} {us : List U} {ds : List D} {fp : List Nat} (e : lvls ks = some n) (r : Rks pp Zr h1 ks us ds fp) (l : Lim pp B h h1 Zr fp) : Rps (Bd pp h1) h1 us ds :=
  r.rps e fun a z => z.elim (fun z => (l.1 a z).2) fun q => ⟨(l.2.1 a q).2.1, (l.2.1 a q).2.2.2⟩
theorem eo_list (hs : EsOk C CP rk es) : EOk C CP rk (.list es) := by
  intro pp n0 Z0 Z m F h σh σp w w' d k E I ev cc
  have cc : kNew (chkEs rk es m) = some (k, E) := cc
  unfold kNew at cc
  split at cc
  · rename_i ks E1 c1
    split at cc
    · rename_i n cn
      cases cc
      have ev : pb (evPs CP es σp w) (fun us w1 => ob (newLD us) fun d => some (d, w1)) = some (d, w') := ev
      obtain ⟨xs, w1, e1, ev⟩ := pb_some ev
      obtain ⟨y, e2, ev⟩ := ob_some ev
      cases ev
      obtain ⟨us, h1, Zr, fp, g1, x1, q1, r1, l1⟩ := hs I e1 c1
      obtain ⟨fp', s1, s2, r2⟩ := r1.ros cn (Nat.le_refl _) l1.2.2
      unfold newLD at e2
      split at e2
      · rename_i hl
        cases e2
        have ee : evE C (.list es) σh h = some (.ref h1.n, h1.push (.lst us)) := by
          refine (bd_eq g1).trans ?_
          unfold newL
          rw [if_pos (by rw [r1.length]; exact hl)]
        rw [ee]
        exact new_lst x1 q1 r2 (l1.froz s1 s2)
      · cases e2
    · cases cc
  · cases cc
theorem eo_tup (hs : EsOk C CP rk es) : EOk C CP rk (.tup es) := by
  intro pp n0 Z0 Z m F h σh σp w w' d k E I ev cc
  have cc : kNew (chkEs rk es m) = some (k, E) := cc
  unfold kNew at cc
  split at cc
  · rename_i ks E1 c1
    split at cc
    · rename_i n cn
      cases cc
      have ev : pb (evPs CP es σp w) (fun us w1 => ob (newTD us) fun d => some (d, w1)) = some (d, w') := ev
      obtain ⟨xs, w1, e1, ev⟩ := pb_some ev
      obtain ⟨y, e2, ev⟩ := ob_some ev
      cases ev
      obtain ⟨us, h1, Zr, fp, g1, x1, q1, r1, l1⟩ := hs I e1 c1
      obtain ⟨fp', s1, s2, r2⟩ := r1.ros cn (Nat.le_refl _) l1.2.2
      unfold newTD at e2
      split at e2
      · rename_i hl
        cases e2
        have ee : evE C (.tup es) σh h = some (.ref h1.n, h1.push (.tup us)) := by
          refine (bd_eq g1).trans ?_
          unfold newT
          rw [if_pos (by rw [r1.length]; exact hl)]
        rw [ee]
        exact new_tup x1 q1 r2 (l1.froz s1 s2)
      · cases e2
    · cases cc
  · cases cc
/-! ### two operands -/
theorem binS_p {op : Bop} {u v : U} {x y : D} {q : U} (r1 : Rp Z h u x) (r2 : Rp Z' h v y) (e : binD op x y = some d) (hq : scaP d = some q) : binU h op u v = some (q, h) := by
  cases op with
  | add =>
    cases x with
    | int i =>
      cases y with
      | int j => cases (r1.isca (v := .int i) rfl); cases (r2.isca (v := .int j) rfl); cases e; cases hq; rfl
      | _ => cases e
    | str i =>
      cases y with
      | str j =>
        cases (r1.isca (v := .str i) rfl); cases (r2.isca (v := .str j) rfl)
        have e : (if i.length + j.length ≤ sizeLine then some (D.str (i ++ j)) else none) = some d := e
        split at e
        · rename_i hc
          cases e; cases hq
          show (if i.length + j.length ≤ sizeLine then some (U.str (i ++ j), h) else none) = _
          rw [if_pos hc]
        · cases e
      | _ => cases e
    | lst xs =>
      cases y with
      | lst ys =>
        have e : newLD (xs ++ ys) = some d := e
        unfold newLD at e
        split at e
        · cases e; cases hq
        · cases e
      | _ => cases e
    | tup xs =>
      cases y with
      | tup ys =>
        have e : (if (xs.isEmpty || ys.isEmpty) = true then none else newTD (xs ++ ys)) = some d := e
        split at e
        · cases e
        · unfold newTD at e
          split at e
          · cases e; cases hq
          · cases e
      | _ => cases e
    | _ => cases e
  | mul =>
    cases x with
    | int i =>
      cases y with
      | int j =>
        cases (r1.isca (v := .int i) rfl); cases (r2.isca (v := .int j) rfl)
        have e : (if mulOk i j then some (D.int (i * j)) else none) = some d := e
        split at e
        · rename_i hc
          cases e; cases hq
          show (if mulOk i j then some (U.int (i * j), h) else none) = _
          rw [if_pos hc]
        · cases e
      | _ => cases e
    | lst xs =>
      cases y with
      | int j =>
        have e : (if repOk xs.length j then some (D.lst (List.replicate j.toNat xs).flatten) else none) = some d := e
        split at e
        · cases e; cases hq
        · cases e
      | _ => cases e
    | _ => cases e
  | sub =>
    cases x with
    | int i =>
      cases y with
      | int j => cases (r1.isca (v := .int i) rfl); cases (r2.isca (v := .int j) rfl); cases e; cases hq; rfl
      | _ => cases e
    | _ => cases e
  | fdiv =>
    cases x with
    | int i =>
      cases y with
      | int j =>
        cases (r1.isca (v := .int i) rfl); cases (r2.isca (v := .int j) rfl)
        have e : (if divOk j then some (D.int (i / j)) else none) = some d := e
        split at e
        · rename_i hc
          cases e; cases hq
          show (if divOk j then some (U.int (i / j), h) else none) = _
          rw [if_pos hc]
        · cases e
      | _ => cases e
    | _ => cases e
  | mod =>
    cases x with
    | int i =>
      cases y with
      | int j =>
        cases (r1.isca (v := .int i) rfl); cases (r2.isca (v := .int j) rfl)
        have e : (if 0 < j then some (D.int (i % j)) else none) = some d := e
        split at e
        · rename_i hc
          cases e; cases hq
          show (if 0 < j then some (U.int (i % j), h) else none) = _
          rw [if_pos hc]
        · cases e
      | _ => cases e
    | _ => cases e
  | pow =>
    cases x with
    | int i =>
      cases y with
      | int j =>
        cases (r1.isca (v := .int i) rfl); cases (r2.isca (v := .int j) rfl)
        have e : (if powOk i j then some (D.int (i ^ j.toNat)) else none) = some d := e
        split at e
        · rename_i hc
          cases e; cases hq
          show (if powOk i j then some (U.int (i ^ j.toNat), h) else none) = _
          rw [if_pos hc]
        · cases e
      | _ => cases e
    | _ => cases e
/-- where the result is no container -/
theorem binD_sca {op : Bop} {x y : D} (e : binD op x y = some d) (hs : (∃ u, scaP x = some u) ∨ (∃ u, scaP y = some u ∧ op ≠ .mul) ∨ (op ≠ .add ∧ op ≠ .mul)) : ∃ q, scaP d = some q := by
  have out : ∀ {z : Option D} {c : Bool} {q : D} {v : U}, scaP q = some v → (if c = true then some q else none) = some d → ∃ q, scaP d = some q := by
    intro z c q v hv e
    split at e
    · cases e; exact ⟨_, hv⟩
    · cases e
  cases op with
  | add =>
    cases x with
    | int i => cases y with
      | int j => cases e; exact ⟨_, rfl⟩
      | _ => cases e
    | str i => cases y with
      | str j =>
        have e : (if i.length + j.length ≤ sizeLine then some (D.str (i ++ j)) else none) = some d := e
        split at e
        · cases e; exact ⟨_, rfl⟩
        · cases e
      | _ => cases e
    | lst xs => cases y with
      | lst ys => rcases hs with ⟨u, z⟩ | ⟨u, z, _⟩ | z
                  · cases z
                  · cases z
                  · exact absurd rfl z.1
      | _ => cases e
    | tup xs => cases y with
      | tup ys => rcases hs with ⟨u, z⟩ | ⟨u, z, _⟩ | z
                  · cases z
                  · cases z
                  · exact absurd rfl z.1
      | _ => cases e
    | _ => cases e
  | mul =>
    cases x with
    | int i => cases y with
      | int j =>
        have e : (if mulOk i j = true then some (D.int (i * j)) else none) = some d := e
        exact out (z := none) (v := .int (i * j)) rfl e
      | _ => cases e
    | lst xs => rcases hs with ⟨u, z⟩ | ⟨u, z, z2⟩ | z
                · cases z
                · exact absurd rfl z2
                · exact absurd rfl z.2
    | _ => cases e
  | sub =>
    cases x with
    | int i => cases y with
      | int j => cases e; exact ⟨_, rfl⟩
      | _ => cases e
    | _ => cases e
  | fdiv =>
    cases x with
    | int i => cases y with
      | int j =>
        have e : (if divOk j = true then some (D.int (i / j)) else none) = some d := e
        exact out (z := none) (v := .int (i / j)) rfl e
      | _ => cases e
    | _ => cases e
  | mod =>
    cases x with
    | int i => cases y with
      | int j =>
        have e : (if 0 < j then some (D.int (i % j)) else none) = some d := e
        split at e
        · cases e; exact ⟨_, rfl⟩
        · cases e
      | _ => cases e
    | _ => cases e
  | pow =>
    cases x with
    | int i => cases y with
      | int j =>
        have e : (if powOk i j = true then some (D.int (i ^ j.toNat)) else none) = some d := e
        exact out (z := none) (v := .int (i ^ j.toNat)) rfl e
      | _ => cases e
    | _ => cases e
theorem RE.own_sc {k : Kd} {o : Res} {u : U} (hk : k ≠ .pu) (e : o = some (u, h1)) (f : Fr pp h h1) (q : PWok pp w1 h1) (r : scaP d = some u) : RE pp B h k d w1 o := by
  cases k with
  | sc => exact .sc e f q r
  | own n => exact ⟨_, h1, fun _ => False, [], e, f, q, .sca r, lim_sc⟩
  | pu => exact absurd rfl hk
/-- the scalar end of an operation -/
theorem bin_sc {op : Bop} {x y : D} {w2 : PW} {k : Kd} {u v : U} (hk : k ≠ .pu) (g1 : evE C a σh h = some (u, h1)) (g2 : evE C b σh h1 = some (v, h2)) (x2 : Fr pp h h2) (q2 : PWok pp w2 h2) (r1 : Rp Z h2 u x) (r2 : Rp Z' h2 v y) (e : binD op x y = some d) {q : U} (hq : scaP d = some q) :
    RE pp B h k d w2 (evE C (.bin op a b) σh h) := by
  have ee : evE C (.bin op a b) σh h = some (q, h2) := (bd_eq g1).trans ((bd_eq g2).trans (binS_p r1 r2 e hq))
  exact .own_sc hk ee x2 q2 hq
theorem Rk.sca {k : Kd} {u : U} {fp : List Nat} (hk : k = .sc) (r : Rk pp Z h k u d fp) : scaP d = some u := by subst hk; exact r.1
theorem eo_bin {op : Bop} (ha : EOk C CP rk a) (hb : EOk C CP rk b) : EOk C CP rk (.bin op a b) := by
  intro pp n0 Z0 Z m F h σh σp w w' d k E I ev cc
  have cc : kBin op a b m (np (chkE rk a m)) (np (chkE rk b m)) = some (k, E) := cc
  have ev0 : pb (evP CP a σp w) (fun x w1 => pb (evP CP b σp w1) fun y w2 => ob (binD op x y) fun r => some (r, w2)) = some (d, w') := ev
  obtain ⟨x, w1, e1, ev⟩ := pb_some ev0
  obtain ⟨y, w2, e2, ev⟩ := pb_some ev
  obtain ⟨t, et, ev⟩ := ob_some ev
  cases ev
  cases ca : np (chkE rk a m) with
  | none => rw [ca] at cc; cases cc
  | some qa =>
    cases cb : np (chkE rk b m) with
    | none => rw [ca, cb] at cc; cases cc
    | some qb =>
      rw [ca, cb] at cc
      obtain ⟨ka, Ea⟩ := qa
      obtain ⟨kb, Eb⟩ := qb
      obtain ⟨u, h1, Z1, f1, g1, x1, q1, r1, l1⟩ := ha I e1 (np_some ca).1
      obtain ⟨v, h2, Z2, f2, g2, x2, q2, r2, l2⟩ := hb (I.fr x1 q1) e2 (np_some cb).1
      have p1 := (r1.rp l1 (np_some ca).2).up x2
      have p2 := r2.rp l2 (np_some cb).2
      have scal : k ≠ .pu → (∃ q, scaP d = some q) → RE pp (EscZ Z F σh E) h k d w' (evE C (.bin op a b) σh h) := fun hk ⟨q, hq⟩ => bin_sc hk g1 g2 (x1.trans x2) q2 p1 p2 et hq
      have scal1 : (op ≠ .add ∧ op ≠ .mul) → some (Kd.sc, ([] : Es)) = some (k, E) → RE pp (EscZ Z F σh E) h k d w' (evE C (.bin op a b) σh h) := fun ho c => by
        cases c
        exact scal (by decide) (binD_sca et (.inr (.inr ho)))
      cases op with
      | sub => exact scal1 ⟨fun z => (nomatch z), fun z => (nomatch z)⟩ cc
      | fdiv => exact scal1 ⟨fun z => (nomatch z), fun z => (nomatch z)⟩ cc
      | mod => exact scal1 ⟨fun z => (nomatch z), fun z => (nomatch z)⟩ cc
      | pow => exact scal1 ⟨fun z => (nomatch z), fun z => (nomatch z)⟩ cc
      | add =>
        have cc : (if ka = .sc ∨ kb = .sc then some (Kd.sc, ([] : Es)) else match chkC (some (ka, Ea)) a m, chkC (some (kb, Eb)) b m with
          | some (n1, E1), some (n2, E2) => some (.own (min n1 n2 + 1), E1 ++ E2)
          | _, _ => none) = some (k, E) := cc
        split at cc
        · rename_i hk
          cases cc
          refine scal (by decide) (binD_sca et ?_)
          rcases hk with z | z
          · exact .inl ⟨_, r1.sca z⟩
          · exact .inr (.inl ⟨_, r2.sca z, fun z => nomatch z⟩)
        · split at cc
          · rename_i n1 E1 n2 E2 c1 c2
            cases cc
            obtain ⟨u', h1', Z1, f1, g1', x1, q1, k1, l1⟩ := cOk ha I e1 ca c1
            rw [g1] at g1'
            cases g1'
            obtain ⟨v', h2', Z2, f2, g2', x2, q2, k2, l2⟩ := cOk hb (I.fr x1 q1) e2 cb c2
            rw [g2] at g2'
            cases g2'
            by_cases hq : ∃ q, scaP d = some q
            · exact scal (by exact fun z => Kd.noConfusion z) hq
            · have k1 := k1.up x2 l1
              have lj := Lim.join (B := EscZ Z F σh (E1 ++ E2)) (fun a z => (I.esz z).2.1) x1 x2 (l1.wider fun a z => z.l) (l2.wider fun a z => z.r)
              cases k1 with
              | sca e => exact absurd (binD_sca et (.inl ⟨_, e⟩)) hq
              | @lst xa usa dsa fa ga ba ta =>
                cases k2 with
                | sca e => exact absurd (binD_sca et (.inr (.inl ⟨_, e, fun z => nomatch z⟩))) hq
                | tup gb bb tb => cases et
                | @lst xb usb dsb fb gb bb tb =>
                  have et : newLD (dsa ++ dsb) = some d := et
                  unfold newLD at et
                  split at et
                  · rename_i hl
                    cases et
                    have ee : evE C (.bin .add a b) σh h = some (.ref h2.n, h2.push (.lst (usa ++ usb))) := by
                      refine (bd_eq g1).trans ((bd_eq g2).trans ?_)
                      show (match h2.get xa, h2.get xb with
                        | some (.lst xs), some (.lst ys) => newL h2 (xs ++ ys)
                        | some (.tup xs), some (.tup ys) => if xs = [] ∨ ys = [] then none else newT h2 (xs ++ ys)
                        | _, _ => none) = _
                      rw [ga, gb]
                      dsimp only
                      unfold newL
                      rw [if_pos (by rw [List.length_append, ta.length, tb.length, ← List.length_append]; exact hl)]
                    rw [ee]
                    obtain ⟨fa', sa1, sa2, ra⟩ := ta.weak (Nat.min_le_left n1 n2) l1.2.2
                    obtain ⟨fb', sb1, sb2, rb⟩ := tb.weak (Nat.min_le_right n1 n2) l2.2.2
                    have hdis := (List.nodup_append.mp lj.2.2).2.2
                    have hn : (fa' ++ fb').Nodup := List.nodup_append.mpr ⟨sa2, sb2, fun p hp q hq => hdis p (sa1 p hp) q (sb1 q hq)⟩
                    have hs : ∀ p ∈ fa' ++ fb', p ∈ f1 ++ f2 := fun p hp => (List.mem_append.mp hp).elim (fun q => List.mem_append_left _ (sa1 p q)) fun q => List.mem_append_right _ (sb1 p q)
                    refine new_lst (x1.trans x2) q2 ((ra.mono fun p z => ?_).app (rb.mono fun p z => ?_)) (lj.froz hs hn)
                    · rcases z with z | ⟨z1, z2⟩
                      · exact .inl (.inl z)
                      · refine .inr ⟨List.mem_append_left _ z1, fun y => ?_⟩
                        rcases List.mem_append.mp y with y | y
                        · exact z2 y
                        · exact hdis p z1 p (sb1 p y) rfl
                    · rcases z with z | ⟨z1, z2⟩
                      · exact .inl (.inr z)
                      · refine .inr ⟨List.mem_append_right _ z1, fun y => ?_⟩
                        rcases List.mem_append.mp y with y | y
                        · exact hdis p (sa1 p y) p z1 rfl
                        · exact z2 y
                  · cases et
              | @tup xa usa dsa fa ga ba ta =>
                cases k2 with
                | sca e => exact absurd (binD_sca et (.inr (.inl ⟨_, e, fun z => nomatch z⟩))) hq
                | lst gb bb tb => cases et
                | @tup xb usb dsb fb gb bb tb =>
                  have et : (if (dsa.isEmpty || dsb.isEmpty) = true then none else newTD (dsa ++ dsb)) = some d := et
                  split at et
                  · cases et
                  · rename_i hne
                    unfold newTD at et
                    split at et
                    · rename_i hl
                      cases et
                      have hne' : ¬ (usa = [] ∨ usb = []) := by
                        intro z
                        apply hne
                        rcases z with z | z
                        · subst z
                          have := ta.length
                          cases dsa with
                          | nil => rfl
                          | cons _ _ => cases this
                        · subst z
                          have := tb.length
                          cases dsb with
                          | nil => cases dsa <;> rfl
                          | cons _ _ => cases this
                      have ee : evE C (.bin .add a b) σh h = some (.ref h2.n, h2.push (.tup (usa ++ usb))) := by
                        refine (bd_eq g1).trans ((bd_eq g2).trans ?_)
                        show (match h2.get xa, h2.get xb with
                          | some (.lst xs), some (.lst ys) => newL h2 (xs ++ ys)
                          | some (.tup xs), some (.tup ys) => if xs = [] ∨ ys = [] then none else newT h2 (xs ++ ys)
                          | _, _ => none) = _
                        rw [ga, gb]
                        dsimp only
                        rw [if_neg hne']
                        unfold newT
                        rw [if_pos (by rw [List.length_append, ta.length, tb.length, ← List.length_append]; exact hl)]
                      rw [ee]
                      obtain ⟨fa', sa1, sa2, ra⟩ := ta.weak (Nat.min_le_left n1 n2) l1.2.2
                      obtain ⟨fb', sb1, sb2, rb⟩ := tb.weak (Nat.min_le_right n1 n2) l2.2.2
                      have hdis := (List.nodup_append.mp lj.2.2).2.2
                      have hn : (fa' ++ fb').Nodup := List.nodup_append.mpr ⟨sa2, sb2, fun p hp q hq => hdis p (sa1 p hp) q (sb1 q hq)⟩
                      have hs : ∀ p ∈ fa' ++ fb', p ∈ f1 ++ f2 := fun p hp => (List.mem_append.mp hp).elim (fun q => List.mem_append_left _ (sa1 p q)) fun q => List.mem_append_right _ (sb1 p q)
                      refine new_tup (x1.trans x2) q2 ((ra.mono fun p z => ?_).app (rb.mono fun p z => ?_)) (lj.froz hs hn)
                      · rcases z with z | ⟨z1, z2⟩
                        · exact .inl (.inl z)
                        · refine .inr ⟨List.mem_append_left _ z1, fun y => ?_⟩
                          rcases List.mem_append.mp y with y | y
                          · exact z2 y
                          · exact hdis p z1 p (sb1 p y) rfl
                      · rcases z with z | ⟨z1, z2⟩
                        · exact .inl (.inr z)
                        · refine .inr ⟨List.mem_append_right _ z1, fun y => ?_⟩
                          rcases List.mem_append.mp y with y | y
                          · exact hdis p (sa1 p y) p z1 rfl
                          · exact z2 y
                    · cases et
          · cases cc
      | mul =>
        have cc : (if ka = .sc then some (Kd.sc, ([] : Es)) else match chkC (some (ka, Ea)) a m with
          | some (_, E1) => some (.own 1, E1)
          | none => none) = some (k, E) := cc
        split at cc
        · rename_i hk
          cases cc
          exact scal (by decide) (binD_sca et (.inl ⟨_, r1.sca hk⟩))
        · split at cc
          · rename_i n1 E1 c1
            cases cc
            obtain ⟨u', h1', Z1, f1, g1', x1, q1, k1, l1⟩ := cOk ha I e1 ca c1
            rw [g1] at g1'
            cases g1'
            by_cases hq : ∃ q, scaP d = some q
            · exact scal (by exact fun z => Kd.noConfusion z) hq
            · have k1 := k1.up x2 l1
              have l1 := l1.up x2
              cases k1 with
              | sca e => exact absurd (binD_sca et (.inl ⟨_, e⟩)) hq
              | tup ga ba ta => cases et
              | @lst xa usa dsa fa ga ba ta =>
                cases y with
                | int j =>
                  cases (p2.isca (v := .int j) rfl)
                  have et : (if repOk dsa.length j then some (D.lst (List.replicate j.toNat dsa).flatten) else none) = some d := et
                  split at et
                  · rename_i hc
                    cases et
                    have ee : evE C (.bin .mul a b) σh h = some (.ref h2.n, h2.push (.lst (List.replicate j.toNat usa).flatten)) := by
                      refine (bd_eq g1).trans ((bd_eq g2).trans ?_)
                      show (match h2.get xa with
                        | some (.lst xs) => if repOk xs.length j then some (U.ref h2.n, h2.push (.lst (List.replicate j.toNat xs).flatten)) else none
                        | _ => none) = _
                      rw [ga]
                      dsimp only
                      rw [ta.length, if_pos hc]
                    rw [ee]
                    exact new_lst (x1.trans x2) q2 ((ta.rps fun p z => z).rep j.toNat).ros ((l1.froz (fp' := []) (fun _ z => (nomatch z)) .nil).mono2 fun p z => z.imp id fun q => ⟨q, fun z => (nomatch z)⟩)
                  · cases et
                | _ => cases et
          · cases cc
end
end Mi

set_option maxRecDepth 100000
/-! Mi, part P9: subscripts, slices, builtins, calls. -/
namespace Mi
open PySem
section
variable {C : Calls} {CP : CallsP} {rk : Nat → Sg}
variable {pp : Option Nat} {n0 : Nat} {Z0 Z Z' B Zr : Nat → Prop} {m : Mks} {F : Nat → List Nat} {h h1 h2 h' : Hm} {σh : Env} {σp : PE} {w w1 w2 w' : PW} {n : Nat} {a b c e i : Ex} {d : D} {es : Exs}
theorem isPu_some (e : isPu a m = true) : ∃ i, a = .var i ∧ mkO m i = some .pu := by
  cases a with
  | var i => exact ⟨i, rfl, of_decide_eq_true e⟩
  | _ => cases e
theorem atI_map {α β : Type} (f : α → β) (l : List α) (k : Int) : L2.atI (l.map f) k = (L2.atI l k).map f := by
  unfold L2.atI
  rw [List.length_map]
  cases L2.ixN l.length k with
  | none => rfl
  | some j => simp
theorem eo_sub (ha : EOk C CP rk a) (hi : EOk C CP rk i) : EOk C CP rk (.sub a i) := by
  intro pp n0 Z0 Z m F h σh σp w w' d k E I ev cc
  have cc : kSub a m (np (chkE rk a m)) (np (chkE rk i m)) = some (k, E) := cc
  have ev0 : pb (evP CP a σp w) (fun x w1 => pb (evP CP i σp w1) fun y w2 => ob (subP w2 x y) fun r => some (r, w2)) = some (d, w') := ev
  obtain ⟨x, w1, e1, ev⟩ := pb_some ev0
  obtain ⟨y, w2, e2, ev⟩ := pb_some ev
  obtain ⟨t, et, ev⟩ := ob_some ev
  cases ev
  unfold kSub at cc
  split at cc
  · rename_i qi ci
    split at cc
    · rename_i hp
      cases cc
      obtain ⟨j, rfl, hk⟩ := isPu_some hp
      have e1 : ob (getP σp j) (fun d => some (d, w)) = some (x, w1) := e1
      cases hd : getP σp j with
      | none => rw [hd] at e1; cases e1
      | some d0 =>
        rw [hd] at e1
        cases e1
        obtain ⟨u, eu, rx, _, p, hpp, rfl⟩ := I.sl j _ hk _ hd
        subst rx
        have g1 : evE C (.var j) σh h = some (.ref p, h) := by
          show ob (getE σh j) _ = _
          rw [eu]; rfl
        obtain ⟨v, h2, g2, x2, q2, r2⟩ := hi.wr I e2 ci
        have et : subW w' y = some d := et
        cases y with
        | int z =>
          have et : (match L2.atI w' z with | some z => some (D.int z) | none => none) = some d := et
          cases (r2.isca (v := .int z) rfl)
          have gp := q2 p hpp
          split at et
          · rename_i t ht
            cases et
            refine .sc (u := .int t) ((bd_eq g1).trans ((bd_eq g2).trans (ob_eq ?_))) x2 q2 rfl
            show subU h2 (.ref p) (.int z) = some (.int t)
            have : rdS h2 (.ref p) = some (w'.map .int) := by
              unfold rdS; dsimp only; rw [gp]
            unfold subU
            rw [this]
            dsimp only
            rw [atI_map, ht]
            rfl
          · cases et
        | _ => cases et
    · split at cc
      · rename_i r ca
        split at cc
        · rename_i n1 E1 c1
          cases cc
          obtain ⟨u, h1, Z1, f1, g1, x1, q1, k1, l1⟩ := cOk ha I e1 ca c1
          obtain ⟨v, h2, g2, x2, q2, r2⟩ := hi.wr (I.fr x1 q1) e2 ci
          have k1 := k1.up x2 l1
          have l1 := l1.up x2
          have fin : ∀ (us : List U) (ds : List D) (fp : List Nat) (a0 : Nat), x ≠ .pur → rdSD x = some ds → u = .ref a0 → rdS h2 (.ref a0) = some us → Ros Z1 h2 n1 us ds fp → Sub fp f1 → RE pp (EscZ Z F σh E) h (.own n1) d w' (evE C (.sub a i) σh h) := by
            intro us ds fp a0 hx hds hu hr t s
            have et : subD x y = some d := by
              cases x with
              | pur => exact absurd rfl hx
              | _ => exact et
            unfold subD at et
            rw [hds] at et
            cases y with
            | int z =>
              have et : L2.atI ds z = some d := et
              cases (r2.isca (v := .int z) rfl)
              unfold L2.atI at et
              cases hj : L2.ixN ds.length z with
              | none => rw [hj] at et; cases et
              | some j =>
                rw [hj] at et
                have et : ds[j]? = some d := et
                obtain ⟨q, fp', hq, s', rq⟩ := t.get et
                have ee : evE C (.sub a i) σh h = some (q, h2) := by
                  refine (bd_eq g1).trans ((bd_eq g2).trans (ob_eq ?_))
                  subst hu
                  unfold subU
                  rw [hr]
                  dsimp only
                  unfold L2.atI
                  rw [t.length, hj]
                  exact hq
                exact ⟨q, h2, Z1, fp', ee, x1.trans x2, q2, rq, l1.sub (s'.trans s)⟩
            | _ => cases et
          cases k1 with
          | sca e => cases x <;> first | (cases e; cases et) | cases e
          | @lst xa us ds fp ga ba ta => exact fin us ds _ xa (fun z => by cases z) rfl rfl (by unfold rdS; dsimp only; rw [ga]) ta (.refl _)
          | @tup xa us ds fp ga ba ta => exact fin us ds _ xa (fun z => by cases z) rfl rfl (by unfold rdS; dsimp only; rw [ga]) ta (.refl _)
        · cases cc
      · cases cc
  · cases cc
theorem bnd_p {f : Bool} {u : U} {x : D} {r : Option Int} (p : Rp Z h u x) (e : bndD f x = some r) : bnd f u = some r := by
  unfold bndD at e
  split at e
  · cases e; rfl
  · cases (p.isca (v := .int _) rfl); exact e
  · cases e
theorem eo_slice {fl fh : Bool} {lo hi : Ex} (ha : EOk C CP rk a) (hl : EOk C CP rk lo) (hh : EOk C CP rk hi) : EOk C CP rk (.slice a fl fh lo hi) := by
  intro pp n0 Z0 Z m F h σh σp w w' d k E I ev cc
  have cc : kSlice a m (np (chkE rk a m)) (np (chkE rk lo m)) (np (chkE rk hi m)) = some (k, E) := cc
  have ev0 : pb (evP CP a σp w) (fun x w1 => pb (evP CP lo σp w1) fun l w2 => pb (evP CP hi σp w2) fun r w3 => ob (sliceD x fl fh l r) fun d => some (d, w3)) = some (d, w') := ev
  obtain ⟨x, w1, e1, ev⟩ := pb_some ev0
  obtain ⟨y, w2, e2, ev⟩ := pb_some ev
  obtain ⟨z, w3, e3, ev⟩ := pb_some ev
  obtain ⟨t, et, ev⟩ := ob_some ev
  cases ev
  unfold kSlice at cc
  split at cc
  · rename_i ql qh cl ch
    unfold kCon at cc
    split at cc
    · rename_i r ca
      split at cc
      · rename_i n1 E1 c1
        cases cc
        obtain ⟨u, h1, Z1, f1, g1, x1, q1, k1, l1⟩ := cOk ha I e1 ca c1
        obtain ⟨v, h2, g2, x2, q2, r2⟩ := hl.wr (I.fr x1 q1) e2 cl
        obtain ⟨v3, h3, g3, x3, q3, r3⟩ := hh.wr (I.fr (x1.trans x2) q2) e3 ch
        have k1 := k1.up (x2.trans x3) l1
        have l1 := l1.up (x2.trans x3)
        cases k1 with
        | sca e => cases x <;> first | (cases e; cases et) | cases e
        | tup ga ba ta => cases et
        | @lst xa us ds fp ga ba ta =>
          have et : (match bndD fl y with
            | none => none
            | some l => match bndD fh z with
              | none => none
              | some r => some (D.lst (cut ds l r))) = some d := et
          split at et
          · cases et
          · rename_i lo' hlo
            split at et
            · cases et
            · rename_i hi' hhi
              cases et
              obtain ⟨fp', s, tc⟩ := ta.cut lo' hi'
              have ee : evE C (.slice a fl fh lo hi) σh h = some (.ref h3.n, h3.push (.lst (cut us lo' hi'))) := by
                refine (bd_eq g1).trans ((bd_eq g2).trans ((bd_eq g3).trans ?_))
                unfold sliceU
                have : rdL h3 (.ref xa) = some us := by unfold rdL; dsimp only; rw [ga]
                rw [this, bnd_p r2 hlo, bnd_p r3 hhi]
              rw [ee]
              exact new_lst ((x1.trans x2).trans x3) q3 tc (l1.sub s)
      · cases cc
    · cases cc
  · cases cc
theorem eo_rev (ha : EOk C CP rk a) : EOk C CP rk (.rev a) := by
  intro pp n0 Z0 Z m F h σh σp w w' d k E I ev cc
  have cc : kCon a m (np (chkE rk a m)) = some (k, E) := cc
  have ev0 : pb (evP CP a σp w) (fun x w1 => ob (rdLD x) fun xs => some (.lst xs.reverse, w1)) = some (d, w') := ev
  obtain ⟨x, w1, e1, ev⟩ := pb_some ev0
  obtain ⟨t, et, ev⟩ := ob_some ev
  cases ev
  unfold kCon at cc
  split at cc
  · rename_i r ca
    split at cc
    · rename_i n1 E1 c1
      cases cc
      obtain ⟨u, h1, Z1, f1, g1, x1, q1, k1, l1⟩ := cOk ha I e1 ca c1
      cases k1 with
      | sca e => cases x <;> first | (cases e; cases et) | cases e
      | tup ga ba ta => cases et
      | @lst xa us ds fp ga ba ta =>
        cases et
        obtain ⟨fp', s, tc⟩ := ta.rev
        have ee : evE C (.rev a) σh h = some (.ref h1.n, h1.push (.lst us.reverse)) := by
          refine (bd_eq g1).trans (ob_eq ?_)
          unfold rdL; dsimp only; rw [ga]
        rw [ee]
        exact new_lst x1 q1 tc (l1.sub s)
    · cases cc
  · cases cc
theorem biS_p {b : Bi} {us : List U} {ds : List D} (hb : biB b = true) (r : Rps Z h us ds) (e : biD b ds = some d) : ∃ u, biU h b us = some (u, h) ∧ scaP d = some u := by
  cases r with
  | nil => cases b <;> cases e
  | @cons u us x ds r t =>
    cases t with
    | @cons v us y ds r2 t =>
      cases t with
      | cons _ _ => cases b <;> cases x <;> first | cases e | (cases y <;> cases e)
      | nil =>
        cases b with
        | min2 => cases x with
          | int i => cases y with
            | int j => cases (r.isca (v := .int i) rfl); cases (r2.isca (v := .int j) rfl); cases e; exact ⟨_, rfl, rfl⟩
            | _ => cases e
          | _ => cases e
        | max2 => cases x with
          | int i => cases y with
            | int j => cases (r.isca (v := .int i) rfl); cases (r2.isca (v := .int j) rfl); cases e; exact ⟨_, rfl, rfl⟩
            | _ => cases e
          | _ => cases e
        | _ => cases x <;> cases e
    | nil =>
      cases b with
      | len => cases x with
        | lst xs =>
          cases e
          obtain ⟨us, g, t⟩ := rdS_p r rfl
          refine ⟨.int us.length, ?_, by rw [t.length]; rfl⟩
          show (match rdS h u with | some xs => some (U.int xs.length, h) | none => _) = _
          rw [g]
        | tup xs =>
          cases e
          obtain ⟨us, g, t⟩ := rdS_p r rfl
          refine ⟨.int us.length, ?_, by rw [t.length]; rfl⟩
          show (match rdS h u with | some xs => some (U.int xs.length, h) | none => _) = _
          rw [g]
        | str z =>
          cases (r.isca (v := .str z) rfl)
          have e : (if z.length ≤ sizeLine then some (D.int z.length) else none) = some d := e
          split at e
          · rename_i hc
            cases e
            exact ⟨.int z.length, if_pos hc, rfl⟩
          · cases e
        | _ => cases e
      | sum => cases x with
        | lst xs =>
          have e : (match intsD xs with | none => none | some l => some (D.int l.sum)) = some d := e
          split at e
          · cases e
          · rename_i l hl
            cases e
            obtain ⟨us, g, t⟩ := rdL_p r
            refine ⟨.int l.sum, ?_, rfl⟩
            show (match rdL h u with | none => none | some xs => match intsOf xs with | none => none | some l => some (U.int l.sum, h)) = _
            rw [g]; dsimp only; rw [intsD_p t hl]
        | _ => cases e
      | min1 => cases x with
        | lst xs =>
          have e : (match intsD xs with | none => none | some l => if l = [] then none else some (D.int (minI l))) = some d := e
          split at e
          · cases e
          · rename_i l hl
            split at e
            · cases e
            · rename_i hne
              cases e
              obtain ⟨us, g, t⟩ := rdL_p r
              refine ⟨.int (minI l), ?_, rfl⟩
              show (match rdL h u with | none => none | some xs => match intsOf xs with | none => none | some l => if l = [] then none else some (U.int (minI l), h)) = _
              rw [g]; dsimp only; rw [intsD_p t hl]; dsimp only; rw [if_neg hne]
        | _ => cases e
      | max1 => cases x with
        | lst xs =>
          have e : (match intsD xs with | none => none | some l => if l = [] then none else some (D.int (maxI l))) = some d := e
          split at e
          · cases e
          · rename_i l hl
            split at e
            · cases e
            · rename_i hne
              cases e
              obtain ⟨us, g, t⟩ := rdL_p r
              refine ⟨.int (maxI l), ?_, rfl⟩
              show (match rdL h u with | none => none | some xs => match intsOf xs with | none => none | some l => if l = [] then none else some (U.int (maxI l), h)) = _
              rw [g]; dsimp only; rw [intsD_p t hl]; dsimp only; rw [if_neg hne]
        | _ => cases e
      | all => cases x with
        | lst xs =>
          have e : (match boolsD xs with | none => none | some l => some (D.bl (l.all id))) = some d := e
          split at e
          · cases e
          · rename_i l hl
            cases e
            obtain ⟨us, g, t⟩ := rdL_p r
            refine ⟨.bl (l.all id), ?_, rfl⟩
            show (match rdL h u with | none => none | some xs => match boolsOf xs with | none => none | some l => some (U.bl (l.all id), h)) = _
            rw [g]; dsimp only; rw [boolsD_p t hl]
        | _ => cases e
      | any => cases x with
        | lst xs =>
          have e : (match boolsD xs with | none => none | some l => some (D.bl (l.any id))) = some d := e
          split at e
          · cases e
          · rename_i l hl
            cases e
            obtain ⟨us, g, t⟩ := rdL_p r
            refine ⟨.bl (l.any id), ?_, rfl⟩
            show (match rdL h u with | none => none | some xs => match boolsOf xs with | none => none | some l => some (U.bl (l.any id), h)) = _
            rw [g]; dsimp only; rw [boolsD_p t hl]
        | _ => cases e
      | abs => cases x with
        | int i => cases (r.isca (v := .int i) rfl); cases e; exact ⟨_, rfl, rfl⟩
        | _ => cases e
      | int => cases x with
        | int i => cases (r.isca (v := .int i) rfl); cases e; exact ⟨_, rfl, rfl⟩
        | bl i => cases (r.isca (v := .bl i) rfl); cases e; exact ⟨_, rfl, rfl⟩
        | _ => cases e
      | min2 => cases x <;> cases e
      | max2 => cases x <;> cases e
      | list => cases hb
      | tuple => cases hb
      | sorted => cases hb
      | repr =>
        have e : (if hgt x ≤ 64 ∧ (SeqAt.shaped (py x) && ((py x).showable && decide ((py x).shown.length ≤ sizeLine))) = true then some (D.str (py x).shown) else none) = some d := e
        split at e
        · rename_i hx
          cases e
          refine ⟨.str (py x).shown, ?_, rfl⟩
          show (match toD h 64 u with
            | none => none
            | some d => if (SeqAt.shaped d && (d.showable && decide (d.shown.length ≤ sizeLine))) = true then some (U.str d.shown, h) else none) = _
          rw [toD_p 64 r hx.1]
          exact if_pos hx.2
        · cases e
theorem eo_bi {b : Bi} (hs : EsOk C CP rk es) (h1e : ∀ e, es = .cons e .nil → EOk C CP rk e) : EOk C CP rk (.bi b es) := by
  intro pp n0 Z0 Z m F h σh σp w w' d k E I ev cc
  have cc : kBi b es m (chkEs rk es m) = some (k, E) := cc
  have ev0 : pb (evPs CP es σp w) (fun us w1 => ob (biD b us) fun d => some (d, w1)) = some (d, w') := ev
  obtain ⟨xs, w1, e1, ev⟩ := pb_some ev0
  obtain ⟨t, et, ev⟩ := ob_some ev
  cases ev
  unfold kBi at cc
  split at cc
  · rename_i ks E1 c1
    split at cc
    · rename_i n cn
      obtain ⟨us, h1, Zr, fp, g1, x1, q1, r1, l1⟩ := hs I e1 c1
      split at cc
      · rename_i hb
        cases cc
        obtain ⟨u, g2, hu⟩ := biS_p hb (r1.rpsB cn l1) et
        exact .sc ((bd_eq g1).trans g2) x1 q1 hu
      · rename_i hb
        have one : kBi1 m E1 es ks = some (k, E) → (b = .list ∨ b = .tuple) → RE pp (EscZ Z F σh E) h k d w' (evE C (.bi b es) σh h) := by
          clear cc
          intro cc hb2
          unfold kBi1 at cc
          split at cc
          · rename_i e0 k0 _
            have c1' : (match chkE rk e0 m, (some ([], []) : RRs) with
              | some (k, E), some (ks, E') => some (k :: ks, E ++ E')
              | _, _ => none) = some ([k0], E1) := c1
            split at c1'
            · rename_i k0' E0 ks' E' ce ch
              cases ch
              cases c1'
              have hk0 : k0 ≠ .pu := fun z => by subst z; cases cn
              have ce' : np (chkE rk e0 m) = some (k0, E0) := by
                rw [ce]
                cases k0 with
                | pu => exact absurd rfl hk0
                | _ => rfl
              unfold kCon at cc
              rw [List.append_nil] at cc
              split at cc
              · rename_i r hr
                cases hr
                split at cc
                · rename_i n1 E1 cC
                  cases cc
                  have e1' : pb (evP CP e0 σp w) (fun u w1 => pb (some ([], w1)) fun us w2 => some (u :: us, w2)) = some (xs, w') := e1
                  obtain ⟨x, w2, e2, e3⟩ := pb_some e1'
                  cases e3
                  obtain ⟨u, h3, Z3, f3, g3, x3, q3, k3, l3⟩ := cOk (h1e e0 rfl) I e2 ce' cC
                  have g4 : evEs C (.cons e0 .nil) σh h = some ([u], h3) := (bd_eq g3).trans rfl
                  rcases hb2 with rfl | rfl
                  · cases k3 with
                    | sca e => cases x <;> first | (cases e; cases et) | cases e
                    | @lst xa us ds fp ga ba ta =>
                      cases et
                      have ee : evE C (.bi .list (.cons e0 .nil)) σh h = some (.ref h3.n, h3.push (.lst us)) := by
                        refine (bd_eq g4).trans ?_
                        show (match rdS h3 (.ref xa) with | none => none | some xs => some (U.ref h3.n, h3.push (.lst xs))) = _
                        have : rdS h3 (.ref xa) = some us := by unfold rdS; dsimp only; rw [ga]
                        rw [this]
                      rw [ee]
                      exact new_lst x3 q3 ta l3
                    | @tup xa us ds fp ga ba ta =>
                      cases et
                      have ee : evE C (.bi .list (.cons e0 .nil)) σh h = some (.ref h3.n, h3.push (.lst us)) := by
                        refine (bd_eq g4).trans ?_
                        show (match rdS h3 (.ref xa) with | none => none | some xs => some (U.ref h3.n, h3.push (.lst xs))) = _
                        have : rdS h3 (.ref xa) = some us := by unfold rdS; dsimp only; rw [ga]
                        rw [this]
                      rw [ee]
                      exact new_lst x3 q3 ta l3
                  · cases k3 with
                    | sca e => cases x <;> first | (cases e; cases et) | cases e
                    | @lst xa us ds fp ga ba ta =>
                      cases et
                      have ee : evE C (.bi .tuple (.cons e0 .nil)) σh h = some (.ref h3.n, h3.push (.tup us)) := by
                        refine (bd_eq g4).trans ?_
                        show (match rdL h3 (.ref xa) with | none => none | some xs => some (U.ref h3.n, h3.push (.tup xs))) = _
                        have : rdL h3 (.ref xa) = some us := by unfold rdL; dsimp only; rw [ga]
                        rw [this]
                      rw [ee]
                      exact new_tup x3 q3 ta l3
                    | tup ga ba ta => cases et
                · cases cc
              · rename_i hr; cases hr
            · cases c1'
          · cases cc
        cases b with
        | sorted =>
          have cc : some (Kd.own 9, ([] : Es)) = some (k, E) := cc
          cases cc
          have rp := r1.rpsB cn l1
          cases rp with
          | nil => cases et
          | @cons u us x ds rx tx =>
            cases tx with
            | cons _ _ => cases x <;> cases et
            | nil =>
              cases x with
              | lst xs =>
                have et : (match intsD xs with | none => none | some l => some (D.lst ((sortI l).map .int))) = some d := et
                split at et
                · cases et
                · rename_i l hl
                  cases et
                  obtain ⟨us, g, t⟩ := rdL_p rx
                  have ee : evE C (.bi .sorted es) σh h = some (.ref h1.n, h1.push (.lst ((sortI l).map .int))) := by
                    refine (bd_eq g1).trans ?_
                    show (match rdL h1 u with | none => none | some xs => match intsOf xs with | none => none | some l => some (U.ref h1.n, h1.push (.lst ((sortI l).map .int)))) = _
                    rw [g]; dsimp only; rw [intsD_p t hl]
                  rw [ee]
                  exact new_lst (n := 8) x1 q1 (Ros.ints _) lim_sc
              | _ => cases et
        | list => exact one cc (.inl rfl)
        | tuple => exact one cc (.inr rfl)
        | _ => exact absurd rfl hb
    · cases cc
  · cases cc
theorem meS_p {me : Me} {u : U} {us : List U} {x : D} {ds : List D} (hm : meB me = true) (r : Rp Z h u x) (t : Rps Z' h us ds) (e : meD me x ds = some d) : meTy h me u = true ∧ ∃ v, meU h me u us = some (v, h) ∧ scaP d = some v := by
  cases me with
  | index =>
    cases x with
    | lst xs =>
      cases t with
      | nil => cases e
      | @cons v vs y ys ry ty =>
        cases ty with
        | @cons v2 vs y2 ys2 ry2 ty2 =>
          cases ty2 with
          | cons _ _ => cases y2 <;> cases e
          | nil =>
            cases y2 with
            | int k =>
              have e : (match scaP y, scas xs with
                | some v, some vs => if 0 ≤ k then match findI v k.toNat (vs.drop k.toNat) with
                  | some i => some (D.int i)
                  | none => none else none
                | _, _ => none) = some d := e
              split at e
              · rename_i v' vs' e1 e2
                split at e
                · rename_i hk
                  split at e
                  · rename_i j hj
                    cases e
                    obtain ⟨us, g, t⟩ := rdL_p r
                    obtain ⟨h1, h2⟩ := scas_p t e2
                    have h3 := ry.isca e1
                    cases (ry2.isca (v := .int k) rfl)
                    subst h1 h3
                    refine ⟨by show (rdL h u).isSome = true; rw [g]; rfl, .int j, ?_, rfl⟩
                    show (match rdL h u with | none => none | some xs => if 0 ≤ k ∧ (fl v && xs.all fl) = true then match findI v k.toNat (xs.drop k.toNat) with | some i => some (U.int i, h) | none => none else none) = _
                    rw [g]; dsimp only; rw [if_pos ⟨hk, by rw [fl_sca e1, h2]; rfl⟩, hj]
                  · cases e
                · cases e
              · cases e
            | _ => cases e
        | nil =>
          have e : (match scaP y, scas xs with
            | some v, some vs => match findI v 0 vs with
              | some i => some (D.int i)
              | none => none
            | _, _ => none) = some d := e
          split at e
          · rename_i v' vs' e1 e2
            split at e
            · rename_i j hj
              cases e
              obtain ⟨us, g, t⟩ := rdL_p r
              obtain ⟨h1, h2⟩ := scas_p t e2
              have h3 := ry.isca e1
              subst h1 h3
              refine ⟨by show (rdL h u).isSome = true; rw [g]; rfl, .int j, ?_, rfl⟩
              show (match rdL h u with | none => none | some xs => if (fl v && xs.all fl) = true then match findI v 0 xs with | some i => some (U.int i, h) | none => none else none) = _
              rw [g]; dsimp only; rw [if_pos (by rw [fl_sca e1, h2]; rfl), hj]
            · cases e
          · cases e
    | _ => cases e
  | count =>
    cases x with
    | lst xs =>
      cases t with
      | nil => cases e
      | @cons v vs y ys ry ty =>
        cases ty with
        | cons _ _ => cases y <;> cases e
        | nil =>
          cases y with
          | int j =>
            have e : (match intsD xs with | none => none | some l => some (D.int (l.count j))) = some d := e
            split at e
            · cases e
            · rename_i l hl
              cases e
              obtain ⟨us, g, t⟩ := rdL_p r
              cases (ry.isca (v := .int j) rfl)
              refine ⟨by show (rdL h u).isSome = true; rw [g]; rfl, .int (l.count j), ?_, rfl⟩
              show (match rdL h u with | none => none | some xs => match intsOf xs with | none => none | some l => some (U.int (l.count j), h)) = _
              rw [g]; dsimp only; rw [intsD_p t hl]
          | _ => cases e
    | _ => cases e
  | bitlen =>
    cases x with
    | int j =>
      cases t with
      | nil => cases (r.isca (v := .int j) rfl); cases e; exact ⟨rfl, _, rfl, rfl⟩
      | cons _ _ => cases e
    | _ => cases e
  | _ => cases hm
theorem meT_p {me : Me} {u : U} {x : D} {ds : List D} (hm : meB me = true) (r : Rp Z h u x) (e : meD me x ds = some d) : meTy h me u = true := by
  cases me with
  | bitlen =>
    cases x with
    | int j => cases (r.isca (v := .int j) rfl); rfl
    | _ => cases e
  | index =>
    cases x with
    | lst xs =>
      obtain ⟨us, g, t⟩ := rdL_p r
      show (rdL h u).isSome = true
      rw [g]; rfl
    | _ => cases e
  | count =>
    cases x with
    | lst xs =>
      obtain ⟨us, g, t⟩ := rdL_p r
      show (rdL h u).isSome = true
      rw [g]; rfl
    | _ => cases e
  | _ => cases hm
theorem eo_meth {me : Me} (ha : EOk C CP rk a) (hs : EsOk C CP rk es) : EOk C CP rk (.meth me a es) := by
  intro pp n0 Z0 Z m F h σh σp w w' d k E I ev cc
  have cc : kMeth me (np (chkE rk a m)) (chkEs rk es m) = some (k, E) := cc
  have ev0 : pb (evP CP a σp w) (fun x w1 => pb (evPs CP es σp w1) fun us w2 => ob (meD me x us) fun d => some (d, w2)) = some (d, w') := ev
  obtain ⟨x, w1, e1, ev⟩ := pb_some ev0
  obtain ⟨xs, w2, e2, ev⟩ := pb_some ev
  obtain ⟨t, et, ev⟩ := ob_some ev
  cases ev
  unfold kMeth at cc
  split at cc
  · rename_i q ks E1 cq c1
    split at cc
    · rename_i n cn
      split at cc
      · rename_i hm
        cases cc
        obtain ⟨u, h1, g1, x1, q1, r1⟩ := ha.wr I e1 cq
        obtain ⟨us, h2, Zr, fp, g2, x2, q2, r2, l2⟩ := hs (I.fr x1 q1) e2 c1
        obtain ⟨m1, v, m2, m3⟩ := meS_p hm (r1.up x2) (r2.rpsB cn l2) et
        have m4 := meT_p hm r1 et
        refine .sc (u := v) ((bd_eq g1).trans ?_) (x1.trans x2) q2 m3
        rw [m4]
        exact (bd_eq g2).trans m2
      · cases cc
    · cases cc
  · cases cc
/-! ### calls -/
theorem Ras.app {Za : Nat → Prop} : ∀ {bs bs' : List Bool} {us us' : List U} {ds ds' : List D}, Ras pp Za h bs us ds → Ras pp Za h bs' us' ds' → Ras pp Za h (bs ++ bs') (us ++ us') (ds ++ ds')
  | _, _, _, _, _, _, .nil, s => s
  | _, _, _, _, _, _, .cons r t, s => .cons r (t.app s)
  | _, _, _, _, _, _, .pur e t, s => .pur e (t.app s)
theorem Rks.ras : ∀ {ks : List Kd} {us : List U} {ds : List D} {fp : List Nat}, (∀ a, Z a ∨ a ∈ fp → Z' a) → Rks pp Z h ks us ds fp → Ras pp Z' h (ks.map isP) us ds
  | _, _, _, _, hz, .nil => .nil
  | k :: ks, _, _, _, hz, .cons r t => by
    have t' := Rks.ras (fun a z => hz a (z.imp id fun q => List.mem_append_right _ q)) t
    cases k with
    | sc => exact .cons (.sca r.1) t'
    | pu =>
      obtain ⟨rfl, _, p, e, rfl⟩ := r
      exact .pur e t'
    | own n => exact .cons ((show Ro Z h n _ _ _ from r).rp fun a z => hz a (z.imp id fun q => List.mem_append_left _ q)) t'
theorem Ras.fr {Za Zb : Nat → Prop} (hz : ∀ a, Za a → Zb a) (hg : ∀ a, Za a → h'.get a = h.get a) : ∀ {bs : List Bool} {us : List U} {ds : List D}, Ras pp Za h bs us ds → Ras pp Zb h' bs us ds
  | _, _, _, .nil => .nil
  | _, _, _, .cons r t => .cons (r.fr hz hg) (t.fr hz hg)
  | _, _, _, .pur e t => .pur e (t.fr hz hg)
theorem dv_ras : ∀ {dv : List U}, dv.all noRef = true → Ras pp Z h (dv.map fun _ => false) dv (dv.map dOf)
  | [], _ => .nil
  | u :: dv, e => by
    rw [List.all_cons, Bool.and_eq_true] at e
    refine .cons (.sca ?_) (dv_ras e.2)
    cases u <;> first | rfl | cases e.1
theorem Ras.getC {Za : Nat → Prop} {bs0 : List Bool} {us0 : List U} {ds0 : List D} (q : Ras pp Za h bs0 us0 ds0) : ∀ {bs : List Bool} {us : List U} {ds : List D} (i : Nat), Ras pp Za h bs us ds → Ras pp Za h (bs.getD i false :: bs0) (us.getD i .non :: us0) (ds.getD i .non :: ds0)
  | _, _, _, i, .nil => .cons (.sca rfl) q
  | _, _, _, 0, .cons r t => .cons r q
  | _, _, _, 0, .pur e t => .pur e q
  | _, _, _, i + 1, .cons r t => q.getC i t
  | _, _, _, i + 1, .pur r t => q.getC i t
theorem Ras.perm {Za : Nat → Prop} {bs : List Bool} {us : List U} {ds : List D} (r : Ras pp Za h bs us ds) : ∀ pm : List Nat, Ras pp Za h (pm.map fun i => bs.getD i false) (pm.map fun i => us.getD i .non) (pm.map fun i => ds.getD i .non)
  | [] => .nil
  | i :: pm => (r.perm pm).getC i r
theorem kRet_some {k k' : Kd} {E E' : Es} (e : kRet k' E' = some (k, E)) : k = k' ∧ k ≠ .pu ∧ (k = .sc ∨ E = E') := by
  cases k' with
  | sc => cases e; exact ⟨rfl, (fun z => nomatch z), .inl rfl⟩
  | own n => cases e; exact ⟨rfl, (fun z => nomatch z), .inr rfl⟩
  | pu => cases e
/-- what a call gives, seen from its caller -/
theorem call_end {k : Kd} {Za : Nat → Prop} {o : Res} (x : Fr pp h h1) (hz : ∀ a, Za a → B a ∨ h.n ≤ a) (r : RE pp Za h1 k d w o) (hk : k = .sc ∨ B = Z) : (k = .sc → RE pp Z h k d w o) ∧ (B = Z → RE pp Z h k d w o) := by
  obtain ⟨u, h2, Zr, fp, e, x2, q, r, l⟩ := r
  refine ⟨fun hk => ?_, fun hb => ?_⟩
  · subst hk
    exact .sc e (x.trans x2) q r.1
  · subst hb
    refine ⟨u, h2, Zr, fp, e, x.trans x2, q, r, ⟨fun a z => ⟨?_, (l.1 a z).2⟩, fun a m => ⟨Nat.le_trans x.1 (l.2.1 a m).1, (l.2.1 a m).2⟩, l.2.2⟩⟩
    rcases (l.1 a z).1 with z | z
    · exact hz a z
    · exact .inr (Nat.le_trans x.1 z)
theorem eo_call {f : Nat} {dv : List U} (hC : CallOk C CP rk) (hs : EsOk C CP rk es) : EOk C CP rk (.call f es dv) := by
  intro pp n0 Z0 Z m F h σh σp w w' d k E I ev cc
  have cc : kCall (rk f) dv (chkEs rk es m) = some (k, E) := cc
  have ev0 : pb (evPs CP es σp w) (fun us w1 => CP f (us ++ dv.map dOf) w1) = some (d, w') := ev
  obtain ⟨xs, w1, e1, ev⟩ := pb_some ev0
  unfold kCall at cc
  split at cc
  · rename_i ks E1 c1
    split at cc
    · rename_i hdv
      rw [Bool.and_eq_true] at hdv
      obtain ⟨hdv, hpu⟩ := hdv
      have hpu := of_decide_eq_true hpu
      obtain ⟨us, h1, Zr, fp, g1, x1, q1, r1, l1⟩ := hs I e1 c1
      obtain ⟨k1, k2, k3⟩ := kRet_some cc
      have R := hC.call (Za := fun a => Zr a ∨ a ∈ fp) ev (by rw [hpu]; exact (r1.ras fun a z => z).app (dv_ras hdv)) (fun a z => z.elim (fun z => (l1.1 a z).2) fun z => ⟨(l1.2.1 a z).2.1, (l1.2.1 a z).2.2.2⟩) q1 (fun z => by rw [z] at cc; cases cc)
      rw [← k1] at R
      rw [show evE C (.call f es dv) σh h = C f (us ++ dv) h1 from bd_eq g1]
      have key : ∀ a, (Zr a ∨ a ∈ fp) → EscZ Z F σh E1 a ∨ h.n ≤ a := fun a z => z.elim (fun z => (l1.1 a z).1) fun z => .inr (l1.2.1 a z).1
      rcases k3 with k3 | k3
      · exact (call_end (Z := EscZ Z F σh E) x1 key R (.inl k3)).1 k3
      · subst k3
        exact (call_end (Z := EscZ Z F σh E) x1 key R (.inr rfl)).2 rfl
    · cases cc
  · cases cc
theorem eo_callk {f sh : Nat} {pm : List Nat} {ks : Exs} (hC : CallOk C CP rk) (hs : EsOk C CP rk es) (hk : EsOk C CP rk ks) : EOk C CP rk (.callk f es ks sh pm) := by
  intro pp n0 Z0 Z m F h σh σp w w' d k E I ev cc
  have cc : kCallk (rk f) pm (chkEs rk es m) (chkEs rk ks m) = some (k, E) := cc
  have ev0 : pb (evPs CP es σp w) (fun us w1 => pb (evPs CP ks σp w1) fun ws w2 => CP f (pm.map fun i => (us ++ ws).getD i .non) w2) = some (d, w') := ev
  obtain ⟨xs, w1, e1, ev⟩ := pb_some ev0
  obtain ⟨ys, w2, e2, ev⟩ := pb_some ev
  unfold kCallk at cc
  split at cc
  · rename_i kx E1 ky E2 c1 c2
    split at cc
    case isFalse => cases cc
    rename_i hpu
    have hpu := of_decide_eq_true hpu
    obtain ⟨us, h1, Z1, f1, g1, x1, q1, r1, l1⟩ := hs I e1 c1
    obtain ⟨vs, h2, Z2, f2, g2, x2, q2, r2, l2⟩ := hk (I.fr x1 q1) e2 c2
    obtain ⟨k1, k2, k3⟩ := kRet_some cc
    have lj := Lim.join (B := EscZ Z F σh (E1 ++ E2)) (fun a z => (I.esz z).2.1) x1 x2 (l1.wider fun a z => z.l) (l2.wider fun a z => z.r)
    have r1' : Ras pp (fun a => (Z1 a ∨ Z2 a) ∨ a ∈ f1 ++ f2) h2 (kx.map isP) us xs := (r1.ras (Z' := fun a => Z1 a ∨ a ∈ f1) fun a z => z).fr (fun a z => z.elim (fun z => .inl (.inl z)) fun z => .inr (List.mem_append_left _ z)) fun a z => by
      rcases z with z | z
      · exact x2.2 a (l1.1 a z).2.1 (l1.1 a z).2.2
      · exact x2.2 a (l1.2.1 a z).2.1 (l1.2.1 a z).2.2.2
    have r2' : Ras pp (fun a => (Z1 a ∨ Z2 a) ∨ a ∈ f1 ++ f2) h2 (ky.map isP) vs ys := r2.ras fun a z => z.elim (fun z => .inl (.inr z)) fun z => .inr (List.mem_append_right _ z)
    have R := hC.call (Za := fun a => (Z1 a ∨ Z2 a) ∨ a ∈ f1 ++ f2) ev (by rw [hpu]; exact (r1'.app r2').perm pm) (fun a z => z.elim (fun z => (lj.1 a z).2) fun z => ⟨(lj.2.1 a z).2.1, (lj.2.1 a z).2.2.2⟩) q2 (fun z => by rw [z] at cc; cases cc)
    rw [← k1] at R
    rw [show evE C (.callk f es ks sh pm) σh h = C f (pm.map fun i => (us ++ vs).getD i .non) h2 from (bd_eq g1).trans (bd_eq g2)]
    have key : ∀ a, ((Z1 a ∨ Z2 a) ∨ a ∈ f1 ++ f2) → EscZ Z F σh (E1 ++ E2) a ∨ h.n ≤ a := fun a z => z.elim (fun z => (lj.1 a z).1) fun z => .inr (lj.2.1 a z).1
    rcases k3 with k3 | k3
    · exact (call_end (Z := EscZ Z F σh E) (x1.trans x2) key R (.inl k3)).1 k3
    · subst k3
      exact (call_end (Z := EscZ Z F σh (E1 ++ E2)) (x1.trans x2) key R (.inr rfl)).2 rfl
  · cases cc
end
end Mi

set_option maxRecDepth 100000
/-! Mi, part P10: what is walked; comprehensions; every term. -/
namespace Mi
open PySem
inductive PvR (Z : Nat → Prop) (h : Hm) : Iv → Pv → Prop
  | one {u d} : Rp Z h u d → PvR Z h (.one u) (.one d)
  | two {u v d e} : Rp Z h u d → Rp Z h v e → PvR Z h (.two u v) (.two d e)
def AtR (Z : Nat → Prop) (h : Hm) : Option (Option Iv) → Option Pv → Prop
  | some none, none => True
  | some (some iv), some v => PvR Z h iv v
  | _, _ => False
structure ItP (Zt Zr : Nat → Prop) (h2 : Hm) (it : It) (its : List Pv) : Prop where
  cnt : it.cnt h2 = its.length
  gt : ∀ h', (∀ a, Zt a → h'.get a = h2.get a) → ∀ i, AtR Zr h' (it.at h' i) its[i]?
theorem atR_none {Z : Nat → Prop} {h : Hm} {o : Option (Option Iv)} (r : AtR Z h o none) : o = some none := by
  cases o with
  | none => exact r.elim
  | some o => cases o with
    | none => rfl
    | some iv => exact r.elim
theorem atR_some {Z : Nat → Prop} {h : Hm} {o : Option (Option Iv)} {v : Pv} (r : AtR Z h o (some v)) : ∃ iv, o = some (some iv) ∧ PvR Z h iv v := by
  cases o with
  | none => exact r.elim
  | some o => cases o with
    | none => exact r.elim
    | some iv => exact ⟨iv, rfl, r⟩
/-- a frozen container -/
inductive KF (Zt Zr : Nat → Prop) (h : Hm) : U → D → Prop
  | sca {u d} : scaP d = some u → KF Zt Zr h u d
  | lst {a us ds} : h.get a = some (.lst us) → Zt a → Rps Zr h us ds → KF Zt Zr h (.ref a) (.lst ds)
  | tup {a us ds} : h.get a = some (.tup us) → Zt a → Rps Zr h us ds → KF Zt Zr h (.ref a) (.tup ds)
section
variable {Zt Zr Z Z' : Nat → Prop} {h h1 h2 h' : Hm}
theorem Rps.getN : ∀ {us : List U} {ds : List D} {j : Nat}, Rps Z h us ds → ds[j]? = none → us[j]? = none := fun {us ds j} r e => by
  rw [List.getElem?_eq_none_iff] at e ⊢
  rw [r.length]; exact e
theorem upR_get : ∀ (n : Nat) (i : Int) (k : Nat), (upR i n)[k]? = if k < n then some (.one (.int (i + k))) else none
  | 0, i, k => by simp [upR]
  | n + 1, i, 0 => by simp [upR]
  | n + 1, i, k + 1 => by
    show (upR (i + 1) n)[k]? = _
    rw [upR_get n (i + 1) k]
    have : i + 1 + (k : Int) = i + ((k + 1 : Nat) : Int) := by omega
    rw [this]
    by_cases hk : k < n
    · rw [if_pos hk, if_pos (by omega)]
    · rw [if_neg hk, if_neg (by omega)]
theorem downR_get : ∀ (n : Nat) (i : Int) (k : Nat), (downR i n)[k]? = if k < n then some (.one (.int (i - k))) else none
  | 0, i, k => by simp [downR]
  | n + 1, i, 0 => by simp [downR]
  | n + 1, i, k + 1 => by
    show (downR (i - 1) n)[k]? = _
    rw [downR_get n (i - 1) k]
    have : i - 1 - (k : Int) = i - ((k + 1 : Nat) : Int) := by omega
    rw [this]
    by_cases hk : k < n
    · rw [if_pos hk, if_pos (by omega)]
    · rw [if_neg hk, if_neg (by omega)]
theorem upR_len : ∀ (n : Nat) (i : Int), (upR i n).length = n
  | 0, _ => rfl
  | n + 1, i => congrArg Nat.succ (upR_len n (i + 1))
theorem downR_len : ∀ (n : Nat) (i : Int), (downR i n).length = n
  | 0, _ => rfl
  | n + 1, i => congrArg Nat.succ (downR_len n (i - 1))
theorem enumD_get : ∀ (ds : List D) (i k : Nat), (enumD i ds)[k]? = ds[k]?.map (.two (.int ((i + k : Nat) : Int)))
  | [], i, k => by simp [enumD]
  | x :: r, i, 0 => by simp [enumD]
  | x :: r, i, k + 1 => by
    show (enumD (i + 1) r)[k]? = _
    rw [enumD_get r (i + 1) k, show i + 1 + k = i + (k + 1) by omega]
    simp
theorem enumD_len : ∀ (ds : List D) (i : Nat), (enumD i ds).length = ds.length
  | [], _ => rfl
  | x :: r, i => congrArg Nat.succ (enumD_len r (i + 1))
theorem two_get : ∀ (xs ys : List D) (k : Nat), (two xs ys)[k]? = match xs[k]?, ys[k]? with
    | some x, some y => some (.two x y)
    | _, _ => none
  | [], ys, k => by simp [two]
  | x :: r, [], k => by simp [two]
  | x :: r, y :: s, 0 => by simp [two]
  | x :: r, y :: s, k + 1 => by
    show (two r s)[k]? = _
    rw [two_get r s k]
    simp
theorem two_len : ∀ (xs ys : List D), (two xs ys).length = min xs.length ys.length
  | [], ys => by simp [two]
  | x :: r, [] => by simp [two]
  | x :: r, y :: s => by
    show (two r s).length + 1 = _
    rw [two_len r s]
    show _ = min (r.length + 1) (s.length + 1)
    omega
theorem items_ok {sk : Sk} {u v : U} {x y : D} {Zb : Nat → Prop} {its : List Pv} (hz : ∀ a, Zr a → Zt a) (hx : KF Zt Zr h2 u x) (hy : sk = .zip → KF Zt Zr h2 v y) (hy' : Rp Zb h2 v y) (e : itemsD sk x y = some its) :
    ∃ it, mkIt h2 sk u v = some it ∧ ItP Zt Zr h2 it its := by
  have rd : ∀ {a us}, h2.get a = some (.lst us) → rdL h2 (.ref a) = some us := fun e => by unfold rdL; dsimp only; rw [e]
  have cn : ∀ {a us}, h2.get a = some (.lst us) → cntL h2 a = us.length := fun e => by unfold cntL rdS; dsimp only; rw [e]
  have cnt : ∀ {a us}, h2.get a = some (.tup us) → cntL h2 a = us.length := fun e => by unfold cntL rdS; dsimp only; rw [e]
  have rdt : ∀ {a us}, h2.get a = some (.tup us) → rdT h2 (.ref a) = some us := fun e => by unfold rdT; dsimp only; rw [e]
  have keepL : ∀ {a us h'}, h2.get a = some (.lst us) → Zt a → (∀ a, Zt a → h'.get a = h2.get a) → rdL h' (.ref a) = some us := fun e z hh => by unfold rdL; dsimp only; rw [hh _ z, e]
  have keepT : ∀ {a us h'}, h2.get a = some (.tup us) → Zt a → (∀ a, Zt a → h'.get a = h2.get a) → rdT h' (.ref a) = some us := fun e z hh => by unfold rdT; dsimp only; rw [hh _ z, e]
  have up : ∀ {us ds h'}, Rps Zr h2 us ds → (∀ a, Zt a → h'.get a = h2.get a) → Rps Zr h' us ds := fun t hh => t.fr (fun _ z => z) fun a z => hh a (hz a z)
  cases sk with
  | seq =>
    cases hx with
    | sca e2 => cases x <;> first | (cases e2; cases e) | cases e2
    | @lst a us ds g z t =>
      cases e
      refine ⟨.ls a, by show itSeq h2 (.ref a) = _; unfold itSeq; dsimp only; rw [g], ?_, fun h' hh i => ?_⟩
      · show cntL h2 a = _
        rw [cn g, t.length, List.length_map]
      · show AtR Zr h' (match rdL h' (.ref a) with | some xs => some (xs[i]?.map .one) | none => none) _
        rw [keepL g z hh, List.getElem?_map]
        dsimp only
        cases hd : ds[i]? with
        | none => rw [t.getN hd]; trivial
        | some d => obtain ⟨q, h3, r⟩ := (up t hh).get hd; rw [h3]; exact .one r
    | @tup a us ds g z t =>
      cases e
      refine ⟨.tp a, by show itSeq h2 (.ref a) = _; unfold itSeq; dsimp only; rw [g], ?_, fun h' hh i => ?_⟩
      · show cntL h2 a = _
        rw [cnt g, t.length, List.length_map]
      · show AtR Zr h' (match rdT h' (.ref a) with | some xs => some (xs[i]?.map .one) | none => none) _
        rw [keepT g z hh, List.getElem?_map]
        dsimp only
        cases hd : ds[i]? with
        | none => rw [t.getN hd]; trivial
        | some d => obtain ⟨q, h3, r⟩ := (up t hh).get hd; rw [h3]; exact .one r
  | rng1 =>
    cases x with
    | int j =>
      have hu : u = .int j := by
        cases hx with
        | sca e2 => cases e2; rfl
      subst hu
      have e : (if -(2 ^ 62) ≤ j ∧ j < 2 ^ 62 then some (upR 0 j.toNat) else none) = some its := e
      split at e
      · rename_i hc
        cases e
        refine ⟨.rg 0 j.toNat, if_pos hc, (upR_len _ _).symm, fun h' hh i => ?_⟩
        show AtR Zr h' (some (if i < j.toNat then some (.one (.int (0 + i))) else none)) _
        rw [upR_get]
        by_cases hk : i < j.toNat
        · rw [if_pos hk, if_pos hk]; exact .one (.sca rfl)
        · rw [if_neg hk, if_neg hk]; trivial
      · cases e
    | _ => cases e
  | rng2 =>
    cases x with
    | int j =>
      cases y with
      | int l =>
        have hu : u = .int j := by
          cases hx with
          | sca e2 => cases e2; rfl
        subst hu
        cases (hy'.isca (v := .int l) rfl)
        have e : (if -(2 ^ 62) ≤ j ∧ j < 2 ^ 62 ∧ -(2 ^ 62) ≤ l ∧ l < 2 ^ 62 then some (upR j (l - j).toNat) else none) = some its := e
        split at e
        · rename_i hc
          cases e
          refine ⟨.rg j (l - j).toNat, if_pos hc, (upR_len _ _).symm, fun h' hh i => ?_⟩
          show AtR Zr h' (some (if i < (l - j).toNat then some (.one (.int (j + i))) else none)) _
          rw [upR_get]
          by_cases hk : i < (l - j).toNat
          · rw [if_pos hk, if_pos hk]; exact .one (.sca rfl)
          · rw [if_neg hk, if_neg hk]; trivial
        · cases e
      | _ => cases e
    | _ => cases e
  | rngd =>
    cases x with
    | int j =>
      cases y with
      | int l =>
        have hu : u = .int j := by
          cases hx with
          | sca e2 => cases e2; rfl
        subst hu
        cases (hy'.isca (v := .int l) rfl)
        have e : (if -(2 ^ 62) ≤ j ∧ j < 2 ^ 62 ∧ -(2 ^ 62) ≤ l ∧ l < 2 ^ 62 then some (downR j (j - l).toNat) else none) = some its := e
        split at e
        · rename_i hc
          cases e
          refine ⟨.rd j (j - l).toNat, if_pos hc, (downR_len _ _).symm, fun h' hh i => ?_⟩
          show AtR Zr h' (some (if i < (j - l).toNat then some (.one (.int (j - i))) else none)) _
          rw [downR_get]
          by_cases hk : i < (j - l).toNat
          · rw [if_pos hk, if_pos hk]; exact .one (.sca rfl)
          · rw [if_neg hk, if_neg hk]; trivial
        · cases e
      | _ => cases e
    | _ => cases e
  | enum =>
    cases hx with
    | sca e2 => cases x <;> first | (cases e2; cases e) | cases e2
    | tup g z t => cases e
    | @lst a us ds g z t =>
      cases e
      refine ⟨.en a, by show itEnum h2 (.ref a) = _; unfold itEnum; dsimp only; rw [g], ?_, fun h' hh i => ?_⟩
      · show cntL h2 a = _
        rw [cn g, t.length, enumD_len]
      · show AtR Zr h' (match rdL h' (.ref a) with | some xs => some (xs[i]?.map (.two (.int i))) | none => none) _
        rw [keepL g z hh, enumD_get, Nat.zero_add]
        dsimp only
        cases hd : ds[i]? with
        | none => rw [t.getN hd]; trivial
        | some d => obtain ⟨q, h3, r⟩ := (up t hh).get hd; rw [h3]; exact .two (.sca rfl) r
  | zip =>
    have hy := hy rfl
    cases hx with
    | sca e2 => cases x <;> first | (cases e2; cases e) | cases e2
    | @lst a us ds g z t =>
      cases hy with
      | sca e2 => cases y <;> first | (cases e2; cases e) | cases e2
      | tup g z t => cases e
      | @lst a' us' ds' g' z' t' =>
        cases e
        refine ⟨.zl a a', by show itZip h2 (.ref a) (.ref a') = _; unfold itZip; dsimp only; rw [g, g'], ?_, fun h' hh i => ?_⟩
        · show min (cntL h2 a) (cntL h2 a') = _
          rw [cn g, cn g', t.length, t'.length, two_len]
        · show AtR Zr h' (match rdL h' (.ref a), rdL h' (.ref a') with
            | some xs, some ys => match xs[i]?, ys[i]? with
              | some x, some y => some (some (.two x y))
              | _, _ => some none
            | _, _ => none) _
          rw [keepL g z hh, keepL g' z' hh, two_get]
          dsimp only
          cases hd : ds[i]? with
          | none => rw [t.getN hd]; cases us'[i]? <;> trivial
          | some d =>
            obtain ⟨q, h3, r⟩ := (up t hh).get hd
            cases hd' : ds'[i]? with
            | none => rw [t'.getN hd', h3]; trivial
            | some d' =>
              obtain ⟨q', h3', r'⟩ := (up t' hh).get hd'
              rw [h3, h3']
              exact .two r r'
    | @tup a us ds g z t =>
      cases hy with
      | sca e2 => cases y <;> first | (cases e2; cases e) | cases e2
      | lst g z t => cases e
      | @tup a' us' ds' g' z' t' =>
        cases e
        refine ⟨.zt a a', by show itZip h2 (.ref a) (.ref a') = _; unfold itZip; dsimp only; rw [g, g'], ?_, fun h' hh i => ?_⟩
        · show min (cntL h2 a) (cntL h2 a') = _
          rw [cnt g, cnt g', t.length, t'.length, two_len]
        · show AtR Zr h' (match rdT h' (.ref a), rdT h' (.ref a') with
            | some xs, some ys => match xs[i]?, ys[i]? with
              | some x, some y => some (some (.two x y))
              | _, _ => some none
            | _, _ => none) _
          rw [keepT g z hh, keepT g' z' hh, two_get]
          dsimp only
          cases hd : ds[i]? with
          | none => rw [t.getN hd]; cases us'[i]? <;> trivial
          | some d =>
            obtain ⟨q, h3, r⟩ := (up t hh).get hd
            cases hd' : ds'[i]? with
            | none => rw [t'.getN hd', h3]; trivial
            | some d' =>
              obtain ⟨q', h3', r'⟩ := (up t' hh).get hd'
              rw [h3, h3']
              exact .two r r'
  | rev =>
    cases hx with
    | sca e2 => cases x <;> first | (cases e2; cases e) | cases e2
    | tup g z t => cases e
    | @lst a us ds g z t =>
      cases e
      refine ⟨.rv a us.length, by show itRev h2 (.ref a) = _; unfold itRev; dsimp only; rw [g], ?_, fun h' hh i => ?_⟩
      · show us.length = _
        rw [t.length, List.length_map, List.length_reverse]
      · show AtR Zr h' (if i < us.length then match rdL h' (.ref a) with
          | some xs => match xs[us.length - 1 - i]? with
            | some x => some (some (.one x))
            | none => none
          | none => none else some none) _
        rw [List.getElem?_map]
        by_cases hi : i < us.length
        · rw [if_pos hi, keepL g z hh]
          dsimp only
          have hi' : i < ds.length := by rw [← t.length]; exact hi
          rw [List.getElem?_reverse hi', t.length]
          cases hd : ds[ds.length - 1 - i]? with
          | none =>
            rw [List.getElem?_eq_none_iff] at hd
            omega
          | some d =>
            obtain ⟨q, h3, r⟩ := (up t hh).get hd
            rw [h3]; exact .one r
        · rw [if_neg hi]
          have : ds.reverse[i]? = none := by
            rw [List.getElem?_eq_none_iff, List.length_reverse, ← t.length]; omega
          rw [this]; trivial
end
section
variable {C : Calls} {CP : CallsP} {rk : Nat → Sg}
variable {pp : Option Nat} {n0 : Nat} {Z0 Z Z' B Zr : Nat → Prop} {m : Mks} {F : Nat → List Nat} {h h1 h2 h' : Hm} {σh : Env} {σp : PE} {w w1 w2 w' : PW} {n : Nat} {a b c e i : Ex} {d : D} {es : Exs}
theorem Kid.kf {u : U} {fp : List Nat} (r : Kid pp Zr h n u d fp) : KF (Bd pp h) (fun a => Zr a ∨ a ∈ fp) h u d := by
  cases r with
  | sca e => exact .sca e
  | lst g b t => exact .lst g b (t.rps fun _ z => z)
  | tup g b t => exact .tup g b (t.rps fun _ z => z)
theorem KF.mono {Zt Zt' Zr Zr' : Nat → Prop} {u : U} (h1 : ∀ a, Zt a → Zt' a) (h2 : ∀ a, Zr a → Zr' a) (r : KF Zt Zr h u d) : KF Zt' Zr' h u d := by
  cases r with
  | sca e => exact .sca e
  | lst g b t => exact .lst g (h1 _ b) (t.mono h2)
  | tup g b t => exact .tup g (h1 _ b) (t.mono h2)
theorem Lim.all {fp : List Nat} (l : Lim pp B h h1 Zr fp) : Lim pp B h h1 (fun a => Zr a ∨ a ∈ fp) [] :=
  (l.froz (fp' := []) (fun _ z => (nomatch z)) .nil).mono2 fun p z => z.imp id fun q => ⟨q, fun z => (nomatch z)⟩
/-- what a term walks -/
theorem walk_ok {sk : Sk} {its : List Pv} {E1 : Es} (ha : EOk C CP rk a) (hb : EOk C CP rk b) (I : PI pp n0 Z0 Z m F h σh σp w) (ev : walkP sk (evP CP a) (evP CP b) σp w = some (its, w')) (cc : chkW sk (chkE rk a m) (chkE rk b m) a b m = some E1) :
    ∃ x y h1 h2 it Zr, evE C a σh h = some (x, h1) ∧ evE C b σh h1 = some (y, h2) ∧ mkIt h2 sk x y = some it ∧ Fr pp h h2 ∧ PWok pp w' h2 ∧ ItP (Bd pp h2) Zr h2 it its ∧ Lim pp (EscZ Z F σh E1) h h2 Zr [] := by
  unfold walkP at ev
  obtain ⟨x, w1, e1, ev⟩ := pb_some ev
  obtain ⟨y, w2, e2, ev⟩ := pb_some ev
  obtain ⟨t, et, ev⟩ := ob_some ev
  cases ev
  have cnp : ∀ {a : Ex} {q : Nat × Es}, (chkE rk a m).isSome = true → chkC (chkE rk a m) a m = some q → ∃ r, np (chkE rk a m) = some r ∧ chkC (some r) a m = some q := by
    intro a q hs cc
    cases hr : chkE rk a m with
    | none => rw [hr] at hs; cases hs
    | some r =>
      rw [hr] at cc
      refine ⟨r, ?_, cc⟩
      obtain ⟨k, E⟩ := r
      cases k with
      | sc => rfl
      | own n => rfl
      | pu =>
        exfalso
        cases a with
        | var i =>
          have hr : kVar i m = some (.pu, E) := hr
          have cc : (match mkO m i with
            | some (.own n) => some (0, if n = 0 then [] else [(i, true)])
            | _ => none) = some q := cc
          unfold kVar at hr
          split at cc
          · rename_i n hk
            rw [hk] at hr
            cases hr
          · cases cc
        | _ => cases cc
  have single : ∀ {q : Nat × Es}, (sk = .seq ∨ sk = .enum ∨ sk = .rev) → chkC (chkE rk a m) a m = some q → (chkE rk a m).isSome = true → (np (chkE rk b m)).isSome = true → E1 = q.2 →
      ∃ x y h1 h2 it Zr, evE C a σh h = some (x, h1) ∧ evE C b σh h1 = some (y, h2) ∧ mkIt h2 sk x y = some it ∧ Fr pp h h2 ∧ PWok pp w' h2 ∧ ItP (Bd pp h2) Zr h2 it its ∧ Lim pp (EscZ Z F σh E1) h h2 Zr [] := by
    intro q hsk c1 s1 s2 hE
    obtain ⟨r, ca, cc⟩ := cnp s1 c1
    obtain ⟨u, h1, Z1, f1, g1, x1, q1, k1, l1⟩ := cOk ha I e1 ca cc
    cases hb2 : np (chkE rk b m) with
    | none => rw [hb2] at s2; cases s2
    | some qb =>
      obtain ⟨v, h2, g2, x2, q2, r2⟩ := hb.wr (I.fr x1 q1) e2 hb2
      have k2 := (k1.up x2 l1).kf
      have l2 := (l1.up x2).all
      obtain ⟨it, m1, m2⟩ := items_ok (fun a z => (l2.1 a z).2) k2 (fun z => by subst z; rcases hsk with z | z | z <;> cases z) r2 et
      subst hE
      exact ⟨u, v, h1, h2, it, _, g1, g2, m1, x1.trans x2, q2, m2, l2⟩
  have rng : (sk = .rng1 ∨ sk = .rng2 ∨ sk = .rngd) → (np (chkE rk a m)).isSome = true → (np (chkE rk b m)).isSome = true → E1 = [] →
      ∃ x y h1 h2 it Zr, evE C a σh h = some (x, h1) ∧ evE C b σh h1 = some (y, h2) ∧ mkIt h2 sk x y = some it ∧ Fr pp h h2 ∧ PWok pp w' h2 ∧ ItP (Bd pp h2) Zr h2 it its ∧ Lim pp (EscZ Z F σh E1) h h2 Zr [] := by
    intro hsk s1 s2 hE
    cases ha2 : np (chkE rk a m) with
    | none => rw [ha2] at s1; cases s1
    | some qa =>
      cases hb2 : np (chkE rk b m) with
      | none => rw [hb2] at s2; cases s2
      | some qb =>
        obtain ⟨u, h1, g1, x1, q1, r1⟩ := ha.wr I e1 ha2
        obtain ⟨v, h2, g2, x2, q2, r2⟩ := hb.wr (I.fr x1 q1) e2 hb2
        have r1 := r1.up x2
        have kx : KF (Bd pp h2) (fun _ => False) h2 u x := by
          cases x with
          | int j => exact .sca (by rw [r1.isca (v := .int j) rfl]; rfl)
          | _ => rcases hsk with rfl | rfl | rfl <;> cases et
        obtain ⟨it, m1, m2⟩ := items_ok (fun a z => z.elim) kx (fun z => by subst z; rcases hsk with z | z | z <;> cases z) r2 et
        exact ⟨u, v, h1, h2, it, _, g1, g2, m1, x1.trans x2, q2, m2, lim_sc⟩
  cases sk with
  | zip =>
    have cc : (match chkC (chkE rk a m) a m, chkC (chkE rk b m) b m with
      | some (_, E1), some (_, E2) => if (chkE rk a m).isSome && (chkE rk b m).isSome then some (E1 ++ E2) else none
      | _, _ => none) = some E1 := cc
    split at cc
    · rename_i n1 Ea n2 Eb c1 c2
      split at cc
      · rename_i hs
        rw [Bool.and_eq_true] at hs
        cases cc
        obtain ⟨r, ca, ca2⟩ := cnp hs.1 c1
        obtain ⟨r', cb, cb2⟩ := cnp hs.2 c2
        obtain ⟨u, h1, Z1, f1, g1, x1, q1, k1, l1⟩ := cOk ha I e1 ca ca2
        obtain ⟨v, h2, Z2, f2, g2, x2, q2, k2, l2⟩ := cOk hb (I.fr x1 q1) e2 cb cb2
        have lj := Lim.join (B := EscZ Z F σh (Ea ++ Eb)) (fun a z => (I.esz z).2.1) x1 x2 (l1.wider fun a z => z.l) (l2.wider fun a z => z.r)
        have r2 : Rp (Bd pp h2) h2 v y := by
          obtain ⟨v', h2', g2', _, _, r2⟩ := hb.wr (I.fr x1 q1) e2 cb
          rw [g2] at g2'
          cases g2'
          exact r2
        have kx : KF (Bd pp h2) (fun a => (Z1 a ∨ Z2 a) ∨ a ∈ f1 ++ f2) h2 u x := (k1.up x2 l1).kf.mono (fun _ z => z) fun a z => z.elim (fun z => .inl (.inl z)) fun z => .inr (List.mem_append_left _ z)
        have ky : KF (Bd pp h2) (fun a => (Z1 a ∨ Z2 a) ∨ a ∈ f1 ++ f2) h2 v y := k2.kf.mono (fun _ z => z) fun a z => z.elim (fun z => .inl (.inr z)) fun z => .inr (List.mem_append_right _ z)
        obtain ⟨it, m1, m2⟩ := items_ok (fun a z => (lj.all.1 a z).2) kx (fun _ => ky) r2 et
        exact ⟨u, v, h1, h2, it, _, g1, g2, m1, x1.trans x2, q2, m2, lj.all⟩
      · cases cc
    · cases cc
  | rng1 =>
    have cc : (if (np (chkE rk a m)).isSome && (np (chkE rk b m)).isSome then some [] else none) = some E1 := cc
    split at cc
    · rename_i hs; rw [Bool.and_eq_true] at hs; cases cc; exact rng (.inl rfl) hs.1 hs.2 rfl
    · cases cc
  | rng2 =>
    have cc : (if (np (chkE rk a m)).isSome && (np (chkE rk b m)).isSome then some [] else none) = some E1 := cc
    split at cc
    · rename_i hs; rw [Bool.and_eq_true] at hs; cases cc; exact rng (.inr (.inl rfl)) hs.1 hs.2 rfl
    · cases cc
  | rngd =>
    have cc : (if (np (chkE rk a m)).isSome && (np (chkE rk b m)).isSome then some [] else none) = some E1 := cc
    split at cc
    · rename_i hs; rw [Bool.and_eq_true] at hs; cases cc; exact rng (.inr (.inr rfl)) hs.1 hs.2 rfl
    · cases cc
  | _ =>
    have cc : (match chkC (chkE rk a m) a m with
      | some (_, E1) => if (chkE rk a m).isSome && (np (chkE rk b m)).isSome then some E1 else none
      | none => none) = some E1 := cc
    split at cc
    · rename_i n1 Ea c1
      split at cc
      · rename_i hs
        rw [Bool.and_eq_true] at hs
        cases cc
        exact single (by simp) c1 hs.1 hs.2 rfl
      · cases cc
    · cases cc
/-- the turns of a comprehension -/
theorem lc_ok {f : Pv → PW → Option (List D × PW)} {g : Iv → Hm → Option (List U × Hm)} {it : It} {its : List Pv} (P : ItP (Bd pp h2) Zr h2 it its) (hB : ∀ a, B a → a < h2.n)
    (step : ∀ (iv : Iv) (v : Pv) (h : Hm) (w : PW) (ys : List D) (w' : PW), Fr pp h2 h → PWok pp w h → PvR Zr h iv v → f v w = some (ys, w') → ∃ us h' Zy fp, g iv h = some (us, h') ∧ Fr pp h h' ∧ PWok pp w' h' ∧ Ros Zy h' n us ys fp ∧ Lim pp B h h' Zy fp) :
    ∀ (m i : Nat) (h : Hm) (w : PW) (zs : List D) (w' : PW), i + m = its.length → Fr pp h2 h → PWok pp w h → lcP f (its.drop i) w = some (zs, w') →
      ∃ us h' Zy fp, lcLoop g it m i h = some (us, h') ∧ Fr pp h h' ∧ PWok pp w' h' ∧ Ros Zy h' n us zs fp ∧ Lim pp B h h' Zy fp
  | 0, i, h, w, zs, w', hi, x, q, e => by
    rw [List.drop_eq_nil_of_le (by omega)] at e
    cases e
    have := P.gt h (fun a z => x.2 a z.1 z.2) i
    rw [List.getElem?_eq_none (by omega)] at this
    refine ⟨[], h, fun _ => False, [], ?_, .refl, q, .nil, lim_sc⟩
    unfold lcLoop
    rw [atR_none this]; rfl
  | m + 1, i, h, w, zs, w', hi, x, q, e => by
    have hlt : i < its.length := by omega
    rw [List.drop_eq_getElem_cons hlt] at e
    unfold lcP at e
    obtain ⟨ys, w1, e1, e⟩ := pb_some e
    obtain ⟨rs, w2, e2, e⟩ := pb_some e
    cases e
    have := P.gt h (fun a z => x.2 a z.1 z.2) i
    rw [List.getElem?_eq_getElem hlt] at this
    unfold lcLoop
    obtain ⟨iv, h3, this⟩ := atR_some this
    obtain ⟨us, h1, Z1, f1, g1, x1, q1, r1, l1⟩ := step iv _ h w ys w1 x q this e1
    obtain ⟨vs, h2', Z2, f2, g2, x2, q2, r2, l2⟩ := lc_ok P hB step m (i + 1) h1 w1 rs w' (by omega) (x.trans x1) q1 e2
    refine ⟨us ++ vs, h2', fun a => Z1 a ∨ Z2 a, f1 ++ f2, ?_, x1.trans x2, q2, (r1.fr (fun _ => .inl) fun a z => ?_).app (r2.mono fun _ => .inr), Lim.join (fun a z => Nat.lt_of_lt_of_le (hB a z) x.1) x1 x2 l1 l2⟩
    · rw [h3]
      exact (bd_eq g1).trans ((bd_eq g2).trans rfl)
    · rcases z with z | z
      · exact x2.2 a (l1.1 a z).2.1 (l1.1 a z).2.2
      · exact x2.2 a (l1.2.1 a z).2.1 (l1.2.1 a z).2.2.2
/-- inside of a comprehension -/
theorem inner_ok {own : List Nat} {tg : Tn} {E1 : Es} {iv : Iv} {v : Pv} {σp1 : PE} (ht : tgIn own tg = true) (I : PI pp n0 Z0 Z m F h σh σp w) (x : Fr pp h h2) (l : Lim pp (EscZ Z F σh E1) h h2 Zr []) (x2 : Fr pp h2 h') (q : PWok pp w' h') (r : PvR Zr h' iv v) (e : bindPv tg v (wipeP σp own) = some σp1) :
    ∃ σh1 F3, bindI h' tg iv (wipeE σh own) = some σh1 ∧ PI pp n0 Z0 (fun a => EscZ Z F σh E1 a ∨ Zr a) (inM m E1 own tg) F3 h' σh1 σp1 w' ∧ (∀ j a, a ∈ F3 j → j ∉ own ∧ a ∈ F j) ∧ ∀ j, j ∉ own → getE σh1 j = getE σh j := by
  obtain ⟨F1, J1, s1⟩ := I.esc (E := E1) I
  have J2 := J1.fr (x.trans x2) q
  have J3 : PI pp n0 Z0 (fun a => EscZ Z F σh E1 a ∨ Zr a) (escM m E1) F1 h' σh σp w' := by
    refine J2.widen (fun _ => .inl) (fun i a hi z => ?_) fun a z => ?_
    · rcases z with z | z
      · exact (J1.fa i a hi).1 z
      · have b1 := (J1.fa i a hi).2.2.1
        rcases (l.1 a z).1 with y | y
        · exact (J1.fa i a hi).1 y
        · omega
    · rcases z with z | z
      · exact J2.za a z
      · obtain ⟨y1, y2, y3⟩ := l.1 a z
        refine ⟨?_, Nat.lt_of_lt_of_le y2 x2.1, y3⟩
        rcases y1 with y | y
        · exact (J1.za a y).1
        · exact .inr (Nat.le_trans I.nh y)
  obtain ⟨F2, J4, s2, o2⟩ := J3.wipe own
  have fin : ∀ {σh1 : Env} {F3 : Nat → List Nat}, (∀ j a, a ∈ F3 j → a ∈ F2 j) → (∀ j, j ∉ own → getE σh1 j = getE (wipeE σh own) j) → (∀ j a, a ∈ F3 j → j ∉ own ∧ a ∈ F j) ∧ ∀ j, j ∉ own → getE σh1 j = getE σh j := fun s o =>
    ⟨fun j a z => ⟨(s2 j a (s j a z)).1, s1 j a (s2 j a (s j a z)).2⟩, fun j hj => (o j hj).trans (o2 j hj)⟩
  cases r with
  | one r =>
    obtain ⟨σh1, F3, g, J5, s3, o3⟩ := PI.bind J4 (r.mono fun _ => .inr) e
    obtain ⟨f1, f2⟩ := fin s3 (o3 own ht)
    exact ⟨σh1, F3, g, J5, f1, f2⟩
  | two r1 r2 =>
    unfold bindPv at e
    dsimp only at e
    split at e
    · rename_i ta tb
      split at e
      · rename_i σ1 eb
        obtain ⟨σh1, F3, g1, J5, s3, o3⟩ := PI.bind J4 (r1.mono fun _ => .inr) eb
        obtain ⟨σh2, F4, g2, J6, s4, o4⟩ := PI.bind J5 (r2.mono fun _ => .inr) e
        obtain ⟨f1, f2⟩ := fin (fun j a z => s3 j a (s4 j a z)) (fun j hj => (o4 own (tgIn2 ht).2 j hj).trans (o3 own (tgIn2 ht).1 j hj))
        refine ⟨σh2, F4, ?_, J6, f1, f2⟩
        unfold bindI
        dsimp only
        rw [g1]
        exact g2
      · cases e
    · cases e
theorem esc_back {own : List Nat} {E1 E' : Es} {F3 : Nat → List Nat} {σh1 : Env} (l : Lim pp (EscZ Z F σh E1) h h2 Zr []) (f1 : ∀ j a, a ∈ F3 j → j ∉ own ∧ a ∈ F j) (f2 : ∀ j, j ∉ own → getE σh1 j = getE σh j) {a : Nat} (z : EscZ (fun a => EscZ Z F σh E1 a ∨ Zr a) F3 σh1 E' a) :
    EscZ Z F σh (E1 ++ notIn own E') a ∨ (h.n ≤ a ∧ a < h2.n) := by
  rcases z with (z | z) | ⟨q, hq, z1, z2⟩
  · exact .inl z.l
  · rcases (l.1 a z).1 with y | y
    · exact .inl y.l
    · exact .inr ⟨y, (l.1 a z).2.1⟩
  · obtain ⟨y1, y2⟩ := f1 q.1 a z1
    refine .inl (.inr ⟨q, List.mem_append_right _ (List.mem_filter.mpr ⟨hq, ?_⟩), y2, fun t => ?_⟩)
    · rw [decide_eq_false y1]; rfl
    · rw [← f2 q.1 y1]; exact z2 t
end
end Mi

set_option maxRecDepth 100000
/-! Mi, part P11: comprehensions; every term. -/
namespace Mi
open PySem
section
variable {C : Calls} {CP : CallsP} {rk : Nat → Sg}
variable {pp : Option Nat} {n0 : Nat} {Z0 Z Z' B Zr : Nat → Prop} {m : Mks} {F : Nat → List Nat} {h h1 h2 h' : Hm} {σh : Env} {σp : PE} {w w1 w2 w' : PW} {n : Nat} {a b c e i : Ex} {d : D} {es : Exs}
theorem lc_core {own : List Nat} {tg : Tn} {sk : Sk} {E1 Ee : Es} {qc : Kd × Es} {zs : List D} {kp : PE → PW → Option (List D × PW)} {kh : Env → Hm → Option (List U × Hm)}
    (ha : EOk C CP rk a) (hb : EOk C CP rk b) (hc : EOk C CP rk c) (I : PI pp n0 Z0 Z m F h σh σp w) (ht : tgIn own tg = true) (cw : chkW sk (chkE rk a m) (chkE rk b m) a b m = some E1) (cc : np (chkE rk c (inM m E1 own tg)) = some qc)
    (ev : pb (walkP sk (evP CP a) (evP CP b) σp w) (fun it w1 => lcP (turnP own tg σp (evP CP c) kp) it w1) = some (zs, w'))
    (hk : ∀ (Z1 : Nat → Prop) (F3 : Nat → List Nat) (σh1 : Env) (σp1 : PE) (h3 : Hm) (w3 : PW) (ys : List D) (w' : PW), PI pp n0 Z0 Z1 (inM m E1 own tg) F3 h3 σh1 σp1 w3 → kp σp1 w3 = some (ys, w') →
      ∃ us h' Zy fp, kh σh1 h3 = some (us, h') ∧ Fr pp h3 h' ∧ PWok pp w' h' ∧ Ros Zy h' n us ys fp ∧ Lim pp (EscZ Z1 F3 σh1 Ee) h3 h' Zy fp) :
    ∃ x y h1 h2 it us h' Zy fp, evE C a σh h = some (x, h1) ∧ evE C b σh h1 = some (y, h2) ∧ mkIt h2 sk x y = some it ∧
      lcLoop (fun v h => ob (bindI h tg v (wipeE σh own)) fun σ1 => bd (evE C c σ1 h) fun c h3 => bf c (kh σ1 h3) (some ([], h3))) it (it.cnt h2) 0 h2 = some (us, h') ∧
      Fr pp h h' ∧ PWok pp w' h' ∧ Ros Zy h' n us zs fp ∧ Lim pp (EscZ Z F σh (E1 ++ notIn own Ee)) h h' Zy fp := by
  obtain ⟨its, w1, e1, ev⟩ := pb_some ev
  obtain ⟨x, y, h1, h2, it, Zr, g1, g2, g3, x2, q2, P, l2⟩ := walk_ok ha hb I e1 cw
  have hB : ∀ a, (EscZ Z F σh (E1 ++ notIn own Ee) a ∨ (h.n ≤ a ∧ a < h2.n)) → a < h2.n := fun a z => z.elim (fun z => Nat.lt_of_lt_of_le (I.esz z).2.1 x2.1) fun z => z.2
  obtain ⟨us, h', Zy, fp, g4, x4, q4, r4, l4⟩ := lc_ok (B := fun a => EscZ Z F σh (E1 ++ notIn own Ee) a ∨ (h.n ≤ a ∧ a < h2.n)) (n := n) (f := turnP own tg σp (evP CP c) kp) (g := fun v h => ob (bindI h tg v (wipeE σh own)) fun σ1 => bd (evE C c σ1 h) fun c h3 => bf c (kh σ1 h3) (some ([], h3))) P hB (fun iv v h5 w5 ys w6 x5 q5 pv e5 => by
    unfold turnP at e5
    obtain ⟨σp1, eb, e5⟩ := ob_some e5
    obtain ⟨cv, w7, ec, e5⟩ := pb_some e5
    obtain ⟨t, ht2, e6⟩ := pf_some e5
    subst ht2
    obtain ⟨σh1, F3, b1, J, f1, f2⟩ := inner_ok ht I x2 l2 x5 q5 pv eb
    obtain ⟨u, h6, g6, x6, q6, r6⟩ := hc.wr J ec cc
    cases (r6.isca (v := .bl t) rfl)
    cases t with
    | false =>
      rw [if_neg (by decide)] at e6
      cases e6
      exact ⟨[], h6, fun _ => False, [], (ob_eq b1).trans ((bd_eq g6).trans rfl), x6, q6, .nil, lim_sc⟩
    | true =>
      rw [if_pos rfl] at e6
      obtain ⟨us, h7, Zy, fp, g7, x7, q7, r7, l7⟩ := hk _ F3 σh1 σp1 h6 w7 ys w6 (J.fr x6 q6) e6
      exact ⟨us, h7, Zy, fp, (ob_eq b1).trans ((bd_eq g6).trans g7), x6.trans x7, q7, r7, (l7.wider fun a z => esc_back l2 f1 f2 z).dn x6⟩) its.length 0 h2 w1 zs w' (by omega) .refl q2 (by rw [List.drop_zero]; exact ev)
  refine ⟨x, y, h1, h2, it, us, h', Zy, fp, g1, g2, g3, by rw [P.cnt]; exact g4, x2.trans x4, q4, r4, ⟨fun a z => ⟨?_, (l4.1 a z).2⟩, fun a q => ⟨Nat.le_trans x2.1 (l4.2.1 a q).1, (l4.2.1 a q).2⟩, l4.2.2⟩⟩
  rcases (l4.1 a z).1 with (z | z) | z
  · exact .inl z
  · exact .inr z.1
  · exact .inr (Nat.le_trans x2.1 z)
/-- an element -/
theorem elt_ok {q : Kd × Es} {n : Nat} (he : EOk C CP rk e) (I : PI pp n0 Z0 Z m F h σh σp w) (ce : np (chkE rk e m) = some q) (hn : q.1 = .sc ∨ q.1 = .own n) {ys : List D} (ev : eltP (evP CP e) σp w = some (ys, w')) :
    ∃ us h' Zy fp, bd (evE C e σh h) (fun z h4 => some ([z], h4)) = some (us, h') ∧ Fr pp h h' ∧ PWok pp w' h' ∧ Ros Zy h' n us ys fp ∧ Lim pp (EscZ Z F σh q.2) h h' Zy fp := by
  unfold eltP at ev
  obtain ⟨x, w1, e1, ev⟩ := pb_some ev
  cases ev
  obtain ⟨k, E⟩ := q
  obtain ⟨u, h', Zr, fp, g, x1, q1, r, l⟩ := he I e1 (np_some ce).1
  refine ⟨[u], h', Zr, fp ++ [], bd_eq g, x1, q1, .cons ?_ .nil, by rw [List.append_nil]; exact l⟩
  rcases hn with hn | hn
  · have hn : k = .sc := hn
    subst hn
    have e2 : fp = [] := r.2
    subst e2
    exact .sca r.1
  · have hn : k = .own n := hn
    subst hn
    exact r
theorem lcw_some {own : List Nat} {tg : Tn} {r : Option Es} {k : Es → RR} {q : Kd × Es} (e : kLcW own tg r k = some q) : tgIn own tg = true ∧ ∃ E1, r = some E1 ∧ k E1 = some q := by
  unfold kLcW at e
  split at e
  · rename_i ht
    split at e
    · exact ⟨ht, _, rfl, e⟩
    · cases e
  · cases e
theorem kLc_some {own : List Nat} {E1 E : Es} {rc re : RR} {k : Kd} (e : kLc own E1 rc re = some (k, E)) : ∃ qc qe n, rc = some qc ∧ re = some qe ∧ (qe.1 = .sc ∨ qe.1 = .own n) ∧ k = .own (n + 1) ∧ E = E1 ++ notIn own qe.2 := by
  unfold kLc at e
  split at e
  · cases e; exact ⟨_, _, 8, rfl, rfl, .inl rfl, rfl, rfl⟩
  · cases e; exact ⟨_, _, _, rfl, rfl, .inr rfl, rfl, rfl⟩
  · cases e
theorem eo_lc {own : List Nat} {tg : Tn} {sk : Sk} (ha : EOk C CP rk a) (hb : EOk C CP rk b) (hc : EOk C CP rk c) (he : EOk C CP rk e) : EOk C CP rk (.lc own tg sk a b c e) := by
  intro pp n0 Z0 Z m F h σh σp w w' d k E I ev cc
  have cc : kLcW own tg (chkW sk (chkE rk a m) (chkE rk b m) a b m) (fun E1 => kLc own E1 (np (chkE rk c (inM m E1 own tg))) (np (chkE rk e (inM m E1 own tg)))) = some (k, E) := cc
  obtain ⟨ht, E1, cw, cc⟩ := lcw_some cc
  obtain ⟨qc, qe, n, c1, c2, hn, rfl, rfl⟩ := kLc_some cc
  have ev : pb (walkP sk (evP CP a) (evP CP b) σp w) (fun it w1 => pb (lcP (turnP own tg σp (evP CP c) (eltP (evP CP e))) it w1) fun zs w2 => ob (newLD zs) fun d => some (d, w2)) = some (d, w') := ev
  obtain ⟨its, w1, e1, ev⟩ := pb_some ev
  obtain ⟨zs, w2, e2, ev⟩ := pb_some ev
  obtain ⟨t, et, ev⟩ := ob_some ev
  cases ev
  have e3 : pb (walkP sk (evP CP a) (evP CP b) σp w) (fun it w1 => lcP (turnP own tg σp (evP CP c) (eltP (evP CP e))) it w1) = some (zs, w') := by rw [e1]; exact e2
  obtain ⟨x, y, h1, h2, it, us, h', Zy, fp, g1, g2, g3, g4, x4, q4, r4, l4⟩ := lc_core (n := n) (Ee := qe.2) (kh := fun σ1 h3 => bd (evE C e σ1 h3) fun z h4 => some ([z], h4)) ha hb hc I ht cw c1 e3 fun Z1 F3 σh1 σp1 h3 w3 ys w' J ek => elt_ok he J c2 hn ek
  unfold newLD at et
  split at et
  · rename_i hl
    cases et
    have ee : evE C (.lc own tg sk a b c e) σh h = some (.ref h'.n, h'.push (.lst us)) := by
      refine (bd_eq g1).trans ((bd_eq g2).trans ((ob_eq g3).trans ((bd_eq g4).trans ?_)))
      unfold newL
      rw [if_pos (by rw [r4.length]; exact hl)]
    rw [ee]
    exact new_lst x4 q4 r4 l4
  · cases et
theorem eo_lc2 {own vs : List Nat} {tg tg1 : Tn} {sk sk1 : Sk} {a1 b1 c1 : Ex} (ha : EOk C CP rk a) (hb : EOk C CP rk b) (hc : EOk C CP rk c) (ha1 : EOk C CP rk a1) (hb1 : EOk C CP rk b1) (hc1 : EOk C CP rk c1) (he : EOk C CP rk e) : EOk C CP rk (.lc2 own vs tg sk a b c tg1 sk1 a1 b1 c1 e) := by
  intro pp n0 Z0 Z m F h σh σp w w' d k E I ev cc
  have cc : kLcW own tg (chkW sk (chkE rk a m) (chkE rk b m) a b m) (fun E1 => kOut own E1 (kIn (np (chkE rk c (inM m E1 own tg)))
      (kLcW vs tg1 (chkW sk1 (chkE rk a1 (inM m E1 own tg)) (chkE rk b1 (inM m E1 own tg)) a1 b1 (inM m E1 own tg)) fun E2 => kLc vs E2 (np (chkE rk c1 (inM (inM m E1 own tg) E2 vs tg1))) (np (chkE rk e (inM (inM m E1 own tg) E2 vs tg1)))))) = some (k, E) := cc
  obtain ⟨ht, E1, cw, cc⟩ := lcw_some cc
  unfold kOut at cc
  split at cc
  · rename_i n1 E3 hin
    cases cc
    unfold kIn at hin
    split at hin
    · rename_i qc cqc
      obtain ⟨ht1, E2, cw1, cc1⟩ := lcw_some hin
      obtain ⟨qc1, qe, n, c2, c3, hn, hk, rfl⟩ := kLc_some cc1
      cases hk
      have ev : pb (walkP sk (evP CP a) (evP CP b) σp w) (fun it w1 => pb (lcP (turnP own tg σp (evP CP c) fun σ1 w2 => pb (walkP sk1 (evP CP a1) (evP CP b1) σ1 w2) fun it1 w3 => lcP (turnP vs tg1 σ1 (evP CP c1) (eltP (evP CP e))) it1 w3) it w1) fun zs w2 => ob (newLD zs) fun d => some (d, w2)) = some (d, w') := ev
      obtain ⟨its, w1, e1, ev⟩ := pb_some ev
      obtain ⟨zs, w2, e2, ev⟩ := pb_some ev
      obtain ⟨t, et, ev⟩ := ob_some ev
      cases ev
      have e3 : pb (walkP sk (evP CP a) (evP CP b) σp w) (fun it w1 => lcP (turnP own tg σp (evP CP c) fun σ1 w2 => pb (walkP sk1 (evP CP a1) (evP CP b1) σ1 w2) fun it1 w3 => lcP (turnP vs tg1 σ1 (evP CP c1) (eltP (evP CP e))) it1 w3) it w1) = some (zs, w') := by rw [e1]; exact e2
      obtain ⟨x, y, h1, h2, it, us, h', Zy, fp, g1, g2, g3, g4, x4, q4, r4, l4⟩ := lc_core (n := n) (Ee := E2 ++ notIn vs qe.2) (kh := fun σ1 h3 => bd (evE C a1 σ1 h3) fun x h1 => bd (evE C b1 σ1 h1) fun y h2 => ob (mkIt h2 sk1 x y) fun it =>
          lcLoop (fun v h => ob (bindI h tg1 v (wipeE σ1 vs)) fun σ2 => bd (evE C c1 σ2 h) fun c h3 => bf c (bd (evE C e σ2 h3) fun z h4 => some ([z], h4)) (some ([], h3))) it (it.cnt h2) 0 h2) ha hb hc I ht cw cqc e3 fun Z1 F3 σh1 σp1 h3 w3 ys w' J ek => by
        obtain ⟨x, y, h1, h2, it, us, h', Zy, fp, g1, g2, g3, g4, x4, q4, r4, l4⟩ := lc_core (n := n) (Ee := qe.2) (kh := fun σ1 h3 => bd (evE C e σ1 h3) fun z h4 => some ([z], h4)) ha1 hb1 hc1 J ht1 cw1 c2 ek fun Z1 F3 σh1 σp1 h3 w3 ys w' J ek => elt_ok he J c3 hn ek
        exact ⟨us, h', Zy, fp, (bd_eq g1).trans ((bd_eq g2).trans ((ob_eq g3).trans g4)), x4, q4, r4, l4⟩
      unfold newLD at et
      split at et
      · rename_i hl
        cases et
        have ee : evE C (.lc2 own vs tg sk a b c tg1 sk1 a1 b1 c1 e) σh h = some (.ref h'.n, h'.push (.lst us)) := by
          refine (bd_eq g1).trans ((bd_eq g2).trans ((ob_eq g3).trans ((bd_eq g4).trans ?_)))
          unfold newL
          rw [if_pos (by rw [r4.length]; exact hl)]
        rw [ee]
        exact new_lst x4 q4 r4 l4
      · cases et
    · cases hin
  · cases cc
mutual
theorem eo_all (hC : CallOk C CP rk) : ∀ e : Ex, EOk C CP rk e
  | .var _ => eo_var
  | .int i => eo_k (.int i) (fun _ _ => rfl) (fun _ _ => rfl) (fun _ => rfl) rfl
  | .bl b => eo_k (.bl b) (fun _ _ => rfl) (fun _ _ => rfl) (fun _ => rfl) rfl
  | .non => eo_k .non (fun _ _ => rfl) (fun _ _ => rfl) (fun _ => rfl) rfl
  | .str s => eo_k (.str s) (fun _ _ => rfl) (fun _ _ => rfl) (fun _ => rfl) rfl
  | .bin _ a b => eo_bin (eo_all hC a) (eo_all hC b)
  | .neg a => eo_neg (eo_all hC a)
  | .not a => eo_not (eo_all hC a)
  | .and a b => eo_and (eo_all hC a) (eo_all hC b)
  | .or a b => eo_or (eo_all hC a) (eo_all hC b)
  | .ite c a b => eo_ite (eo_all hC c) (eo_all hC a) (eo_all hC b)
  | .cmp _ a b => eo_cmp (eo_all hC a) (eo_all hC b)
  | .chain _ _ a b c => eo_chain (eo_all hC a) (eo_all hC b) (eo_all hC c)
  | .list es => eo_list (es_all hC es)
  | .tup es => eo_tup (es_all hC es)
  | .sub a i => eo_sub (eo_all hC a) (eo_all hC i)
  | .slice a _ _ lo hi => eo_slice (eo_all hC a) (eo_all hC lo) (eo_all hC hi)
  | .rev a => eo_rev (eo_all hC a)
  | .call _ es _ => eo_call (C := C) (CP := CP) (rk := rk) hC (es_all hC es)
  | .callk _ es ks _ _ => eo_callk (C := C) (CP := CP) (rk := rk) hC (es_all hC es) (es_all hC ks)
  | .bi _ es => eo_bi (es_all hC es) (es_one hC es)
  | .isi a _ => eo_isi (eo_all hC a)
  | .isi2 a _ => eo_isi2 (eo_all hC a)
  | .meth _ o es => eo_meth (eo_all hC o) (es_all hC es)
  | .lrng a => eo_lrng (eo_all hC a)
  | .lc _ _ _ a b c e => eo_lc (eo_all hC a) (eo_all hC b) (eo_all hC c) (eo_all hC e)
  | .lc2 _ _ _ _ a b c _ _ a1 b1 c1 e => eo_lc2 (eo_all hC a) (eo_all hC b) (eo_all hC c) (eo_all hC a1) (eo_all hC b1) (eo_all hC c1) (eo_all hC e)
theorem es_all (hC : CallOk C CP rk) : ∀ es : Exs, EsOk C CP rk es
  | .nil => es_nil
  | .cons e es => es_cons (eo_all hC e) (es_all hC es)
theorem es_one (hC : CallOk C CP rk) : ∀ (es : Exs) (e : Ex), es = .cons e .nil → EOk C CP rk e
  | .nil, _, h => by cases h
  | .cons e0 .nil, e, h => by
    have this : EOk C CP rk e0 := eo_all hC e0
    cases h
    exact this
  | .cons _ (.cons _ _), _, h => by cases h
end
end
end Mi

set_option maxRecDepth 100000
/-! Mi, part P12: the check of statements; marks that fall. -/
namespace Mi
open PySem
/-! ### the check of statements -/
def geO : Option Kd → Option Kd → Bool
  | _, none => true
  | some k, some K => k.ge K
  | none, some _ => false
def geM : Mks → Mks → Bool
  | [], [] => true
  | a :: r, b :: s => geO a b && geM r s
  | _, _ => false
def meetO : Option Kd → Option Kd → Option Kd
  | some a, some b => a.meet b
  | _, _ => none
def meetM : Mks → Mks → Mks
  | a :: r, b :: s => meetO a b :: meetM r s
  | _, _ => []
def joinO : Option Mks → Option Mks → Option (Option Mks)
  | none, x => some x
  | x, none => some x
  | some a, some b => if geM a (meetM a b) && geM b (meetM a b) then some (some (meetM a b)) else none
def meetR : Mks → Option Mks → Mks
  | m, none => m
  | m, some b => meetM m b
def geR : Option Mks → Mks → Bool
  | none, _ => true
  | some a, M => geM a M
abbrev SR := Option (Option Mks × Option Mks)
/-- marks that a body keeps -/
def fixM (f : Mks → SR) : Nat → Mks → Option Mks
  | 0, _ => none
  | n + 1, M => match f M with
    | some (r, j) => if geR r M && geR j M then some M else fixM f n (meetR (meetR M r) j)
    | none => none
def bindK (sk : Sk) (t : Tn) (m : Mks) : Mks :=
  match sk, t with
  | .rng1, .nm i => m.set i (some .sc)
  | .rng2, .nm i => m.set i (some .sc)
  | .rngd, .nm i => m.set i (some .sc)
  | .enum, .tp2 (.nm i) b => bindM b (m.set i (some .sc))
  | _, t => bindM t m
def srcS (sk : Sk) (ra rb : RR) : Option Es :=
  match sk, ra, rb with
  | .zip, some (_, E1), some (_, E2) => some (E1 ++ E2)
  | .zip, _, _ => none
  | _, some (_, E1), some _ => some E1
  | _, _, _ => none
def setMs : List Nat → List Kd → Mks → Option Mks
  | [], [], m => some m
  | i :: is, k :: ks, m => setMs is ks (m.set i (some k))
  | _, _, _ => none
def fall (m : Mks) : SR := some (some m, none)
def seqR (r : SR) (k : Mks → SR) : SR :=
  match r with
  | none => none
  | some (none, j) => some (none, j)
  | some (some m, j) => match k m with
    | none => none
    | some (r, j') => match joinO j j' with
      | some j2 => some (r, j2)
      | none => none
def iteR (a b : SR) : SR :=
  match a, b with
  | some (r1, j1), some (r2, j2) => match joinO r1 r2, joinO j1 j2 with
    | some r, some j => some (r, j)
    | _, _ => none
  | _, _ => none
def loopR (M : Option Mks) (f : Mks → SR) : SR :=
  match M with
  | some M => match f M with
    | some (r, j) => if geR r M && geR j M then fall M else none
    | none => none
  | none => none
/-- a value comes to be: e as a value that nobody else has, where e is a name -/
def kMut (me : Me) (k : Nat) (ks : List Kd) : Option Nat :=
  match me, ks with
  | .append, [q] => match lvl q with
    | some l => some (min k l)
    | none => none
  | .insert, [q0, q] => match lvl q0, lvl q with
    | some _, some l => some (min k l)
    | _, _ => none
  | .pop, [] => some k
  | _, _ => none
def kMut1 (me : Me) (i : Nat) (m : Mks) (rs : RRs) : SR :=
  match rs with
  | some (ks, E) => match mkO (escM m E) i with
    | some (.own (n + 1)) => match kMut me n ks with
      | some n' => fall ((escM m E).set i (some (.own (n' + 1))))
      | none => none
    | _ => none
  | none => none
def kSt1 (i : Nat) (m : Mks) (ra re : RR) : SR :=
  match ra, re with
  | some _, some (k, E) => match mkO m i with
    | some .pu => fall m
    | _ => match mkO (escM m E) i, lvl k with
      | some (.own (n + 1)), some l => fall ((escM m E).set i (some (.own (min n l + 1))))
      | _, _ => none
  | _, _ => none
/-- x[a].append(e) -/
def kMut2 (me : Me) (i : Nat) (m : Mks) (ra : RR) (rs : RRs) : SR :=
  match me, ra, rs with
  | .append, some _, some ([q], E) => match mkO (escM m E) i, lvl q with
    | some (.own (n + 2)), some l => if n ≤ l then fall (escM m E) else none
    | _, _ => none
  | _, _, _ => none
/-- return x[i] -/
def kRetSub (rk : Nat → Sg) (ret : Kd) (i : Nat) (x : Ex) (m : Mks) : SR :=
  match mkO m i, np (chkE rk x m) with
  | some (.own n), some _ => if (Kd.own (n - 1)).ge ret then some (none, none) else none
  | some .pu, some _ => if Kd.sc.ge ret then some (none, none) else none
  | _, _ => none
/-- a value no higher than n: who owns it to that depth owns all of it -/
def flatK (n : Nat) (k : Kd) : Option Kd :=
  if n = 0 then some .sc else match k with
  | .sc => some .sc
  | .own a => if n ≤ a ∧ n ≤ 9 then some (.own 9) else none
  | .pu => none
def kSetF (n i : Nat) (m : Mks) (r : RR) : SR :=
  match r with
  | some (k, _) => match flatK n k with
    | some k' => fall (m.set i (some k'))
    | none => none
  | none => none
def kRetF (ret : Kd) (n : Nat) (r : RR) : SR :=
  match r with
  | some (k, _) => match flatK n k with
    | some k' => if k'.ge ret then some (none, none) else none
    | none => none
  | none => none
def kSw (i j : Nat) (rs : RRs) (r1 : SR) (k : Mks → SR) : SR :=
  match rs with
  | some ([.sc, .sc], _) => seqR r1 k
  | _ => none
def kSpl (g : Sg) (n i : Nat) (m : Mks) : SR := match mkO m i with
  | some (.own k) => if n ≤ k ∧ g.ret = .pu then fall (m.set i none) else none
  | _ => none
def kApp (n x i : Nat) (m : Mks) : SR := match mkO m i with
  | some (.own k) => if n ≤ k then fall ((m.set i none).set x none) else none
  | _ => none
section
variable (rk : Nat → Sg) (ret : Kd)
mutual
def chkS : Sm → Mks → SR
  | .pass, m => fall m
  | .ex e, m => match chkE rk e m with
    | some _ => fall m
    | none => none
  | .set i e, m => match chkE rk e m with
    | some (k, E) => fall ((escM m E).set i (some k))
    | none => none
  | .par is es, m => match chkEs rk es m with
    | some (ks, E) => match setMs is ks (escM m E) with
      | some m' => fall m'
      | none => none
    | none => none
  | .asg t e, m => match np (chkE rk e m) with
    | some (_, E) => fall (bindM t (escM m E))
    | none => none
  | .aug i _ e, m => match mkO m i, np (chkE rk e m) with
    | some .pu, _ => none
    | some _, some _ => fall (m.set i (some .sc))
    | _, _ => none
  | .ite c a b, m => match np (chkE rk c m) with
    | some _ => iteR (chkSs a m) (chkSs b m)
    | none => none
  | .for tg sk a b body, m => match srcS sk (np (chkE rk a m)) (np (chkE rk b m)) with
    | some E => loopR (fixM (fun M => chkSs body (bindK sk tg M)) 6 (escM m E)) (fun M => if geM (escM m E) M then chkSs body (bindK sk tg M) else none)
    | none => none
  | .while c body, m => loopR (fixM (fun M => chkSs body M) 6 m) (fun M => if geM m M then match np (chkE rk c M) with
    | some _ => chkSs body M
    | none => none else none)
  | .ret e, m => match e with
    | .var i => match mkO m i with
      | some k => if k.ge ret then some (none, none) else none
      | none => none
    | .sub (.var i) x => kRetSub rk ret i x m
    | _ => match chkE rk e m with
      | some (k, _) => if k.ge ret then some (none, none) else none
      | none => none
  | .retn, _ => if Kd.ge .sc ret then some (none, none) else none
  | .raise, _ => some (none, none)
  | .brk, m => some (none, some m)
  | .cnt, m => some (none, some m)
  | .mut1 me i es, m => kMut1 me i m (chkEs rk es m)
  | .st1 i a e, m => kSt1 i m (np (chkE rk a m)) (np (chkE rk e m))
  | .mut2 me i a es, m => kMut2 me i m (np (chkE rk a m)) (chkEs rk es m)
  | .mv i j, m => match mkO m j with
    | some k => fall ((m.set j none).set i (some k))
    | none => none
  | .mutv i j, m => match mkO m j with
    | some k => match mkO (m.set j none) i, lvl k with
      | some (.own (n + 1)), some l => fall ((m.set j none).set i (some (.own (min n l + 1))))
      | _, _ => none
    | none => none
  | .spoil n s, m => match s with
    | .set i e => kSetF n i m (np (chkE rk e m))
    | .ret e => kRetF ret n (np (chkE rk e m))
    | .ex (.call f (.cons (.var i) .nil) []) => kSpl (rk f) n i m
    | .for (.nm x) .seq (.var i) .non (.cons (.mut1 .append _ (.cons (.str _) .nil)) .nil) => kApp n x i m
    | _ => none
  | .sw i a j b es, m => kSw i j (chkEs rk es m) (kSt1 i m (np (chkE rk a m)) (some (.sc, []))) fun m' => kSt1 j m' (np (chkE rk b m')) (some (.sc, []))
  | _, _ => none
def chkSs : Sms → Mks → SR
  | .nil, m => fall m
  | .cons s r, m => seqR (chkS s m) (fun m' => chkSs r m')
end
end
/-! ### marks that fall -/
theorem geM_get : ∀ {m M : Mks}, geM m M = true → ∀ {i : Nat} {K : Kd}, mkO M i = some K → ∃ k, mkO m i = some k ∧ k.ge K = true
  | [], [], _, i, K, e => by cases e
  | a :: r, b :: s, hg, 0, K, e => by
    unfold geM at hg
    rw [Bool.and_eq_true] at hg
    have e : b = some K := e
    subst e
    cases a with
    | none => cases hg.1
    | some k => exact ⟨k, rfl, hg.1⟩
  | a :: r, b :: s, hg, i + 1, K, e => by
    unfold geM at hg
    rw [Bool.and_eq_true] at hg
    exact geM_get hg.2 (i := i) e
  | [], _ :: _, hg, _, _, _ => by cases hg
  | _ :: _, [], hg, _, _, _ => by cases hg
section
variable {pp : Option Nat} {n0 : Nat} {Z0 Z Z' B Zr : Nat → Prop} {m M : Mks} {F : Nat → List Nat} {h h1 h2 h' : Hm} {σh : Env} {σp : PE} {w w1 w2 w' : PW} {n : Nat} {a b c e i : Ex} {d : D} {es : Exs}
theorem Rk.low {k k' : Kd} {u : U} {fp : List Nat} (hk : k.ge k' = true) (hn : fp.Nodup) (r : Rk pp Z h k u d fp) : ∃ fp', (∀ a ∈ fp', a ∈ fp) ∧ fp'.Nodup ∧ Rk pp (fun a => Z a ∨ (a ∈ fp ∧ a ∉ fp')) h k' u d fp' := by
  cases k with
  | sc =>
    cases k' with
    | sc => exact ⟨fp, fun _ q => q, hn, r⟩
    | own n => exact ⟨[], fun _ q => (nomatch q), .nil, Ro.sca r.1⟩
    | pu => cases hk
  | pu =>
    cases k' with
    | pu => exact ⟨fp, fun _ q => q, hn, r⟩
    | sc => cases hk
    | own n => cases hk
  | own a =>
    cases k' with
    | own b => exact (show Ro Z h a u d fp from r).weak (of_decide_eq_true hk) hn
    | sc => cases hk
    | pu => cases hk
theorem PI.weak (I : PI pp n0 Z0 Z m F h σh σp w) (hg : geM m M = true) : ∃ Z' F', (∀ a, Z a → Z' a) ∧ PI pp n0 Z0 Z' M F' h σh σp w := by
  have key : ∀ i, ∃ fp', (∀ a ∈ fp', a ∈ F i) ∧ fp'.Nodup ∧ ∀ K, mkO M i = some K → ∀ d, getP σp i = some d → ∃ u, getE σh i = some u ∧ Rk pp (fun a => Z a ∨ (a ∈ F i ∧ a ∉ fp')) h K u d fp' := by
    intro i
    cases hM : mkO M i with
    | none => exact ⟨[], fun _ q => (nomatch q), .nil, fun K e => by cases e⟩
    | some K =>
      obtain ⟨k, hk, hge⟩ := geM_get hg hM
      cases hd : getP σp i with
      | none => exact ⟨[], fun _ q => (nomatch q), .nil, fun K _ d e => by cases e⟩
      | some d =>
        obtain ⟨u, eu, r⟩ := I.sl i k hk d hd
        obtain ⟨fp', s1, s2, r'⟩ := r.low hge (I.nd i)
        exact ⟨fp', s1, s2, fun K' e d' e' => by cases e; cases e'; exact ⟨u, eu, r'⟩⟩
  let F' : Nat → List Nat := fun i => Classical.choose (key i)
  have hF : ∀ i, (∀ a ∈ F' i, a ∈ F i) ∧ (F' i).Nodup ∧ ∀ K, mkO M i = some K → ∀ d, getP σp i = some d → ∃ u, getE σh i = some u ∧ Rk pp (fun a => Z a ∨ (a ∈ F i ∧ a ∉ F' i)) h K u d (F' i) := fun i => Classical.choose_spec (key i)
  refine ⟨fun a => Z a ∨ ∃ i, a ∈ F i ∧ a ∉ F' i, F', fun a z => .inl z, ⟨fun i K hK d hd => ?_, fun i => (hF i).2.1, fun i j a q1 q2 => I.dj i j a ((hF i).1 a q1) ((hF j).1 a q2), fun i a q => ⟨fun z => ?_, (I.fa i a ((hF i).1 a q)).2⟩, fun a z => ?_, I.pw, I.ln, I.nh⟩⟩
  · obtain ⟨u, e, r⟩ := (hF i).2.2 K hK d hd
    refine ⟨u, e, ?_⟩
    exact r.mono fun a z => z.imp id fun q => ⟨i, q⟩
  · rcases z with z | ⟨j, z1, z2⟩
    · exact (I.fa i a ((hF i).1 a q)).1 z
    · have := I.dj j i a z1 ((hF i).1 a q)
      subst this
      exact z2 q
  · rcases z with z | ⟨j, z1, z2⟩
    · exact I.za a z
    · obtain ⟨_, y2, y3, y4⟩ := I.fa j a z1
      exact ⟨.inr y2, y3, y4⟩
/-- a list that is owned is changed -/
theorem PI.mut (I : PI pp n0 Z0 Z m F h σh σp w) {i x k : Nat} {us : List U} {ds : List D} {fk : List Nat} (hx : getE σh i = some (.ref x)) (hxF : x ∈ F i) (hz : ∀ a, Z a → Z' a) (r : Ros Z' h k us ds fk) (hn : fk.Nodup) (hxk : x ∉ fk) (hxz : ¬ Z' x)
    (hf : ∀ a ∈ fk, ¬ Z' a ∧ n0 ≤ a ∧ a < h.n ∧ some a ≠ pp) (hd : ∀ j a, j ≠ i → a ∈ F j → a ∉ fk ∧ ¬ Z' a) (hz' : ∀ a, Z' a → (Z0 a ∨ n0 ≤ a) ∧ a < h.n ∧ some a ≠ pp) :
    PI pp n0 Z0 Z' (m.set i (some (.own (k + 1)))) (fun j => if j = i then x :: fk else F j) (h.set x (.lst us)) σh (σp.set i (some (.lst ds))) w := by
  have bx := I.fa i x hxF
  have gx : ∀ {a}, a ≠ x → (h.set x (.lst us)).get a = h.get a := fun {a} ha => by rw [Hm.get_set _ _ bx.2.2.1, if_neg ha]
  have gy : (h.set x (.lst us)).get x = some (.lst us) := by rw [Hm.get_set _ _ bx.2.2.1, if_pos rfl]
  refine ⟨fun j q hq e he => ?_, fun j => ?_, fun j l a q1 q2 => ?_, fun j a q => ?_, hz', fun p hp => ?_, by rw [List.length_set]; exact I.ln, I.nh⟩
  · rcases getP_set he with ⟨hj, hl, e1⟩ | ⟨hj, e1⟩
    · cases e1
      subst hj
      rw [if_pos rfl]
      rcases mk_set hq with ⟨_, e2⟩ | ⟨hj, _⟩
      · cases e2
        refine ⟨.ref x, hx, .lst gy (r.fr (fun _ z => z) fun a z => gx fun y => ?_)⟩
        subst y
        exact z.elim hxz hxk
      · exact absurd rfl hj
    · rcases mk_set hq with ⟨hj', _⟩ | ⟨_, e2⟩
      · exact absurd hj' hj
      · rw [if_neg hj]
        obtain ⟨u, eu, ru⟩ := I.sl j q e2 e e1
        refine ⟨u, eu, ?_⟩
        cases q with
        | sc => exact ru
        | pu => exact ru
        | own n =>
          refine (show Ro Z h n u e (F j) from ru).fr hz fun a z => gx fun y => ?_
          subst y
          rcases z with z | z
          · exact bx.1 z
          · exact hj (I.dj j i a z hxF)
  · by_cases hj : j = i
    · rw [if_pos hj]; exact List.nodup_cons.mpr ⟨hxk, hn⟩
    · rw [if_neg hj]; exact I.nd j
  · by_cases hj : j = i
    · rw [if_pos hj] at q1
      by_cases hl : l = i
      · rw [hj, hl]
      · rw [if_neg hl] at q2
        rcases List.mem_cons.mp q1 with e | q1
        · exact absurd (I.dj l i a q2 (e ▸ hxF)) hl
        · exact absurd q1 (hd l a hl q2).1
    · rw [if_neg hj] at q1
      by_cases hl : l = i
      · rw [if_pos hl] at q2
        rcases List.mem_cons.mp q2 with e | q2
        · exact absurd (I.dj j i a q1 (e ▸ hxF)) hj
        · exact absurd q2 (hd j a hj q1).1
      · rw [if_neg hl] at q2
        exact I.dj j l a q1 q2
  · by_cases hj : j = i
    · rw [if_pos hj] at q
      rcases List.mem_cons.mp q with e | q
      · rw [e]; exact ⟨hxz, bx.2⟩
      · exact hf a q
    · rw [if_neg hj] at q
      exact ⟨(hd j a hj q).2, (I.fa j a q).2⟩
  · rw [gx fun y => bx.2.2.2 (by rw [← y]; exact hp.symm)]
    exact I.pw p hp
end
end Mi

set_option maxRecDepth 100000
/-! Mi, part P13: statements. -/
namespace Mi
open PySem
/-- what a statement may do to the heap -/
def Fs (pp : Option Nat) (n0 : Nat) (Z : Nat → Prop) (h h' : Hm) : Prop := h.n ≤ h'.n ∧ (∀ a, Z a → h'.get a = h.get a) ∧ ∀ a, a < n0 → some a ≠ pp → h'.get a = h.get a
/-- the state behind a statement -/
def Beh (pp : Option Nat) (n0 : Nat) (Z0 Z : Nat → Prop) (M : Mks) (h' : Hm) (σh' : Env) (σp' : PE) (w' : PW) : Prop := ∃ Z' F', (∀ a, Z a → Z' a) ∧ PI pp n0 Z0 Z' M F' h' σh' σp' w'
/-- what is returned -/
def Rtd (pp : Option Nat) (n0 : Nat) (Z0 : Nat → Prop) (k : Kd) (h' : Hm) (u : U) (d : D) (w' : PW) : Prop := PWok pp w' h' ∧ ∃ Zr fp, Rk pp Zr h' k u d fp ∧ Lim pp Z0 ⟨n0, .lf⟩ h' Zr fp
def FlP (pp : Option Nat) (n0 : Nat) (Z0 Z : Nat → Prop) (ret : Kd) (r J : Option Mks) (h' : Hm) (fl : Pl) (fl' : Fl) (σh' : Env) (σp' : PE) (w' : PW) : Prop :=
  match fl with
  | .nx => fl' = .nx ∧ ∃ M, r = some M ∧ Beh pp n0 Z0 Z M h' σh' σp' w'
  | .bk => fl' = .bk ∧ ∃ M, J = some M ∧ Beh pp n0 Z0 Z M h' σh' σp' w'
  | .ct => fl' = .ct ∧ ∃ M, J = some M ∧ Beh pp n0 Z0 Z M h' σh' σp' w'
  | .rt d => ∃ u, fl' = .rt u ∧ Rtd pp n0 Z0 ret h' u d w'
def SEnd (pp : Option Nat) (n0 : Nat) (Z0 Z : Nat → Prop) (ret : Kd) (r J : Option Mks) (h : Hm) (fl : Pl) (σp' : PE) (w' : PW) (o : ResS) : Prop :=
  ∃ fl' σh' h', o = some (fl', σh', h') ∧ Fs pp n0 Z h h' ∧ FlP pp n0 Z0 Z ret r J h' fl fl' σh' σp' w'
def SOk (C : Calls) (CP : CallsP) (rk : Nat → Sg) (ret : Kd) (s : Sm) : Prop := ∀ {pp : Option Nat} {n0 : Nat} {Z0 Z : Nat → Prop} {m : Mks} {F : Nat → List Nat} {h : Hm} {σh : Env} {σp σp' : PE} {w w' : PW} {fl : Pl} {r J : Option Mks},
  PI pp n0 Z0 Z m F h σh σp w → exP CP s σp w = some (fl, σp', w') → chkS rk ret s m = some (r, J) → SEnd pp n0 Z0 Z ret r J h fl σp' w' (exS C s σh h)
def SsOk (C : Calls) (CP : CallsP) (rk : Nat → Sg) (ret : Kd) (s : Sms) : Prop := ∀ {pp : Option Nat} {n0 : Nat} {Z0 Z : Nat → Prop} {m : Mks} {F : Nat → List Nat} {h : Hm} {σh : Env} {σp σp' : PE} {w w' : PW} {fl : Pl} {r J : Option Mks},
  PI pp n0 Z0 Z m F h σh σp w → exPs CP s σp w = some (fl, σp', w') → chkSs rk ret s m = some (r, J) → SEnd pp n0 Z0 Z ret r J h fl σp' w' (exSs C s σh h)
section
variable {C : Calls} {CP : CallsP} {rk : Nat → Sg} {ret : Kd}
variable {pp : Option Nat} {n0 : Nat} {Z0 Z Z' B Zr : Nat → Prop} {m M : Mks} {F : Nat → List Nat} {h h1 h2 h' : Hm} {σh σh' : Env} {σp σp' : PE} {w w1 w2 w' : PW} {n : Nat} {a b c e i : Ex} {d : D} {es : Exs} {fl : Pl} {r J : Option Mks}
theorem Fs.refl : Fs pp n0 Z h h := ⟨Nat.le_refl _, fun _ _ => rfl, fun _ _ _ => rfl⟩
theorem Fs.trans (hz : ∀ a, Z a → Z' a) (x : Fs pp n0 Z h h1) (y : Fs pp n0 Z' h1 h2) : Fs pp n0 Z h h2 :=
  ⟨Nat.le_trans x.1 y.1, fun a z => (y.2.1 a (hz a z)).trans (x.2.1 a z), fun a l p => (y.2.2 a l p).trans (x.2.2 a l p)⟩
theorem PI.fs (I : PI pp n0 Z0 Z m F h σh σp w) (x : Fr pp h h1) : Fs pp n0 Z h h1 :=
  ⟨x.1, fun a z => x.2 a (I.za a z).2.1 (I.za a z).2.2, fun a l p => x.2 a (Nat.lt_of_lt_of_le l I.nh) p⟩
theorem SEnd.here (I : PI pp n0 Z0 Z' M F h1 σh' σp' w') (hz : ∀ a, Z a → Z' a) {o : ResS} (e : o = some (.nx, σh', h1)) (x : Fs pp n0 Z h h1) : SEnd pp n0 Z0 Z ret (some M) J h .nx σp' w' o :=
  ⟨.nx, σh', h1, e, x, rfl, M, rfl, Z', F, hz, I⟩
/-- behind a term whose value is kept: what it may reach is frozen -/
theorem PI.aft {E : Es} {fp : List Nat} (I : PI pp n0 Z0 Z m F h σh σp w) (x : Fr pp h h1) (q : PWok pp w1 h1) (l : Lim pp (EscZ Z F σh E) h h1 Zr fp) :
    ∃ F', PI pp n0 Z0 (fun a => EscZ Z F σh E a ∨ Zr a) (escM m E) F' h1 σh σp w1 ∧ (∀ j a, a ∈ F' j → a ∈ F j) ∧ (∀ a ∈ fp, ¬ (EscZ Z F σh E a ∨ Zr a) ∧ n0 ≤ a ∧ a < h1.n ∧ some a ≠ pp) ∧ ∀ j a, a ∈ F' j → a ∉ fp := by
  obtain ⟨F', J1, s1⟩ := I.esc (E := E) I
  have J2 := J1.fr x q
  refine ⟨F', J2.widen (fun _ => .inl) (fun i a hi z => ?_) fun a z => ?_, s1, fun a m => ⟨fun z => ?_, Nat.le_trans I.nh (l.2.1 a m).1, (l.2.1 a m).2.1, (l.2.1 a m).2.2.2⟩, fun j a q1 q2 => ?_⟩
  · rcases z with z | z
    · exact (J1.fa i a hi).1 z
    · have b1 := (J1.fa i a hi).2.2.1
      rcases (l.1 a z).1 with y | y
      · exact (J1.fa i a hi).1 y
      · omega
  · rcases z with z | z
    · exact J2.za a z
    · obtain ⟨y1, y2, y3⟩ := l.1 a z
      refine ⟨?_, y2, y3⟩
      rcases y1 with y | y
      · exact (J1.za a y).1
      · exact .inr (Nat.le_trans I.nh y)
  · rcases z with z | z
    · have := (I.esz z).2.1
      have := (l.2.1 a m).1
      omega
    · exact (l.2.1 a m).2.2.1 z
  · have b1 := (J1.fa j a q1).2.2.1
    have b2 := (l.2.1 a q2).1
    omega
theorem po_pass : SOk C CP rk ret .pass := by
  intro pp n0 Z0 Z m F h σh σp σp' w w' fl r J I ev cc
  cases ev
  have cc : fall m = some (r, J) := cc
  cases cc
  exact .here I (fun _ z => z) rfl .refl
theorem po_raise : SOk C CP rk ret .raise := by
  intro pp n0 Z0 Z m F h σh σp σp' w w' fl r J I ev cc
  cases ev
theorem po_brk : SOk C CP rk ret .brk := by
  intro pp n0 Z0 Z m F h σh σp σp' w w' fl r J I ev cc
  cases ev
  have cc : some (none, some m) = some (r, J) := cc
  cases cc
  exact ⟨.bk, σh, h, rfl, .refl, rfl, m, rfl, Z, F, fun _ z => z, I⟩
theorem po_cnt : SOk C CP rk ret .cnt := by
  intro pp n0 Z0 Z m F h σh σp σp' w w' fl r J I ev cc
  cases ev
  have cc : some (none, some m) = some (r, J) := cc
  cases cc
  exact ⟨.ct, σh, h, rfl, .refl, rfl, m, rfl, Z, F, fun _ z => z, I⟩
theorem po_ex (ha : EOk C CP rk e) : SOk C CP rk ret (.ex e) := by
  intro pp n0 Z0 Z m F h σh σp σp' w w' fl r J I ev cc
  have ev : pb (evP CP e σp w) (fun _ w1 => some (.nx, σp, w1)) = some (fl, σp', w') := ev
  obtain ⟨x, w1, e1, ev⟩ := pb_some ev
  cases ev
  have cc : (match chkE rk e m with
    | some _ => fall m
    | none => none) = some (r, J) := cc
  split at cc
  · rename_i q cq
    cases cc
    obtain ⟨u, h1, Zr, fp, g1, x1, q1, r1, l1⟩ := ha I e1 (k := q.1) (E := q.2) cq
    exact .here (I.fr x1 q1) (fun _ z => z) (bd_eq g1) (I.fs x1)
  · cases cc
theorem po_set {i : Nat} (ha : EOk C CP rk e) : SOk C CP rk ret (.set i e) := by
  intro pp n0 Z0 Z m F h σh σp σp' w w' fl r J I ev cc
  have ev : pb (evP CP e σp w) (fun u w1 => some (.nx, σp.set i (some u), w1)) = some (fl, σp', w') := ev
  obtain ⟨x, w1, e1, ev⟩ := pb_some ev
  cases ev
  have cc : (match chkE rk e m with
    | some (k, E) => fall ((escM m E).set i (some k))
    | none => none) = some (r, J) := cc
  split at cc
  · rename_i k E cq
    cases cc
    obtain ⟨u, h1, Zr, fp, g1, x1, q1, r1, l1⟩ := ha I e1 cq
    obtain ⟨F', J1, s1, s2, s3⟩ := I.aft x1 q1 l1
    exact .here (J1.set (r1.mono fun _ => .inr) l1.2.2 s2 fun j a _ z => s3 j a z) (fun a z => .inl (.inl z)) (bd_eq g1) (I.fs x1)
  · cases cc
theorem bindM_ok {t : Tn} {E : Es} {u : U} (I : PI pp n0 Z0 Z m F h σh σp w) (x : Fr pp h h1) (q : PWok pp w1 h1) {fp : List Nat} (l : Lim pp (EscZ Z F σh E) h h1 Zr fp) (r : Rp (fun a => Zr a ∨ a ∈ fp) h1 u d) (e : bindP t d σp = some σp') :
    ∃ σh' F', bindT h1 t u σh = some σh' ∧ PI pp n0 Z0 (fun a => EscZ Z F σh E a ∨ (Zr a ∨ a ∈ fp)) (bindM t (escM m E)) F' h1 σh' σp' w1 := by
  obtain ⟨F', J1, s1, s2, s3⟩ := I.aft x q l.all
  obtain ⟨σh1, F2, g, J2, _, _⟩ := PI.bind J1 (r.mono fun a z => .inr z) e
  exact ⟨σh1, F2, g, J2⟩
theorem Rk.toRp {k : Kd} {u : U} {fp : List Nat} (hk : k ≠ .pu) (r : Rk pp Zr h k u d fp) : Rp (fun a => Zr a ∨ a ∈ fp) h u d := by
  cases k with
  | sc => exact .sca r.1
  | pu => exact absurd rfl hk
  | own n => exact (show Ro Zr h n u d fp from r).rp fun a z => z
theorem po_asg {t : Tn} (ha : EOk C CP rk e) : SOk C CP rk ret (.asg t e) := by
  intro pp n0 Z0 Z m F h σh σp σp' w w' fl r J I ev cc
  have ev : pb (evP CP e σp w) (fun u w1 => ob (bindP t u σp) fun σ1 => some (.nx, σ1, w1)) = some (fl, σp', w') := ev
  obtain ⟨x, w1, e1, ev⟩ := pb_some ev
  obtain ⟨σ1, e2, ev⟩ := ob_some ev
  cases ev
  have cc : (match np (chkE rk e m) with
    | some (_, E) => fall (bindM t (escM m E))
    | none => none) = some (r, J) := cc
  split at cc
  · rename_i k E cq
    cases cc
    obtain ⟨c1, c2⟩ := np_some cq
    obtain ⟨u, h1, Zr, fp, g1, x1, q1, r1, l1⟩ := ha I e1 c1
    obtain ⟨σh1, F2, g, J2⟩ := bindM_ok I x1 q1 l1 (r1.toRp c2) e2
    exact .here J2 (fun a z => .inl (.inl z)) ((bd_eq g1).trans (ob_eq g)) (I.fs x1)
  · cases cc
theorem aug_p {op : Bop} {u v : U} {x y z : D} (r1 : Rp Z h u x) (r2 : Rp Z' h v y) (e : augD op x y = some z) : ∃ q, augU op u v = some q ∧ scaP z = some q := by
  cases op with
  | add => cases x with
    | int i => cases y with
      | int j => cases (r1.isca (v := .int i) rfl); cases (r2.isca (v := .int j) rfl); cases e; exact ⟨_, rfl, rfl⟩
      | _ => cases e
    | _ => cases e
  | sub => cases x with
    | int i => cases y with
      | int j => cases (r1.isca (v := .int i) rfl); cases (r2.isca (v := .int j) rfl); cases e; exact ⟨_, rfl, rfl⟩
      | _ => cases e
    | _ => cases e
  | _ => cases x <;> first | cases e | (cases y <;> cases e)
theorem po_aug {i : Nat} {op : Bop} (ha : EOk C CP rk e) : SOk C CP rk ret (.aug i op e) := by
  intro pp n0 Z0 Z m F h σh σp σp' w w' fl r J I ev cc
  have ev : ob (getP σp i) (fun x => pb (evP CP e σp w) fun y w1 => ob (augD op x y) fun z => some (.nx, σp.set i (some z), w1)) = some (fl, σp', w') := ev
  obtain ⟨x, e0, ev⟩ := ob_some ev
  obtain ⟨y, w1, e1, ev⟩ := pb_some ev
  obtain ⟨z, e2, ev⟩ := ob_some ev
  cases ev
  have cc : (match mkO m i, np (chkE rk e m) with
    | some .pu, _ => none
    | some _, some _ => fall (m.set i (some .sc))
    | _, _ => none) = some (r, J) := cc
  have hk : ∃ k q, k ≠ .pu ∧ mkO m i = some k ∧ np (chkE rk e m) = some q ∧ r = some (m.set i (some .sc)) ∧ J = none := by
    split at cc
    · cases cc
    · rename_i k q hn hk hq
      cases cc
      exact ⟨k, q, fun z => hn z, hk, hq, rfl, rfl⟩
    · cases cc
  obtain ⟨k, q, hk, hm, hq, rfl, rfl⟩ := hk
  obtain ⟨u, eu, ru⟩ := I.sl i k hm _ e0
  obtain ⟨v, h1, g1, x1, q1, r1⟩ := ha.wr I e1 hq
  have ru' : Rp (Bd pp h) h u x := by
    cases k with
    | sc => exact .sca ru.1
    | pu => exact absurd rfl hk
    | own n => exact (show Ro Z h n u x (F i) from ru).rp fun a z => z.elim (fun z => (I.za a z).2) fun z => (I.fa i a z).2.2
  obtain ⟨q, a1, a2⟩ := aug_p (ru'.up x1) r1 e2
  have J1 := I.fr x1 q1
  refine .here (J1.set (k := .sc) (fp := []) ⟨a2, rfl⟩ .nil (fun _ q => (nomatch q)) fun _ _ _ _ q => (nomatch q)) (fun _ z => z) ((ob_eq eu).trans ((bd_eq g1).trans (ob_eq a1))) (I.fs x1)
theorem rt_ok {k : Kd} {E : Es} {o : Res} {σ : PE} (I : PI pp n0 Z0 Z m F h σh σp w) (hk : k.ge ret = true) (R : RE pp (EscZ Z F σh E) h k d w' o) : SEnd pp n0 Z0 Z ret none none h (.rt d) σ w' (bd o fun u h1 => some (.rt u, σh, h1)) := by
  obtain ⟨u, h', Zr, fp, g, x, q, r, l⟩ := R.lower hk
  refine ⟨.rt u, σh, h', bd_eq g, I.fs x, u, rfl, q, Zr, fp, r, ⟨fun a z => ⟨?_, (l.1 a z).2⟩, fun a m => ⟨Nat.le_trans I.nh (l.2.1 a m).1, (l.2.1 a m).2⟩, l.2.2⟩⟩
  rcases (l.1 a z).1 with y | y
  · exact (I.esz y).1
  · exact .inr (Nat.le_trans I.nh y)
theorem po_ret (ha : EOk C CP rk e) (hsub : ∀ i x, e = .sub (.var i) x → EOk C CP rk x) : SOk C CP rk ret (.ret e) := by
  intro pp n0 Z0 Z m F h σh σp σp' w w' fl r J I ev cc
  have ev : pb (evP CP e σp w) (fun u w1 => some (.rt u, σp, w1)) = some (fl, σp', w') := ev
  obtain ⟨xv, w1, e1, ev⟩ := pb_some ev
  cases ev
  have other : (match chkE rk e m with
      | some (k, _) => if k.ge ret then some (none, none) else none
      | none => none) = some (r, J) → SEnd pp n0 Z0 Z ret r J h (.rt xv) σp w' (exS C (.ret e) σh h) := by
    intro cc
    split at cc
    · rename_i k E cq
      split at cc
      · rename_i hk
        cases cc
        exact rt_ok I hk (ha I e1 cq)
      · cases cc
    · cases cc
  cases e with
  | var i =>
    have cc : (match mkO m i with
      | some k => if k.ge ret then some (none, none) else none
      | none => none) = some (r, J) := cc
    split at cc
    · rename_i k hm
      split at cc
      · rename_i hk
        cases cc
        have e1 : ob (getP σp i) (fun d => some (d, w)) = some (xv, w') := e1
        obtain ⟨x', hx, e1⟩ := ob_some e1
        cases e1
        obtain ⟨u, eu, ru⟩ := I.sl i k hm _ hx
        have l0 : Lim pp Z0 ⟨n0, .lf⟩ h Z (F i) := ⟨fun a z => I.za a z, fun a q => ⟨(I.fa i a q).2.1, (I.fa i a q).2.2.1, (I.fa i a q).1, (I.fa i a q).2.2.2⟩, I.nd i⟩
        obtain ⟨Zr, fp, r2, l2, _⟩ := ru.lower hk l0
        have ee : exS C (.ret (.var i)) σh h = some (.rt u, σh, h) := by
          show bd (ob (getE σh i) fun u => some (u, h)) _ = _
          rw [eu]; rfl
        exact ⟨.rt u, σh, h, ee, .refl, u, rfl, I.pw, Zr, fp, r2, l2⟩
      · cases cc
    · cases cc
  | sub a x =>
    cases a with
    | var i =>
      have cc : kRetSub rk ret i x m = some (r, J) := cc
      unfold kRetSub at cc
      split at cc
      · rename_i n q hm hq
        split at cc
        · rename_i hk
          cases cc
          have e1 : pb (evP CP (.var i) σp w) (fun y w1 => pb (evP CP x σp w1) fun z w2 => ob (subP w2 y z) fun r => some (r, w2)) = some (_, w') := e1
          obtain ⟨y, w1, e2, e1⟩ := pb_some e1
          obtain ⟨z, w2, e3, e1⟩ := pb_some e1
          obtain ⟨v, e4, e1⟩ := ob_some e1
          cases e1
          have e2 : ob (getP σp i) (fun d => some (d, w)) = some (y, w1) := e2
          obtain ⟨y', hy, e2⟩ := ob_some e2
          cases e2
          obtain ⟨u, eu, ru⟩ := I.sl i _ hm _ hy
          have ru : Ro Z h n u y (F i) := ru
          obtain ⟨ux, h1, g1, x1, q1, r1⟩ := EOk.wr (hsub i x rfl) I e3 hq
          have l0 : Lim pp Z0 ⟨n0, .lf⟩ h Z (F i) := ⟨fun a z => I.za a z, fun a q => ⟨(I.fa i a q).2.1, (I.fa i a q).2.2.1, (I.fa i a q).1, (I.fa i a q).2.2.2⟩, I.nd i⟩
          obtain ⟨fp, ss, kd⟩ := Ro.kid l0 ru
          have l1 := (l0.sub ss).up x1
          have kd := kd.up x1 (l0.sub ss)
          have var : evE C (.var i) σh h = some (u, h) := by
            show ob (getE σh i) _ = _
            rw [eu]; rfl
          have fin : ∀ (us : List U) (ds : List D) (f : List Nat) (a0 : Nat), y ≠ .pur → rdSD y = some ds → u = .ref a0 → rdS h1 (.ref a0) = some us → Ros Z h1 (n - 1) us ds f → Sub f fp → SEnd pp n0 Z0 Z ret none none h (.rt xv) σp w' (exS C (.ret (.sub (.var i) x)) σh h) := by
            intro us ds f a0 hp hds hu hr t s
            have et : subD y z = some xv := by
              cases y with
              | pur => exact absurd rfl hp
              | _ => exact e4
            unfold subD at et
            rw [hds] at et
            cases z with
            | int z =>
              have et : L2.atI ds z = some xv := et
              cases (r1.isca (v := .int z) rfl)
              unfold L2.atI at et
              cases hj : L2.ixN ds.length z with
              | none => rw [hj] at et; cases et
              | some j =>
                rw [hj] at et
                have et : ds[j]? = some xv := et
                obtain ⟨q, f', hq', s', rq⟩ := t.get et
                have ee : exS C (.ret (.sub (.var i) x)) σh h = some (.rt q, σh, h1) := by
                  show bd (bd (evE C (.var i) σh h) fun x h1 => bd (evE C _ σh h1) fun y h2 => ob (subU h2 x y) fun u => some (u, h2)) _ = _
                  rw [bd_eq var]
                  show bd (bd (evE C x σh h) _) _ = _
                  rw [bd_eq g1]
                  have : subU h1 u (.int z) = some q := by
                    subst hu
                    unfold subU
                    rw [hr]
                    dsimp only
                    unfold L2.atI
                    rw [t.length, hj]
                    exact hq'
                  rw [this]; rfl
                obtain ⟨Zr, fr, r2, l2, _⟩ := Rk.lower (k := .own (n - 1)) hk (l1.sub (s'.trans s)) (show Rk pp Z h1 (.own (n - 1)) q xv f' from rq)
                exact ⟨.rt q, σh, h1, ee, I.fs x1, q, rfl, q1, Zr, fr, r2, l2⟩
            | _ => cases et
          cases kd with
          | sca e => cases y <;> first | cases e4 | cases e
          | @lst xa us ds f ga ba ta => exact fin us ds _ xa (fun z => by cases z) rfl rfl (by unfold rdS; dsimp only; rw [ga]) ta (.refl _)
          | @tup xa us ds f ga ba ta => exact fin us ds _ xa (fun z => by cases z) rfl rfl (by unfold rdS; dsimp only; rw [ga]) ta (.refl _)
        · cases cc
      · rename_i q hm hq
        split at cc
        · rename_i hk
          cases cc
          have : chkE rk (.sub (.var i) x) m = some (.sc, []) := by
            show kSub (.var i) m _ (np (chkE rk x m)) = _
            unfold kSub
            rw [hq]
            have : isPu (.var i) m = true := decide_eq_true hm
            dsimp only
            rw [this]; rfl
          exact rt_ok I hk (ha I e1 this)
        · cases cc
      · cases cc
    | _ => exact other cc
  | _ => exact other cc
theorem po_retn : SOk C CP rk ret .retn := by
  intro pp n0 Z0 Z m F h σh σp σp' w w' fl r J I ev cc
  cases ev
  have cc : (if Kd.ge .sc ret then some (none, none) else none) = some (r, J) := cc
  split at cc
  · rename_i hk
    cases cc
    have : RE pp (EscZ Z F σh []) h .sc .non w (some (.non, h)) := .sc rfl .refl I.pw rfl
    exact rt_ok (σ := σp) I hk this
  · cases cc
theorem setM_ok : ∀ {is : List Nat} {ks : List Kd} {us : List U} {ds : List D} {m m' : Mks} {F : Nat → List Nat} {σh : Env} {σp σp' : PE} {fp : List Nat}, PI pp n0 Z0 Z m F h σh σp w → Rks pp Z h ks us ds fp → fp.Nodup → (∀ a ∈ fp, ¬ Z a ∧ n0 ≤ a ∧ a < h.n ∧ some a ≠ pp) → (∀ j a, a ∈ F j → a ∉ fp) → setMs is ks m = some m' → setAllP is ds σp = some σp' →
    ∃ σh' F', setAll is us σh = some σh' ∧ PI pp n0 Z0 Z m' F' h σh' σp' w
  | [], _, _, _, m, m', F, σh, σp, σp', _, I, .nil, hn, hf, hd, e1, e2 => by
    cases e1; cases e2
    exact ⟨σh, F, rfl, I⟩
  | [], _, _, _, m, m', F, σh, σp, σp', _, I, .cons r t, hn, hf, hd, e1, e2 => by cases e1
  | i :: is, _, _, _, m, m', F, σh, σp, σp', _, I, .nil, hn, hf, hd, e1, e2 => by cases e1
  | i :: is, k :: ks, u :: us, d :: ds, m, m', F, σh, σp, σp', _, I, .cons (fp := f1) (fps := f2) r t, hn, hf, hd, e1, e2 => by
    have e1 : setMs is ks (m.set i (some k)) = some m' := e1
    have e2 : setAllP is ds (σp.set i (some d)) = some σp' := e2
    obtain ⟨n1, n2, n3⟩ := List.nodup_append.mp hn
    have J := I.set (i := i) r n1 (fun a q => hf a (List.mem_append_left _ q)) fun j a _ q z => hd j a q (List.mem_append_left _ z)
    obtain ⟨σh2, F2, g, J2⟩ := setM_ok (is := is) J t n2 (fun a q => hf a (List.mem_append_right _ q)) (fun j a q z => by
      have q : a ∈ (if j = i then f1 else F j) := q
      by_cases hj : j = i
      · rw [if_pos hj] at q; exact n3 a q a z rfl
      · rw [if_neg hj] at q; exact hd j a q (List.mem_append_right _ z)) e1 e2
    exact ⟨σh2, F2, g, J2⟩
theorem po_par {is : List Nat} (hs : EsOk C CP rk es) : SOk C CP rk ret (.par is es) := by
  intro pp n0 Z0 Z m F h σh σp σp' w w' fl r J I ev cc
  have ev : pb (evPs CP es σp w) (fun us w1 => ob (setAllP is us σp) fun σ1 => some (.nx, σ1, w1)) = some (fl, σp', w') := ev
  obtain ⟨xs, w1, e1, ev⟩ := pb_some ev
  obtain ⟨σ1, e2, ev⟩ := ob_some ev
  cases ev
  have cc : (match chkEs rk es m with
    | some (ks, E) => match setMs is ks (escM m E) with
      | some m' => fall m'
      | none => none
    | none => none) = some (r, J) := cc
  split at cc
  · rename_i ks E cq
    split at cc
    · rename_i m' hm'
      cases cc
      obtain ⟨us, h1, Zr, fp, g1, x1, q1, r1, l1⟩ := hs I e1 cq
      obtain ⟨F', J1, s1, s2, s3⟩ := I.aft x1 q1 l1
      obtain ⟨σh2, F2, g2, J2⟩ := setM_ok J1 (r1.mono fun _ => .inr) l1.2.2 s2 s3 hm' e2
      exact .here J2 (fun a z => .inl (.inl z)) ((bd_eq g1).trans (ob_eq g2)) (I.fs x1)
    · cases cc
  · cases cc
theorem po_mv {i j : Nat} : SOk C CP rk ret (.mv i j) := by
  intro pp n0 Z0 Z m F h σh σp σp' w w' fl r J I ev cc
  have ev : ob (getP σp j) (fun d => some (.nx, (σp.set j none).set i (some d), w)) = some (fl, σp', w') := ev
  obtain ⟨x, hx, ev⟩ := ob_some ev
  cases ev
  have cc : (match mkO m j with
    | some k => fall ((m.set j none).set i (some k))
    | none => none) = some (r, J) := cc
  split at cc
  · rename_i k hm
    cases cc
    obtain ⟨u, eu, ru⟩ := I.sl j k hm _ hx
    -- the slot j is emptied in the plain state alone
    have J0 : PI pp n0 Z0 Z (m.set j none) (fun l => if l = j then [] else F l) h σh (σp.set j none) w := by
      have J1 := I.clr (i := j)
      refine ⟨fun l q hq e he => ?_, J1.nd, J1.dj, J1.fa, J1.za, J1.pw, by rw [List.length_set]; exact I.ln, J1.nh⟩
      obtain ⟨u, e1, r1⟩ := J1.sl l q hq e he
      refine ⟨u, ?_, r1⟩
      rcases getP_set he with ⟨_, _, z⟩ | ⟨hl, _⟩
      · cases z
      · rwa [getE_set_ne hl] at e1
    have J2 := J0.set (i := i) (k := k) (u := u) (d := x) (fp := F j) ru (I.nd j) (fun a q => I.fa j a q) fun l a _ q z => by
      have q : a ∈ (if l = j then [] else F l) := q
      by_cases hl : l = j
      · rw [if_pos hl] at q; exact (nomatch q)
      · rw [if_neg hl] at q; exact hl (I.dj l j a q z)
    have ee : exS C (.mv i j) σh h = some (.nx, σh.set i (some u), h) := by
      show bd (ob (getE σh j) fun u => some (u, h)) _ = _
      rw [eu]; rfl
    exact .here J2 (fun _ z => z) ee .refl
  · cases cc
end
end Mi

set_option maxRecDepth 100000
/-! Mi, part P14: lists that change. -/
namespace Mi
open PySem
section
variable {C : Calls} {CP : CallsP} {rk : Nat → Sg} {ret : Kd}
variable {pp : Option Nat} {n0 : Nat} {Z0 Z Z' Z1 Z2 B Zr : Nat → Prop} {m M : Mks} {F : Nat → List Nat} {h h1 h2 h' : Hm} {σh σh' : Env} {σp σp' : PE} {w w1 w2 w' : PW} {n k : Nat} {a b c e : Ex} {d : D} {es : Exs} {fl : Pl} {r J : Option Mks}
theorem mut_core {i x : Nat} {us : List U} {ds : List D} {fk fp fkk : List Nat} (I : PI pp n0 Z0 Z1 m F h σh σp w) (hx : getE σh i = some (.ref x)) (hF : F i = x :: fk) (hz : ∀ a, Z1 a → Z2 a) (hz2 : ∀ a, Z2 a → Z1 a ∨ a ∈ fk ∨ a ∈ fp)
    (r : Ros Z2 h k us ds fkk) (hs : ∀ a ∈ fkk, (a ∈ fk ∨ a ∈ fp) ∧ ¬ Z2 a) (hn : fkk.Nodup) (hp : ∀ a ∈ fp, ¬ Z1 a ∧ n0 ≤ a ∧ a < h.n ∧ some a ≠ pp) (hd : ∀ j a, a ∈ F j → a ∉ fp) :
    ∃ F', PI pp n0 Z0 Z2 (m.set i (some (.own (k + 1)))) F' (h.set x (.lst us)) σh (σp.set i (some (.lst ds))) w := by
  have mi : ∀ a, a ∈ x :: fk → a ∈ F i := fun a q => by rw [hF]; exact q
  have ni := I.nd i
  rw [hF] at ni
  have hxk := (List.nodup_cons.mp ni).1
  have bx := I.fa i x (mi x (List.mem_cons_self ..))
  refine ⟨_, I.mut hx (mi x (List.mem_cons_self ..)) hz r hn (fun z => ?_) (fun z => ?_) (fun a q => ⟨(hs a q).2, ?_⟩) (fun j a hj q => ⟨fun z => ?_, fun z => ?_⟩) fun a z => ?_⟩
  · rcases (hs x z).1 with y | y
    · exact hxk y
    · exact hd i x (mi x (List.mem_cons_self ..)) y
  · rcases hz2 x z with y | y | y
    · exact bx.1 y
    · exact hxk y
    · exact hd i x (mi x (List.mem_cons_self ..)) y
  · rcases (hs a q).1 with y | y
    · exact (I.fa i a (mi a (List.mem_cons_of_mem _ y))).2
    · exact (hp a y).2
  · rcases (hs a z).1 with y | y
    · exact hj (I.dj j i a q (mi a (List.mem_cons_of_mem _ y)))
    · exact hd j a q y
  · rcases hz2 a z with y | y | y
    · exact (I.fa j a q).1 y
    · exact hj (I.dj j i a q (mi a (List.mem_cons_of_mem _ y)))
    · exact hd j a q y
  · rcases hz2 a z with y | y | y
    · exact I.za a y
    · obtain ⟨_, y2, y3, y4⟩ := I.fa i a (mi a (List.mem_cons_of_mem _ y))
      exact ⟨.inr y2, y3, y4⟩
    · obtain ⟨_, y2, y3, y4⟩ := hp a y
      exact ⟨.inr y2, y3, y4⟩
theorem Ros.set : ∀ {us : List U} {ds : List D} {fk fp : List Nat} {v : U} {y : D} (j : Nat), Ros Z h n us ds fk → Ro Z h n v y fp → (fk ++ fp).Nodup → ∃ f', (∀ a ∈ f', a ∈ fk ∨ a ∈ fp) ∧ f'.Nodup ∧ Ros Z h n (us.set j v) (ds.set j y) f'
  | _, _, _, _, _, _, _, .nil, _, _ => ⟨[], fun _ q => (nomatch q), .nil, .nil⟩
  | _, _, _, fp, v, y, 0, .cons (fp := f1) (fps := f2) r t, q, hn => by
    obtain ⟨n1, n2, n3⟩ := List.nodup_append.mp hn
    obtain ⟨m1, m2, m3⟩ := List.nodup_append.mp n1
    refine ⟨fp ++ f2, fun a ha => ?_, List.nodup_append.mpr ⟨n2, m2, fun a ha b hb z => n3 b (List.mem_append_right _ hb) a ha z.symm⟩, .cons q t⟩
    rcases List.mem_append.mp ha with z | z
    · exact .inr z
    · exact .inl (List.mem_append_right _ z)
  | _, _, _, fp, v, y, j + 1, .cons (fp := f1) (fps := f2) r t, q, hn => by
    obtain ⟨n1, n2, n3⟩ := List.nodup_append.mp hn
    obtain ⟨m1, m2, m3⟩ := List.nodup_append.mp n1
    obtain ⟨f', s1, s2, s3⟩ := t.set j q (List.nodup_append.mpr ⟨m2, n2, fun a ha b hb => n3 a (List.mem_append_right _ ha) b hb⟩)
    refine ⟨f1 ++ f', fun a ha => ?_, List.nodup_append.mpr ⟨m1, s2, fun a ha b hb z => ?_⟩, .cons r s3⟩
    · rcases List.mem_append.mp ha with z | z
      · exact .inl (List.mem_append_left _ z)
      · exact (s1 a z).imp (fun z => List.mem_append_right _ z) id
    · subst z
      rcases s1 a hb with z | z
      · exact m3 a ha a z rfl
      · exact n3 a (List.mem_append_left _ ha) a z rfl
/-- both at one level -/
theorem lower2 {us : List U} {ds : List D} {fk fp : List Nat} {v : U} {y : D} {l j : Nat} (t : Ros Z h n us ds fk) (q : Ro Z h l v y fp) (hn : (fk ++ fp).Nodup) (h1 : j ≤ n) (h2 : j ≤ l) :
    ∃ fk' fp', (∀ a ∈ fk', a ∈ fk) ∧ (∀ a ∈ fp', a ∈ fp) ∧ (fk' ++ fp').Nodup ∧ Ros (fun a => Z a ∨ ((a ∈ fk ∨ a ∈ fp) ∧ a ∉ fk' ∧ a ∉ fp')) h j us ds fk' ∧ Ro (fun a => Z a ∨ ((a ∈ fk ∨ a ∈ fp) ∧ a ∉ fk' ∧ a ∉ fp')) h j v y fp' := by
  obtain ⟨n1, n2, n3⟩ := List.nodup_append.mp hn
  obtain ⟨fk', s1, s2, t'⟩ := t.weak h1 n1
  obtain ⟨fp', u1, u2, q'⟩ := q.weak h2 n2
  refine ⟨fk', fp', s1, u1, List.nodup_append.mpr ⟨s2, u2, fun a ha b hb => n3 a (s1 a ha) b (u1 b hb)⟩, t'.mono fun a z => z.imp id fun y => ⟨.inl y.1, y.2, fun z => n3 a y.1 a (u1 a z) rfl⟩, q'.mono fun a z => z.imp id fun y => ⟨.inr y.1, fun z => n3 a (s1 a z) a y.1 rfl, y.2⟩⟩
theorem Rk.ro {k : Kd} {u : U} {fp : List Nat} {l : Nat} (hl : lvl k = some l) (r : Rk pp Z h k u d fp) : Ro Z h l u d fp := by
  cases k with
  | sc =>
    obtain ⟨r1, r2⟩ := r
    subst r2
    exact Ro.sca r1
  | pu => cases hl
  | own n => cases hl; exact r
theorem set_fs {x : Nat} {o : Ob} (hx : ¬ Z x) (hx2 : n0 ≤ x) (hx3 : x < h.n) : Fs pp n0 Z h (h.set x o) := by
  have gx : ∀ {a}, a ≠ x → (h.set x o).get a = h.get a := fun {a} ha => by rw [Hm.get_set _ _ hx3, if_neg ha]
  exact ⟨Nat.le_refl _, fun a z => gx fun y => hx (y ▸ z), fun a l _ => gx fun y => by omega⟩
/-- the owned list of a slot -/
theorem own_lst {i : Nat} {xs : List D} (I : PI pp n0 Z0 Z m F h σh σp w) (hm : mkO m i = some (.own (n + 1))) (hd : getP σp i = some (.lst xs)) : ∃ x us fk, getE σh i = some (.ref x) ∧ h.get x = some (.lst us) ∧ F i = x :: fk ∧ Ros Z h n us xs fk := by
  obtain ⟨u, eu, ru⟩ := I.sl i _ hm _ hd
  have ru : Ro Z h (n + 1) u (.lst xs) (F i) := ru
  generalize F i = fp at ru
  cases ru with
  | sca e => cases e
  | @lst _ x us ds fk g t => exact ⟨x, us, fk, eu, g, rfl, t⟩
theorem Rks.one {q : Kd} {us : List U} {y : D} {fp : List Nat} (r : Rks pp Z h [q] us [y] fp) : ∃ v f, us = [v] ∧ fp = f ∧ Rk pp Z h q v y f := by
  cases r with
  | cons r t =>
    cases t
    exact ⟨_, _, rfl, (List.append_nil _), r⟩
theorem po_mut1 {me : Me} {i : Nat} (hs : EsOk C CP rk es) : SOk C CP rk ret (.mut1 me i es) := by
  intro pp n0 Z0 Z m F h σh σp σp' w w' fl r J I ev cc
  have ev : pb (evPs CP es σp w) (fun us w1 => ob (getP σp i) fun d => ob (mutD me d us) fun d' => some (.nx, σp.set i (some d'), w1)) = some (fl, σp', w') := ev
  obtain ⟨ys, w1, e1, ev⟩ := pb_some ev
  obtain ⟨d0, e2, ev⟩ := ob_some ev
  obtain ⟨d1, e3, ev⟩ := ob_some ev
  cases ev
  have cc : kMut1 me i m (chkEs rk es m) = some (r, J) := cc
  unfold kMut1 at cc
  split at cc
  · rename_i ks E cq
    split at cc
    · rename_i n hm
      split at cc
      · rename_i n' hn'
        cases cc
        obtain ⟨vs, h1, Zr, fp, g1, x1, q1, r1, l1⟩ := hs I e1 cq
        obtain ⟨F', J1, s1, s2, s3⟩ := I.aft x1 q1 l1
        have r1 := r1.mono (Z' := fun a => EscZ Z F σh E a ∨ Zr a) fun _ => .inr
        cases d0 with
        | lst xs =>
          obtain ⟨x, us, fk, eu, gx, hF, t⟩ := own_lst J1 hm e2
          have xF : x ∈ F' i := by rw [hF]; exact List.mem_cons_self ..
          have bx := I.fa i x (s1 i x xF)
          have gx0 : h.get x = some (.lst us) := by rw [← gx]; exact (x1.2 x bx.2.2.1 bx.2.2.2).symm
          have nd := J1.nd i
          rw [hF] at nd
          have hdis : ∀ a ∈ fk, a ∉ fp := fun a q => s3 i a (by rw [hF]; exact List.mem_cons_of_mem _ q)
          have ndj : (fk ++ fp).Nodup := List.nodup_append.mpr ⟨(List.nodup_cons.mp nd).2, l1.2.2, fun a ha b hb z => hdis a ha (z ▸ hb)⟩
          have var : evE C (.var i) σh h = some (.ref x, h) := by
            show ob (getE σh i) _ = _
            rw [eu]; rfl
          have rd0 : rdL h (.ref x) = some us := by unfold rdL; dsimp only; rw [gx0]
          have fin : ∀ {us' : List U} {ds' : List D} {fkk : List Nat} {Z2 : Nat → Prop}, meTy h me (.ref x) = true → meU h1 me (.ref x) vs = some (.non, h1.set x (.lst us')) ∨ (∃ v, meU h1 me (.ref x) vs = some (v, h1.set x (.lst us'))) → d1 = .lst ds' →
              (∀ a, (EscZ Z F σh E a ∨ Zr a) → Z2 a) → (∀ a, Z2 a → (EscZ Z F σh E a ∨ Zr a) ∨ a ∈ fk ∨ a ∈ fp) → Ros Z2 h1 n' us' ds' fkk → (∀ a ∈ fkk, (a ∈ fk ∨ a ∈ fp) ∧ ¬ Z2 a) → fkk.Nodup →
              SEnd pp n0 Z0 Z ret (some ((escM m E).set i (some (.own (n' + 1))))) none h .nx (σp.set i (some d1)) w' (exS C (.mut1 me i es) σh h) := by
            intro us' ds' fkk Z2 hty hme hd1 hz hz2 tt hs hn
            subst hd1
            obtain ⟨F2, J2⟩ := mut_core J1 eu hF hz hz2 tt hs hn s2 s3
            obtain ⟨v, hv⟩ : ∃ v, meU h1 me (.ref x) vs = some (v, h1.set x (.lst us')) := hme.elim (fun z => ⟨_, z⟩) id
            have ee : exS C (.mut1 me i es) σh h = some (.nx, σh, h1.set x (.lst us')) := by
              show bd (bd (evE C (.var i) σh h) fun x h1 => bf (.bl (meTy h1 me x)) (bd (evEs C es σh h1) fun us h2 => meU h2 me x us) none) _ = _
              rw [bd_eq var, hty]
              show bd (bd (evEs C es σh h) _) _ = _
              rw [bd_eq g1, hv]; rfl
            refine .here J2 (fun a z => hz a (.inl (.inl z))) ee ((I.fs x1).trans (Z' := Z) (fun _ z => z) (set_fs (fun z => bx.1 z) bx.2.1 (Nat.lt_of_lt_of_le bx.2.2.1 x1.1)))
          cases me with
          | append =>
            cases ks with
            | nil => cases hn'
            | cons q ks =>
              cases ks with
              | cons _ _ => cases hn'
              | nil =>
                have hn' : (match lvl q with | some l => some (min n l) | none => none) = some n' := hn'
                split at hn'
                · rename_i l hl
                  cases hn'
                  cases r1 with
                  | @cons _ _ v _ y _ f1 f2 rq rt =>
                    cases rt
                    have e3 : (if xs.length < sizeLine then some (D.lst (xs ++ [y])) else none) = some d1 := e3
                    split at e3
                    · rename_i hc
                      cases e3
                      obtain ⟨fk', fp', t1, t2, t3, t4, t5⟩ := lower2 t (rq.ro hl) (by rw [List.append_nil] at ndj; exact ndj) (Nat.min_le_left n l) (Nat.min_le_right n l)
                      refine fin (us' := us ++ [v]) (Z2 := fun a => (EscZ Z F σh E a ∨ Zr a) ∨ ((a ∈ fk ∨ a ∈ f1) ∧ a ∉ fk' ∧ a ∉ fp')) (by show (rdL h (.ref x)).isSome = true; rw [rd0]; rfl) (.inl ?_) rfl (fun _ => .inl) (fun a z => z.imp id fun z => z.1.imp id fun z => List.mem_append_left _ z) (t4.app (.cons t5 .nil)) (fun a ha => ?_) (by rw [List.append_nil]; exact t3)
                      · show (match h1.get x with | some (.lst xs) => if xs.length < sizeLine then some (U.non, h1.set x (.lst (xs ++ [v]))) else none | _ => none) = _
                        rw [gx]
                        dsimp only
                        rw [if_pos (by rw [t.length]; exact hc)]
                      · rw [List.append_nil] at ha
                        rcases List.mem_append.mp ha with z | z
                        · refine ⟨.inl (t1 a z), fun y => ?_⟩
                          rcases y with y | y
                          · exact (J1.fa i a (by rw [hF]; exact List.mem_cons_of_mem _ (t1 a z))).1 y
                          · exact y.2.1 z
                        · refine ⟨.inr (List.mem_append_left _ (t2 a z)), fun y => ?_⟩
                          rcases y with y | y
                          · exact (s2 a (List.mem_append_left _ (t2 a z))).1 y
                          · exact y.2.2 z
                    · cases e3
                · cases hn'
          | insert =>
            cases ks with
            | nil => cases hn'
            | cons q0 ks =>
              cases ks with
              | nil => cases hn'
              | cons q ks =>
                cases ks with
                | cons _ _ => cases hn'
                | nil =>
                  have hn' : (match lvl q0, lvl q with | some _, some l => some (min n l) | _, _ => none) = some n' := hn'
                  split at hn'
                  · rename_i l0 l hl0 hl
                    cases hn'
                    cases r1 with
                    | @cons _ _ v0 _ y0 _ f0 f1 rq0 rt =>
                      cases rt with
                      | @cons _ _ v _ y _ f2 f3 rq rt =>
                        cases rt
                        cases y0 with
                        | int z0 =>
                          have hv0 : v0 = .int z0 := by
                            have := (rq0.ro hl0).all
                            exact this.isca rfl
                          subst hv0
                          have hf0 : f0 = [] := by
                            have := rq0.ro hl0
                            cases this with
                            | sh r => rfl
                            | sca e => rfl
                          subst hf0
                          have e3 : (if xs.length < sizeLine ∧ 0 ≤ z0 ∧ z0 < 2 ^ 63 then some (D.lst (xs.take z0.toNat ++ [y] ++ xs.drop z0.toNat)) else none) = some d1 := e3
                          split at e3
                          · rename_i hc
                            cases e3
                            have ndj' : (fk ++ f2).Nodup := by
                              have := ndj
                              simpa using this
                            obtain ⟨fk', fp', t1, t2, t3, t4, t5⟩ := lower2 t (rq.ro hl) ndj' (Nat.min_le_left n l) (Nat.min_le_right n l)
                            have nx := List.nodup_append.mp t3
                            have key : ∀ {us : List U} {ds : List D} {f : List Nat} (j : Nat), Ros (fun a => (EscZ Z F σh E a ∨ Zr a) ∨ ((a ∈ fk ∨ a ∈ f2) ∧ a ∉ fk' ∧ a ∉ fp')) h1 (min n l) us ds f → (∀ a ∈ f, a ∉ fp') → f.Nodup → ∃ g, (∀ a ∈ g, a ∈ f ∨ a ∈ fp') ∧ g.Nodup ∧ Ros (fun a => (EscZ Z F σh E a ∨ Zr a) ∨ ((a ∈ fk ∨ a ∈ f2) ∧ a ∉ fk' ∧ a ∉ fp')) h1 (min n l) (us.take j ++ [v] ++ us.drop j) (ds.take j ++ [y] ++ ds.drop j) g := by
                              intro us ds f j
                              induction j generalizing us ds f with
                              | zero =>
                                intro tt hh hn
                                exact ⟨fp' ++ f, fun a ha => (List.mem_append.mp ha).elim .inr .inl, List.nodup_append.mpr ⟨nx.2.1, hn, fun a ha b hb z => hh b hb (z ▸ ha)⟩, .cons t5 tt⟩
                              | succ j ih =>
                                intro tt hh hn
                                cases tt with
                                | nil => exact ⟨fp' ++ [], fun a ha => .inr (by simpa using ha), by simpa using nx.2.1, .cons t5 .nil⟩
                                | @cons _ u us d ds fa fb ra rb =>
                                  obtain ⟨m1, m2, m3⟩ := List.nodup_append.mp hn
                                  obtain ⟨g, k1, k2, k3⟩ := ih rb (fun a q => hh a (List.mem_append_right _ q)) m2
                                  refine ⟨fa ++ g, fun a ha => ?_, List.nodup_append.mpr ⟨m1, k2, fun a ha b hb z => ?_⟩, .cons ra k3⟩
                                  · rcases List.mem_append.mp ha with z | z
                                    · exact .inl (List.mem_append_left _ z)
                                    · exact (k1 a z).imp (fun z => List.mem_append_right _ z) id
                                  · subst z
                                    rcases k1 a hb with z | z
                                    · exact m3 a ha a z rfl
                                    · exact hh a (List.mem_append_left _ ha) z
                            obtain ⟨g, k1, k2, k3⟩ := key z0.toNat t4 (fun a ha z => nx.2.2 a ha a z rfl) nx.1
                            refine fin (us' := us.take z0.toNat ++ [v] ++ us.drop z0.toNat) (Z2 := fun a => (EscZ Z F σh E a ∨ Zr a) ∨ ((a ∈ fk ∨ a ∈ f2) ∧ a ∉ fk' ∧ a ∉ fp')) (by show (rdL h (.ref x)).isSome = true; rw [rd0]; rfl) (.inl ?_) rfl (fun _ => .inl) (fun a z => z.imp id fun z => z.1.imp id fun z => by simpa using z) k3 (fun a ha => ?_) k2
                            · show (match h1.get x with | some (.lst xs) => if xs.length < sizeLine ∧ 0 ≤ z0 ∧ z0 < 2 ^ 63 then some (U.non, h1.set x (.lst (xs.take z0.toNat ++ [v] ++ xs.drop z0.toNat))) else none | _ => none) = _
                              rw [gx]
                              dsimp only
                              rw [if_pos (by rw [t.length]; exact hc)]
                            · rcases k1 a ha with z | z
                              · refine ⟨.inl (t1 a z), fun y => ?_⟩
                                rcases y with y | y
                                · exact (J1.fa i a (by rw [hF]; exact List.mem_cons_of_mem _ (t1 a z))).1 y
                                · exact y.2.1 z
                              · refine ⟨.inr (by simpa using t2 a z), fun y => ?_⟩
                                rcases y with y | y
                                · exact (s2 a (by simpa using t2 a z)).1 y
                                · exact y.2.2 z
                          · cases e3
                        | _ => cases e3
                  · cases hn'
          | pop =>
            cases ks with
            | cons _ _ => cases hn'
            | nil =>
              cases hn'
              cases r1
              have e3 : (match xs[xs.length - 1]? with | some _ => some (D.lst xs.dropLast) | none => none) = some d1 := e3
              split at e3
              · rename_i y hy
                cases e3
                obtain ⟨f', ss, tt⟩ := t.take (xs.length - 1)
                obtain ⟨v, _, hv, _, _⟩ := t.get hy
                refine fin (us' := us.dropLast) (Z2 := fun a => EscZ Z F σh E a ∨ Zr a) (by show (rdL h (.ref x)).isSome = true; rw [rd0]; rfl) (.inr ⟨v, ?_⟩) rfl (fun _ z => z) (fun _ => .inl) (by rw [List.dropLast_eq_take, List.dropLast_eq_take, t.length]; exact tt) (fun a ha => ⟨.inl (ss.1 a ha), (J1.fa i a (by rw [hF]; exact List.mem_cons_of_mem _ (ss.1 a ha))).1⟩) (ss.2 (List.nodup_cons.mp nd).2)
                show (match h1.get x with | some (.lst xs) => (match xs[xs.length - 1]? with | some y => some (y, h1.set x (.lst xs.dropLast)) | none => none) | _ => none) = _
                rw [gx]
                dsimp only
                rw [t.length, hv]
              · cases e3
          | _ => cases hn'
        | _ => cases me <;> cases e3
      · cases cc
    · cases cc
  · cases cc
end
end Mi

set_option maxRecDepth 100000
/-! Mi, part P15: stores, branches, loops. -/
namespace Mi
open PySem
section
variable {C : Calls} {CP : CallsP} {rk : Nat → Sg} {ret : Kd}
variable {pp : Option Nat} {n0 : Nat} {Z0 Z Z' Z1 Z2 B Zr : Nat → Prop} {m M : Mks} {F : Nat → List Nat} {h h1 h2 h' : Hm} {σh σh' : Env} {σp σp' : PE} {w w1 w2 w' : PW} {n k : Nat} {a b c e : Ex} {d : D} {es : Exs} {fl : Pl} {r J : Option Mks}
/-- the purse changes -/
theorem PI.purse {p : Nat} (I : PI pp n0 Z0 Z m F h σh σp w) (hp : pp = some p) (w1 : PW) : PI pp n0 Z0 Z m F (h.set p (.lst (w1.map .int))) σh σp w1 := by
  have lp := I.pw.lt hp
  have gx : ∀ {a}, some a ≠ pp → (h.set p (.lst (w1.map .int))).get a = h.get a := fun {a} ha => by
    rw [Hm.get_set _ _ lp, if_neg fun z => ha (by rw [z, hp])]
  refine ⟨fun i k hk d hd => ?_, I.nd, I.dj, I.fa, I.za, fun q hq => ?_, I.ln, I.nh⟩
  · obtain ⟨u, e, r⟩ := I.sl i k hk d hd
    refine ⟨u, e, ?_⟩
    cases k with
    | sc => exact r
    | pu => exact r
    | own n =>
      refine (show Ro Z h n u d (F i) from r).fr (fun _ z => z) fun a z => gx ?_
      rcases z with z | z
      · exact (I.za a z).2.2
      · exact (I.fa i a z).2.2.2
  · have : q = p := by rw [hp] at hq; exact (Option.some.inj hq).symm
    subst this
    rw [Hm.get_set _ _ lp, if_pos rfl]
theorem map_set {α β : Type} (f : α → β) : ∀ (l : List α) (j : Nat) (x : α), (l.set j x).map f = (l.map f).set j (f x)
  | [], _, _ => rfl
  | _ :: _, 0, _ => rfl
  | a :: r, j + 1, x => congrArg (f a :: ·) (map_set f r j x)
theorem po_st1 {i : Nat} (ha : EOk C CP rk a) (he : EOk C CP rk e) : SOk C CP rk ret (.st1 i a e) := by
  intro pp n0 Z0 Z m F h σh σp σp' w w' fl r J I ev cc
  have ev : pb (evP CP e σp w) (fun v w1 => pb (evP CP a σp w1) fun y w2 => ob (st1D σp w2 i y v) fun r => some (.nx, r.1, r.2)) = some (fl, σp', w') := ev
  obtain ⟨v, w1, e1, ev⟩ := pb_some ev
  obtain ⟨y, w2, e2, ev⟩ := pb_some ev
  obtain ⟨⟨σ2, w3⟩, e3, ev⟩ := ob_some ev
  cases ev
  have cc : kSt1 i m (np (chkE rk a m)) (np (chkE rk e m)) = some (r, J) := cc
  unfold kSt1 at cc
  split at cc
  · rename_i qa k E ca ce
    obtain ⟨ce1, ce2⟩ := np_some ce
    obtain ⟨u, h1, Zr, fp, g1, x1, q1, r1, l1⟩ := he I e1 ce1
    have I1 := I.fr x1 q1
    obtain ⟨ua, h2, g2, x2, q2, r2⟩ := ha.wr I1 e2 ca
    have I2 := I1.fr x2 q2
    obtain ⟨d0, e4, e3⟩ := ob_some e3
    split at cc
    · rename_i hpu
      cases cc
      obtain ⟨up, eu, hd, _, p, hp, hup⟩ := I2.sl i _ hpu _ e4
      subst hd
      subst hup
      have e3 : ob (setW w2 y v) (fun w1 => some (σp, w1)) = some (σ2, w3) := e3
      obtain ⟨w4, e5, e3⟩ := ob_some e3
      cases e3
      cases y with
      | int z =>
        cases v with
        | int t =>
          cases (r2.isca (v := .int z) rfl)
          have hu : u = .int t := by
            have := r1.rp l1 ce2
            exact this.isca rfl
          subst hu
          have e5 : (match L2.ixN w2.length z with | some j => some (w2.set j t) | none => none) = some w3 := e5
          split at e5
          · rename_i j hj
            cases e5
            have gp := q2 p hp
            have ee : exS C (.st1 i a e) σh h = some (.nx, σh, h2.set p (.lst ((w2.set j t).map .int))) := by
              refine (bd_eq g1).trans ?_
              have var : evE C (.var i) σh h1 = some (.ref p, h1) := by
                show ob (getE σh i) _ = _
                rw [eu]; rfl
              refine (bd_eq var).trans ((bd_eq g2).trans (ob_eq ?_))
              show (match h2.get p with | some (.lst xs) => (match L2.ixN xs.length z with | some j => some (h2.set p (.lst (xs.set j (.int t)))) | none => none) | _ => none) = _
              rw [gp]
              dsimp only
              rw [List.length_map, hj, map_set]
            have J2 := I2.purse hp (w2.set j t)
            refine .here J2 (fun _ z => z) ee ?_
            have f0 := I.fs (x1.trans x2)
            have lp := I2.pw.lt hp
            refine ⟨f0.1, fun a z => ?_, fun a l q => ?_⟩
            · rw [Hm.get_set _ _ lp, if_neg fun z2 => (I.za a z).2.2 (by rw [z2, hp])]
              exact f0.2.1 a z
            · rw [Hm.get_set _ _ lp, if_neg fun z2 => q (by rw [z2, hp])]
              exact f0.2.2 a l q
          · cases e5
        | _ => cases e5
      | _ => cases v <;> cases e5
    · split at cc
      · rename_i n l hm hl
        cases cc
        obtain ⟨F', J1, s1, s2, s3⟩ := I.aft x1 q1 l1
        have J2 := J1.fr x2 q2
        have rk1 := (r1.up x2 l1).mono (Z' := fun a => EscZ Z F σh E a ∨ Zr a) fun _ => .inr
        cases d0 with
        | lst xs =>
          obtain ⟨x, us, fk, eu, gx, hF, t⟩ := own_lst J2 hm e4
          have xF : x ∈ F' i := by rw [hF]; exact List.mem_cons_self ..
          have bx := I.fa i x (s1 i x xF)
          have nd := J1.nd i
          rw [hF] at nd
          have hdis : ∀ a ∈ fk, a ∉ fp := fun a q => s3 i a (by rw [hF]; exact List.mem_cons_of_mem _ q)
          have ndj : (fk ++ fp).Nodup := List.nodup_append.mpr ⟨(List.nodup_cons.mp nd).2, l1.2.2, fun a ha b hb z => hdis a ha (z ▸ hb)⟩
          have e3 : ob (setD (.lst xs) y v) (fun d' => some (σp.set i (some d'), w2)) = some (σ2, w3) := e3
          obtain ⟨d1, e5, e3⟩ := ob_some e3
          cases e3
          cases y with
          | int z =>
            cases (r2.isca (v := .int z) rfl)
            have e5 : (match L2.ixN xs.length z with | some j => some (D.lst (xs.set j v)) | none => none) = some d1 := e5
            split at e5
            · rename_i j hj
              cases e5
              obtain ⟨fk', fp', t1, t2, t3, t4, t5⟩ := lower2 t (rk1.ro hl) ndj (Nat.min_le_left n l) (Nat.min_le_right n l)
              obtain ⟨ff, k1, k2, k3⟩ := t4.set j t5 t3
              obtain ⟨F2, J3⟩ := mut_core (Z2 := fun a => (EscZ Z F σh E a ∨ Zr a) ∨ ((a ∈ fk ∨ a ∈ fp) ∧ a ∉ fk' ∧ a ∉ fp')) (fp := fp) J2 eu hF (fun _ => .inl) (fun a z => z.imp id fun z => z.1) k3 (fun a ha => by
                rcases k1 a ha with z | z
                · refine ⟨.inl (t1 a z), fun y => ?_⟩
                  rcases y with y | y
                  · exact (J1.fa i a (by rw [hF]; exact List.mem_cons_of_mem _ (t1 a z))).1 y
                  · exact y.2.1 z
                · refine ⟨.inr (t2 a z), fun y => ?_⟩
                  rcases y with y | y
                  · exact (s2 a (t2 a z)).1 y
                  · exact y.2.2 z) k2 (fun a q => ⟨(s2 a q).1, (s2 a q).2.1, Nat.lt_of_lt_of_le (s2 a q).2.2.1 x2.1, (s2 a q).2.2.2⟩) s3
              have ee : exS C (.st1 i a e) σh h = some (.nx, σh, h2.set x (.lst (us.set j u))) := by
                refine (bd_eq g1).trans ?_
                have var : evE C (.var i) σh h1 = some (.ref x, h1) := by
                  show ob (getE σh i) _ = _
                  rw [eu]; rfl
                refine (bd_eq var).trans ((bd_eq g2).trans (ob_eq ?_))
                show (match h2.get x with | some (.lst xs) => (match L2.ixN xs.length z with | some j => some (h2.set x (.lst (xs.set j u))) | none => none) | _ => none) = _
                rw [gx]
                dsimp only
                rw [t.length, hj]
              exact .here J3 (fun a z => .inl (.inl (.inl z))) ee ((I.fs (x1.trans x2)).trans (Z' := Z) (fun _ z => z) (set_fs bx.1 bx.2.1 (Nat.lt_of_lt_of_le bx.2.2.1 (x1.trans x2).1)))
            · cases e5
          | _ => cases e5
        | pur =>
          obtain ⟨u0, _, ru⟩ := J2.sl i _ hm _ e4
          have ru : Ro _ h2 (n + 1) u0 .pur (F' i) := ru
          generalize F' i = fx at ru
          cases ru with
          | sca e => cases e
        | _ => cases e3
      · cases cc
  · cases cc
theorem po_mutv {i j : Nat} : SOk C CP rk ret (.mutv i j) := by
  intro pp n0 Z0 Z m F h σh σp σp' w w' fl r J I ev cc
  have ev : ob (getP σp j) (fun u => ob (getP (σp.set j none) i) fun d => ob (mutD .append d [u]) fun d' => some (.nx, (σp.set j none).set i (some d'), w)) = some (fl, σp', w') := ev
  obtain ⟨y, hy, ev⟩ := ob_some ev
  obtain ⟨d0, h0, ev⟩ := ob_some ev
  obtain ⟨d1, e3, ev⟩ := ob_some ev
  cases ev
  have cc : (match mkO m j with
    | some k => match mkO (m.set j none) i, lvl k with
      | some (.own (n + 1)), some l => fall ((m.set j none).set i (some (.own (min n l + 1))))
      | _, _ => none
    | none => none) = some (r, J) := cc
  split at cc
  · rename_i k hmj
    split at cc
    · rename_i n l hmi hl
      cases cc
      obtain ⟨v, evj, rv⟩ := I.sl j k hmj _ hy
      have J0 : PI pp n0 Z0 Z (m.set j none) (fun l => if l = j then [] else F l) h σh (σp.set j none) w := by
        have J1 := I.clr (i := j)
        refine ⟨fun l q hq e he => ?_, J1.nd, J1.dj, J1.fa, J1.za, J1.pw, by rw [List.length_set]; exact I.ln, J1.nh⟩
        obtain ⟨u, e1, r1⟩ := J1.sl l q hq e he
        refine ⟨u, ?_, r1⟩
        rcases getP_set he with ⟨_, _, z⟩ | ⟨hl, _⟩
        · cases z
        · rwa [getE_set_ne hl] at e1
      cases d0 with
      | lst xs =>
        obtain ⟨x, us, fk, eu, gx, hF, t⟩ := own_lst J0 hmi h0
        have hij : i ≠ j := fun z => by
          have hF : (if i = j then [] else F i) = x :: fk := hF
          rw [if_pos z] at hF
          cases hF
        have hF' : F i = x :: fk := by
          have hF : (if i = j then [] else F i) = x :: fk := hF
          rwa [if_neg hij] at hF
        have xF : x ∈ F i := by rw [hF']; exact List.mem_cons_self ..
        have bx := I.fa i x xF
        have nd := I.nd i
        rw [hF'] at nd
        have hdis : ∀ a ∈ fk, a ∉ F j := fun a q z => hij (I.dj i j a (by rw [hF']; exact List.mem_cons_of_mem _ q) z)
        have ndj : (fk ++ F j).Nodup := List.nodup_append.mpr ⟨(List.nodup_cons.mp nd).2, I.nd j, fun a ha b hb z => hdis a ha (z ▸ hb)⟩
        have e3 : (if xs.length < sizeLine then some (D.lst (xs ++ [y])) else none) = some d1 := e3
        split at e3
        · rename_i hc
          cases e3
          obtain ⟨fk', fp', t1, t2, t3, t4, t5⟩ := lower2 t (rv.ro hl) ndj (Nat.min_le_left n l) (Nat.min_le_right n l)
          obtain ⟨F2, J3⟩ := mut_core (us := us ++ [v]) (ds := xs ++ [y]) (Z2 := fun a => Z a ∨ ((a ∈ fk ∨ a ∈ F j) ∧ a ∉ fk' ∧ a ∉ fp')) (fp := F j) J0 eu hF (fun _ => .inl) (fun a z => z.imp id fun z => z.1) (t4.app (.cons t5 .nil)) (fun a ha => by
            rw [List.append_nil] at ha
            rcases List.mem_append.mp ha with z | z
            · refine ⟨.inl (t1 a z), fun y => ?_⟩
              rcases y with y | y
              · exact (I.fa i a (by rw [hF']; exact List.mem_cons_of_mem _ (t1 a z))).1 y
              · exact y.2.1 z
            · refine ⟨.inr (t2 a z), fun y => ?_⟩
              rcases y with y | y
              · exact (I.fa j a (t2 a z)).1 y
              · exact y.2.2 z) (by rw [List.append_nil]; exact t3) (fun a q => I.fa j a q) (fun l a q z => by
            have q : a ∈ (if l = j then [] else F l) := q
            by_cases hl : l = j
            · rw [if_pos hl] at q; exact (nomatch q)
            · rw [if_neg hl] at q; exact hl (I.dj l j a q z))
          have ee : exS C (.mutv i j) σh h = some (.nx, σh, h.set x (.lst (us ++ [v]))) := by
            have var : evE C (.var i) σh h = some (.ref x, h) := by
              show ob (getE σh i) _ = _
              rw [eu]; rfl
            have va2 : evEs C (.cons (.var j) .nil) σh h = some ([v], h) := by
              show bd (ob (getE σh j) fun u => some (u, h)) _ = _
              rw [evj]; rfl
            have rd0 : meTy h .append (.ref x) = true := by
              show (rdL h (.ref x)).isSome = true
              unfold rdL; dsimp only; rw [gx]; rfl
            show bd (bd (evE C (.var i) σh h) fun x h1 => bf (.bl (meTy h1 .append x)) (bd (evEs C (.cons (.var j) .nil) σh h1) fun us h2 => meU h2 .append x us) none) _ = _
            rw [bd_eq var, rd0]
            show bd (bd (evEs C (.cons (.var j) .nil) σh h) _) _ = _
            rw [bd_eq va2]
            have : meU h .append (.ref x) [v] = some (.non, h.set x (.lst (us ++ [v]))) := by
              show (match h.get x with | some (.lst xs) => if xs.length < sizeLine then some (U.non, h.set x (.lst (xs ++ [v]))) else none | _ => none) = _
              rw [gx]
              dsimp only
              rw [if_pos (by rw [t.length]; exact hc)]
            rw [this]; rfl
          exact .here J3 (fun a z => .inl z) ee (set_fs bx.1 bx.2.1 bx.2.2.1)
        · cases e3
      | _ => cases e3
    · cases cc
  · cases cc
/-! ### one behind another -/
theorem joinO_ge {x y : Option Mks} {z : Option Mks} (e : joinO x y = some z) : (∀ M, x = some M → ∃ M', z = some M' ∧ (M = M' ∨ geM M M' = true)) ∧ (∀ M, y = some M → ∃ M', z = some M' ∧ (M = M' ∨ geM M M' = true)) := by
  cases x with
  | none =>
    have : joinO none y = some y := by cases y <;> rfl
    rw [this] at e
    cases e
    exact ⟨fun _ h => (nomatch h), fun M h => ⟨M, h, .inl rfl⟩⟩
  | some a =>
    cases y with
    | none => cases e; exact ⟨fun M h => ⟨M, h, .inl rfl⟩, fun _ h => (nomatch h)⟩
    | some b =>
      unfold joinO at e
      dsimp only at e
      split at e
      · rename_i hg
        rw [Bool.and_eq_true] at hg
        cases e
        exact ⟨fun M h => by cases h; exact ⟨_, rfl, .inr hg.1⟩, fun M h => by cases h; exact ⟨_, rfl, .inr hg.2⟩⟩
      · cases e
theorem Beh.weak {M' : Mks} (hg : M = M' ∨ geM M M' = true) (b : Beh pp n0 Z0 Z M h' σh' σp' w') : Beh pp n0 Z0 Z M' h' σh' σp' w' := by
  rcases hg with rfl | hg
  · exact b
  · obtain ⟨Z1, F1, hz, I⟩ := b
    obtain ⟨Z2, F2, hz2, I2⟩ := I.weak hg
    exact ⟨Z2, F2, fun a z => hz2 a (hz a z), I2⟩
theorem Beh.thin (hz : ∀ a, Z a → Z' a) (b : Beh pp n0 Z0 Z' M h' σh' σp' w') : Beh pp n0 Z0 Z M h' σh' σp' w' := by
  obtain ⟨Z1, F1, hz1, I⟩ := b
  exact ⟨Z1, F1, fun a z => hz1 a (hz a z), I⟩
theorem FlP.weak {r' J' : Option Mks} {fl' : Fl} (hr : ∀ M, r = some M → ∃ M', r' = some M' ∧ (M = M' ∨ geM M M' = true)) (hJ : ∀ M, J = some M → ∃ M', J' = some M' ∧ (M = M' ∨ geM M M' = true)) (hz : ∀ a, Z a → Z' a) (q : FlP pp n0 Z0 Z' ret r J h' fl fl' σh' σp' w') : FlP pp n0 Z0 Z ret r' J' h' fl fl' σh' σp' w' := by
  cases fl with
  | nx =>
    obtain ⟨q1, M, q2, q3⟩ := q
    obtain ⟨M', k1, k2⟩ := hr M q2
    exact ⟨q1, M', k1, (q3.weak k2).thin hz⟩
  | bk =>
    obtain ⟨q1, M, q2, q3⟩ := q
    obtain ⟨M', k1, k2⟩ := hJ M q2
    exact ⟨q1, M', k1, (q3.weak k2).thin hz⟩
  | ct =>
    obtain ⟨q1, M, q2, q3⟩ := q
    obtain ⟨M', k1, k2⟩ := hJ M q2
    exact ⟨q1, M', k1, (q3.weak k2).thin hz⟩
  | rt d => exact q
theorem same_ge {r : Option Mks} : ∀ M, r = some M → ∃ M', r = some M' ∧ (M = M' ∨ geM M M' = true) := fun M h => ⟨M, h, .inl rfl⟩
theorem pbs_some {o : PS'} {k : PE → PW → PS'} {q : Pl × PE × PW} (e : pbs o k = some q) : (∃ σ w, o = some (.nx, σ, w) ∧ k σ w = some q) ∨ (o = some q ∧ q.1 ≠ .nx) := by
  unfold pbs at e
  split at e
  · exact .inl ⟨_, _, rfl, e⟩
  · rename_i hn
    refine .inr ⟨e, fun z => ?_⟩
    obtain ⟨f, σ, w⟩ := q
    have z : f = .nx := z
    subst z
    exact hn σ w e
theorem pso_nil : SsOk C CP rk ret .nil := by
  intro pp n0 Z0 Z m F h σh σp σp' w w' fl r J I ev cc
  cases ev
  have cc : fall m = some (r, J) := cc
  cases cc
  exact .here I (fun _ z => z) rfl .refl
theorem pso_cons {s : Sm} {t : Sms} (hs : SOk C CP rk ret s) (ht : SsOk C CP rk ret t) : SsOk C CP rk ret (.cons s t) := by
  intro pp n0 Z0 Z m F h σh σp σp' w w' fl r J I ev cc
  have ev : pbs (exP CP s σp w) (exPs CP t) = some (fl, σp', w') := ev
  have cc : seqR (chkS rk ret s m) (fun m' => chkSs rk ret t m') = some (r, J) := cc
  have hh : exSs C (.cons s t) σh h = bs (exS C s σh h) fun σ1 h1 => exSs C t σ1 h1 := rfl
  unfold seqR at cc
  cases c1 : chkS rk ret s m with
  | none => rw [c1] at cc; cases cc
  | some q =>
    obtain ⟨r1, J1⟩ := q
    rw [c1] at cc
    rcases pbs_some ev with ⟨σ1, w1, e1, e2⟩ | ⟨e1, hne⟩
    · obtain ⟨fl', σh1, h1, g1, x1, rfl, M, hM, Z1, F1, hz, I1⟩ := hs I e1 c1
      subst hM
      dsimp only at cc
      split at cc
      · cases cc
      · rename_i r2 J2 c2
        split at cc
        · rename_i j2 hj
          cases cc
          obtain ⟨jl, jr⟩ := joinO_ge hj
          obtain ⟨fl2, σh2, h2, g2, x2, q2⟩ := ht I1 e2 c2
          refine ⟨fl2, σh2, h2, ?_, x1.trans hz x2, q2.weak same_ge jr hz⟩
          rw [hh, g1]
          exact g2
        · cases cc
    · obtain ⟨fl', σh1, h1, g1, x1, q1⟩ := hs I e1 c1
      refine ⟨fl', σh1, h1, ?_, x1, ?_⟩
      · rw [hh, g1]
        cases fl with
        | nx => exact absurd rfl hne
        | rt d => obtain ⟨u, rfl, _⟩ := q1; rfl
        | bk => obtain ⟨rfl, _⟩ := q1; rfl
        | ct => obtain ⟨rfl, _⟩ := q1; rfl
      · cases r1 with
        | none =>
          cases cc
          exact q1
        | some m1 =>
          dsimp only at cc
          split at cc
          · cases cc
          · rename_i r2 J2 c2
            split at cc
            · rename_i j2 hj
              cases cc
              obtain ⟨jl, jr⟩ := joinO_ge hj
              cases fl with
              | nx => exact absurd rfl hne
              | rt d => exact q1
              | bk =>
                obtain ⟨q1, M, q2, q3⟩ := q1
                obtain ⟨M', k1, k2⟩ := jl M q2
                exact ⟨q1, M', k1, q3.weak k2⟩
              | ct =>
                obtain ⟨q1, M, q2, q3⟩ := q1
                obtain ⟨M', k1, k2⟩ := jl M q2
                exact ⟨q1, M', k1, q3.weak k2⟩
            · cases cc
theorem po_ite {x y : Sms} (hc : EOk C CP rk c) (hx : SsOk C CP rk ret x) (hy : SsOk C CP rk ret y) : SOk C CP rk ret (.ite c x y) := by
  intro pp n0 Z0 Z m F h σh σp σp' w w' fl r J I ev cc
  have ev : pb (evP CP c σp w) (fun u w1 => pf u (exPs CP x σp w1) (exPs CP y σp w1)) = some (fl, σp', w') := ev
  have cc : (match np (chkE rk c m) with
    | some _ => iteR (chkSs rk ret x m) (chkSs rk ret y m)
    | none => none) = some (r, J) := cc
  split at cc
  · rename_i q cq
    obtain ⟨u, w1, e1, ev⟩ := pb_some ev
    obtain ⟨t, ht, ev2⟩ := pf_some ev
    subst ht
    obtain ⟨v, h1, g1, x1, q1, r1⟩ := hc.wr I e1 cq
    cases (r1.isca (v := .bl t) rfl)
    have I1 := I.fr x1 q1
    unfold iteR at cc
    split at cc
    · rename_i ra ja rb jb c1 c2
      split at cc
      · rename_i r' j' hr hj
        cases cc
        obtain ⟨rl, rr⟩ := joinO_ge hr
        obtain ⟨jl, jr⟩ := joinO_ge hj
        have ee : exS C (.ite c x y) σh h = bf (.bl t) (exSs C x σh h1) (exSs C y σh h1) := bd_eq g1
        cases t with
        | true =>
          rw [if_pos rfl] at ev2
          obtain ⟨fl', σh2, h2, g2, x2, q2⟩ := hx I1 ev2 c1
          exact ⟨fl', σh2, h2, ee.trans g2, (I.fs x1).trans (fun _ z => z) x2, q2.weak rl jl fun _ z => z⟩
        | false =>
          rw [if_neg (by decide)] at ev2
          obtain ⟨fl', σh2, h2, g2, x2, q2⟩ := hy I1 ev2 c2
          exact ⟨fl', σh2, h2, ee.trans g2, (I.fs x1).trans (fun _ z => z) x2, q2.weak rr jr fun _ z => z⟩
      · cases cc
    · cases cc
  · cases cc
end
end Mi

set_option maxRecDepth 100000
/-! Mi, part P15b: a list within an owned list changes. -/
namespace Mi
open PySem
section
variable {C : Calls} {CP : CallsP} {rk : Nat → Sg} {ret : Kd}
variable {pp : Option Nat} {n0 : Nat} {Z0 Z Z' Z1 Z2 B Zr : Nat → Prop} {m M : Mks} {F : Nat → List Nat} {h h1 h2 h' : Hm} {σh σh' : Env} {σp σp' : PE} {w w1 w2 w' : PW} {n k : Nat} {a b c e : Ex} {d : D} {es : Exs} {fl : Pl} {r J : Option Mks}
theorem Ros.split : ∀ {us : List U} {ds : List D} {fk : List Nat} {j : Nat} {d : D}, Ros Z h n us ds fk → ds[j]? = some d → ∃ fa fc fb v, fk = fa ++ (fc ++ fb) ∧ us[j]? = some v ∧ Ro Z h n v d fc ∧
    ∀ {Z' : Nat → Prop} {h' : Hm} {d' : D} {fc' : List Nat}, (∀ a, Z a → Z' a) → (∀ a, Z a ∨ a ∈ fa ∨ a ∈ fb → h'.get a = h.get a) → Ro Z' h' n v d' fc' → Ros Z' h' n us (ds.set j d') (fa ++ (fc' ++ fb))
  | _, _, _, _, _, .nil, e => by simp at e
  | _, _, _, 0, d, .cons (u := u) (fp := f1) (fps := f2) r t, e => by
    simp at e
    subst e
    refine ⟨[], f1, f2, u, rfl, rfl, r, fun {Z' h' d' fc'} hz hg q => ?_⟩
    show Ros Z' h' n _ _ (fc' ++ f2)
    exact .cons q (t.fr hz fun a z => hg a (z.imp id .inr))
  | _, _, _, j + 1, d, .cons (u := u) (fp := f1) (fps := f2) r t, e => by
    obtain ⟨fa, fc, fb, v, e1, e2, e3, e4⟩ := t.split (j := j) (by simpa using e)
    refine ⟨f1 ++ fa, fc, fb, v, by rw [e1, List.append_assoc], by simpa using e2, e3, fun {Z' h' d' fc'} hz hg q => ?_⟩
    rw [List.append_assoc]
    exact .cons (r.fr hz fun a z => hg a (z.imp id fun y => .inl (List.mem_append_left _ y))) (e4 hz (fun a z => hg a (z.imp id fun z => z.imp (fun y => List.mem_append_right _ y) id)) q)
/-- the inner list at c gets what stands behind -/
theorem PI.mut2 {i x j c : Nat} {us cus' : List U} {ds cs cs' : List D} {fa fc fb fkk fp : List Nat} (I : PI pp n0 Z0 Z m F h σh σp w) (hm : mkO m i = some (.own (n + 2))) (hx : getE σh i = some (.ref x)) (hd : getP σp i = some (.lst ds)) (gx : h.get x = some (.lst us))
    (hF : F i = x :: (fa ++ ((c :: fc) ++ fb)))
    (repl : ∀ {Z' : Nat → Prop} {h' : Hm} {d' : D} {fc' : List Nat}, (∀ a, Z a → Z' a) → (∀ a, Z a ∨ a ∈ fa ∨ a ∈ fb → h'.get a = h.get a) → Ro Z' h' (n + 1) (.ref c) d' fc' → Ros Z' h' (n + 1) us (ds.set j d') (fa ++ (fc' ++ fb)))
    (hz : ∀ a, Z a → Z2 a) (hz2 : ∀ a, Z2 a → Z a ∨ a ∈ fc ∨ a ∈ fp) (r : Ros Z2 h n cus' cs' fkk) (hs : ∀ a ∈ fkk, (a ∈ fc ∨ a ∈ fp) ∧ ¬ Z2 a) (hn : fkk.Nodup) (hp : ∀ a ∈ fp, ¬ Z a ∧ n0 ≤ a ∧ a < h.n ∧ some a ≠ pp) (hdj : ∀ j a, a ∈ F j → a ∉ fp) :
    ∃ F', PI pp n0 Z0 Z2 m F' (h.set c (.lst cus')) σh (σp.set i (some (.lst (ds.set j (.lst cs'))))) w := by
  have mi : ∀ {a}, a ∈ x :: (fa ++ ((c :: fc) ++ fb)) → a ∈ F i := fun {a} q => by rw [hF]; exact q
  have mx : x ∈ F i := mi (List.mem_cons_self ..)
  have mc : c ∈ F i := mi (by simp)
  have ma : ∀ {a}, a ∈ fa → a ∈ F i := fun {a} q => mi (by simp [q])
  have mf : ∀ {a}, a ∈ fc → a ∈ F i := fun {a} q => mi (by simp [q])
  have mb : ∀ {a}, a ∈ fb → a ∈ F i := fun {a} q => mi (by simp [q])
  have ni := I.nd i
  rw [hF] at ni
  obtain ⟨nx, ni⟩ := List.nodup_cons.mp ni
  obtain ⟨na, ni, nab⟩ := List.nodup_append.mp ni
  obtain ⟨nc, nb, ncb⟩ := List.nodup_append.mp ni
  obtain ⟨ncc, nfc⟩ := List.nodup_cons.mp nc
  have bc := I.fa i c mc
  have gne : ∀ {a}, a ≠ c → (h.set c (.lst cus')).get a = h.get a := fun {a} ha => by rw [Hm.get_set _ _ bc.2.2.1, if_neg ha]
  have geq : (h.set c (.lst cus')).get c = some (.lst cus') := by rw [Hm.get_set _ _ bc.2.2.1, if_pos rfl]
  have z2c : ¬ Z2 c := fun z => by
    rcases hz2 c z with y | y | y
    · exact bc.1 y
    · exact ncc y
    · exact hdj i c mc y
  have kkc : c ∉ fkk := fun z => by
    rcases (hs c z).1 with y | y
    · exact ncc y
    · exact hdj i c mc y
  have outz : ∀ {a}, a ∈ F i → a ∉ fc → ¬ Z2 a := fun {a} q hq z => by
    rcases hz2 a z with y | y | y
    · exact (I.fa i a q).1 y
    · exact hq y
    · exact hdj i a q y
  have xc : x ≠ c := fun z => nx (by rw [z]; simp)
  have child : Ro Z2 (h.set c (.lst cus')) (n + 1) (.ref c) (.lst cs') (c :: fkk) := .lst geq (r.fr (fun _ z => z) fun a z => gne fun y => by
    subst y
    exact z.elim z2c kkc)
  have whole := repl (Z' := Z2) (h' := h.set c (.lst cus')) hz (fun a z => gne fun y => by
    subst y
    rcases z with z | z | z
    · exact bc.1 z
    · exact nab a z a (by simp) rfl
    · exact ncb a (List.mem_cons_self ..) a z rfl) child
  have top : Ro Z2 (h.set c (.lst cus')) (n + 2) (.ref x) (.lst (ds.set j (.lst cs'))) (x :: (fa ++ ((c :: fkk) ++ fb))) := .lst (by rw [gne xc]; exact gx) whole
  have mem : ∀ {a}, a ∈ x :: (fa ++ ((c :: fkk) ++ fb)) → (a ∈ F i ∧ ¬ Z2 a) ∨ (a ∈ fp ∧ ¬ Z2 a) := fun {a} q => by
    rcases List.mem_cons.mp q with e | q
    · subst e
      exact .inl ⟨mx, outz mx fun z => nx (by simp [z])⟩
    · rcases List.mem_append.mp q with q | q
      · exact .inl ⟨ma q, outz (ma q) fun z => nab a q a (by simp [z]) rfl⟩
      · rcases List.mem_append.mp q with q | q
        · rcases List.mem_cons.mp q with e | q
          · subst e; exact .inl ⟨mc, z2c⟩
          · rcases (hs a q).1 with y | y
            · exact .inl ⟨mf y, (hs a q).2⟩
            · exact .inr ⟨y, (hs a q).2⟩
        · exact .inl ⟨mb q, outz (mb q) fun z => ncb a (by simp [z]) a q rfl⟩
  refine ⟨fun l => if l = i then x :: (fa ++ ((c :: fkk) ++ fb)) else F l, ⟨fun l q hq e he => ?_, fun l => ?_, fun l l' a q1 q2 => ?_, fun l a q => ?_, fun a z => ?_, fun p hpp => ?_, by rw [List.length_set]; exact I.ln, I.nh⟩⟩
  · by_cases hl : l = i
    · subst hl
      rw [if_pos rfl]
      rw [hm] at hq
      cases hq
      rcases getP_set he with ⟨_, _, e1⟩ | ⟨hne, _⟩
      · cases e1
        exact ⟨.ref x, hx, top⟩
      · exact absurd rfl hne
    · rw [if_neg hl]
      rcases getP_set he with ⟨hl', _⟩ | ⟨_, e1⟩
      · exact absurd hl' hl
      · obtain ⟨u, eu, ru⟩ := I.sl l q hq e e1
        refine ⟨u, eu, ?_⟩
        cases q with
        | sc => exact ru
        | pu => exact ru
        | own n =>
          refine (show Ro Z h n u e (F l) from ru).fr hz fun a z => gne fun y => ?_
          subst y
          rcases z with z | z
          · exact bc.1 z
          · exact hl (I.dj l i a z mc)
  · by_cases hl : l = i
    · rw [if_pos hl]
      refine List.nodup_cons.mpr ⟨fun z => ?_, List.nodup_append.mpr ⟨na, List.nodup_append.mpr ⟨List.nodup_cons.mpr ⟨kkc, hn⟩, nb, fun a ha b hb z => ?_⟩, fun a ha b hb z => ?_⟩⟩
      · rcases List.mem_append.mp z with z | z
        · exact nx (by simp [z])
        · rcases List.mem_append.mp z with z | z
          · rcases List.mem_cons.mp z with z | z
            · exact xc z
            · rcases (hs x z).1 with y | y
              · exact nx (by simp [y])
              · exact hdj i x mx y
          · exact nx (by simp [z])
      · subst z
        rcases List.mem_cons.mp ha with z | z
        · exact ncb a (by simp [z]) a hb rfl
        · rcases (hs a z).1 with y | y
          · exact ncb a (by simp [y]) a hb rfl
          · exact hdj i a (mb hb) y
      · subst z
        rcases List.mem_append.mp hb with z | z
        · rcases List.mem_cons.mp z with z | z
          · exact nab a ha a (by simp [z]) rfl
          · rcases (hs a z).1 with y | y
            · exact nab a ha a (by simp [y]) rfl
            · exact hdj i a (ma ha) y
        · exact nab a ha a (by simp [z]) rfl
    · rw [if_neg hl]; exact I.nd l
  · by_cases hl : l = i
    · rw [if_pos hl] at q1
      by_cases hl' : l' = i
      · rw [hl, hl']
      · rw [if_neg hl'] at q2
        rcases mem q1 with y | y
        · exact absurd (I.dj l' i a q2 y.1) hl'
        · exact absurd y.1 (hdj l' a q2)
    · rw [if_neg hl] at q1
      by_cases hl' : l' = i
      · rw [if_pos hl'] at q2
        rcases mem q2 with y | y
        · exact absurd (I.dj l i a q1 y.1) hl
        · exact absurd y.1 (hdj l a q1)
      · rw [if_neg hl'] at q2
        exact I.dj l l' a q1 q2
  · by_cases hl : l = i
    · rw [if_pos hl] at q
      rcases mem q with y | y
      · exact ⟨y.2, (I.fa i a y.1).2⟩
      · exact ⟨y.2, (hp a y.1).2⟩
    · rw [if_neg hl] at q
      refine ⟨fun z => ?_, (I.fa l a q).2⟩
      rcases hz2 a z with y | y | y
      · exact (I.fa l a q).1 y
      · exact hl (I.dj l i a q (mf y))
      · exact hdj l a q y
  · rcases hz2 a z with y | y | y
    · exact I.za a y
    · obtain ⟨_, y2, y3, y4⟩ := I.fa i a (mf y)
      exact ⟨.inr y2, y3, y4⟩
    · obtain ⟨_, y2, y3, y4⟩ := hp a y
      exact ⟨.inr y2, y3, y4⟩
  · rw [gne fun y => bc.2.2.2 (by rw [← y]; exact hpp.symm)]
    exact I.pw p hpp
theorem kMut2_some {me : Me} {i : Nat} {ra : RR} {rs : RRs} (cc : kMut2 me i m ra rs = some (r, J)) : me = .append ∧ ∃ qa q E n l, ra = some qa ∧ rs = some ([q], E) ∧ mkO (escM m E) i = some (.own (n + 2)) ∧ lvl q = some l ∧ n ≤ l ∧ r = some (escM m E) ∧ J = none := by
  unfold kMut2 at cc
  split at cc
  · split at cc
    · rename_i hm hl
      split at cc
      · rename_i hnl
        cases cc
        exact ⟨rfl, _, _, _, _, _, rfl, rfl, hm, hl, hnl, rfl, rfl⟩
      · cases cc
    · cases cc
  · cases cc
theorem po_mut2 {me : Me} {i : Nat} (ha : EOk C CP rk a) (hs : EsOk C CP rk es) : SOk C CP rk ret (.mut2 me i a es) := by
  intro pp n0 Z0 Z m F h σh σp σp' w w' fl r J I ev cc
  have cc : kMut2 me i m (np (chkE rk a m)) (chkEs rk es m) = some (r, J) := cc
  have ev : pb (evP CP a σp w) (fun y w1 => pb (evPs CP es σp w1) fun us w2 => ob (getP σp i) fun d => ob (subD d y) fun c => ob (mutD me c us) fun c' => ob (setD d y c') fun d' => some (.nx, σp.set i (some d'), w2)) = some (fl, σp', w') := ev
  obtain ⟨y, w1, e1, ev⟩ := pb_some ev
  obtain ⟨ys, w2, e2, ev⟩ := pb_some ev
  obtain ⟨d0, e3, ev⟩ := ob_some ev
  obtain ⟨c0, e4, ev⟩ := ob_some ev
  obtain ⟨c1, e5, ev⟩ := ob_some ev
  obtain ⟨d1, e6, ev⟩ := ob_some ev
  cases ev
  obtain ⟨hme, qa, q, E, n, l, ca, cs0, hm, hl, hnl, rfl, rfl⟩ := kMut2_some cc
  subst hme
  obtain ⟨ua, h1, g1, x1, q1, r1⟩ := ha.wr I e1 ca
  have I1 := I.fr x1 q1
  obtain ⟨vs, h2, Zr, fp, g2, x2, q2, r2, l2⟩ := hs I1 e2 cs0
  obtain ⟨F', J1, s1, s2, s3⟩ := I1.aft x2 q2 l2
  have r2 := r2.mono (Z' := fun a => EscZ Z F σh E a ∨ Zr a) fun _ => .inr
  cases r2 with
  | @cons _ _ va _ ya _ f1 f2 rq rt =>
    cases rt
    have s2 : ∀ a ∈ f1, ¬ (EscZ Z F σh E a ∨ Zr a) ∧ n0 ≤ a ∧ a < h2.n ∧ some a ≠ pp := fun a q => s2 a (by simp [q])
    have s3 : ∀ j a, a ∈ F' j → a ∉ f1 := fun j a q z => s3 j a q (by simp [z])
    have nf : f1.Nodup := by have := l2.2.2; simpa using this
    cases d0 with
    | lst ds =>
      obtain ⟨x, us, fk, eu, gx, hF, t⟩ := own_lst (n := n + 1) J1 hm e3
      have xF : x ∈ F' i := by rw [hF]; exact List.mem_cons_self ..
      have bx := I.fa i x (s1 i x xF)
      cases y with
      | int z =>
        cases (r1.isca (v := .int z) rfl)
        have e4 : L2.atI ds z = some c0 := e4
        unfold L2.atI at e4
        cases hj : L2.ixN ds.length z with
        | none => rw [hj] at e4; cases e4
        | some j =>
          rw [hj] at e4
          have e4 : ds[j]? = some c0 := e4
          have e6 : (match L2.ixN ds.length z with | some j => some (D.lst (ds.set j c1)) | none => none) = some d1 := e6
          rw [hj] at e6
          cases e6
          obtain ⟨fa, fcx, fb, v, hfk, hv, rv, repl⟩ := t.split e4
          cases c0 with
          | lst cs =>
            have e5 : (if cs.length < sizeLine then some (D.lst (cs ++ [ya])) else none) = some c1 := e5
            split at e5
            · rename_i hc
              cases e5
              cases rv with
              | sca e => cases e
              | @lst _ c cus _ fc gc tc =>
                have cF : c ∈ F' i := by rw [hF, hfk]; simp
                have bc := I.fa i c (s1 i c cF)
                obtain ⟨fp', u1, u2, u3⟩ := (rq.ro hl).weak hnl nf
                have nF := J1.nd i
                rw [hF, hfk] at nF
                have nfc : fc.Nodup := by
                  have := (List.nodup_append.mp (List.nodup_append.mp (List.nodup_cons.mp nF).2).2.1).1
                  exact (List.nodup_cons.mp this).2
                have mfc : ∀ a ∈ fc, a ∈ F' i := fun a q => by rw [hF, hfk]; simp [q]
                obtain ⟨F2, J2⟩ := PI.mut2 (n := n) (i := i) (x := x) (c := c) (us := us) (ds := ds) (cs := cs) (fa := fa) (fc := fc) (fb := fb) (j := j) (cus' := cus ++ [va]) (cs' := cs ++ [ya]) (fkk := fc ++ fp') (fp := f1) (Z2 := fun a => (EscZ Z F σh E a ∨ Zr a) ∨ (a ∈ f1 ∧ a ∉ fp')) J1 hm eu e3 gx (by rw [hF, hfk]) (fun hz hg q => repl hz hg q) (fun _ => .inl) (fun a z => z.imp id fun z => .inr z.1) ((tc.mono fun _ => .inl).app (by
                  have : Ros (fun a => (EscZ Z F σh E a ∨ Zr a) ∨ (a ∈ f1 ∧ a ∉ fp')) h2 n [va] [ya] (fp' ++ []) := .cons u3 .nil
                  rwa [List.append_nil] at this)) (fun a q => by
                  rcases List.mem_append.mp q with y | y
                  · refine ⟨.inl y, fun z => ?_⟩
                    rcases z with z | z
                    · exact (J1.fa i a (mfc a y)).1 z
                    · exact s3 i a (mfc a y) z.1
                  · refine ⟨.inr (u1 a y), fun z => ?_⟩
                    rcases z with z | z
                    · exact (s2 a (u1 a y)).1 z
                    · exact z.2 y) (List.nodup_append.mpr ⟨nfc, u2, fun a ha b hb z => s3 i a (mfc a ha) (z ▸ u1 b hb)⟩) s2 s3
                have gx0 : h1.get x = some (.lst us) := by rw [← gx]; exact (x2.2 x (Nat.lt_of_lt_of_le bx.2.2.1 x1.1) bx.2.2.2).symm
                have gc0 : h1.get c = some (.lst cus) := by rw [← gc]; exact (x2.2 c (Nat.lt_of_lt_of_le bc.2.2.1 x1.1) bc.2.2.2).symm
                have ee : exS C (.mut2 .append i a es) σh h = some (.nx, σh, h2.set c (.lst (cus ++ [va]))) := by
                  have var : evE C (.var i) σh h = some (.ref x, h) := by
                    show ob (getE σh i) _ = _
                    rw [eu]; rfl
                  have sub : evE C (.sub (.var i) a) σh h = some (.ref c, h1) := by
                    refine (bd_eq var).trans ((bd_eq g1).trans (ob_eq ?_))
                    unfold subU rdS
                    dsimp only
                    rw [gx0]
                    dsimp only
                    unfold L2.atI
                    rw [t.length, hj]
                    exact hv
                  have ty : meTy h1 .append (.ref c) = true := by
                    show (rdL h1 (.ref c)).isSome = true
                    unfold rdL; dsimp only; rw [gc0]; rfl
                  show bd (bd (evE C (.sub (.var i) a) σh h) fun x h1 => bf (.bl (meTy h1 .append x)) (bd (evEs C es σh h1) fun us h2 => meU h2 .append x us) none) _ = _
                  rw [bd_eq sub, ty]
                  show bd (bd (evEs C es σh h1) _) _ = _
                  rw [bd_eq g2]
                  have : meU h2 .append (.ref c) [va] = some (.non, h2.set c (.lst (cus ++ [va]))) := by
                    show (match h2.get c with | some (.lst xs) => if xs.length < sizeLine then some (U.non, h2.set c (.lst (xs ++ [va]))) else none | _ => none) = _
                    rw [gc]
                    dsimp only
                    rw [if_pos (by rw [tc.length]; exact hc)]
                  rw [this]; rfl
                exact .here J2 (fun a z => .inl (.inl (.inl z))) ee ((I.fs (x1.trans x2)).trans (Z' := Z) (fun _ z => z) (set_fs bc.1 bc.2.1 (Nat.lt_of_lt_of_le bc.2.2.1 (x1.trans x2).1)))
            · cases e5
          | _ => cases e5
      | _ => cases e4
    | _ => cases e6
end
end Mi

set_option maxRecDepth 100000
/-! Mi, part P15c: flat values; two stores at once. -/
namespace Mi
open PySem
section
variable {C : Calls} {CP : CallsP} {rk : Nat → Sg} {ret : Kd}
variable {pp : Option Nat} {n0 : Nat} {Z0 Z Z' Z1 Z2 B Zr : Nat → Prop} {m M : Mks} {F : Nat → List Nat} {h h1 h2 h' : Hm} {σh σh' : Env} {σp σp' : PE} {w w1 w2 w' : PW} {n k : Nat} {a b c e : Ex} {d : D} {es : Exs} {fl : Pl} {r J : Option Mks}
theorem flat_ok {k k' : Kd} {u : U} {fp : List Nat} (r : Rk pp Zr h k u d fp) (hk : k ≠ .pu) (hd : hgt d ≤ n) (e : flatK n k = some k') : ∃ fp', (∀ a ∈ fp', a ∈ fp) ∧ (fp.Nodup → fp'.Nodup) ∧ k' ≠ .pu ∧ ∀ Z' : Nat → Prop, Rk pp Z' h k' u d fp' := by
  unfold flatK at e
  split at e
  · rename_i hn
    cases e
    subst hn
    refine ⟨[], fun a q => (nomatch q), fun _ => .nil, (fun z => by cases z), fun Z' => ⟨?_, rfl⟩⟩
    cases k with
    | sc => exact r.1
    | pu => exact absurd rfl hk
    | own a =>
      have r : Ro Zr h a u d fp := r
      cases r with
      | sh q => cases q with
        | sca e => exact e
        | lst => exact absurd hd (by unfold hgt; omega)
        | tup => exact absurd hd (by unfold hgt; omega)
      | sca e => exact e
      | lst => exact absurd hd (by unfold hgt; omega)
      | tup => exact absurd hd (by unfold hgt; omega)
  · split at e
    · cases e
      exact ⟨fp, fun _ q => q, fun q => q, (fun z => by cases z), fun Z' => r⟩
    · split at e
      · rename_i a hn
        cases e
        exact ⟨fp, fun _ q => q, fun q => q, (fun z => by cases z), fun Z' => (show Ro Zr h a u d fp from r).flat (by omega) (by omega)⟩
      · cases e
    · cases e
theorem po_setF {i : Nat} (ha : EOk C CP rk e) : SOk C CP rk ret (.spoil n (.set i e)) := by
  intro pp n0 Z0 Z m F h σh σp σp' w w' fl r J I ev cc
  have ev : pb (evP CP e σp w) (fun d w1 => if hgt d ≤ n then some (.nx, σp.set i (some d), w1) else none) = some (fl, σp', w') := ev
  obtain ⟨x, w1, e1, ev⟩ := pb_some ev
  split at ev
  · rename_i hx
    cases ev
    have cc : kSetF n i m (np (chkE rk e m)) = some (r, J) := cc
    unfold kSetF at cc
    split at cc
    · rename_i k E cq
      split at cc
      · rename_i k' hk'
        cases cc
        obtain ⟨c1, c2⟩ := np_some cq
        obtain ⟨u, h1, Zr, fp, g1, x1, q1, r1, l1⟩ := ha I e1 c1
        obtain ⟨fp', s1, s2, s3, s4⟩ := flat_ok r1 c2 hx hk'
        have J1 := (I.fr x1 q1).set (i := i) (s4 Z) (s2 l1.2.2) (fun a q => by
          obtain ⟨y1, y2, y3, y4⟩ := l1.2.1 a (s1 a q)
          exact ⟨fun z => by have := (I.za a z).2.1; omega, Nat.le_trans I.nh y1, y2, y4⟩) (fun j a _ z q => by
          have := (I.fa j a z).2.2.1
          have := (l1.2.1 a (s1 a q)).1
          omega)
        exact .here J1 (fun a z => z) (bd_eq g1) (I.fs x1)
      · cases cc
    · cases cc
  · cases ev
theorem po_retF (ha : EOk C CP rk e) : SOk C CP rk ret (.spoil n (.ret e)) := by
  intro pp n0 Z0 Z m F h σh σp σp' w w' fl r J I ev cc
  have ev : pb (evP CP e σp w) (fun d w1 => if hgt d ≤ n then some (.rt d, σp, w1) else none) = some (fl, σp', w') := ev
  obtain ⟨x, w1, e1, ev⟩ := pb_some ev
  split at ev
  · rename_i hx
    cases ev
    have cc : kRetF ret n (np (chkE rk e m)) = some (r, J) := cc
    unfold kRetF at cc
    split at cc
    · rename_i k E cq
      split at cc
      · rename_i k' hk'
        split at cc
        · rename_i hge
          cases cc
          obtain ⟨c1, c2⟩ := np_some cq
          obtain ⟨u, h1, Zr, fp, g1, x1, q1, r1, l1⟩ := ha I e1 c1
          obtain ⟨fp', s1, s2, s3, s4⟩ := flat_ok r1 c2 hx hk'
          obtain ⟨fq, t1, t2, t3⟩ := (s4 fun _ => False).low hge (s2 l1.2.2)
          refine ⟨.rt u, σh, h1, bd_eq g1, I.fs x1, u, rfl, q1, _, fq, t3, fun a z => ?_, fun a q => ?_, t2⟩
          · rcases z with z | z
            · exact z.elim
            · obtain ⟨y1, y2, y3, y4⟩ := l1.2.1 a (s1 a z.1)
              exact ⟨.inr (Nat.le_trans I.nh y1), y2, y4⟩
          · obtain ⟨y1, y2, y3, y4⟩ := l1.2.1 a (s1 a (t1 a q))
            refine ⟨Nat.le_trans I.nh y1, y2, fun z => ?_, y4⟩
            rcases z with z | z
            · exact z
            · exact z.2 q
        · cases cc
      · cases cc
    · cases cc
  · cases ev
theorem PI.hp (I : PI pp n0 Z0 Z m F h σh σp w) (hn : h.n ≤ h1.n) (g : ∀ a, (Z a ∨ ∃ i, a ∈ F i) → h1.get a = h.get a) (q : PWok pp w h1) : PI pp n0 Z0 Z m F h1 σh σp w := by
  refine ⟨fun i k hk d hd => ?_, I.nd, I.dj, fun i a ha => ?_, fun a ha => ?_, q, I.ln, Nat.le_trans I.nh hn⟩
  · obtain ⟨u, e, r⟩ := I.sl i k hk d hd
    refine ⟨u, e, ?_⟩
    cases k with
    | sc => exact r
    | pu => exact r
    | own n =>
      have r : Ro Z h n u d (F i) := r
      exact r.fr (fun _ z => z) fun a z => g a (z.imp id fun z => ⟨i, z⟩)
  · obtain ⟨a1, a2, a3, a4⟩ := I.fa i a ha
    exact ⟨a1, a2, Nat.lt_of_lt_of_le a3 hn, a4⟩
  · obtain ⟨a1, a2, a3⟩ := I.za a ha
    exact ⟨a1, Nat.lt_of_lt_of_le a2 hn, a3⟩
/-- a slot is emptied -/
theorem PI.kill {i : Nat} {σh' : Env} (I : PI pp n0 Z0 Z m F h σh σp w) (hl : σh'.length = σh.length) (hg : ∀ k, k ≠ i → getE σh' k = getE σh k) : PI pp n0 Z0 Z (m.set i none) (fun l => if l = i then [] else F l) h σh' (σp.set i none) w := by
  have J1 := I.clr (i := i)
  refine ⟨fun l q hq e he => ?_, J1.nd, J1.dj, J1.fa, J1.za, J1.pw, by rw [List.length_set, hl]; exact I.ln, J1.nh⟩
  obtain ⟨u, e1, r1⟩ := J1.sl l q hq e he
  refine ⟨u, ?_, r1⟩
  rcases getP_set he with ⟨_, _, z⟩ | ⟨hl2, _⟩
  · cases z
  · rw [getE_set_ne hl2] at e1
    rw [hg l hl2]
    exact e1
/-- what a slot owned is changed, the slot emptied -/
theorem PI.spoilt {i : Nat} {σh' : Env} (I : PI pp n0 Z0 Z m F h σh σp w) (hl : σh'.length = σh.length) (hg : ∀ k, k ≠ i → getE σh' k = getE σh k) (hn : h.n ≤ h1.n) (g : ∀ a, a < h.n → a ∉ F i → h1.get a = h.get a) :
    PI pp n0 Z0 Z (m.set i none) (fun l => if l = i then [] else F l) h1 σh' (σp.set i none) w ∧ Fs pp n0 Z h h1 := by
  refine ⟨(I.kill hl hg).hp hn (fun a z => ?_) (fun p e => ?_), hn, fun a z => g a (I.za a z).2.1 fun q => (I.fa i a q).1 z, fun a l _ => g a (Nat.lt_of_lt_of_le l I.nh) fun q => by have := (I.fa i a q).2.1; omega⟩
  · rcases z with z | ⟨l, z⟩
    · exact g a (I.za a z).2.1 fun q => (I.fa i a q).1 z
    · have z : a ∈ (if l = i then [] else F l) := z
      by_cases hli : l = i
      · rw [if_pos hli] at z; exact (nomatch z)
      · rw [if_neg hli] at z
        exact g a (I.fa l a z).2.2.1 fun q => hli (I.dj l i a z q)
  · rw [g p (I.pw.lt e) fun q => (I.fa i p q).2.2.2 e.symm]
    exact I.pw p e
theorem po_spl {n f i : Nat} (hC : CallOk C CP rk) : SOk C CP rk ret (.spoil n (.ex (.call f (.cons (.var i) .nil) []))) := by
  intro pp n0 Z0 Z m F h σh σp σp' w w' fl r J I ev cc
  have ev : ob (getP σp i) (fun d => if hgt d ≤ n then ob (CP f [d] w) fun _ => some (.nx, σp.set i none, w) else none) = some (fl, σp', w') := ev
  have cc : kSpl (rk f) n i m = some (r, J) := cc
  obtain ⟨d, hd, ev⟩ := ob_some ev
  split at ev
  · rename_i hh
    obtain ⟨q, e1, ev⟩ := ob_some ev
    cases ev
    unfold kSpl at cc
    split at cc
    · rename_i k hm
      split at cc
      · rename_i hc
        cases cc
        obtain ⟨u, eu, ru⟩ := I.sl i _ hm _ hd
        obtain ⟨h1, e2, n1, g1⟩ := hC.spl hc.2 e1 (show Ro Z h k u d (F i) from ru) (Nat.le_trans hh hc.1) (fun a z => (I.fa i a z).2.2.1) (I.nd i)
        obtain ⟨J1, x1⟩ := I.spoilt (σh' := σh) rfl (fun _ _ => rfl) n1 g1
        refine .here J1 (fun _ z => z) ?_ x1
        show bd (bd (bd (ob (getE σh i) fun u => some (u, h)) fun u h1 => bd (some ([], h1)) fun us h2 => some (u :: us, h2)) fun us h1 => C f (us ++ []) h1) (fun _ h1 => some (Fl.nx, σh, h1)) = _
        rw [eu]
        show bd (C f [u] h) _ = _
        rw [e2]; rfl
      · cases cc
    · cases cc
  · cases ev
theorem po_app {n x y i : Nat} {s : Str} : SOk C CP rk ret (.spoil n (.for (.nm x) .seq (.var i) .non (.cons (.mut1 .append y (.cons (.str s) .nil)) .nil))) := by
  intro pp n0 Z0 Z m F h σh σp σp' w w' fl r J I ev cc
  have ev : ob (getP σp i) (fun d => match d with
    | .lst ds => if appOk n x y i σp ds = true then some (.nx, (σp.set i none).set x none, w) else none
    | _ => none) = some (fl, σp', w') := ev
  replace cc : kApp n x i m = some (r, J) := cc
  obtain ⟨d, hd, ev⟩ := ob_some ev
  cases d with
  | lst ds =>
    dsimp only at ev
    split at ev
    · rename_i ha
      cases ev
      unfold appOk at ha
      rw [Bool.and_eq_true, Bool.and_eq_true, Bool.and_eq_true, Bool.and_eq_true] at ha
      obtain ⟨a1, a2, a3, a4, a5⟩ := ha
      have a1 := of_decide_eq_true a1
      have a2 := of_decide_eq_true a2
      have a3 := of_decide_eq_true a3
      have a4 := of_decide_eq_true a4
      subst a1
      unfold kApp at cc
      split at cc
      · rename_i k hm
        split at cc
        · rename_i hk
          cases cc
          obtain ⟨u, eu, ru⟩ := I.sl i _ hm _ hd
          have ru : Ro Z h k u (.lst ds) (F i) := ru
          obtain ⟨a, us, fq, m', rfl, hg, hF, rfl, rs⟩ : ∃ a us fq m', u = .ref a ∧ h.get a = some (.lst us) ∧ F i = a :: fq ∧ k = m' + 1 ∧ Ros Z h m' us ds fq := by
            generalize F i = fp at ru
            cases ru with
            | sh q => cases q with
              | sca e => cases e
              | lst => omega
            | sca e => cases e
            | lst e r => exact ⟨_, _, _, _, rfl, e, rfl, rfl, r⟩
          have hf : ∀ b ∈ a :: fq, b < h.n := fun b hb => (I.fa i b (by rw [hF]; exact hb)).2.2.1
          have hn : (a :: fq).Nodup := by rw [← hF]; exact I.nd i
          obtain ⟨σ', h1, e1, l1, k1, n1, g1⟩ := ap_loop (C := C) (x := x) (s := s) eu hg rs a5 (by omega) hf hn (by rw [I.ln]; exact a3)
          have K : PI pp n0 Z0 Z (m.set x none) (fun l => if l = x then [] else F l) h σ' (σp.set x none) w := I.kill l1 k1
          have hFi : (if i = x then [] else F i) = F i := if_neg (fun z => a2 z.symm)
          obtain ⟨J1, x1⟩ := K.spoilt (i := i) (σh' := σ') (h1 := h1) rfl (fun _ _ => rfl) n1 (fun b hb hbn => g1 b hb fun z => hbn (by
            show b ∈ (if i = x then [] else F i)
            rw [hFi, hF]
            exact List.mem_cons_of_mem _ z))
          rw [show (m.set x none).set i none = (m.set i none).set x none from List.set_comm _ _ a2, show (σp.set x none).set i none = (σp.set i none).set x none from List.set_comm _ _ a2] at J1
          exact .here J1 (fun _ z => z) e1 x1
        · cases cc
      · cases cc
    · cases ev
  | _ => cases ev
theorem po_spoil {s : Sm} (hC : CallOk C CP rk) (hs : ∀ i e, s = .set i e → EOk C CP rk e) (hr : ∀ e, s = .ret e → EOk C CP rk e) : SOk C CP rk ret (.spoil n s) := by
  cases s with
  | set i e => exact po_setF (hs i e rfl)
  | ret e => exact po_retF (hr e rfl)
  | ex e =>
    cases e with
    | call f es dv =>
      cases es with
      | cons a t =>
        cases a with
        | var i =>
          cases t with
          | nil =>
            cases dv with
            | nil => exact po_spl hC
            | cons _ _ => intro pp n0 Z0 Z m F h σh σp σp' w w' fl r J I ev cc; cases cc
          | cons _ _ => intro pp n0 Z0 Z m F h σh σp σp' w w' fl r J I ev cc; cases cc
        | _ => intro pp n0 Z0 Z m F h σh σp σp' w w' fl r J I ev cc; cases cc
      | nil => intro pp n0 Z0 Z m F h σh σp σp' w w' fl r J I ev cc; cases cc
    | _ => intro pp n0 Z0 Z m F h σh σp σp' w w' fl r J I ev cc; cases cc
  | «for» tg sk a b x =>
    cases tg with
    | nm y =>
      cases sk with
      | seq =>
        cases a with
        | var i =>
          cases b with
          | non =>
            cases x with
            | nil => (intro pp n0 Z0 Z m F h σh σp σp' w w' fl r J I ev cc; cases cc)
            | cons s t =>
              cases t with
              | cons _ _ =>
                cases s with
                | mut1 me z es =>
                  cases me <;> first | (intro pp n0 Z0 Z m F h σh σp σp' w w' fl r J I ev cc; cases cc) | (cases es with
                    | nil => (intro pp n0 Z0 Z m F h σh σp σp' w w' fl r J I ev cc; cases cc)
                    | cons e es => cases e <;> first | (intro pp n0 Z0 Z m F h σh σp σp' w w' fl r J I ev cc; cases cc) | (cases es <;> (intro pp n0 Z0 Z m F h σh σp σp' w w' fl r J I ev cc; cases cc)))
                | _ => (intro pp n0 Z0 Z m F h σh σp σp' w w' fl r J I ev cc; cases cc)
              | nil =>
                cases s with
                | mut1 me z es =>
                  cases me with
                  | append =>
                    cases es with
                    | nil => (intro pp n0 Z0 Z m F h σh σp σp' w w' fl r J I ev cc; cases cc)
                    | cons e es =>
                      cases es with
                      | cons _ _ => cases e <;> (intro pp n0 Z0 Z m F h σh σp σp' w w' fl r J I ev cc; cases cc)
                      | nil =>
                        cases e with
                        | str s => exact po_app
                        | _ => (intro pp n0 Z0 Z m F h σh σp σp' w w' fl r J I ev cc; cases cc)
                  | _ => (intro pp n0 Z0 Z m F h σh σp σp' w w' fl r J I ev cc; cases cc)
                | _ => (intro pp n0 Z0 Z m F h σh σp σp' w w' fl r J I ev cc; cases cc)
          | _ => (intro pp n0 Z0 Z m F h σh σp σp' w w' fl r J I ev cc; cases cc)
        | _ => (intro pp n0 Z0 Z m F h σh σp σp' w w' fl r J I ev cc; cases cc)
      | _ => (intro pp n0 Z0 Z m F h σh σp σp' w w' fl r J I ev cc; cases cc)
    | _ => (intro pp n0 Z0 Z m F h σh σp σp' w w' fl r J I ev cc; cases cc)
  | _ => intro pp n0 Z0 Z m F h σh σp σp' w w' fl r J I ev cc; cases cc
/-- a scalar as a term -/
def litE : U → Ex
  | .non => .non
  | .bl b => .bl b
  | .int i => .int i
  | .str s => .str s
  | .ref _ => .non
theorem litE_h {u : U} (hu : scaP d = some u) (σ : Env) (h : Hm) : evE C (litE u) σ h = some (u, h) := by
  cases d <;> cases hu <;> rfl
theorem litE_p {u : U} (hu : scaP d = some u) (σ : PE) (w : PW) : evP CP (litE u) σ w = some (d, w) := by
  cases d <;> cases hu <;> rfl
theorem litE_c {u : U} (m : Mks) : chkE rk (litE u) m = some (.sc, []) := by cases u <;> rfl
theorem litE_ok (u : U) (hu : ∃ d, scaP d = some u) : EOk C CP rk (litE u) := by
  obtain ⟨d0, hu⟩ := hu
  intro pp n0 Z0 Z m F h σh σp w w' d k E I ev cc
  rw [litE_c] at cc
  cases cc
  rw [litE_p hu] at ev
  cases ev
  exact .sc (litE_h hu _ _) .refl I.pw hu
theorem set_st1 {x y v : D} {σ : PE} {i : Nat} {w : PW} {σ2 : PE} (hg : getP σ i = some x) (e : setD x y v = some d) (hs : σ2 = σ.set i (some d)) : st1D σ w i y v = some (σ2, w) := by
  unfold st1D
  rw [hg]
  subst hs
  cases x with
  | lst xs => show ob (setD (.lst xs) y v) _ = _; rw [e]; rfl
  | _ => cases e
theorem bs_bd {α : Type} {o : Option (α × Hm)} {k : α → Hm → ResS} {K : Env → Hm → ResS} : bs (bd o k) K = bd o fun x h => bs (k x h) K := by
  cases o <;> rfl
theorem bs_ob {α : Type} {o : Option α} {k : α → ResS} {K : Env → Hm → ResS} : bs (ob o k) K = ob o fun x => bs (k x) K := by
  cases o <;> rfl
theorem bs_nx {σ : Env} {h : Hm} {K : Env → Hm → ResS} : bs (some (.nx, σ, h)) K = K σ h := rfl
theorem bd_so {α β : Type} {x : α} {h : Hm} {k : α → Hm → Option β} : bd (some (x, h)) k = k x h := rfl
theorem po_sw {i j : Nat} (ha : EOk C CP rk a) (hb : EOk C CP rk b) (hs : EsOk C CP rk es) : SOk C CP rk ret (.sw i a j b es) := by
  intro pp n0 Z0 Z m F h σh σp σp' w w' fl r J I ev cc
  have cc : kSw i j (chkEs rk es m) (kSt1 i m (np (chkE rk a m)) (some (.sc, []))) (fun m' => kSt1 j m' (np (chkE rk b m')) (some (.sc, []))) = some (r, J) := cc
  unfold kSw at cc
  split at cc
  · rename_i E ce
    have ev : pb (evPs CP es σp w) (fun us w1 => match us with
      | [u, v] => pb (evP CP a σp w1) fun y w2 => ob (getP σp i) fun d => ob (setD d y u) fun d' => pb (evP CP b (σp.set i (some d')) w2) fun z w3 => ob (getP (σp.set i (some d')) j) fun e => ob (setD e z v) fun e' => some (.nx, (σp.set i (some d')).set j (some e'), w3)
      | _ => none) = some (fl, σp', w') := ev
    obtain ⟨us, w1, e1, ev⟩ := pb_some ev
    obtain ⟨vs, h1, Zr, fp, g1, x1, q1, r1, l1⟩ := hs I e1 ce
    have I1 := I.fr x1 q1
    cases r1 with
    | @cons _ _ va _ ya _ f1 f2 ra rt =>
      cases rt with
      | @cons _ _ vb _ yb _ f3 f4 rb rt =>
        cases rt
        obtain ⟨ra, _⟩ := ra
        obtain ⟨rb, _⟩ := rb
        obtain ⟨y, w2, e2, ev⟩ := pb_some ev
        obtain ⟨d0, e3, ev⟩ := ob_some ev
        obtain ⟨d1, e4, ev⟩ := ob_some ev
        obtain ⟨z, w3, e5, ev⟩ := pb_some ev
        obtain ⟨d2, e6, ev⟩ := ob_some ev
        obtain ⟨d3, e7, ev⟩ := ob_some ev
        cases ev
        have p1 : exP CP (.st1 i a (litE va)) σp w1 = some (.nx, σp.set i (some d1), w2) := by
          show pb (evP CP (litE va) σp w1) (fun v w1 => pb (evP CP a σp w1) fun y w2 => ob (st1D σp w2 i y v) fun r => some (Pl.nx, r.1, r.2)) = some (.nx, σp.set i (some d1), w2)
          rw [litE_p ra]
          show pb (evP CP a σp w1) _ = _
          rw [e2]
          show ob (st1D σp w2 i y ya) _ = _
          rw [set_st1 e3 e4 rfl]; rfl
        have p2 : exP CP (.st1 j b (litE vb)) (σp.set i (some d1)) w2 = some (.nx, (σp.set i (some d1)).set j (some d3), w') := by
          show pb (evP CP (litE vb) (σp.set i (some d1)) w2) (fun v w1 => pb (evP CP b (σp.set i (some d1)) w1) fun y w2 => ob (st1D (σp.set i (some d1)) w2 j y v) fun r => some (Pl.nx, r.1, r.2)) = some (.nx, (σp.set i (some d1)).set j (some d3), w')
          rw [litE_p rb]
          show pb (evP CP b _ w2) _ = _
          rw [e5]
          show ob (st1D _ w' j z yb) _ = _
          rw [set_st1 e6 e7 rfl]; rfl
        have hs2 : SsOk C CP rk ret (.cons (.st1 i a (litE va)) (.cons (.st1 j b (litE vb)) .nil)) := pso_cons (po_st1 ha (litE_ok va ⟨_, ra⟩)) (pso_cons (po_st1 hb (litE_ok vb ⟨_, rb⟩)) pso_nil)
        have pp2 : exPs CP (.cons (.st1 i a (litE va)) (.cons (.st1 j b (litE vb)) .nil)) σp w1 = some (.nx, (σp.set i (some d1)).set j (some d3), w') := by
          show pbs (exP CP (.st1 i a (litE va)) σp w1) _ = _
          rw [p1]
          show pbs (exP CP (.st1 j b (litE vb)) (σp.set i (some d1)) w2) _ = _
          rw [p2]; rfl
        have cc2 : chkSs rk ret (.cons (.st1 i a (litE va)) (.cons (.st1 j b (litE vb)) .nil)) m = some (r, J) := by
          show seqR (kSt1 i m (np (chkE rk a m)) (np (chkE rk (litE va) m))) (fun m' => seqR (kSt1 j m' (np (chkE rk b m')) (np (chkE rk (litE vb) m'))) fall) = _
          have k1 : ∀ m', seqR (kSt1 j m' (np (chkE rk b m')) (np (chkE rk (litE vb) m'))) fall = kSt1 j m' (np (chkE rk b m')) (some (.sc, [])) := fun m' => by
            rw [litE_c]
            show seqR (kSt1 j m' (np (chkE rk b m')) (some (.sc, []))) fall = _
            cases hq : kSt1 j m' (np (chkE rk b m')) (some (.sc, [])) with
            | none => rfl
            | some q =>
              obtain ⟨r', J'⟩ := q
              cases r' with
              | none => rfl
              | some r' => cases J' <;> rfl
          simp only [k1]
          rw [litE_c]
          exact cc
        obtain ⟨fl', σh', h', g2, x2, q2⟩ := hs2 I1 pp2 cc2
        refine ⟨fl', σh', h', ?_, (I.fs x1).trans (fun _ z => z) x2, q2⟩
        rw [← g2]
        have L : exSs C (.cons (.st1 i a (litE va)) (.cons (.st1 j b (litE vb)) .nil)) σh h1 = bd (evE C (.var i) σh h1) fun x h2 => bd (evE C a σh h2) fun y h3 => ob (setU h3 x y va) fun h4 =>
            bd (evE C (.var j) σh h4) fun x h2 => bd (evE C b σh h2) fun y h3 => ob (setU h3 x y vb) fun h4 => some (.nx, σh, h4) := by
          show bs (bd (evE C (litE va) σh h1) fun v h1 => bd (evE C (.var i) σh h1) fun x h2 => bd (evE C a σh h2) fun y h3 => ob (setU h3 x y v) fun h4 => some (.nx, σh, h4))
            (fun σ1 h => bs (bd (evE C (litE vb) σ1 h) fun v h1 => bd (evE C (.var j) σ1 h1) fun x h2 => bd (evE C b σ1 h2) fun y h3 => ob (setU h3 x y v) fun h4 => some (.nx, σ1, h4)) fun σ1 h => some (.nx, σ1, h)) = _
          simp only [litE_h ra, litE_h rb, bs_bd, bs_ob, bs_nx, bd_so]
        rw [L]
        show bd (evEs C es σh h) _ = _
        rw [bd_eq g1]
  · cases cc
end
end Mi

set_option maxRecDepth 100000
/-! Mi, part P16: loops; every statement; defs. -/
namespace Mi
open PySem
def pvK (sk : Sk) (v : Pv) : Prop :=
  match sk with
  | .rng1 => ∃ z, v = .one (.int z)
  | .rng2 => ∃ z, v = .one (.int z)
  | .rngd => ∃ z, v = .one (.int z)
  | .enum => ∃ z d, v = .two (.int z) d
  | _ => True
theorem upR_k : ∀ (n : Nat) (i : Int), ∀ v ∈ upR i n, ∃ z, v = .one (.int z)
  | 0, i, v, h => (nomatch h)
  | n + 1, i, v, h => by
    rcases List.mem_cons.mp h with e | h
    · exact ⟨i, e⟩
    · exact upR_k n _ v h
theorem downR_k : ∀ (n : Nat) (i : Int), ∀ v ∈ downR i n, ∃ z, v = .one (.int z)
  | 0, i, v, h => (nomatch h)
  | n + 1, i, v, h => by
    rcases List.mem_cons.mp h with e | h
    · exact ⟨i, e⟩
    · exact downR_k n _ v h
theorem enumD_k : ∀ (ds : List D) (i : Nat), ∀ v ∈ enumD i ds, ∃ z d, v = .two (.int z) d
  | [], i, v, h => (nomatch h)
  | x :: r, i, v, h => by
    rcases List.mem_cons.mp h with e | h
    · exact ⟨_, x, e⟩
    · exact enumD_k r _ v h
theorem items_k {sk : Sk} {x y : D} {its : List Pv} (e : itemsD sk x y = some its) : ∀ v ∈ its, pvK sk v := by
  cases sk with
  | rng1 =>
    cases x with
    | int j =>
      have e : (if -(2 ^ 62) ≤ j ∧ j < 2 ^ 62 then some (upR 0 j.toNat) else none) = some its := e
      split at e
      · cases e; exact upR_k _ _
      · cases e
    | _ => cases e
  | rng2 =>
    cases x with
    | int j => cases y with
      | int l =>
        have e : (if -(2 ^ 62) ≤ j ∧ j < 2 ^ 62 ∧ -(2 ^ 62) ≤ l ∧ l < 2 ^ 62 then some (upR j (l - j).toNat) else none) = some its := e
        split at e
        · cases e; exact upR_k _ _
        · cases e
      | _ => cases e
    | _ => cases e
  | rngd =>
    cases x with
    | int j => cases y with
      | int l =>
        have e : (if -(2 ^ 62) ≤ j ∧ j < 2 ^ 62 ∧ -(2 ^ 62) ≤ l ∧ l < 2 ^ 62 then some (downR j (j - l).toNat) else none) = some its := e
        split at e
        · cases e; exact downR_k _ _
        · cases e
      | _ => cases e
    | _ => cases e
  | enum =>
    cases x with
    | lst xs => cases e; exact enumD_k _ _
    | _ => cases e
  | _ => exact fun _ _ => trivial
section
variable {C : Calls} {CP : CallsP} {rk : Nat → Sg} {ret : Kd}
variable {pp : Option Nat} {n0 : Nat} {Z0 Z Z' Z1 Z2 Zs B Zr : Nat → Prop} {m M : Mks} {F : Nat → List Nat} {h h1 h2 h' : Hm} {σh σh' : Env} {σp σp' : PE} {w w1 w2 w' : PW} {n k : Nat} {a b c e : Ex} {d : D} {es : Exs} {fl : Pl} {r J : Option Mks}
theorem PI.setSc (I : PI pp n0 Z0 Z m F h σh σp w) {i : Nat} {u : U} (e : scaP d = some u) : ∃ F', PI pp n0 Z0 Z (m.set i (some .sc)) F' h (σh.set i (some u)) (σp.set i (some d)) w :=
  ⟨_, I.set (k := .sc) (fp := []) ⟨e, rfl⟩ .nil (fun _ q => (nomatch q)) fun _ _ _ _ q => (nomatch q)⟩
theorem bindV_ok {t : Tn} {iv : Iv} {v : Pv} (I : PI pp n0 Z0 Z m F h σh σp w) (r : PvR Z h iv v) (e : bindPv t v σp = some σp') : ∃ σh' F', bindI h t iv σh = some σh' ∧ PI pp n0 Z0 Z (bindM t m) F' h σh' σp' w := by
  cases r with
  | one r =>
    obtain ⟨σh1, F3, g, J5, _, _⟩ := PI.bind I r e
    exact ⟨σh1, F3, g, J5⟩
  | two r1 r2 =>
    unfold bindPv at e
    dsimp only at e
    split at e
    · rename_i ta tb
      split at e
      · rename_i σ1 eb
        obtain ⟨σh1, F3, g1, J5, _, _⟩ := PI.bind I r1 eb
        obtain ⟨σh2, F4, g2, J6, _, _⟩ := PI.bind J5 r2 e
        refine ⟨σh2, F4, ?_, J6⟩
        unfold bindI
        dsimp only
        rw [g1]
        exact g2
      · cases e
    · cases e
theorem bindK_ok {sk : Sk} {t : Tn} {iv : Iv} {v : Pv} (I : PI pp n0 Z0 Z m F h σh σp w) (r : PvR Z h iv v) (hk : pvK sk v) (e : bindPv t v σp = some σp') : ∃ σh' F', bindI h t iv σh = some σh' ∧ PI pp n0 Z0 Z (bindK sk t m) F' h σh' σp' w := by
  have rng : ∀ i, t = .nm i → (∃ z, v = .one (.int z)) → ∃ σh' F', bindI h t iv σh = some σh' ∧ PI pp n0 Z0 Z (m.set i (some .sc)) F' h σh' σp' w := by
    rintro i rfl ⟨z, rfl⟩
    cases r with
    | one r =>
      cases (r.isca (v := .int z) rfl)
      cases e
      obtain ⟨F', J⟩ := I.setSc (i := i) (d := .int z) (u := .int z) rfl
      exact ⟨_, F', rfl, J⟩
  have gen := bindV_ok I r e
  cases sk with
  | rng1 => cases t with
    | nm i => exact rng i rfl hk
    | _ => exact gen
  | rng2 => cases t with
    | nm i => exact rng i rfl hk
    | _ => exact gen
  | rngd => cases t with
    | nm i => exact rng i rfl hk
    | _ => exact gen
  | enum =>
    cases t with
    | tp2 ta tb =>
      cases ta with
      | nm i =>
        obtain ⟨z, d, rfl⟩ := hk
        cases r with
        | two r1 r2 =>
          cases (r1.isca (v := .int z) rfl)
          have e : bindP tb d (σp.set i (some (.int z))) = some σp' := e
          obtain ⟨F', J⟩ := I.setSc (i := i) (d := .int z) (u := .int z) rfl
          obtain ⟨σh2, F4, g2, J6, _, _⟩ := PI.bind J r2 e
          exact ⟨σh2, F4, g2, J6⟩
      | _ => exact gen
    | _ => exact gen
  | _ => exact gen
theorem Rp.kf {u : U} (r : Rp Z h u d) : KF Z Z h u d := by
  cases r with
  | sca e => exact .sca e
  | lst z g t => exact .lst g z t
  | tup z g t => exact .tup g z t
theorem srcS_some {sk : Sk} {ra rb : RR} {E : Es} (cc : srcS sk ra rb = some E) : ∃ ka Ea kb Eb, ra = some (ka, Ea) ∧ rb = some (kb, Eb) ∧ (∀ q ∈ Ea, q ∈ E) ∧ (sk = .zip → ∀ q ∈ Eb, q ∈ E) := by
  cases ra with
  | none => cases sk <;> cases cc
  | some qa =>
    cases rb with
    | none => cases sk <;> cases cc
    | some qb =>
      obtain ⟨ka, Ea⟩ := qa
      obtain ⟨kb, Eb⟩ := qb
      refine ⟨ka, Ea, kb, Eb, rfl, rfl, ?_, ?_⟩
      · cases sk with
        | zip => cases cc; exact fun q h => List.mem_append_left _ h
        | _ => cases cc; exact fun q h => h
      · rintro rfl
        cases cc
        exact fun q h => List.mem_append_right _ h
theorem walkS_ok {sk : Sk} {its : List Pv} {E : Es} (ha : EOk C CP rk a) (hb : EOk C CP rk b) (I : PI pp n0 Z0 Z m F h σh σp w) (ev : walkP sk (evP CP a) (evP CP b) σp w = some (its, w')) (cc : srcS sk (np (chkE rk a m)) (np (chkE rk b m)) = some E) :
    ∃ x y h1 h2 it Zs, evE C a σh h = some (x, h1) ∧ evE C b σh h1 = some (y, h2) ∧ mkIt h2 sk x y = some it ∧ Fr pp h h2 ∧ PWok pp w' h2 ∧ ItP Zs Zs h2 it its ∧ Lim pp (EscZ Z F σh E) h h2 Zs [] ∧ ∀ v ∈ its, pvK sk v := by
  unfold walkP at ev
  obtain ⟨x, w1, e1, ev⟩ := pb_some ev
  obtain ⟨y, w2, e2, ev⟩ := pb_some ev
  obtain ⟨t, et, ev⟩ := ob_some ev
  cases ev
  have both := srcS_some cc
  obtain ⟨ka, Ea, kb, Eb, ca, cb, hEa, hEb⟩ := both
  obtain ⟨ca1, ca2⟩ := np_some ca
  obtain ⟨cb1, cb2⟩ := np_some cb
  obtain ⟨u, h1, Za, fa, g1, x1, q1, r1, l1⟩ := ha I e1 ca1
  obtain ⟨v, h2, Zb, fb, g2, x2, q2, r2, l2⟩ := hb (I.fr x1 q1) e2 cb1
  have p1 := (r1.up x2 l1).toRp ca2
  have p2 := r2.toRp cb2
  by_cases hz : sk = .zip
  · have lj := (Lim.join (B := EscZ Z F σh E) (fun a z => (I.esz z).2.1) x1 x2 (l1.wider fun a z => z.sub hEa) (l2.wider fun a z => z.sub (hEb hz))).all
    have k1 := (p1.mono (Z' := fun a => (Za a ∨ Zb a) ∨ a ∈ fa ++ fb) fun a z => z.elim (fun z => .inl (.inl z)) fun z => .inr (List.mem_append_left _ z)).kf
    have k2 := (p2.mono (Z' := fun a => (Za a ∨ Zb a) ∨ a ∈ fa ++ fb) fun a z => z.elim (fun z => .inl (.inr z)) fun z => .inr (List.mem_append_right _ z)).kf
    obtain ⟨it, m1, m2⟩ := items_ok (fun _ z => z) k1 (fun _ => k2) p2 et
    exact ⟨u, v, h1, h2, it, _, g1, g2, m1, x1.trans x2, q2, m2, lj, items_k et⟩
  · obtain ⟨it, m1, m2⟩ := items_ok (fun _ z => z) p1.kf (fun z => absurd z hz) p2 et
    exact ⟨u, v, h1, h2, it, _, g1, g2, m1, x1.trans x2, q2, m2, ((l1.up x2).wider fun a z => z.sub hEa).all, items_k et⟩
theorem pbl_some {o : PS'} {k : PE → PW → PS'} {q : Pl × PE × PW} (e : pbl o k = some q) : ∃ fl σ w, o = some (fl, σ, w) ∧ (((fl = .nx ∨ fl = .ct) ∧ k σ w = some q) ∨ (fl = .bk ∧ q = (.nx, σ, w)) ∨ ∃ d, fl = .rt d ∧ q = (.rt d, σ, w)) := by
  unfold pbl at e
  split at e
  · exact ⟨_, _, _, rfl, .inl ⟨.inl rfl, e⟩⟩
  · exact ⟨_, _, _, rfl, .inl ⟨.inr rfl, e⟩⟩
  · cases e; exact ⟨_, _, _, rfl, .inr (.inl ⟨rfl, rfl⟩)⟩
  · cases e; exact ⟨_, _, _, rfl, .inr (.inr ⟨_, rfl, rfl⟩)⟩
  · cases e
/-- a turn's body -/
theorem turn_body {x : Sms} {M0 : Mks} {K : Env → Hm → ResS} {KP : PE → PW → PS'} (hb : SsOk C CP rk ret x) (cb : chkSs rk ret x M0 = some (r, J)) (hr : geR r M = true) (hj : geR J M = true)
    (I : PI pp n0 Z0 Z M0 F h σh σp w) (ev : pbl (exPs CP x σp w) KP = some (fl, σp', w'))
    (next : ∀ {Z1 : Nat → Prop} {F1 : Nat → List Nat} {h1 : Hm} {σh1 : Env} {σp1 : PE} {w1 : PW}, (∀ a, Z a → Z1 a) → Fs pp n0 Z h h1 → PI pp n0 Z0 Z1 M F1 h1 σh1 σp1 w1 → KP σp1 w1 = some (fl, σp', w') → SEnd pp n0 Z0 Z1 ret (some M) none h1 fl σp' w' (K σh1 h1)) :
    SEnd pp n0 Z0 Z ret (some M) none h fl σp' w' (bl (exSs C x σh h) K) := by
  obtain ⟨fl1, σp1, w1, e1, e2⟩ := pbl_some ev
  obtain ⟨fl', σh1, h1, g1, x1, q1⟩ := hb I e1 cb
  have lowr : ∀ M', r = some M' → geM M' M = true := fun M' z => by subst z; exact hr
  have lowj : ∀ M', J = some M' → geM M' M = true := fun M' z => by subst z; exact hj
  rcases e2 with ⟨e2, e3⟩ | ⟨rfl, e3⟩ | ⟨d, rfl, e3⟩
  · have b : (fl' = .nx ∨ fl' = .ct) ∧ Beh pp n0 Z0 Z M h1 σh1 σp1 w1 := by
      rcases e2 with rfl | rfl
      · obtain ⟨q1, M', q2, q3⟩ := q1
        exact ⟨.inl q1, q3.weak (.inr (lowr M' q2))⟩
      · obtain ⟨q1, M', q2, q3⟩ := q1
        exact ⟨.inr q1, q3.weak (.inr (lowj M' q2))⟩
    obtain ⟨b1, Z1, F1, hz, I1⟩ := b
    obtain ⟨fl2, σh2, h2, g2, x2, q2⟩ := next hz x1 I1 e3
    refine ⟨fl2, σh2, h2, ?_, x1.trans hz x2, q2.weak same_ge same_ge hz⟩
    rw [g1]
    rcases b1 with rfl | rfl <;> exact g2
  · cases e3
    obtain ⟨rfl, M', q2, q3⟩ := q1
    exact ⟨.nx, σh1, h1, by rw [g1]; rfl, x1, rfl, M, rfl, q3.weak (.inr (lowj M' q2))⟩
  · cases e3
    obtain ⟨u, rfl, q2⟩ := q1
    exact ⟨.rt u, σh1, h1, by rw [g1]; rfl, x1, u, rfl, q2⟩
theorem for_ok {sk : Sk} {tg : Tn} {x : Sms} {it : It} {its : List Pv} (P : ItP Zs Zs h2 it its) (hpk : ∀ v ∈ its, pvK sk v) (hb : SsOk C CP rk ret x) (cb : chkSs rk ret x (bindK sk tg M) = some (r, J)) (hr : geR r M = true) (hj : geR J M = true) :
    ∀ (k i : Nat) {Z : Nat → Prop} {F : Nat → List Nat} {h : Hm} {σh : Env} {σp σp' : PE} {w w' : PW} {fl : Pl}, i + k = its.length → (∀ a, Zs a → Z a) → (∀ a, Zs a → h.get a = h2.get a) → PI pp n0 Z0 Z M F h σh σp w →
      forP (fun v σ w => ob (bindPv tg v σ) fun σ1 => exPs CP x σ1 w) (its.drop i) σp w = some (fl, σp', w') →
      SEnd pp n0 Z0 Z ret (some M) none h fl σp' w' (forLoop (fun v σ h => ob (bindI h tg v σ) fun σ1 => exSs C x σ1 h) it k i σh h)
  | 0, i, Z, F, h, σh, σp, σp', w, w', fl, hi, hz, hg, I, ev => by
    rw [List.drop_eq_nil_of_le (by omega)] at ev
    cases ev
    have := P.gt h hg i
    rw [List.getElem?_eq_none (by omega)] at this
    refine .here I (fun _ z => z) ?_ .refl
    unfold forLoop
    rw [atR_none this]; rfl
  | k + 1, i, Z, F, h, σh, σp, σp', w, w', fl, hi, hz, hg, I, ev => by
    have hlt : i < its.length := by omega
    rw [List.drop_eq_getElem_cons hlt] at ev
    have ev : pbl (ob (bindPv tg its[i] σp) fun σ1 => exPs CP x σ1 w) (fun σ1 w1 => forP (fun v σ w => ob (bindPv tg v σ) fun σ1 => exPs CP x σ1 w) (its.drop (i + 1)) σ1 w1) = some (fl, σp', w') := ev
    have this := P.gt h hg i
    rw [List.getElem?_eq_getElem hlt] at this
    obtain ⟨iv, h3, pv⟩ := atR_some this
    have pv : PvR Z h iv its[i] := by
      generalize its[i] = v at pv
      cases pv with
      | one r => exact .one (r.mono hz)
      | two r q => exact .two (r.mono hz) (q.mono hz)
    obtain ⟨σ1, eb⟩ : ∃ σ1, bindPv tg its[i] σp = some σ1 := by
      cases hbp : bindPv tg its[i] σp with
      | none => rw [hbp] at ev; cases ev
      | some σ1 => exact ⟨σ1, rfl⟩
    rw [eb] at ev
    obtain ⟨σh1, F1, gb, I1⟩ := bindK_ok I pv (hpk _ (List.getElem_mem hlt)) eb
    have R := turn_body (K := fun σ1 h1 => forLoop (fun v σ h => ob (bindI h tg v σ) fun σ1 => exSs C x σ1 h) it k (i + 1) σ1 h1) (M := M) hb cb hr hj I1 ev fun {Z1 F1 h1 σh1 σp1 w1} hz1 x1 I2 ev2 =>
      for_ok P hpk hb cb hr hj k (i + 1) (by omega) (fun a z => hz1 a (hz a z)) (fun a z => (x1.2.1 a (hz a z)).trans (hg a z)) I2 ev2
    unfold forLoop
    rw [h3]
    show SEnd pp n0 Z0 Z ret (some M) none h fl σp' w' (bl (ob (bindI h tg iv σh) fun σ1 => exSs C x σ1 h) _)
    rw [gb]
    exact R
theorem fixM_any {f : Mks → SR} : ∀ {n : Nat} {m M : Mks}, fixM f n m = some M → True := fun _ => trivial
theorem loopR_some {Mo : Option Mks} {f : Mks → SR} (e : loopR Mo f = some (r, J)) : ∃ M r' J', f M = some (r', J') ∧ geR r' M = true ∧ geR J' M = true ∧ r = some M ∧ J = none := by
  unfold loopR at e
  split at e
  · split at e
    · rename_i hf
      split at e
      · rename_i hg
        rw [Bool.and_eq_true] at hg
        cases e
        exact ⟨_, _, _, hf, hg.1, hg.2, rfl, rfl⟩
      · cases e
    · cases e
  · cases e
theorem po_for {sk : Sk} {tg : Tn} {x : Sms} (ha : EOk C CP rk a) (hb : EOk C CP rk b) (hx : SsOk C CP rk ret x) : SOk C CP rk ret (.for tg sk a b x) := by
  intro pp n0 Z0 Z m F h σh σp σp' w w' fl r J I ev cc
  have cc : (match srcS sk (np (chkE rk a m)) (np (chkE rk b m)) with
    | some E => loopR (fixM (fun M => chkSs rk ret x (bindK sk tg M)) 6 (escM m E)) (fun M => if geM (escM m E) M then chkSs rk ret x (bindK sk tg M) else none)
    | none => none) = some (r, J) := cc
  split at cc
  · rename_i E cs
    obtain ⟨M, r', J', hf, hr, hj, rfl, rfl⟩ := loopR_some cc
    split at hf
    · rename_i hge
      have ev : pb (walkP sk (evP CP a) (evP CP b) σp w) (fun it w1 => forP (fun v σ w => ob (bindPv tg v σ) fun σ1 => exPs CP x σ1 w) it σp w1) = some (fl, σp', w') := ev
      obtain ⟨its, w1, e1, ev⟩ := pb_some ev
      obtain ⟨u, v, h1, h2, it, Zs, g1, g2, g3, x2, q2, P, l2, hpk⟩ := walkS_ok ha hb I e1 cs
      obtain ⟨F1, J1, s1, _, _⟩ := I.aft x2 q2 l2
      obtain ⟨Z2, F2, hz2, J2⟩ := J1.weak hge
      obtain ⟨fl', σh', h', g4, x4, q4⟩ := for_ok P hpk hx hf hr hj its.length 0 (by omega) (fun a z => hz2 a (.inr z)) (fun _ _ => rfl) J2 (by rw [List.drop_zero]; exact ev)
      refine ⟨fl', σh', h', ?_, (I.fs x2).trans (fun a z => hz2 a (.inl (.inl z))) x4, q4.weak same_ge same_ge fun a z => hz2 a (.inl (.inl z))⟩
      refine (bd_eq g1).trans ((bd_eq g2).trans ((ob_eq g3).trans ?_))
      rw [P.cnt]
      exact g4
    · cases hf
  · cases cc
theorem while_ok {x : Sms} {q : Kd × Es} (hc : EOk C CP rk c) (hx : SsOk C CP rk ret x) (cq : np (chkE rk c M) = some q) (cb : chkSs rk ret x M = some (r, J)) (hr : geR r M = true) (hj : geR J M = true) :
    ∀ (k : Nat) {Z : Nat → Prop} {F : Nat → List Nat} {h : Hm} {σh : Env} {σp σp' : PE} {w w' : PW} {fl : Pl}, PI pp n0 Z0 Z M F h σh σp w → whP (evP CP c) (exPs CP x) k σp w = some (fl, σp', w') → SEnd pp n0 Z0 Z ret (some M) none h fl σp' w' (whLoop (evE C c) (exSs C x) k σh h)
  | 0, Z, F, h, σh, σp, σp', w, w', fl, I, ev => by cases ev
  | k + 1, Z, F, h, σh, σp, σp', w, w', fl, I, ev => by
    have ev : pb (evP CP c σp w) (fun y w1 => pf y (pbl (exPs CP x σp w1) fun σ1 w2 => whP (evP CP c) (exPs CP x) k σ1 w2) (some (.nx, σp, w1))) = some (fl, σp', w') := ev
    obtain ⟨y, w1, e1, ev⟩ := pb_some ev
    obtain ⟨t, ht, ev2⟩ := pf_some ev
    subst ht
    obtain ⟨v, h1, g1, x1, q1, r1⟩ := hc.wr I e1 cq
    cases (r1.isca (v := .bl t) rfl)
    have I1 := I.fr x1 q1
    have ee : whLoop (evE C c) (exSs C x) (k + 1) σh h = bf (.bl t) (bl (exSs C x σh h1) fun σ1 h2 => whLoop (evE C c) (exSs C x) k σ1 h2) (some (.nx, σh, h1)) := bd_eq g1
    rw [ee]
    cases t with
    | false =>
      rw [if_neg (by decide)] at ev2
      cases ev2
      exact .here I1 (fun _ z => z) rfl (I.fs x1)
    | true =>
      rw [if_pos rfl] at ev2
      obtain ⟨fl', σh', h', g4, x4, q4⟩ := turn_body (K := fun σ1 h2 => whLoop (evE C c) (exSs C x) k σ1 h2) (M := M) hx cb hr hj I1 ev2 fun hz1 x2 I2 ev3 => while_ok hc hx cq cb hr hj k I2 ev3
      exact ⟨fl', σh', h', g4, (I.fs x1).trans (fun _ z => z) x4, q4⟩
theorem po_while {x : Sms} (hc : EOk C CP rk c) (hx : SsOk C CP rk ret x) : SOk C CP rk ret (.while c x) := by
  intro pp n0 Z0 Z m F h σh σp σp' w w' fl r J I ev cc
  have cc : loopR (fixM (fun M => chkSs rk ret x M) 6 m) (fun M => if geM m M then match np (chkE rk c M) with
    | some _ => chkSs rk ret x M
    | none => none else none) = some (r, J) := cc
  obtain ⟨M, r', J', hf, hr, hj, rfl, rfl⟩ := loopR_some cc
  split at hf
  · rename_i hge
    split at hf
    · rename_i q cq
      obtain ⟨Z2, F2, hz2, J2⟩ := I.weak hge
      obtain ⟨fl', σh', h', g4, x4, q4⟩ := while_ok hc hx cq hf hr hj whMost J2 ev
      exact ⟨fl', σh', h', g4, Fs.refl.trans (fun a z => hz2 a z) x4, q4.weak same_ge same_ge fun a z => hz2 a z⟩
    · cases hf
  · cases hf
theorem po_none {s : Sm} (hs : ∀ σ w, exP CP s σ w = none) : SOk C CP rk ret s := by
  intro pp n0 Z0 Z m F h σh σp σp' w w' fl r J I ev cc
  rw [hs] at ev
  cases ev
theorem po_no {s : Sm} (hs : ∀ m, chkS rk ret s m = none) : SOk C CP rk ret s := by
  intro pp n0 Z0 Z m F h σh σp σp' w w' fl r J I ev cc
  rw [hs] at cc
  cases cc
mutual
theorem po_all (hC : CallOk C CP rk) : ∀ s : Sm, SOk C CP rk ret s
  | .pass => po_pass
  | .ex e => po_ex (eo_all (C := C) (CP := CP) (rk := rk) hC e)
  | .set i e => po_set (eo_all (C := C) (CP := CP) (rk := rk) hC e)
  | .par is es => po_par (es_all (C := C) (CP := CP) (rk := rk) hC es)
  | .asg t e => po_asg (eo_all (C := C) (CP := CP) (rk := rk) hC e)
  | .setsub _ _ _ => po_none fun _ _ => rfl
  | .parsub _ _ _ _ _ => po_none fun _ _ => rfl
  | .aug _ _ e => po_aug (eo_all (C := C) (CP := CP) (rk := rk) hC e)
  | .ite c a b => po_ite (eo_all (C := C) (CP := CP) (rk := rk) hC c) (pso_all hC a) (pso_all hC b)
  | .for _ _ a b x => po_for (eo_all (C := C) (CP := CP) (rk := rk) hC a) (eo_all (C := C) (CP := CP) (rk := rk) hC b) (pso_all hC x)
  | .while c x => po_while (eo_all (C := C) (CP := CP) (rk := rk) hC c) (pso_all hC x)
  | .ret e => po_ret (eo_all (C := C) (CP := CP) (rk := rk) hC e) fun i x _ => eo_all (C := C) (CP := CP) (rk := rk) hC x
  | .retn => po_retn
  | .raise => po_raise
  | .brk => po_brk
  | .cnt => po_cnt
  | .mut1 _ _ es => po_mut1 (es_all (C := C) (CP := CP) (rk := rk) hC es)
  | .mut2 _ _ a es => po_mut2 (eo_all (C := C) (CP := CP) (rk := rk) hC a) (es_all (C := C) (CP := CP) (rk := rk) hC es)
  | .st1 _ a e => po_st1 (eo_all (C := C) (CP := CP) (rk := rk) hC a) (eo_all (C := C) (CP := CP) (rk := rk) hC e)
  | .st2 _ _ _ _ => po_no fun _ => rfl
  | .sw _ a _ b es => po_sw (eo_all (C := C) (CP := CP) (rk := rk) hC a) (eo_all (C := C) (CP := CP) (rk := rk) hC b) (es_all (C := C) (CP := CP) (rk := rk) hC es)
  | .popto _ _ => po_no fun _ => rfl
  | .mv _ _ => po_mv
  | .mutv _ _ => po_mutv
  | .spoil _ _ => po_spoil hC (fun _ e _ => eo_all (C := C) (CP := CP) (rk := rk) hC e) (fun e _ => eo_all (C := C) (CP := CP) (rk := rk) hC e)
theorem pso_all (hC : CallOk C CP rk) : ∀ s : Sms, SsOk C CP rk ret s
  | .nil => pso_nil
  | .cons s t => pso_cons (po_all hC s) (pso_all hC t)
end
end
/-! ### defs -/
/-- a def with its signature -/
structure Pd where
  d : Df
  g : Sg
def sMks (d : Df) (pus : List Bool) : Mks := (pus.map fun b => some (if b then .pu else .own 0)) ++ List.replicate (d.ns - d.np) none
def chkDf0 (rk : Nat → Sg) (d : Df) (g : Sg) : Bool :=
  decide (g.pus.length = d.np) && decide (d.np ≤ d.ns) && match chkSs rk g.ret d.body (sMks d g.pus) with
    | some (r, none) => match r with
      | none => true
      | some _ => Kd.ge .sc g.ret
    | _ => false
/-- those that spoil are looked at apart -/
def chkDf (rk : Nat → Sg) (d : Df) (g : Sg) : Bool := decide (g.ret = .pu) || chkDf0 rk d g
def SpShape (rk : Nat → Sg) (d : Df) : Prop := ∃ j, (rk j).ret = .pu ∧ ((∃ s t, d = dSpA j s t) ∨ ∃ s, d = dSpB j s)
theorem mk_app_l {α : Type} {l r : List (Option α)} {i : Nat} (h : i < l.length) : (l ++ r)[i]? = l[i]? := List.getElem?_append_left h
theorem Ras.lens {pp : Option Nat} {Za : Nat → Prop} {h : Hm} : ∀ {bs : List Bool} {us : List U} {ds : List D}, Ras pp Za h bs us ds → bs.length = us.length ∧ us.length = ds.length
  | _, _, _, .nil => ⟨rfl, rfl⟩
  | _, _, _, .cons _ t => ⟨congrArg Nat.succ t.lens.1, congrArg Nat.succ t.lens.2⟩
  | _, _, _, .pur _ t => ⟨congrArg Nat.succ t.lens.1, congrArg Nat.succ t.lens.2⟩
theorem start_pi {pp : Option Nat} {Za : Nat → Prop} {h : Hm} {w : PW} (hz : ∀ a, Za a → a < h.n ∧ some a ≠ pp) (q : PWok pp w h) (k : Nat) : ∀ {bs : List Bool} {us : List U} {ds : List D}, Ras pp Za h bs us ds →
    PI pp h.n Za Za ((bs.map fun b => some (if b then Kd.pu else .own 0)) ++ List.replicate k none) (fun _ => []) h (us.map some ++ List.replicate k none) (ds.map some ++ List.replicate k none) w := by
  intro bs us ds r
  have lens : bs.length = us.length ∧ us.length = ds.length := by
    induction r with
    | nil => exact ⟨rfl, rfl⟩
    | cons _ _ ih => exact ⟨congrArg Nat.succ ih.1, congrArg Nat.succ ih.2⟩
    | pur _ _ ih => exact ⟨congrArg Nat.succ ih.1, congrArg Nat.succ ih.2⟩
  refine ⟨?_, fun _ => .nil, fun _ _ _ z => (nomatch z), fun _ _ z => (nomatch z), fun a z => ⟨.inl z, hz a z⟩, q, by simp [lens.2], Nat.le_refl _⟩
  induction r with
  | nil =>
    intro i K hK
    have : mkO (List.replicate k none) i = none := by
      unfold mkO
      rw [List.getElem?_replicate]
      split
      · rename_i e; split at e
        · cases e; rfl
        · cases e
      · rfl
    rw [show (([] : List Bool).map fun b => some (if b then Kd.pu else .own 0)) ++ List.replicate k none = List.replicate k none from rfl, this] at hK
    cases hK
  | @cons u us d ds bs r t ih =>
    intro i K hK e he
    cases i with
    | zero =>
      cases hK
      cases he
      exact ⟨u, rfl, (show Ro Za h 0 u d [] from .sh r)⟩
    | succ i => exact ih ⟨Nat.succ.inj lens.1, Nat.succ.inj lens.2⟩ i K hK e he
  | @pur us ds bs p hp t ih =>
    intro i K hK e he
    cases i with
    | zero =>
      cases hK
      cases he
      exact ⟨.ref p, rfl, rfl, rfl, p, hp, rfl⟩
    | succ i => exact ih ⟨Nat.succ.inj lens.1, Nat.succ.inj lens.2⟩ i K hK e he
/-- what the plain evaluator says of defs holds in the heap -/
theorem callP_step {Q Qp : Nat → Option Df} {rk : Nat → Sg} {k : Nat} (hs : ∀ i d, Qp i = some d → Q i = some d) (hQ : ∀ i d, Qp i = some d → chkDf rk d (rk i) = true) (hS : ∀ i d, Qp i = some d → (rk i).ret = .pu → SpShape rk d) (ih : CallOk (callN Q k) (callP Qp k) rk) : CallOk (callN Q (k + 1)) (callP Qp (k + 1)) rk := by
    refine ⟨?_, ?_⟩
    case refine_2 =>
      intro f hf Z h u d n fp w q ev r hh hfp hnd
      have ev : (match Qp f with | some d => runP (callP Qp k) d [_] w | none => none) = some q := ev
      have hh' : callN Q (k + 1) f [u] h = match Q f with | some d => runD (callN Q k) d [u] h | none => none := rfl
      cases hq : Qp f with
      | none => rw [hq] at ev; cases ev
      | some df =>
        rw [hq] at ev
        rw [hs f df hq] at hh'
        dsimp only at ev hh'
        rw [hh']
        obtain ⟨j, hj, ⟨s, t, rfl⟩ | ⟨s, rfl⟩⟩ := hS f df hq hf
        · exact spl_A (ih.spl hj) ev r hh hfp hnd
        · exact spl_B (ih.spl hj) ev r hh hfp hnd
    intro pp f us ds h w w' d Za ev ra hz q hne
    have ev : (match Qp f with | some d => runP (callP Qp k) d ds w | none => none) = some (d, w') := ev
    have hh : callN Q (k + 1) f us h = match Q f with | some d => runD (callN Q k) d us h | none => none := rfl
    cases hq : Qp f with
    | none => rw [hq] at ev; cases ev
    | some df =>
      rw [hq] at ev
      rw [hs f df hq] at hh
      dsimp only at ev hh
      rw [hh]
      have hc := hQ f df hq
      unfold chkDf at hc
      rw [decide_eq_false hne, Bool.false_or] at hc
      unfold chkDf0 at hc
      rw [Bool.and_eq_true, Bool.and_eq_true] at hc
      obtain ⟨⟨c1, c2⟩, c3⟩ := hc
      have c1 := of_decide_eq_true c1
      have c2 := of_decide_eq_true c2
      unfold runP at ev
      split at ev
      · rename_i hl
        have lens := ra.lens
        have I := start_pi hz q (df.ns - df.np) ra
        have hE : startE df us = us.map some ++ List.replicate (df.ns - df.np) none := by
          unfold startE
          rw [← c1, lens.1]
        have hP : startP df ds = ds.map some ++ List.replicate (df.ns - df.np) none := by
          unfold startP
          rw [hl]
        rw [hP] at ev
        have hu : us.length = df.np := by rw [lens.2]; exact hl
        unfold runD
        rw [if_pos hu, hE]
        have fin : ∀ {fl : Pl} {σ1 : PE} {w1 : PW}, exPs (callP Qp k) df.body (ds.map some ++ List.replicate (df.ns - df.np) none) w = some (fl, σ1, w1) → ∃ r, chkSs rk (rk f).ret df.body (sMks df (rk f).pus) = some (r, none) ∧ (r ≠ none → Kd.ge .sc (rk f).ret = true) ∧ SEnd pp h.n Za Za (rk f).ret r none h fl σ1 w1 (exSs (callN Q k) df.body (us.map some ++ List.replicate (df.ns - df.np) none) h) := by
          intro fl σ1 w1 e1
          split at c3
          · rename_i r hr
            refine ⟨r, hr, fun z => ?_, pso_all (C := callN Q k) (CP := callP Qp k) (rk := rk) ih df.body I e1 hr⟩
            cases r with
            | none => exact absurd rfl z
            | some _ => exact c3
          · cases c3
        split at ev
        · rename_i x σ1 w1 e1
          cases ev
          obtain ⟨r, _, _, fl', σh', h', g, xs, u, rfl, pw, Zr, fp, rr, ll⟩ := fin e1
          refine ⟨u, h', Zr, fp, by rw [g], ⟨xs.1, xs.2.2⟩, pw, rr, ll⟩
        · rename_i σ1 w1 e1
          cases ev
          obtain ⟨r, _, hr, fl', σh', h', g, xs, rfl, M, hM, Z1, F1, _, I1⟩ := fin e1
          have hge := hr (by rw [hM]; exact fun z => nomatch z)
          have : RE pp Za h .sc .non w' (some (.non, h')) := .sc rfl ⟨xs.1, xs.2.2⟩ I1.pw rfl
          have := this.lower hge
          rw [g]
          exact this
        · cases ev
      · cases ev
theorem callP_ok {Q Qp : Nat → Option Df} {rk : Nat → Sg} (hs : ∀ i d, Qp i = some d → Q i = some d) (hQ : ∀ i d, Qp i = some d → chkDf rk d (rk i) = true) (hS : ∀ i d, Qp i = some d → (rk i).ret = .pu → SpShape rk d) : ∀ k : Nat, CallOk (callN Q k) (callP Qp k) rk
  | 0 => by
    refine ⟨?_, ?_⟩
    · intro pp f us ds h w w' d Za ev
      cases ev
    · intro f hf Z h u d n fp w q ev
      cases ev
  | k + 1 => callP_step hs hQ hS (callP_ok hs hQ hS k)
end Mi

set_option maxRecDepth 100000
/-! Mi, part Q1: the purse, made from the script. -/
namespace Mi
open PySem
def dPurse : Df := ⟨2, 3, .cons (.set 2 (.bi .sum (.cons (.slice (.var 0) true true (.var 1) (.bin .add (.var 1) (.int 1))) .nil))) (.cons (.ret (.list (.cons (.bin .mod (.bi .int (.cons (.bi .max2 (.cons (.bin .sub (.var 2) (.bin .pow (.int 10) (.int 18))) (.cons (.int 0) .nil))) .nil)) (.bin .pow (.bin .pow (.int 10) (.int 60)) (.int 8))) (.cons (.bin .mod (.bi .int (.cons (.var 2) .nil)) (.int 2147483629)) (.cons (.int 0) (.cons (.var 1) .nil)))))) .nil)⟩
def dPurses (iP : Nat) : Df := ⟨2, 3, .cons (.ret (.lc [2] (.nm 2) .rng1 (.bi .max2 (.cons (.int 1) (.cons (.bi .min2 (.cons (.var 1) (.cons (.bi .len (.cons (.var 0) .nil)) .nil))) .nil))) .non (.bl true) (.call iP (.cons (.var 0) (.cons (.var 2) .nil)) []))) .nil⟩
theorem intsOf_map : ∀ l : List Int, intsOf (l.map U.int) = some l
  | [] => rfl
  | i :: r => by
    show (match intsOf (r.map U.int) with | some l => some (i :: l) | none => none) = _
    rw [intsOf_map r]
theorem cut_map {α β : Type} (f : α → β) (l : List α) (lo hi : Option Int) : cut (l.map f) lo hi = (cut l lo hi).map f := by
  unfold cut
  rw [List.length_map, List.map_take, List.map_drop]
/-- a purse that is well; n draws are left -/
structure Pw (n : Nat) (w : PW) : Prop where
  ex : ∃ b s t a : Int, w = [b, s, t, a] ∧ 0 ≤ b ∧ b < 10 ^ 480 ∧ 0 ≤ s ∧ s < 2147483629 ∧ 0 ≤ t ∧ t + n ≤ 2 ^ 60 ∧ 0 ≤ a ∧ a < 64
theorem pow18 : powOk 10 18 = true := by decide +kernel
theorem pow60 : powOk 10 60 = true := by decide +kernel
theorem pow480 : powOk (10 ^ Int.toNat 60) 8 = true := by decide +kernel
theorem pos480 : (0 : Int) < 10 ^ 480 := by decide +kernel
theorem e18 : (10 : Int) ^ Int.toNat 18 = 10 ^ 18 := rfl
theorem eq480 : ((10 : Int) ^ Int.toNat 60) ^ Int.toNat 8 = 10 ^ 480 := by decide +kernel
theorem posS : (0 : Int) < 2147483629 := by decide
theorem purse_ok {Q : Nat → Option Df} {iP k : Nat} (hQ : Q iP = some dPurse) {h : Hm} {ns : List Int} (h0 : h.get 0 = some (.ro (ns.map .int))) (i : Nat) (hi : i < 64) :
    ∃ h' w, callN Q (k + 1) iP [.ref 0, .int i] h = some (.ref (h.n + 1), h') ∧ h'.n = h.n + 2 ∧ (∀ a, a < h.n → h'.get a = h.get a) ∧ h'.get (h.n + 1) = some (.lst (w.map .int)) ∧ Pw (2 ^ 60) w := by
  let sd : Int := (cut ns (some (i : Int)) (some ((i : Int) + 1))).sum
  refine ⟨(h.push (.lst (cut (ns.map U.int) (some (i : Int)) (some ((i : Int) + 1))))).push (.lst ([(if 0 > sd - 10 ^ 18 then 0 else sd - 10 ^ 18) % 10 ^ 480, sd % 2147483629, 0, (i : Int)].map .int)), [(if 0 > sd - 10 ^ 18 then 0 else sd - 10 ^ 18) % 10 ^ 480, sd % 2147483629, 0, (i : Int)], ?_, rfl, fun a ha => ?_, ?_, ?_⟩
  · have e1 : callN Q (k + 1) iP [.ref 0, .int i] h = runD (callN Q k) dPurse [.ref 0, .int i] h := by
      show (match Q iP with | some d => runD (callN Q k) d [.ref 0, .int i] h | none => none) = _
      rw [hQ]
    rw [e1]
    have r0 : rdL h (.ref 0) = some (ns.map .int) := by unfold rdL; dsimp only; rw [h0]
    have r1 : rdL (h.push (.lst (cut (ns.map U.int) (some (i : Int)) (some ((i : Int) + 1))))) (.ref h.n) = some ((cut ns (some (i : Int)) (some ((i : Int) + 1))).map U.int) := by
      unfold rdL; dsimp only; rw [Hm.get_push_self, cut_map]
    have hs : (4 : Nat) ≤ sizeLine := by decide
    simp only [runD, dPurse, startE, exSs, exS, evE, evEs, getE, bd, ob, bs, List.length_cons, List.length_nil, List.map_cons, List.map_nil, List.replicate, List.cons_append, List.nil_append, List.getElem?_cons_zero, List.getElem?_cons_succ, List.set, binU, biU, bnd, sliceU, newL, r0, r1, intsOf_map, pow18, pow60, pow480, pos480, posS, if_true, ite_true, eq480, e18, Nat.reduceAdd, Nat.zero_add, hs]
    rfl
  · rw [Hm.get_push_lt (by rw [Hm.push_n]; omega), Hm.get_push_lt ha]
  · exact Hm.get_push_self _ _
  · refine ⟨_, _, _, _, rfl, Int.emod_nonneg _ (by decide +kernel), Int.emod_lt_of_pos _ pos480, Int.emod_nonneg _ (by decide), Int.emod_lt_of_pos _ posS, by decide, by decide, by omega, by omega⟩
/-- purses that lie behind one another in the heap -/
theorem purses_loop {Q : Nat → Option Df} {iP k : Nat} (hQ : Q iP = some dPurse) {ns : List Int} {few : Int} (m : Nat) (hm : m ≤ 63) :
    ∀ (j i : Nat) (h : Hm), i + j = m → h.get 0 = some (.ro (ns.map .int)) → ∃ (us : List U) (h' : Hm), lcLoop (fun v h => ob (bindI h (.nm 2) v (wipeE [some (.ref 0), some (.int few), none] [2])) fun σ1 => bd (evE (callN Q (k + 1)) (.bl true) σ1 h) fun c h3 => bf c (bd (evE (callN Q (k + 1)) (.call iP (.cons (.var 0) (.cons (.var 2) .nil)) []) σ1 h3) fun z h4 => some ([z], h4)) (some ([], h3))) (.rg 0 m) j i h = some (us, h') ∧
      h.n ≤ h'.n ∧ (∀ a, a < h.n → h'.get a = h.get a) ∧ us.length = j ∧ ∀ l : Nat, l < j → ∃ p w, us[l]? = some (U.ref p) ∧ h.n ≤ p ∧ h'.get p = some (.lst (w.map .int)) ∧ Pw (2 ^ 60) w ∧ ∀ l' p', l < l' → us[l']? = some (U.ref p') → p < p'
  | 0, i, h, hi, h0 => by
    refine ⟨[], h, ?_, Nat.le_refl _, fun _ _ => rfl, rfl, fun l hl => by omega⟩
    unfold lcLoop
    show ob (some (if i < m then _ else none)) _ = _
    rw [if_neg (by omega)]
    rfl
  | j + 1, i, h, hi, h0 => by
    obtain ⟨h1, w, e1, n1, g1, g2, pw⟩ := purse_ok (k := k) hQ h0 i (by omega)
    obtain ⟨us, h', e2, n2, g3, hl, hp⟩ := purses_loop hQ (few := few) m hm j (i + 1) h1 (by omega) (by rw [g1 0 (Hm.get_lt h0)]; exact h0)
    refine ⟨.ref (h.n + 1) :: us, h', ?_, by omega, fun a ha => by rw [g3 a (by omega), g1 a ha], congrArg Nat.succ hl, fun l hlt => ?_⟩
    · unfold lcLoop
      show ob (some (if i < m then some (Iv.one (.int (0 + i))) else none)) _ = _
      rw [if_pos (by omega), Int.zero_add]
      show bd (bd (callN Q (k + 1) iP [.ref 0, .int i] h) fun z h4 => some ([z], h4)) _ = _
      rw [bd_eq e1]
      show bd (lcLoop _ (.rg 0 m) j (i + 1) h1) _ = _
      rw [bd_eq e2]
      rfl
    · have mono : ∀ l p, us[l]? = some (U.ref p) → h1.n ≤ p := fun l p e => by
        have hlt : l < j := by rw [← hl]; exact (List.getElem?_eq_some_iff.mp e).1
        obtain ⟨p', w', q1, q2, _⟩ := hp l hlt
        rw [q1] at e
        cases e
        exact q2
      cases l with
      | zero =>
        refine ⟨h.n + 1, w, rfl, by omega, by rw [g3 _ (by omega)]; exact g2, pw, fun l' p' hl' e => ?_⟩
        cases l' with
        | zero => omega
        | succ l' =>
          have := mono l' p' e
          omega
      | succ l =>
        obtain ⟨p, w', q1, q2, q3, q4, q5⟩ := hp l (by omega)
        refine ⟨p, w', q1, by omega, q3, q4, fun l' p' hl' e => ?_⟩
        cases l' with
        | zero => omega
        | succ l' => exact q5 l' p' (by omega) e
theorem purses_ok {Q : Nat → Option Df} {iP iPs k : Nat} (hQ : Q iP = some dPurse) (hQs : Q iPs = some (dPurses iP)) {h : Hm} {ns : List Int} (h0 : h.get 0 = some (.ro (ns.map .int))) (few : Int) (hf : few ≤ 63) :
    ∃ (us : List U) (h' : Hm) (q : Nat), callN Q (k + 2) iPs [.ref 0, .int few] h = some (.ref q, h') ∧ h'.get q = some (.lst us) ∧ h.n ≤ h'.n ∧ (∀ a, a < h.n → h'.get a = h.get a) ∧
      ∀ l : Nat, l < us.length → ∃ p w, us[l]? = some (U.ref p) ∧ p ≠ q ∧ h'.get p = some (.lst (w.map .int)) ∧ Pw (2 ^ 60) w ∧ ∀ l' p', l < l' → us[l']? = some (U.ref p') → p < p' := by
  let x : Int := if (ns.length : Int) < few then ns.length else few
  let m : Int := if x > 1 then x else 1
  have hm1 : 1 ≤ m := by show 1 ≤ (if x > 1 then x else 1); split <;> omega
  have hm2 : m ≤ 63 := by
    have : x ≤ few := by show (if (ns.length : Int) < few then (ns.length : Int) else few) ≤ few; split <;> omega
    show (if x > 1 then x else 1) ≤ 63
    split <;> omega
  obtain ⟨us, h', e, n1, g1, hl, hp⟩ := purses_loop (k := k) hQ (few := few) m.toNat (by omega) m.toNat 0 h (by omega) h0
  refine ⟨us, h'.push (.lst us), h'.n, ?_, Hm.get_push_self _ _, by rw [Hm.push_n]; omega, fun a ha => by rw [Hm.get_push_lt (by omega)]; exact g1 a ha, fun l hlt => ?_⟩
  · have e1 : callN Q (k + 2) iPs [.ref 0, .int few] h = runD (callN Q (k + 1)) (dPurses iP) [.ref 0, .int few] h := by
      show (match Q iPs with | some d => runD (callN Q (k + 1)) d [.ref 0, .int few] h | none => none) = _
      rw [hQs]
    rw [e1]
    have r0 : rdS h (.ref 0) = some (ns.map .int) := by unfold rdS; dsimp only; rw [h0]
    have hit : mkIt h .rng1 (.int m) .non = some (.rg 0 m.toNat) := by
      show (if -(2 ^ 62) ≤ m ∧ m < 2 ^ 62 then some (It.rg 0 m.toNat) else none) = _
      rw [if_pos (by constructor <;> omega)]
    have hlen : us.length ≤ sizeLine := by
      have : (63 : Nat) ≤ sizeLine := by decide
      omega
    have ev : evE (callN Q (k + 1)) (.lc [2] (.nm 2) .rng1 (.bi .max2 (.cons (.int 1) (.cons (.bi .min2 (.cons (.var 1) (.cons (.bi .len (.cons (.var 0) .nil)) .nil))) .nil))) .non (.bl true) (.call iP (.cons (.var 0) (.cons (.var 2) .nil)) [])) [some (.ref 0), some (.int few), none] h = some (.ref h'.n, h'.push (.lst us)) := by
      have ea : evE (callN Q (k + 1)) (.bi .max2 (.cons (.int 1) (.cons (.bi .min2 (.cons (.var 1) (.cons (.bi .len (.cons (.var 0) .nil)) .nil))) .nil))) [some (.ref 0), some (.int few), none] h = some (.int m, h) := by
        have el : biU h .len [.ref 0] = some (.int ns.length, h) := by
          show (match rdS h (.ref 0) with | some xs => some (U.int xs.length, h) | none => _) = _
          rw [r0]
          dsimp only
          rw [List.length_map]
        show bd (bd (some (U.int 1, h)) fun u h1 => bd (bd (bd (bd (some (U.int few, h)) fun u h1 => bd (bd (bd (bd (some (U.ref 0, h)) fun u h1 => bd (some ([], h1)) fun us h2 => some (u :: us, h2)) fun us h1 => biU h1 .len us) fun u h1 => bd (some ([], h1)) fun us h2 => some (u :: us, h2)) fun us h2 => some (u :: us, h2)) fun us h1 => biU h1 .min2 us) fun u h1 => bd (some ([], h1)) fun us h2 => some (u :: us, h2)) fun us h2 => some (u :: us, h2)) (fun us h1 => biU h1 .max2 us) = _
        simp only [bd, el]
        rfl
      refine (bd_eq ea).trans ((bd_eq (show evE (callN Q (k + 1)) .non [some (.ref 0), some (.int few), none] h = some (U.non, h) from rfl)).trans ((ob_eq hit).trans ((bd_eq e).trans ?_)))
      unfold newL
      rw [if_pos hlen]
    have ex : exSs (callN Q (k + 1)) (dPurses iP).body [some (.ref 0), some (.int few), none] h = some (.rt (.ref h'.n), [some (.ref 0), some (.int few), none], h'.push (.lst us)) := by
      refine (show exSs (callN Q (k + 1)) (dPurses iP).body [some (.ref 0), some (.int few), none] h = bs (bd (evE (callN Q (k + 1)) _ _ h) fun u h1 => some (.rt u, _, h1)) _ from rfl).trans ?_
      rw [bd_eq ev]; rfl
    unfold runD
    rw [if_pos (show [U.ref 0, U.int few].length = (dPurses iP).np from rfl), show startE (dPurses iP) [.ref 0, .int few] = [some (.ref 0), some (.int few), none] from rfl, ex]
  · obtain ⟨p, w, q1, q2, q3, q4, q5⟩ := hp l (by omega)
    have hlt : p < h'.n := Hm.get_lt q3
    exact ⟨p, w, q1, by omega, by rw [Hm.get_push_lt hlt]; exact q3, q4, q5⟩
end Mi

set_option maxRecDepth 100000
/-! Mi, part Q2: a law that goes through its purses. -/
namespace Mi
open PySem
theorem getE_len {σ : Env} {i : Nat} {u : U} (h : i < σ.length) : getE (σ.set i (some u)) i = some u := getE_set_eq h
theorem mkO_rep {n i : Nat} : mkO (List.replicate n none) i = none := by
  unfold mkO
  rw [List.getElem?_replicate]
  split
  · rename_i e; split at e
    · cases e; rfl
    · cases e
  · rfl
theorem getP_rep {n i : Nat} : getP (List.replicate n none) i = none := by
  unfold getP
  rw [List.getElem?_replicate]
  split
  · rename_i e; split at e
    · cases e
    · cases e
  · rfl
theorem bindP_len : ∀ {t : Tn} {d : D} {σ σ' : PE}, bindP t d σ = some σ' → σ'.length = σ.length
  | .nm i, d, σ, σ', e => by cases e; exact List.length_set
  | .tp2 a b, d, σ, σ', e => by
    unfold bindP at e
    split at e
    · split at e
      · rename_i e1
        exact (bindP_len e).trans (bindP_len e1)
      · cases e
    · cases e
  | .tp3 a b c, d, σ, σ', e => by
    unfold bindP at e
    split at e
    · split at e
      · rename_i e1
        split at e
        · rename_i e2
          exact (bindP_len e).trans ((bindP_len e2).trans (bindP_len e1))
        · cases e
      · cases e
    · cases e
theorem bindPv_len {t : Tn} {v : Pv} {σ σ' : PE} (e : bindPv t v σ = some σ') : σ'.length = σ.length := by
  unfold bindPv at e
  split at e
  · exact bindP_len e
  · split at e
    · split at e
      · rename_i e1
        exact (bindP_len e).trans (bindP_len e1)
      · cases e
    · cases e
theorem setAllP_len : ∀ {is : List Nat} {us : List D} {σ σ' : PE}, setAllP is us σ = some σ' → σ'.length = σ.length
  | [], [], σ, σ', e => by cases e; rfl
  | i :: is, u :: us, σ, σ', e => (setAllP_len (is := is) (us := us) e).trans List.length_set
  | [], _ :: _, _, _, e => by cases e
  | _ :: _, [], _, _, e => by cases e
def KeepL (s : PSt) : Prop := ∀ (σ σ' : PE) (w w' : PW) (fl : Pl), s σ w = some (fl, σ', w') → σ'.length = σ.length
theorem forP_len {f : Pv → PE → PW → PS'} (hf : ∀ v, KeepL (f v)) : ∀ its : List Pv, KeepL (forP f its)
  | [] => fun σ σ' w w' fl e => by cases e; rfl
  | v :: r => fun σ σ' w w' fl e => by
    have e : pbl (f v σ w) (fun σ1 w1 => forP f r σ1 w1) = some (fl, σ', w') := e
    obtain ⟨fl1, σ1, w1, e1, e2⟩ := pbl_some e
    have l1 := hf v _ _ _ _ _ e1
    rcases e2 with ⟨_, e2⟩ | ⟨_, e2⟩ | ⟨d, _, e2⟩
    · exact (forP_len hf r _ _ _ _ _ e2).trans l1
    · cases e2; exact l1
    · cases e2; exact l1
theorem whP_len {t : PX} {f : PSt} (hf : KeepL f) : ∀ k, KeepL (whP t f k)
  | 0 => fun σ σ' w w' fl e => by cases e
  | k + 1 => fun σ σ' w w' fl e => by
    have e : pb (t σ w) (fun x w1 => pf x (pbl (f σ w1) fun σ1 w2 => whP t f k σ1 w2) (some (.nx, σ, w1))) = some (fl, σ', w') := e
    obtain ⟨x, w1, _, e⟩ := pb_some e
    obtain ⟨b, _, e⟩ := pf_some e
    cases b with
    | false =>
      rw [if_neg (by decide)] at e
      cases e; rfl
    | true =>
      rw [if_pos rfl] at e
      obtain ⟨fl1, σ1, w2, e1, e2⟩ := pbl_some e
      have l1 := hf _ _ _ _ _ e1
      rcases e2 with ⟨_, e2⟩ | ⟨_, e2⟩ | ⟨d, _, e2⟩
      · exact (whP_len hf k _ _ _ _ _ e2).trans l1
      · cases e2; exact l1
      · cases e2; exact l1
theorem pb_ex {α : Type} {o : Option (α × PW)} {k : α → PW → PS'} {q : Pl × PE × PW} (e : pb o k = some q) : ∃ x w, k x w = some q := by
  obtain ⟨x, w, _, e⟩ := pb_some e
  exact ⟨x, w, e⟩
theorem ob_ex {α β : Type} {o : Option α} {k : α → Option β} {q : β} (e : ob o k = some q) : ∃ x, k x = some q := by
  obtain ⟨x, _, e⟩ := ob_some e
  exact ⟨x, e⟩
mutual
theorem exP_len (C : CallsP) : ∀ s : Sm, KeepL (exP C s)
  | .pass => fun σ σ' w w' fl e => by cases e; rfl
  | .ex _ => fun σ σ' w w' fl e => by obtain ⟨_, _, e⟩ := pb_ex e; cases e; rfl
  | .set _ _ => fun σ σ' w w' fl e => by obtain ⟨_, _, e⟩ := pb_ex e; cases e; exact List.length_set
  | .par _ _ => fun σ σ' w w' fl e => by obtain ⟨_, _, e⟩ := pb_ex e; obtain ⟨_, e1, e⟩ := ob_some e; cases e; exact setAllP_len e1
  | .asg _ _ => fun σ σ' w w' fl e => by obtain ⟨_, _, e⟩ := pb_ex e; obtain ⟨_, e1, e⟩ := ob_some e; cases e; exact bindP_len e1
  | .setsub _ _ _ => fun σ σ' w w' fl e => by cases e
  | .parsub _ _ _ _ _ => fun σ σ' w w' fl e => by cases e
  | .aug _ _ _ => fun σ σ' w w' fl e => by obtain ⟨_, e⟩ := ob_ex e; obtain ⟨_, _, e⟩ := pb_ex e; obtain ⟨_, e⟩ := ob_ex e; cases e; exact List.length_set
  | .ite _ a b => fun σ σ' w w' fl e => by
    obtain ⟨_, _, e⟩ := pb_ex e
    obtain ⟨t, _, e⟩ := pf_some e
    cases t with
    | true => rw [if_pos rfl] at e; exact exPs_len C a _ _ _ _ _ e
    | false => rw [if_neg (by decide)] at e; exact exPs_len C b _ _ _ _ _ e
  | .for tg _ _ _ x => fun σ σ' w w' fl e => by
    obtain ⟨its, _, e⟩ := pb_ex e
    exact forP_len (fun v {σ σ' w w' fl} e => by
      obtain ⟨_, e1, e⟩ := ob_some e
      exact (exPs_len C x _ _ _ _ _ e).trans (bindPv_len e1)) its _ _ _ _ _ e
  | .while _ x => fun σ σ' w w' fl e => whP_len (exPs_len C x) whMost _ _ _ _ _ e
  | .ret _ => fun σ σ' w w' fl e => by obtain ⟨_, _, e⟩ := pb_ex e; cases e; rfl
  | .retn => fun σ σ' w w' fl e => by cases e; rfl
  | .raise => fun σ σ' w w' fl e => by cases e
  | .brk => fun σ σ' w w' fl e => by cases e; rfl
  | .cnt => fun σ σ' w w' fl e => by cases e; rfl
  | .mut1 _ _ _ => fun σ σ' w w' fl e => by obtain ⟨_, _, e⟩ := pb_ex e; obtain ⟨_, e⟩ := ob_ex e; obtain ⟨_, e⟩ := ob_ex e; cases e; exact List.length_set
  | .mut2 _ _ _ _ => fun σ σ' w w' fl e => by obtain ⟨_, _, e⟩ := pb_ex e; obtain ⟨_, _, e⟩ := pb_ex e; obtain ⟨_, e⟩ := ob_ex e; obtain ⟨_, e⟩ := ob_ex e; obtain ⟨_, e⟩ := ob_ex e; obtain ⟨_, e⟩ := ob_ex e; cases e; exact List.length_set
  | .st1 i _ _ => fun σ σ' w w' fl e => by
    obtain ⟨v, w1, e⟩ := pb_ex e
    obtain ⟨y, w2, e⟩ := pb_ex e
    obtain ⟨r, e1, e⟩ := ob_some e
    cases e
    obtain ⟨d, _, e1⟩ := ob_some e1
    cases d with
    | pur => obtain ⟨_, e1⟩ := ob_ex e1; cases e1; rfl
    | lst _ => obtain ⟨_, e1⟩ := ob_ex e1; cases e1; exact List.length_set
    | _ => cases e1
  | .st2 _ _ _ _ => fun σ σ' w w' fl e => by obtain ⟨_, _, e⟩ := pb_ex e; obtain ⟨_, _, e⟩ := pb_ex e; obtain ⟨_, _, e⟩ := pb_ex e; obtain ⟨_, e⟩ := ob_ex e; obtain ⟨_, e⟩ := ob_ex e; obtain ⟨_, e⟩ := ob_ex e; obtain ⟨_, e⟩ := ob_ex e; cases e; exact List.length_set
  | .sw _ _ _ _ _ => fun σ σ' w w' fl e => by
    obtain ⟨us, _, e⟩ := pb_ex e
    split at e
    · obtain ⟨_, _, e⟩ := pb_ex e; obtain ⟨_, e⟩ := ob_ex e; obtain ⟨_, e⟩ := ob_ex e; obtain ⟨_, _, e⟩ := pb_ex e; obtain ⟨_, e⟩ := ob_ex e; obtain ⟨_, e⟩ := ob_ex e
      cases e
      rw [List.length_set, List.length_set]
    · cases e
  | .popto _ _ => fun σ σ' w w' fl e => by
    obtain ⟨d, e⟩ := ob_ex e
    split at e
    · split at e
      · cases e; rw [List.length_set, List.length_set]
      · cases e
    · cases e
  | .mv _ _ => fun σ σ' w w' fl e => by obtain ⟨_, e⟩ := ob_ex e; cases e; rw [List.length_set, List.length_set]
  | .mutv _ _ => fun σ σ' w w' fl e => by obtain ⟨_, e⟩ := ob_ex e; obtain ⟨_, e⟩ := ob_ex e; obtain ⟨_, e⟩ := ob_ex e; cases e; rw [List.length_set, List.length_set]
  | .spoil n s => fun σ σ' w w' fl e => by
    unfold exP at e
    split at e
    · obtain ⟨_, _, e⟩ := pb_ex e
      split at e
      · cases e; exact List.length_set
      · cases e
    · obtain ⟨_, _, e⟩ := pb_ex e
      split at e
      · cases e; rfl
      · cases e
    · obtain ⟨_, e⟩ := ob_ex e
      split at e
      · obtain ⟨_, e⟩ := ob_ex e
        cases e; exact List.length_set
      · cases e
    · obtain ⟨_, e⟩ := ob_ex e
      split at e
      · split at e
        · cases e; rw [List.length_set, List.length_set]
        · cases e
      · cases e
    · cases e
theorem exPs_len (C : CallsP) : ∀ s : Sms, KeepL (exPs C s)
  | .nil => fun σ σ' w w' fl e => by cases e; rfl
  | .cons s t => fun σ σ' w w' fl e => by
    rcases pbs_some e with ⟨σ1, w1, e1, e2⟩ | ⟨e1, _⟩
    · exact (exPs_len C t _ _ _ _ _ e2).trans (exP_len C s _ _ _ _ _ e1)
    · exact exP_len C s _ _ _ _ _ e1
end
/-- a state in which a purse alone is known -/
theorem pi_pur {pp : Option Nat} {h : Hm} {σh : Env} {w : PW} {nv p q : Nat} (hp : pp = some q) (hl : σh.length = nv) (hg : getE σh p = some (.ref q)) (pw : PWok pp w h) :
    PI pp h.n (fun _ => False) (fun _ => False) ((List.replicate nv none).set p (some .pu)) (fun _ => []) h σh ((List.replicate nv none).set p (some .pur)) w := by
  refine ⟨fun i k hk d hd => ?_, fun _ => .nil, fun _ _ _ z => (nomatch z), fun _ _ z => (nomatch z), fun a z => z.elim, pw, by simp [hl], Nat.le_refl _⟩
  rcases mk_set hk with ⟨rfl, e⟩ | ⟨_, e⟩
  · cases e
    rcases getP_set hd with ⟨_, _, e⟩ | ⟨hne, _⟩
    · cases e
      exact ⟨_, hg, rfl, rfl, q, hp, rfl⟩
    · exact absurd rfl hne
  · rw [mkO_rep] at e; cases e
theorem pi_none {h : Hm} {σh : Env} {nv : Nat} (hl : σh.length = nv) : PI none h.n (fun _ => False) (fun _ => False) (List.replicate nv none) (fun _ => []) h σh (List.replicate nv none) [] := by
  refine ⟨fun i k hk d hd => ?_, fun _ => .nil, fun _ _ _ z => (nomatch z), fun _ _ z => (nomatch z), fun a z => z.elim, fun p e => (by cases e), (by simp [hl]), Nat.le_refl _⟩
  rw [mkO_rep] at hk; cases hk
section
variable {Q Qp : Nat → Option Df} {rk : Nat → Sg} {k nv p : Nat} {body : Sms} {r J : Option Mks}
/-- the turns of a law -/
theorem law_loop (hs : ∀ i d, Qp i = some d → Q i = some d) (hQ : ∀ i d, Qp i = some d → chkDf rk d (rk i) = true) (hS : ∀ i d, Qp i = some d → (rk i).ret = .pu → SpShape rk d) (hp : p < nv)
    (cb : chkSs rk .sc body ((List.replicate nv none).set p (some .pu)) = some (r, J))
    (pb : ∀ w, Pw (2 ^ 60) w → ∃ fl σ' w', exPs (callP Qp k) body ((List.replicate nv none).set p (some .pur)) w = some (fl, σ', w') ∧ (fl = .nx ∨ fl = .ct))
    {h1 : Hm} {q : Nat} {us : List U} (hq : h1.get q = some (.lst us))
    (hu : ∀ l : Nat, l < us.length → ∃ p w, us[l]? = some (U.ref p) ∧ p ≠ q ∧ h1.get p = some (.lst (w.map .int)) ∧ Pw (2 ^ 60) w ∧ ∀ l' p', l < l' → us[l']? = some (U.ref p') → p < p') :
    ∀ (m i : Nat) (σ : Env) (h : Hm), i + m = us.length → σ.length = nv → h1.n ≤ h.n → h.get q = some (.lst us) → (∀ l p', i ≤ l → us[l]? = some (U.ref p') → h.get p' = h1.get p') →
      ∃ σ' h', forLoop (fun v σ h => ob (bindI h (.nm p) v σ) fun σ1 => exSs (callN Q k) body σ1 h) (.ls q) m i σ h = some (.nx, σ', h') ∧ σ'.length = nv ∧ h.n ≤ h'.n
  | 0, i, σ, h, hi, hl, hn, hg, hh => by
    refine ⟨σ, h, ?_, hl, Nat.le_refl _⟩
    have e : It.at h (.ls q) i = some none := by
      show (match rdL h (.ref q) with | some xs => some (xs[i]?.map Iv.one) | none => none) = _
      have : rdL h (.ref q) = some us := by unfold rdL; dsimp only; rw [hg]
      rw [this]
      dsimp only
      rw [List.getElem?_eq_none (by omega)]
      rfl
    unfold forLoop
    rw [e]; rfl
  | m + 1, i, σ, h, hi, hl, hn, hg, hh => by
    obtain ⟨pa, w, u1, u2, u3, u4, u5⟩ := hu i (by omega)
    have e : It.at h (.ls q) i = some (some (Iv.one (.ref pa))) := by
      show (match rdL h (.ref q) with | some xs => some (xs[i]?.map Iv.one) | none => none) = _
      have : rdL h (.ref q) = some us := by unfold rdL; dsimp only; rw [hg]
      rw [this]
      dsimp only
      rw [u1]
      rfl
    have hpa : h.get pa = some (.lst (w.map .int)) := (hh i pa (Nat.le_refl _) u1).trans u3
    obtain ⟨fl, σp', w', e2, hfl⟩ := pb w u4
    have I := pi_pur (pp := some pa) (h := h) (σh := σ.set p (some (.ref pa))) (w := w) (nv := nv) (p := p) rfl (by rw [List.length_set]; exact hl) (getE_set_eq (by omega)) fun x ex => by cases ex; exact hpa
    obtain ⟨fl', σ1, h2, e3, xs, q3⟩ := pso_all (C := callN Q k) (CP := callP Qp k) (rk := rk) (callP_ok hs hQ hS k) body I e2 cb
    have ln := exPs_len (callP Qp k) body _ _ _ _ _ e2
    rw [List.length_set, List.length_replicate] at ln
    have fin : (fl' = .nx ∨ fl' = .ct) ∧ σ1.length = nv := by
      rcases hfl with rfl | rfl
      · obtain ⟨q1, M, _, Z', F', _, I'⟩ := q3
        exact ⟨.inl q1, I'.ln.trans ln⟩
      · obtain ⟨q1, M, _, Z', F', _, I'⟩ := q3
        exact ⟨.inr q1, I'.ln.trans ln⟩
    have other : ∀ a, a < h.n → a ≠ pa → h2.get a = h.get a := fun a ha hne => xs.2.2 a ha fun z => hne (Option.some.inj z)
    obtain ⟨σ', h', e4, l4, n4⟩ := law_loop hs hQ hS hp cb pb hq hu m (i + 1) σ1 h2 (by omega) fin.2 (Nat.le_trans hn xs.1) (by rw [other q (Hm.get_lt hg) (fun z => u2 z.symm)]; exact hg) fun l p' hl' hup => by
      have hp' : pa < p' := u5 l p' (by omega) hup
      have hlt : l < us.length := (List.getElem?_eq_some_iff.mp hup).1
      obtain ⟨p2, w2, v1, _, v3, _⟩ := hu l hlt
      rw [v1] at hup
      cases hup
      rw [other p' (Nat.lt_of_lt_of_le (Hm.get_lt v3) hn) (by omega)]
      exact hh l p' (by omega) v1
    refine ⟨σ', h', ?_, l4, Nat.le_trans xs.1 n4⟩
    unfold forLoop
    rw [e]
    show bl (exSs (callN Q k) body (σ.set p (some (.ref pa))) h) _ = _
    rw [e3]
    rcases fin.1 with rfl | rfl <;> exact e4
/-- a law of the shape: for purse in _law_purses(script, few): body; rest -/
theorem law1 {iP iPs li k0 : Nat} {few : Int} {rest : Sms} {r2 J2 : Option Mks} (hs : ∀ i d, Qp i = some d → Q i = some d) (hQ : ∀ i d, Qp i = some d → chkDf rk d (rk i) = true) (hS : ∀ i d, Qp i = some d → (rk i).ret = .pu → SpShape rk d)
    (hL : Q li = some ⟨1, nv, .cons (.for (.nm p) .seq (.call iPs (.cons (.var 0) (.cons (.int few) .nil)) []) .non body) rest⟩) (hP : Q iP = some dPurse) (hPs : Q iPs = some (dPurses iP)) (hf : few ≤ 63) (hp : p < nv)
    (cb : chkSs rk .sc body ((List.replicate nv none).set p (some .pu)) = some (r, J)) (cr : chkSs rk .sc rest (List.replicate nv none) = some (r2, J2))
    (pb : ∀ w, Pw (2 ^ 60) w → ∃ fl σ' w', exPs (callP Qp (k0 + 2)) body ((List.replicate nv none).set p (some .pur)) w = some (fl, σ', w') ∧ (fl = .nx ∨ fl = .ct))
    (pr : ∃ σ' w', exPs (callP Qp (k0 + 2)) rest (List.replicate nv none) [] = some (.rt (.bl true), σ', w')) (ns : List Int) :
    ∃ h1, callN Q (k0 + 3) li [.ref 0] (heap0 ns) = some (.bl true, h1) := by
  have g0 : (heap0 ns).get 0 = some (.ro (ns.map .int)) := Hm.get_push_self ⟨0, .lf⟩ _
  obtain ⟨us, h1, q, e1, hq, n1, _, hu⟩ := purses_ok (k := k0) hP hPs g0 few hf
  let env : Env := startE ⟨1, nv, .cons (.for (.nm p) .seq (.call iPs (.cons (.var 0) (.cons (.int few) .nil)) []) .non body) rest⟩ [.ref 0]
  have lenv : env.length = nv := by
    show ([some (U.ref 0)] ++ List.replicate (nv - 1) none).length = nv
    simp; omega
  obtain ⟨σ1, h2, e2, l2, n2⟩ := law_loop (k := k0 + 2) hs hQ hS hp cb pb hq hu us.length 0 env h1 (by omega) lenv (Nat.le_refl _) hq fun _ _ _ _ => rfl
  obtain ⟨σ', w', e3⟩ := pr
  obtain ⟨fl', σ3, h3, e4, xs, u, rfl, pw, Zr, fp, rr, ll⟩ := pso_all (C := callN Q (k0 + 2)) (CP := callP Qp (k0 + 2)) (rk := rk) (callP_ok hs hQ hS (k0 + 2)) rest (pi_none (h := h2) l2) e3 cr
  have hu : u = .bl true := (rr.1 : scaP (.bl true) = some u) |> fun z => (Option.some.inj z).symm
  subst hu
  refine ⟨h3, ?_⟩
  show (match Q li with | some d => runD (callN Q (k0 + 2)) d [.ref 0] (heap0 ns) | none => none) = _
  rw [hL]
  show runD (callN Q (k0 + 2)) _ [.ref 0] (heap0 ns) = _
  unfold runD
  refine (if_pos rfl).trans ?_
  have ee : exSs (callN Q (k0 + 2)) (.cons (.for (.nm p) .seq (.call iPs (.cons (.var 0) (.cons (.int few) .nil)) []) .non body) rest) env (heap0 ns) = some (.rt (.bl true), σ3, h3) := by
    show bs (bd (bd (evEs (callN Q (k0 + 2)) (.cons (.var 0) (.cons (.int few) .nil)) env (heap0 ns)) fun us h1 => callN Q (k0 + 2) iPs (us ++ []) h1) fun x h1 => bd (some (U.non, h1)) fun y h2 => ob (mkIt h2 .seq x y) fun it =>
      forLoop (fun v σ h => ob (bindI h (.nm p) v σ) fun σ1 => exSs (callN Q (k0 + 2)) body σ1 h) it (it.cnt h2) 0 env h2) _ = _
    have e5 : evEs (callN Q (k0 + 2)) (.cons (.var 0) (.cons (.int few) .nil)) env (heap0 ns) = some ([.ref 0, .int few], heap0 ns) := rfl
    rw [bd_eq e5]
    show bs (bd (callN Q (k0 + 2) iPs [.ref 0, .int few] (heap0 ns)) _) _ = _
    rw [bd_eq e1]
    have e6 : mkIt h1 .seq (.ref q) .non = some (.ls q) := by
      show itSeq h1 (.ref q) = _
      unfold itSeq
      dsimp only
      rw [hq]
    show bs (ob (mkIt h1 .seq (.ref q) .non) _) _ = _
    rw [ob_eq e6]
    have e7 : (It.ls q).cnt h1 = us.length := by
      show cntL h1 q = _
      unfold cntL rdS
      dsimp only
      rw [hq]
    rw [e7, e2]
    exact e4
  show (match exSs (callN Q (k0 + 2)) _ env (heap0 ns) with | some (.rt u, _, h1) => some (u, h1) | some (.nx, _, h1) => some (U.non, h1) | _ => none) = _
  rw [ee]
end
/-! ### signatures, found -/
def cands : List Kd := [.sc, .own 9, .own 4, .own 3, .own 2, .own 1, .own 0]
def sgOf (L : List (Option Sg)) (i : Nat) : Sg := match L[i]? with
  | some (some g) => g
  | _ => ⟨.sc, []⟩
/-- does it look like one that spoils -/
def looksSp (d : Df) : Bool := match d.body with
  | .cons (.ite (.isi (.var 0) .dict) (.cons (.for _ _ _ _ _) (.cons (.st1 0 _ _) .nil)) .nil) _ => decide (d.np = 1 ∧ d.ns = 3)
  | .cons (.ite (.isi (.var 0) .list) (.cons (.for _ .seq (.var 0) .non _) (.cons (.mut1 .append 0 _) .nil)) .nil) .nil => decide (d.np = 1 ∧ d.ns = 2)
  | _ => false
def bestK (L : List (Option Sg)) (d : Df) (pus : List Bool) : List Kd → Option Sg
  | [] => if looksSp d then some ⟨.pu, pus⟩ else none
  | k :: r => if chkDf (sgOf (L ++ [some ⟨k, pus⟩])) d ⟨k, pus⟩ then some ⟨k, pus⟩ else bestK L d pus r
def infer : List (Df × List Bool) → List (Option Sg) → List (Option Sg)
  | [], L => L
  | (d, pus) :: r, L => infer r (L ++ [bestK L d pus cands])
def bestK2 (L : List (Option Sg)) (i : Nat) (d : Df) (pus : List Bool) : List Kd → Option Sg
  | [] => none
  | k :: r => if chkDf (sgOf (L.set i (some ⟨k, pus⟩))) d ⟨k, pus⟩ then some ⟨k, pus⟩ else bestK2 L i d pus r
/-- once more, for those that call what stands behind them -/
def infer2 : Nat → List (Df × List Bool) → List (Option Sg) → List (Option Sg)
  | _, [], L => L
  | i, (d, pus) :: r, L => infer2 (i + 1) r (match L[i]? with
    | some (some _) => L
    | _ => L.set i (bestK2 L i d pus cands))
def maskQ (Q : Nat → Option Df) (L : List (Option Sg)) : Nat → Option Df := fun i => match L[i]? with
  | some (some _) => Q i
  | _ => none
def chkAll (rk : Nat → Sg) (L : List (Option Sg)) : Nat → List Df → Bool
  | _, [] => true
  | i, d :: r => (match L[i]? with
    | some (some _) => chkDf rk d (rk i)
    | _ => true) && chkAll rk L (i + 1) r
theorem maskQ_sub {Q : Nat → Option Df} {L : List (Option Sg)} : ∀ i d, maskQ Q L i = some d → Q i = some d := fun i d e => by
  unfold maskQ at e
  split at e
  · exact e
  · cases e
theorem chkAll_get {rk : Nat → Sg} {L : List (Option Sg)} : ∀ {ds : List Df} {n : Nat}, chkAll rk L n ds = true → ∀ i d, ds[i]? = some d → (∃ g, L[n + i]? = some (some g)) → chkDf rk d (rk (n + i)) = true
  | [], _, _, i, d, e, _ => by simp at e
  | x :: r, n, h, 0, d, e, ⟨g, hg⟩ => by
    simp at e
    subst e
    unfold chkAll at h
    rw [Bool.and_eq_true] at h
    have h1 := h.1
    rw [show n + 0 = n from rfl] at hg ⊢
    rw [hg] at h1
    exact h1
  | x :: r, n, h, i + 1, d, e, ⟨g, hg⟩ => by
    unfold chkAll at h
    rw [Bool.and_eq_true] at h
    have := chkAll_get h.2 i d (by simpa using e) ⟨g, by rw [show n + 1 + i = n + (i + 1) by omega]; exact hg⟩
    rwa [show n + 1 + i = n + (i + 1) by omega] at this
theorem maskQ_chk {Ds : List Dd} {L : List (Option Sg)} {rk : Nat → Sg} (h : chkAll rk L 0 (Ds.map (·.d)) = true) : ∀ i d, maskQ (qOf Ds) L i = some d → chkDf rk d (rk i) = true := fun i d e => by
  unfold maskQ at e
  split at e
  · rename_i g hg
    have := chkAll_get h i d (by rw [List.getElem?_map]; exact e) ⟨g, by rw [Nat.zero_add]; exact hg⟩
    rwa [Nat.zero_add] at this
  · cases e
/-! which defs spoil -/
def isSpu (o : Option Sg) : Bool := match o with
  | some g => decide (g.ret = .pu)
  | none => false
theorem sg_pu {L : List (Option Sg)} {i : Nat} (h : (sgOf L i).ret = .pu) : ∃ o, L[i]? = some o ∧ isSpu o = true := by
  unfold sgOf at h
  split at h
  · rename_i g hg
    exact ⟨_, hg, decide_eq_true h⟩
  · cases h
theorem sp_none {L : List (Option Sg)} {Qp : Nat → Option Df} (h : L.all (fun o => !isSpu o) = true) : ∀ i d, Qp i = some d → (sgOf L i).ret = .pu → SpShape (sgOf L) d := fun i d _ e => by
  obtain ⟨o, h1, h2⟩ := sg_pu e
  have := List.all_eq_true.mp h o (List.mem_of_getElem? h1)
  rw [h2] at this
  cases this
theorem sp_one {L : List (Option Sg)} {Qp : Nat → Option Df} (i0 : Nat) (h : (L.zipIdx.all fun p => !isSpu p.1 || decide (p.2 = i0)) = true) (hs : ∀ d, Qp i0 = some d → SpShape (sgOf L) d) : ∀ i d, Qp i = some d → (sgOf L i).ret = .pu → SpShape (sgOf L) d := fun i d hd e => by
  obtain ⟨o, h1, h2⟩ := sg_pu e
  have hm : (o, i) ∈ L.zipIdx := by
    rw [List.mem_zipIdx_iff_getElem?]
    exact h1
  have := List.all_eq_true.mp h (o, i) hm
  rw [h2] at this
  have hi : i = i0 := of_decide_eq_true (by simpa using this)
  subst hi
  exact hs d hd
end Mi

set_option maxRecDepth 100000
/-! Mi, part Q3: drawing. -/
namespace Mi
open PySem
def dMixed : Df := ⟨3, 4, .cons (.set 3 (.bin .add (.bin .mul (.var 0) (.int 69069)) (.bin .mul (.bin .mul (.int 104729) (.var 1)) (.var 1)))) (.cons (.set 3 (.bin .mod (.bi .int (.cons (.bin .add (.bin .add (.var 3) (.bin .mul (.int 7919) (.var 2))) (.var 1)) .nil)) (.int 2147483647))) (.cons (.set 3 (.bin .mod (.bi .int (.cons (.bin .add (.bin .mul (.var 3) (.var 3)) (.int 40503)) .nil)) (.int 2147483629))) (.cons (.ret (.bin .mod (.bi .int (.cons (.bin .mul (.var 3) (.int 48271)) .nil)) (.int 2147483587))) .nil)))⟩
def mixI (a b c : Int) : Int :=
  let x := (a * 69069 + 104729 * b * b + 7919 * c + b) % 2147483647
  ((x * x + 40503) % 2147483629 * 48271) % 2147483587
theorem mul_l {i j : Int} (h : i.natAbs < 2 ^ 64) : mulOk i j = true := by
  unfold mulOk
  rw [decide_eq_true h]; rfl
theorem mul_r {i j : Int} (h : j.natAbs < 2 ^ 64) : mulOk i j = true := by
  unfold mulOk
  rw [decide_eq_true h, Bool.or_true]; rfl
theorem mixed_ok {Qp : Nat → Option Df} {iM k : Nat} (hM : Qp iM = some dMixed) (a b c : Int) (hb : b.natAbs < 2 ^ 64) (w : PW) : callP Qp (k + 1) iM [.int a, .int b, .int c] w = some (.int (mixI a b c), w) := by
  have e1 : callP Qp (k + 1) iM [.int a, .int b, .int c] w = runP (callP Qp k) dMixed [.int a, .int b, .int c] w := by
    show (match Qp iM with | some d => runP (callP Qp k) d [.int a, .int b, .int c] w | none => none) = _
    rw [hM]
  have m1 : mulOk a 69069 = true := mul_r (by decide)
  have m2 : mulOk 104729 b = true := mul_l (by decide)
  have m3 : mulOk (104729 * b) b = true := mul_r hb
  have m4 : mulOk 7919 c = true := mul_l (by decide)
  have hx : ∀ y : Int, ((y % 2147483647).natAbs : Int) < 2147483647 := fun y => by
    have h1 := Int.emod_nonneg y (show (2147483647 : Int) ≠ 0 by decide)
    have h2 := Int.emod_lt_of_pos y (show (0 : Int) < 2147483647 by decide)
    omega
  have m5 : ∀ y : Int, mulOk (y % 2147483647) (y % 2147483647) = true := fun y => mul_l (by have := hx y; omega)
  have m6 : ∀ y : Int, mulOk y 48271 = true := fun y => mul_r (by decide)
  have p1 : (0 : Int) < 2147483647 := by decide
  have p2 : (0 : Int) < 2147483629 := by decide
  have p3 : (0 : Int) < 2147483587 := by decide
  rw [e1]
  simp only [runP, dMixed, startP, exPs, exP, evP, evPs, tCons, tSet, tRet, tNil, tK, cBin, cBi, cVar, cK, cCons, cNil, getP, pb, pbs, ob, List.length_cons, List.length_nil, List.map_cons, List.map_nil, List.replicate, List.cons_append, List.nil_append, List.getElem?_cons_zero, List.getElem?_cons_succ, List.set, binD, biD, m1, m2, m3, m4, m5, m6, p1, p2, p3, if_true, ite_true, Nat.reduceAdd, Nat.zero_add, Nat.reduceSub]
  rfl
theorem mix_lt (a b c : Int) : 0 ≤ mixI a b c ∧ mixI a b c < 2147483587 := ⟨Int.emod_nonneg _ (by decide), Int.emod_lt_of_pos _ (by decide)⟩
theorem exPs_cons (C : CallsP) (s : Sm) (r : Sms) (σ : PE) (w : PW) : exPs C (.cons s r) σ w = pbs (exP C s σ w) (exPs C r) := rfl
theorem pbs_nx {o : PS'} {k : PE → PW → PS'} {σ : PE} {w : PW} (h : o = some (.nx, σ, w)) : pbs o k = k σ w := by rw [h]; rfl
theorem pbs_rt {o : PS'} {k : PE → PW → PS'} {d : D} {σ : PE} {w : PW} (h : o = some (.rt d, σ, w)) : pbs o k = some (.rt d, σ, w) := by rw [h]; rfl
theorem exP_for {C : CallsP} {tg : Tn} {sk : Sk} {a b : Ex} {body : Sms} {σ : PE} {w w1 : PW} {its : List Pv} (h : walkP sk (evP C a) (evP C b) σ w = some (its, w1)) : exP C (.for tg sk a b body) σ w = forP (fun v σ w => ob (bindPv tg v σ) fun σ1 => exPs C body σ1 w) its σ w1 := by
  show tFor tg sk (evP C a) (evP C b) (exPs C body) σ w = _
  unfold tFor
  rw [h]; rfl
theorem items_rng1 {j : Int} {y : D} (h1 : -(2 ^ 62) ≤ j) (h2 : j < 2 ^ 62) : itemsD .rng1 (.int j) y = some (upR 0 j.toNat) := if_pos ⟨h1, h2⟩
theorem pb_eq {α β : Type} {o : Option (α × PW)} {k : α → PW → Option β} {x : α} {w : PW} (h : o = some (x, w)) : pb o k = k x w := by rw [h]; rfl
theorem walk_eq {sk : Sk} {a b : PX} {σ : PE} {w w1 w2 : PW} {x y : D} {its : List Pv} (h1 : a σ w = some (x, w1)) (h2 : b σ w1 = some (y, w2)) (h3 : itemsD sk x y = some its) : walkP sk a b σ w = some (its, w2) := by
  unfold walkP
  rw [pb_eq h1, pb_eq h2, h3]; rfl
def bDraw (iM : Nat) : Sms := .cons (.st1 0 (.int 2) (.bin .add (.sub (.var 0) (.int 2)) (.int 1))) (.cons (.set 2 (.bin .add (.bin .mul (.var 2) (.int 2147483587)) (.call iM (.cons (.sub (.var 0) (.int 1)) (.cons (.sub (.var 0) (.int 2)) (.cons (.sub (.var 0) (.int 3)) .nil))) []))) .nil)
def dDraw (iM : Nat) : Df := ⟨2, 5, .cons (.ite (.cmp .gt (.sub (.var 0) (.int 0)) (.int 0)) (.cons (.set 4 (.bin .mod (.bi .int (.cons (.sub (.var 0) (.int 0)) .nil)) (.var 1))) (.cons (.st1 0 (.int 0) (.bin .fdiv (.sub (.var 0) (.int 0)) (.var 1))) (.cons (.ret (.var 4)) .nil))) .nil) (.cons (.set 2 (.int 0)) (.cons (.for (.nm 3) .rng1 (.bin .add (.int 1) (.bin .fdiv (.meth .bitlen (.var 1) .nil) (.int 28))) .non (bDraw iM)) (.cons (.ret (.bin .mod (.bi .int (.cons (.var 2) .nil)) (.var 1))) .nil)))⟩
theorem at0 (b s t a : Int) : L2.atI [b, s, t, a] 0 = some b := rfl
theorem at1 (b s t a : Int) : L2.atI [b, s, t, a] 1 = some s := rfl
theorem at2 (b s t a : Int) : L2.atI [b, s, t, a] 2 = some t := rfl
theorem at3 (b s t a : Int) : L2.atI [b, s, t, a] 3 = some a := rfl
theorem ix40 : L2.ixN 4 0 = some 0 := rfl
theorem ix42 : L2.ixN 4 2 = some 2 := rfl
theorem draw_loop {Qp : Nat → Option Df} {iM k : Nat} (hM : Qp iM = some dMixed) (many : Int) (b s a : Int) : ∀ (n : Nat) (i : Int) (f t : Int) (x : Option D), 0 ≤ t → t + n < 2 ^ 63 →
    ∃ f' x', forP (fun v σ w => ob (bindPv (.nm 3) v σ) fun σ1 => exPs (callP Qp (k + 1)) (bDraw iM) σ1 w) (upR i n) [some .pur, some (.int many), some (.int f), x, none] [b, s, t, a] = some (.nx, [some .pur, some (.int many), some (.int f'), x', none], [b, s, t + n, a])
  | 0, i, f, t, x, h0, ht => ⟨f, x, by simp [upR, forP]⟩
  | n + 1, i, f, t, x, h0, ht => by
    obtain ⟨f', x', e⟩ := draw_loop hM many b s a n (i + 1) (f * 2147483587 + mixI s (t + 1) a) (t + 1) (some (.int i)) (by omega) (by omega)
    refine ⟨f', x', ?_⟩
    have m1 : mulOk f 2147483587 = true := mul_r (by decide)
    have mx := mixed_ok (k := k) hM s (t + 1) a (by omega)
    have hb : exPs (callP Qp (k + 1)) (bDraw iM) [some .pur, some (.int many), some (.int f), some (.int i), none] [b, s, t, a] = some (.nx, [some .pur, some (.int many), some (.int (f * 2147483587 + mixI s (t + 1) a)), some (.int i), none], [b, s, t + 1, a]) := by
      simp only [bDraw, exPs, exP, evP, evPs, tCons, tSet, tSt1, st1D, setW, tNil, tK, cBin, cCall, cSub, cVar, cK, cCons, cNil, getP, pb, pbs, ob, List.length_cons, List.length_nil, List.map_nil, List.append_nil, List.getElem?_cons_zero, List.getElem?_cons_succ, List.set, binD, subP, subW, at0, at1, at2, at3, ix40, ix42, m1, mx, if_true, ite_true, Nat.reduceAdd, Nat.zero_add]
    show pbl (ob (some [some .pur, some (.int many), some (.int f), some (.int i), none]) fun σ1 => exPs (callP Qp (k + 1)) (bDraw iM) σ1 [b, s, t, a]) _ = _
    show pbl (exPs (callP Qp (k + 1)) (bDraw iM) [some .pur, some (.int many), some (.int f), some (.int i), none] [b, s, t, a]) _ = _
    rw [hb]
    refine Eq.trans e ?_
    rw [show t + 1 + (n : Int) = t + ((n + 1 : Nat) : Int) by omega]
/-- a number is drawn -/
theorem draw_ok {Qp : Nat → Option Df} {iM iD k : Nat} (hM : Qp iM = some dMixed) (hD : Qp iD = some (dDraw iM)) {many : Int} (h1 : 1 ≤ many) (h2 : many < 2 ^ 100) {n : Nat} {w : PW} (pw : Pw (n + 8) w) :
    ∃ (z : Int) (w' : PW), callP Qp (k + 2) iD [.pur, .int many] w = some (.int z, w') ∧ 0 ≤ z ∧ z < many ∧ Pw n w' := by
  obtain ⟨b, s, t, a, rfl, hb0, hb1, hs0, hs1, ht0, ht1, ha0, ha1⟩ := pw.ex
  have e1 : callP Qp (k + 2) iD [.pur, .int many] [b, s, t, a] = runP (callP Qp (k + 1)) (dDraw iM) [.pur, .int many] [b, s, t, a] := by
    show (match Qp iD with | some d => runP (callP Qp (k + 1)) d [.pur, .int many] [b, s, t, a] | none => none) = _
    rw [hD]
  have hmp : 0 < many := by omega
  have lg : many.natAbs.log2 ≤ 100 := by
    have : many.natAbs < 2 ^ 101 := by omega
    have hne : many.natAbs ≠ 0 := by omega
    have := (Nat.log2_lt hne).mpr this
    omega
  have hdv : divOk many = true := by
    unfold divOk
    rw [decide_eq_true hmp, decide_eq_true (by omega : many.natAbs.log2 < 9000)]
    rfl
  rw [e1]
  by_cases hb : 0 < b
  · refine ⟨b % many, [b / many, s, t, a], ?_, Int.emod_nonneg _ (by omega), Int.emod_lt_of_pos _ hmp, ⟨_, _, _, _, rfl, Int.ediv_nonneg hb0 (by omega), Int.lt_of_le_of_lt (Int.ediv_le_self _ hb0) hb1, hs0, hs1, ht0, by omega, ha0, ha1⟩⟩
    have hd : decide (0 < b) = true := decide_eq_true hb
    simp only [runP, dDraw, startP, exPs, exP, evP, evPs, tCons, tIte, tSet, tRet, tSt1, st1D, setW, tNil, tK, cBin, cBi, cCmp, cSub, cVar, cK, cCons, cNil, getP, pb, pf, pbs, ob, List.length_cons, List.length_nil, List.map_cons, List.map_nil, List.replicate, List.cons_append, List.nil_append, List.getElem?_cons_zero, List.getElem?_cons_succ, List.set, binD, biD, cmpD, subP, subW, at0, at1, at2, at3, ix40, ix42, hd, hdv, hmp, if_true, ite_true, Nat.reduceAdd, Nat.zero_add, Nat.reduceSub]
  · have hd : decide (0 < b) = false := decide_eq_false hb
    have hbits : Builtin.Int.intBits many ≤ 101 := by
      unfold Builtin.Int.intBits
      split <;> omega
    have hj : (1 : Int) + (Builtin.Int.intBits many : Int) / 28 ≤ 5 := by omega
    have hj0 : (1 : Int) ≤ 1 + (Builtin.Int.intBits many : Int) / 28 := by omega
    obtain ⟨f', x', e⟩ := draw_loop (k := k) hM many b s a (1 + (Builtin.Int.intBits many : Int) / 28).toNat 0 0 t none ht0 (by omega)
    refine ⟨f' % many, [b, s, t + ((1 + (Builtin.Int.intBits many : Int) / 28).toNat : Int), a], ?_, Int.emod_nonneg _ (by omega), Int.emod_lt_of_pos _ hmp, ⟨_, _, _, _, rfl, hb0, hb1, hs0, hs1, by omega, by omega, ha0, ha1⟩⟩
    have d28 : divOk 28 = true := by decide +kernel
    have hr : -(2 ^ 62) ≤ (1 : Int) + (Builtin.Int.intBits many : Int) / 28 ∧ (1 : Int) + (Builtin.Int.intBits many : Int) / 28 < 2 ^ 62 := by constructor <;> omega
    have ea : evP (callP Qp (k + 1)) (.bin .add (.int 1) (.bin .fdiv (.meth .bitlen (.var 1) .nil) (.int 28))) [some .pur, some (.int many), some (.int 0), none, none] [b, s, t, a] = some (.int (1 + (Builtin.Int.intBits many : Int) / 28), [b, s, t, a]) := by
      simp only [evP, evPs, cBin, cMeth, cVar, cK, cNil, getP, pb, ob, List.getElem?_cons_zero, List.getElem?_cons_succ, meD, binD, d28, if_true, ite_true]
    have ew := walk_eq (sk := .rng1) (b := evP (callP Qp (k + 1)) .non) ea rfl (items_rng1 hr.1 hr.2)
    have ef := (exP_for (tg := .nm 3) (body := bDraw iM) ew).trans e
    have ei : exP (callP Qp (k + 1)) (.ite (.cmp .gt (.sub (.var 0) (.int 0)) (.int 0)) (.cons (.set 4 (.bin .mod (.bi .int (.cons (.sub (.var 0) (.int 0)) .nil)) (.var 1))) (.cons (.st1 0 (.int 0) (.bin .fdiv (.sub (.var 0) (.int 0)) (.var 1))) (.cons (.ret (.var 4)) .nil))) .nil) [some .pur, some (.int many), none, none, none] [b, s, t, a] = some (.nx, [some .pur, some (.int many), none, none, none], [b, s, t, a]) := by
      simp only [exPs, exP, evP, evPs, tIte, tNil, tK, cCmp, cSub, cVar, cK, getP, pb, pf, ob, List.getElem?_cons_zero, cmpD, subP, subW, at0, hd]
    have es : exP (callP Qp (k + 1)) (.set 2 (.int 0)) [some .pur, some (.int many), none, none, none] [b, s, t, a] = some (.nx, [some .pur, some (.int many), some (.int 0), none, none], [b, s, t, a]) := rfl
    have er : exP (callP Qp (k + 1)) (.ret (.bin .mod (.bi .int (.cons (.var 2) .nil)) (.var 1))) [some .pur, some (.int many), some (.int f'), x', none] [b, s, t + ((1 + (Builtin.Int.intBits many : Int) / 28).toNat : Int), a] = some (.rt (.int (f' % many)), [some .pur, some (.int many), some (.int f'), x', none], [b, s, t + ((1 + (Builtin.Int.intBits many : Int) / 28).toNat : Int), a]) := by
      simp only [exP, evP, evPs, tRet, cBin, cBi, cVar, cCons, cNil, getP, pb, ob, List.getElem?_cons_zero, List.getElem?_cons_succ, binD, biD, hmp, if_true, ite_true]
    have e0 : exPs (callP Qp (k + 1)) (dDraw iM).body (startP (dDraw iM) [.pur, .int many]) [b, s, t, a] = some (.rt (.int (f' % many)), [some .pur, some (.int many), some (.int f'), x', none], [b, s, t + ((1 + (Builtin.Int.intBits many : Int) / 28).toNat : Int), a]) := by
      refine (exPs_cons ..).trans ((pbs_nx ei).trans ?_)
      refine (exPs_cons ..).trans ((pbs_nx es).trans ?_)
      refine (exPs_cons ..).trans ((pbs_nx ef).trans ?_)
      exact (exPs_cons ..).trans (pbs_rt er)
    unfold runP
    rw [if_pos (by rfl), e0]
end Mi

set_option maxRecDepth 100000
/-! Mi, part S: how plain runs are shown step by step. -/
namespace Mi
open PySem
/-- what stands behind is not looked into -/
inductive Tg {α : Sort u} (k : α) : Type | mk
def pbF {α β : Type} (o : Option (α × PW)) (k : α → PW → Option β) (t : Tg k := .mk) : Option β := pb o k
def obF {α β : Type} (o : Option α) (k : α → Option β) (t : Tg k := .mk) : Option β := ob o k
def pfF {β : Type} (u : D) (p q : Option β) (t : Tg (p, q) := .mk) : Option β := pf u p q
def pbsF (o : PS') (k : PE → PW → PS') (t : Tg k := .mk) : PS' := pbs o k
section
variable {α β : Type} {C : CallsP} {σ : PE} {w w1 : PW} {o o' : Option (α × PW)}
theorem v_pb {x : α} {k : α → PW → Option β} : pbF (some (x, w)) k = k x w := Eq.trans rfl rfl
theorem v_ob {x : α} {k : α → Option β} : obF (some x) k = k x := Eq.trans rfl rfl
theorem v_pft {p q : Option β} : pfF (.bl true) p q = p := Eq.trans rfl rfl
theorem v_pff {p q : Option β} : pfF (.bl false) p q = q := Eq.trans rfl rfl
theorem v_pfd {P : Prop} [Decidable P] {p q : Option β} : pfF (.bl (decide P)) p q = if P then p else q := by by_cases h : P <;> simp [h, pf, pfF]
theorem v_pfn {P : Prop} [Decidable P] {p q : Option β} : pfF (.bl (!decide P)) p q = if P then q else p := by by_cases h : P <;> simp [h, pf, pfF]
theorem v_pbs {k : PE → PW → PS'} : pbsF (some (.nx, σ, w)) k = k σ w := Eq.trans rfl rfl
theorem v_pbs_rt {d : D} {k : PE → PW → PS'} : pbsF (some (.rt d, σ, w)) k = some (.rt d, σ, w) := Eq.trans rfl rfl
theorem v_pbs_bk {k : PE → PW → PS'} : pbsF (some (.bk, σ, w)) k = some (.bk, σ, w) := Eq.trans rfl rfl
theorem v_pbs_ct {k : PE → PW → PS'} : pbsF (some (.ct, σ, w)) k = some (.ct, σ, w) := Eq.trans rfl rfl
/-- the end of a def -/
def fin (o : PS') : PR := match o with
  | some (.rt u, _, w1) => some (u, w1)
  | some (.nx, _, w1) => some (.non, w1)
  | _ => none
theorem v_fin_rt {d : D} : fin (some (.rt d, σ, w)) = some (d, w) := Eq.trans rfl rfl
theorem v_fin_nx : fin (some (.nx, σ, w)) = some (.non, w) := Eq.trans rfl rfl
/-! terms -/
theorem v_var {i : Nat} : evP C (.var i) σ w = obF (getP σ i) fun d => some (d, w) := Eq.trans rfl rfl
theorem v_int {i : Int} : evP C (.int i) σ w = some (.int i, w) := Eq.trans rfl rfl
theorem v_bl {b : Bool} : evP C (.bl b) σ w = some (.bl b, w) := Eq.trans rfl rfl
theorem v_non : evP C .non σ w = some (.non, w) := Eq.trans rfl rfl
theorem v_str {s : Str} : evP C (.str s) σ w = some (.str s, w) := Eq.trans rfl rfl
theorem v_bin {op : Bop} {a b : Ex} : evP C (.bin op a b) σ w = pbF (evP C a σ w) fun x w1 => pbF (evP C b σ w1) fun y w2 => obF (binD op x y) fun d => some (d, w2) := Eq.trans rfl rfl
theorem v_neg {a : Ex} : evP C (.neg a) σ w = pbF (evP C a σ w) fun x w1 => obF (negD x) fun d => some (d, w1) := Eq.trans rfl rfl
theorem v_not {a : Ex} : evP C (.not a) σ w = pbF (evP C a σ w) fun x w1 => obF (notD x) fun d => some (d, w1) := Eq.trans rfl rfl
theorem v_and {a b : Ex} : evP C (.and a b) σ w = pbF (evP C a σ w) fun x w1 => pfF x (evP C b σ w1) (some (.bl false, w1)) := Eq.trans rfl rfl
theorem v_or {a b : Ex} : evP C (.or a b) σ w = pbF (evP C a σ w) fun x w1 => pfF x (some (.bl true, w1)) (evP C b σ w1) := Eq.trans rfl rfl
theorem v_ite {c a b : Ex} : evP C (.ite c a b) σ w = pbF (evP C c σ w) fun x w1 => pfF x (evP C a σ w1) (evP C b σ w1) := Eq.trans rfl rfl
theorem v_cmp {op : Cop} {a b : Ex} : evP C (.cmp op a b) σ w = pbF (evP C a σ w) fun x w1 => pbF (evP C b σ w1) fun y w2 => obF (cmpD op x y) fun r => some (.bl r, w2) := Eq.trans rfl rfl
theorem v_chain {op op' : Cop} {a b c : Ex} : evP C (.chain op op' a b c) σ w = pbF (evP C a σ w) fun x w1 => pbF (evP C b σ w1) fun y w2 => obF (cmpD op x y) fun r =>
  pfF (.bl r) (pbF (evP C c σ w2) fun z w3 => obF (cmpD op' y z) fun r => some (.bl r, w3)) (some (.bl false, w2)) := Eq.trans rfl rfl
theorem v_list {es : Exs} : evP C (.list es) σ w = pbF (evPs C es σ w) fun us w1 => obF (newLD us) fun d => some (d, w1) := Eq.trans rfl rfl
theorem v_tup {es : Exs} : evP C (.tup es) σ w = pbF (evPs C es σ w) fun us w1 => obF (newTD us) fun d => some (d, w1) := Eq.trans rfl rfl
theorem v_sub {a i : Ex} : evP C (.sub a i) σ w = pbF (evP C a σ w) fun x w1 => pbF (evP C i σ w1) fun y w2 => obF (subP w2 x y) fun u => some (u, w2) := Eq.trans rfl rfl
theorem v_slice {a lo hi : Ex} {fl fh : Bool} : evP C (.slice a fl fh lo hi) σ w = pbF (evP C a σ w) fun x w1 => pbF (evP C lo σ w1) fun l w2 => pbF (evP C hi σ w2) fun r w3 => obF (sliceD x fl fh l r) fun d => some (d, w3) := Eq.trans rfl rfl
theorem v_rev {a : Ex} : evP C (.rev a) σ w = pbF (evP C a σ w) fun x w1 => obF (rdLD x) fun xs => some (.lst xs.reverse, w1) := Eq.trans rfl rfl
theorem v_call {f : Nat} {es : Exs} {dv : List U} : evP C (.call f es dv) σ w = pbF (evPs C es σ w) fun us w1 => C f (us ++ dv.map dOf) w1 := Eq.trans rfl rfl
theorem v_callk {f sh : Nat} {es ks : Exs} {pm : List Nat} : evP C (.callk f es ks sh pm) σ w = pbF (evPs C es σ w) fun us w1 => pbF (evPs C ks σ w1) fun ws w2 => C f (pm.map fun i => (us ++ ws).getD i .non) w2 := Eq.trans rfl rfl
theorem v_bi {b : Bi} {es : Exs} : evP C (.bi b es) σ w = pbF (evPs C es σ w) fun us w1 => obF (biD b us) fun d => some (d, w1) := Eq.trans rfl rfl
theorem v_isi {a : Ex} {t : Ty} : evP C (.isi a t) σ w = pbF (evP C a σ w) fun x w1 => obF (isTyD x t) fun r => some (.bl r, w1) := Eq.trans rfl rfl
theorem v_isi2 {a : Ex} {ts : List Ty} : evP C (.isi2 a ts) σ w = pbF (evP C a σ w) fun x w1 => obF (isTysD x ts) fun r => some (.bl r, w1) := Eq.trans rfl rfl
theorem v_meth {m : Me} {a : Ex} {es : Exs} : evP C (.meth m a es) σ w = pbF (evP C a σ w) fun x w1 => pbF (evPs C es σ w1) fun us w2 => obF (meD m x us) fun d => some (d, w2) := Eq.trans rfl rfl
theorem v_lrng {a : Ex} : evP C (.lrng a) σ w = pbF (evP C a σ w) fun x w1 => obF (lrD x) fun d => some (d, w1) := Eq.trans rfl rfl
/-- a turn of a comprehension -/
def turnC (C : CallsP) (own : List Nat) (tg : Tn) (c e : Ex) (σ : PE) (v : Pv) (w : PW) : Option (List D × PW) := turnP own tg σ (evP C c) (eltP (evP C e)) v w
theorem v_turn {own : List Nat} {tg : Tn} {c e : Ex} {v : Pv} : turnC C own tg c e σ v w = obF (bindPv tg v (wipeP σ own)) fun σ1 => pbF (evP C c σ1 w) fun c w1 => pfF c (pbF (evP C e σ1 w1) fun z w1 => some ([z], w1)) (some ([], w1)) := Eq.trans rfl rfl
theorem v_lc {own : List Nat} {tg : Tn} {sk : Sk} {a b c e : Ex} : evP C (.lc own tg sk a b c e) σ w = pbF (evP C a σ w) fun x w1 => pbF (evP C b σ w1) fun y w2 => obF (itemsD sk x y) fun it =>
    pbF (lcP (turnC C own tg c e σ) it w2) fun zs w3 => obF (newLD zs) fun d => some (d, w3) := by
  show pb (pb (evP C a σ w) fun x w1 => pb (evP C b σ w1) fun y w2 => ob (itemsD sk x y) fun it => some (it, w2)) _ = _
  cases evP C a σ w with
  | none => rfl
  | some q =>
    show pb (pb (evP C b σ q.2) fun y w2 => ob (itemsD sk q.1 y) fun it => some (it, w2)) _ = pb (evP C b σ q.2) _
    cases evP C b σ q.2 with
    | none => rfl
    | some q' =>
      show pb (ob (itemsD sk q.1 q'.1) fun it => some (it, q'.2)) _ = ob (itemsD sk q.1 q'.1) _
      cases itemsD sk q.1 q'.1 <;> rfl
/-- the outer turn of a double comprehension -/
def turnC2 (C : CallsP) (own vs : List Nat) (tg : Tn) (c : Ex) (tg1 : Tn) (sk1 : Sk) (a1 b1 c1 e : Ex) (σ : PE) (v : Pv) (w : PW) : Option (List D × PW) :=
  turnP own tg σ (evP C c) (fun σ1 w2 => pb (walkP sk1 (evP C a1) (evP C b1) σ1 w2) fun it1 w3 => lcP (turnC C vs tg1 c1 e σ1) it1 w3) v w
theorem v_turn2 {own vs : List Nat} {tg : Tn} {c : Ex} {tg1 : Tn} {sk1 : Sk} {a1 b1 c1 e : Ex} {v : Pv} : turnC2 C own vs tg c tg1 sk1 a1 b1 c1 e σ v w = obF (bindPv tg v (wipeP σ own)) fun σ1 => pbF (evP C c σ1 w) fun c w1 => pfF c
    (pb (evP C a1 σ1 w1) fun x w1 => pb (evP C b1 σ1 w1) fun y w2 => ob (itemsD sk1 x y) fun it => lcP (turnC C vs tg1 c1 e σ1) it w2) (some ([], w1)) := by
  have key : ∀ σ1 w1, pb (walkP sk1 (evP C a1) (evP C b1) σ1 w1) (fun it1 w3 => lcP (turnC C vs tg1 c1 e σ1) it1 w3) = pb (evP C a1 σ1 w1) fun x w1 => pb (evP C b1 σ1 w1) fun y w2 => ob (itemsD sk1 x y) fun it => lcP (turnC C vs tg1 c1 e σ1) it w2 := by
    intro σ1 w1
    show pb (pb (evP C a1 σ1 w1) fun x w1 => pb (evP C b1 σ1 w1) fun y w2 => ob (itemsD sk1 x y) fun it => some (it, w2)) _ = _
    cases evP C a1 σ1 w1 with
    | none => rfl
    | some q =>
      show pb (pb (evP C b1 σ1 q.2) fun y w2 => ob (itemsD sk1 q.1 y) fun it => some (it, w2)) _ = pb (evP C b1 σ1 q.2) _
      cases evP C b1 σ1 q.2 with
      | none => rfl
      | some q' =>
        show pb (ob (itemsD sk1 q.1 q'.1) fun it => some (it, q'.2)) _ = ob (itemsD sk1 q.1 q'.1) _
        cases itemsD sk1 q.1 q'.1 <;> rfl
  unfold turnC2 turnP
  simp only [key]
  rfl
theorem v_lc2 {own vs : List Nat} {tg : Tn} {sk : Sk} {a b c : Ex} {tg1 : Tn} {sk1 : Sk} {a1 b1 c1 e : Ex} : evP C (.lc2 own vs tg sk a b c tg1 sk1 a1 b1 c1 e) σ w = pbF (evP C a σ w) fun x w1 => pbF (evP C b σ w1) fun y w2 => obF (itemsD sk x y) fun it =>
    pbF (lcP (turnC2 C own vs tg c tg1 sk1 a1 b1 c1 e σ) it w2) fun zs w3 => obF (newLD zs) fun d => some (d, w3) := by
  show pb (pb (evP C a σ w) fun x w1 => pb (evP C b σ w1) fun y w2 => ob (itemsD sk x y) fun it => some (it, w2)) _ = _
  cases evP C a σ w with
  | none => rfl
  | some q =>
    show pb (pb (evP C b σ q.2) fun y w2 => ob (itemsD sk q.1 y) fun it => some (it, w2)) _ = pb (evP C b σ q.2) _
    cases evP C b σ q.2 with
    | none => rfl
    | some q' =>
      show pb (ob (itemsD sk q.1 q'.1) fun it => some (it, q'.2)) _ = ob (itemsD sk q.1 q'.1) _
      cases itemsD sk q.1 q'.1 <;> rfl
theorem v_nil : evPs C .nil σ w = some ([], w) := Eq.trans rfl rfl
theorem v_cons {e : Ex} {es : Exs} : evPs C (.cons e es) σ w = pbF (evP C e σ w) fun u w1 => pbF (evPs C es σ w1) fun us w2 => some (u :: us, w2) := Eq.trans rfl rfl
/-! statements -/
theorem v_Nil : exPs C .nil σ w = some (.nx, σ, w) := Eq.trans rfl rfl
theorem v_Cons {s : Sm} {r : Sms} : exPs C (.cons s r) σ w = pbsF (exP C s σ w) (exPs C r) := Eq.trans rfl rfl
theorem v_pass : exP C .pass σ w = some (.nx, σ, w) := Eq.trans rfl rfl
theorem v_ex {e : Ex} : exP C (.ex e) σ w = pbF (evP C e σ w) fun _ w1 => some (.nx, σ, w1) := Eq.trans rfl rfl
theorem v_set {i : Nat} {e : Ex} : exP C (.set i e) σ w = pbF (evP C e σ w) fun u w1 => some (.nx, σ.set i (some u), w1) := Eq.trans rfl rfl
theorem v_setF {n i : Nat} {e : Ex} : exP C (.spoil n (.set i e)) σ w = pbF (evP C e σ w) fun d w1 => if hgt d ≤ n then some (.nx, σ.set i (some d), w1) else none := Eq.trans rfl rfl
theorem v_retF {n : Nat} {e : Ex} : exP C (.spoil n (.ret e)) σ w = pbF (evP C e σ w) fun d w1 => if hgt d ≤ n then some (.rt d, σ, w1) else none := Eq.trans rfl rfl
theorem v_par {is : List Nat} {es : Exs} : exP C (.par is es) σ w = pbF (evPs C es σ w) fun us w1 => obF (setAllP is us σ) fun σ1 => some (.nx, σ1, w1) := Eq.trans rfl rfl
theorem v_asg {t : Tn} {e : Ex} : exP C (.asg t e) σ w = pbF (evP C e σ w) fun u w1 => obF (bindP t u σ) fun σ1 => some (.nx, σ1, w1) := Eq.trans rfl rfl
theorem v_aug {i : Nat} {op : Bop} {e : Ex} : exP C (.aug i op e) σ w = obF (getP σ i) fun x => pbF (evP C e σ w) fun y w1 => obF (augD op x y) fun z => some (.nx, σ.set i (some z), w1) := Eq.trans rfl rfl
theorem v_Ite {c : Ex} {a b : Sms} : exP C (.ite c a b) σ w = pbF (evP C c σ w) fun x w1 => pfF x (exPs C a σ w1) (exPs C b σ w1) := Eq.trans rfl rfl
/-- a turn of a loop -/
def bodyF (C : CallsP) (tg : Tn) (body : Sms) (v : Pv) (σ : PE) (w : PW) : PS' := ob (bindPv tg v σ) fun σ1 => exPs C body σ1 w
theorem v_body {tg : Tn} {body : Sms} {v : Pv} : bodyF C tg body v σ w = obF (bindPv tg v σ) fun σ1 => exPs C body σ1 w := Eq.trans rfl rfl
theorem v_for {tg : Tn} {sk : Sk} {a b : Ex} {body : Sms} : exP C (.for tg sk a b body) σ w = pbF (evP C a σ w) fun x w1 => pbF (evP C b σ w1) fun y w2 => obF (itemsD sk x y) fun it => forP (bodyF C tg body) it σ w2 := by
  show pb (pb (evP C a σ w) fun x w1 => pb (evP C b σ w1) fun y w2 => ob (itemsD sk x y) fun it => some (it, w2)) _ = _
  cases evP C a σ w with
  | none => rfl
  | some q =>
    show pb (pb (evP C b σ q.2) fun y w2 => ob (itemsD sk q.1 y) fun it => some (it, w2)) _ = pb (evP C b σ q.2) _
    cases evP C b σ q.2 with
    | none => rfl
    | some q' =>
      show pb (ob (itemsD sk q.1 q'.1) fun it => some (it, q'.2)) _ = ob (itemsD sk q.1 q'.1) _
      cases itemsD sk q.1 q'.1 <;> rfl
/-- a while, its parts apart -/
def whF (C : CallsP) (c : Ex) (body : Sms) : Nat → PSt := whP (evP C c) (exPs C body)
theorem v_while {c : Ex} {body : Sms} : exP C (.while c body) σ w = whF C c body whMost σ w := Eq.trans rfl rfl
theorem whF_succ {c : Ex} {body : Sms} {k : Nat} : whF C c body (k + 1) σ w = pb (evP C c σ w) fun x w1 => pf x (pbl (exPs C body σ w1) fun σ1 w2 => whF C c body k σ1 w2) (some (.nx, σ, w1)) := Eq.trans rfl rfl
theorem v_ret {e : Ex} : exP C (.ret e) σ w = pbF (evP C e σ w) fun u w1 => some (.rt u, σ, w1) := Eq.trans rfl rfl
theorem v_retn : exP C .retn σ w = some (.rt .non, σ, w) := Eq.trans rfl rfl
theorem v_brk : exP C .brk σ w = some (.bk, σ, w) := Eq.trans rfl rfl
theorem v_cnt : exP C .cnt σ w = some (.ct, σ, w) := Eq.trans rfl rfl
theorem v_mut1 {m : Me} {i : Nat} {es : Exs} : exP C (.mut1 m i es) σ w = pbF (evPs C es σ w) fun us w1 => obF (getP σ i) fun d => obF (mutD m d us) fun d' => some (.nx, σ.set i (some d'), w1) := Eq.trans rfl rfl
theorem v_mut2 {m : Me} {i : Nat} {a : Ex} {es : Exs} : exP C (.mut2 m i a es) σ w = pbF (evP C a σ w) fun y w1 => pbF (evPs C es σ w1) fun us w2 => obF (getP σ i) fun d => obF (subD d y) fun c => obF (mutD m c us) fun c' => obF (setD d y c') fun d' => some (.nx, σ.set i (some d'), w2) := Eq.trans rfl rfl
theorem v_st1 {i : Nat} {a e : Ex} : exP C (.st1 i a e) σ w = pbF (evP C e σ w) fun v w1 => pbF (evP C a σ w1) fun y w2 => obF (st1D σ w2 i y v) fun r => some (.nx, r.1, r.2) := Eq.trans rfl rfl
theorem v_sw {i j : Nat} {a b : Ex} {e1 e2 : Ex} : exP C (.sw i a j b (.cons e1 (.cons e2 .nil))) σ w = pbF (evP C e1 σ w) fun u w1 => pbF (evP C e2 σ w1) fun v w1 =>
    pbF (evP C a σ w1) fun y w2 => obF (getP σ i) fun d => obF (setD d y u) fun d' => pbF (evP C b (σ.set i (some d')) w2) fun z w3 => obF (getP (σ.set i (some d')) j) fun e => obF (setD e z v) fun e' => some (.nx, (σ.set i (some d')).set j (some e'), w3) := by
  show pb (pb (evP C e1 σ w) fun u w1 => pb (pb (evP C e2 σ w1) fun u w1 => pb (some ([], w1)) fun us w2 => some (u :: us, w2)) fun us w2 => some (u :: us, w2)) _ = _
  cases evP C e1 σ w with
  | none => rfl
  | some q =>
    show pb (pb (pb (evP C e2 σ q.2) _) _) _ = pb (evP C e2 σ q.2) _
    cases evP C e2 σ q.2 <;> rfl
theorem v_mv {i j : Nat} : exP C (.mv i j) σ w = obF (getP σ j) fun d => some (.nx, (σ.set j none).set i (some d), w) := Eq.trans rfl rfl
theorem v_mutv {i j : Nat} : exP C (.mutv i j) σ w = obF (getP σ j) fun u => obF (getP (σ.set j none) i) fun d => obF (mutD .append d [u]) fun d' => some (.nx, (σ.set j none).set i (some d'), w) := Eq.trans rfl rfl
/-! slots -/
theorem v_get0 {d : D} {r : PE} : getP (some d :: r) 0 = some d := Eq.trans rfl rfl
theorem v_getS {x : Option D} {r : PE} {i : Nat} : getP (x :: r) (i + 1) = getP r i := Eq.trans rfl rfl
theorem v_set0 {x y : Option D} {r : PE} : (x :: r).set 0 y = y :: r := Eq.trans rfl rfl
theorem v_setS {x y : Option D} {r : PE} {i : Nat} : (x :: r).set (i + 1) y = x :: r.set i y := Eq.trans rfl rfl
theorem v_one {t : Tn} {u : D} : bindPv t (.one u) σ = bindP t u σ := Eq.trans rfl rfl
theorem v_two {a b : Tn} {u v : D} : bindPv (.tp2 a b) (.two u v) σ = obF (bindP a u σ) fun σ1 => bindP b v σ1 := by
  show (match bindP a u σ with | some σ1 => bindP b v σ1 | none => none) = ob (bindP a u σ) _
  cases bindP a u σ <;> rfl
theorem v_nm {i : Nat} {u : D} : bindP (.nm i) u σ = some (σ.set i (some u)) := Eq.trans rfl rfl
theorem v_tp2t {a b : Tn} {x y : D} : bindP (.tp2 a b) (.tup [x, y]) σ = obF (bindP a x σ) fun σ1 => bindP b y σ1 := by
  show (match bindP a x σ with | some σ1 => bindP b y σ1 | none => none) = ob (bindP a x σ) _
  cases bindP a x σ <;> rfl
theorem v_tp2l {a b : Tn} {x y : D} : bindP (.tp2 a b) (.lst [x, y]) σ = obF (bindP a x σ) fun σ1 => bindP b y σ1 := by
  show (match bindP a x σ with | some σ1 => bindP b y σ1 | none => none) = ob (bindP a x σ) _
  cases bindP a x σ <;> rfl
theorem v_tp3t {a b c : Tn} {x y z : D} : bindP (.tp3 a b c) (.tup [x, y, z]) σ = obF (bindP a x σ) fun σ1 => obF (bindP b y σ1) fun σ2 => bindP c z σ2 := by
  show (match bindP a x σ with | some σ1 => (match bindP b y σ1 with | some σ2 => bindP c z σ2 | none => none) | none => none) = ob (bindP a x σ) _
  cases bindP a x σ with
  | none => rfl
  | some σ1 =>
    show (match bindP b y σ1 with | some σ2 => bindP c z σ2 | none => none) = ob (bindP b y σ1) _
    cases bindP b y σ1 <;> rfl
theorem v_wipe0 : wipeP σ [] = σ := Eq.trans rfl rfl
theorem v_wipeS {i : Nat} {r : List Nat} : wipeP σ (i :: r) = (wipeP σ r).set i none := Eq.trans rfl rfl
theorem v_all0 : setAllP [] [] σ = some σ := Eq.trans rfl rfl
theorem v_allS {i : Nat} {is : List Nat} {u : D} {us : List D} : setAllP (i :: is) (u :: us) σ = setAllP is us (σ.set i (some u)) := Eq.trans rfl rfl
/-! operations -/
theorem d_add {i j : Int} : binD .add (.int i) (.int j) = some (.int (i + j)) := Eq.trans rfl rfl
theorem d_sub {i j : Int} : binD .sub (.int i) (.int j) = some (.int (i - j)) := Eq.trans rfl rfl
theorem d_mul {i j : Int} : binD .mul (.int i) (.int j) = if mulOk i j then some (.int (i * j)) else none := Eq.trans rfl rfl
theorem d_div {i j : Int} : binD .fdiv (.int i) (.int j) = if divOk j then some (.int (i / j)) else none := Eq.trans rfl rfl
theorem d_mod {i j : Int} : binD .mod (.int i) (.int j) = if 0 < j then some (.int (i % j)) else none := Eq.trans rfl rfl
theorem d_pow {i j : Int} : binD .pow (.int i) (.int j) = if powOk i j then some (.int (i ^ j.toNat)) else none := Eq.trans rfl rfl
theorem d_app {xs ys : List D} : binD .add (.lst xs) (.lst ys) = newLD (xs ++ ys) := Eq.trans rfl rfl
theorem d_rep {xs : List D} {k : Int} : binD .mul (.lst xs) (.int k) = if repOk xs.length k then some (.lst (List.replicate k.toNat xs).flatten) else none := Eq.trans rfl rfl
theorem d_lt {i j : Int} : cmpD .lt (.int i) (.int j) = some (decide (i < j)) := Eq.trans rfl rfl
theorem d_le {i j : Int} : cmpD .le (.int i) (.int j) = some (decide (i ≤ j)) := Eq.trans rfl rfl
theorem d_gt {i j : Int} : cmpD .gt (.int i) (.int j) = some (decide (j < i)) := Eq.trans rfl rfl
theorem d_ge {i j : Int} : cmpD .ge (.int i) (.int j) = some (decide (j ≤ i)) := Eq.trans rfl rfl
theorem d_eqi {i j : Int} : cmpD .eq (.int i) (.int j) = some (decide (i = j)) := by
  show eqU h00 (.int i) (.int j) = _
  unfold eqU
  rw [if_pos (show sc (.int i) (.int j) = true from rfl)]
  by_cases h : i = j
  · subst h; simp
  · rw [decide_eq_false h, decide_eq_false fun e => h (by cases e; rfl)]
theorem d_nei {i j : Int} : cmpD .ne (.int i) (.int j) = some (!decide (i = j)) := by
  show notO (cmpD .eq (.int i) (.int j)) = _
  rw [d_eqi]; rfl
theorem d_is {u : D} : cmpD .is u .non = some (isNonD u) := Eq.trans rfl rfl
theorem d_isn {u : D} : cmpD .isn u .non = some (!isNonD u) := Eq.trans rfl rfl
theorem d_eq {u v : D} : cmpD .eq u v = eqD u v := Eq.trans rfl rfl
theorem d_ne {u v : D} : cmpD .ne u v = notO (eqD u v) := Eq.trans rfl rfl
theorem d_in {u v : D} : cmpD .isin u v = inD u v := Eq.trans rfl rfl
theorem d_nin {u v : D} : cmpD .nin u v = notO (inD u v) := Eq.trans rfl rfl
theorem d_notb {b : Bool} : notD (.bl b) = some (.bl (!b)) := Eq.trans rfl rfl
theorem d_negi {i : Int} : negD (.int i) = some (.int (-i)) := Eq.trans rfl rfl
theorem d_notO {b : Bool} : notO (some b) = some (!b) := Eq.trans rfl rfl
theorem d_len {xs : List D} : biD .len [.lst xs] = some (.int xs.length) := Eq.trans rfl rfl
theorem d_lenT {xs : List D} : biD .len [.tup xs] = some (.int xs.length) := Eq.trans rfl rfl
theorem intsD_map : ∀ l : List Int, intsD (l.map D.int) = some l
  | [] => rfl
  | i :: r => by
    show (match intsD (r.map D.int) with | some l => some (i :: l) | none => none) = _
    rw [intsD_map r]
theorem boolsD_map : ∀ l : List Bool, boolsD (l.map D.bl) = some l
  | [] => rfl
  | i :: r => by
    show (match boolsD (r.map D.bl) with | some l => some (i :: l) | none => none) = _
    rw [boolsD_map r]
theorem d_sum {l : List Int} : biD .sum [.lst (l.map D.int)] = some (.int l.sum) := by
  show (match intsD (l.map D.int) with | none => none | some l => some (D.int l.sum)) = _
  rw [intsD_map]
theorem d_all {l : List Bool} : biD .all [.lst (l.map D.bl)] = some (.bl (l.all id)) := by
  show (match boolsD (l.map D.bl) with | none => none | some l => some (D.bl (l.all id))) = _
  rw [boolsD_map]
theorem d_any {l : List Bool} : biD .any [.lst (l.map D.bl)] = some (.bl (l.any id)) := by
  show (match boolsD (l.map D.bl) with | none => none | some l => some (D.bl (l.any id))) = _
  rw [boolsD_map]
theorem d_min2 {i j : Int} : biD .min2 [.int i, .int j] = some (.int (min i j)) := by
  show some (D.int (if j < i then j else i)) = _
  congr 2; omega
theorem d_max2 {i j : Int} : biD .max2 [.int i, .int j] = some (.int (max i j)) := by
  show some (D.int (if j > i then j else i)) = _
  congr 2; omega
theorem d_inti {i : Int} : biD .int [.int i] = some (.int i) := Eq.trans rfl rfl
theorem d_intb {b : Bool} : biD .int [.bl b] = some (.int (if b then 1 else 0)) := Eq.trans rfl rfl
theorem d_listl {xs : List D} : biD .list [.lst xs] = some (.lst xs) := Eq.trans rfl rfl
theorem d_listt {xs : List D} : biD .list [.tup xs] = some (.lst xs) := Eq.trans rfl rfl
theorem d_tuple {xs : List D} : biD .tuple [.lst xs] = some (.tup xs) := Eq.trans rfl rfl
theorem d_max1 {l : List Int} (h : l ≠ []) : biD .max1 [.lst (l.map D.int)] = some (.int (maxI l)) := by
  show (match intsD (l.map D.int) with | none => none | some l => if l = [] then none else some (D.int (maxI l))) = _
  rw [intsD_map]; exact if_neg h
theorem d_min1 {l : List Int} (h : l ≠ []) : biD .min1 [.lst (l.map D.int)] = some (.int (minI l)) := by
  show (match intsD (l.map D.int) with | none => none | some l => if l = [] then none else some (D.int (minI l))) = _
  rw [intsD_map]; exact if_neg h
theorem d_new {xs : List D} (h : xs.length ≤ sizeLine) : newLD xs = some (.lst xs) := if_pos h
theorem d_newT {xs : List D} (h : xs.length ≤ sizeLine) : newTD xs = some (.tup xs) := if_pos h
theorem d_new0 : newLD [] = some (.lst []) := Eq.trans rfl rfl
theorem d_new1 {a : D} : newLD [a] = some (.lst [a]) := d_new (show 1 ≤ sizeLine by decide)
theorem d_new2 {a b : D} : newLD [a, b] = some (.lst [a, b]) := d_new (show 2 ≤ sizeLine by decide)
theorem d_new3 {a b c : D} : newLD [a, b, c] = some (.lst [a, b, c]) := d_new (show 3 ≤ sizeLine by decide)
theorem d_new4 {a b c d : D} : newLD [a, b, c, d] = some (.lst [a, b, c, d]) := d_new (show 4 ≤ sizeLine by decide)
theorem d_new5 {a b c d e : D} : newLD [a, b, c, d, e] = some (.lst [a, b, c, d, e]) := d_new (show 5 ≤ sizeLine by decide)
theorem d_new6 {a b c d e f : D} : newLD [a, b, c, d, e, f] = some (.lst [a, b, c, d, e, f]) := d_new (show 6 ≤ sizeLine by decide)
theorem d_newT2 {a b : D} : newTD [a, b] = some (.tup [a, b]) := d_newT (show 2 ≤ sizeLine by decide)
theorem d_newT3 {a b c : D} : newTD [a, b, c] = some (.tup [a, b, c]) := d_newT (show 3 ≤ sizeLine by decide)
theorem d_newT4 {a b c d : D} : newTD [a, b, c, d] = some (.tup [a, b, c, d]) := d_newT (show 4 ≤ sizeLine by decide)
theorem d_newm {α : Type} {l : List α} {f : α → D} (h : l.length ≤ sizeLine) : newLD (l.map f) = some (.lst (l.map f)) := d_new (by rw [List.length_map]; exact h)
theorem d_append {xs : List D} {u : D} (h : xs.length < sizeLine) : mutD .append (.lst xs) [u] = some (.lst (xs ++ [u])) := if_pos h
theorem d_subL {xs : List D} {k : Int} : subP w (.lst xs) (.int k) = L2.atI xs k := Eq.trans rfl rfl
theorem d_subT {xs : List D} {k : Int} : subP w (.tup xs) (.int k) = L2.atI xs k := Eq.trans rfl rfl
theorem d_sub0 {x : D} {xs : List D} : L2.atI (x :: xs) 0 = some x := by
  unfold L2.atI L2.ixN; simp
theorem ixN_nat {n i : Nat} (h : i < n) : L2.ixN n (i : Int) = some i := by
  unfold L2.ixN; simp [h]
theorem atI_nat {α : Type} {xs : List α} {i : Nat} {x : α} (h : xs[i]? = some x) : L2.atI xs (i : Int) = some x := by
  have hl : i < xs.length := (List.getElem?_eq_some_iff.mp h).1
  unfold L2.atI
  rw [ixN_nat hl]; exact h
theorem atI_natD {α : Type} {xs : List α} {i : Nat} (d : α) (h : i < xs.length) : L2.atI xs (i : Int) = some (xs.getD i d) := atI_nat (by rw [List.getD_eq_getElem?_getD, List.getElem?_eq_getElem h]; rfl)
theorem st1_l {i : Nat} {xs : List D} {k : Nat} {v : D} (h : getP σ i = some (.lst xs)) (hk : k < xs.length) : st1D σ w i (.int (k : Int)) v = some (σ.set i (some (.lst (xs.set k v))), w) := by
  unfold st1D
  rw [h]
  show ob (match L2.ixN xs.length (k : Int) with | some j => some (D.lst (xs.set j v)) | none => none) _ = _
  rw [ixN_nat hk]; rfl
theorem setD_l {xs : List D} {k : Nat} {v : D} (hk : k < xs.length) : setD (.lst xs) (.int (k : Int)) v = some (.lst (xs.set k v)) := by
  show (match L2.ixN xs.length (k : Int) with | some j => some (D.lst (xs.set j v)) | none => none) = _
  rw [ixN_nat hk]
/-! what is walked -/
theorem i_seq {xs : List D} {y : D} : itemsD .seq (.lst xs) y = some (xs.map Pv.one) := Eq.trans rfl rfl
theorem i_seqT {xs : List D} {y : D} : itemsD .seq (.tup xs) y = some (xs.map Pv.one) := Eq.trans rfl rfl
theorem upR_range : ∀ (n : Nat) (i : Int), upR i n = (List.range n).map fun j : Nat => .one (.int (i + j))
  | 0, _ => rfl
  | n + 1, i => by
    rw [List.range_succ_eq_map]
    show Pv.one (.int i) :: upR (i + 1) n = _
    rw [upR_range n (i + 1)]
    simp only [List.map_cons, List.map_map]
    congr 1
    · simp
    · refine List.map_congr_left fun j _ => ?_
      simp only [Function.comp]
      congr 2; omega
theorem i_rng {n : Nat} {y : D} (h : n < 2 ^ 62) : itemsD .rng1 (.int (n : Int)) y = some ((List.range n).map fun j : Nat => .one (.int (j : Int))) := by
  rw [items_rng1 (by omega) (by omega), Int.toNat_natCast, upR_range]
  simp
theorem i_rng2 {a b : Int} (h1 : -(2 ^ 62) ≤ a) (h2 : a < 2 ^ 62) (h3 : -(2 ^ 62) ≤ b) (h4 : b < 2 ^ 62) : itemsD .rng2 (.int a) (.int b) = some ((List.range (b - a).toNat).map fun j : Nat => .one (.int (a + (j : Int)))) := by
  exact (if_pos ⟨h1, h2, h3, h4⟩).trans (congrArg some (upR_range _ _))
theorem enumD_zip : ∀ (xs : List D) (i : Nat), enumD i xs = (xs.zipIdx i).map fun p => .two (.int (p.2 : Int)) p.1
  | [], _ => rfl
  | x :: xs, i => by
    show Pv.two (.int i) x :: enumD (i + 1) xs = _
    rw [enumD_zip xs (i + 1)]; rfl
theorem i_enum {xs : List D} {y : D} : itemsD .enum (.lst xs) y = some ((xs.zipIdx).map fun p => .two (.int (p.2 : Int)) p.1) := by
  show some (enumD 0 xs) = _
  rw [enumD_zip]
theorem two_zip : ∀ (xs ys : List D), two xs ys = (xs.zip ys).map fun p => .two p.1 p.2
  | [], ys => rfl
  | x :: xs, [] => rfl
  | x :: xs, y :: ys => by
    show Pv.two x y :: two xs ys = _
    rw [two_zip xs ys]; rfl
theorem i_zip {xs ys : List D} : itemsD .zip (.lst xs) (.lst ys) = some ((xs.zip ys).map fun p => .two p.1 p.2) := by
  show some (two xs ys) = _
  rw [two_zip]
theorem i_zipT {xs ys : List D} : itemsD .zip (.tup xs) (.tup ys) = some ((xs.zip ys).map fun p => .two p.1 p.2) := by
  show some (two xs ys) = _
  rw [two_zip]
theorem i_rev {xs : List D} {y : D} : itemsD .rev (.lst xs) y = some (xs.reverse.map Pv.one) := Eq.trans rfl rfl
/-! loops -/
theorem forP_inv {f : Pv → PE → PW → PS'} {enc : α → Pv} (Inv : List α → PE → PW → Prop) (step : ∀ a r σ w, Inv (a :: r) σ w → ∃ σ' w', f (enc a) σ w = some (.nx, σ', w') ∧ Inv r σ' w') :
    ∀ (l : List α) (σ : PE) (w : PW), Inv l σ w → ∃ σ' w', forP f (l.map enc) σ w = some (.nx, σ', w') ∧ Inv [] σ' w'
  | [], σ, w, h => ⟨σ, w, rfl, h⟩
  | a :: r, σ, w, h => by
    obtain ⟨σ1, w1, e1, h1⟩ := step a r σ w h
    obtain ⟨σ2, w2, e2, h2⟩ := forP_inv Inv step r σ1 w1 h1
    refine ⟨σ2, w2, ?_, h2⟩
    show pbl (f (enc a) σ w) _ = _
    rw [e1]; exact e2
/-- a loop that may return -/
theorem forP_ret {f : Pv → PE → PW → PS'} {enc : α → Pv} (Inv : List α → PE → PW → Prop) (Ret : D → PW → Prop)
    (step : ∀ a r σ w, Inv (a :: r) σ w → (∃ σ' w', (f (enc a) σ w = some (.nx, σ', w') ∨ f (enc a) σ w = some (.ct, σ', w')) ∧ Inv r σ' w') ∨ ∃ d σ' w', f (enc a) σ w = some (.rt d, σ', w') ∧ Ret d w') :
    ∀ (l : List α) (σ : PE) (w : PW), Inv l σ w → (∃ σ' w', forP f (l.map enc) σ w = some (.nx, σ', w') ∧ Inv [] σ' w') ∨ ∃ d σ' w', forP f (l.map enc) σ w = some (.rt d, σ', w') ∧ Ret d w'
  | [], σ, w, h => .inl ⟨σ, w, rfl, h⟩
  | a :: r, σ, w, h => by
    rcases step a r σ w h with ⟨σ1, w1, e1, h1⟩ | ⟨d, σ1, w1, e1, h1⟩
    · have es : ∀ {x}, forP f (r.map enc) σ1 w1 = x → forP f ((a :: r).map enc) σ w = x := fun {x} e2 => by
        show pbl (f (enc a) σ w) _ = _
        rcases e1 with e1 | e1 <;> (rw [e1]; exact e2)
      rcases forP_ret Inv Ret step r σ1 w1 h1 with ⟨σ2, w2, e2, h2⟩ | ⟨d, σ2, w2, e2, h2⟩
      · exact .inl ⟨σ2, w2, es e2, h2⟩
      · exact .inr ⟨d, σ2, w2, es e2, h2⟩
    · refine .inr ⟨d, σ1, w1, ?_, h1⟩
      show pbl (f (enc a) σ w) _ = _
      rw [e1]; rfl
/-- a state that is folded -/
theorem forP_fold {f : Pv → PE → PW → PS'} {enc : α → Pv} {S : Type} (E : S → PE) (g : S → α → S) (P : List α → S → Prop) (step : ∀ a r s, P (a :: r) s → f (enc a) (E s) w = some (.nx, E (g s a), w) ∧ P r (g s a)) :
    ∀ (l : List α) (s : S), P l s → forP f (l.map enc) (E s) w = some (.nx, E (l.foldl g s), w)
  | [], s, h => rfl
  | a :: r, s, h => by
    obtain ⟨e1, h1⟩ := step a r s h
    show pbl (f (enc a) (E s) w) _ = _
    rw [e1]
    exact forP_fold E g P step r (g s a) h1
theorem lcP_map {f : Pv → PW → Option (List D × PW)} {enc : α → Pv} (g : α → D) : ∀ (l : List α), (∀ a ∈ l, f (enc a) w = some ([g a], w)) → lcP f (l.map enc) w = some (l.map g, w)
  | [], _ => rfl
  | a :: r, h => by
    show pb (f (enc a) w) _ = _
    rw [h a (List.mem_cons_self ..)]
    show pb (lcP f (r.map enc) w) _ = _
    rw [lcP_map g r fun b hb => h b (List.mem_cons_of_mem _ hb)]
    rfl
theorem lcP_flat {f : Pv → PW → Option (List D × PW)} {enc : α → Pv} (g : α → List D) : ∀ (l : List α), (∀ a ∈ l, f (enc a) w = some (g a, w)) → lcP f (l.map enc) w = some (l.flatMap g, w)
  | [], _ => rfl
  | a :: r, h => by
    show pb (f (enc a) w) _ = _
    rw [h a (List.mem_cons_self ..)]
    show pb (lcP f (r.map enc) w) _ = _
    rw [lcP_flat g r fun b hb => h b (List.mem_cons_of_mem _ hb)]
    rfl
theorem lcP_filter {f : Pv → PW → Option (List D × PW)} {enc : α → Pv} (p : α → Bool) (g : α → D) : ∀ (l : List α), (∀ a ∈ l, f (enc a) w = some (if p a then [g a] else [], w)) → lcP f (l.map enc) w = some ((l.filter p).map g, w)
  | [], _ => rfl
  | a :: r, h => by
    show pb (f (enc a) w) _ = _
    rw [h a (List.mem_cons_self ..)]
    show pb (lcP f (r.map enc) w) _ = _
    rw [lcP_filter p g r fun b hb => h b (List.mem_cons_of_mem _ hb)]
    cases hp : p a <;> simp [pb, hp]
end
theorem hgts_ints : ∀ l : List Int, hgts (l.map D.int) = 0
  | [] => rfl
  | i :: r => by
    show max (hgt (D.int i)) (hgts (r.map D.int)) = 0
    rw [hgts_ints r]; rfl
theorem hgt_ints (l : List Int) : hgt (.lst (l.map D.int)) ≤ 1 := by
  show hgts (l.map D.int) + 1 ≤ 1
  rw [hgts_ints]; exact Nat.le_refl _
theorem callP_at {Q : Nat → Option Df} {k j : Nat} {d : Df} {us : List D} {w : PW} (h : Q j = some d) : callP Q (k + 1) j us w = runP (callP Q k) d us w := by
  show (match Q j with | some d => runP (callP Q k) d us w | none => none) = _
  rw [h]
theorem runP_fin {C : CallsP} {d : Df} {us : List D} {w : PW} (h : us.length = d.np) : runP C d us w = fin (exPs C d.body (startP d us) w) := by
  unfold runP
  rw [if_pos h]; rfl
theorem eq_cast {i j : Nat} : ((i : Int) = (j : Int)) = (i = j) := propext Int.ofNat_inj
end Mi

set_option maxRecDepth 100000
/-! Mi, part T: equality of plain data; lists of numbers; binomials. -/
namespace Mi
open PySem
mutual
def dg : D → Bool
  | .str s => PyData.strOk s
  | .pur => false
  | .lst xs => dgs xs
  | .tup xs => dgs xs
  | _ => true
def dgs : List D → Bool
  | [] => true
  | x :: r => dg x && dgs r
end
mutual
theorem lay_py : ∀ {d : D}, dg d = true → (py d).canLay0 = true
  | .non, _ => rfl
  | .bl _, _ => rfl
  | .int _, _ => rfl
  | .str _, h => h
  | .pur, h => by cases h
  | .lst xs, h => lay_pys (ds := xs) h
  | .tup xs, h => lay_pys (ds := xs) h
theorem lay_pys : ∀ {ds : List D}, dgs ds = true → PyData.canLayAll0 (pys ds) = true
  | [], _ => rfl
  | x :: r, h => by
    have h : (dg x && dgs r) = true := h
    rw [Bool.and_eq_true] at h
    show (PyData.canLay0 (py x) && PyData.canLayAll0 (pys r)) = true
    rw [lay_py h.1, lay_pys h.2]; rfl
end
mutual
theorem dep_py : ∀ d : D, (py d).depth ≤ hgt d
  | .non => Nat.zero_le _
  | .bl _ => Nat.zero_le _
  | .int _ => Nat.zero_le _
  | .str _ => Nat.zero_le _
  | .pur => Nat.zero_le _
  | .lst xs => Nat.succ_le_succ (dep_pys xs)
  | .tup xs => Nat.succ_le_succ (dep_pys xs)
theorem dep_pys : ∀ ds : List D, PyData.depthAll (pys ds) ≤ hgts ds
  | [] => Nat.zero_le _
  | x :: r => by
    have h1 := dep_py x
    have h2 := dep_pys r
    show max (PyData.depth (py x)) (PyData.depthAll (pys r)) ≤ max (hgt x) (hgts r)
    omega
end
theorem shaped_py {d : D} (h : dg d = true) (hh : hgt d ≤ 64) : SeqAt.shaped (py d) = true := by
  unfold SeqAt.shaped
  rw [lay_py h, decide_eq_true (Nat.le_trans (dep_py d) hh)]; rfl
mutual
theorem eqv_refl : ∀ d : D, PyData.eqv (py d) (py d) = true
  | .non => rfl
  | .bl b => by cases b <;> rfl
  | .int i => by show (i == i) = true; simp
  | .str s => by show (s == s) = true; simp
  | .pur => rfl
  | .lst xs => eqvs_refl xs
  | .tup xs => eqvs_refl xs
theorem eqvs_refl : ∀ ds : List D, PyData.eqvAll (pys ds) (pys ds) = true
  | [] => rfl
  | x :: r => by
    show (PyData.eqv (py x) (py x) && PyData.eqvAll (pys r) (pys r)) = true
    rw [eqv_refl x, eqvs_refl r]; rfl
end
theorem eqD_good {d e : D} (hd : dg d = true) (he : dg e = true) (h1 : hgt d ≤ 64) (h2 : hgt e ≤ 64) (hs : scaP d = none ∨ scaP e = none) : eqD d e = some (PyData.eqv (py d) (py e)) := by
  have key : deepEq d e = some (PyData.eqv (py d) (py e)) := by
    unfold deepEq
    rw [if_pos ⟨h1, h2, by rw [shaped_py hd h1, shaped_py he h2]; rfl⟩]
  unfold eqD
  split
  · rename_i u v e1 e2
    rcases hs with h | h
    · rw [h] at e1; cases e1
    · rw [h] at e2; cases e2
  · exact key
theorem eqD_refl {d : D} (hd : dg d = true) (h1 : hgt d ≤ 64) : eqD d d = some true := by
  cases hs : scaP d with
  | none => rw [eqD_good hd hd h1 h1 (.inl hs), eqv_refl]
  | some u =>
    unfold eqD
    rw [hs]
    show eqU h00 u u = some true
    have : sc u u = true := by
      cases d <;> cases hs <;> rfl
    unfold eqU
    rw [if_pos this]
    simp
/-- values that stand for things of a type -/
structure Fa {α : Type} [DecidableEq α] (f : α → D) (n : Nat) : Prop where
  g : ∀ a, dg (f a) = true
  h : ∀ a, hgt (f a) ≤ n
  e : ∀ a b, PyData.eqv (py (f a)) (py (f b)) = decide (a = b)
theorem Fa.int : Fa D.int 0 := ⟨fun _ => rfl, fun _ => Nat.le_refl _, fun a b => by show (a == b) = _; by_cases h : a = b <;> simp [h]⟩
theorem Fa.bl : Fa D.bl 0 := ⟨fun _ => rfl, fun _ => Nat.le_refl _, fun a b => by cases a <;> cases b <;> rfl⟩
section
variable {α : Type} [DecidableEq α] {f : α → D} {n : Nat}
theorem Fa.dgs (F : Fa f n) : ∀ l : List α, Mi.dgs (l.map f) = true
  | [] => rfl
  | a :: r => by
    show (dg (f a) && Mi.dgs (r.map f)) = true
    rw [F.g, F.dgs r]; rfl
theorem Fa.hgts (F : Fa f n) : ∀ l : List α, Mi.hgts (l.map f) ≤ n
  | [] => Nat.zero_le _
  | a :: r => by
    have h1 := F.h a
    have h2 := F.hgts r
    show max (hgt (f a)) (Mi.hgts (r.map f)) ≤ n
    omega
theorem Fa.eqs (F : Fa f n) : ∀ l m : List α, PyData.eqvAll (pys (l.map f)) (pys (m.map f)) = decide (l = m)
  | [], [] => rfl
  | [], b :: s => rfl
  | a :: r, [] => rfl
  | a :: r, b :: s => by
    show (PyData.eqv (py (f a)) (py (f b)) && PyData.eqvAll (pys (r.map f)) (pys (s.map f))) = _
    rw [F.e, F.eqs r s]
    by_cases h1 : a = b <;> by_cases h2 : r = s <;> simp [h1, h2]
theorem Fa.list (F : Fa f n) : Fa (fun l : List α => D.lst (l.map f)) (n + 1) :=
  ⟨fun l => F.dgs l, fun l => Nat.succ_le_succ (F.hgts l), fun l m => F.eqs l m⟩
theorem Fa.tuple (F : Fa f n) : Fa (fun l : List α => D.tup (l.map f)) (n + 1) :=
  ⟨fun l => F.dgs l, fun l => Nat.succ_le_succ (F.hgts l), fun l m => F.eqs l m⟩
theorem Fa.eq (F : Fa f n) (hn : n < 64) (l m : List α) : cmpD .eq (.lst (l.map f)) (.lst (m.map f)) = some (decide (l = m)) := by
  rw [d_eq, eqD_good (d := .lst (l.map f)) (e := .lst (m.map f)) (F.dgs l) (F.dgs m) (Nat.le_trans (Nat.succ_le_succ (F.hgts l)) hn) (Nat.le_trans (Nat.succ_le_succ (F.hgts m)) hn) (.inl rfl)]
  exact congrArg some (F.eqs l m)
theorem Fa.ne (F : Fa f n) (hn : n < 64) (l m : List α) : cmpD .ne (.lst (l.map f)) (.lst (m.map f)) = some (!decide (l = m)) := by
  rw [d_ne, ← d_eq, F.eq hn]; rfl
end
theorem d_eqI {l m : List Int} : cmpD .eq (.lst (l.map D.int)) (.lst (m.map D.int)) = some (decide (l = m)) := Fa.int.eq (by decide) l m
theorem d_neI {l m : List Int} : cmpD .ne (.lst (l.map D.int)) (.lst (m.map D.int)) = some (!decide (l = m)) := Fa.int.ne (by decide) l m
theorem d_eqI0 {l : List Int} : cmpD .eq (.lst (l.map D.int)) (.lst []) = some (decide (l = [])) := Fa.int.eq (by decide) l []
theorem d_neI0 {l : List Int} : cmpD .ne (.lst (l.map D.int)) (.lst []) = some (!decide (l = [])) := Fa.int.ne (by decide) l []
theorem d_eqrefl {d : D} (hd : dg d = true) (h1 : hgt d ≤ 64) : cmpD .eq d d = some true := eqD_refl hd h1
theorem d_eqbb {a b : Bool} : cmpD .eq (.bl a) (.bl b) = some (decide (a = b)) := by cases a <;> cases b <;> rfl
theorem d_nebb {a b : Bool} : cmpD .ne (.bl a) (.bl b) = some (!decide (a = b)) := by cases a <;> cases b <;> rfl
/-! in -/
theorem scas_map : ∀ l : List Int, scas (l.map D.int) = some (l.map U.int)
  | [] => rfl
  | i :: r => by
    show (match scas (r.map D.int) with | some us => some (U.int i :: us) | none => none) = _
    rw [scas_map r]; rfl
theorem any_int (i : Int) : ∀ l : List Int, ((l.map U.int).any fun z => eqF z (.int i)) = decide (i ∈ l)
  | [] => by simp
  | j :: r => by
    rw [List.map_cons, List.any_cons, any_int i r]
    show (j == i || _) = _
    by_cases h : i = j
    · subst h; simp
    · have h' : ¬ j = i := fun e => h e.symm
      simp [h, h']
theorem d_inI {i : Int} {l : List Int} : cmpD .isin (.int i) (.lst (l.map D.int)) = some (decide (i ∈ l)) := by
  show (match scaP (.int i), scas (l.map D.int) with | some u, some us => some (us.any fun z => eqF z u) | _, _ => deepIn2 _ _) = _
  rw [scas_map]
  exact congrArg some (any_int i l)
theorem d_ninI {i : Int} {l : List Int} : cmpD .nin (.int i) (.lst (l.map D.int)) = some (!decide (i ∈ l)) := by
  rw [d_nin, ← d_in, d_inI]; rfl
/-! numbers or None -/
def oI : Option Int → D
  | none => .non
  | some i => .int i
def oU : Option Int → U
  | none => .non
  | some i => .int i
theorem scas_oI : ∀ l : List (Option Int), scas (l.map oI) = some (l.map oU)
  | [] => rfl
  | none :: r => by
    show (match scas (r.map oI) with | some us => some (U.non :: us) | none => none) = _
    rw [scas_oI r]; rfl
  | some i :: r => by
    show (match scas (r.map oI) with | some us => some (U.int i :: us) | none => none) = _
    rw [scas_oI r]; rfl
theorem any_non : ∀ l : List (Option Int), ((l.map oU).any fun z => eqF z .non) = decide (none ∈ l)
  | [] => by simp
  | none :: r => by simp [oU, eqF]
  | some i :: r => by
    rw [List.map_cons, List.any_cons, any_non r]
    show (false || _) = _
    simp
theorem d_inN {l : List (Option Int)} : cmpD .isin .non (.lst (l.map oI)) = some (decide (none ∈ l)) := by
  show (match scaP .non, scas (l.map oI) with | some u, some us => some (us.any fun z => eqF z u) | _, _ => deepIn2 _ _) = _
  rw [scas_oI]
  exact congrArg some (any_non l)
theorem d_ninN {l : List (Option Int)} : cmpD .nin .non (.lst (l.map oI)) = some (!decide (none ∈ l)) := by
  rw [d_nin, ← d_in, d_inN]; rfl
theorem oI_some (l : List Int) : (l.map some).map oI = l.map D.int := by rw [List.map_map]; rfl
theorem scaO (i : Int) : ∀ l : List (Option Int), ((l.map oU).any fun z => eqF z (.int i)) = decide (some i ∈ l)
  | [] => by simp
  | none :: r => by
    rw [List.map_cons, List.any_cons, scaO i r]
    show (false || _) = _
    simp
  | some j :: r => by
    rw [List.map_cons, List.any_cons, scaO i r]
    show (j == i || _) = _
    by_cases h : i = j
    · subst h; simp
    · have h' : ¬ j = i := fun e => h e.symm
      simp [h, h']
theorem d_inO {i : Int} {l : List (Option Int)} : cmpD .isin (.int i) (.lst (l.map oI)) = some (decide (some i ∈ l)) := by
  show (match scaP (.int i), scas (l.map oI) with | some u, some us => some (us.any fun z => eqF z u) | _, _ => deepIn2 _ _) = _
  rw [scas_oI]
  exact congrArg some (scaO i l)
theorem d_ninO {i : Int} {l : List (Option Int)} : cmpD .nin (.int i) (.lst (l.map oI)) = some (!decide (some i ∈ l)) := by
  rw [d_nin, ← d_in, d_inO]; rfl
theorem d_subD {xs : List D} {k : Int} : subD (.lst xs) (.int k) = L2.atI xs k := Eq.trans rfl rfl
theorem setD_0 {x v : D} {xs : List D} : setD (.lst (x :: xs)) (.int 0) v = some (.lst (v :: xs)) := setD_l (k := 0) (by simp)
theorem setD_1 {x y v : D} {xs : List D} : setD (.lst (x :: y :: xs)) (.int 1) v = some (.lst (x :: v :: xs)) := setD_l (k := 1) (by simp)
theorem setD_2 {x y z v : D} {xs : List D} : setD (.lst (x :: y :: z :: xs)) (.int 2) v = some (.lst (x :: y :: v :: xs)) := setD_l (k := 2) (by simp)
/-! lists by place -/
theorem atI_i {l : List Int} {k : Nat} (h : k < l.length) : L2.atI (l.map D.int) (k : Int) = some (.int (l.getD k 0)) := by
  refine atI_nat ?_
  rw [List.getElem?_map, List.getElem?_eq_getElem h, List.getD_eq_getElem?_getD, List.getElem?_eq_getElem h]; rfl
theorem atI_m {α : Type} {f : α → D} {l : List α} {k : Nat} (h : k < l.length) : L2.atI (l.map f) (k : Int) = some (f l[k]) := by
  refine atI_nat ?_
  rw [List.getElem?_map, List.getElem?_eq_getElem h]; rfl
theorem setD_i {l : List Int} {k : Nat} {z : Int} (h : k < l.length) : setD (.lst (l.map D.int)) (.int (k : Int)) (.int z) = some (.lst ((l.set k z).map D.int)) := by
  rw [setD_l (by rw [List.length_map]; exact h), List.map_set]
section
variable {σ : PE} {w : PW} {i : Nat} {y v : D}
def stD (σ : PE) (w : PW) (i : Nat) (y v : D) : D → Option (PE × PW)
  | .pur => ob (setW w y v) fun w1 => some (σ, w1)
  | d => ob (setD d y v) fun d' => some (σ.set i (some d'), w)
theorem v_st1D : st1D σ w i y v = obF (getP σ i) (stD σ w i y v) := by
  show ob (getP σ i) _ = ob (getP σ i) _
  cases getP σ i with
  | none => rfl
  | some d => cases d <;> rfl
theorem v_stDl {xs : List D} : stD σ w i y v (.lst xs) = obF (setD (.lst xs) y v) fun d' => some (σ.set i (some d'), w) := Eq.trans rfl rfl
theorem v_stDp : stD σ w i y v .pur = obF (setW w y v) fun w1 => some (σ, w1) := Eq.trans rfl rfl
end
theorem repOk_1 {n : Nat} (h : n ≤ sizeLine) : repOk 1 (n : Int) = true := by
  have hs : sizeLine < 2 ^ 62 := by decide
  unfold repOk
  rw [decide_eq_true (show -(2 ^ 63 : Int) ≤ (n : Int) by omega), decide_eq_true (show (n : Int) < 2 ^ 63 by omega), decide_eq_true (show 1 * (n : Int).toNat ≤ sizeLine by omega)]
  rfl
theorem flat_rep {α : Type} (x : α) : ∀ n : Nat, (List.replicate n [x]).flatten = List.replicate n x
  | 0 => rfl
  | n + 1 => by rw [List.replicate_succ, List.flatten_cons, flat_rep x n]; rfl
theorem d_rep1 {x : D} {n : Nat} (h : n ≤ sizeLine) : binD .mul (.lst [x]) (.int (n : Int)) = some (.lst (List.replicate n x)) := by
  rw [d_rep]
  refine (if_pos (repOk_1 h)).trans ?_
  rw [Int.toNat_natCast, flat_rep]
theorem d_repI {z : Int} {n : Nat} (h : n ≤ sizeLine) : binD .mul (.lst [.int z]) (.int (n : Int)) = some (.lst ((List.replicate n z).map D.int)) := by
  rw [d_rep1 h, List.map_replicate]
theorem d_appM {α : Type} {f : α → D} {l m : List α} (h : l.length + m.length ≤ sizeLine) : binD .add (.lst (l.map f)) (.lst (m.map f)) = some (.lst ((l ++ m).map f)) := by
  rw [d_app, d_new (by rw [List.length_append, List.length_map, List.length_map]; exact h), List.map_append]
theorem d_appM1 {α : Type} {f : α → D} {l : List α} {x : α} (h : l.length < sizeLine) : mutD .append (.lst (l.map f)) [f x] = some (.lst ((l ++ [x]).map f)) := by
  rw [d_append (by rw [List.length_map]; exact h), List.map_append]; rfl
theorem i_seqM {α : Type} {f : α → D} {l : List α} {y : D} : itemsD .seq (.lst (l.map f)) y = some (l.map fun a => .one (f a)) := by
  rw [i_seq, List.map_map]; rfl
theorem zipIdx_map' {α β : Type} (f : α → β) : ∀ (l : List α) (i : Nat), (l.map f).zipIdx i = (l.zipIdx i).map fun p => (f p.1, p.2)
  | [], _ => rfl
  | a :: r, i => by
    rw [List.map_cons, List.zipIdx_cons, List.zipIdx_cons, List.map_cons, zipIdx_map' f r (i + 1)]
theorem i_enumM {α : Type} {f : α → D} {l : List α} {y : D} : itemsD .enum (.lst (l.map f)) y = some (l.zipIdx.map fun p => .two (.int (p.2 : Int)) (f p.1)) := by
  rw [i_enum, zipIdx_map', List.map_map]; rfl
theorem zip_map' {α β γ δ : Type} (f : α → γ) (g : β → δ) : ∀ (l : List α) (m : List β), (l.map f).zip (m.map g) = (l.zip m).map fun p : α × β => (f p.1, g p.2)
  | [], m => rfl
  | a :: r, [] => rfl
  | a :: r, b :: s => by
    rw [List.map_cons, List.map_cons, List.zip_cons_cons, List.zip_cons_cons, List.map_cons, zip_map' f g r s]
theorem i_zipM {α β : Type} {f : α → D} {g : β → D} {l : List α} {m : List β} : itemsD .zip (.lst (l.map f)) (.lst (m.map g)) = some ((l.zip m).map fun p : α × β => Pv.two (f p.1) (g p.2)) := by
  rw [i_zip, zip_map', List.map_map]; rfl
theorem snd_zipIdx {α : Type} {l : List α} {p : α × Nat} {i : Nat} (h : p ∈ l.zipIdx i) : p.2 < l.length + i := by
  induction l generalizing i with
  | nil => cases h
  | cons a r ih =>
    rw [List.zipIdx_cons] at h
    rcases List.mem_cons.mp h with e | h
    · subst e; simp
    · have := ih h
      simp only [List.length_cons]; omega
theorem mem_zipIdx_fst {α : Type} {l : List α} {p : α × Nat} {i : Nat} (h : p ∈ l.zipIdx i) : p.1 ∈ l := by
  induction l generalizing i with
  | nil => cases h
  | cons a r ih =>
    rw [List.zipIdx_cons] at h
    rcases List.mem_cons.mp h with e | h
    · subst e; exact List.mem_cons_self ..
    · exact List.mem_cons_of_mem _ (ih h)
/-! loops by the turn's number -/
def lastT (t : Option D) : Nat → Option D
  | 0 => t
  | i + 1 => some (.int (i : Int))
theorem lastT_0 (t : Option D) : lastT t 0 = t := rfl
theorem forP_idx {f : Pv → PE → PW → PS'} {w : PW} (E : Nat → PE) : ∀ (its : List Pv) (j : Nat), (∀ i v, its[i]? = some v → f v (E (j + i)) w = some (.nx, E (j + i + 1), w)) → forP f its (E j) w = some (.nx, E (j + its.length), w)
  | [], j, h => rfl
  | v :: r, j, h => by
    show pbl (f v (E j) w) _ = _
    have h0 := h 0 v rfl
    rw [Nat.add_zero] at h0
    rw [h0]
    show forP f r (E (j + 1)) w = _
    rw [forP_idx E r (j + 1) fun i v hv => by
      have := h (i + 1) v hv
      rw [show j + 1 + i = j + (i + 1) by omega]; exact this]
    rw [List.length_cons, show j + 1 + r.length = j + (r.length + 1) by omega]
theorem forP_range {f : Pv → PE → PW → PS'} {w : PW} (E : Nat → PE) (n : Nat) (step : ∀ i, i < n → f (.one (.int (i : Int))) (E i) w = some (.nx, E (i + 1), w)) :
    forP f ((List.range n).map fun j : Nat => .one (.int (j : Int))) (E 0) w = some (.nx, E n, w) := by
  have := forP_idx (f := f) (w := w) E ((List.range n).map fun j : Nat => Pv.one (.int (j : Int))) 0 fun i v hv => by
    rw [List.getElem?_map] at hv
    by_cases hi : i < n
    · rw [List.getElem?_range hi] at hv
      cases hv
      rw [Nat.zero_add]; exact step i hi
    · rw [List.getElem?_eq_none (by rw [List.length_range]; omega)] at hv
      cases hv
  rw [List.length_map, List.length_range, Nat.zero_add] at this
  exact this
theorem forP_rangeG {f : Pv → PE → PW → PS'} {w : PW} (enc : Nat → Pv) (E : Nat → PE) (n : Nat) (step : ∀ i, i < n → f (enc i) (E i) w = some (.nx, E (i + 1), w)) :
    forP f ((List.range n).map enc) (E 0) w = some (.nx, E n, w) := by
  have := forP_idx (f := f) (w := w) E ((List.range n).map enc) 0 fun i v hv => by
    rw [List.getElem?_map] at hv
    by_cases hi : i < n
    · rw [List.getElem?_range hi] at hv
      cases hv
      rw [Nat.zero_add]; exact step i hi
    · rw [List.getElem?_eq_none (by rw [List.length_range]; omega)] at hv
      cases hv
  rw [List.length_map, List.length_range, Nat.zero_add] at this
  exact this
theorem forP_rel {f : Pv → PE → PW → PS'} {w : PW} (enc : Nat → Pv) (R : Nat → PE → Prop) (n : Nat) (step : ∀ i σ, i < n → R i σ → ∃ σ', f (enc i) σ w = some (.nx, σ', w) ∧ R (i + 1) σ') {σ : PE} (h0 : R 0 σ) :
    ∃ σ', forP f ((List.range n).map enc) σ w = some (.nx, σ', w) ∧ R n σ' := by
  have key : ∀ (m j : Nat) (σ : PE), j + m = n → R j σ → ∃ σ', forP f ((List.range' j m).map enc) σ w = some (.nx, σ', w) ∧ R n σ' := by
    intro m
    induction m with
    | zero => intro j σ e h; exact ⟨σ, rfl, by rw [← e]; exact h⟩
    | succ m ih =>
      intro j σ e h
      obtain ⟨σ1, e1, h1⟩ := step j σ (by omega) h
      obtain ⟨σ2, e2, h2⟩ := ih (j + 1) σ1 (by omega) h1
      refine ⟨σ2, ?_, h2⟩
      rw [List.range'_succ]
      show pbl (f (enc j) σ w) _ = _
      rw [e1]; exact e2
  rw [List.range_eq_range']
  exact key n 0 σ (by omega) h0
theorem forP_enum {α : Type} {f : Pv → PE → PW → PS'} {w : PW} (g : α → D) (l : List α) (R : Nat → PE → Prop) (step : ∀ i σ (h : i < l.length), R i σ → ∃ σ', f (.two (.int (i : Int)) (g l[i])) σ w = some (.nx, σ', w) ∧ R (i + 1) σ') {σ : PE} (h0 : R 0 σ) :
    ∃ σ', forP f (l.zipIdx.map fun p => .two (.int (p.2 : Int)) (g p.1)) σ w = some (.nx, σ', w) ∧ R l.length σ' := by
  have key : ∀ (r : List α) (j : Nat) (σ : PE), l.drop j = r → R j σ → ∃ σ', forP f ((r.zipIdx j).map fun p => .two (.int (p.2 : Int)) (g p.1)) σ w = some (.nx, σ', w) ∧ R l.length σ' ∨ l.length < j := by
    intro r
    induction r with
    | nil =>
      intro j σ e h
      have := List.drop_eq_nil_iff.mp e
      by_cases hj : j = l.length
      · exact ⟨σ, .inl ⟨rfl, by rw [← hj]; exact h⟩⟩
      · exact ⟨σ, .inr (by omega)⟩
    | cons a r ih =>
      intro j σ e h
      have hj : j < l.length := by
        have := congrArg List.length e
        rw [List.length_drop, List.length_cons] at this
        omega
      have ha : l[j] = a := by
        have := List.drop_eq_getElem_cons hj
        rw [e] at this
        exact (List.cons.inj this).1.symm
      have hr : l.drop (j + 1) = r := by
        have := List.drop_eq_getElem_cons hj
        rw [e] at this
        exact (List.cons.inj this).2.symm
      obtain ⟨σ1, e1, h1⟩ := step j σ hj h
      obtain ⟨σ2, h2⟩ := ih (j + 1) σ1 hr h1
      refine ⟨σ2, ?_⟩
      rcases h2 with ⟨e2, h2⟩ | h2
      · refine .inl ⟨?_, h2⟩
        rw [List.zipIdx_cons]
        show pbl (f (.two (.int (j : Int)) (g a)) σ w) _ = _
        rw [← ha, e1]; exact e2
      · omega
  obtain ⟨σ', h⟩ := key l 0 σ rfl h0
  rcases h with h | h
  · exact ⟨σ', h⟩
  · omega
def lastG (t : Option D) (g : Nat → D) : Nat → Option D
  | 0 => t
  | i + 1 => some (g i)
theorem lastG_0 (t : Option D) (g : Nat → D) : lastG t g 0 = t := rfl
/-! what is walked is written out -/
def pblF (o : PS') (k : PE → PW → PS') (t : Tg k := .mk) : PS' := pbl o k
section
variable {σ : PE} {w : PW} {k : PE → PW → PS'}
theorem v_pbl : pblF (some (.nx, σ, w)) k = k σ w := Eq.trans rfl rfl
theorem v_pbl_ct : pblF (some (.ct, σ, w)) k = k σ w := Eq.trans rfl rfl
theorem v_pbl_bk : pblF (some (.bk, σ, w)) k = some (.nx, σ, w) := Eq.trans rfl rfl
theorem v_pbl_rt {d : D} : pblF (some (.rt d, σ, w)) k = some (.rt d, σ, w) := Eq.trans rfl rfl
theorem v_for0 {f : Pv → PE → PW → PS'} : forP f [] σ w = some (.nx, σ, w) := Eq.trans rfl rfl
theorem v_forS {f : Pv → PE → PW → PS'} {v : Pv} {r : List Pv} : forP f (v :: r) σ w = pblF (f v σ w) fun σ1 w1 => forP f r σ1 w1 := Eq.trans rfl rfl
theorem v_lc0 {f : Pv → PW → Option (List D × PW)} : lcP f [] w = some ([], w) := Eq.trans rfl rfl
theorem v_lcS {f : Pv → PW → Option (List D × PW)} {v : Pv} {r : List Pv} : lcP f (v :: r) w = pbF (f v w) fun ys w1 => pbF (lcP f r w1) fun zs w2 => some (ys ++ zs, w2) := Eq.trans rfl rfl
theorem i_seqL {x : D} {xs : List D} {y : D} : itemsD .seq (.lst (x :: xs)) y = some ((x :: xs).map Pv.one) := Eq.trans rfl rfl
theorem i_seq0 {y : D} : itemsD .seq (.lst []) y = some [] := Eq.trans rfl rfl
end
theorem d_sub1 {x y : D} {xs : List D} : L2.atI (x :: y :: xs) 1 = some y := atI_nat (i := 1) rfl
theorem d_sub2 {x y z : D} {xs : List D} : L2.atI (x :: y :: z :: xs) 2 = some z := atI_nat (i := 2) rfl
theorem d_sub3 {x y z u : D} {xs : List D} : L2.atI (x :: y :: z :: u :: xs) 3 = some u := atI_nat (i := 3) rfl
theorem h_le1 {l : List Int} : (hgt (.lst (l.map D.int)) ≤ 1) = True := propext ⟨fun _ => trivial, fun _ => hgt_ints l⟩
theorem d_appL {z : Int} {l : List Int} (h : l.length < sizeLine) : binD .add (.lst [.int z]) (.lst (l.map D.int)) = some (.lst ((z :: l).map D.int)) := by
  rw [d_app, d_new (by simp; omega)]; rfl
theorem d_appR {z : Int} {l : List Int} (h : l.length < sizeLine) : binD .add (.lst (l.map D.int)) (.lst [.int z]) = some (.lst ((l ++ [z]).map D.int)) := by
  rw [d_app, d_new (by simp; omega), List.map_append]; rfl
/-! binomials -/
def bin : Nat → Nat → Nat
  | _, 0 => 1
  | 0, _ + 1 => 0
  | n + 1, k + 1 => bin n k + bin n (k + 1)
theorem zip_len {α β : Type} (l : List α) (m : List β) : (l.zip m).length = min l.length m.length := List.length_zip
theorem bin_0 (n : Nat) : bin n 0 = 1 := by cases n <;> rfl
theorem bin_0i (n : Nat) : ((bin n 0 : Nat) : Int) = 1 := by rw [bin_0]; rfl
theorem bin_gt : ∀ (n k : Nat), n < k → bin n k = 0
  | 0, k + 1, _ => rfl
  | n + 1, k + 1, h => by
    show bin n k + bin n (k + 1) = 0
    rw [bin_gt n k (by omega), bin_gt n (k + 1) (by omega)]
theorem bin_mul : ∀ (n k : Nat), k ≤ n → bin n (k + 1) * (k + 1) = bin n k * (n - k)
  | 0, 0, _ => rfl
  | n + 1, 0, _ => by
    have h1 : bin n 1 * 1 = 1 * (n - 0) := by
      have := bin_mul n 0 (Nat.zero_le _)
      rwa [bin_0] at this
    show (bin n 0 + bin n 1) * 1 = 1 * (n + 1)
    rw [bin_0]
    omega
  | n + 1, k + 1, h => by
    have i1 := bin_mul n k (by omega)
    show (bin n (k + 1) + bin n (k + 2)) * (k + 2) = (bin n k + bin n (k + 1)) * (n + 1 - (k + 1))
    by_cases hk : k + 1 ≤ n
    · have i2 := bin_mul n (k + 1) hk
      have e1 : n + 1 - (k + 1) = n - k := by omega
      have e2 : n - k = n - (k + 1) + 1 := by omega
      rw [e1, Nat.add_mul, Nat.add_mul, i2, ← i1, ← Nat.mul_add, ← Nat.mul_add]
      congr 1; omega
    · have : k = n := by omega
      subst this
      rw [bin_gt k (k + 1) (by omega), bin_gt k (k + 2) (by omega)]
      simp
theorem bin_sym : ∀ (s a b : Nat), a + b = s → bin (a + b) a = bin (a + b) b
  | _, 0, b, _ => by
    rw [bin_0, Nat.zero_add]
    have : ∀ b, bin b b = 1 := fun b => by
      induction b with
      | zero => rfl
      | succ b ih => show bin b b + bin b (b + 1) = 1; rw [ih, bin_gt b (b + 1) (by omega)]
    rw [this]
  | _, a + 1, 0, _ => by
    rw [bin_0, Nat.add_zero]
    have : ∀ b, bin b b = 1 := fun b => by
      induction b with
      | zero => rfl
      | succ b ih => show bin b b + bin b (b + 1) = 1; rw [ih, bin_gt b (b + 1) (by omega)]
    rw [this]
  | s + 1, a + 1, b + 1, h => by
    have e : a + 1 + (b + 1) = (a + (b + 1)) + 1 := by omega
    rw [e]
    show bin (a + (b + 1)) a + bin (a + (b + 1)) (a + 1) = bin (a + (b + 1)) b + bin (a + (b + 1)) (b + 1)
    have i1 := bin_sym s a (b + 1) (by omega)
    have i2 := bin_sym s (a + 1) b (by omega)
    rw [show a + 1 + b = a + (b + 1) by omega] at i2
    omega
theorem bin_min {n k : Nat} (h : k ≤ n) : bin n (min k (n - k)) = bin n k := by
  by_cases h1 : k ≤ n - k
  · rw [Nat.min_eq_left h1]
  · rw [Nat.min_eq_right (by omega)]
    have := bin_sym n (n - k) k (by omega)
    rw [show n - k + k = n by omega] at this
    exact this
theorem divOk_nat {n : Nat} (h : n < 2 ^ 63) : divOk ((n : Int) + 1) = true := by
  unfold divOk
  rw [decide_eq_true (show (0 : Int) < (n : Int) + 1 by omega), decide_eq_true]
  · rfl
  · have e : ((n : Int) + 1).natAbs = n + 1 := by omega
    rw [e]
    have := (Nat.log2_lt (show n + 1 ≠ 0 by omega)).mpr (show n + 1 < 2 ^ 64 by omega)
    omega
theorem bin_step {n i : Nat} (h : i < n) : ((bin n i : Int) * ((n : Int) - (i : Int))) / ((i : Int) + 1) = (bin n (i + 1) : Int) := by
  have := bin_mul n i (by omega)
  have e : (bin n i : Int) * ((n : Int) - (i : Int)) = (bin n (i + 1) : Int) * ((i : Int) + 1) := by
    have e1 : (n : Int) - (i : Int) = ((n - i : Nat) : Int) := by omega
    rw [e1, show ((i : Int) + 1) = ((i + 1 : Nat) : Int) by omega, ← Int.natCast_mul, ← Int.natCast_mul, this]
  rw [e, Int.mul_ediv_cancel _ (by omega)]
/-! polynomials -/
def mulIn (i : Nat) (a : Int) (acc : List Int) (p : Int × Nat) : List Int := acc.set (i + p.2) (acc.getD (i + p.2) 0 + a * p.1)
def mulRow (other : List Int) (acc : List Int) (p : Int × Nat) : List Int := other.zipIdx.foldl (mulIn p.2 p.1) acc
def mulP (one other : List Int) : List Int := one.zipIdx.foldl (mulRow other) (List.replicate (one.length + other.length - 1) 0)
theorem mulRow_len (other : List Int) (p : Int × Nat) (acc : List Int) : (mulRow other acc p).length = acc.length := by
  unfold mulRow
  generalize other.zipIdx = z
  induction z generalizing acc with
  | nil => rfl
  | cons q r ih => rw [List.foldl_cons, ih]; unfold mulIn; rw [List.length_set]
theorem mulP_len (one other : List Int) : (mulP one other).length = one.length + other.length - 1 := by
  unfold mulP
  have : ∀ (z : List (Int × Nat)) (acc : List Int), (z.foldl (mulRow other) acc).length = acc.length := fun z => by
    induction z with
    | nil => intro acc; rfl
    | cons q r ih => intro acc; rw [List.foldl_cons, ih, mulRow_len]
  rw [this, List.length_replicate]
def addP (one other : List Int) : List Int := (((one ++ List.replicate (max one.length other.length - one.length) 0).zip (other ++ List.replicate (max one.length other.length - other.length) 0))).map fun p : Int × Int => p.1 + p.2
theorem addP_len (one other : List Int) : (addP one other).length = max one.length other.length := by
  unfold addP
  rw [List.length_map, List.length_zip, List.length_append, List.length_append, List.length_replicate, List.length_replicate]
  omega
end Mi

set_option maxRecDepth 100000
/-! Mi, part L: a law that makes its purse within the loop. -/
namespace Mi
open PySem
/-! ### a slot that a body does not set -/
def nsT (i : Nat) : Tn → Bool
  | .nm j => decide (i ≠ j)
  | .tp2 a b => nsT i a && nsT i b
  | .tp3 a b c => nsT i a && (nsT i b && nsT i c)
mutual
def nsS (i : Nat) : Sm → Bool
  | .set j _ => decide (i ≠ j)
  | .par is _ => is.all fun j => decide (i ≠ j)
  | .asg t _ => nsT i t
  | .aug j _ _ => decide (i ≠ j)
  | .ite _ a b => nsSs i a && nsSs i b
  | .for t _ _ _ b => nsT i t && nsSs i b
  | .while _ b => nsSs i b
  | .popto j _ => decide (i ≠ j)
  | .mv j _ => decide (i ≠ j)
  | .spoil _ s => nsS i s
  | _ => true
def nsSs (i : Nat) : Sms → Bool
  | .nil => true
  | .cons s r => nsS i s && nsSs i r
end
theorem bindT_keep {i : Nat} {h : Hm} : ∀ {t : Tn} {u : U} {σ σ' : Env}, nsT i t = true → bindT h t u σ = some σ' → getE σ' i = getE σ i
  | .nm j, u, σ, σ', n, e => by cases e; exact getE_set_ne (of_decide_eq_true n)
  | .tp2 a b, u, σ, σ', n, e => by
    unfold nsT at n
    rw [Bool.and_eq_true] at n
    unfold bindT at e
    split at e
    · split at e
      · rename_i e1
        exact (bindT_keep n.2 e).trans (bindT_keep n.1 e1)
      · cases e
    · cases e
  | .tp3 a b c, u, σ, σ', n, e => by
    unfold nsT at n
    rw [Bool.and_eq_true, Bool.and_eq_true] at n
    unfold bindT at e
    split at e
    · split at e
      · rename_i e1
        split at e
        · rename_i e2
          exact (bindT_keep n.2.2 e).trans ((bindT_keep n.2.1 e2).trans (bindT_keep n.1 e1))
        · cases e
      · cases e
    · cases e
theorem bindI_keep {i : Nat} {h : Hm} {t : Tn} {v : Iv} {σ σ' : Env} (n : nsT i t = true) (e : bindI h t v σ = some σ') : getE σ' i = getE σ i := by
  unfold bindI at e
  split at e
  · exact bindT_keep n e
  · split at e
    · unfold nsT at n
      rw [Bool.and_eq_true] at n
      split at e
      · rename_i e1
        exact (bindT_keep n.2 e).trans (bindT_keep n.1 e1)
      · cases e
    · cases e
theorem setAll_keep {i : Nat} : ∀ {is : List Nat} {us : List U} {σ σ' : Env}, (is.all fun j => decide (i ≠ j)) = true → setAll is us σ = some σ' → getE σ' i = getE σ i
  | [], [], σ, σ', n, e => by cases e; rfl
  | j :: is, u :: us, σ, σ', n, e => by
    rw [List.all_cons, Bool.and_eq_true] at n
    exact (setAll_keep (is := is) (us := us) n.2 e).trans (getE_set_ne (of_decide_eq_true n.1))
  | [], _ :: _, _, _, _, e => by cases e
  | _ :: _, [], _, _, _, e => by cases e
def KeepI (i : Nat) (s : Env → Hm → ResS) : Prop := ∀ (σ σ' : Env) (h h' : Hm) (fl : Fl), s σ h = some (fl, σ', h') → getE σ' i = getE σ i
theorem forLoop_keep {i : Nat} {f : Iv → Env → Hm → ResS} (hf : ∀ v, KeepI i (f v)) (it : It) : ∀ k j : Nat, KeepI i (forLoop f it k j)
  | 0, j => fun σ σ' h h' fl e => by
    obtain ⟨o, _, e⟩ := ob_some e
    split at e
    · cases e; rfl
    · cases e
  | k + 1, j => fun σ σ' h h' fl e => by
    obtain ⟨o, _, e⟩ := ob_some e
    split at e
    · cases e; rfl
    · obtain ⟨fl1, σ1, h1, e1, e2⟩ := bl_some e
      have l1 := hf _ _ _ _ _ _ e1
      cases fl1 with
      | nx => exact (forLoop_keep hf it k (j + 1) _ _ _ _ _ e2).trans l1
      | ct => exact (forLoop_keep hf it k (j + 1) _ _ _ _ _ e2).trans l1
      | bk => cases e2; exact l1
      | rt u => cases e2; exact l1
theorem whLoop_keep {i : Nat} {t : Env → Hm → Res} {f : Env → Hm → ResS} (hf : KeepI i f) : ∀ k : Nat, KeepI i (whLoop t f k)
  | 0 => fun σ σ' h h' fl e => by cases e
  | k + 1 => fun σ σ' h h' fl e => by
    obtain ⟨x, h1, _, e⟩ := bd_some e
    obtain ⟨b, _, e⟩ := bf_some e
    cases b with
    | false =>
      rw [if_neg (by decide)] at e
      cases e; rfl
    | true =>
      rw [if_pos rfl] at e
      obtain ⟨fl1, σ1, h2, e1, e2⟩ := bl_some e
      have l1 := hf _ _ _ _ _ e1
      cases fl1 with
      | nx => exact (whLoop_keep hf k _ _ _ _ _ e2).trans l1
      | ct => exact (whLoop_keep hf k _ _ _ _ _ e2).trans l1
      | bk => cases e2; exact l1
      | rt u => cases e2; exact l1
theorem bd_ex {α β : Type} {o : Option (α × Hm)} {k : α → Hm → Option β} {r : β} (e : bd o k = some r) : ∃ x h, k x h = some r := by
  obtain ⟨x, h, _, e⟩ := bd_some e
  exact ⟨x, h, e⟩
mutual
theorem exS_keep {i : Nat} (C : Calls) : ∀ s : Sm, nsS i s = true → KeepI i (exS C s)
  | .pass, n => fun σ σ' h h' fl e => by cases e; rfl
  | .ex _, n => fun σ σ' h h' fl e => by obtain ⟨_, _, e⟩ := bd_ex e; cases e; rfl
  | .set _ _, n => fun σ σ' h h' fl e => by obtain ⟨_, _, e⟩ := bd_ex e; cases e; exact getE_set_ne (of_decide_eq_true n)
  | .par _ _, n => fun σ σ' h h' fl e => by obtain ⟨_, _, e⟩ := bd_ex e; obtain ⟨_, e1, e⟩ := ob_some e; cases e; exact setAll_keep n e1
  | .asg _ _, n => fun σ σ' h h' fl e => by obtain ⟨_, _, e⟩ := bd_ex e; obtain ⟨_, e1, e⟩ := ob_some e; cases e; exact bindT_keep n e1
  | .setsub _ _ _, n => fun σ σ' h h' fl e => by obtain ⟨_, _, e⟩ := bd_ex e; obtain ⟨_, _, e⟩ := bd_ex e; obtain ⟨_, _, e⟩ := bd_ex e; obtain ⟨_, e⟩ := ob_ex e; cases e; rfl
  | .parsub _ _ _ _ _, n => fun σ σ' h h' fl e => by
    obtain ⟨us, h1, e⟩ := bd_ex e
    split at e
    · obtain ⟨_, _, e⟩ := bd_ex e; obtain ⟨_, _, e⟩ := bd_ex e; obtain ⟨_, e⟩ := ob_ex e; obtain ⟨_, _, e⟩ := bd_ex e; obtain ⟨_, _, e⟩ := bd_ex e; obtain ⟨_, e⟩ := ob_ex e; cases e; rfl
    · cases e
  | .aug _ _ _, n => fun σ σ' h h' fl e => by obtain ⟨_, e⟩ := ob_ex e; obtain ⟨_, _, e⟩ := bd_ex e; obtain ⟨_, e⟩ := ob_ex e; cases e; exact getE_set_ne (of_decide_eq_true n)
  | .ite _ a b, n => fun σ σ' h h' fl e => by
    unfold nsS at n
    rw [Bool.and_eq_true] at n
    obtain ⟨_, _, e⟩ := bd_ex e
    obtain ⟨t, _, e⟩ := bf_some e
    cases t with
    | true => rw [if_pos rfl] at e; exact exSs_keep C a n.1 _ _ _ _ _ e
    | false => rw [if_neg (by decide)] at e; exact exSs_keep C b n.2 _ _ _ _ _ e
  | .for tg _ _ _ x, n => fun σ σ' h h' fl e => by
    unfold nsS at n
    rw [Bool.and_eq_true] at n
    obtain ⟨_, _, e⟩ := bd_ex e
    obtain ⟨_, _, e⟩ := bd_ex e
    obtain ⟨it, e⟩ := ob_ex e
    exact forLoop_keep (fun v {σ σ' h h' fl} e => by
      obtain ⟨_, e1, e⟩ := ob_some e
      exact (exSs_keep C x n.2 _ _ _ _ _ e).trans (bindI_keep n.1 e1)) it _ _ _ _ _ _ _ e
  | .while _ x, n => fun σ σ' h h' fl e => whLoop_keep (exSs_keep C x n) whMost _ _ _ _ _ e
  | .ret _, n => fun σ σ' h h' fl e => by obtain ⟨_, _, e⟩ := bd_ex e; cases e; rfl
  | .retn, n => fun σ σ' h h' fl e => by cases e; rfl
  | .raise, n => fun σ σ' h h' fl e => by cases e
  | .brk, n => fun σ σ' h h' fl e => by cases e; rfl
  | .cnt, n => fun σ σ' h h' fl e => by cases e; rfl
  | .mut1 _ _ _, n => fun σ σ' h h' fl e => by obtain ⟨_, _, e⟩ := bd_ex e; cases e; rfl
  | .mut2 _ _ _ _, n => fun σ σ' h h' fl e => by obtain ⟨_, _, e⟩ := bd_ex e; cases e; rfl
  | .st1 _ _ _, n => fun σ σ' h h' fl e => by obtain ⟨_, _, e⟩ := bd_ex e; obtain ⟨_, _, e⟩ := bd_ex e; obtain ⟨_, _, e⟩ := bd_ex e; obtain ⟨_, e⟩ := ob_ex e; cases e; rfl
  | .st2 _ _ _ _, n => fun σ σ' h h' fl e => by obtain ⟨_, _, e⟩ := bd_ex e; obtain ⟨_, _, e⟩ := bd_ex e; obtain ⟨_, _, e⟩ := bd_ex e; obtain ⟨_, e⟩ := ob_ex e; cases e; rfl
  | .sw _ _ _ _ _, n => fun σ σ' h h' fl e => by
    obtain ⟨us, h1, e⟩ := bd_ex e
    split at e
    · obtain ⟨_, _, e⟩ := bd_ex e; obtain ⟨_, _, e⟩ := bd_ex e; obtain ⟨_, e⟩ := ob_ex e; obtain ⟨_, _, e⟩ := bd_ex e; obtain ⟨_, _, e⟩ := bd_ex e; obtain ⟨_, e⟩ := ob_ex e; cases e; rfl
    · cases e
  | .popto _ _, n => fun σ σ' h h' fl e => by obtain ⟨_, _, e⟩ := bd_ex e; cases e; exact getE_set_ne (of_decide_eq_true n)
  | .mv _ _, n => fun σ σ' h h' fl e => by obtain ⟨_, _, e⟩ := bd_ex e; cases e; exact getE_set_ne (of_decide_eq_true n)
  | .mutv _ _, n => fun σ σ' h h' fl e => by obtain ⟨_, _, e⟩ := bd_ex e; cases e; rfl
  | .spoil _ s, n => fun σ σ' h h' fl e => exS_keep C s n _ _ _ _ _ e
theorem exSs_keep {i : Nat} (C : Calls) : ∀ s : Sms, nsSs i s = true → KeepI i (exSs C s)
  | .nil, n => fun σ σ' h h' fl e => by cases e; rfl
  | .cons s r, n => fun σ σ' h h' fl e => by
    unfold nsSs at n
    rw [Bool.and_eq_true] at n
    have e : bs (exS C s σ h) (fun σ1 h1 => exSs C r σ1 h1) = some (fl, σ', h') := e
    rcases bs_some e with ⟨σ1, h1, e1, e2⟩ | ⟨e1, _⟩
    · exact (exSs_keep C r n.2 _ _ _ _ _ e2).trans (exS_keep C s n.1 _ _ _ _ _ e1)
    · exact exS_keep C s n.1 _ _ _ _ _ e1
end
section
variable {Q Qp : Nat → Option Df} {rk : Nat → Sg} {k nv p q iP : Nat} {body : Sms} {r J : Option Mks}
/-- the turns of a law whose purses are made within -/
theorem law_loop2 (hs : ∀ i d, Qp i = some d → Q i = some d) (hQ : ∀ i d, Qp i = some d → chkDf rk d (rk i) = true) (hS : ∀ i d, Qp i = some d → (rk i).ret = .pu → SpShape rk d) (hP : Q iP = some dPurse) (hp : p < nv) (hq : q < nv) (hp0 : 0 ≠ p) (hq0 : 0 ≠ q) (hpq : q ≠ p)
    (cn : nsSs 0 body = true)
    (cb : chkSs rk .sc body ((List.replicate nv none).set p (some .pu)) = some (r, J))
    (pb : ∀ w, Pw (2 ^ 60) w → ∃ fl σ' w', exPs (callP Qp (k + 1)) body ((List.replicate nv none).set p (some .pur)) w = some (fl, σ', w') ∧ (fl = .nx ∨ fl = .ct))
    {ns : List Int} {t : Nat} (ht : t ≤ 64) :
    ∀ (m i : Nat) (σ : Env) (h : Hm), i + m = t → σ.length = nv → getE σ 0 = some (.ref 0) → h.get 0 = some (.ro (ns.map .int)) →
      ∃ σ' h', forLoop (fun v σ h => ob (bindI h (.nm q) v σ) fun σ1 => exSs (callN Q (k + 1)) (.cons (.set p (.call iP (.cons (.var 0) (.cons (.var q) .nil)) [])) body) σ1 h) (.rg 0 t) m i σ h = some (.nx, σ', h') ∧ σ'.length = nv
  | 0, i, σ, h, hi, hl, hg, h0 => by
    refine ⟨σ, h, ?_, hl⟩
    unfold forLoop
    show ob (some (if i < t then _ else none)) _ = _
    rw [if_neg (by omega)]
    rfl
  | m + 1, i, σ, h, hi, hl, hg, h0 => by
    obtain ⟨h1, w, e1, n1, g1, g2, pw⟩ := purse_ok (k := k) hP h0 i (by omega)
    obtain ⟨fl, σp', w', e2, hfl⟩ := pb w pw
    let σa : Env := (σ.set q (some (.int i))).set p (some (.ref (h.n + 1)))
    have la : σa.length = nv := by show ((σ.set q _).set p _).length = nv; rw [List.length_set, List.length_set]; exact hl
    have ga : getE σa 0 = some (.ref 0) := (getE_set_ne hp0).trans ((getE_set_ne hq0).trans hg)
    have I := pi_pur (pp := some (h.n + 1)) (h := h1) (σh := σa) (w := w) (nv := nv) (p := p) rfl la (getE_set_eq (by rw [List.length_set]; omega)) fun x ex => by cases ex; exact g2
    obtain ⟨fl', σ1, h2, e3, xs, q3⟩ := pso_all (C := callN Q (k + 1)) (CP := callP Qp (k + 1)) (rk := rk) (callP_ok hs hQ hS (k + 1)) body I e2 cb
    have ln := exPs_len (callP Qp (k + 1)) body _ _ _ _ _ e2
    rw [List.length_set, List.length_replicate] at ln
    have fin : (fl' = .nx ∨ fl' = .ct) ∧ σ1.length = nv := by
      rcases hfl with rfl | rfl
      · obtain ⟨q1, M, _, Z', F', _, I'⟩ := q3
        exact ⟨.inl q1, I'.ln.trans ln⟩
      · obtain ⟨q1, M, _, Z', F', _, I'⟩ := q3
        exact ⟨.inr q1, I'.ln.trans ln⟩
    have kp := exSs_keep (callN Q (k + 1)) body cn _ _ _ _ _ e3
    have hn0 := Hm.get_lt h0
    have o0 : h2.get 0 = some (.ro (ns.map .int)) := by
      rw [xs.2.2 0 (by omega) (fun z => by have := Option.some.inj z; omega), g1 0 hn0]
      exact h0
    obtain ⟨σ', h', e4, l4⟩ := law_loop2 hs hQ hS hP hp hq hp0 hq0 hpq cn cb pb (ns := ns) ht m (i + 1) σ1 h2 (by omega) fin.2 (kp.trans ga) o0
    refine ⟨σ', h', ?_, l4⟩
    unfold forLoop
    show ob (some (if i < t then some (Iv.one (.int (0 + i))) else none)) _ = _
    rw [if_pos (by omega), Int.zero_add]
    show bl (bs (bd (bd (evEs (callN Q (k + 1)) (.cons (.var 0) (.cons (.var q) .nil)) (σ.set q (some (.int i))) h) fun us h1 => callN Q (k + 1) iP (us ++ []) h1) fun u h1 => some (.nx, (σ.set q (some (.int i))).set p (some u), h1)) fun σ1 h1 => exSs (callN Q (k + 1)) body σ1 h1) _ = _
    have e5 : evEs (callN Q (k + 1)) (.cons (.var 0) (.cons (.var q) .nil)) (σ.set q (some (.int i))) h = some ([.ref 0, .int i], h) := by
      show bd (ob (getE (σ.set q (some (.int i))) 0) fun u => some (u, h)) (fun u h1 => bd (bd (ob (getE (σ.set q (some (.int i))) q) fun u => some (u, h1)) fun u h1 => some ([u], h1)) fun us h2 => some (u :: us, h2)) = _
      rw [getE_set_ne hq0, hg, getE_set_eq (by omega)]
      rfl
    rw [bd_eq e5]
    show bl (bs (bd (callN Q (k + 1) iP [.ref 0, .int i] h) _) _) _ = _
    rw [bd_eq e1]
    show bl (exSs (callN Q (k + 1)) body σa h1) _ = _
    rw [e3]
    rcases fin.1 with rfl | rfl <;> exact e4
/-- a law of the shape: for at in range(max(1, min(len(script), few))): purse = _law_purse(script, at); body .. rest -/
theorem law2 {li k0 : Nat} {few : Int} {rest : Sms} {r2 J2 : Option Mks} (hs : ∀ i d, Qp i = some d → Q i = some d) (hQ : ∀ i d, Qp i = some d → chkDf rk d (rk i) = true) (hS : ∀ i d, Qp i = some d → (rk i).ret = .pu → SpShape rk d)
    (hL : Q li = some ⟨1, nv, .cons (.for (.nm q) .rng1 (.bi .max2 (.cons (.int 1) (.cons (.bi .min2 (.cons (.bi .len (.cons (.var 0) .nil)) (.cons (.int few) .nil))) .nil))) .non (.cons (.set p (.call iP (.cons (.var 0) (.cons (.var q) .nil)) [])) body)) rest⟩) (hP : Q iP = some dPurse) (hf : few ≤ 63)
    (hp : p < nv) (hq : q < nv) (hp0 : 0 ≠ p) (hq0 : 0 ≠ q) (hpq : q ≠ p) (cn : nsSs 0 body = true)
    (cb : chkSs rk .sc body ((List.replicate nv none).set p (some .pu)) = some (r, J)) (cr : chkSs rk .sc rest (List.replicate nv none) = some (r2, J2))
    (pb : ∀ w, Pw (2 ^ 60) w → ∃ fl σ' w', exPs (callP Qp (k0 + 2)) body ((List.replicate nv none).set p (some .pur)) w = some (fl, σ', w') ∧ (fl = .nx ∨ fl = .ct))
    (pr : ∃ σ' w', exPs (callP Qp (k0 + 2)) rest (List.replicate nv none) [] = some (.rt (.bl true), σ', w')) (ns : List Int) :
    ∃ h1, callN Q (k0 + 3) li [.ref 0] (heap0 ns) = some (.bl true, h1) := by
  have g0 : (heap0 ns).get 0 = some (.ro (ns.map .int)) := Hm.get_push_self ⟨0, .lf⟩ _
  let d : Df := ⟨1, nv, .cons (.for (.nm q) .rng1 (.bi .max2 (.cons (.int 1) (.cons (.bi .min2 (.cons (.bi .len (.cons (.var 0) .nil)) (.cons (.int few) .nil))) .nil))) .non (.cons (.set p (.call iP (.cons (.var 0) (.cons (.var q) .nil)) [])) body)) rest⟩
  let env : Env := startE d [.ref 0]
  have lenv : env.length = nv := by
    show ([some (U.ref 0)] ++ List.replicate (nv - 1) none).length = nv
    simp; omega
  let x : Int := if few < (ns.length : Int) then few else ns.length
  let m : Int := if x > 1 then x else 1
  have hm1 : 1 ≤ m := by show 1 ≤ (if x > 1 then x else 1); split <;> omega
  have hm2 : m ≤ 63 := by
    have : x ≤ few := by show (if few < (ns.length : Int) then few else (ns.length : Int)) ≤ few; split <;> omega
    show (if x > 1 then x else 1) ≤ 63
    split <;> omega
  obtain ⟨σ1, h2, e2, l2⟩ := law_loop2 (k := k0 + 1) (r := r) (J := J) hs hQ hS hP hp hq hp0 hq0 hpq cn cb pb (ns := ns) (t := m.toNat) (by omega) m.toNat 0 env (heap0 ns) (by omega) lenv rfl g0
  obtain ⟨σ', w', e3⟩ := pr
  obtain ⟨fl', σ3, h3, e4, xs, u, rfl, pw, Zr, fp, rr, ll⟩ := pso_all (C := callN Q (k0 + 2)) (CP := callP Qp (k0 + 2)) (rk := rk) (callP_ok hs hQ hS (k0 + 2)) rest (pi_none (h := h2) l2) e3 cr
  have hu : u = .bl true := (rr.1 : scaP (.bl true) = some u) |> fun z => (Option.some.inj z).symm
  subst hu
  refine ⟨h3, ?_⟩
  show (match Q li with | some d => runD (callN Q (k0 + 2)) d [.ref 0] (heap0 ns) | none => none) = _
  rw [hL]
  show runD (callN Q (k0 + 2)) d [.ref 0] (heap0 ns) = _
  unfold runD
  refine (if_pos rfl).trans ?_
  have r0 : rdS (heap0 ns) (.ref 0) = some (ns.map .int) := by unfold rdS; dsimp only; rw [g0]
  have el : biU (heap0 ns) .len [.ref 0] = some (.int ns.length, heap0 ns) := by
    unfold biU
    simp only [r0]
    rw [List.length_map]
  have ea : evE (callN Q (k0 + 2)) (.bi .max2 (.cons (.int 1) (.cons (.bi .min2 (.cons (.bi .len (.cons (.var 0) .nil)) (.cons (.int few) .nil))) .nil))) env (heap0 ns) = some (.int m, heap0 ns) := by
    have ge : getE env 0 = some (.ref 0) := rfl
    simp only [evE, evEs, bd, ob, ge, el]
    rfl
  have ee : exSs (callN Q (k0 + 2)) d.body env (heap0 ns) = some (.rt (.bl true), σ3, h3) := by
    show bs (bd (evE (callN Q (k0 + 2)) (.bi .max2 (.cons (.int 1) (.cons (.bi .min2 (.cons (.bi .len (.cons (.var 0) .nil)) (.cons (.int few) .nil))) .nil))) env (heap0 ns)) fun x h1 => bd (some (U.non, h1)) fun y h2 => ob (mkIt h2 .rng1 x y) fun it =>
      forLoop (fun v σ h => ob (bindI h (.nm q) v σ) fun σ1 => exSs (callN Q (k0 + 2)) (.cons (.set p (.call iP (.cons (.var 0) (.cons (.var q) .nil)) [])) body) σ1 h) it (it.cnt h2) 0 env h2) _ = _
    rw [bd_eq ea]
    have hit : mkIt (heap0 ns) .rng1 (.int m) .non = some (.rg 0 m.toNat) := by
      show (if -(2 ^ 62) ≤ m ∧ m < 2 ^ 62 then some (It.rg 0 m.toNat) else none) = _
      rw [if_pos (by constructor <;> omega)]
    show bs (ob (mkIt (heap0 ns) .rng1 (.int m) .non) _) _ = _
    rw [ob_eq hit]
    show bs (forLoop _ (.rg 0 m.toNat) m.toNat 0 env (heap0 ns)) _ = _
    rw [e2]
    exact e4
  show (match exSs (callN Q (k0 + 2)) d.body env (heap0 ns) with | some (.rt u, _, h1) => some (u, h1) | some (.nx, _, h1) => some (U.non, h1) | _ => none) = _
  rw [ee]
end
end Mi

set_option maxRecDepth 100000
/-! Mi, part R: repr of values. -/
namespace Mi
open PySem
theorem listText_le : ∀ ts : List Str, (listText ts).length ≤ piled ts + 2
  | [] => by rw [listText_nil]; decide
  | t :: r => by
    have h := textFrom_length_pos r 1 (("[" : Str) ++ (if (0 : Nat) > 0 then ", " else "" : String) ++ t) (Nat.succ_pos 0)
    have e : ((("[" : Str) ++ (if (0 : Nat) > 0 then ", " else "" : String) ++ t)).length = 1 + t.length := by
      rw [strLen_append, strLen_append]; rfl
    have hX : (listText (t :: r)).length = (textFrom 0 "[" (t :: r)).length + 1 := by
      show (textFrom 0 "[" (t :: r) ++ "]").length = _
      rw [strLen_append]; rfl
    have hY : (textFrom 0 "[" (t :: r)).length = (textFrom 1 (("[" : Str) ++ (if (0 : Nat) > 0 then ", " else "" : String) ++ t) r).length := rfl
    rw [hX, hY, h, e, piled_cons]; omega
theorem tupleText_le (ts : List Str) : (tupleText ts).length ≤ piled ts + 3 := by
  unfold tupleText
  rw [strLen_append, strLen_append]
  have e1 : (("(" : String) : Str).length = 1 := rfl
  have e2 : ((if ts.length == 1 then ",)" else ")" : String) : Str).length ≤ 2 := by split <;> decide
  cases ts with
  | nil => 
    have : (Str.join ", " ([] : List Str)).length = 0 := rfl
    omega
  | cons x r =>
    have := join_length_add (x :: r) (by simp)
    omega
mutual
/-- values that can be shown: no strings, numbers of at most 60 figures -/
def shw : D → Bool
  | .int i => decide (i.natAbs < 10 ^ 60)
  | .lst xs => shws xs
  | .tup xs => shws xs
  | .bl _ => true
  | .non => true
  | _ => false
def shws : List D → Bool
  | [] => true
  | x :: r => shw x && shws r
end
mutual
/-- how long a text at most -/
def wt : D → Nat
  | .lst xs => wts xs + 2
  | .tup xs => wts xs + 3
  | _ => 61
def wts : List D → Nat
  | [] => 0
  | x :: r => wt x + 2 + wts r
end
mutual
theorem shown_le : ∀ d : D, shw d = true → (py d).shown.length ≤ wt d
  | .int i, h => by
    have e := int_text_length_le10 (k := 60) (by decide) (of_decide_eq_true h)
    show (Str.ofString (toString i)).length ≤ 61
    rw [ofString_length]
    exact e
  | .bl b, _ => by cases b <;> decide
  | .non, _ => by decide
  | .lst xs, h => by
    have e := showns_le xs h
    exact Nat.le_trans (listText_le _) (by show piled (PyData.shownAll (pys xs)) + 2 ≤ wts xs + 2; omega)
  | .tup xs, h => by
    have e := showns_le xs h
    exact Nat.le_trans (tupleText_le _) (by show piled (PyData.shownAll (pys xs)) + 3 ≤ wts xs + 3; omega)
  | .str _, h => by cases h
  | .pur, h => by cases h
theorem showns_le : ∀ ds : List D, shws ds = true → piled (PyData.shownAll (pys ds)) ≤ wts ds
  | [], _ => Nat.le_refl _
  | d :: r, h => by
    have h : (shw d && shws r) = true := h
    rw [Bool.and_eq_true] at h
    show piled ((py d).shown :: PyData.shownAll (pys r)) ≤ wt d + 2 + wts r
    rw [piled_cons]
    have := shown_le d h.1
    have := showns_le r h.2
    omega
end
theorem log_ok {i : Int} (h : i.natAbs < 10 ^ 60) : i.natAbs.log2 < 1920 := by
  by_cases h0 : i.natAbs = 0
  · rw [h0]; decide
  · rw [Nat.log2_lt h0]
    exact Nat.lt_trans h (by decide +kernel)
mutual
theorem showable_ok : ∀ d : D, shw d = true → (py d).showable = true
  | .int i, h => decide_eq_true (log_ok (of_decide_eq_true h))
  | .bl _, _ => rfl
  | .non, _ => rfl
  | .lst xs, h => showables_ok xs h
  | .tup xs, h => showables_ok xs h
  | .str _, h => by cases h
  | .pur, h => by cases h
theorem showables_ok : ∀ ds : List D, shws ds = true → PyData.showableAll (pys ds) = true
  | [], _ => rfl
  | d :: r, h => by
    have h : (shw d && shws r) = true := h
    rw [Bool.and_eq_true] at h
    show ((py d).showable && PyData.showableAll (pys r)) = true
    rw [showable_ok d h.1, showables_ok r h.2]; rfl
end
mutual
theorem lay_ok : ∀ d : D, shw d = true → (py d).canLay0 = true
  | .int i, h => rfl
  | .bl _, _ => rfl
  | .non, _ => rfl
  | .lst xs, h => lays_ok xs h
  | .tup xs, h => lays_ok xs h
  | .str _, h => by cases h
  | .pur, h => by cases h
theorem lays_ok : ∀ ds : List D, shws ds = true → PyData.canLayAll0 (pys ds) = true
  | [], _ => rfl
  | d :: r, h => by
    have h : (shw d && shws r) = true := h
    rw [Bool.and_eq_true] at h
    show ((py d).canLay0 && PyData.canLayAll0 (pys r)) = true
    rw [lay_ok d h.1, lays_ok r h.2]; rfl
end
mutual
theorem depth_ok : ∀ d : D, shw d = true → (py d).depth ≤ hgt d
  | .int i, h => Nat.le_refl _
  | .bl _, _ => Nat.le_refl _
  | .non, _ => Nat.le_refl _
  | .lst xs, h => by
    have := depths_ok xs h
    show PyData.depth (.list (pys xs)) ≤ hgts xs + 1
    simp only [PyData.depth]
    omega
  | .tup xs, h => by
    have := depths_ok xs h
    show PyData.depth (.tuple (pys xs)) ≤ hgts xs + 1
    simp only [PyData.depth]
    omega
  | .str _, h => by cases h
  | .pur, h => by cases h
theorem depths_ok : ∀ ds : List D, shws ds = true → PyData.depthAll (pys ds) ≤ hgts ds
  | [], _ => Nat.le_refl _
  | d :: r, h => by
    have h : (shw d && shws r) = true := h
    rw [Bool.and_eq_true] at h
    have := depth_ok d h.1
    have := depths_ok r h.2
    show PyData.depthAll (py d :: pys r) ≤ max (hgt d) (hgts r)
    simp only [PyData.depthAll]
    omega
end
theorem repr_ok {d : D} (h : shw d = true) (h1 : hgt d ≤ 64) (h2 : wt d ≤ 16777216) : biD .repr [d] = some (.str (py d).shown) := by
  have e : hgt d ≤ 64 ∧ (SeqAt.shaped (py d) && ((py d).showable && decide ((py d).shown.length ≤ sizeLine))) = true := by
    refine ⟨h1, ?_⟩
    rw [showable_ok d h]
    have z : (py d).shown.length ≤ sizeLine := Nat.le_trans (shown_le d h) (Nat.le_trans h2 (by decide))
    rw [decide_eq_true z]
    show (((py d).canLay0 && decide ((py d).depth ≤ 64)) && (true && true)) = true
    rw [lay_ok d h, decide_eq_true (Nat.le_trans (depth_ok d h) h1)]
    rfl
  show (if _ then _ else _) = _
  rw [if_pos e]
/-- a list of numbers -/
theorem shws_ints : ∀ {l : List Int}, (∀ x ∈ l, x.natAbs < 10 ^ 60) → shws (l.map D.int) = true
  | [], _ => rfl
  | x :: r, h => by
    show (decide (x.natAbs < 10 ^ 60) && shws (r.map D.int)) = true
    rw [decide_eq_true (h x (List.mem_cons_self ..)), shws_ints fun y hy => h y (List.mem_cons_of_mem _ hy)]
    rfl
theorem wts_ints : ∀ {l : List Int}, wts (l.map D.int) = 63 * l.length
  | [] => rfl
  | x :: r => by
    show 61 + 2 + wts (r.map D.int) = 63 * (r.length + 1)
    rw [wts_ints]; omega
theorem repr_l {l : List Int} (h : ∀ x ∈ l, x.natAbs < 10 ^ 60) (hl : l.length ≤ 200000) : biD .repr [.lst (l.map D.int)] = some (.str (py (.lst (l.map D.int))).shown) :=
  repr_ok (show shws (l.map D.int) = true from shws_ints h) (by show hgts (l.map D.int) + 1 ≤ 64; rw [hgts_ints]; decide) (by show wts (l.map D.int) + 2 ≤ 16777216; rw [wts_ints]; omega)
end Mi

set_option maxRecDepth 100000
/-! Mi, part F: what does not touch the purse runs alike with any. -/
namespace Mi
open PySem
def Fw {α : Type} (m : PW → Option (α × PW)) : Prop := ∀ a w', m [] = some (a, w') → w' = [] ∧ ∀ w, m w = some (a, w)
def Fs' (m : PW → PS') : Prop := ∀ fl σ' w', m [] = some (fl, σ', w') → w' = [] ∧ ∀ w, m w = some (fl, σ', w)
def FX (x : PX) : Prop := ∀ σ, Fw (x σ)
def FXs (x : PXs) : Prop := ∀ σ, Fw (x σ)
def FSt (s : PSt) : Prop := ∀ σ, Fs' (s σ)
def FC (C : CallsP) : Prop := ∀ f us, Fw (C f us)
section
variable {α β γ : Type}
theorem fw_pure (a : α) : Fw fun w => some (a, w) := fun b w' e => by cases e; exact ⟨rfl, fun _ => rfl⟩
theorem fw_none : Fw fun _ => (none : Option (α × PW)) := fun b w' e => by cases e
theorem fw_pb {m : PW → Option (α × PW)} {k : α → PW → Option (β × PW)} (h : Fw m) (hk : ∀ a, Fw (k a)) : Fw fun w => pb (m w) k := fun b w' e => by
  obtain ⟨a, w1, e1, e2⟩ := pb_some e
  obtain ⟨rfl, h1⟩ := h a w1 e1
  obtain ⟨rfl, h2⟩ := hk a b w' e2
  exact ⟨rfl, fun w => by show pb (m w) k = _; rw [h1 w]; exact h2 w⟩
theorem fw_ob {o : Option γ} {k : γ → PW → Option (β × PW)} (hk : ∀ a, Fw (k a)) : Fw fun w => ob o fun a => k a w := fun b w' e => by
  obtain ⟨a, e1, e2⟩ := ob_some e
  subst e1
  exact hk a b w' e2
theorem fw_pf {u : D} {p q : PW → Option (β × PW)} (hp : Fw p) (hq : Fw q) : Fw fun w => pf u (p w) (q w) := fun b w' e => by
  obtain ⟨t, e1, e2⟩ := pf_some e
  subst e1
  cases t with
  | true => exact hp b w' e2
  | false => exact hq b w' e2
theorem fs_pb {m : PW → Option (α × PW)} {k : α → PW → PS'} (h : Fw m) (hk : ∀ a, Fs' (k a)) : Fs' fun w => pb (m w) k := fun fl σ' w' e => by
  obtain ⟨a, w1, e1, e2⟩ := pb_some e
  obtain ⟨rfl, h1⟩ := h a w1 e1
  obtain ⟨rfl, h2⟩ := hk a fl σ' w' e2
  exact ⟨rfl, fun w => by show pb (m w) k = _; rw [h1 w]; exact h2 w⟩
theorem fs_ob {o : Option γ} {k : γ → PW → PS'} (hk : ∀ a, Fs' (k a)) : Fs' fun w => ob o fun a => k a w := fun fl σ' w' e => by
  obtain ⟨a, e1, e2⟩ := ob_some e
  subst e1
  exact hk a fl σ' w' e2
theorem fs_pf {u : D} {p q : PW → PS'} (hp : Fs' p) (hq : Fs' q) : Fs' fun w => pf u (p w) (q w) := fun fl σ' w' e => by
  obtain ⟨t, e1, e2⟩ := pf_some e
  subst e1
  cases t with
  | true => exact hp fl σ' w' e2
  | false => exact hq fl σ' w' e2
theorem fs_pure (fl : Pl) (σ : PE) : Fs' fun w => some (fl, σ, w) := fun b σ' w' e => by cases e; exact ⟨rfl, fun _ => rfl⟩
theorem fs_none : Fs' fun _ => none := fun b σ' w' e => by cases e
theorem fs_pbs {m : PW → PS'} {k : PE → PW → PS'} (h : Fs' m) (hk : ∀ σ, Fs' (k σ)) : Fs' fun w => pbs (m w) k := fun fl σ' w' e => by
  rcases pbs_some e with ⟨σ1, w1, e1, e2⟩ | ⟨e1, hne⟩
  · obtain ⟨rfl, h1⟩ := h _ _ _ e1
    obtain ⟨rfl, h2⟩ := hk σ1 fl σ' w' e2
    exact ⟨rfl, fun w => by show pbs (m w) k = _; rw [h1 w]; exact h2 w⟩
  · obtain ⟨rfl, h1⟩ := h _ _ _ e1
    refine ⟨rfl, fun w => ?_⟩
    show pbs (m w) k = _
    rw [h1 w]
    cases fl with
    | nx => exact absurd rfl hne
    | _ => rfl
theorem fs_pbl {m : PW → PS'} {k : PE → PW → PS'} (h : Fs' m) (hk : ∀ σ, Fs' (k σ)) : Fs' fun w => pbl (m w) k := fun fl σ' w' e => by
  obtain ⟨fl1, σ1, w1, e1, e2⟩ := pbl_some e
  obtain ⟨rfl, h1⟩ := h _ _ _ e1
  rcases e2 with ⟨hf, e2⟩ | ⟨hf, e2⟩ | ⟨d, hf, e2⟩
  · obtain ⟨rfl, h2⟩ := hk σ1 fl σ' w' e2
    refine ⟨rfl, fun w => ?_⟩
    show pbl (m w) k = _
    rw [h1 w]
    rcases hf with rfl | rfl <;> exact h2 w
  · cases e2
    subst hf
    exact ⟨rfl, fun w => by show pbl (m w) k = _; rw [h1 w]; rfl⟩
  · cases e2
    subst hf
    exact ⟨rfl, fun w => by show pbl (m w) k = _; rw [h1 w]; rfl⟩
end
theorem ixN_0 (k : Int) : L2.ixN 0 k = none := by
  unfold L2.ixN
  by_cases h : 0 ≤ k
  · rw [if_pos h, if_neg (by omega)]
  · rw [if_neg h, if_neg (by omega)]
theorem fw_sub (x y : D) : Fw fun w => ob (subP w x y) fun u => some (u, w) := fun a w' e => by
  obtain ⟨b, e1, e2⟩ := ob_some e
  have h : b = a ∧ [] = w' := by cases e2; exact ⟨rfl, rfl⟩
  obtain ⟨rfl, rfl⟩ := h
  refine ⟨rfl, fun w => ?_⟩
  have key : subP w x y = some b := by
    cases x with
    | pur =>
      have e1 : subW [] y = some b := e1
      cases y with
      | int k =>
        have e1 : (match L2.atI ([] : List Int) k with | some z => some (D.int z) | none => none) = some b := e1
        have : L2.atI ([] : List Int) k = none := by
          unfold L2.atI
          rw [show ([] : List Int).length = 0 from rfl, ixN_0]
          rfl
        rw [this] at e1; cases e1
      | _ => cases e1
    | _ => exact e1
  show ob (subP w x y) _ = _
  rw [key]; rfl
theorem fs_st1 (σ : PE) (i : Nat) (y v : D) : Fs' fun w => ob (st1D σ w i y v) fun r => some (.nx, r.1, r.2) := fun fl σ' w' e => by
  obtain ⟨⟨σ1, w1⟩, e1, e2⟩ := ob_some e
  cases e2
  rw [v_st1D] at e1
  obtain ⟨d, e3, e4⟩ := ob_some e1
  have key : w1 = [] ∧ ∀ w, stD σ w i y v d = some (σ1, w) := by
    cases d with
    | pur =>
      obtain ⟨w2, e5, e6⟩ := ob_some e4
      exfalso
      cases y with
      | int k =>
        cases v with
        | int z =>
          have e5 : (match L2.ixN ([] : PW).length k with | some j => some (([] : PW).set j z) | none => none) = some w2 := e5
          rw [show ([] : PW).length = 0 from rfl, ixN_0] at e5
          cases e5
        | _ => cases e5
      | _ => cases v <;> cases e5
    | lst xs =>
      obtain ⟨d', e5, e6⟩ := ob_some e4
      cases e6
      exact ⟨rfl, fun w => by show ob (setD (.lst xs) y v) _ = _; rw [e5]; rfl⟩
    | non => cases e4
    | bl _ => cases e4
    | int _ => cases e4
    | str _ => cases e4
    | tup _ => cases e4
  refine ⟨key.1, fun w => ?_⟩
  show ob (st1D σ w i y v) _ = _
  rw [v_st1D]
  show ob (ob (getP σ i) _) _ = _
  rw [e3]
  show ob (stD σ w i y v d) _ = _
  rw [key.2 w]; rfl
theorem fw_lcP {f : Pv → PW → Option (List D × PW)} (hf : ∀ v, Fw (f v)) : ∀ its : List Pv, Fw (lcP f its)
  | [] => fw_pure _
  | v :: r => fw_pb (hf v) fun ys => fw_pb (fw_lcP hf r) fun zs => fw_pure _
theorem fs_forP {f : Pv → PE → PW → PS'} (hf : ∀ v, FSt (f v)) : ∀ its : List Pv, FSt (forP f its)
  | [] => fun σ => fs_pure _ _
  | v :: r => fun σ => fs_pbl (hf v σ) fun σ1 => fs_forP hf r σ1
theorem fs_whP {t : PX} {f : PSt} (ht : FX t) (hf : FSt f) : ∀ k, FSt (whP t f k)
  | 0 => fun σ => fs_none
  | k + 1 => fun σ => fs_pb (ht σ) fun x => fs_pf (fs_pbl (hf σ) fun σ1 => fs_whP ht hf k σ1) (fs_pure _ _)
theorem fs_while {t : PX} {f : PSt} (ht : FX t) (hf : FSt f) : FSt (tWhile t f) := by
  unfold tWhile
  generalize whMost = n
  exact fun σ => fs_whP ht hf n σ
section
variable {C : CallsP}
theorem fw_walk {sk : Sk} {a b : PX} (ha : FX a) (hb : FX b) (σ : PE) : Fw (walkP sk a b σ) := fw_pb (ha σ) fun x => fw_pb (hb σ) fun y => fw_ob fun it => fw_pure _
theorem fw_turn {own : List Nat} {tg : Tn} {σ : PE} {c : PX} {k : PE → PW → Option (List D × PW)} (hc : FX c) (hk : ∀ σ, Fw (k σ)) (v : Pv) : Fw (turnP own tg σ c k v) := fw_ob fun σ1 => fw_pb (hc σ1) fun x => fw_pf (hk σ1) (fw_pure _)
mutual
theorem fx_all (hC : FC C) : ∀ e : Ex, FX (evP C e)
  | .var i => fun σ => fw_ob fun d => fw_pure _
  | .int _ => fun σ => fw_pure _
  | .bl _ => fun σ => fw_pure _
  | .non => fun σ => fw_pure _
  | .str _ => fun σ => fw_pure _
  | .bin _ a b => fun σ => fw_pb (fx_all hC a σ) fun x => fw_pb (fx_all hC b σ) fun y => fw_ob fun d => fw_pure _
  | .neg a => fun σ => fw_pb (fx_all hC a σ) fun x => fw_ob fun d => fw_pure _
  | .not a => fun σ => fw_pb (fx_all hC a σ) fun x => fw_ob fun d => fw_pure _
  | .and a b => fun σ => fw_pb (fx_all hC a σ) fun x => fw_pf (fx_all hC b σ) (fw_pure _)
  | .or a b => fun σ => fw_pb (fx_all hC a σ) fun x => fw_pf (fw_pure _) (fx_all hC b σ)
  | .ite c a b => fun σ => fw_pb (fx_all hC c σ) fun x => fw_pf (fx_all hC a σ) (fx_all hC b σ)
  | .cmp _ a b => fun σ => fw_pb (fx_all hC a σ) fun x => fw_pb (fx_all hC b σ) fun y => fw_ob fun d => fw_pure _
  | .chain _ _ a b c => fun σ => fw_pb (fx_all hC a σ) fun x => fw_pb (fx_all hC b σ) fun y => fw_ob fun r => fw_pf (fw_pb (fx_all hC c σ) fun z => fw_ob fun r => fw_pure _) (fw_pure _)
  | .list es => fun σ => fw_pb (fxs_all hC es σ) fun us => fw_ob fun d => fw_pure _
  | .tup es => fun σ => fw_pb (fxs_all hC es σ) fun us => fw_ob fun d => fw_pure _
  | .sub a i => fun σ => fw_pb (fx_all hC a σ) fun x => fw_pb (fx_all hC i σ) fun y => fw_sub x y
  | .slice a _ _ lo hi => fun σ => fw_pb (fx_all hC a σ) fun x => fw_pb (fx_all hC lo σ) fun l => fw_pb (fx_all hC hi σ) fun r => fw_ob fun d => fw_pure _
  | .rev a => fun σ => fw_pb (fx_all hC a σ) fun x => fw_ob fun d => fw_pure _
  | .call f es dv => fun σ => fw_pb (fxs_all hC es σ) fun us => hC f _
  | .callk f es ks _ pm => fun σ => fw_pb (fxs_all hC es σ) fun us => fw_pb (fxs_all hC ks σ) fun ws => hC f _
  | .bi _ es => fun σ => fw_pb (fxs_all hC es σ) fun us => fw_ob fun d => fw_pure _
  | .isi a _ => fun σ => fw_pb (fx_all hC a σ) fun x => fw_ob fun d => fw_pure _
  | .isi2 a _ => fun σ => fw_pb (fx_all hC a σ) fun x => fw_ob fun d => fw_pure _
  | .meth _ o es => fun σ => fw_pb (fx_all hC o σ) fun x => fw_pb (fxs_all hC es σ) fun us => fw_ob fun d => fw_pure _
  | .lrng a => fun σ => fw_pb (fx_all hC a σ) fun x => fw_ob fun d => fw_pure _
  | .lc own tg sk a b c e => fun σ => fw_pb (fw_walk (fx_all hC a) (fx_all hC b) σ) fun it => fw_pb (fw_lcP (fw_turn (fx_all hC c) fun σ1 => fw_pb (fx_all hC e σ1) fun z => fw_pure _) it) fun zs => fw_ob fun d => fw_pure _
  | .lc2 own vs tg sk a b c tg1 sk1 a1 b1 c1 e => fun σ => fw_pb (fw_walk (fx_all hC a) (fx_all hC b) σ) fun it => fw_pb (fw_lcP (fw_turn (fx_all hC c) fun σ1 =>
      fw_pb (fw_walk (fx_all hC a1) (fx_all hC b1) σ1) fun it1 => fw_lcP (fw_turn (fx_all hC c1) fun σ2 => fw_pb (fx_all hC e σ2) fun z => fw_pure _) it1) it) fun zs => fw_ob fun d => fw_pure _
theorem fxs_all (hC : FC C) : ∀ es : Exs, FXs (evPs C es)
  | .nil => fun σ => fw_pure _
  | .cons e es => fun σ => fw_pb (fx_all hC e σ) fun u => fw_pb (fxs_all hC es σ) fun us => fw_pure _
end
theorem fs_if {P : Prop} [Decidable P] {fl : Pl} {σ : PE} : Fs' fun w => if P then some (fl, σ, w) else none := by
  by_cases h : P
  · simp only [h, if_true]; exact fs_pure _ _
  · simp only [h, if_false]; exact fs_none
theorem fs_spl (hC : FC C) {n i f : Nat} {d : D} {σ : PE} : Fs' fun w => if hgt d ≤ n then ob (C f [d] w) fun _ => some (.nx, σ.set i none, w) else none := by
  by_cases h : hgt d ≤ n
  · simp only [h, if_true]
    intro fl σ' w' e
    obtain ⟨q, e1, e2⟩ := ob_some e
    cases e2
    obtain ⟨_, h2⟩ := hC f [d] q.1 q.2 e1
    exact ⟨rfl, fun w => by show ob (C f [d] w) _ = _; rw [h2 w]; rfl⟩
  · simp only [h, if_false]; exact fs_none
mutual
theorem fs_all (hC : FC C) : ∀ s : Sm, FSt (exP C s)
  | .pass => fun σ => fs_pure _ _
  | .ex e => fun σ => fs_pb (fx_all hC e σ) fun _ => fs_pure _ _
  | .set i e => fun σ => fs_pb (fx_all hC e σ) fun u => fs_pure _ _
  | .par is es => fun σ => fs_pb (fxs_all hC es σ) fun us => fs_ob fun σ1 => fs_pure _ _
  | .asg t e => fun σ => fs_pb (fx_all hC e σ) fun u => fs_ob fun σ1 => fs_pure _ _
  | .setsub _ _ _ => fun σ => fs_none
  | .parsub _ _ _ _ _ => fun σ => fs_none
  | .aug i op e => fun σ => fs_ob fun x => fs_pb (fx_all hC e σ) fun y => fs_ob fun z => fs_pure _ _
  | .ite c a b => fun σ => fs_pb (fx_all hC c σ) fun x => fs_pf (fss_all hC a σ) (fss_all hC b σ)
  | .for tg sk a b body => fun σ => fs_pb (fw_walk (fx_all hC a) (fx_all hC b) σ) fun it => fs_forP (fun v σ1 => fs_ob fun σ2 => fss_all hC body σ2) it σ
  | .while c body => fs_while (fx_all hC c) (fss_all hC body)
  | .ret e => fun σ => fs_pb (fx_all hC e σ) fun u => fs_pure _ _
  | .retn => fun σ => fs_pure _ _
  | .raise => fun σ => fs_none
  | .brk => fun σ => fs_pure _ _
  | .cnt => fun σ => fs_pure _ _
  | .mut1 m i es => fun σ => fs_pb (fxs_all hC es σ) fun us => fs_ob fun d => fs_ob fun d' => fs_pure _ _
  | .mut2 m i a es => fun σ => fs_pb (fx_all hC a σ) fun y => fs_pb (fxs_all hC es σ) fun us => fs_ob fun d => fs_ob fun c => fs_ob fun c' => fs_ob fun d' => fs_pure _ _
  | .st1 i a e => fun σ => fs_pb (fx_all hC e σ) fun v => fs_pb (fx_all hC a σ) fun y => fs_st1 σ i y v
  | .st2 i a b e => fun σ => fs_pb (fx_all hC e σ) fun v => fs_pb (fx_all hC a σ) fun y => fs_pb (fx_all hC b σ) fun z => fs_ob fun d => fs_ob fun c => fs_ob fun c' => fs_ob fun d' => fs_pure _ _
  | .sw i a j b es => fun σ => fs_pb (fxs_all hC es σ) fun us => match us with
    | [u, v] => fs_pb (fx_all hC a σ) fun y => fs_ob fun d => fs_ob fun d' => fs_pb (fx_all hC b _) fun z => fs_ob fun e => fs_ob fun e' => fs_pure _ _
    | [] => fs_none
    | [_] => fs_none
    | _ :: _ :: _ :: _ => fs_none
  | .popto i j => fun σ => fs_ob fun d => match d with
    | .lst xs => by
      show Fs' fun w => match xs[xs.length - 1]? with | some y => some (Pl.nx, (σ.set j (some (.lst xs.dropLast))).set i (some y), w) | none => none
      cases xs[xs.length - 1]? with
      | none => exact fs_none
      | some y => exact fs_pure _ _
    | .non => fs_none
    | .bl _ => fs_none
    | .int _ => fs_none
    | .str _ => fs_none
    | .pur => fs_none
    | .tup _ => fs_none
  | .mv i j => fun σ => fs_ob fun d => fs_pure _ _
  | .mutv i j => fun σ => fs_ob fun u => fs_ob fun d => fs_ob fun d' => fs_pure _ _
  | .spoil n s => by
    unfold exP
    split
    · exact fun σ => fs_pb (fx_all hC _ σ) fun d => fs_if
    · exact fun σ => fs_pb (fx_all hC _ σ) fun d => fs_if
    · exact fun σ => fs_ob fun d => fs_spl hC
    · exact fun σ => fs_ob fun d => by cases d <;> first | exact fs_none | exact fs_if
    · exact fun σ => fs_none
theorem fss_all (hC : FC C) : ∀ s : Sms, FSt (exPs C s)
  | .nil => fun σ => fs_pure _ _
  | .cons s r => fun σ => fs_pbs (fs_all hC s σ) fun σ1 => fss_all hC r σ1
end
end
theorem fc_run {C : CallsP} (hC : FC C) (d : Df) (us : List D) : Fw (runP C d us) := fun a w' e => by
  unfold runP at e
  split at e
  · rename_i hl
    split at e
    · rename_i u σ1 w1 e1
      cases e
      obtain ⟨rfl, h⟩ := fss_all hC d.body _ _ _ _ e1
      exact ⟨rfl, fun w => by unfold runP; rw [if_pos hl, h w]⟩
    · rename_i σ1 w1 e1
      cases e
      obtain ⟨rfl, h⟩ := fss_all hC d.body _ _ _ _ e1
      exact ⟨rfl, fun w => by unfold runP; rw [if_pos hl, h w]⟩
    · cases e
  · cases e
theorem fc_all (Q : Nat → Option Df) : ∀ k, FC (callP Q k)
  | 0 => fun f us => fw_none
  | k + 1 => fun f us => by
    show Fw fun w => match Q f with | some d => runP (callP Q k) d us w | none => none
    cases Q f with
    | none => exact fw_none
    | some d => exact fc_run (fc_all Q k) d us
/-- a run without a purse, checked once -/
theorem call_any {Q : Nat → Option Df} {k f : Nat} {us : List D} {d : D} (e : callP Q k f us [] = some (d, [])) (w : PW) : callP Q k f us w = some (d, w) := (fc_all Q k f us d [] e).2 w
/-- more depth -/
def isT : PR → Bool
  | some (.bl true, []) => true
  | _ => false
theorem isT_eq {o : PR} (h : isT o = true) : o = some (.bl true, []) := by
  unfold isT at h
  split at h
  · rfl
  · cases h
end Mi

set_option maxRecDepth 100000
/-! Mi, part N: counting: Pascal's rows, ballots. -/
namespace Mi
open PySem
/-- the rows by adding neighbours -/
def waysF : Nat → List Int
  | 0 => [1]
  | i + 1 => ((0 :: waysF i).zip (waysF i ++ [0])).map fun p : Int × Int => p.1 + p.2
theorem ways_len : ∀ i, (waysF i).length = i + 1
  | 0 => rfl
  | i + 1 => by
    show (((0 :: waysF i).zip (waysF i ++ [0])).map _).length = _
    rw [List.length_map, List.length_zip, List.length_append, List.length_cons, ways_len i]
    simp
theorem ways_get : ∀ (n k : Nat), k ≤ n → (waysF n)[k]? = some ((bin n k : Nat) : Int)
  | 0, 0, _ => rfl
  | n + 1, k, h => by
    have hl := ways_len n
    show (((0 :: waysF n).zip (waysF n ++ [0])).map fun p : Int × Int => p.1 + p.2)[k]? = _
    have hz : ((0 :: waysF n).zip (waysF n ++ [0]))[k]? = some (if k = 0 then 0 else ((bin n (k - 1) : Nat) : Int), if k ≤ n then ((bin n k : Nat) : Int) else 0) := by
      rw [List.getElem?_zip_eq_some]
      refine ⟨?_, ?_⟩
      · cases k with
        | zero => rfl
        | succ k =>
          show (waysF n)[k]? = _
          rw [ways_get n k (by omega)]
          rfl
      · by_cases hk : k ≤ n
        · rw [List.getElem?_append_left (by omega), ways_get n k hk]
          simp [hk]
        · rw [List.getElem?_append_right (by omega), hl, show k - (n + 1) = 0 by omega]
          simp [hk]
    rw [List.getElem?_map, hz]
    show some _ = some _
    congr 1
    cases k with
    | zero => simp [bin_0]
    | succ k =>
      show ((bin n k : Nat) : Int) + (if k + 1 ≤ n then ((bin n (k + 1) : Nat) : Int) else 0) = (((bin n k + bin n (k + 1) : Nat)) : Int)
      by_cases hk : k + 1 ≤ n
      · rw [if_pos hk]; omega
      · rw [if_neg hk, bin_gt n (k + 1) (by omega)]; omega
theorem ways_getD {n k : Nat} (h : k ≤ n) : (waysF n).getD k 0 = ((bin n k : Nat) : Int) := by
  rw [List.getD_eq_getElem?_getD, ways_get n k h]; rfl
/-- ballots: d of the one, u of the other, never behind -/
def stS (prev : Nat → Nat) (d : Nat) : Nat → Nat
  | 0 => 0
  | u + 1 => if d ≤ u then prev (u + 1) + stS prev d u else 0
def stF : Nat → Nat → Nat
  | 0 => fun _ => 1
  | d + 1 => stS (stF d) d
theorem stF_gt : ∀ (d u : Nat), u < d → stF d u = 0
  | d + 1, 0, _ => rfl
  | d + 1, u + 1, h => by
    show (if d ≤ u then _ else 0) = 0
    rw [if_neg (by omega)]
theorem stF_eq : ∀ (d u : Nat), d ≤ u → (u + 1) * stF d u = bin (u + d) d * (u - d + 1)
  | 0, u, _ => by
    show (u + 1) * 1 = bin (u + 0) 0 * (u - 0 + 1)
    rw [bin_0]; omega
  | d + 1, u + 1, h => by
    have hdu : d ≤ u := by omega
    have i1 := stF_eq d (u + 1) (by omega)
    have e0 : stF (d + 1) (u + 1) = stF d (u + 1) + stF (d + 1) u := by
      show (if d ≤ u then _ else 0) = _
      rw [if_pos hdu]; rfl
    -- b0 = bin (u+1+d) d, b1 = bin (u+1+d) (d+1)
    have hb := bin_mul (u + 1 + d) d (by omega)
    have e1 : u + 1 + d - d = u + 1 := by omega
    rw [e1] at hb
    have e2 : bin (u + 1 + (d + 1)) (d + 1) = bin (u + 1 + d) d + bin (u + 1 + d) (d + 1) := rfl
    have e3 : u + 1 - d + 1 = u - d + 2 := by omega
    have e4 : u + 1 - (d + 1) + 1 = u - d + 1 := by omega
    rw [e3] at i1
    rw [e0, e2, e4]
    have i2 : (u + 1) * stF (d + 1) u = bin (u + 1 + d) (d + 1) * (u - d) := by
      by_cases h2 : d + 1 ≤ u
      · have := stF_eq (d + 1) u h2
        rw [show u + (d + 1) = u + 1 + d by omega, show u - (d + 1) + 1 = u - d by omega] at this
        exact this
      · have h3 : u = d := by omega
        subst h3
        rw [stF_gt _ _ (by omega)]
        simp
    generalize bin (u + 1 + d) d = b0 at *
    generalize bin (u + 1 + d) (d + 1) = b1 at *
    generalize stF d (u + 1) = s1 at *
    generalize stF (d + 1) u = s2 at *
    obtain ⟨m, rfl⟩ : ∃ m, u = d + m := ⟨u - d, by omega⟩
    rw [show d + m - d = m by omega] at *
    -- (u+2) (s1+s2) = (b0+b1) (m+1)
    have goal1 : (d + m + 1) * ((d + m + 1 + 1) * (s1 + s2)) = (d + m + 1) * ((b0 + b1) * (m + 1)) := by
      have a1 : (d + m + 1) * ((d + m + 1 + 1) * s1) = (d + m + 1) * (b0 * (m + 2)) := by rw [i1]
      have a2 : (d + m + 1) * ((d + m + 1 + 1) * s2) = (d + m + 1 + 1) * (b1 * m) := by
        rw [← i2, ← Nat.mul_assoc, ← Nat.mul_assoc, Nat.mul_comm (d + m + 1) (d + m + 1 + 1)]
      have a3 : b0 * (d + m + 1) = b1 * (d + 1) := hb.symm
      have a4 : (d + m + 1) * (b0 * (m + 2)) = b1 * (d + 1) * (m + 2) := by
        rw [← Nat.mul_assoc, Nat.mul_comm (d + m + 1) b0, a3]
      have a5 : (d + m + 1) * ((b0 + b1) * (m + 1)) = b1 * (d + 1) * (m + 1) + (d + m + 1) * (b1 * (m + 1)) := by
        rw [Nat.add_mul b0 b1, Nat.mul_add (d + m + 1) (b0 * (m + 1)), ← Nat.mul_assoc (d + m + 1) b0 (m + 1), Nat.mul_comm (d + m + 1) b0, a3]
      rw [Nat.mul_add (d + m + 1 + 1), Nat.mul_add (d + m + 1), a1, a2, a4, a5]
      have q1 : b1 * (d + 1) * (m + 2) = b1 * ((d + 1) * (m + 2)) := Nat.mul_assoc ..
      have q2 : (d + m + 1 + 1) * (b1 * m) = b1 * ((d + m + 1 + 1) * m) := by rw [← Nat.mul_assoc, Nat.mul_comm (d + m + 1 + 1) b1, Nat.mul_assoc]
      have q3 : b1 * (d + 1) * (m + 1) = b1 * ((d + 1) * (m + 1)) := Nat.mul_assoc ..
      have q4 : (d + m + 1) * (b1 * (m + 1)) = b1 * ((d + m + 1) * (m + 1)) := by rw [← Nat.mul_assoc, Nat.mul_comm (d + m + 1) b1, Nat.mul_assoc]
      rw [q1, q2, q3, q4, ← Nat.mul_add, ← Nat.mul_add]
      congr 1
      simp only [Nat.add_mul, Nat.mul_add]
      omega
    exact Nat.eq_of_mul_eq_mul_left (by omega) goal1
end Mi

set_option maxRecDepth 100000
namespace Mi
open PySem
theorem bin_le : ∀ n k : Nat, bin n k ≤ 2 ^ n
  | n, 0 => by rw [bin_0]; exact Nat.one_le_two_pow
  | 0, k + 1 => Nat.zero_le _
  | n + 1, k + 1 => by
    have h1 := bin_le n k
    have h2 := bin_le n (k + 1)
    show bin n k + bin n (k + 1) ≤ 2 ^ (n + 1)
    rw [Nat.pow_succ]; omega
theorem stay_div {u d : Nat} (h : d ≤ u) : (((bin (u + d) d : Nat) : Int) * ((u : Int) - (d : Int) + 1)) / ((u : Int) + 1) = ((stF d u : Nat) : Int) := by
  have e := stF_eq d u h
  have e2 : ((bin (u + d) d : Nat) : Int) * ((u : Int) - (d : Int) + 1) = ((stF d u : Nat) : Int) * ((u : Int) + 1) := by
    rw [show (u : Int) - (d : Int) + 1 = ((u - d + 1 : Nat) : Int) by omega, show (u : Int) + 1 = ((u + 1 : Nat) : Int) by omega, ← Int.natCast_mul, ← Int.natCast_mul, ← e, Nat.mul_comm]
  rw [e2, Int.mul_ediv_cancel _ (by omega)]
theorem closed_div (p : Nat) : ((bin (2 * p) p : Nat) : Int) / ((p : Int) + 1) = ((stF p p : Nat) : Int) := by
  have := stay_div (u := p) (d := p) (Nat.le_refl _)
  rw [show p + p = 2 * p by omega, show (p : Int) - (p : Int) + 1 = 1 by omega, Int.mul_one] at this
  exact this
/-- k C(n, k) = n C(n - 1, k - 1) -/
theorem bin_up : ∀ (n k : Nat), bin (n + 1) (k + 1) * (k + 1) = bin n k * (n + 1)
  | n, 0 => by
    have h := bin_mul (n + 1) 0 (by omega)
    rw [bin_0] at h
    rw [bin_0]; omega
  | n, k + 1 => by
    by_cases hk : k + 1 ≤ n
    · have h := bin_mul n (k + 1) hk
      show (bin n (k + 1) + bin n (k + 2)) * (k + 2) = bin n (k + 1) * (n + 1)
      rw [Nat.add_mul, h, ← Nat.mul_add]
      congr 1; omega
    · rw [bin_gt n (k + 1) (by omega), bin_gt (n + 1) (k + 2) (by omega)]
      simp
/-- (n - k) C(n, k) = n C(n - 1, k) -/
theorem bin_dn (n k : Nat) (h : k ≤ n + 1) : bin (n + 1) k * (n + 1 - k) = bin n k * (n + 1) := by
  have h1 := bin_mul (n + 1) k h
  rw [← h1]
  exact bin_up n k
/-- as many peaks: the product is a multiple of n -/
theorem peak_div {p m : Nat} (h1 : 1 ≤ m) (h2 : m ≤ p) : ((((bin p m : Nat) : Int) * ((bin p (m - 1) : Nat) : Int)) / (p : Int)) * (p : Int) = ((bin p m : Nat) : Int) * ((bin p (m - 1) : Nat) : Int) := by
  obtain ⟨n, rfl⟩ : ∃ n, p = n + 1 := ⟨p - 1, by omega⟩
  obtain ⟨k, rfl⟩ : ∃ k, m = k + 1 := ⟨m - 1, by omega⟩
  rw [Nat.add_sub_cancel]
  have a1 := bin_up n k
  have a2 := bin_dn n k (by omega)
  refine Int.ediv_mul_cancel ?_
  rw [← Int.natCast_mul]
  refine Int.natCast_dvd_natCast.mpr ?_
  have e1 : bin (n + 1) (k + 1) * bin (n + 1) k * (k + 1) = (n + 1) * (bin n k * bin (n + 1) k) := by
    rw [Nat.mul_right_comm, a1, Nat.mul_right_comm, Nat.mul_comm (n + 1)]
  have e2 : bin (n + 1) (k + 1) * bin (n + 1) k * (n + 1 - k) = (n + 1) * (bin (n + 1) (k + 1) * bin n k) := by
    rw [Nat.mul_assoc, a2, ← Nat.mul_assoc, Nat.mul_comm (n + 1)]
  have e3 : (n + 1) ∣ bin (n + 1) (k + 1) * bin (n + 1) k * (n + 1 + 1) := by
    have : bin (n + 1) (k + 1) * bin (n + 1) k * (n + 1 + 1) = bin (n + 1) (k + 1) * bin (n + 1) k * (k + 1) + bin (n + 1) (k + 1) * bin (n + 1) k * (n + 1 - k) := by
      rw [← Nat.mul_add]; congr 1; omega
    rw [this, e1, e2]
    exact Nat.dvd_add (Nat.dvd_mul_right ..) (Nat.dvd_mul_right ..)
  rw [Nat.mul_add, Nat.mul_one] at e3
  exact (Nat.dvd_add_right (Nat.dvd_mul_left ..)).mp e3
theorem ret_div {p m : Nat} (h1 : 1 ≤ m) (h2 : m ≤ p) : (((m : Int) * ((bin (2 * p - m) p : Nat) : Int)) / (2 * (p : Int) - (m : Int))) * (2 * (p : Int) - (m : Int)) = (m : Int) * ((bin (2 * p - m) p : Nat) : Int) := by
  obtain ⟨k, rfl⟩ : ∃ k, p = k + 1 := ⟨p - 1, by omega⟩
  obtain ⟨n, hn⟩ : ∃ n, 2 * (k + 1) - m = n + 1 := ⟨2 * (k + 1) - m - 1, by omega⟩
  rw [hn, show 2 * ((k + 1 : Nat) : Int) - (m : Int) = ((n + 1 : Nat) : Int) by omega]
  have a1 := bin_up n k
  have a2 := bin_dn n (k + 1) (by omega)
  refine Int.ediv_mul_cancel ?_
  rw [← Int.natCast_mul]
  refine Int.natCast_dvd_natCast.mpr ?_
  -- m = (k + 1) - (n + 1 - (k + 1))
  have e : m + (n + 1 - (k + 1)) = k + 1 := by omega
  have d1 : (n + 1) ∣ bin (n + 1) (k + 1) * (k + 1) := by rw [a1]; exact Nat.dvd_mul_left ..
  have d2 : (n + 1) ∣ bin (n + 1) (k + 1) * (n + 1 - (k + 1)) := by rw [a2]; exact Nat.dvd_mul_left ..
  have e4 : bin (n + 1) (k + 1) * (k + 1) = bin (n + 1) (k + 1) * m + bin (n + 1) (k + 1) * (n + 1 - (k + 1)) := by rw [← Nat.mul_add, e]
  rw [e4] at d1
  rw [Nat.mul_comm]
  exact (Nat.dvd_add_left d2).mp d1
/-! heights that are kept low -/
def lowS (rows : List Int) : List Int := (List.range rows.length).map fun h => (if 0 < h then rows.getD (h - 1) 0 else 0) + rows.getD (h + 1) 0
def shF (rows : List Int) : List Int := ((0 :: rows).zip (rows.drop 1 ++ [0])).map fun p : Int × Int => p.1 + p.2
theorem lowS_len (rows : List Int) : (lowS rows).length = rows.length := by unfold lowS; rw [List.length_map, List.length_range]
theorem low_sh (rows : List Int) (h : rows ≠ []) : lowS rows = shF rows := by
  have hl : 0 < rows.length := List.length_pos_iff.mpr h
  refine List.ext_getElem ?_ fun i h1 h2 => ?_
  · rw [lowS_len]
    unfold shF
    rw [List.length_map, List.length_zip, List.length_append, List.length_drop, List.length_cons, List.length_singleton]
    omega
  · have h1' : i < rows.length := by rwa [lowS_len] at h1
    have e1 : (lowS rows)[i] = (if 0 < i then rows.getD (i - 1) 0 else 0) + rows.getD (i + 1) 0 := by
      simp only [lowS, List.getElem_map, List.getElem_range]
    have hz : i < (rows.drop 1 ++ [0]).length := by rw [List.length_append, List.length_drop, List.length_singleton]; omega
    have e2 : (shF rows)[i] = (0 :: rows)[i]'(by rw [List.length_cons]; omega) + (rows.drop 1 ++ [0])[i] := by
      simp only [shF, List.getElem_map, List.getElem_zip]
    rw [e1, e2]
    congr 1
    · cases i with
      | zero => rfl
      | succ i =>
        rw [if_pos (Nat.succ_pos _), List.getElem_cons_succ, Nat.add_sub_cancel, List.getD_eq_getElem?_getD, List.getElem?_eq_getElem (by omega)]; rfl
    · by_cases hi : i + 1 < rows.length
      · rw [List.getElem_append_left (by rw [List.length_drop]; omega), List.getElem_drop, List.getD_eq_getElem?_getD, List.getElem?_eq_getElem hi]
        show rows[i + 1] = rows[1 + i]
        congr 1; omega
      · rw [List.getElem_append_right (by rw [List.length_drop]; omega), List.getD_eq_getElem?_getD, List.getElem?_eq_none (by omega)]
        simp
def lowN (rows : List Int) : Nat → List Int
  | 0 => rows
  | i + 1 => lowS (lowN rows i)
def shN (rows : List Int) : Nat → List Int
  | 0 => rows
  | i + 1 => shF (shN rows i)
theorem lowN_len (rows : List Int) : ∀ i, (lowN rows i).length = rows.length
  | 0 => rfl
  | i + 1 => by
    show (lowS _).length = _
    rw [lowS_len, lowN_len rows i]
theorem lowN_sh (rows : List Int) (h : rows ≠ []) : ∀ i, lowN rows i = shN rows i
  | 0 => rfl
  | i + 1 => by
    have hne : lowN rows i ≠ [] := fun e => by
      have := lowN_len rows i
      rw [e] at this
      exact h (List.eq_nil_of_length_eq_zero this.symm)
    show lowS (lowN rows i) = shF (shN rows i)
    rw [low_sh _ hne, lowN_sh rows h i]
/-- a slice of at most one -/
theorem cut_nat {α : Type} (xs : List α) (a b : Nat) : cut xs (some (a : Int)) (some (b : Int)) = (xs.drop a).take (b - a) := by
  unfold cut
  rw [HT.sIx_nat, HT.sIx_nat]
  by_cases h : a ≤ xs.length
  · rw [Nat.min_eq_left h]
    by_cases h2 : b ≤ xs.length
    · rw [Nat.min_eq_left h2]
    · rw [Nat.min_eq_right (by omega), List.take_of_length_le (l := xs.drop a) (i := xs.length - a) (by rw [List.length_drop]; omega), List.take_of_length_le (by rw [List.length_drop]; omega)]
  · rw [List.drop_eq_nil_of_le (as := xs) (i := min a xs.length) (by omega), List.drop_eq_nil_of_le (as := xs) (i := a) (by omega)]
    simp
theorem cut_one (xs : List Int) (a : Nat) : (cut xs (some (a : Int)) (some ((a : Int) + 1))).sum = xs.getD a 0 := by
  rw [show (a : Int) + 1 = ((a + 1 : Nat) : Int) by omega, cut_nat, show a + 1 - a = 1 by omega, List.getD_eq_getElem?_getD]
  by_cases h : a < xs.length
  · rw [List.drop_eq_getElem_cons h, List.getElem?_eq_getElem h, List.take_succ_cons, List.take_zero]
    simp
  · rw [List.drop_eq_nil_of_le (by omega), List.getElem?_eq_none (by omega)]
    simp
theorem cut_mapI (l : List Int) (lo hi : Option Int) : cut (l.map D.int) lo hi = (cut l lo hi).map D.int := cut_map D.int l lo hi
theorem d_slice {xs : List D} {lo hi : Int} : sliceD (.lst xs) true true (.int lo) (.int hi) = some (.lst (cut xs (some lo) (some hi))) := Eq.trans rfl rfl
/-- lists of numbers, read off -/
theorem intsD_some : ∀ {xs : List D} {l : List Int}, intsD xs = some l → xs = l.map D.int
  | [], l, h => by cases h; rfl
  | x :: r, l, h => by
    cases x with
    | int i =>
      have h : (match intsD r with | some l => some (i :: l) | none => none) = some l := h
      cases hr : intsD r with
      | none => rw [hr] at h; cases h
      | some l' => rw [hr] at h; cases h; rw [intsD_some hr]; rfl
    | _ => cases h
end Mi

set_option maxRecDepth 100000
/-! Mi, part X: what _law_exact asks of values. -/
namespace Mi
open PySem
theorem two_self (xs : List D) : two xs xs = xs.map fun x => .two x x := by
  induction xs with
  | nil => rfl
  | cons x r ih =>
    show Pv.two x x :: two r r = _
    rw [ih]; rfl
theorem sizes_le {xs : List D} {n : Nat} (h : xs.length ≤ n) (hn : n ≤ 16777216) : xs.length ≤ sizeLine := Nat.le_trans h (Nat.le_trans hn (by decide))





mutual
def ln : D → Bool
  | .lst xs => decide (xs.length ≤ 1000000) && lns xs
  | .tup xs => decide (xs.length ≤ 1000000) && lns xs
  | _ => true
def lns : List D → Bool
  | [] => true
  | x :: r => ln x && lns r
end
theorem lns_all : ∀ {xs : List D}, lns xs = true → ∀ x ∈ xs, ln x = true
  | y :: r, h, x, hx => by
    have h : (ln y && lns r) = true := h
    rw [Bool.and_eq_true] at h
    rcases List.mem_cons.mp hx with e | hx
    · subst e; exact h.1
    · exact lns_all h.2 x hx
theorem dgs_all : ∀ {xs : List D}, dgs xs = true → ∀ x ∈ xs, dg x = true
  | y :: r, h, x, hx => by
    have h : (dg y && dgs r) = true := h
    rw [Bool.and_eq_true] at h
    rcases List.mem_cons.mp hx with e | hx
    · subst e; exact h.1
    · exact dgs_all h.2 x hx
theorem hgts_all : ∀ {xs : List D}, ∀ x ∈ xs, hgt x ≤ hgts xs
  | y :: r, x, hx => by
    show hgt x ≤ max (hgt y) (hgts r)
    rcases List.mem_cons.mp hx with e | hx
    · subst e; omega
    · have := hgts_all (xs := r) x hx; omega
theorem lns_ints : ∀ l : List Int, lns (l.map D.int) = true
  | [] => rfl
  | i :: r => by
    show (true && lns (r.map D.int)) = true
    rw [lns_ints r]; rfl
theorem ln_ints {l : List Int} (h : l.length ≤ 1000000) : ln (.lst (l.map D.int)) = true := by
  show (decide ((l.map D.int).length ≤ 1000000) && lns (l.map D.int)) = true
  rw [List.length_map, decide_eq_true h, lns_ints]; rfl
theorem dg_ints (l : List Int) : dg (.lst (l.map D.int)) = true := Fa.int.dgs l

/-! ### slices -/
theorem d_sliceR {xs : List D} {l : D} {hi : Int} : sliceD (.lst xs) false true l (.int hi) = some (.lst (cut xs none (some hi))) := Eq.trans rfl rfl
theorem d_sliceL {xs : List D} {r : D} {lo : Int} : sliceD (.lst xs) true false (.int lo) r = some (.lst (cut xs (some lo) none)) := Eq.trans rfl rfl
theorem cut_take {α : Type} (xs : List α) (b : Nat) : cut xs none (some (b : Int)) = xs.take b := by
  have := cut_nat xs 0 b
  rw [Nat.sub_zero, List.drop_zero] at this
  rw [← this]; rfl
theorem cut_drop {α : Type} (xs : List α) (b : Nat) : cut xs (some (b : Int)) none = xs.drop b := by
  have := cut_nat xs b xs.length
  rw [List.take_of_length_le (by rw [List.length_drop]; exact Nat.le_refl _)] at this
  rw [← this]
  unfold cut
  have e : HT.sIx xs.length xs.length (some (xs.length : Int)) = HT.sIx xs.length xs.length none := by
    rw [HT.sIx_nat, HT.sIx_none, Nat.min_self]
  rw [e]
theorem atI_last {l : List Int} (h : l ≠ []) : L2.atI (l.map D.int) (-1) = some (.int (l.getLastD 0)) := by
  have hl : 0 < l.length := List.length_pos_iff.mpr h
  unfold L2.atI
  have e : L2.ixN (l.map D.int).length (-1) = some (l.length - 1) := by
    rw [List.length_map]
    unfold L2.ixN
    simp
    omega
  rw [e]
  show (l.map D.int)[l.length - 1]? = _
  rw [List.getElem?_map, List.getLastD_eq_getLast?, List.getLast?_eq_getElem?, List.getElem?_eq_getElem (by omega)]
  rfl
/-! ### comprehensions that draw -/
theorem lcP_pur {α β : Type} {f : Pv → PW → Option (List D × PW)} {enc : α → Pv} (g : β → D) (P : β → Prop) (m : Nat) : ∀ (l : List α), (∀ a ∈ l, ∀ w n, Pw (n + m) w → ∃ (b : β) (w' : PW), f (enc a) w = some ([g b], w') ∧ P b ∧ Pw n w') →
    ∀ (w : PW) (n : Nat), Pw (n + m * l.length) w → ∃ (bs : List β) (w' : PW), lcP f (l.map enc) w = some (bs.map g, w') ∧ bs.length = l.length ∧ (∀ b ∈ bs, P b) ∧ Pw n w'
  | [], _, w, n, pw => ⟨[], w, rfl, rfl, (fun b hb => nomatch hb), pw⟩
  | a :: r, h, w, n, pw => by
    obtain ⟨b, w1, e1, p1, pw1⟩ := h a (List.mem_cons_self ..) w (n + m * r.length) (by
      rw [List.length_cons, Nat.mul_succ] at pw
      rwa [Nat.add_assoc])
    obtain ⟨bs, w2, e2, hl, hp, pw2⟩ := lcP_pur g P m r (fun a ha => h a (List.mem_cons_of_mem _ ha)) w1 n pw1
    refine ⟨b :: bs, w2, ?_, by rw [List.length_cons, hl]; rfl, fun c hc => ?_, pw2⟩
    · show pb (f (enc a) w) (fun z w1 => pb (lcP f (r.map enc) w1) fun zs w2 => some (z ++ zs, w2)) = _
      rw [e1]
      show pb (lcP f (r.map enc) w1) _ = _
      rw [e2]
      rfl
    · rcases List.mem_cons.mp hc with rfl | hc
      · exact p1
      · exact hp c hc
theorem Pw_mono {a b : Nat} {w : PW} (h : a ≤ b) (p : Pw b w) : Pw a w := by
  obtain ⟨b', s, t, a', rfl, h1, h2, h3, h4, h5, h6, h7, h8⟩ := p.ex
  exact ⟨b', s, t, a', rfl, h1, h2, h3, h4, h5, by omega, h7, h8⟩
theorem whF_S {C : CallsP} {c : Ex} {body : Sms} {k : Nat} {σ : PE} {w : PW} : whF C c body (k + 1) σ w = pbF (evP C c σ w) fun x w1 => pfF x (pblF (exPs C body σ w1) fun σ1 w2 => whF C c body k σ1 w2) (some (.nx, σ, w1)) := Eq.trans rfl rfl
theorem wh_end {C : CallsP} {c : Ex} {body : Sms} {k : Nat} {σ : PE} {w w1 : PW} (e : evP C c σ w = some (.bl false, w1)) : whF C c body (k + 1) σ w = some (.nx, σ, w1) := by
  rw [whF_S, e]; rfl
theorem wh_on {C : CallsP} {c : Ex} {body : Sms} {k : Nat} {σ σ1 : PE} {w w1 w2 : PW} (e : evP C c σ w = some (.bl true, w1)) (e2 : exPs C body σ w1 = some (.nx, σ1, w2)) : whF C c body (k + 1) σ w = whF C c body k σ1 w2 := by
  rw [whF_S, e]
  show pblF (exPs C body σ w1) _ = _
  rw [e2]; rfl
theorem small_size {n : Nat} (h : n ≤ 1000000) : n < sizeLine := Nat.lt_of_le_of_lt h (by decide)
theorem small_wh {n : Nat} (h : n ≤ 1000000) : n < whMost := Nat.lt_of_le_of_lt h (by decide)
/-- a state that is folded, beside what nobody asks -/
theorem forP_acc {α S X : Type} {w : PW} {f : Pv → PE → PW → PS'} {enc : α → Pv} (E : S → X → PE) (g : S → α → S) (P : List α → S → Prop) (step : ∀ a r s x, P (a :: r) s → (∃ x', f (enc a) (E s x) w = some (.nx, E (g s a) x', w)) ∧ P r (g s a)) :
    ∀ (l : List α) (s : S) (x : X), P l s → ∃ x', forP f (l.map enc) (E s x) w = some (.nx, E (l.foldl g s) x', w)
  | [], s, x, _ => ⟨x, rfl⟩
  | a :: r, s, x, h => by
    obtain ⟨⟨x1, e1⟩, h1⟩ := step a r s x h
    obtain ⟨x2, e2⟩ := forP_acc E g P step r (g s a) x1 h1
    refine ⟨x2, ?_⟩
    show pbl (f (enc a) (E s x) w) _ = _
    rw [e1]; exact e2
theorem d_allM {α : Type} {l : List α} {p : α → Bool} : biD .all [.lst (l.map fun a => D.bl (p a))] = some (.bl (l.all p)) := by
  have := d_all (l := l.map p)
  rw [List.map_map] at this
  rw [show (l.map fun a => D.bl (p a)) = l.map (D.bl ∘ p) from rfl, this, List.all_map]
  rfl
theorem d_anyM {α : Type} {l : List α} {p : α → Bool} : biD .any [.lst (l.map fun a => D.bl (p a))] = some (.bl (l.any p)) := by
  have := d_any (l := l.map p)
  rw [List.map_map] at this
  rw [show (l.map fun a => D.bl (p a)) = l.map (D.bl ∘ p) from rfl, this, List.any_map]
  rfl
theorem le_size {n : Nat} (h : n ≤ 1000000) : n ≤ sizeLine := Nat.le_of_lt (small_size h)
theorem d_eqstr {a : Str} : cmpD .eq (.str a) (.str a) = some true := by
  show eqU h00 (.str a) (.str a) = some true
  unfold eqU
  rw [if_pos (show sc (.str a) (.str a) = true from rfl)]
  simp
theorem d_countI {l : List Int} {i : Int} : meD .count (.lst (l.map D.int)) [.int i] = some (.int (l.count i)) := by
  show (match intsD (l.map D.int) with | none => none | some l => some (D.int (l.count i))) = _
  rw [intsD_map]
/-! what is spoilt -/
theorem v_spl {C : CallsP} {σ : PE} {w : PW} {n i f : Nat} : exP C (.spoil n (.ex (.call f (.cons (.var i) .nil) []))) σ w = obF (getP σ i) fun d => if hgt d ≤ n then obF (C f [d] w) fun _ => some (.nx, σ.set i none, w) else none := Eq.trans rfl rfl
def appF (n x y i : Nat) (σ : PE) (w : PW) (d : D) : PS' := match d with
  | .lst ds => if appOk n x y i σ ds = true then some (.nx, (σ.set i none).set x none, w) else none
  | _ => none
theorem v_app {C : CallsP} {σ : PE} {w : PW} {n x i y : Nat} {s : Str} : exP C (.spoil n (.for (.nm x) .seq (.var i) .non (.cons (.mut1 .append y (.cons (.str s) .nil)) .nil))) σ w = obF (getP σ i) fun d => appF n x y i σ w d := Eq.trans rfl rfl
theorem v_appF {σ : PE} {w : PW} {n x y i : Nat} {ds : List D} : appF n x y i σ w (.lst ds) = if appOk n x y i σ ds = true then some (.nx, (σ.set i none).set x none, w) else none := Eq.trans rfl rfl
/-! ranges to any number -/
theorem i_rngZ {z : Int} {y : D} (h1 : -(2 ^ 62) ≤ z) (h2 : z < 2 ^ 62) : itemsD .rng1 (.int z) y = some ((List.range z.toNat).map fun j : Nat => .one (.int (j : Int))) := by
  show (if -(2 ^ 62) ≤ z ∧ z < 2 ^ 62 then some (upR 0 z.toNat) else none) = _
  rw [if_pos ⟨h1, h2⟩, upR_range]
  simp
theorem cut_init {α : Type} (l : List α) : cut l none (some (-1)) = l.dropLast := by
  unfold cut
  have e1 : HT.sIx l.length 0 none = 0 := rfl
  have e2 : HT.sIx l.length l.length (some (-1)) = l.length - 1 := by
    show (if (-1 : Int) < 0 then ((-1 : Int) + (l.length : Int)).toNat else min (-1 : Int).toNat l.length) = _
    rw [if_pos (by decide)]
    omega
  rw [e1, e2, List.drop_zero, Nat.sub_zero, List.dropLast_eq_take]
end Mi

set_option maxRecDepth 100000
/-! Mi, part D: equality of plain values by computation; runs cut in parts. -/
namespace Mi
open PySem
mutual
def beqD : D → D → Bool
  | .non, .non => true
  | .bl a, .bl b => a == b
  | .int a, .int b => decide (a = b)
  | .str a, .str b => decide (a = b)
  | .pur, .pur => true
  | .lst a, .lst b => beqDs a b
  | .tup a, .tup b => beqDs a b
  | _, _ => false
def beqDs : List D → List D → Bool
  | [], [] => true
  | a :: r, b :: s => beqD a b && beqDs r s
  | _, _ => false
end
mutual
theorem beqD_eq : ∀ {a b : D}, beqD a b = true → a = b
  | .non, .non, _ => rfl
  | .bl a, .bl b, h => by rw [eq_of_beq (show (a == b) = true from h)]
  | .int a, .int b, h => by rw [of_decide_eq_true (show decide (a = b) = true from h)]
  | .str a, .str b, h => by rw [of_decide_eq_true (show decide (a = b) = true from h)]
  | .pur, .pur, _ => rfl
  | .lst a, .lst b, h => by rw [beqDs_eq (show beqDs a b = true from h)]
  | .tup a, .tup b, h => by rw [beqDs_eq (show beqDs a b = true from h)]
  | .non, .bl _, h => by cases h
  | .non, .int _, h => by cases h
  | .non, .str _, h => by cases h
  | .non, .pur, h => by cases h
  | .non, .lst _, h => by cases h
  | .non, .tup _, h => by cases h
  | .bl _, .non, h => by cases h
  | .bl _, .int _, h => by cases h
  | .bl _, .str _, h => by cases h
  | .bl _, .pur, h => by cases h
  | .bl _, .lst _, h => by cases h
  | .bl _, .tup _, h => by cases h
  | .int _, .non, h => by cases h
  | .int _, .bl _, h => by cases h
  | .int _, .str _, h => by cases h
  | .int _, .pur, h => by cases h
  | .int _, .lst _, h => by cases h
  | .int _, .tup _, h => by cases h
  | .str _, .non, h => by cases h
  | .str _, .bl _, h => by cases h
  | .str _, .int _, h => by cases h
  | .str _, .pur, h => by cases h
  | .str _, .lst _, h => by cases h
  | .str _, .tup _, h => by cases h
  | .pur, .non, h => by cases h
  | .pur, .bl _, h => by cases h
  | .pur, .int _, h => by cases h
  | .pur, .str _, h => by cases h
  | .pur, .lst _, h => by cases h
  | .pur, .tup _, h => by cases h
  | .lst _, .non, h => by cases h
  | .lst _, .bl _, h => by cases h
  | .lst _, .int _, h => by cases h
  | .lst _, .str _, h => by cases h
  | .lst _, .pur, h => by cases h
  | .lst _, .tup _, h => by cases h
  | .tup _, .non, h => by cases h
  | .tup _, .bl _, h => by cases h
  | .tup _, .int _, h => by cases h
  | .tup _, .str _, h => by cases h
  | .tup _, .pur, h => by cases h
  | .tup _, .lst _, h => by cases h
theorem beqDs_eq : ∀ {a b : List D}, beqDs a b = true → a = b
  | [], [], _ => rfl
  | a :: r, b :: s, h => by
    have h : (beqD a b && beqDs r s) = true := h
    rw [Bool.and_eq_true] at h
    rw [beqD_eq h.1, beqDs_eq h.2]
  | [], _ :: _, h => by cases h
  | _ :: _, [], h => by cases h
end
/-- a run without a purse gives this value -/
def isV (d : D) : PR → Bool
  | some (e, []) => beqD e d
  | _ => false
theorem isV_eq {d : D} {o : PR} (h : isV d o = true) : o = some (d, []) := by
  unfold isV at h
  split at h
  · rw [beqD_eq h]
  · cases h
theorem ex_any {Q : Nat → Option Df} {k : Nat} {s : Sms} {σ σ' : PE} {fl : Pl} (e : exPs (callP Q k) s σ [] = some (fl, σ', [])) (w : PW) : exPs (callP Q k) s σ w = some (fl, σ', w) := (fss_all (fc_all Q k) s σ fl σ' [] e).2 w
theorem ev_any {Q : Nat → Option Df} {k : Nat} {s : Ex} {σ : PE} {d : D} (e : evP (callP Q k) s σ [] = some (d, [])) (w : PW) : evP (callP Q k) s σ w = some (d, w) := (fx_all (fc_all Q k) s σ d [] e).2 w
def beqE : PE → PE → Bool
  | [], [] => true
  | none :: r, none :: s => beqE r s
  | some a :: r, some b :: s => beqD a b && beqE r s
  | _, _ => false
theorem beqE_eq : ∀ {a b : PE}, beqE a b = true → a = b
  | [], [], _ => rfl
  | none :: r, none :: s, h => by rw [beqE_eq (a := r) (b := s) h]
  | some a :: r, some b :: s, h => by
    have h : (beqD a b && beqE r s) = true := h
    rw [Bool.and_eq_true] at h
    rw [beqD_eq h.1, beqE_eq h.2]
  | [], none :: _, h => by cases h
  | [], some _ :: _, h => by cases h
  | none :: _, [], h => by cases h
  | some _ :: _, [], h => by cases h
  | none :: _, some _ :: _, h => by cases h
  | some _ :: _, none :: _, h => by cases h
def isN (σ' : PE) : PS' → Bool
  | some (.nx, σ, []) => beqE σ σ'
  | _ => false
theorem isN_eq {σ' : PE} {o : PS'} (h : isN σ' o = true) : o = some (.nx, σ', []) := by
  unfold isN at h
  split at h
  · rw [beqE_eq h]
  · cases h
/-- a run comes back with this -/
def isR (d : D) : PS' → Bool
  | some (.rt e, _, []) => beqD e d
  | _ => false
theorem isR_eq {d : D} {o : PS'} (h : isR d o = true) : ∃ σ, o = some (.rt d, σ, []) := by
  unfold isR at h
  split at h
  · rw [beqD_eq h]; exact ⟨_, rfl⟩
  · cases h
end Mi

set_option maxRecDepth 100000
/-! roads in plain Lean: heights, closed roads, their parts -/
namespace Rd
/-- heights behind each step -/
def psF (h : Int) : List Int → List Int
  | [] => []
  | x :: r => (h + x) :: psF (h + x) r
def hts (l : List Int) : List Int := 0 :: psF 0 l
theorem psF_len : ∀ (l : List Int) (h : Int), (psF h l).length = l.length
  | [], _ => rfl
  | x :: r, h => by show (psF (h + x) r).length + 1 = _; rw [psF_len r]; rfl
theorem hts_len (l : List Int) : (hts l).length = l.length + 1 := by unfold hts; rw [List.length_cons, psF_len]
theorem psF_app : ∀ (l m : List Int) (h : Int), psF h (l ++ m) = psF h l ++ psF (h + l.sum) m
  | [], m, h => by simp [psF]
  | x :: r, m, h => by
    show (h + x) :: psF (h + x) (r ++ m) = (h + x) :: (psF (h + x) r ++ psF (h + (x :: r).sum) m)
    rw [psF_app r m, List.sum_cons, Int.add_assoc]
theorem psF_shift : ∀ (l : List Int) (h c : Int), psF (h + c) l = (psF h l).map (· + c)
  | [], h, c => rfl
  | x :: r, h, c => by
    show (h + c + x) :: psF (h + c + x) r = ((h + x) + c) :: (psF (h + x) r).map (· + c)
    rw [show h + c + x = h + x + c by omega, psF_shift r (h + x) c]
def isStep (x : Int) : Prop := x = 1 ∨ x = -1
structure Rd (l : List Int) : Prop where
  st : ∀ x ∈ l, x = 1 ∨ x = -1
/-- going from height h, never below 0, ends at 0 -/
structure Dn (h : Int) (l : List Int) : Prop where
  st : ∀ x ∈ l, x = 1 ∨ x = -1
  nn : ∀ x ∈ psF h l, 0 ≤ x
  sm : h + l.sum = 0
abbrev Cl (l : List Int) : Prop := Dn 0 l
theorem Dn.nil : Dn 0 [] := ⟨(fun _ h => nomatch h), (fun _ h => nomatch h), rfl⟩
theorem Dn.tail {h x : Int} {r : List Int} (d : Dn h (x :: r)) : Dn (h + x) r :=
  ⟨fun y hy => d.st y (List.mem_cons_of_mem _ hy), fun y hy => d.nn y (List.mem_cons_of_mem _ hy), by have := d.sm; rw [List.sum_cons] at this; omega⟩
theorem Dn.head {h x : Int} {r : List Int} (d : Dn h (x :: r)) : 0 ≤ h + x := d.nn _ (List.mem_cons_self ..)
theorem Dn.cons {h x : Int} {r : List Int} (hx : x = 1 ∨ x = -1) (h0 : 0 ≤ h + x) (d : Dn (h + x) r) : Dn h (x :: r) := by
  refine ⟨fun y hy => ?_, fun y hy => ?_, ?_⟩
  · rcases List.mem_cons.mp hy with e | e
    · subst e; exact hx
    · exact d.st y e
  · rcases List.mem_cons.mp hy with e | e
    · subst e; exact h0
    · exact d.nn y e
  · have := d.sm
    rw [List.sum_cons]; omega
theorem Dn.app {h : Int} {a b : List Int} (ha : Dn 0 a) (hh : 0 ≤ h) (hb : Dn h b) : Dn h (a ++ b) := by
  have es : a.sum = 0 := by have := ha.sm; omega
  refine ⟨fun x hx => ?_, fun x hx => ?_, ?_⟩
  · rcases List.mem_append.mp hx with e | e
    · exact ha.st x e
    · exact hb.st x e
  · rw [psF_app, es, Int.add_zero] at hx
    rcases List.mem_append.mp hx with e | e
    · have e2 := psF_shift a 0 h
      rw [Int.zero_add] at e2
      rw [e2] at e
      obtain ⟨y, hy, rfl⟩ := List.mem_map.mp e
      have := ha.nn y hy
      omega
    · exact hb.nn x e
  · rw [List.sum_append, es]; have := hb.sm; omega
/-- the first step down from where one stands, to below -/
theorem Dn.first : ∀ (n : Nat) (h : Int) (m : List Int), m.length ≤ n → 1 ≤ h → Dn h m → ∃ a r, m = a ++ -1 :: r ∧ Cl a ∧ Dn (h - 1) r
  | 0, h, m, hn, hh, d => by
    cases m with
    | nil => exact absurd d.sm (by rw [List.sum_nil]; omega)
    | cons x r => simp at hn
  | n + 1, h, m, hn, hh, d => by
    cases m with
    | nil => exact absurd d.sm (by rw [List.sum_nil]; omega)
    | cons x r =>
      rw [List.length_cons] at hn
      rcases d.st x (List.mem_cons_self ..) with e | e
      · subst e
        obtain ⟨a1, r1, e1, c1, d1⟩ := Dn.first n (h + 1) r (by omega) (by omega) d.tail
        rw [show h + 1 - 1 = h by omega] at d1
        have hl := congrArg List.length e1
        rw [List.length_append, List.length_cons] at hl
        obtain ⟨a2, r2, e2, c2, d2⟩ := Dn.first n h r1 (by omega) hh d1
        refine ⟨1 :: (a1 ++ -1 :: a2), r2, ?_, ?_, d2⟩
        · rw [e1, e2]; simp
        · refine Dn.cons (.inl rfl) (by decide) ?_
          exact Dn.app c1 (by decide) (Dn.cons (.inr rfl) (by decide) c2)
      · subst e
        exact ⟨[], r, rfl, Dn.nil, by have := d.tail; rwa [show h + -1 = h - 1 by omega] at this⟩
/-- a closed road that has steps: its first part, raised, and the rest -/
theorem Dn.split {l : List Int} (c : Cl l) (hl : l ≠ []) : ∃ a r, l = 1 :: (a ++ -1 :: r) ∧ Cl a ∧ Cl r := by
  cases l with
  | nil => exact absurd rfl hl
  | cons x m =>
    have hx : x = 1 := by
      have := c.head
      rcases c.st x (List.mem_cons_self ..) with e | e <;> omega
    subst hx
    obtain ⟨a, r, e, ca, dr⟩ := Dn.first m.length (0 + 1) m (Nat.le_refl _) (by decide) c.tail
    exact ⟨a, r, by rw [e], ca, by simpa using dr⟩
def raiseF (a : List Int) : List Int := 1 :: (a ++ [-1])
theorem raise_app (a r : List Int) : raiseF a ++ r = 1 :: (a ++ -1 :: r) := by unfold raiseF; simp
theorem Dn.raise {a : List Int} (c : Cl a) : Cl (raiseF a) := by
  refine Dn.cons (.inl rfl) (by decide) (Dn.app c (by decide) (Dn.cons (.inr rfl) (by decide) Dn.nil))
/-- the parts of a closed road -/
theorem Dn.parts : ∀ (n : Nat) (l : List Int), l.length ≤ n → Cl l → ∃ ps : List (List Int), l = ps.flatMap raiseF ∧ ∀ p ∈ ps, Cl p
  | 0, l, hn, c => by
    have : l = [] := List.eq_nil_of_length_eq_zero (by omega)
    exact ⟨[], by rw [this]; rfl, (fun p h => nomatch h)⟩
  | n + 1, l, hn, c => by
    by_cases hl : l = []
    · exact ⟨[], by rw [hl]; rfl, fun p h => nomatch h⟩
    · obtain ⟨a, r, e, ca, cr⟩ := c.split hl
      have hlen := congrArg List.length e
      rw [List.length_cons, List.length_append, List.length_cons] at hlen
      obtain ⟨ps, e2, h2⟩ := Dn.parts n r (by omega) cr
      refine ⟨a :: ps, ?_, fun p hp => ?_⟩
      · rw [List.flatMap_cons, raise_app, ← e2, e]
      · rcases List.mem_cons.mp hp with e | e
        · subst e; exact ca
        · exact h2 p e
/-- one step of putting the parts together -/
def pstep (road : List Int) (s : List (List Int) × Nat) (p : Int × Nat) : List (List Int) × Nat :=
  if 0 < p.2 ∧ p.1 = 0 then (s.1 ++ [(road.take (p.2 - 1)).drop (s.2 + 1)], p.2) else s
theorem pstep_skip (road : List Int) : ∀ (z : List Int) (b : Nat) (s : List (List Int) × Nat), (∀ x ∈ z, x ≠ 0) → (z.zipIdx b).foldl (pstep road) s = s
  | [], b, s, h => rfl
  | x :: r, b, s, h => by
    rw [List.zipIdx_cons, List.foldl_cons]
    have e : pstep road s (x, b) = s := by
      unfold pstep
      rw [if_neg (fun z => h x (List.mem_cons_self ..) z.2)]
    rw [e]
    exact pstep_skip road r (b + 1) s fun y hy => h y (List.mem_cons_of_mem _ hy)
theorem up_ne {a : List Int} (c : Cl a) : ∀ x ∈ psF 1 a, x ≠ 0 := fun x hx => by
  have e := psF_shift a 0 1
  rw [Int.zero_add] at e
  rw [e] at hx
  obtain ⟨y, hy, rfl⟩ := List.mem_map.mp hx
  have := c.nn y hy
  omega
theorem parts_fold : ∀ (ps : List (List Int)) (pre : List Int) (found : List (List Int)), (∀ p ∈ ps, Cl p) →
    ((psF 0 (ps.flatMap raiseF)).zipIdx (pre.length + 1)).foldl (pstep (pre ++ ps.flatMap raiseF)) (found, pre.length) = (found ++ ps, pre.length + (ps.flatMap raiseF).length)
  | [], pre, found, _ => by simp [psF]
  | a :: ps, pre, found, h => by
    have ca := h a (List.mem_cons_self ..)
    have sa : a.sum = 0 := by have := ca.sm; omega
    rw [List.flatMap_cons]
    have e1 : psF 0 (raiseF a ++ ps.flatMap raiseF) = (1 :: psF 1 a) ++ (0 :: psF 0 (ps.flatMap raiseF)) := by
      rw [raise_app]
      show (0 + 1 : Int) :: psF (0 + 1) (a ++ -1 :: _) = _
      rw [psF_app, sa]
      rfl
    have e2 : pre ++ (raiseF a ++ ps.flatMap raiseF) = (pre ++ raiseF a) ++ ps.flatMap raiseF := by rw [List.append_assoc]
    have hlr : (raiseF a).length = a.length + 2 := by unfold raiseF; simp
    have hlp : (pre ++ raiseF a).length = pre.length + 1 + (1 :: psF 1 a).length := by
      rw [List.length_append, List.length_cons, psF_len, hlr]; omega
    rw [e1, List.zipIdx_append, List.foldl_append, pstep_skip _ (1 :: psF 1 a) _ _ (fun x hx => by
      rcases List.mem_cons.mp hx with e | e
      · subst e; decide
      · exact up_ne ca x e), List.zipIdx_cons, List.foldl_cons, ← hlp]
    have e3 : pstep (pre ++ (raiseF a ++ ps.flatMap raiseF)) (found, pre.length) (0, (pre ++ raiseF a).length) = (found ++ [a], (pre ++ raiseF a).length) := by
      unfold pstep
      rw [if_pos ⟨by rw [hlp]; omega, rfl⟩]
      congr 2
      congr 1
      show ((pre ++ (raiseF a ++ ps.flatMap raiseF)).take ((pre ++ raiseF a).length - 1)).drop (pre.length + 1) = a
      have t1 : (pre ++ raiseF a).length - 1 = pre.length + (a.length + 1) := by rw [List.length_append, hlr]; omega
      rw [t1, List.take_length_add_append, ← List.drop_drop, List.drop_left, raise_app]
      show ((1 :: (a ++ -1 :: ps.flatMap raiseF)).take (a.length + 1)).drop 1 = a
      rw [List.take_succ_cons, List.drop_succ_cons, List.drop_zero, List.take_left]
    rw [e3, e2, parts_fold ps (pre ++ raiseF a) (found ++ [a]) fun p hp => h p (List.mem_cons_of_mem _ hp)]
    simp [List.append_assoc, Nat.add_assoc]
theorem parts_all {ps : List (List Int)} (h : ∀ p ∈ ps, Cl p) : ((hts (ps.flatMap raiseF)).zipIdx).foldl (pstep (ps.flatMap raiseF)) ([], 0) = (ps, (ps.flatMap raiseF).length) := by
  have := parts_fold ps [] [] h
  unfold hts
  rw [List.zipIdx_cons, List.foldl_cons]
  have e : pstep (ps.flatMap raiseF) ([], 0) (0, 0) = ([], 0) := by
    unfold pstep
    rw [if_neg (fun z => absurd z.1 (by decide))]
  rw [e]
  simpa using this
/-- the first return -/
theorem hts_split (a r : List Int) (ca : Cl a) : hts (1 :: (a ++ -1 :: r)) = (0 :: 1 :: psF 1 a) ++ 0 :: psF 0 r := by
  have sa : a.sum = 0 := by have := ca.sm; omega
  unfold hts
  show 0 :: (0 + 1 : Int) :: psF (0 + 1) (a ++ -1 :: r) = _
  rw [psF_app, sa]
  rfl
end Rd

set_option maxRecDepth 100000
namespace K03
open PySem PySem.Spec PyProof.Rows L2 Mi
def topS (i : Nat) : Stmt := PySem.Challenge.pw_neverbehind_k03_whole_parts_of_roads.main.body.getD i (.Pass ⟨0, 0, 0, 0⟩)
abbrev s0 : Stmt := topS 1
abbrev s1 : Stmt := topS 8
abbrev s2 : Stmt := topS 9
abbrev s3 : Stmt := topS 10
abbrev s4 : Stmt := topS 11
abbrev s5 : Stmt := topS 12
abbrev s6 : Stmt := topS 13
abbrev s7 : Stmt := topS 14
abbrev s8 : Stmt := topS 15
abbrev s9 : Stmt := topS 16
abbrev s10 : Stmt := topS 17
abbrev s11 : Stmt := topS 18
abbrev s12 : Stmt := topS 20
abbrev s13 : Stmt := topS 21
abbrev s14 : Stmt := topS 22
abbrev s15 : Stmt := topS 23
abbrev s16 : Stmt := topS 24
abbrev s17 : Stmt := topS 25
abbrev s18 : Stmt := topS 26
abbrev s19 : Stmt := topS 27
abbrev s20 : Stmt := topS 28
abbrev s21 : Stmt := topS 29
abbrev s22 : Stmt := topS 30
abbrev s23 : Stmt := topS 31
abbrev s24 : Stmt := topS 32
abbrev s25 : Stmt := topS 33
abbrev s26 : Stmt := topS 34
/-- is_whole -/
def b0 : Sms := .cons (.ret (.and (.isi (.var 0) .int) (.not (.isi (.var 0) .bool)))) .nil
def d0 : Df := ⟨1, 1, b0⟩
def b1e1 : Ex := .and (.call 0 (.cons (.var 1) .nil) []) (.cmp .isin (.var 1) (.tup (.cons (.int 1) (.cons (.neg (.int 1)) .nil))))
/-- is_road -/
def b1 : Sms := .cons (.ret (.and (.isi (.var 0) .list) (.bi .all (.cons (.lc [1] (.nm 1) .seq (.var 0) .non (.bl true) b1e1) .nil)))) .nil
def d1 : Df := ⟨1, 2, b1⟩
/-- check_road -/
def b2 : Sms := .cons (.ite (.not (.call 1 (.cons (.var 0) .nil) [])) (.cons (.raise) .nil) .nil) .nil
def d2 : Df := ⟨1, 1, b2⟩
def b3f1 : Sms := .cons (.mut1 .append 1 (.cons (.bin .add (.sub (.var 1) (.neg (.int 1))) (.var 2)) .nil)) .nil
/-- heights_there -/
def b3 : Sms := .cons (.set 1 (.list (.cons (.int 0) .nil))) (.cons (.for (.nm 2) .seq (.var 0) .non b3f1) (.cons (.ret (.var 1)) .nil))
def d3 : Df := ⟨1, 3, b3⟩
/-- stays_there -/
def b4 : Sms := .cons (.ret (.cmp .ge (.bi .min1 (.cons (.call 3 (.cons (.var 0) .nil) []) .nil)) (.int 0))) .nil
def d4 : Df := ⟨1, 1, b4⟩
/-- is_closed_there -/
def b5 : Sms := .cons (.ret (.and (.call 4 (.cons (.var 0) .nil) []) (.cmp .eq (.bi .sum (.cons (.var 0) .nil)) (.int 0)))) .nil
def d5 : Df := ⟨1, 1, b5⟩
/-- check_closed -/
def b6 : Sms := .cons (.ite (.or (.not (.call 1 (.cons (.var 0) .nil) [])) (.not (.call 5 (.cons (.var 0) .nil) []))) (.cons (.raise) .nil) .nil) .nil
def d6 : Df := ⟨1, 1, b6⟩
def b7f1 : Sms := .cons (.set 1 (.bin .add (.var 1) (.var 2))) .nil
def b7e1 : Ex := .call 1 (.cons (.var 2) .nil) []
/-- joined -/
def b7 : Sms := .cons (.ite (.or (.not (.isi (.var 0) .list)) (.not (.bi .all (.cons (.lc [2] (.nm 2) .seq (.var 0) .non (.bl true) b7e1) .nil)))) (.cons (.raise) .nil) .nil) (.cons (.set 1 (.list .nil)) (.cons (.for (.nm 2) .seq (.var 0) .non b7f1) (.cons (.ret (.var 1)) .nil)))
def d7 : Df := ⟨1, 3, b7⟩
/-- raised -/
def b8 : Sms := .cons (.ex (.call 2 (.cons (.var 0) .nil) [])) (.cons (.ret (.bin .add (.bin .add (.list (.cons (.int 1) .nil)) (.var 0)) (.list (.cons (.neg (.int 1)) .nil)))) .nil)
def d8 : Df := ⟨1, 1, b8⟩
/-- first_return -/
def b9 : Sms := .cons (.ex (.call 6 (.cons (.var 0) .nil) [])) (.cons (.ite (.cmp .eq (.var 0) (.list .nil)) (.cons (.ret .non) .nil) .nil) (.cons (.set 1 (.meth .index (.call 3 (.cons (.var 0) .nil) []) (.cons (.int 0) (.cons (.int 1) .nil)))) (.cons (.ret (.tup (.cons (.slice (.var 0) true true (.int 1) (.bin .sub (.var 1) (.int 1))) (.cons (.slice (.var 0) true false (.var 1) .non) .nil)))) .nil)))
def d9 : Df := ⟨1, 2, b9⟩
def b10f1 : Sms := .cons (.ite (.and (.cmp .gt (.var 3) (.int 0)) (.cmp .eq (.var 4) (.int 0))) (.cons (.mut1 .append 1 (.cons (.slice (.var 0) true true (.bin .add (.var 2) (.int 1)) (.bin .sub (.var 3) (.int 1))) .nil)) (.cons (.mv 2 3) .nil)) .nil) .nil
/-- ground_there -/
def b10 : Sms := .cons (.par [1, 2] (.cons (.list .nil) (.cons (.int 0) .nil))) (.cons (.for (.tp2 (.nm 3) (.nm 4)) .enum (.call 3 (.cons (.var 0) .nil) []) .non b10f1) (.cons (.ret (.var 1)) .nil))
def d10 : Df := ⟨1, 5, b10⟩
/-- ground_parts -/
def b11 : Sms := .cons (.ex (.call 6 (.cons (.var 0) .nil) [])) (.cons (.ret (.call 10 (.cons (.var 0) .nil) [])) .nil)
def d11 : Df := ⟨1, 1, b11⟩
/-- _law_purse -/
def b12 : Sms := .cons (.set 2 (.bi .sum (.cons (.slice (.var 0) true true (.var 1) (.bin .add (.var 1) (.int 1))) .nil))) (.cons (.ret (.list (.cons (.bin .mod (.bi .int (.cons (.bi .max2 (.cons (.bin .sub (.var 2) (.bin .pow (.int 10) (.int 18))) (.cons (.int 0) .nil))) .nil)) (.bin .pow (.bin .pow (.int 10) (.int 60)) (.int 8))) (.cons (.bin .mod (.bi .int (.cons (.var 2) .nil)) (.int 2147483629)) (.cons (.int 0) (.cons (.var 1) .nil)))))) .nil)
def d12 : Df := ⟨2, 3, b12⟩
/-- _law_mixed -/
def b13 : Sms := .cons (.set 3 (.bin .add (.bin .mul (.var 0) (.int 69069)) (.bin .mul (.bin .mul (.int 104729) (.var 1)) (.var 1)))) (.cons (.set 3 (.bin .mod (.bi .int (.cons (.bin .add (.bin .add (.var 3) (.bin .mul (.int 7919) (.var 2))) (.var 1)) .nil)) (.int 2147483647))) (.cons (.set 3 (.bin .mod (.bi .int (.cons (.bin .add (.bin .mul (.var 3) (.var 3)) (.int 40503)) .nil)) (.int 2147483629))) (.cons (.ret (.bin .mod (.bi .int (.cons (.bin .mul (.var 3) (.int 48271)) .nil)) (.int 2147483587))) .nil)))
def d13 : Df := ⟨3, 4, b13⟩
def b14f1 : Sms := .cons (.st1 0 (.int 2) (.bin .add (.sub (.var 0) (.int 2)) (.int 1))) (.cons (.set 2 (.bin .add (.bin .mul (.var 2) (.int 2147483587)) (.call 13 (.cons (.sub (.var 0) (.int 1)) (.cons (.sub (.var 0) (.int 2)) (.cons (.sub (.var 0) (.int 3)) .nil))) []))) .nil)
/-- _law_draw -/
def b14 : Sms := .cons (.ite (.cmp .gt (.sub (.var 0) (.int 0)) (.int 0)) (.cons (.set 4 (.bin .mod (.bi .int (.cons (.sub (.var 0) (.int 0)) .nil)) (.var 1))) (.cons (.st1 0 (.int 0) (.bin .fdiv (.sub (.var 0) (.int 0)) (.var 1))) (.cons (.ret (.var 4)) .nil))) .nil) (.cons (.set 2 (.int 0)) (.cons (.for (.nm 3) .rng1 (.bin .add (.int 1) (.bin .fdiv (.meth .bitlen (.var 1) .nil) (.int 28))) .non b14f1) (.cons (.ret (.bin .mod (.bi .int (.cons (.var 2) .nil)) (.var 1))) .nil)))
def d14 : Df := ⟨2, 5, b14⟩
/-- _law_one_of -/
def b15 : Sms := .cons (.ret (.sub (.var 1) (.call 14 (.cons (.var 0) (.cons (.bi .len (.cons (.var 1) .nil)) .nil)) []))) .nil
def d15 : Df := ⟨2, 2, b15⟩
def b16e1 : Ex := .call 16 (.cons (.var 4) (.cons (.var 5) .nil)) []
def b16e2 : Ex := .call 16 (.cons (.sub (.var 0) (.var 3)) (.cons (.sub (.var 1) (.var 3)) .nil)) []
def b16e3 : Ex := .cmp .isin (.var 3) (.var 0)
/-- _law_same -/
def b16 : Sms := .cons (.ite (.isi (.var 1) .dict) (.cons (.set 2 (.and (.isi (.var 0) .dict) (.and (.cmp .eq (.bi .len (.cons (.var 0) .nil)) (.bi .len (.cons (.var 1) .nil))) (.bi .all (.cons (.lc [3] (.nm 3) .seq (.var 1) .non (.bl true) b16e3) .nil))))) (.cons (.ret (.and (.var 2) (.bi .all (.cons (.lc [3] (.nm 3) .seq (.var 1) .non (.bl true) b16e2) .nil)))) .nil)) .nil) (.cons (.ite (.isi2 (.var 1) [.list, .tuple]) (.cons (.set 2 (.and (.cmp .eq (.isi (.var 0) .list) (.isi (.var 1) .list)) (.cmp .eq (.isi (.var 0) .tuple) (.isi (.var 1) .tuple)))) (.cons (.ret (.and (.var 2) (.and (.cmp .eq (.bi .len (.cons (.var 0) .nil)) (.bi .len (.cons (.var 1) .nil))) (.bi .all (.cons (.lc [4, 5] (.tp2 (.nm 4) (.nm 5)) .zip (.var 0) (.var 1) (.bl true) b16e1) .nil))))) .nil)) .nil) (.cons (.set 2 (.and (.not (.isi2 (.var 0) [.list, .tuple, .dict])) (.and (.cmp .eq (.isi (.var 0) .int) (.isi (.var 1) .int)) (.cmp .eq (.isi (.var 0) .str) (.isi (.var 1) .str))))) (.cons (.ret (.and (.var 2) (.and (.cmp .eq (.cmp .is (.var 0) .non) (.cmp .is (.var 1) .non)) (.and (.cmp .eq (.isi (.var 0) .bool) (.isi (.var 1) .bool)) (.cmp .eq (.var 0) (.var 1)))))) .nil)))
def d16 : Df := ⟨2, 6, b16⟩
def b17e1 : Ex := .call 12 (.cons (.var 0) (.cons (.var 2) .nil)) []
/-- _law_purses -/
def b17 : Sms := .cons (.ret (.lc [2] (.nm 2) .rng1 (.bi .max2 (.cons (.int 1) (.cons (.bi .min2 (.cons (.var 1) (.cons (.bi .len (.cons (.var 0) .nil)) .nil))) .nil))) .non (.bl true) b17e1)) .nil
def d17 : Df := ⟨2, 3, b17⟩
def b18f1 : Sms := .cons (.set 1 (.bin .add (.var 1) (.bi .list (.cons (.var 2) .nil)))) .nil
/-- _law_chain -/
def b18 : Sms := .cons (.set 1 (.list .nil)) (.cons (.for (.nm 2) .seq (.var 0) .non b18f1) (.cons (.ret (.var 1)) .nil))
def d18 : Df := ⟨1, 3, b18⟩
def b19f1 : Sms := .cons (.ex (.call 19 (.cons (.var 2) .nil) [])) .nil
def b19f2 : Sms := .cons (.ex (.call 19 (.cons (.sub (.var 0) (.var 1)) .nil) [])) .nil
/-- _law_spoilt -/
def b19 : Sms := .cons (.ite (.isi (.var 0) .dict) (.cons (.for (.nm 1) .seq (.bi .list (.cons (.var 0) .nil)) .non b19f2) (.cons (.st1 0 (.str "MORE") (.str "MORE")) .nil)) .nil) (.cons (.ite (.isi2 (.var 0) [.list, .tuple]) (.cons (.for (.nm 2) .seq (.var 0) .non b19f1) .nil) .nil) (.cons (.ite (.isi (.var 0) .list) (.cons (.mut1 .append 0 (.cons (.str "MORE") .nil)) .nil) .nil) .nil))
def d19 : Df := ⟨1, 3, b19⟩
def b20f1 : Sms := .cons (.set 1 (.bin .add (.var 1) (.list (.cons (.bin .add (.sub (.var 1) (.neg (.int 1))) (.var 2)) .nil)))) .nil
/-- _law_heights -/
def b20 : Sms := .cons (.set 1 (.list (.cons (.int 0) .nil))) (.cons (.for (.nm 2) .seq (.var 0) .non b20f1) (.cons (.ret (.var 1)) .nil))
def d20 : Df := ⟨1, 3, b20⟩
/-- _law_is_closed -/
def b21 : Sms := .cons (.set 1 (.call 20 (.cons (.var 0) .nil) [])) (.cons (.ret (.and (.cmp .ge (.bi .min1 (.cons (.var 1) .nil)) (.int 0)) (.cmp .eq (.sub (.var 1) (.neg (.int 1))) (.int 0)))) .nil)
def d21 : Df := ⟨1, 2, b21⟩
def b22c1 : Ex := .chain .le .le (.int 0) (.bi .sum (.cons (.var 3) .nil)) (.bin .sub (.bin .mul (.int 2) (.var 0)) (.bi .len (.cons (.var 3) .nil)))
def b22e1 : Ex := .var 3
def b22e2 : Ex := .bin .add (.var 3) (.list (.cons (.var 4) .nil))
def b22e3 : Ex := .lc [4] (.nm 4) .seq (.tup (.cons (.neg (.int 1)) (.cons (.int 1) .nil))) .non (.bl true) b22e2
def b22f1 : Sms := .cons (.set 1 (.call 18 (.cons (.lc [3] (.nm 3) .seq (.var 1) .non (.bl true) b22e3) .nil) [])) (.cons (.set 1 (.lc [3] (.nm 3) .seq (.var 1) .non b22c1 b22e1)) .nil)
/-- _law_all_closed -/
def b22 : Sms := .cons (.set 1 (.list (.cons (.list .nil) .nil))) (.cons (.for (.nm 2) .rng1 (.bin .mul (.int 2) (.var 0)) .non b22f1) (.cons (.ret (.var 1)) .nil))
def d22 : Df := ⟨1, 5, b22⟩
def b23f1 : Sms := .cons (.set 5 (.bin .sub (.bin .mul (.int 2) (.var 1)) (.bi .len (.cons (.var 2) .nil)))) (.cons (.set 6 (.or (.cmp .eq (.var 3) (.int 0)) (.and (.cmp .lt (.var 3) (.var 5)) (.cmp .eq (.call 14 (.cons (.var 0) (.cons (.int 2) .nil)) []) (.int 0))))) (.cons (.mut1 .append 2 (.cons (.ite (.var 6) (.int 1) (.neg (.int 1))) .nil)) (.cons (.set 3 (.bin .add (.var 3) (.sub (.var 2) (.neg (.int 1))))) .nil)))
/-- _law_closed_road -/
def b23 : Sms := .cons (.par [2, 3] (.cons (.list .nil) (.cons (.int 0) .nil))) (.cons (.for (.nm 4) .rng1 (.bin .mul (.int 2) (.var 1)) .non b23f1) (.cons (.ret (.var 2)) .nil))
def d23 : Df := ⟨2, 7, b23⟩
def b24f1 : Sms := .cons (.ite (.and (.cmp .eq (.var 4) (.int 0)) (.cmp .gt (.var 3) (.int 0))) (.cons (.mut1 .append 1 (.cons (.slice (.var 0) true true (.bin .add (.var 2) (.int 1)) (.bin .sub (.var 3) (.int 1))) .nil)) (.cons (.mv 2 3) .nil)) .nil) .nil
/-- _law_parts -/
def b24 : Sms := .cons (.par [1, 2] (.cons (.list .nil) (.cons (.int 0) .nil))) (.cons (.for (.tp2 (.nm 3) (.nm 4)) .enum (.call 20 (.cons (.var 0) .nil) []) .non b24f1) (.cons (.ret (.var 1)) .nil))
def d24 : Df := ⟨1, 5, b24⟩
def b25e1 : Ex := .call 8 (.cons (.var 5) .nil) []
/-- _law_right -/
def b25 : Sms := .cons (.set 1 (.bi .list (.cons (.var 0) .nil))) (.cons (.set 2 (.call 24 (.cons (.var 0) .nil) [])) (.cons (.set 3 (.ite (.cmp .eq (.var 0) (.list .nil)) .non (.tup (.cons (.sub (.var 2) (.int 0)) (.cons (.slice (.var 0) true false (.bin .add (.bi .len (.cons (.sub (.var 2) (.int 0)) .nil)) (.int 2)) .non) .nil))))) (.cons (.set 4 (.list (.cons (.call 9 (.cons (.var 0) .nil) []) (.cons (.callk 9 .nil (.cons (.var 0) .nil) 1 [0]) (.cons (.call 11 (.cons (.var 0) .nil) []) (.cons (.callk 11 .nil (.cons (.var 0) .nil) 0 [0]) .nil)))))) (.cons (.ite (.not (.call 16 (.cons (.var 4) (.cons (.list (.cons (.var 3) (.cons (.var 3) (.cons (.var 2) (.cons (.var 2) .nil))))) .nil)) [])) (.cons (.ret (.bl false)) .nil) .nil) (.cons (.ite (.and (.cmp .ne (.var 0) (.list .nil)) (.or (.cmp .ne (.call 7 (.cons (.list (.cons (.call 8 (.cons (.sub (.sub (.var 4) (.int 0)) (.int 0)) .nil) []) (.cons (.sub (.sub (.var 4) (.int 0)) (.int 1)) .nil))) .nil) []) (.var 0)) (.or (.not (.call 21 (.cons (.sub (.sub (.var 4) (.int 0)) (.int 0)) .nil) [])) (.not (.call 21 (.cons (.sub (.sub (.var 4) (.int 0)) (.int 1)) .nil) []))))) (.cons (.ret (.bl false)) .nil) .nil) (.cons (.ite (.cmp .ne (.call 7 (.cons (.lc [5] (.nm 5) .seq (.sub (.var 4) (.int 2)) .non (.bl true) b25e1) .nil) []) (.var 0)) (.cons (.ret (.bl false)) .nil) .nil) (.cons (.spoil 3 (.ex (.call 19 (.cons (.var 4) .nil) []))) (.cons (.ret (.and (.cmp .eq (.var 0) (.var 1)) (.call 16 (.cons (.call 11 (.cons (.var 0) .nil) []) (.cons (.var 2) .nil)) []))) .nil))))))))
def d25 : Df := ⟨1, 6, b25⟩
def b26e1 : Ex := .call 25 (.cons (.var 2) .nil) []
def b26f1 : Sms := .cons (.ite (.or (.not (.call 25 (.cons (.call 23 (.cons (.var 1) (.cons (.call 14 (.cons (.var 1) (.cons (.call 15 (.cons (.var 1) (.cons (.list (.cons (.int 4) (.cons (.int 9) (.cons (.int 31) .nil)))) .nil)) []) .nil)) []) .nil)) []) .nil) [])) (.not (.call 25 (.cons (.list .nil) .nil) []))) (.cons (.ret (.bl false)) .nil) .nil) (.cons (.ite (.and (.cmp .eq (.call 14 (.cons (.var 1) (.cons (.int 4) .nil)) []) (.int 0)) (.not (.bi .all (.cons (.lc [2] (.nm 2) .seq (.call 22 (.cons (.call 14 (.cons (.var 1) (.cons (.int 6) .nil)) []) .nil) []) .non (.bl true) b26e1) .nil)))) (.cons (.ret (.bl false)) .nil) .nil) .nil)
/-- law -/
def b26 : Sms := .cons (.for (.nm 1) .seq (.call 17 (.cons (.var 0) (.cons (.int 3) .nil)) []) .non b26f1) (.cons (.ret (.bl true)) .nil)
def d26 : Df := ⟨1, 3, b26⟩
abbrev D0 : Dd := ⟨"is_whole", s0, ["value"], ["value"], d0⟩
abbrev D1 : Dd := ⟨"is_road", s1, ["value", "step"], ["value"], d1⟩
abbrev D2 : Dd := ⟨"check_road", s2, ["value"], ["value"], d2⟩
abbrev D3 : Dd := ⟨"heights_there", s3, ["road", "found", "step"], ["road"], d3⟩
abbrev D4 : Dd := ⟨"stays_there", s4, ["road"], ["road"], d4⟩
abbrev D5 : Dd := ⟨"is_closed_there", s5, ["road"], ["road"], d5⟩
abbrev D6 : Dd := ⟨"check_closed", s6, ["value"], ["value"], d6⟩
abbrev D7 : Dd := ⟨"joined", s7, ["roads", "found", "road"], ["roads"], d7⟩
abbrev D8 : Dd := ⟨"raised", s8, ["road"], ["road"], d8⟩
abbrev D9 : Dd := ⟨"first_return", s9, ["road", "at"], ["road"], d9⟩
abbrev D10 : Dd := ⟨"ground_there", s10, ["road", "found", "begun", "at", "height"], ["road"], d10⟩
abbrev D11 : Dd := ⟨"ground_parts", s11, ["road"], ["road"], d11⟩
abbrev D12 : Dd := ⟨"_law_purse", s12, ["script", "at", "seed"], ["script", "at"], d12⟩
abbrev D13 : Dd := ⟨"_law_mixed", s13, ["seed", "spin", "at", "mixed"], ["seed", "spin", "at"], d13⟩
abbrev D14 : Dd := ⟨"_law_draw", s14, ["purse", "many", "found", "piece", "drawn"], ["purse", "many"], d14⟩
abbrev D15 : Dd := ⟨"_law_one_of", s15, ["purse", "some"], ["purse", "some"], d15⟩
abbrev D16 : Dd := ⟨"_law_same", s16, ["told", "due", "is_like", "key", "one", "other"], ["told", "due"], d16⟩
abbrev D17 : Dd := ⟨"_law_purses", s17, ["script", "few", "at"], ["script", "few"], d17⟩
abbrev D18 : Dd := ⟨"_law_chain", s18, ["lists", "found", "late"], ["lists"], d18⟩
abbrev D19 : Dd := ⟨"_law_spoilt", s19, ["thing", "key", "item"], ["thing"], d19⟩
abbrev D20 : Dd := ⟨"_law_heights", s20, ["road", "found", "step"], ["road"], d20⟩
abbrev D21 : Dd := ⟨"_law_is_closed", s21, ["road", "found"], ["road"], d21⟩
abbrev D22 : Dd := ⟨"_law_all_closed", s22, ["pairs", "found", "spin", "late", "step"], ["pairs"], d22⟩
abbrev D23 : Dd := ⟨"_law_closed_road", s23, ["purse", "pairs", "found", "height", "spin", "left", "up"], ["purse", "pairs"], d23⟩
abbrev D24 : Dd := ⟨"_law_parts", s24, ["road", "found", "begun", "at", "height"], ["road"], d24⟩
abbrev D25 : Dd := ⟨"_law_right", s25, ["road", "kept", "parts", "due", "told", "part"], ["road"], d25⟩
abbrev D26 : Dd := ⟨"law", s26, ["script", "purse", "road"], ["script"], d26⟩
abbrev Ds : List Dd := [D0, D1, D2, D3, D4, D5, D6, D7, D8, D9, D10, D11, D12, D13, D14, D15, D16, D17, D18, D19, D20, D21, D22, D23, D24, D25, D26]
def tab : Tab := ⟨["is_whole", "is_road", "check_road", "heights_there", "stays_there", "is_closed_there", "check_closed", "joined", "raised", "first_return", "ground_there", "ground_parts", "_law_purse", "_law_mixed", "_law_draw", "_law_one_of", "_law_same", "_law_purses", "_law_chain", "_law_spoilt", "_law_heights", "_law_is_closed", "_law_all_closed", "_law_closed_road", "_law_parts", "_law_right", "law"],
  [(11, 0, ["road"], [0]), (9, 0, ["road"], [0])],
  []⟩
theorem ok0 : okD tab D0 = true := by decide +kernel
theorem ok1 : okD tab D1 = true := by decide +kernel
theorem ok2 : okD tab D2 = true := by decide +kernel
theorem ok3 : okD tab D3 = true := by decide +kernel
theorem ok4 : okD tab D4 = true := by decide +kernel
theorem ok5 : okD tab D5 = true := by decide +kernel
theorem ok6 : okD tab D6 = true := by decide +kernel
theorem ok7 : okD tab D7 = true := by decide +kernel
theorem ok8 : okD tab D8 = true := by decide +kernel
theorem ok9 : okD tab D9 = true := by decide +kernel
theorem ok10 : okD tab D10 = true := by decide +kernel
theorem ok11 : okD tab D11 = true := by decide +kernel
theorem ok12 : okD tab D12 = true := by decide +kernel
theorem ok13 : okD tab D13 = true := by decide +kernel
theorem ok14 : okD tab D14 = true := by decide +kernel
theorem ok15 : okD tab D15 = true := by decide +kernel
theorem ok16 : okD tab D16 = true := by decide +kernel
theorem ok17 : okD tab D17 = true := by decide +kernel
theorem ok18 : okD tab D18 = true := by decide +kernel
theorem ok19 : okD tab D19 = true := by decide +kernel
theorem ok20 : okD tab D20 = true := by decide +kernel
theorem ok21 : okD tab D21 = true := by decide +kernel
theorem ok22 : okD tab D22 = true := by decide +kernel
theorem ok23 : okD tab D23 = true := by decide +kernel
theorem ok24 : okD tab D24 = true := by decide +kernel
theorem ok25 : okD tab D25 = true := by decide +kernel
theorem ok26 : okD tab D26 = true := by decide +kernel
theorem oks : OksD tab Ds := ⟨ok0, ok1, ok2, ok3, ok4, ok5, ok6, ok7, ok8, ok9, ok10, ok11, ok12, ok13, ok14, ok15, ok16, ok17, ok18, ok19, ok20, ok21, ok22, ok23, ok24, ok25, ok26, trivial⟩
def pus : List (Df × List Bool) := [(d0, [false]), (d1, [false]), (d2, [false]), (d3, [false]), (d4, [false]), (d5, [false]), (d6, [false]), (d7, [false]), (d8, [false]), (d9, [false]), (d10, [false]), (d11, [false]), (d12, [false, false]), (d13, [false, false, false]), (d14, [true, false]), (d15, [true, false]), (d16, [false, false]), (d17, [false, false]), (d18, [false]), (d19, [false]), (d20, [false]), (d21, [false]), (d22, [false]), (d23, [true, false]), (d24, [false]), (d25, [false]), (d26, [false])]
section
variable {K : PySem.W.Frag} {mg : Str → Option Value} {h : Heap} {goal : Prop} {f : Addr} {oc z1 z2 z3 z4 cd z5 : Value} {od an : Option Addr} {sl : Array (Option Value)}
theorem at0 (X : K.In h) (G : h.Ns mainGlobals mg)
    (a : PySem.W.nsIn K mainGlobals "is_whole" = some (some (.ref f)))
    (l : K.lookup f = some ⟨oc, od, .func (PySem.W.fnOf "is_whole" "is_whole" (defArgs s0) (defBody s0) (defScope s0) .none z2 z3 z4 an cd z5), sl⟩)
    (c : PySem.W.codeIn K cd "is_whole" = true) (k : PySem.W.keepIn K (.ref f) = true)
    (r : ∀ f fd, At K mg tab 0 D0 f fd → goal) : goal := r _ _ (at_mk (D := D0) X G a l c k (.all fun us hl => match us, hl with | [_], _ => rfl) (no_df rfl) (no_kw rfl))
theorem at1 (X : K.In h) (G : h.Ns mainGlobals mg)
    (a : PySem.W.nsIn K mainGlobals "is_road" = some (some (.ref f)))
    (l : K.lookup f = some ⟨oc, od, .func (PySem.W.fnOf "is_road" "is_road" (defArgs s1) (defBody s1) (defScope s1) .none z2 z3 z4 an cd z5), sl⟩)
    (c : PySem.W.codeIn K cd "is_road" = true) (k : PySem.W.keepIn K (.ref f) = true)
    (r : ∀ f fd, At K mg tab 1 D1 f fd → goal) : goal := r _ _ (at_mk (D := D1) X G a l c k (.all fun us hl => match us, hl with | [_], _ => rfl) (no_df rfl) (no_kw rfl))
theorem at2 (X : K.In h) (G : h.Ns mainGlobals mg)
    (a : PySem.W.nsIn K mainGlobals "check_road" = some (some (.ref f)))
    (l : K.lookup f = some ⟨oc, od, .func (PySem.W.fnOf "check_road" "check_road" (defArgs s2) (defBody s2) (defScope s2) .none z2 z3 z4 an cd z5), sl⟩)
    (c : PySem.W.codeIn K cd "check_road" = true) (k : PySem.W.keepIn K (.ref f) = true)
    (r : ∀ f fd, At K mg tab 2 D2 f fd → goal) : goal := r _ _ (at_mk (D := D2) X G a l c k (.all fun us hl => match us, hl with | [_], _ => rfl) (no_df rfl) (no_kw rfl))
theorem at3 (X : K.In h) (G : h.Ns mainGlobals mg)
    (a : PySem.W.nsIn K mainGlobals "heights_there" = some (some (.ref f)))
    (l : K.lookup f = some ⟨oc, od, .func (PySem.W.fnOf "heights_there" "heights_there" (defArgs s3) (defBody s3) (defScope s3) .none z2 z3 z4 an cd z5), sl⟩)
    (c : PySem.W.codeIn K cd "heights_there" = true) (k : PySem.W.keepIn K (.ref f) = true)
    (r : ∀ f fd, At K mg tab 3 D3 f fd → goal) : goal := r _ _ (at_mk (D := D3) X G a l c k (.all fun us hl => match us, hl with | [_], _ => rfl) (no_df rfl) (no_kw rfl))
theorem at4 (X : K.In h) (G : h.Ns mainGlobals mg)
    (a : PySem.W.nsIn K mainGlobals "stays_there" = some (some (.ref f)))
    (l : K.lookup f = some ⟨oc, od, .func (PySem.W.fnOf "stays_there" "stays_there" (defArgs s4) (defBody s4) (defScope s4) .none z2 z3 z4 an cd z5), sl⟩)
    (c : PySem.W.codeIn K cd "stays_there" = true) (k : PySem.W.keepIn K (.ref f) = true)
    (r : ∀ f fd, At K mg tab 4 D4 f fd → goal) : goal := r _ _ (at_mk (D := D4) X G a l c k (.all fun us hl => match us, hl with | [_], _ => rfl) (no_df rfl) (no_kw rfl))
theorem at5 (X : K.In h) (G : h.Ns mainGlobals mg)
    (a : PySem.W.nsIn K mainGlobals "is_closed_there" = some (some (.ref f)))
    (l : K.lookup f = some ⟨oc, od, .func (PySem.W.fnOf "is_closed_there" "is_closed_there" (defArgs s5) (defBody s5) (defScope s5) .none z2 z3 z4 an cd z5), sl⟩)
    (c : PySem.W.codeIn K cd "is_closed_there" = true) (k : PySem.W.keepIn K (.ref f) = true)
    (r : ∀ f fd, At K mg tab 5 D5 f fd → goal) : goal := r _ _ (at_mk (D := D5) X G a l c k (.all fun us hl => match us, hl with | [_], _ => rfl) (no_df rfl) (no_kw rfl))
theorem at6 (X : K.In h) (G : h.Ns mainGlobals mg)
    (a : PySem.W.nsIn K mainGlobals "check_closed" = some (some (.ref f)))
    (l : K.lookup f = some ⟨oc, od, .func (PySem.W.fnOf "check_closed" "check_closed" (defArgs s6) (defBody s6) (defScope s6) .none z2 z3 z4 an cd z5), sl⟩)
    (c : PySem.W.codeIn K cd "check_closed" = true) (k : PySem.W.keepIn K (.ref f) = true)
    (r : ∀ f fd, At K mg tab 6 D6 f fd → goal) : goal := r _ _ (at_mk (D := D6) X G a l c k (.all fun us hl => match us, hl with | [_], _ => rfl) (no_df rfl) (no_kw rfl))
theorem at7 (X : K.In h) (G : h.Ns mainGlobals mg)
    (a : PySem.W.nsIn K mainGlobals "joined" = some (some (.ref f)))
    (l : K.lookup f = some ⟨oc, od, .func (PySem.W.fnOf "joined" "joined" (defArgs s7) (defBody s7) (defScope s7) .none z2 z3 z4 an cd z5), sl⟩)
    (c : PySem.W.codeIn K cd "joined" = true) (k : PySem.W.keepIn K (.ref f) = true)
    (r : ∀ f fd, At K mg tab 7 D7 f fd → goal) : goal := r _ _ (at_mk (D := D7) X G a l c k (.all fun us hl => match us, hl with | [_], _ => rfl) (no_df rfl) (no_kw rfl))
theorem at8 (X : K.In h) (G : h.Ns mainGlobals mg)
    (a : PySem.W.nsIn K mainGlobals "raised" = some (some (.ref f)))
    (l : K.lookup f = some ⟨oc, od, .func (PySem.W.fnOf "raised" "raised" (defArgs s8) (defBody s8) (defScope s8) .none z2 z3 z4 an cd z5), sl⟩)
    (c : PySem.W.codeIn K cd "raised" = true) (k : PySem.W.keepIn K (.ref f) = true)
    (r : ∀ f fd, At K mg tab 8 D8 f fd → goal) : goal := r _ _ (at_mk (D := D8) X G a l c k (.all fun us hl => match us, hl with | [_], _ => rfl) (no_df rfl) (no_kw rfl))
theorem at9 (X : K.In h) (G : h.Ns mainGlobals mg)
    (a : PySem.W.nsIn K mainGlobals "first_return" = some (some (.ref f)))
    (l : K.lookup f = some ⟨oc, od, .func (PySem.W.fnOf "first_return" "first_return" (defArgs s9) (defBody s9) (defScope s9) .none z2 z3 z4 an cd z5), sl⟩)
    (c : PySem.W.codeIn K cd "first_return" = true) (k : PySem.W.keepIn K (.ref f) = true)
    (r : ∀ f fd, At K mg tab 9 D9 f fd → goal) : goal := r _ _ (at_mk (D := D9) X G a l c k (.all fun us hl => match us, hl with | [_], _ => rfl) (no_df rfl) (AllKw.get (l := tab.kws) ⟨fun e => absurd e (by decide), fun _ => kbn_mk fun us ws h1 h2 => match us, h1, ws, h2 with | [], _, [_], _ => rfl, trivial⟩))
theorem at10 (X : K.In h) (G : h.Ns mainGlobals mg)
    (a : PySem.W.nsIn K mainGlobals "ground_there" = some (some (.ref f)))
    (l : K.lookup f = some ⟨oc, od, .func (PySem.W.fnOf "ground_there" "ground_there" (defArgs s10) (defBody s10) (defScope s10) .none z2 z3 z4 an cd z5), sl⟩)
    (c : PySem.W.codeIn K cd "ground_there" = true) (k : PySem.W.keepIn K (.ref f) = true)
    (r : ∀ f fd, At K mg tab 10 D10 f fd → goal) : goal := r _ _ (at_mk (D := D10) X G a l c k (.all fun us hl => match us, hl with | [_], _ => rfl) (no_df rfl) (no_kw rfl))
theorem at11 (X : K.In h) (G : h.Ns mainGlobals mg)
    (a : PySem.W.nsIn K mainGlobals "ground_parts" = some (some (.ref f)))
    (l : K.lookup f = some ⟨oc, od, .func (PySem.W.fnOf "ground_parts" "ground_parts" (defArgs s11) (defBody s11) (defScope s11) .none z2 z3 z4 an cd z5), sl⟩)
    (c : PySem.W.codeIn K cd "ground_parts" = true) (k : PySem.W.keepIn K (.ref f) = true)
    (r : ∀ f fd, At K mg tab 11 D11 f fd → goal) : goal := r _ _ (at_mk (D := D11) X G a l c k (.all fun us hl => match us, hl with | [_], _ => rfl) (no_df rfl) (AllKw.get (l := tab.kws) ⟨fun _ => kbn_mk fun us ws h1 h2 => match us, h1, ws, h2 with | [], _, [_], _ => rfl, fun e => absurd e (by decide), trivial⟩))
theorem at12 (X : K.In h) (G : h.Ns mainGlobals mg)
    (a : PySem.W.nsIn K mainGlobals "_law_purse" = some (some (.ref f)))
    (l : K.lookup f = some ⟨oc, od, .func (PySem.W.fnOf "_law_purse" "_law_purse" (defArgs s12) (defBody s12) (defScope s12) .none z2 z3 z4 an cd z5), sl⟩)
    (c : PySem.W.codeIn K cd "_law_purse" = true) (k : PySem.W.keepIn K (.ref f) = true)
    (r : ∀ f fd, At K mg tab 12 D12 f fd → goal) : goal := r _ _ (at_mk (D := D12) X G a l c k (.all fun us hl => match us, hl with | [_, _], _ => rfl) (no_df rfl) (no_kw rfl))
theorem at13 (X : K.In h) (G : h.Ns mainGlobals mg)
    (a : PySem.W.nsIn K mainGlobals "_law_mixed" = some (some (.ref f)))
    (l : K.lookup f = some ⟨oc, od, .func (PySem.W.fnOf "_law_mixed" "_law_mixed" (defArgs s13) (defBody s13) (defScope s13) .none z2 z3 z4 an cd z5), sl⟩)
    (c : PySem.W.codeIn K cd "_law_mixed" = true) (k : PySem.W.keepIn K (.ref f) = true)
    (r : ∀ f fd, At K mg tab 13 D13 f fd → goal) : goal := r _ _ (at_mk (D := D13) X G a l c k (.all fun us hl => match us, hl with | [_, _, _], _ => rfl) (no_df rfl) (no_kw rfl))
theorem at14 (X : K.In h) (G : h.Ns mainGlobals mg)
    (a : PySem.W.nsIn K mainGlobals "_law_draw" = some (some (.ref f)))
    (l : K.lookup f = some ⟨oc, od, .func (PySem.W.fnOf "_law_draw" "_law_draw" (defArgs s14) (defBody s14) (defScope s14) .none z2 z3 z4 an cd z5), sl⟩)
    (c : PySem.W.codeIn K cd "_law_draw" = true) (k : PySem.W.keepIn K (.ref f) = true)
    (r : ∀ f fd, At K mg tab 14 D14 f fd → goal) : goal := r _ _ (at_mk (D := D14) X G a l c k (.all fun us hl => match us, hl with | [_, _], _ => rfl) (no_df rfl) (no_kw rfl))
theorem at15 (X : K.In h) (G : h.Ns mainGlobals mg)
    (a : PySem.W.nsIn K mainGlobals "_law_one_of" = some (some (.ref f)))
    (l : K.lookup f = some ⟨oc, od, .func (PySem.W.fnOf "_law_one_of" "_law_one_of" (defArgs s15) (defBody s15) (defScope s15) .none z2 z3 z4 an cd z5), sl⟩)
    (c : PySem.W.codeIn K cd "_law_one_of" = true) (k : PySem.W.keepIn K (.ref f) = true)
    (r : ∀ f fd, At K mg tab 15 D15 f fd → goal) : goal := r _ _ (at_mk (D := D15) X G a l c k (.all fun us hl => match us, hl with | [_, _], _ => rfl) (no_df rfl) (no_kw rfl))
theorem at16 (X : K.In h) (G : h.Ns mainGlobals mg)
    (a : PySem.W.nsIn K mainGlobals "_law_same" = some (some (.ref f)))
    (l : K.lookup f = some ⟨oc, od, .func (PySem.W.fnOf "_law_same" "_law_same" (defArgs s16) (defBody s16) (defScope s16) .none z2 z3 z4 an cd z5), sl⟩)
    (c : PySem.W.codeIn K cd "_law_same" = true) (k : PySem.W.keepIn K (.ref f) = true)
    (r : ∀ f fd, At K mg tab 16 D16 f fd → goal) : goal := r _ _ (at_mk (D := D16) X G a l c k (.all fun us hl => match us, hl with | [_, _], _ => rfl) (no_df rfl) (no_kw rfl))
theorem at17 (X : K.In h) (G : h.Ns mainGlobals mg)
    (a : PySem.W.nsIn K mainGlobals "_law_purses" = some (some (.ref f)))
    (l : K.lookup f = some ⟨oc, od, .func (PySem.W.fnOf "_law_purses" "_law_purses" (defArgs s17) (defBody s17) (defScope s17) .none z2 z3 z4 an cd z5), sl⟩)
    (c : PySem.W.codeIn K cd "_law_purses" = true) (k : PySem.W.keepIn K (.ref f) = true)
    (r : ∀ f fd, At K mg tab 17 D17 f fd → goal) : goal := r _ _ (at_mk (D := D17) X G a l c k (.all fun us hl => match us, hl with | [_, _], _ => rfl) (no_df rfl) (no_kw rfl))
theorem at18 (X : K.In h) (G : h.Ns mainGlobals mg)
    (a : PySem.W.nsIn K mainGlobals "_law_chain" = some (some (.ref f)))
    (l : K.lookup f = some ⟨oc, od, .func (PySem.W.fnOf "_law_chain" "_law_chain" (defArgs s18) (defBody s18) (defScope s18) .none z2 z3 z4 an cd z5), sl⟩)
    (c : PySem.W.codeIn K cd "_law_chain" = true) (k : PySem.W.keepIn K (.ref f) = true)
    (r : ∀ f fd, At K mg tab 18 D18 f fd → goal) : goal := r _ _ (at_mk (D := D18) X G a l c k (.all fun us hl => match us, hl with | [_], _ => rfl) (no_df rfl) (no_kw rfl))
theorem at19 (X : K.In h) (G : h.Ns mainGlobals mg)
    (a : PySem.W.nsIn K mainGlobals "_law_spoilt" = some (some (.ref f)))
    (l : K.lookup f = some ⟨oc, od, .func (PySem.W.fnOf "_law_spoilt" "_law_spoilt" (defArgs s19) (defBody s19) (defScope s19) .none z2 z3 z4 an cd z5), sl⟩)
    (c : PySem.W.codeIn K cd "_law_spoilt" = true) (k : PySem.W.keepIn K (.ref f) = true)
    (r : ∀ f fd, At K mg tab 19 D19 f fd → goal) : goal := r _ _ (at_mk (D := D19) X G a l c k (.all fun us hl => match us, hl with | [_], _ => rfl) (no_df rfl) (no_kw rfl))
theorem at20 (X : K.In h) (G : h.Ns mainGlobals mg)
    (a : PySem.W.nsIn K mainGlobals "_law_heights" = some (some (.ref f)))
    (l : K.lookup f = some ⟨oc, od, .func (PySem.W.fnOf "_law_heights" "_law_heights" (defArgs s20) (defBody s20) (defScope s20) .none z2 z3 z4 an cd z5), sl⟩)
    (c : PySem.W.codeIn K cd "_law_heights" = true) (k : PySem.W.keepIn K (.ref f) = true)
    (r : ∀ f fd, At K mg tab 20 D20 f fd → goal) : goal := r _ _ (at_mk (D := D20) X G a l c k (.all fun us hl => match us, hl with | [_], _ => rfl) (no_df rfl) (no_kw rfl))
theorem at21 (X : K.In h) (G : h.Ns mainGlobals mg)
    (a : PySem.W.nsIn K mainGlobals "_law_is_closed" = some (some (.ref f)))
    (l : K.lookup f = some ⟨oc, od, .func (PySem.W.fnOf "_law_is_closed" "_law_is_closed" (defArgs s21) (defBody s21) (defScope s21) .none z2 z3 z4 an cd z5), sl⟩)
    (c : PySem.W.codeIn K cd "_law_is_closed" = true) (k : PySem.W.keepIn K (.ref f) = true)
    (r : ∀ f fd, At K mg tab 21 D21 f fd → goal) : goal := r _ _ (at_mk (D := D21) X G a l c k (.all fun us hl => match us, hl with | [_], _ => rfl) (no_df rfl) (no_kw rfl))
theorem at22 (X : K.In h) (G : h.Ns mainGlobals mg)
    (a : PySem.W.nsIn K mainGlobals "_law_all_closed" = some (some (.ref f)))
    (l : K.lookup f = some ⟨oc, od, .func (PySem.W.fnOf "_law_all_closed" "_law_all_closed" (defArgs s22) (defBody s22) (defScope s22) .none z2 z3 z4 an cd z5), sl⟩)
    (c : PySem.W.codeIn K cd "_law_all_closed" = true) (k : PySem.W.keepIn K (.ref f) = true)
    (r : ∀ f fd, At K mg tab 22 D22 f fd → goal) : goal := r _ _ (at_mk (D := D22) X G a l c k (.all fun us hl => match us, hl with | [_], _ => rfl) (no_df rfl) (no_kw rfl))
theorem at23 (X : K.In h) (G : h.Ns mainGlobals mg)
    (a : PySem.W.nsIn K mainGlobals "_law_closed_road" = some (some (.ref f)))
    (l : K.lookup f = some ⟨oc, od, .func (PySem.W.fnOf "_law_closed_road" "_law_closed_road" (defArgs s23) (defBody s23) (defScope s23) .none z2 z3 z4 an cd z5), sl⟩)
    (c : PySem.W.codeIn K cd "_law_closed_road" = true) (k : PySem.W.keepIn K (.ref f) = true)
    (r : ∀ f fd, At K mg tab 23 D23 f fd → goal) : goal := r _ _ (at_mk (D := D23) X G a l c k (.all fun us hl => match us, hl with | [_, _], _ => rfl) (no_df rfl) (no_kw rfl))
theorem at24 (X : K.In h) (G : h.Ns mainGlobals mg)
    (a : PySem.W.nsIn K mainGlobals "_law_parts" = some (some (.ref f)))
    (l : K.lookup f = some ⟨oc, od, .func (PySem.W.fnOf "_law_parts" "_law_parts" (defArgs s24) (defBody s24) (defScope s24) .none z2 z3 z4 an cd z5), sl⟩)
    (c : PySem.W.codeIn K cd "_law_parts" = true) (k : PySem.W.keepIn K (.ref f) = true)
    (r : ∀ f fd, At K mg tab 24 D24 f fd → goal) : goal := r _ _ (at_mk (D := D24) X G a l c k (.all fun us hl => match us, hl with | [_], _ => rfl) (no_df rfl) (no_kw rfl))
theorem at25 (X : K.In h) (G : h.Ns mainGlobals mg)
    (a : PySem.W.nsIn K mainGlobals "_law_right" = some (some (.ref f)))
    (l : K.lookup f = some ⟨oc, od, .func (PySem.W.fnOf "_law_right" "_law_right" (defArgs s25) (defBody s25) (defScope s25) .none z2 z3 z4 an cd z5), sl⟩)
    (c : PySem.W.codeIn K cd "_law_right" = true) (k : PySem.W.keepIn K (.ref f) = true)
    (r : ∀ f fd, At K mg tab 25 D25 f fd → goal) : goal := r _ _ (at_mk (D := D25) X G a l c k (.all fun us hl => match us, hl with | [_], _ => rfl) (no_df rfl) (no_kw rfl))
theorem at26 {fa : Addr} (X : K.In h) (G : h.Ns mainGlobals mg) (_hm : mg "law" = some (.ref fa))
    (a : PySem.W.nsIn K mainGlobals "law" = some (some (.ref f)))
    (l : K.lookup f = some ⟨oc, od, .func (PySem.W.fnOf "law" "law" (defArgs s26) (defBody s26) (defScope s26) .none z2 z3 z4 an cd z5), sl⟩)
    (c : PySem.W.codeIn K cd "law" = true) (k : PySem.W.keepIn K (.ref f) = true)
    (r : ∀ fd, (∀ (s : Shared) (u : Value), BindsTo s fd ⟨[u], []⟩ [("script", u)]) → At K mg tab 26 D26 fa fd → goal) : goal := by
  have e := _hm.symm.trans (PySem.W.mg_of X G a)
  cases e
  exact r _ (fun s u => .of_eq rfl) (at_mk (D := D26) X G a l c k (.all fun us hl => match us, hl with | [_], _ => rfl) (no_df rfl) (no_kw rfl))
end
end K03

set_option maxRecDepth 100000
namespace K03
open PySem Mi
def sgL : List (Option Sg) := [some ⟨.sc, [false]⟩, some ⟨.sc, [false]⟩, some ⟨.sc, [false]⟩, some ⟨.own 1, [false]⟩, some ⟨.sc, [false]⟩, some ⟨.sc, [false]⟩, some ⟨.sc, [false]⟩, some ⟨.own 1, [false]⟩, some ⟨.own 1, [false]⟩, some ⟨.own 2, [false]⟩, some ⟨.own 2, [false]⟩, some ⟨.own 2, [false]⟩, some ⟨.own 1, [false, false]⟩, some ⟨.sc, [false, false, false]⟩, some ⟨.sc, [true, false]⟩, some ⟨.own 0, [true, false]⟩, some ⟨.sc, [false, false]⟩, some ⟨.own 2, [false, false]⟩, some ⟨.own 1, [false]⟩, some ⟨.pu, [false]⟩, some ⟨.own 1, [false]⟩, some ⟨.sc, [false]⟩, some ⟨.own 1, [false]⟩, some ⟨.own 9, [true, false]⟩, some ⟨.own 2, [false]⟩, some ⟨.sc, [false]⟩, none]
theorem chk : chkAll (sgOf sgL) sgL 0 (Ds.map (·.d)) = true := by decide +kernel
def Qp : Nat → Option Df := maskQ (qOf Ds) sgL
abbrev CP : Nat → CallsP := callP Qp
theorem sps : ∀ i d, Qp i = some d → (sgOf sgL i).ret = .pu → SpShape (sgOf sgL) d := sp_one 19 (by decide) (fun d e => by cases e; exact ⟨19, rfl, by first | exact .inl ⟨_, _, rfl⟩ | exact .inr ⟨_, rfl⟩⟩)
theorem q0 : Qp 0 = some d0 := rfl
/-- is_whole: 0 value -/
theorem call0 {k : Nat} {u0 : D} {w : PW} : CP (k + 1) 0 [u0] w = fin (exPs (CP k) b0 [some u0] w) := (callP_at q0).trans (runP_fin rfl)
theorem q1 : Qp 1 = some d1 := rfl
/-- is_road: 0 value 1 step -/
theorem call1 {k : Nat} {u0 : D} {w : PW} : CP (k + 1) 1 [u0] w = fin (exPs (CP k) b1 [some u0, none] w) := (callP_at q1).trans (runP_fin rfl)
theorem q2 : Qp 2 = some d2 := rfl
/-- check_road: 0 value -/
theorem call2 {k : Nat} {u0 : D} {w : PW} : CP (k + 1) 2 [u0] w = fin (exPs (CP k) b2 [some u0] w) := (callP_at q2).trans (runP_fin rfl)
theorem q3 : Qp 3 = some d3 := rfl
/-- heights_there: 0 road 1 found 2 step -/
theorem call3 {k : Nat} {u0 : D} {w : PW} : CP (k + 1) 3 [u0] w = fin (exPs (CP k) b3 [some u0, none, none] w) := (callP_at q3).trans (runP_fin rfl)
theorem q4 : Qp 4 = some d4 := rfl
/-- stays_there: 0 road -/
theorem call4 {k : Nat} {u0 : D} {w : PW} : CP (k + 1) 4 [u0] w = fin (exPs (CP k) b4 [some u0] w) := (callP_at q4).trans (runP_fin rfl)
theorem q5 : Qp 5 = some d5 := rfl
/-- is_closed_there: 0 road -/
theorem call5 {k : Nat} {u0 : D} {w : PW} : CP (k + 1) 5 [u0] w = fin (exPs (CP k) b5 [some u0] w) := (callP_at q5).trans (runP_fin rfl)
theorem q6 : Qp 6 = some d6 := rfl
/-- check_closed: 0 value -/
theorem call6 {k : Nat} {u0 : D} {w : PW} : CP (k + 1) 6 [u0] w = fin (exPs (CP k) b6 [some u0] w) := (callP_at q6).trans (runP_fin rfl)
theorem q7 : Qp 7 = some d7 := rfl
/-- joined: 0 roads 1 found 2 road -/
theorem call7 {k : Nat} {u0 : D} {w : PW} : CP (k + 1) 7 [u0] w = fin (exPs (CP k) b7 [some u0, none, none] w) := (callP_at q7).trans (runP_fin rfl)
theorem q8 : Qp 8 = some d8 := rfl
/-- raised: 0 road -/
theorem call8 {k : Nat} {u0 : D} {w : PW} : CP (k + 1) 8 [u0] w = fin (exPs (CP k) b8 [some u0] w) := (callP_at q8).trans (runP_fin rfl)
theorem q9 : Qp 9 = some d9 := rfl
/-- first_return: 0 road 1 at -/
theorem call9 {k : Nat} {u0 : D} {w : PW} : CP (k + 1) 9 [u0] w = fin (exPs (CP k) b9 [some u0, none] w) := (callP_at q9).trans (runP_fin rfl)
theorem q10 : Qp 10 = some d10 := rfl
/-- ground_there: 0 road 1 found 2 begun 3 at 4 height -/
theorem call10 {k : Nat} {u0 : D} {w : PW} : CP (k + 1) 10 [u0] w = fin (exPs (CP k) b10 [some u0, none, none, none, none] w) := (callP_at q10).trans (runP_fin rfl)
theorem q11 : Qp 11 = some d11 := rfl
/-- ground_parts: 0 road -/
theorem call11 {k : Nat} {u0 : D} {w : PW} : CP (k + 1) 11 [u0] w = fin (exPs (CP k) b11 [some u0] w) := (callP_at q11).trans (runP_fin rfl)
theorem q12 : Qp 12 = some d12 := rfl
/-- _law_purse: 0 script 1 at 2 seed -/
theorem call12 {k : Nat} {u0 u1 : D} {w : PW} : CP (k + 1) 12 [u0, u1] w = fin (exPs (CP k) b12 [some u0, some u1, none] w) := (callP_at q12).trans (runP_fin rfl)
theorem q13 : Qp 13 = some d13 := rfl
/-- _law_mixed: 0 seed 1 spin 2 at 3 mixed -/
theorem call13 {k : Nat} {u0 u1 u2 : D} {w : PW} : CP (k + 1) 13 [u0, u1, u2] w = fin (exPs (CP k) b13 [some u0, some u1, some u2, none] w) := (callP_at q13).trans (runP_fin rfl)
theorem q14 : Qp 14 = some d14 := rfl
/-- _law_draw: 0 purse 1 many 2 found 3 piece 4 drawn -/
theorem call14 {k : Nat} {u0 u1 : D} {w : PW} : CP (k + 1) 14 [u0, u1] w = fin (exPs (CP k) b14 [some u0, some u1, none, none, none] w) := (callP_at q14).trans (runP_fin rfl)
theorem q15 : Qp 15 = some d15 := rfl
/-- _law_one_of: 0 purse 1 some -/
theorem call15 {k : Nat} {u0 u1 : D} {w : PW} : CP (k + 1) 15 [u0, u1] w = fin (exPs (CP k) b15 [some u0, some u1] w) := (callP_at q15).trans (runP_fin rfl)
theorem q16 : Qp 16 = some d16 := rfl
/-- _law_same: 0 told 1 due 2 is_like 3 key 4 one 5 other -/
theorem call16 {k : Nat} {u0 u1 : D} {w : PW} : CP (k + 1) 16 [u0, u1] w = fin (exPs (CP k) b16 [some u0, some u1, none, none, none, none] w) := (callP_at q16).trans (runP_fin rfl)
theorem q17 : Qp 17 = some d17 := rfl
/-- _law_purses: 0 script 1 few 2 at -/
theorem call17 {k : Nat} {u0 u1 : D} {w : PW} : CP (k + 1) 17 [u0, u1] w = fin (exPs (CP k) b17 [some u0, some u1, none] w) := (callP_at q17).trans (runP_fin rfl)
theorem q18 : Qp 18 = some d18 := rfl
/-- _law_chain: 0 lists 1 found 2 late -/
theorem call18 {k : Nat} {u0 : D} {w : PW} : CP (k + 1) 18 [u0] w = fin (exPs (CP k) b18 [some u0, none, none] w) := (callP_at q18).trans (runP_fin rfl)
theorem q19 : Qp 19 = some d19 := rfl
/-- _law_spoilt: 0 thing 1 key 2 item -/
theorem call19 {k : Nat} {u0 : D} {w : PW} : CP (k + 1) 19 [u0] w = fin (exPs (CP k) b19 [some u0, none, none] w) := (callP_at q19).trans (runP_fin rfl)
theorem q20 : Qp 20 = some d20 := rfl
/-- _law_heights: 0 road 1 found 2 step -/
theorem call20 {k : Nat} {u0 : D} {w : PW} : CP (k + 1) 20 [u0] w = fin (exPs (CP k) b20 [some u0, none, none] w) := (callP_at q20).trans (runP_fin rfl)
theorem q21 : Qp 21 = some d21 := rfl
/-- _law_is_closed: 0 road 1 found -/
theorem call21 {k : Nat} {u0 : D} {w : PW} : CP (k + 1) 21 [u0] w = fin (exPs (CP k) b21 [some u0, none] w) := (callP_at q21).trans (runP_fin rfl)
theorem q22 : Qp 22 = some d22 := rfl
/-- _law_all_closed: 0 pairs 1 found 2 spin 3 late 4 step -/
theorem call22 {k : Nat} {u0 : D} {w : PW} : CP (k + 1) 22 [u0] w = fin (exPs (CP k) b22 [some u0, none, none, none, none] w) := (callP_at q22).trans (runP_fin rfl)
theorem q23 : Qp 23 = some d23 := rfl
/-- _law_closed_road: 0 purse 1 pairs 2 found 3 height 4 spin 5 left 6 up -/
theorem call23 {k : Nat} {u0 u1 : D} {w : PW} : CP (k + 1) 23 [u0, u1] w = fin (exPs (CP k) b23 [some u0, some u1, none, none, none, none, none] w) := (callP_at q23).trans (runP_fin rfl)
theorem q24 : Qp 24 = some d24 := rfl
/-- _law_parts: 0 road 1 found 2 begun 3 at 4 height -/
theorem call24 {k : Nat} {u0 : D} {w : PW} : CP (k + 1) 24 [u0] w = fin (exPs (CP k) b24 [some u0, none, none, none, none] w) := (callP_at q24).trans (runP_fin rfl)
theorem q25 : Qp 25 = some d25 := rfl
/-- _law_right: 0 road 1 kept 2 parts 3 due 4 told 5 part -/
theorem call25 {k : Nat} {u0 : D} {w : PW} : CP (k + 1) 25 [u0] w = fin (exPs (CP k) b25 [some u0, none, none, none, none, none] w) := (callP_at q25).trans (runP_fin rfl)
def c0 (C : CallsP) : PSt := (tCons (tRet (cAnd (cIsi (cVar 0) .int) (cNot (cIsi (cVar 0) .bool)))) tNil)
theorem e0 (C : CallsP) : exPs C b0 = c0 C := rfl
def c1 (C : CallsP) : PSt := (tCons (tRet (cAnd (cIsi (cVar 0) .list) (cBi .all (cCons (cLc [1] (.nm 1) .seq (cVar 0) (cK .non) (cK (.bl true)) (cAnd (cCall C 0 (cCons (cVar 1) cNil) []) (cCmp .isin (cVar 1) (cTup (cCons (cK (.int 1)) (cCons (cNeg (cK (.int 1))) cNil)))))) cNil)))) tNil)
theorem e1 (C : CallsP) : exPs C b1 = c1 C := rfl
def c2 (C : CallsP) : PSt := (tCons (tIte (cNot (cCall C 1 (cCons (cVar 0) cNil) [])) (tCons tNo tNil) tNil) tNil)
theorem e2 (C : CallsP) : exPs C b2 = c2 C := rfl
def c3 (C : CallsP) : PSt := (tCons (tSet 1 (cList (cCons (cK (.int 0)) cNil))) (tCons (tFor (.nm 2) .seq (cVar 0) (cK .non) (tCons (tMut1 .append 1 (cCons (cBin .add (cSub (cVar 1) (cNeg (cK (.int 1)))) (cVar 2)) cNil)) tNil)) (tCons (tRet (cVar 1)) tNil)))
theorem e3 (C : CallsP) : exPs C b3 = c3 C := rfl
def c4 (C : CallsP) : PSt := (tCons (tRet (cCmp .ge (cBi .min1 (cCons (cCall C 3 (cCons (cVar 0) cNil) []) cNil)) (cK (.int 0)))) tNil)
theorem e4 (C : CallsP) : exPs C b4 = c4 C := rfl
def c5 (C : CallsP) : PSt := (tCons (tRet (cAnd (cCall C 4 (cCons (cVar 0) cNil) []) (cCmp .eq (cBi .sum (cCons (cVar 0) cNil)) (cK (.int 0))))) tNil)
theorem e5 (C : CallsP) : exPs C b5 = c5 C := rfl
def c6 (C : CallsP) : PSt := (tCons (tIte (cOr (cNot (cCall C 1 (cCons (cVar 0) cNil) [])) (cNot (cCall C 5 (cCons (cVar 0) cNil) []))) (tCons tNo tNil) tNil) tNil)
theorem e6 (C : CallsP) : exPs C b6 = c6 C := rfl
def c7 (C : CallsP) : PSt := (tCons (tIte (cOr (cNot (cIsi (cVar 0) .list)) (cNot (cBi .all (cCons (cLc [2] (.nm 2) .seq (cVar 0) (cK .non) (cK (.bl true)) (cCall C 1 (cCons (cVar 2) cNil) [])) cNil)))) (tCons tNo tNil) tNil) (tCons (tSet 1 (cList cNil)) (tCons (tFor (.nm 2) .seq (cVar 0) (cK .non) (tCons (tSet 1 (cBin .add (cVar 1) (cVar 2))) tNil)) (tCons (tRet (cVar 1)) tNil))))
theorem e7 (C : CallsP) : exPs C b7 = c7 C := rfl
def c8 (C : CallsP) : PSt := (tCons (tEx (cCall C 2 (cCons (cVar 0) cNil) [])) (tCons (tRet (cBin .add (cBin .add (cList (cCons (cK (.int 1)) cNil)) (cVar 0)) (cList (cCons (cNeg (cK (.int 1))) cNil)))) tNil))
theorem e8 (C : CallsP) : exPs C b8 = c8 C := rfl
def c9 (C : CallsP) : PSt := (tCons (tEx (cCall C 6 (cCons (cVar 0) cNil) [])) (tCons (tIte (cCmp .eq (cVar 0) (cList cNil)) (tCons (tRet (cK .non)) tNil) tNil) (tCons (tSet 1 (cMeth .index (cCall C 3 (cCons (cVar 0) cNil) []) (cCons (cK (.int 0)) (cCons (cK (.int 1)) cNil)))) (tCons (tRet (cTup (cCons (cSlice (cVar 0) true true (cK (.int 1)) (cBin .sub (cVar 1) (cK (.int 1)))) (cCons (cSlice (cVar 0) true false (cVar 1) (cK .non)) cNil)))) tNil))))
theorem e9 (C : CallsP) : exPs C b9 = c9 C := rfl
def c10 (C : CallsP) : PSt := (tCons (tPar [1, 2] (cCons (cList cNil) (cCons (cK (.int 0)) cNil))) (tCons (tFor (.tp2 (.nm 3) (.nm 4)) .enum (cCall C 3 (cCons (cVar 0) cNil) []) (cK .non) (tCons (tIte (cAnd (cCmp .gt (cVar 3) (cK (.int 0))) (cCmp .eq (cVar 4) (cK (.int 0)))) (tCons (tMut1 .append 1 (cCons (cSlice (cVar 0) true true (cBin .add (cVar 2) (cK (.int 1))) (cBin .sub (cVar 3) (cK (.int 1)))) cNil)) (tCons (tMv 2 3) tNil)) tNil) tNil)) (tCons (tRet (cVar 1)) tNil)))
theorem e10 (C : CallsP) : exPs C b10 = c10 C := rfl
def c11 (C : CallsP) : PSt := (tCons (tEx (cCall C 6 (cCons (cVar 0) cNil) [])) (tCons (tRet (cCall C 10 (cCons (cVar 0) cNil) [])) tNil))
theorem e11 (C : CallsP) : exPs C b11 = c11 C := rfl
def c12 (C : CallsP) : PSt := (tCons (tSet 2 (cBi .sum (cCons (cSlice (cVar 0) true true (cVar 1) (cBin .add (cVar 1) (cK (.int 1)))) cNil))) (tCons (tRet (cList (cCons (cBin .mod (cBi .int (cCons (cBi .max2 (cCons (cBin .sub (cVar 2) (cBin .pow (cK (.int 10)) (cK (.int 18)))) (cCons (cK (.int 0)) cNil))) cNil)) (cBin .pow (cBin .pow (cK (.int 10)) (cK (.int 60))) (cK (.int 8)))) (cCons (cBin .mod (cBi .int (cCons (cVar 2) cNil)) (cK (.int 2147483629))) (cCons (cK (.int 0)) (cCons (cVar 1) cNil)))))) tNil))
theorem e12 (C : CallsP) : exPs C b12 = c12 C := rfl
def c13 (C : CallsP) : PSt := (tCons (tSet 3 (cBin .add (cBin .mul (cVar 0) (cK (.int 69069))) (cBin .mul (cBin .mul (cK (.int 104729)) (cVar 1)) (cVar 1)))) (tCons (tSet 3 (cBin .mod (cBi .int (cCons (cBin .add (cBin .add (cVar 3) (cBin .mul (cK (.int 7919)) (cVar 2))) (cVar 1)) cNil)) (cK (.int 2147483647)))) (tCons (tSet 3 (cBin .mod (cBi .int (cCons (cBin .add (cBin .mul (cVar 3) (cVar 3)) (cK (.int 40503))) cNil)) (cK (.int 2147483629)))) (tCons (tRet (cBin .mod (cBi .int (cCons (cBin .mul (cVar 3) (cK (.int 48271))) cNil)) (cK (.int 2147483587)))) tNil))))
theorem e13 (C : CallsP) : exPs C b13 = c13 C := rfl
def c14 (C : CallsP) : PSt := (tCons (tIte (cCmp .gt (cSub (cVar 0) (cK (.int 0))) (cK (.int 0))) (tCons (tSet 4 (cBin .mod (cBi .int (cCons (cSub (cVar 0) (cK (.int 0))) cNil)) (cVar 1))) (tCons (tSt1 0 (cK (.int 0)) (cBin .fdiv (cSub (cVar 0) (cK (.int 0))) (cVar 1))) (tCons (tRet (cVar 4)) tNil))) tNil) (tCons (tSet 2 (cK (.int 0))) (tCons (tFor (.nm 3) .rng1 (cBin .add (cK (.int 1)) (cBin .fdiv (cMeth .bitlen (cVar 1) cNil) (cK (.int 28)))) (cK .non) (tCons (tSt1 0 (cK (.int 2)) (cBin .add (cSub (cVar 0) (cK (.int 2))) (cK (.int 1)))) (tCons (tSet 2 (cBin .add (cBin .mul (cVar 2) (cK (.int 2147483587))) (cCall C 13 (cCons (cSub (cVar 0) (cK (.int 1))) (cCons (cSub (cVar 0) (cK (.int 2))) (cCons (cSub (cVar 0) (cK (.int 3))) cNil))) []))) tNil))) (tCons (tRet (cBin .mod (cBi .int (cCons (cVar 2) cNil)) (cVar 1))) tNil))))
theorem e14 (C : CallsP) : exPs C b14 = c14 C := rfl
def c15 (C : CallsP) : PSt := (tCons (tRet (cSub (cVar 1) (cCall C 14 (cCons (cVar 0) (cCons (cBi .len (cCons (cVar 1) cNil)) cNil)) []))) tNil)
theorem e15 (C : CallsP) : exPs C b15 = c15 C := rfl
def c16 (C : CallsP) : PSt := (tCons (tIte (cIsi (cVar 1) .dict) (tCons (tSet 2 (cAnd (cIsi (cVar 0) .dict) (cAnd (cCmp .eq (cBi .len (cCons (cVar 0) cNil)) (cBi .len (cCons (cVar 1) cNil))) (cBi .all (cCons (cLc [3] (.nm 3) .seq (cVar 1) (cK .non) (cK (.bl true)) (cCmp .isin (cVar 3) (cVar 0))) cNil))))) (tCons (tRet (cAnd (cVar 2) (cBi .all (cCons (cLc [3] (.nm 3) .seq (cVar 1) (cK .non) (cK (.bl true)) (cCall C 16 (cCons (cSub (cVar 0) (cVar 3)) (cCons (cSub (cVar 1) (cVar 3)) cNil)) [])) cNil)))) tNil)) tNil) (tCons (tIte (cIsi2 (cVar 1) [.list, .tuple]) (tCons (tSet 2 (cAnd (cCmp .eq (cIsi (cVar 0) .list) (cIsi (cVar 1) .list)) (cCmp .eq (cIsi (cVar 0) .tuple) (cIsi (cVar 1) .tuple)))) (tCons (tRet (cAnd (cVar 2) (cAnd (cCmp .eq (cBi .len (cCons (cVar 0) cNil)) (cBi .len (cCons (cVar 1) cNil))) (cBi .all (cCons (cLc [4, 5] (.tp2 (.nm 4) (.nm 5)) .zip (cVar 0) (cVar 1) (cK (.bl true)) (cCall C 16 (cCons (cVar 4) (cCons (cVar 5) cNil)) [])) cNil))))) tNil)) tNil) (tCons (tSet 2 (cAnd (cNot (cIsi2 (cVar 0) [.list, .tuple, .dict])) (cAnd (cCmp .eq (cIsi (cVar 0) .int) (cIsi (cVar 1) .int)) (cCmp .eq (cIsi (cVar 0) .str) (cIsi (cVar 1) .str))))) (tCons (tRet (cAnd (cVar 2) (cAnd (cCmp .eq (cCmp .is (cVar 0) (cK .non)) (cCmp .is (cVar 1) (cK .non))) (cAnd (cCmp .eq (cIsi (cVar 0) .bool) (cIsi (cVar 1) .bool)) (cCmp .eq (cVar 0) (cVar 1)))))) tNil))))
theorem e16 (C : CallsP) : exPs C b16 = c16 C := rfl
def c17 (C : CallsP) : PSt := (tCons (tRet (cLc [2] (.nm 2) .rng1 (cBi .max2 (cCons (cK (.int 1)) (cCons (cBi .min2 (cCons (cVar 1) (cCons (cBi .len (cCons (cVar 0) cNil)) cNil))) cNil))) (cK .non) (cK (.bl true)) (cCall C 12 (cCons (cVar 0) (cCons (cVar 2) cNil)) []))) tNil)
theorem e17 (C : CallsP) : exPs C b17 = c17 C := rfl
def c18 (C : CallsP) : PSt := (tCons (tSet 1 (cList cNil)) (tCons (tFor (.nm 2) .seq (cVar 0) (cK .non) (tCons (tSet 1 (cBin .add (cVar 1) (cBi .list (cCons (cVar 2) cNil)))) tNil)) (tCons (tRet (cVar 1)) tNil)))
theorem e18 (C : CallsP) : exPs C b18 = c18 C := rfl
def c19 (C : CallsP) : PSt := (tCons (tIte (cIsi (cVar 0) .dict) (tCons (tFor (.nm 1) .seq (cBi .list (cCons (cVar 0) cNil)) (cK .non) (tCons (tEx (cCall C 19 (cCons (cSub (cVar 0) (cVar 1)) cNil) [])) tNil)) (tCons (tSt1 0 (cK (.str "MORE")) (cK (.str "MORE"))) tNil)) tNil) (tCons (tIte (cIsi2 (cVar 0) [.list, .tuple]) (tCons (tFor (.nm 2) .seq (cVar 0) (cK .non) (tCons (tEx (cCall C 19 (cCons (cVar 2) cNil) [])) tNil)) tNil) tNil) (tCons (tIte (cIsi (cVar 0) .list) (tCons (tMut1 .append 0 (cCons (cK (.str "MORE")) cNil)) tNil) tNil) tNil)))
theorem e19 (C : CallsP) : exPs C b19 = c19 C := rfl
def c20 (C : CallsP) : PSt := (tCons (tSet 1 (cList (cCons (cK (.int 0)) cNil))) (tCons (tFor (.nm 2) .seq (cVar 0) (cK .non) (tCons (tSet 1 (cBin .add (cVar 1) (cList (cCons (cBin .add (cSub (cVar 1) (cNeg (cK (.int 1)))) (cVar 2)) cNil)))) tNil)) (tCons (tRet (cVar 1)) tNil)))
theorem e20 (C : CallsP) : exPs C b20 = c20 C := rfl
def c21 (C : CallsP) : PSt := (tCons (tSet 1 (cCall C 20 (cCons (cVar 0) cNil) [])) (tCons (tRet (cAnd (cCmp .ge (cBi .min1 (cCons (cVar 1) cNil)) (cK (.int 0))) (cCmp .eq (cSub (cVar 1) (cNeg (cK (.int 1)))) (cK (.int 0))))) tNil))
theorem e21 (C : CallsP) : exPs C b21 = c21 C := rfl
def c22 (C : CallsP) : PSt := (tCons (tSet 1 (cList (cCons (cList cNil) cNil))) (tCons (tFor (.nm 2) .rng1 (cBin .mul (cK (.int 2)) (cVar 0)) (cK .non) (tCons (tSet 1 (cCall C 18 (cCons (cLc [3] (.nm 3) .seq (cVar 1) (cK .non) (cK (.bl true)) (cLc [4] (.nm 4) .seq (cTup (cCons (cNeg (cK (.int 1))) (cCons (cK (.int 1)) cNil))) (cK .non) (cK (.bl true)) (cBin .add (cVar 3) (cList (cCons (cVar 4) cNil))))) cNil) [])) (tCons (tSet 1 (cLc [3] (.nm 3) .seq (cVar 1) (cK .non) (cChain .le .le (cK (.int 0)) (cBi .sum (cCons (cVar 3) cNil)) (cBin .sub (cBin .mul (cK (.int 2)) (cVar 0)) (cBi .len (cCons (cVar 3) cNil)))) (cVar 3))) tNil))) (tCons (tRet (cVar 1)) tNil)))
theorem e22 (C : CallsP) : exPs C b22 = c22 C := rfl
def c23 (C : CallsP) : PSt := (tCons (tPar [2, 3] (cCons (cList cNil) (cCons (cK (.int 0)) cNil))) (tCons (tFor (.nm 4) .rng1 (cBin .mul (cK (.int 2)) (cVar 1)) (cK .non) (tCons (tSet 5 (cBin .sub (cBin .mul (cK (.int 2)) (cVar 1)) (cBi .len (cCons (cVar 2) cNil)))) (tCons (tSet 6 (cOr (cCmp .eq (cVar 3) (cK (.int 0))) (cAnd (cCmp .lt (cVar 3) (cVar 5)) (cCmp .eq (cCall C 14 (cCons (cVar 0) (cCons (cK (.int 2)) cNil)) []) (cK (.int 0)))))) (tCons (tMut1 .append 2 (cCons (cIte (cVar 6) (cK (.int 1)) (cNeg (cK (.int 1)))) cNil)) (tCons (tSet 3 (cBin .add (cVar 3) (cSub (cVar 2) (cNeg (cK (.int 1)))))) tNil))))) (tCons (tRet (cVar 2)) tNil)))
theorem e23 (C : CallsP) : exPs C b23 = c23 C := rfl
def c24 (C : CallsP) : PSt := (tCons (tPar [1, 2] (cCons (cList cNil) (cCons (cK (.int 0)) cNil))) (tCons (tFor (.tp2 (.nm 3) (.nm 4)) .enum (cCall C 20 (cCons (cVar 0) cNil) []) (cK .non) (tCons (tIte (cAnd (cCmp .eq (cVar 4) (cK (.int 0))) (cCmp .gt (cVar 3) (cK (.int 0)))) (tCons (tMut1 .append 1 (cCons (cSlice (cVar 0) true true (cBin .add (cVar 2) (cK (.int 1))) (cBin .sub (cVar 3) (cK (.int 1)))) cNil)) (tCons (tMv 2 3) tNil)) tNil) tNil)) (tCons (tRet (cVar 1)) tNil)))
theorem e24 (C : CallsP) : exPs C b24 = c24 C := rfl
def c25 (C : CallsP) : PSt := (tCons (tSet 1 (cBi .list (cCons (cVar 0) cNil))) (tCons (tSet 2 (cCall C 24 (cCons (cVar 0) cNil) [])) (tCons (tSet 3 (cIte (cCmp .eq (cVar 0) (cList cNil)) (cK .non) (cTup (cCons (cSub (cVar 2) (cK (.int 0))) (cCons (cSlice (cVar 0) true false (cBin .add (cBi .len (cCons (cSub (cVar 2) (cK (.int 0))) cNil)) (cK (.int 2))) (cK .non)) cNil))))) (tCons (tSet 4 (cList (cCons (cCall C 9 (cCons (cVar 0) cNil) []) (cCons (cCallk C 9 cNil (cCons (cVar 0) cNil) [0]) (cCons (cCall C 11 (cCons (cVar 0) cNil) []) (cCons (cCallk C 11 cNil (cCons (cVar 0) cNil) [0]) cNil)))))) (tCons (tIte (cNot (cCall C 16 (cCons (cVar 4) (cCons (cList (cCons (cVar 3) (cCons (cVar 3) (cCons (cVar 2) (cCons (cVar 2) cNil))))) cNil)) [])) (tCons (tRet (cK (.bl false))) tNil) tNil) (tCons (tIte (cAnd (cCmp .ne (cVar 0) (cList cNil)) (cOr (cCmp .ne (cCall C 7 (cCons (cList (cCons (cCall C 8 (cCons (cSub (cSub (cVar 4) (cK (.int 0))) (cK (.int 0))) cNil) []) (cCons (cSub (cSub (cVar 4) (cK (.int 0))) (cK (.int 1))) cNil))) cNil) []) (cVar 0)) (cOr (cNot (cCall C 21 (cCons (cSub (cSub (cVar 4) (cK (.int 0))) (cK (.int 0))) cNil) [])) (cNot (cCall C 21 (cCons (cSub (cSub (cVar 4) (cK (.int 0))) (cK (.int 1))) cNil) []))))) (tCons (tRet (cK (.bl false))) tNil) tNil) (tCons (tIte (cCmp .ne (cCall C 7 (cCons (cLc [5] (.nm 5) .seq (cSub (cVar 4) (cK (.int 2))) (cK .non) (cK (.bl true)) (cCall C 8 (cCons (cVar 5) cNil) [])) cNil) []) (cVar 0)) (tCons (tRet (cK (.bl false))) tNil) tNil) (tCons (tSpl 3 4 (C 19)) (tCons (tRet (cAnd (cCmp .eq (cVar 0) (cVar 1)) (cCall C 16 (cCons (cCall C 11 (cCons (cVar 0) cNil) []) (cCons (cVar 2) cNil)) []))) tNil)))))))))
theorem e25 (C : CallsP) : exPs C b25 = c25 C := rfl
def cs (C : CallsP) : List (Option (Nat × Nat × PSt)) := [some (1, 1, c0 C), some (1, 2, c1 C), some (1, 1, c2 C), some (1, 3, c3 C), some (1, 1, c4 C), some (1, 1, c5 C), some (1, 1, c6 C), some (1, 3, c7 C), some (1, 1, c8 C), some (1, 2, c9 C), some (1, 5, c10 C), some (1, 1, c11 C), some (2, 3, c12 C), some (3, 4, c13 C), some (2, 5, c14 C), some (2, 2, c15 C), some (2, 6, c16 C), some (2, 3, c17 C), some (1, 3, c18 C), some (1, 3, c19 C), some (1, 3, c20 C), some (1, 2, c21 C), some (1, 5, c22 C), some (2, 7, c23 C), some (1, 5, c24 C), some (1, 6, c25 C), none]
end K03

set_option maxRecDepth 100000
namespace K03
open Mi PySem Rd
local macro_rules | `(tactic| walk_at "mi") => `(tactic| simp only [v_pb, v_ob, v_pft, v_pff, v_pfd, v_pfn, v_pbs, v_pbs_rt, v_pbs_bk, v_pbs_ct, v_fin_rt, v_fin_nx, v_var, v_int, v_bl, v_non, v_str, v_bin, v_neg, v_not, v_and, v_or, v_ite, v_cmp, v_chain, v_list, v_tup, v_sub, v_slice, v_rev, v_call, v_callk, v_bi, v_isi, v_isi2, v_meth, v_lrng, v_turn, v_turn2, v_lc, v_lc2, v_nil, v_cons, v_Nil, v_Cons, v_pass, v_ex, v_set, v_setF, v_spl, v_app, v_appF, v_retF, v_par, v_asg, v_aug, v_Ite, v_body, v_for, v_while, v_ret, v_retn, v_brk, v_cnt, v_mut1, v_mut2, v_st1, v_sw, v_mv, v_mutv, v_get0, v_getS, v_set0, v_setS, v_one, v_two, v_nm, v_tp2t, v_tp2l, v_tp3t, v_wipe0, v_wipeS, v_all0, v_allS, v_st1D, v_stDl, v_stDp,
  d_add, d_sub, d_mul, d_div, d_mod, d_pow, d_appM, d_repI, d_lt, d_le, d_gt, d_ge, d_eqi, d_nei, d_eqI, d_neI, d_eqI0, d_neI0, d_inI, d_ninI, d_inN, d_ninN, d_inO, d_ninO, d_subD, d_slice, d_countI, d_sliceL, d_sliceR, cut_mapI, setD_0, setD_1, setD_2, d_eqbb, d_nebb, d_is, d_isn, d_notb, d_negi, d_notO, d_len, d_lenT, d_sum, d_all, d_any, d_min2, d_max2, d_inti, d_intb, d_listl, d_listt, d_tuple, d_new0, d_new1, d_new2, d_new3, d_new4, d_new5, d_new6, d_newT2, d_newT3, d_newT4, d_newm, d_subL, d_subT, d_sub0, isTyD, isTysD, isNonD, dOf, atI_i, setD_i,
  i_seqM, i_seqT, i_seqL, i_seq0, v_pbl, v_pbl_ct, v_pbl_bk, v_pbl_rt, v_for0, v_forS, v_lc0, v_lcS, d_sub1, d_sub2, d_sub3, h_le1, d_appL, d_appR, i_enumM, i_zipM, i_rev, List.map_cons, List.map_nil, List.length_map, List.length_cons, List.length_nil, List.getD_cons_zero, List.getD_cons_succ, List.append_nil, List.nil_append, List.cons_append, Bool.not_true, Bool.not_false, Bool.not_not, decide_true, decide_false, if_true, if_false, ite_true, ite_false, reduceIte, Bool.false_eq_true, *])
local macro_rules | `(tactic| walk_at "mn") => `(tactic| simp only [v_pb, v_ob, v_pft, v_pff, v_pfd, v_pfn, v_pbs, v_pbs_rt, v_pbs_bk, v_pbs_ct, v_fin_rt, v_fin_nx, v_var, v_int, v_bl, v_non, v_str, v_bin, v_neg, v_not, v_and, v_or, v_ite, v_cmp, v_chain, v_list, v_tup, v_sub, v_slice, v_rev, v_call, v_callk, v_bi, v_isi, v_isi2, v_meth, v_lrng, v_turn, v_turn2, v_lc, v_lc2, v_nil, v_cons, v_Nil, v_Cons, v_pass, v_ex, v_set, v_setF, v_spl, v_app, v_appF, v_retF, v_par, v_asg, v_aug, v_Ite, v_body, v_for, v_while, v_ret, v_retn, v_brk, v_cnt, v_mut1, v_mut2, v_st1, v_sw, v_mv, v_mutv, v_get0, v_getS, v_set0, v_setS, v_one, v_two, v_nm, v_tp2t, v_tp2l, v_tp3t, v_wipe0, v_wipeS, v_all0, v_allS, v_st1D, v_stDl, v_stDp,
  d_add, d_sub, d_mul, d_div, d_mod, d_pow, d_appM, d_repI, d_lt, d_le, d_gt, d_ge, d_eqi, d_nei, d_eqI, d_neI, d_eqI0, d_neI0, d_inI, d_ninI, d_inN, d_ninN, d_inO, d_ninO, d_subD, d_slice, d_countI, d_sliceL, d_sliceR, cut_mapI, setD_0, setD_1, setD_2, d_eqbb, d_nebb, d_is, d_isn, d_notb, d_negi, d_notO, d_len, d_lenT, d_sum, d_all, d_any, d_min2, d_max2, d_inti, d_intb, d_listl, d_listt, d_tuple, d_new0, d_new1, d_new2, d_new3, d_new4, d_new5, d_new6, d_newT2, d_newT3, d_newT4, d_newm, d_subL, d_subT, d_sub0, isTyD, isTysD, isNonD, dOf, atI_i, setD_i,
  i_seqM, i_seqT, i_seqL, i_seq0, v_pbl, v_pbl_ct, v_pbl_bk, v_pbl_rt, v_lc0, v_lcS, d_sub1, d_sub2, d_sub3, h_le1, d_appL, d_appR, i_enumM, i_zipM, i_rev, List.map_cons, List.map_nil, List.length_map, List.length_cons, List.length_nil, List.getD_cons_zero, List.getD_cons_succ, List.append_nil, List.nil_append, List.cons_append, Bool.not_true, Bool.not_false, Bool.not_not, decide_true, decide_false, if_true, if_false, ite_true, ite_false, reduceIte, Bool.false_eq_true, *])

theorem is_whole_i {k : Nat} {i : Int} {w : PW} : CP (k + 1) 0 [.int i] w = some (.bl true, w) := by
  rw [call0]; unfold b0; walk_at "mi"
abbrev fL (r : List Int) : D := .lst (r.map D.int)
/-- a road -/
structure Road (l : List Int) : Prop where
  st : ∀ x ∈ l, x = 1 ∨ x = -1
  ln : l.length ≤ 1000
theorem is_road_ok {k : Nat} {w : PW} {l : List Int} (h : Road l) : CP (k + 2) 1 [.lst (l.map D.int)] w = some (.bl true, w) := by
  have hc := lcP_map (w := w) (f := turnC (CP (k + 1)) [1] (.nm 1) (.bl true) b1e1 [some (.lst (l.map D.int)), none])
    (enc := fun x : Int => .one (.int x)) (fun _ => .bl true) l (fun x hx => by
      have hi : cmpD .isin (.int x) (.tup [.int 1, .int (-1)]) = some true := by rcases h.st x hx with rfl | rfl <;> rfl
      have c1 := @is_whole_i k x w
      unfold b1e1
      walk_at "mi")
  have hn : newLD (l.map fun _ => D.bl true) = some (.lst (l.map fun _ => D.bl true)) := d_newm (le_size (by have := h.ln; omega))
  have ha : biD .all [.lst (l.map fun _ => D.bl true)] = some (.bl true) := by
    refine (d_allM (p := fun _ => true)).trans ?_
    simp
  clear h
  rw [call1]; unfold b1; walk_at "mi"
theorem check_road_ok {k : Nat} {w : PW} {l : List Int} (h : Road l) : CP (k + 3) 2 [.lst (l.map D.int)] w = some (.non, w) := by
  have c1 := is_road_ok (k := k) (w := w) h
  clear h
  rw [call2]; unfold b2; walk_at "mi"
def addL (s : List Int) (a : Int) : List Int := s ++ [s.getLastD 0 + a]
theorem addL_ne (s : List Int) (a : Int) : addL s a ≠ [] := by unfold addL; simp
theorem addL_len (s : List Int) (a : Int) : (addL s a).length = s.length + 1 := by unfold addL; rw [List.length_append]; rfl
theorem addL_fold : ∀ (l p : List Int) (h : Int), l.foldl addL (p ++ [h]) = (p ++ [h]) ++ psF h l
  | [], p, h => by simp [psF]
  | a :: r, p, h => by
    rw [List.foldl_cons]
    have e : addL (p ++ [h]) a = (p ++ [h]) ++ [h + a] := by unfold addL; simp
    rw [e, addL_fold r (p ++ [h]) (h + a)]
    show _ = (p ++ [h]) ++ ((h + a) :: psF (h + a) r)
    simp
theorem hts_fold (l : List Int) : l.foldl addL [0] = hts l := addL_fold l [] 0
theorem heights_there_ok {k : Nat} {w : PW} (l : List Int) (hl : l.length ≤ 1000) : CP (k + 1) 3 [.lst (l.map D.int)] w = some (.lst ((hts l).map D.int), w) := by
  obtain ⟨x', e⟩ := forP_acc (w := w) (f := bodyF (CP k) (.nm 2) b3f1) (enc := fun x : Int => .one (.int x))
    (fun (s : List Int) (x : Option D) => [some (.lst (l.map D.int)), some (.lst (s.map D.int)), x]) addL (fun r s => s ≠ [] ∧ s.length + r.length ≤ 2000) (fun a r s x h => by
      obtain ⟨h1, h2⟩ := h
      refine ⟨⟨some (.int a), ?_⟩, addL_ne _ _, by rw [addL_len]; rw [List.length_cons] at h2; omega⟩
      have c1 := atI_last h1
      have c2 : mutD .append (.lst (s.map D.int)) [.int (s.getLastD 0 + a)] = some (.lst ((addL s a).map D.int)) := d_appM1 (small_size (by omega))
      clear h1 h2
      unfold b3f1
      walk_at "mi") l [0] none ⟨by simp, by simp; omega⟩
  rw [hts_fold] at e
  have e0 : D.lst [.int 0] = .lst (([0] : List Int).map D.int) := rfl
  clear hl
  rw [call3]; unfold b3
  walk_at "mi"
theorem law_heights_ok {k : Nat} {w : PW} (l : List Int) (hl : l.length ≤ 1000) : CP (k + 1) 20 [.lst (l.map D.int)] w = some (.lst ((hts l).map D.int), w) := by
  obtain ⟨x', e⟩ := forP_acc (w := w) (f := bodyF (CP k) (.nm 2) b20f1) (enc := fun x : Int => .one (.int x))
    (fun (s : List Int) (x : Option D) => [some (.lst (l.map D.int)), some (.lst (s.map D.int)), x]) addL (fun r s => s ≠ [] ∧ s.length + r.length ≤ 2000) (fun a r s x h => by
      obtain ⟨h1, h2⟩ := h
      refine ⟨⟨some (.int a), ?_⟩, addL_ne _ _, by rw [addL_len]; rw [List.length_cons] at h2; omega⟩
      have c1 := atI_last h1
      have c2 : binD .add (.lst (s.map D.int)) (.lst [.int (s.getLastD 0 + a)]) = some (.lst ((addL s a).map D.int)) := d_appR (small_size (by omega))
      clear h1 h2
      unfold b20f1
      walk_at "mi") l [0] none ⟨by simp, by simp; omega⟩
  rw [hts_fold] at e
  have e0 : D.lst [.int 0] = .lst (([0] : List Int).map D.int) := rfl
  clear hl
  rw [call20]; unfold b20
  walk_at "mi"
theorem min_nonneg {l : List Int} (h : l ≠ []) {b : Int} : (b ≤ minI l ↔ ∀ x ∈ l, b ≤ x) := by
  obtain ⟨h1, h2⟩ := minI_spec h
  exact ⟨fun hb x hx => Int.le_trans hb (h2 x hx), fun hb => hb _ h1⟩
theorem hts_ne (l : List Int) : hts l ≠ [] := by unfold hts; simp
theorem hts_min (l : List Int) : (0 ≤ minI (hts l)) ↔ ∀ x ∈ psF 0 l, 0 ≤ x := by
  rw [min_nonneg (hts_ne l)]
  unfold hts
  simp
theorem psF_last : ∀ (l : List Int) (h : Int), (h :: psF h l).getLastD 0 = h + l.sum
  | [], h => by simp [psF]
  | x :: r, h => by
    have := psF_last r (h + x)
    rw [List.sum_cons]
    show (h :: (h + x) :: psF (h + x) r).getLastD 0 = _
    rw [List.getLastD_cons]
    rw [List.getLastD_cons] at this ⊢
    omega
theorem hts_last (l : List Int) : (hts l).getLastD 0 = l.sum := by
  have := psF_last l 0
  rw [Int.zero_add] at this
  exact this
def stayB (l : List Int) : Bool := decide (0 ≤ minI (hts l))
def closedB (l : List Int) : Bool := stayB l && decide (l.sum = 0)
theorem closedB_cl {l : List Int} (h : Cl l) : closedB l = true := by
  unfold closedB stayB
  rw [decide_eq_true ((hts_min l).mpr h.nn), decide_eq_true (by have := h.sm; omega)]; rfl
theorem stays_there_ok {k : Nat} {w : PW} (l : List Int) (hl : l.length ≤ 1000) : CP (k + 2) 4 [.lst (l.map D.int)] w = some (.bl (stayB l), w) := by
  have c1 := heights_there_ok (k := k) (w := w) l hl
  have c2 := d_min1 (hts_ne l)
  have e : stayB l = decide (0 ≤ minI (hts l)) := rfl
  clear hl
  rw [call4]; unfold b4; walk_at "mi"
theorem is_closed_there_ok {k : Nat} {w : PW} (l : List Int) (hl : l.length ≤ 1000) : CP (k + 3) 5 [.lst (l.map D.int)] w = some (.bl (closedB l), w) := by
  have c1 := stays_there_ok (k := k) (w := w) l hl
  have e : closedB l = (stayB l && decide (l.sum = 0)) := rfl
  clear hl
  rw [call5]; unfold b5
  cases hb : stayB l
  · rw [hb] at c1 e
    replace e : closedB l = false := e
    walk_at "mi"
  · rw [hb] at c1 e
    replace e : closedB l = decide (l.sum = 0) := e
    walk_at "mi"
theorem check_closed_ok {k : Nat} {w : PW} {l : List Int} (h : Road l) (c : Cl l) : CP (k + 4) 6 [.lst (l.map D.int)] w = some (.non, w) := by
  have c1 := is_road_ok (k := k + 1) (w := w) h
  have c2 := is_closed_there_ok (k := k) (w := w) l h.ln
  rw [closedB_cl c] at c2
  clear h c
  rw [call6]; unfold b6; walk_at "mi"
theorem raised_ok {k : Nat} {w : PW} {l : List Int} (h : Road l) : CP (k + 4) 8 [.lst (l.map D.int)] w = some (.lst ((raiseF l).map D.int), w) := by
  have c1 := check_road_ok (k := k) (w := w) h
  have c2 : binD .add (.lst [.int 1]) (.lst (l.map D.int)) = some (.lst ((1 :: l).map D.int)) := d_appL (small_size (by have := h.ln; omega))
  have c3 : binD .add (.lst (.int 1 :: l.map D.int)) (.lst [.int (-1)]) = some (.lst ((raiseF l).map D.int)) := d_appR (l := 1 :: l) (small_size (by have := h.ln; rw [List.length_cons]; omega))
  have e1 : D.lst ((1 :: l).map D.int) = .lst (.int 1 :: l.map D.int) := rfl
  clear h
  rw [call8]; unfold b8; walk_at "mi"
theorem law_is_closed_ok {k : Nat} {w : PW} (l : List Int) (hl : l.length ≤ 1000) : CP (k + 2) 21 [.lst (l.map D.int)] w = some (.bl (closedB l), w) := by
  have c1 := law_heights_ok (k := k) (w := w) l hl
  have c2 := d_min1 (hts_ne l)
  have c3 := atI_last (hts_ne l)
  have c4 := hts_last l
  have e : closedB l = (decide (0 ≤ minI (hts l)) && decide (l.sum = 0)) := rfl
  clear hl
  rw [call21]; unfold b21
  by_cases hb : 0 ≤ minI (hts l)
  · rw [decide_eq_true hb] at e
    replace e : closedB l = decide (l.sum = 0) := e
    walk_at "mi"
  · rw [decide_eq_false hb] at e
    replace e : closedB l = false := e
    walk_at "mi"
/-- lists of roads -/
abbrev fLL (r : List (List Int)) : D := .lst (r.map fL)
theorem joined_ok {k : Nat} {w : PW} (ls : List (List Int)) (h : ∀ l ∈ ls, Road l) (hl : ls.length ≤ 1000) (hs : ls.flatten.length ≤ 100000) :
    CP (k + 3) 7 [fLL ls] w = some (.lst (ls.flatten.map D.int), w) := by
  have hc := lcP_map (w := w) (f := turnC (CP (k + 2)) [2] (.nm 2) (.bl true) b7e1 [some (fLL ls), none, none])
    (enc := fun x : List Int => .one (fL x)) (fun _ => .bl true) ls (fun x hx => by
      have c1 := is_road_ok (k := k) (w := w) (h x hx)
      clear h hl hs hx
      unfold b7e1
      walk_at "mi")
  have hn : newLD (ls.map fun _ => D.bl true) = some (.lst (ls.map fun _ => D.bl true)) := d_newm (le_size (by omega))
  have ha : biD .all [.lst (ls.map fun _ => D.bl true)] = some (.bl true) := by
    refine (d_allM (p := fun _ => true)).trans ?_
    simp
  obtain ⟨x', e⟩ := forP_acc (w := w) (f := bodyF (CP (k + 2)) (.nm 2) b7f1) (enc := fun x : List Int => .one (fL x))
    (fun (s : List Int) (x : Option D) => [some (fLL ls), some (fL s), x]) (fun s a => s ++ a) (fun r s => s.length + r.flatten.length ≤ 100000) (fun a r s x h => by
      rw [List.flatten_cons, List.length_append] at h
      refine ⟨⟨some (fL a), ?_⟩, by rw [List.length_append]; omega⟩
      have c2 : s.length + a.length ≤ sizeLine := le_size (by omega)
      clear hc hn ha h hs hl
      unfold b7f1
      walk_at "mi") ls [] none (by simpa using hs)
  have ef : ls.foldl (fun s a => s ++ a) [] = ls.flatten := by
    have : ∀ (ls : List (List Int)) (p : List Int), ls.foldl (fun s a => s ++ a) p = p ++ ls.flatten := fun ls => by
      induction ls with
      | nil => intro p; simp
      | cons a r ih => intro p; rw [List.foldl_cons, ih]; simp
    rw [this]; rfl
  rw [ef] at e
  have e0 : D.lst [] = .lst (([] : List Int).map D.int) := rfl
  clear h hl hs
  rw [call7]; unfold b7
  walk_at "mi"

end K03

set_option maxRecDepth 100000
namespace K03
open Mi PySem Rd
local macro_rules | `(tactic| walk_at "mi") => `(tactic| simp only [v_pb, v_ob, v_pft, v_pff, v_pfd, v_pfn, v_pbs, v_pbs_rt, v_pbs_bk, v_pbs_ct, v_fin_rt, v_fin_nx, v_var, v_int, v_bl, v_non, v_str, v_bin, v_neg, v_not, v_and, v_or, v_ite, v_cmp, v_chain, v_list, v_tup, v_sub, v_slice, v_rev, v_call, v_callk, v_bi, v_isi, v_isi2, v_meth, v_lrng, v_turn, v_turn2, v_lc, v_lc2, v_nil, v_cons, v_Nil, v_Cons, v_pass, v_ex, v_set, v_setF, v_spl, v_app, v_appF, v_retF, v_par, v_asg, v_aug, v_Ite, v_body, v_for, v_while, v_ret, v_retn, v_brk, v_cnt, v_mut1, v_mut2, v_st1, v_sw, v_mv, v_mutv, v_get0, v_getS, v_set0, v_setS, v_one, v_two, v_nm, v_tp2t, v_tp2l, v_tp3t, v_wipe0, v_wipeS, v_all0, v_allS, v_st1D, v_stDl, v_stDp,
  d_add, d_sub, d_mul, d_div, d_mod, d_pow, d_appM, d_repI, d_lt, d_le, d_gt, d_ge, d_eqi, d_nei, d_eqI, d_neI, d_eqI0, d_neI0, d_inI, d_ninI, d_inN, d_ninN, d_inO, d_ninO, d_subD, d_slice, d_countI, d_sliceL, d_sliceR, cut_mapI, setD_0, setD_1, setD_2, d_eqbb, d_nebb, d_is, d_isn, d_notb, d_negi, d_notO, d_len, d_lenT, d_sum, d_all, d_any, d_min2, d_max2, d_inti, d_intb, d_listl, d_listt, d_tuple, d_new0, d_new1, d_new2, d_new3, d_new4, d_new5, d_new6, d_newT2, d_newT3, d_newT4, d_newm, d_subL, d_subT, d_sub0, isTyD, isTysD, isNonD, dOf, atI_i, setD_i,
  i_seqM, i_seqT, i_seqL, i_seq0, v_pbl, v_pbl_ct, v_pbl_bk, v_pbl_rt, v_for0, v_forS, v_lc0, v_lcS, d_sub1, d_sub2, d_sub3, h_le1, d_appL, d_appR, i_enumM, i_zipM, i_rev, List.map_cons, List.map_nil, List.length_map, List.length_cons, List.length_nil, List.getD_cons_zero, List.getD_cons_succ, List.append_nil, List.nil_append, List.cons_append, Bool.not_true, Bool.not_false, Bool.not_not, decide_true, decide_false, if_true, if_false, ite_true, ite_false, reduceIte, Bool.false_eq_true, *])
local macro_rules | `(tactic| walk_at "mn") => `(tactic| simp only [v_pb, v_ob, v_pft, v_pff, v_pfd, v_pfn, v_pbs, v_pbs_rt, v_pbs_bk, v_pbs_ct, v_fin_rt, v_fin_nx, v_var, v_int, v_bl, v_non, v_str, v_bin, v_neg, v_not, v_and, v_or, v_ite, v_cmp, v_chain, v_list, v_tup, v_sub, v_slice, v_rev, v_call, v_callk, v_bi, v_isi, v_isi2, v_meth, v_lrng, v_turn, v_turn2, v_lc, v_lc2, v_nil, v_cons, v_Nil, v_Cons, v_pass, v_ex, v_set, v_setF, v_spl, v_app, v_appF, v_retF, v_par, v_asg, v_aug, v_Ite, v_body, v_for, v_while, v_ret, v_retn, v_brk, v_cnt, v_mut1, v_mut2, v_st1, v_sw, v_mv, v_mutv, v_get0, v_getS, v_set0, v_setS, v_one, v_two, v_nm, v_tp2t, v_tp2l, v_tp3t, v_wipe0, v_wipeS, v_all0, v_allS, v_st1D, v_stDl, v_stDp,
  d_add, d_sub, d_mul, d_div, d_mod, d_pow, d_appM, d_repI, d_lt, d_le, d_gt, d_ge, d_eqi, d_nei, d_eqI, d_neI, d_eqI0, d_neI0, d_inI, d_ninI, d_inN, d_ninN, d_inO, d_ninO, d_subD, d_slice, d_countI, d_sliceL, d_sliceR, cut_mapI, setD_0, setD_1, setD_2, d_eqbb, d_nebb, d_is, d_isn, d_notb, d_negi, d_notO, d_len, d_lenT, d_sum, d_all, d_any, d_min2, d_max2, d_inti, d_intb, d_listl, d_listt, d_tuple, d_new0, d_new1, d_new2, d_new3, d_new4, d_new5, d_new6, d_newT2, d_newT3, d_newT4, d_newm, d_subL, d_subT, d_sub0, isTyD, isTysD, isNonD, dOf, atI_i, setD_i,
  i_seqM, i_seqT, i_seqL, i_seq0, v_pbl, v_pbl_ct, v_pbl_bk, v_pbl_rt, v_lc0, v_lcS, d_sub1, d_sub2, d_sub3, h_le1, d_appL, d_appR, i_enumM, i_zipM, i_rev, List.map_cons, List.map_nil, List.length_map, List.length_cons, List.length_nil, List.getD_cons_zero, List.getD_cons_succ, List.append_nil, List.nil_append, List.cons_append, Bool.not_true, Bool.not_false, Bool.not_not, decide_true, decide_false, if_true, if_false, ite_true, ite_false, reduceIte, Bool.false_eq_true, *])

theorem one_of_ok {k n : Nat} {w : PW} (l : List Int) (h0 : l ≠ []) (h1 : l.length ≤ 1000) (pw : Pw (n + 8) w) :
    ∃ (x : Int) (w' : PW), CP (k + 3) 15 [.pur, .lst (l.map D.int)] w = some (.int x, w') ∧ x ∈ l ∧ Pw n w' := by
  have hl : 0 < l.length := List.length_pos_iff.mpr h0
  obtain ⟨z, w', e1, hz0, hz1, p1⟩ := draw_ok (k := k) (iM := 13) (iD := 14) q13 q14 (many := (l.length : Int)) (by omega) (by omega) (n := n) pw
  obtain ⟨i, rfl⟩ : ∃ c : Nat, z = (c : Int) := ⟨z.toNat, by omega⟩
  have hi : i < l.length := by omega
  refine ⟨l.getD i 0, w', ?_, ?_, p1⟩
  · clear h0 h1 hl hz0 hz1
    rw [call15]; unfold b15; walk_at "mi"
  · rw [List.getD_eq_getElem?_getD, List.getElem?_eq_getElem hi]; exact List.getElem_mem hi
/-- a closed road that is drawn -/
theorem closed_road_ok {k n : Nat} {w : PW} (p : Nat) (hp : p ≤ 100) (pw : Pw (n + 8 * (2 * p)) w) :
    ∃ (l : List Int) (w' : PW), CP (k + 3) 23 [.pur, .int (p : Int)] w = some (.lst (l.map D.int), w') ∧ Cl l ∧ l.length = 2 * p ∧ Pw n w' := by
  obtain ⟨σ', w', e, l, x4, x5, x6, rfl, hst, hnn, hl, hs1, hs2, hs3, pw'⟩ := forP_inv (f := bodyF (CP (k + 2)) (.nm 4) b23f1) (enc := fun j : Nat => .one (.int (j : Int)))
    (fun r σ w => ∃ (l : List Int) (x4 x5 x6 : Option D), σ = [some .pur, some (.int (p : Int)), some (.lst (l.map D.int)), some (.int l.sum), x4, x5, x6] ∧ (∀ x ∈ l, x = 1 ∨ x = -1) ∧ (∀ x ∈ psF 0 l, 0 ≤ x) ∧ l.length + r.length = 2 * p ∧ l.sum ≤ (r.length : Int) ∧ ((r.length : Int) - l.sum) % 2 = 0 ∧ 0 ≤ l.sum ∧ Pw (n + 8 * r.length) w) (fun j r σ w h => by
      obtain ⟨l, x4, x5, x6, rfl, hst, hnn, hl, hs1, hs2, hs3, pw⟩ := h
      rw [List.length_cons] at hl hs1 hs2 pw
      have m1 : mulOk 2 (p : Int) = true := mul_l (by decide)
      have e5 : (2 : Int) * (p : Int) - (l.length : Int) = ((r.length + 1 : Nat) : Int) := by omega
      have hup : ∀ (x : Int) (w1 : PW) (x5 x6 : Option D), (x = 1 ∨ x = -1) → 0 ≤ l.sum + x → l.sum + x ≤ (r.length : Int) → ((r.length : Int) - (l.sum + x)) % 2 = 0 → Pw (n + 8 * r.length) w1 →
          ∃ (l' : List Int) (y4 y5 y6 : Option D), [some D.pur, some (.int (p : Int)), some (.lst ((l ++ [x]).map D.int)), some (.int (l.sum + x)), some (.int (j : Int)), x5, x6] = [some D.pur, some (.int (p : Int)), some (.lst (l'.map D.int)), some (.int l'.sum), y4, y5, y6] ∧ (∀ x ∈ l', x = 1 ∨ x = -1) ∧ (∀ x ∈ psF 0 l', 0 ≤ x) ∧ l'.length + r.length = 2 * p ∧ l'.sum ≤ (r.length : Int) ∧ ((r.length : Int) - l'.sum) % 2 = 0 ∧ 0 ≤ l'.sum ∧ Pw (n + 8 * r.length) w1 := by
        intro x w1 x5 x6 hx h1 h2 h3 p1
        have es : (l ++ [x]).sum = l.sum + x := by rw [List.sum_append]; simp
        refine ⟨l ++ [x], some (.int (j : Int)), x5, x6, by rw [es], ?_, ?_, by rw [List.length_append]; simp; omega, by rw [es]; exact h2, by rw [es]; exact h3, by rw [es]; exact h1, p1⟩
        · intro y hy
          rcases List.mem_append.mp hy with e | e
          · exact hst y e
          · cases List.mem_singleton.mp e; exact hx
        · intro y hy
          rw [psF_app] at hy
          rcases List.mem_append.mp hy with e | e
          · exact hnn y e
          · rw [show psF (0 + l.sum) [x] = [0 + l.sum + x] from rfl] at e
            cases List.mem_singleton.mp e
            omega
      have la : ∀ x : Int, L2.atI ((l ++ [x]).map D.int) (-1) = some (.int x) := fun x => by
        rw [atI_last (by simp), List.getLastD_concat]
      have ma : ∀ x : Int, mutD .append (.lst (l.map D.int)) [.int x] = some (.lst ((l ++ [x]).map D.int)) := fun x => d_appM1 (small_size (by omega))
      by_cases h0 : l.sum = 0
      · refine ⟨_, w, ?_, hup 1 w (some (.int ((r.length + 1 : Nat) : Int))) (some (.bl true)) (.inl rfl) (by omega) (by omega) (by omega) (Pw_mono (by omega) pw)⟩
        have la1 := la 1
        have ma1 := ma 1
        clear hup la ma pw hst hnn hl hs1 hs2 hs3
        unfold b23f1
        walk_at "mi"
      · by_cases h1 : l.sum < ((r.length + 1 : Nat) : Int)
        · obtain ⟨z, w1, e1, hz0, hz1, p1⟩ := draw_ok (k := k) (iM := 13) (iD := 14) q13 q14 (many := 2) (by omega) (by omega) (n := n + 8 * r.length) (w := w) (Pw_mono (by omega) pw)
          by_cases hz : z = 0
          · refine ⟨_, w1, ?_, hup 1 w1 (some (.int ((r.length + 1 : Nat) : Int))) (some (.bl true)) (.inl rfl) (by omega) (by omega) (by omega) p1⟩
            have la1 := la 1
            have ma1 := ma 1
            have hzz : decide (z = 0) = true := decide_eq_true hz
            clear hup la ma pw hst hnn hl hs1 hs2 hs3 p1 hz0 hz1
            unfold b23f1
            walk_at "mi"
          · refine ⟨_, w1, ?_, hup (-1) w1 (some (.int ((r.length + 1 : Nat) : Int))) (some (.bl false)) (.inr rfl) (by omega) (by omega) (by omega) p1⟩
            have la1 := la (-1)
            have ma1 := ma (-1)
            have hzz : decide (z = 0) = false := decide_eq_false hz
            clear hup la ma pw hst hnn hl hs1 hs2 hs3 p1 hz0 hz1
            unfold b23f1
            walk_at "mi"
        · refine ⟨_, w, ?_, hup (-1) w (some (.int ((r.length + 1 : Nat) : Int))) (some (.bl false)) (.inr rfl) (by omega) (by omega) (by omega) (Pw_mono (by omega) pw)⟩
          have la1 := la (-1)
          have ma1 := ma (-1)
          clear hup la ma pw hst hnn hl hs1 hs2 hs3
          unfold b23f1
          walk_at "mi") (List.range (2 * p)) [some .pur, some (.int (p : Int)), some (.lst []), some (.int 0), none, none, none] w
      ⟨[], none, none, none, rfl, (fun _ h => nomatch h), (fun _ h => nomatch h), by simp, by simp; omega, by simp, by simp, by rw [List.length_range]; exact pw⟩
  refine ⟨l, w', ?_, ⟨hst, hnn, by simp at hs1; omega⟩, by simpa using hl, by simpa using pw'⟩
  have m1 : mulOk 2 (p : Int) = true := mul_l (by decide)
  have hr : ∀ y, itemsD .rng1 (.int (2 * (p : Int))) y = some ((List.range (2 * p)).map fun j : Nat => .one (.int (j : Int))) := fun y => by
    have := i_rng (n := 2 * p) (y := y) (by omega)
    rwa [show ((2 * p : Nat) : Int) = 2 * (p : Int) by omega] at this
  clear hp pw hst hnn hl hs1 hs2 hs3 pw'
  rw [call23]; unfold b23
  walk_at "mi"

end K03

set_option maxRecDepth 100000
namespace K03
open Mi PySem Rd
local macro_rules | `(tactic| walk_at "mi") => `(tactic| simp only [v_pb, v_ob, v_pft, v_pff, v_pfd, v_pfn, v_pbs, v_pbs_rt, v_pbs_bk, v_pbs_ct, v_fin_rt, v_fin_nx, v_var, v_int, v_bl, v_non, v_str, v_bin, v_neg, v_not, v_and, v_or, v_ite, v_cmp, v_chain, v_list, v_tup, v_sub, v_slice, v_rev, v_call, v_callk, v_bi, v_isi, v_isi2, v_meth, v_lrng, v_turn, v_turn2, v_lc, v_lc2, v_nil, v_cons, v_Nil, v_Cons, v_pass, v_ex, v_set, v_setF, v_spl, v_app, v_appF, v_retF, v_par, v_asg, v_aug, v_Ite, v_body, v_for, v_while, v_ret, v_retn, v_brk, v_cnt, v_mut1, v_mut2, v_st1, v_sw, v_mv, v_mutv, v_get0, v_getS, v_set0, v_setS, v_one, v_two, v_nm, v_tp2t, v_tp2l, v_tp3t, v_wipe0, v_wipeS, v_all0, v_allS, v_st1D, v_stDl, v_stDp,
  d_add, d_sub, d_mul, d_div, d_mod, d_pow, d_appM, d_repI, d_lt, d_le, d_gt, d_ge, d_eqi, d_nei, d_eqI, d_neI, d_eqI0, d_neI0, d_inI, d_ninI, d_inN, d_ninN, d_inO, d_ninO, d_subD, d_slice, d_countI, d_sliceL, d_sliceR, cut_mapI, setD_0, setD_1, setD_2, d_eqbb, d_nebb, d_is, d_isn, d_notb, d_negi, d_notO, d_len, d_lenT, d_sum, d_all, d_any, d_min2, d_max2, d_inti, d_intb, d_listl, d_listt, d_tuple, d_new0, d_new1, d_new2, d_new3, d_new4, d_new5, d_new6, d_newT2, d_newT3, d_newT4, d_newm, d_subL, d_subT, d_sub0, isTyD, isTysD, isNonD, dOf, atI_i, setD_i,
  i_seqM, i_seqT, i_seqL, i_seq0, v_pbl, v_pbl_ct, v_pbl_bk, v_pbl_rt, v_for0, v_forS, v_lc0, v_lcS, d_sub1, d_sub2, d_sub3, h_le1, d_appL, d_appR, i_enumM, i_zipM, i_rev, List.map_cons, List.map_nil, List.length_map, List.length_cons, List.length_nil, List.getD_cons_zero, List.getD_cons_succ, List.append_nil, List.nil_append, List.cons_append, Bool.not_true, Bool.not_false, Bool.not_not, decide_true, decide_false, if_true, if_false, ite_true, ite_false, reduceIte, Bool.false_eq_true, *])
local macro_rules | `(tactic| walk_at "mn") => `(tactic| simp only [v_pb, v_ob, v_pft, v_pff, v_pfd, v_pfn, v_pbs, v_pbs_rt, v_pbs_bk, v_pbs_ct, v_fin_rt, v_fin_nx, v_var, v_int, v_bl, v_non, v_str, v_bin, v_neg, v_not, v_and, v_or, v_ite, v_cmp, v_chain, v_list, v_tup, v_sub, v_slice, v_rev, v_call, v_callk, v_bi, v_isi, v_isi2, v_meth, v_lrng, v_turn, v_turn2, v_lc, v_lc2, v_nil, v_cons, v_Nil, v_Cons, v_pass, v_ex, v_set, v_setF, v_spl, v_app, v_appF, v_retF, v_par, v_asg, v_aug, v_Ite, v_body, v_for, v_while, v_ret, v_retn, v_brk, v_cnt, v_mut1, v_mut2, v_st1, v_sw, v_mv, v_mutv, v_get0, v_getS, v_set0, v_setS, v_one, v_two, v_nm, v_tp2t, v_tp2l, v_tp3t, v_wipe0, v_wipeS, v_all0, v_allS, v_st1D, v_stDl, v_stDp,
  d_add, d_sub, d_mul, d_div, d_mod, d_pow, d_appM, d_repI, d_lt, d_le, d_gt, d_ge, d_eqi, d_nei, d_eqI, d_neI, d_eqI0, d_neI0, d_inI, d_ninI, d_inN, d_ninN, d_inO, d_ninO, d_subD, d_slice, d_countI, d_sliceL, d_sliceR, cut_mapI, setD_0, setD_1, setD_2, d_eqbb, d_nebb, d_is, d_isn, d_notb, d_negi, d_notO, d_len, d_lenT, d_sum, d_all, d_any, d_min2, d_max2, d_inti, d_intb, d_listl, d_listt, d_tuple, d_new0, d_new1, d_new2, d_new3, d_new4, d_new5, d_new6, d_newT2, d_newT3, d_newT4, d_newm, d_subL, d_subT, d_sub0, isTyD, isTysD, isNonD, dOf, atI_i, setD_i,
  i_seqM, i_seqT, i_seqL, i_seq0, v_pbl, v_pbl_ct, v_pbl_bk, v_pbl_rt, v_lc0, v_lcS, d_sub1, d_sub2, d_sub3, h_le1, d_appL, d_appR, i_enumM, i_zipM, i_rev, List.map_cons, List.map_nil, List.length_map, List.length_cons, List.length_nil, List.getD_cons_zero, List.getD_cons_succ, List.append_nil, List.nil_append, List.cons_append, Bool.not_true, Bool.not_false, Bool.not_not, decide_true, decide_false, if_true, if_false, ite_true, ite_false, reduceIte, Bool.false_eq_true, *])

theorem same_refl : ∀ (n k : Nat) (d : D) (w : PW), dg d = true → ln d = true → hgt d ≤ n → n ≤ 60 → CP (k + n + 1) 16 [d, d] w = some (.bl true, w) := by
  intro n
  induction n with
  | zero =>
    intro k d w hg hl hh hn
    rw [call16]; unfold b16
    cases d with
    | lst xs => exact absurd hh (by unfold hgt; omega)
    | tup xs => exact absurd hh (by unfold hgt; omega)
    | pur => cases hg
    | non =>
      have h1 : cmpD .eq .non .non = some true := d_eqrefl (d := .non) rfl (Nat.zero_le _)
      walk_at "mi"
    | bl b =>
      walk_at "mi"
    | int i =>
      walk_at "mi"
    | str s =>
      have h1 : cmpD .eq (.str s) (.str s) = some true := d_eqrefl (d := .str s) hg (Nat.zero_le _)
      walk_at "mi"
  | succ n ih =>
    intro k d w hg hl hh hn
    rw [call16]; unfold b16
    cases d with
    | pur => cases hg
    | non =>
      have h1 : cmpD .eq .non .non = some true := d_eqrefl (d := .non) rfl (Nat.zero_le _)
      walk_at "mi"
    | bl b =>
      walk_at "mi"
    | int i =>
      walk_at "mi"
    | str s =>
      have h1 : cmpD .eq (.str s) (.str s) = some true := d_eqrefl (d := .str s) hg (Nat.zero_le _)
      walk_at "mi"
    | lst xs =>
      have hg : dgs xs = true := hg
      have hl : (decide (xs.length ≤ 1000000) && lns xs) = true := hl
      rw [Bool.and_eq_true] at hl
      have hlen : xs.length ≤ 1000000 := of_decide_eq_true hl.1
      have hh : hgts xs + 1 ≤ n + 1 := hh
      have hz : itemsD .zip (.lst xs) (.lst xs) = some (xs.map fun x => Pv.two x x) := by
        show some (two xs xs) = _
        rw [two_self]
      have hc := lcP_map (w := w) (f := turnC (CP (k + (n + 1))) [4, 5] (.tp2 (.nm 4) (.nm 5)) (.bl true) b16e1 [some (.lst xs), some (.lst xs), some (.bl true), none, none, none])
        (enc := fun x : D => .two x x) (fun _ => .bl true) xs (fun x hx => by
          have := ih k x w (dgs_all hg x hx) (lns_all hl.2 x hx) (Nat.le_trans (hgts_all x hx) (by omega)) (by omega)
          rw [show k + n + 1 = k + (n + 1) by omega] at this
          clear hg hl hlen hh hz hn ih
          unfold b16e1
          walk_at "mi")
      have hn2 : newLD (xs.map fun _ => D.bl true) = some (.lst (xs.map fun _ => D.bl true)) := d_new (by rw [List.length_map]; exact Nat.le_trans hlen (by decide))
      have ha : biD .all [.lst (xs.map fun _ => D.bl true)] = some (.bl true) := by
        have := d_all (l := xs.map fun _ => true)
        rw [List.map_map] at this
        rw [show (xs.map fun _ => D.bl true) = xs.map (D.bl ∘ fun _ => true) from rfl, this]
        congr 2
        simp
      clear hg hl hlen hh hn ih
      walk_at "mi"
    | tup xs =>
      have hg : dgs xs = true := hg
      have hl : (decide (xs.length ≤ 1000000) && lns xs) = true := hl
      rw [Bool.and_eq_true] at hl
      have hlen : xs.length ≤ 1000000 := of_decide_eq_true hl.1
      have hh : hgts xs + 1 ≤ n + 1 := hh
      have hz : itemsD .zip (.tup xs) (.tup xs) = some (xs.map fun x => Pv.two x x) := by
        show some (two xs xs) = _
        rw [two_self]
      have hc := lcP_map (w := w) (f := turnC (CP (k + (n + 1))) [4, 5] (.tp2 (.nm 4) (.nm 5)) (.bl true) b16e1 [some (.tup xs), some (.tup xs), some (.bl true), none, none, none])
        (enc := fun x : D => .two x x) (fun _ => .bl true) xs (fun x hx => by
          have := ih k x w (dgs_all hg x hx) (lns_all hl.2 x hx) (Nat.le_trans (hgts_all x hx) (by omega)) (by omega)
          rw [show k + n + 1 = k + (n + 1) by omega] at this
          clear hg hl hlen hh hz hn ih
          unfold b16e1
          walk_at "mi")
      have hn2 : newLD (xs.map fun _ => D.bl true) = some (.lst (xs.map fun _ => D.bl true)) := d_new (by rw [List.length_map]; exact Nat.le_trans hlen (by decide))
      have ha : biD .all [.lst (xs.map fun _ => D.bl true)] = some (.bl true) := by
        have := d_all (l := xs.map fun _ => true)
        rw [List.map_map] at this
        rw [show (xs.map fun _ => D.bl true) = xs.map (D.bl ∘ fun _ => true) from rfl, this]
        congr 2
        simp
      clear hg hl hlen hh hn ih
      walk_at "mi"
/-- what is told is spoilt -/
theorem spoilt_ok : ∀ (n k : Nat) (d : D) (w : PW), dg d = true → ln d = true → hgt d ≤ n → CP (k + n + 1) 19 [d] w = some (.non, w) := by
  intro n
  induction n with
  | zero =>
    intro k d w hg hl hh
    rw [call19]; unfold b19
    cases d with
    | lst xs => exact absurd hh (by unfold hgt; omega)
    | tup xs => exact absurd hh (by unfold hgt; omega)
    | pur => cases hg
    | non => walk_at "mi"
    | bl b => walk_at "mi"
    | int i => walk_at "mi"
    | str s => walk_at "mi"
  | succ n ih =>
    intro k d w hg hl hh
    rw [call19]; unfold b19
    cases d with
    | pur => cases hg
    | non => walk_at "mi"
    | bl b => walk_at "mi"
    | int i => walk_at "mi"
    | str s => walk_at "mi"
    | lst xs =>
      have hg : dgs xs = true := hg
      have hl : (decide (xs.length ≤ 1000000) && lns xs) = true := hl
      rw [Bool.and_eq_true] at hl
      have hlen : xs.length ≤ 1000000 := of_decide_eq_true hl.1
      have hh : hgts xs + 1 ≤ n + 1 := hh
      obtain ⟨σ', w', e, rfl, hh', x2, rfl⟩ := forP_inv (f := bodyF (CP (k + (n + 1))) (.nm 2) b19f1) (enc := Pv.one) (fun r σ w' => w' = w ∧ (∀ x ∈ r, x ∈ xs) ∧ ∃ x2, σ = [some (.lst xs), none, x2]) (fun x r σ w' h => by
        obtain ⟨rfl, h2, x2, rfl⟩ := h
        have hx := h2 x (List.mem_cons_self ..)
        have := ih k x w' (dgs_all hg x hx) (lns_all hl.2 x hx) (Nat.le_trans (hgts_all x hx) (by omega))
        rw [show k + n + 1 = k + (n + 1) by omega] at this
        refine ⟨[some (.lst xs), none, some x], w', ?_, rfl, fun y hy => h2 y (List.mem_cons_of_mem _ hy), _, rfl⟩
        clear hg hl hlen hh ih h2 hx
        unfold b19f1
        walk_at "mi") xs [some (.lst xs), none, none] w ⟨rfl, fun x h => h, _, rfl⟩
      have hi : ∀ y, itemsD .seq (.lst xs) y = some (xs.map Pv.one) := fun _ => rfl
      have hm : mutD .append (.lst xs) [.str "MORE"] = some (.lst (xs ++ [.str "MORE"])) := d_append (Nat.lt_of_le_of_lt hlen (by decide))
      clear hg hl hlen hh hh' ih
      walk_at "mi"
    | tup xs =>
      have hg : dgs xs = true := hg
      have hl : (decide (xs.length ≤ 1000000) && lns xs) = true := hl
      rw [Bool.and_eq_true] at hl
      have hlen : xs.length ≤ 1000000 := of_decide_eq_true hl.1
      have hh : hgts xs + 1 ≤ n + 1 := hh
      obtain ⟨σ', w', e, rfl, hh', x2, rfl⟩ := forP_inv (f := bodyF (CP (k + (n + 1))) (.nm 2) b19f1) (enc := Pv.one) (fun r σ w' => w' = w ∧ (∀ x ∈ r, x ∈ xs) ∧ ∃ x2, σ = [some (.tup xs), none, x2]) (fun x r σ w' h => by
        obtain ⟨rfl, h2, x2, rfl⟩ := h
        have hx := h2 x (List.mem_cons_self ..)
        have := ih k x w' (dgs_all hg x hx) (lns_all hl.2 x hx) (Nat.le_trans (hgts_all x hx) (by omega))
        rw [show k + n + 1 = k + (n + 1) by omega] at this
        refine ⟨[some (.tup xs), none, some x], w', ?_, rfl, fun y hy => h2 y (List.mem_cons_of_mem _ hy), _, rfl⟩
        clear hg hl hlen hh ih h2 hx
        unfold b19f1
        walk_at "mi") xs [some (.tup xs), none, none] w ⟨rfl, fun x h => h, _, rfl⟩
      have hi : ∀ y, itemsD .seq (.tup xs) y = some (xs.map Pv.one) := fun _ => rfl
      clear hg hl hlen hh hh' ih
      walk_at "mi"

end K03

set_option maxRecDepth 100000
namespace K03
open Mi PySem Rd
local macro_rules | `(tactic| walk_at "mi") => `(tactic| simp only [v_pb, v_ob, v_pft, v_pff, v_pfd, v_pfn, v_pbs, v_pbs_rt, v_pbs_bk, v_pbs_ct, v_fin_rt, v_fin_nx, v_var, v_int, v_bl, v_non, v_str, v_bin, v_neg, v_not, v_and, v_or, v_ite, v_cmp, v_chain, v_list, v_tup, v_sub, v_slice, v_rev, v_call, v_callk, v_bi, v_isi, v_isi2, v_meth, v_lrng, v_turn, v_turn2, v_lc, v_lc2, v_nil, v_cons, v_Nil, v_Cons, v_pass, v_ex, v_set, v_setF, v_spl, v_app, v_appF, v_retF, v_par, v_asg, v_aug, v_Ite, v_body, v_for, v_while, v_ret, v_retn, v_brk, v_cnt, v_mut1, v_mut2, v_st1, v_sw, v_mv, v_mutv, v_get0, v_getS, v_set0, v_setS, v_one, v_two, v_nm, v_tp2t, v_tp2l, v_tp3t, v_wipe0, v_wipeS, v_all0, v_allS, v_st1D, v_stDl, v_stDp,
  d_add, d_sub, d_mul, d_div, d_mod, d_pow, d_appM, d_repI, d_lt, d_le, d_gt, d_ge, d_eqi, d_nei, d_eqI, d_neI, d_eqI0, d_neI0, d_inI, d_ninI, d_inN, d_ninN, d_inO, d_ninO, d_subD, d_slice, d_countI, d_sliceL, d_sliceR, cut_mapI, setD_0, setD_1, setD_2, d_eqbb, d_nebb, d_is, d_isn, d_notb, d_negi, d_notO, d_len, d_lenT, d_sum, d_all, d_any, d_min2, d_max2, d_inti, d_intb, d_listl, d_listt, d_tuple, d_new0, d_new1, d_new2, d_new3, d_new4, d_new5, d_new6, d_newT2, d_newT3, d_newT4, d_newm, d_subL, d_subT, d_sub0, isTyD, isTysD, isNonD, dOf, atI_i, setD_i,
  i_seqM, i_seqT, i_seqL, i_seq0, v_pbl, v_pbl_ct, v_pbl_bk, v_pbl_rt, v_for0, v_forS, v_lc0, v_lcS, d_sub1, d_sub2, d_sub3, h_le1, d_appL, d_appR, i_enumM, i_zipM, i_rev, List.map_cons, List.map_nil, List.length_map, List.length_cons, List.length_nil, List.getD_cons_zero, List.getD_cons_succ, List.append_nil, List.nil_append, List.cons_append, Bool.not_true, Bool.not_false, Bool.not_not, decide_true, decide_false, if_true, if_false, ite_true, ite_false, reduceIte, Bool.false_eq_true, *])
local macro_rules | `(tactic| walk_at "mn") => `(tactic| simp only [v_pb, v_ob, v_pft, v_pff, v_pfd, v_pfn, v_pbs, v_pbs_rt, v_pbs_bk, v_pbs_ct, v_fin_rt, v_fin_nx, v_var, v_int, v_bl, v_non, v_str, v_bin, v_neg, v_not, v_and, v_or, v_ite, v_cmp, v_chain, v_list, v_tup, v_sub, v_slice, v_rev, v_call, v_callk, v_bi, v_isi, v_isi2, v_meth, v_lrng, v_turn, v_turn2, v_lc, v_lc2, v_nil, v_cons, v_Nil, v_Cons, v_pass, v_ex, v_set, v_setF, v_spl, v_app, v_appF, v_retF, v_par, v_asg, v_aug, v_Ite, v_body, v_for, v_while, v_ret, v_retn, v_brk, v_cnt, v_mut1, v_mut2, v_st1, v_sw, v_mv, v_mutv, v_get0, v_getS, v_set0, v_setS, v_one, v_two, v_nm, v_tp2t, v_tp2l, v_tp3t, v_wipe0, v_wipeS, v_all0, v_allS, v_st1D, v_stDl, v_stDp,
  d_add, d_sub, d_mul, d_div, d_mod, d_pow, d_appM, d_repI, d_lt, d_le, d_gt, d_ge, d_eqi, d_nei, d_eqI, d_neI, d_eqI0, d_neI0, d_inI, d_ninI, d_inN, d_ninN, d_inO, d_ninO, d_subD, d_slice, d_countI, d_sliceL, d_sliceR, cut_mapI, setD_0, setD_1, setD_2, d_eqbb, d_nebb, d_is, d_isn, d_notb, d_negi, d_notO, d_len, d_lenT, d_sum, d_all, d_any, d_min2, d_max2, d_inti, d_intb, d_listl, d_listt, d_tuple, d_new0, d_new1, d_new2, d_new3, d_new4, d_new5, d_new6, d_newT2, d_newT3, d_newT4, d_newm, d_subL, d_subT, d_sub0, isTyD, isTysD, isNonD, dOf, atI_i, setD_i,
  i_seqM, i_seqT, i_seqL, i_seq0, v_pbl, v_pbl_ct, v_pbl_bk, v_pbl_rt, v_lc0, v_lcS, d_sub1, d_sub2, d_sub3, h_le1, d_appL, d_appR, i_enumM, i_zipM, i_rev, List.map_cons, List.map_nil, List.length_map, List.length_cons, List.length_nil, List.getD_cons_zero, List.getD_cons_succ, List.append_nil, List.nil_append, List.cons_append, Bool.not_true, Bool.not_false, Bool.not_not, decide_true, decide_false, if_true, if_false, ite_true, ite_false, reduceIte, Bool.false_eq_true, *])

theorem pstep_bound (l : List Int) (s : List (List Int) × Nat) (p : Int × Nat) : (pstep l s p).1.length ≤ s.1.length + 1 := by
  unfold pstep
  split
  · simp
  · simp
theorem part_cut (l : List Int) (b a : Nat) : cut l (some ((b + 1 : Nat) : Int)) (some ((a - 1 : Nat) : Int)) = (l.take (a - 1)).drop (b + 1) := by
  rw [cut_nat, List.drop_take]
theorem ground_step {f : Pv → PE → PW → PS'} {w : PW} {l : List Int} {x0 : Option D}
    (hs : ∀ (s : List (List Int) × Nat) (p : Int × Nat) (x : Option D × Option D), s.1.length ≤ 3000 → ∃ x' : Option D × Option D, f (.two (.int (p.2 : Int)) (.int p.1)) [x0, some (fLL s.1), some (.int (s.2 : Int)), x.1, x.2] w = some (.nx, [x0, some (fLL (pstep l s p).1), some (.int ((pstep l s p).2 : Int)), x'.1, x'.2], w))
    {ps : List (List Int)} (h : ∀ p ∈ ps, Cl p) (hl : l = ps.flatMap raiseF) (hn : l.length ≤ 1000) :
    ∃ x' : Option D × Option D, forP f ((hts l).zipIdx.map fun p => .two (.int (p.2 : Int)) (.int p.1)) [x0, some (.lst []), some (.int 0), none, none] w = some (.nx, [x0, some (fLL ps), some (.int (l.length : Int)), x'.1, x'.2], w) := by
  obtain ⟨x', e⟩ := forP_acc (w := w) (f := f) (enc := fun p : Int × Nat => .two (.int (p.2 : Int)) (.int p.1))
    (fun (s : List (List Int) × Nat) (x : Option D × Option D) => [x0, some (fLL s.1), some (.int (s.2 : Int)), x.1, x.2]) (pstep l) (fun r s => s.1.length + r.length ≤ 3000) (fun p r s x hp => by
      rw [List.length_cons] at hp
      exact ⟨hs s p x (by omega), by have := pstep_bound l s p; omega⟩) (hts l).zipIdx ([], 0) (none, none) (by rw [List.length_zipIdx, hts_len]; simp; omega)
  have := parts_all h
  rw [← hl] at this
  rw [this] at e
  exact ⟨x', e⟩
theorem ground_there_ok {k : Nat} {w : PW} {ps : List (List Int)} {l : List Int} (h : ∀ p ∈ ps, Cl p) (hl : l = ps.flatMap raiseF) (hn : l.length ≤ 1000) :
    CP (k + 2) 10 [.lst (l.map D.int)] w = some (fLL ps, w) := by
  obtain ⟨x', e⟩ := ground_step (f := bodyF (CP (k + 1)) (.tp2 (.nm 3) (.nm 4)) b10f1) (w := w) (x0 := some (.lst (l.map D.int))) (fun s p x hs => by
    by_cases h1 : 0 < p.2
    · have h1' : (0 : Int) < (p.2 : Int) := by omega
      by_cases h2 : p.1 = 0
      · have e1 : (s.2 : Int) + 1 = ((s.2 + 1 : Nat) : Int) := by omega
        have e2 : (p.2 : Int) - 1 = ((p.2 - 1 : Nat) : Int) := by omega
        have e3 := part_cut l s.2 p.2
        have e4 : pstep l s p = (s.1 ++ [(l.take (p.2 - 1)).drop (s.2 + 1)], p.2) := if_pos ⟨h1, h2⟩
        have c2 : mutD .append (.lst (s.1.map fL)) [.lst (((l.take (p.2 - 1)).drop (s.2 + 1)).map D.int)] = some (.lst ((s.1 ++ [(l.take (p.2 - 1)).drop (s.2 + 1)]).map fL)) := d_appM1 (small_size (by omega))
        refine ⟨(none, some (.int p.1)), ?_⟩
        clear h1 hs h hl hn
        unfold b10f1
        walk_at "mi"
      · have e4 : pstep l s p = s := if_neg (fun z => h2 z.2)
        refine ⟨(some (.int (p.2 : Int)), some (.int p.1)), ?_⟩
        clear h1 hs h hl hn
        unfold b10f1
        walk_at "mi"
    · have h1' : ¬ ((0 : Int) < (p.2 : Int)) := by omega
      have e4 : pstep l s p = s := if_neg (fun z => h1 z.1)
      refine ⟨(some (.int (p.2 : Int)), some (.int p.1)), ?_⟩
      clear h1 hs h hl hn
      unfold b10f1
      walk_at "mi") h hl hn
  have c1 := heights_there_ok (k := k) (w := w) l hn
  clear h hl hn
  rw [call10]; unfold b10
  walk_at "mi"
theorem law_parts_ok {k : Nat} {w : PW} {ps : List (List Int)} {l : List Int} (h : ∀ p ∈ ps, Cl p) (hl : l = ps.flatMap raiseF) (hn : l.length ≤ 1000) :
    CP (k + 2) 24 [.lst (l.map D.int)] w = some (fLL ps, w) := by
  obtain ⟨x', e⟩ := ground_step (f := bodyF (CP (k + 1)) (.tp2 (.nm 3) (.nm 4)) b24f1) (w := w) (x0 := some (.lst (l.map D.int))) (fun s p x hs => by
    by_cases h1 : 0 < p.2
    · have h1' : (0 : Int) < (p.2 : Int) := by omega
      by_cases h2 : p.1 = 0
      · have e1 : (s.2 : Int) + 1 = ((s.2 + 1 : Nat) : Int) := by omega
        have e2 : (p.2 : Int) - 1 = ((p.2 - 1 : Nat) : Int) := by omega
        have e3 := part_cut l s.2 p.2
        have e4 : pstep l s p = (s.1 ++ [(l.take (p.2 - 1)).drop (s.2 + 1)], p.2) := if_pos ⟨h1, h2⟩
        have c2 : mutD .append (.lst (s.1.map fL)) [.lst (((l.take (p.2 - 1)).drop (s.2 + 1)).map D.int)] = some (.lst ((s.1 ++ [(l.take (p.2 - 1)).drop (s.2 + 1)]).map fL)) := d_appM1 (small_size (by omega))
        refine ⟨(none, some (.int p.1)), ?_⟩
        clear h1 hs h hl hn
        unfold b24f1
        walk_at "mi"
      · have e4 : pstep l s p = s := if_neg (fun z => h2 z.2)
        refine ⟨(some (.int (p.2 : Int)), some (.int p.1)), ?_⟩
        clear h1 hs h hl hn
        unfold b24f1
        walk_at "mi"
    · have h1' : ¬ ((0 : Int) < (p.2 : Int)) := by omega
      have e4 : pstep l s p = s := if_neg (fun z => h1 z.1)
      refine ⟨(some (.int (p.2 : Int)), some (.int p.1)), ?_⟩
      by_cases h2 : p.1 = 0
      · clear h1 hs h hl hn
        unfold b24f1
        walk_at "mi"
      · clear h1 hs h hl hn
        unfold b24f1
        walk_at "mi") h hl hn
  have c1 := law_heights_ok (k := k) (w := w) l hn
  clear h hl hn
  rw [call24]; unfold b24
  walk_at "mi"
theorem ground_parts_ok {k : Nat} {w : PW} {ps : List (List Int)} {l : List Int} (hr : Road l) (c : Cl l) (h : ∀ p ∈ ps, Cl p) (hl : l = ps.flatMap raiseF) :
    CP (k + 5) 11 [.lst (l.map D.int)] w = some (fLL ps, w) := by
  have c1 := check_closed_ok (k := k) (w := w) hr c
  have c2 := ground_there_ok (k := k + 2) (w := w) h hl hr.ln
  clear hr c h hl
  rw [call11]; unfold b11
  walk_at "mi"
theorem find_app : ∀ (p : List U) (y : U) (q : List U) (x : U) (i : Nat), (∀ z ∈ p, eqF z x = false) → eqF y x = true → findI x i (p ++ y :: q) = some (i + p.length)
  | [], y, q, x, i, _, hy => by
    show (if eqF y x then some i else _) = _
    rw [hy]; rfl
  | z :: p, y, q, x, i, h, hy => by
    show (if eqF z x then some i else findI x (i + 1) (p ++ y :: q)) = _
    rw [h z (List.mem_cons_self ..), if_neg (by decide), find_app p y q x (i + 1) (fun u hu => h u (List.mem_cons_of_mem _ hu)) hy, List.length_cons]
    congr 1; omega
theorem first_index {a r : List Int} (ca : Cl a) : meD .index (.lst ((hts (1 :: (a ++ -1 :: r))).map D.int)) [.int 0, .int 1] = some (.int ((a.length + 2 : Nat) : Int)) := by
  show (match scaP (.int 0), scas ((hts (1 :: (a ++ -1 :: r))).map D.int) with
    | some v, some vs => if (0 : Int) ≤ 1 then match findI v (1 : Int).toNat (vs.drop (1 : Int).toNat) with
      | some i => some (D.int i)
      | none => none else none
    | _, _ => none) = _
  rw [scas_map, hts_split a r ca]
  show (match findI (.int 0) 1 ((.int 1 :: (psF 1 a ++ 0 :: psF 0 r).map U.int)) with
      | some i => some (D.int i)
      | none => none) = _
  rw [List.map_append, List.map_cons, ← List.cons_append, find_app]
  · rw [List.length_cons, List.length_map, psF_len]
    show some (D.int ((1 + (a.length + 1) : Nat) : Int)) = _
    congr 2; omega
  · intro z hz
    rcases List.mem_cons.mp hz with e | e
    · subst e; rfl
    · obtain ⟨x, hx, rfl⟩ := List.mem_map.mp e
      have := up_ne ca x hx
      show (x == 0) = false
      simpa using this
  · rfl
theorem first_return_ok {k : Nat} {w : PW} {a r l : List Int} (hl : l = 1 :: (a ++ -1 :: r)) (hr : Road l) (c : Cl l) (ca : Cl a) :
    CP (k + 5) 9 [.lst (l.map D.int)] w = some (.tup [fL a, fL r], w) := by
  have c1 := check_closed_ok (k := k) (w := w) hr c
  have c2 := heights_there_ok (k := k + 3) (w := w) l hr.ln
  have c3 := first_index (r := r) ca
  rw [← hl] at c3
  have c4 : cut l (some 1) (some ((a.length + 1 : Nat) : Int)) = a := by
    have := cut_nat l 1 (a.length + 1)
    rw [show ((1 : Nat) : Int) = 1 from rfl] at this
    rw [this, hl]
    simp
  have c5 : cut l (some ((a.length + 2 : Nat) : Int)) none = r := by
    rw [cut_drop, hl]
    simp
  have e1 : ((a.length + 2 : Nat) : Int) - 1 = ((a.length + 1 : Nat) : Int) := by omega
  have e2 : decide (l = []) = false := decide_eq_false (by rw [hl]; simp)
  clear hl hr c ca
  rw [call9]; unfold b9
  walk_at "mi"
theorem first_return_0 {k : Nat} {w : PW} : CP (k + 5) 9 [.lst []] w = some (.non, w) := by
  have c1 : CP (k + 4) 6 [.lst []] w = some (.non, w) := check_closed_ok (k := k) (w := w) (l := []) ⟨(fun _ h => nomatch h), by simp⟩ Dn.nil
  have e1 : cmpD .eq (.lst []) (.lst []) = some true := d_eqI0 (l := [])
  rw [call9]; unfold b9
  walk_at "mi"

end K03

set_option maxRecDepth 100000
namespace K03
open Mi PySem Rd
local macro_rules | `(tactic| walk_at "mi") => `(tactic| simp only [v_pb, v_ob, v_pft, v_pff, v_pfd, v_pfn, v_pbs, v_pbs_rt, v_pbs_bk, v_pbs_ct, v_fin_rt, v_fin_nx, v_var, v_int, v_bl, v_non, v_str, v_bin, v_neg, v_not, v_and, v_or, v_ite, v_cmp, v_chain, v_list, v_tup, v_sub, v_slice, v_rev, v_call, v_callk, v_bi, v_isi, v_isi2, v_meth, v_lrng, v_turn, v_turn2, v_lc, v_lc2, v_nil, v_cons, v_Nil, v_Cons, v_pass, v_ex, v_set, v_setF, v_spl, v_app, v_appF, v_retF, v_par, v_asg, v_aug, v_Ite, v_body, v_for, v_while, v_ret, v_retn, v_brk, v_cnt, v_mut1, v_mut2, v_st1, v_sw, v_mv, v_mutv, v_get0, v_getS, v_set0, v_setS, v_one, v_two, v_nm, v_tp2t, v_tp2l, v_tp3t, v_wipe0, v_wipeS, v_all0, v_allS, v_st1D, v_stDl, v_stDp,
  d_add, d_sub, d_mul, d_div, d_mod, d_pow, d_appM, d_repI, d_lt, d_le, d_gt, d_ge, d_eqi, d_nei, d_eqI, d_neI, d_eqI0, d_neI0, d_inI, d_ninI, d_inN, d_ninN, d_inO, d_ninO, d_subD, d_slice, d_countI, d_sliceL, d_sliceR, cut_mapI, setD_0, setD_1, setD_2, d_eqbb, d_nebb, d_is, d_isn, d_notb, d_negi, d_notO, d_len, d_lenT, d_sum, d_all, d_any, d_min2, d_max2, d_inti, d_intb, d_listl, d_listt, d_tuple, d_new0, d_new1, d_new2, d_new3, d_new4, d_new5, d_new6, d_newT2, d_newT3, d_newT4, d_newm, d_subL, d_subT, d_sub0, isTyD, isTysD, isNonD, dOf, atI_i, setD_i,
  i_seqM, i_seqT, i_seqL, i_seq0, v_pbl, v_pbl_ct, v_pbl_bk, v_pbl_rt, v_for0, v_forS, v_lc0, v_lcS, d_sub1, d_sub2, d_sub3, h_le1, d_appL, d_appR, i_enumM, i_zipM, i_rev, List.map_cons, List.map_nil, List.length_map, List.length_cons, List.length_nil, List.getD_cons_zero, List.getD_cons_succ, List.append_nil, List.nil_append, List.cons_append, Bool.not_true, Bool.not_false, Bool.not_not, decide_true, decide_false, if_true, if_false, ite_true, ite_false, reduceIte, Bool.false_eq_true, *])
local macro_rules | `(tactic| walk_at "mn") => `(tactic| simp only [v_pb, v_ob, v_pft, v_pff, v_pfd, v_pfn, v_pbs, v_pbs_rt, v_pbs_bk, v_pbs_ct, v_fin_rt, v_fin_nx, v_var, v_int, v_bl, v_non, v_str, v_bin, v_neg, v_not, v_and, v_or, v_ite, v_cmp, v_chain, v_list, v_tup, v_sub, v_slice, v_rev, v_call, v_callk, v_bi, v_isi, v_isi2, v_meth, v_lrng, v_turn, v_turn2, v_lc, v_lc2, v_nil, v_cons, v_Nil, v_Cons, v_pass, v_ex, v_set, v_setF, v_spl, v_app, v_appF, v_retF, v_par, v_asg, v_aug, v_Ite, v_body, v_for, v_while, v_ret, v_retn, v_brk, v_cnt, v_mut1, v_mut2, v_st1, v_sw, v_mv, v_mutv, v_get0, v_getS, v_set0, v_setS, v_one, v_two, v_nm, v_tp2t, v_tp2l, v_tp3t, v_wipe0, v_wipeS, v_all0, v_allS, v_st1D, v_stDl, v_stDp,
  d_add, d_sub, d_mul, d_div, d_mod, d_pow, d_appM, d_repI, d_lt, d_le, d_gt, d_ge, d_eqi, d_nei, d_eqI, d_neI, d_eqI0, d_neI0, d_inI, d_ninI, d_inN, d_ninN, d_inO, d_ninO, d_subD, d_slice, d_countI, d_sliceL, d_sliceR, cut_mapI, setD_0, setD_1, setD_2, d_eqbb, d_nebb, d_is, d_isn, d_notb, d_negi, d_notO, d_len, d_lenT, d_sum, d_all, d_any, d_min2, d_max2, d_inti, d_intb, d_listl, d_listt, d_tuple, d_new0, d_new1, d_new2, d_new3, d_new4, d_new5, d_new6, d_newT2, d_newT3, d_newT4, d_newm, d_subL, d_subT, d_sub0, isTyD, isTysD, isNonD, dOf, atI_i, setD_i,
  i_seqM, i_seqT, i_seqL, i_seq0, v_pbl, v_pbl_ct, v_pbl_bk, v_pbl_rt, v_lc0, v_lcS, d_sub1, d_sub2, d_sub3, h_le1, d_appL, d_appR, i_enumM, i_zipM, i_rev, List.map_cons, List.map_nil, List.length_map, List.length_cons, List.length_nil, List.getD_cons_zero, List.getD_cons_succ, List.append_nil, List.nil_append, List.cons_append, Bool.not_true, Bool.not_false, Bool.not_not, decide_true, decide_false, if_true, if_false, ite_true, ite_false, reduceIte, Bool.false_eq_true, *])

theorem fl_Dn {ps : List (List Int)} (h : ∀ p ∈ ps, Cl p) : Cl (ps.flatMap raiseF) := by
  induction ps with
  | nil => exact Dn.nil
  | cons a r ih =>
    rw [List.flatMap_cons]
    exact Dn.app (h a (List.mem_cons_self ..)).raise (by decide) (ih fun p hp => h p (List.mem_cons_of_mem _ hp))
theorem raise_len (a : List Int) : (raiseF a).length = a.length + 2 := by unfold raiseF; simp
theorem flat_len : ∀ ps : List (List Int), ps.length ≤ (ps.flatMap raiseF).length ∧ ∀ p ∈ ps, p.length ≤ (ps.flatMap raiseF).length
  | [] => ⟨Nat.le_refl _, (fun _ h => nomatch h)⟩
  | a :: r => by
    obtain ⟨h1, h2⟩ := flat_len r
    rw [List.flatMap_cons, List.length_append, raise_len, List.length_cons]
    refine ⟨by omega, fun p hp => ?_⟩
    rcases List.mem_cons.mp hp with e | e
    · subst e; omega
    · have := h2 p e; omega
theorem map_raise (ps : List (List Int)) : (ps.map raiseF).flatten = ps.flatMap raiseF := rfl
theorem lns_LL : ∀ {ps : List (List Int)}, (∀ p ∈ ps, p.length ≤ 1000000) → lns (ps.map fL) = true
  | [], _ => rfl
  | p :: r, h => by
    show (ln (fL p) && lns (r.map fL)) = true
    rw [ln_ints (h p (List.mem_cons_self ..)), lns_LL fun q hq => h q (List.mem_cons_of_mem _ hq)]; rfl
theorem ln_LL {ps : List (List Int)} (h : ∀ p ∈ ps, p.length ≤ 1000000) (hl : ps.length ≤ 1000000) : ln (fLL ps) = true := by
  show (decide ((ps.map fL).length ≤ 1000000) && lns (ps.map fL)) = true
  rw [List.length_map, decide_eq_true hl, lns_LL h]; rfl
theorem dg_LL (ps : List (List Int)) : dg (fLL ps) = true := Fa.int.list.list.g ps
theorem hgt_LL (ps : List (List Int)) : hgt (fLL ps) ≤ 2 := Fa.int.list.list.h ps
theorem same_ok {m k : Nat} {d : D} {w : PW} (hm : 6 ≤ m) (hg : dg d = true) (hl : ln d = true) (hh : hgt d ≤ 5) : CP m 16 [d, d] w = some (.bl true, w) := by
  obtain ⟨k, rfl⟩ : ∃ k, m = k + 5 + 1 := ⟨m - 6, by omega⟩
  exact same_refl 5 k d w hg hl hh (by decide)
theorem spoil_ok {m : Nat} {d : D} {w : PW} (hm : 6 ≤ m) (hg : dg d = true) (hl : ln d = true) (hh : hgt d ≤ 5) : CP m 19 [d] w = some (.non, w) := by
  obtain ⟨k, rfl⟩ : ∃ k, m = k + 5 + 1 := ⟨m - 6, by omega⟩
  exact spoilt_ok 5 k d w hg hl hh
theorem right_0 {k : Nat} {w : PW} : CP (k + 9) 25 [.lst []] w = some (.bl true, w) := by
  have hr : Road [] := ⟨(fun _ h => nomatch h), by simp⟩
  have c1 : CP (k + 8) 24 [.lst []] w = some (.lst [], w) := law_parts_ok (l := []) (ps := []) (fun _ h => nomatch h) rfl (by simp)
  have c2 : CP (k + 8) 9 [.lst []] w = some (.non, w) := first_return_0
  have c3 : CP (k + 8) 11 [.lst []] w = some (.lst [], w) := ground_parts_ok (ps := []) hr Dn.nil (fun _ h => nomatch h) rfl
  have e1 : cmpD .eq (.lst []) (.lst []) = some true := d_eqI0 (l := [])
  have e2 : cmpD .ne (.lst []) (.lst []) = some false := d_neI0 (l := [])
  have s1 : CP (k + 8) 16 [.lst [.non, .non, .lst [], .lst []], .lst [.non, .non, .lst [], .lst []]] w = some (.bl true, w) := same_ok (k := 0) (by omega) (by decide) (by decide) (by decide)
  have s2 : CP (k + 8) 16 [.lst [], .lst []] w = some (.bl true, w) := same_ok (k := 0) (by omega) (by decide) (by decide) (by decide)
  have j1 : CP (k + 8) 7 [.lst []] w = some (.lst [], w) := joined_ok [] (fun _ h => nomatch h) (by simp) (by simp)
  have p1 : CP (k + 8) 19 [.lst [.non, .non, .lst [], .lst []]] w = some (.non, w) := spoil_ok (by omega) (by decide) (by decide) (by decide)
  have h1 : hgt (.lst [.non, .non, .lst [], .lst []]) ≤ 3 := by decide
  rw [call25]; unfold b25
  walk_at "mi"
theorem right_ok {k : Nat} {w : PW} {l : List Int} (c : Cl l) (hn : l.length ≤ 100) : CP (k + 9) 25 [.lst (l.map D.int)] w = some (.bl true, w) := by
  by_cases h0 : l = []
  · subst h0; exact right_0
  obtain ⟨ps, hl, hps⟩ := Dn.parts l.length l (Nat.le_refl _) c
  obtain ⟨a, qs, hpq⟩ : ∃ a qs, ps = a :: qs := by
    cases ps with
    | nil => exact absurd hl h0
    | cons a qs => exact ⟨a, qs, rfl⟩
  have ca := hps a (by rw [hpq]; exact List.mem_cons_self ..)
  have hqs : ∀ p ∈ qs, Cl p := fun p hp => hps p (by rw [hpq]; exact List.mem_cons_of_mem _ hp)
  obtain ⟨r, hrq⟩ : ∃ r, r = qs.flatMap raiseF := ⟨_, rfl⟩
  have cr : Cl r := by rw [hrq]; exact fl_Dn hqs
  have hf : l = 1 :: (a ++ -1 :: r) := by rw [hl, hpq, List.flatMap_cons, raise_app, hrq]
  have hlen := congrArg List.length hf
  rw [List.length_cons, List.length_append, List.length_cons] at hlen
  have fl := flat_len ps
  rw [← hl] at fl
  have hr : Road l := ⟨c.st, by omega⟩
  have hra : Road a := ⟨ca.st, by omega⟩
  have hrr : Road r := ⟨cr.st, by omega⟩
  have c1 := law_parts_ok (k := k + 6) (w := w) hps hl (by omega)
  have c2 := first_return_ok (k := k + 3) (w := w) hf hr c ca
  have c3 := ground_parts_ok (k := k + 3) (w := w) hr c hps hl
  have e1 : decide (l = []) = false := decide_eq_false h0
  have i0 : L2.atI (ps.map fL) 0 = some (fL a) := by rw [hpq]; exact d_sub0
  have e2 : (a.length : Int) + 2 = ((a.length + 2 : Nat) : Int) := by omega
  have e3 : cut l (some ((a.length + 2 : Nat) : Int)) none = r := by
    rw [cut_drop, hf]
    simp
  obtain ⟨due, hdue⟩ : ∃ due : D, due = .tup [fL a, fL r] := ⟨_, rfl⟩
  have g1 : dg (.lst [due, due, fLL ps, fLL ps]) = true := by
    show (dg due && (dg due && (dg (fLL ps) && (dg (fLL ps) && true)))) = true
    have : dg due = true := by
      rw [hdue]
      show (dg (fL a) && (dg (fL r) && true)) = true
      rw [dg_ints, dg_ints]; rfl
    rw [this, dg_LL]; rfl
  have g2 : ln (.lst [due, due, fLL ps, fLL ps]) = true := by
    show (ln due && (ln due && (ln (fLL ps) && (ln (fLL ps) && true)))) = true
    have h1 : ln due = true := by
      rw [hdue]
      show (ln (fL a) && (ln (fL r) && true)) = true
      rw [ln_ints (by have := hra.ln; omega), ln_ints (by have := hrr.ln; omega)]; rfl
    have h2 : ln (fLL ps) = true := ln_LL (fun p hp => by have := fl.2 p hp; omega) (by have := fl.1; omega)
    rw [h1, h2]; rfl
  have g3 : hgt (.lst [due, due, fLL ps, fLL ps]) ≤ 3 := by
    have h1 : hgt due ≤ 2 := by
      rw [hdue]
      have a1 : hgt (fL a) ≤ 1 := hgt_ints a
      have a2 : hgt (fL r) ≤ 1 := hgt_ints r
      show max (hgt (fL a)) (max (hgt (fL r)) 0) + 1 ≤ 2
      omega
    have h2 := hgt_LL ps
    show max (hgt due) (max (hgt due) (max (hgt (fLL ps)) (max (hgt (fLL ps)) 0))) + 1 ≤ 3
    omega
  have s1 : CP (k + 8) 16 [.lst [due, due, fLL ps, fLL ps], .lst [due, due, fLL ps, fLL ps]] w = some (.bl true, w) := same_ok (k := 0) (by omega) g1 g2 (by omega)
  have p1 : CP (k + 8) 19 [.lst [due, due, fLL ps, fLL ps]] w = some (.non, w) := spoil_ok (by omega) g1 g2 (by omega)
  have s2 : CP (k + 8) 16 [fLL ps, fLL ps] w = some (.bl true, w) := same_ok (k := 0) (by omega) (dg_LL _) (ln_LL (fun p hp => by have := fl.2 p hp; omega) (by have := fl.1; omega)) (Nat.le_trans (hgt_LL _) (by decide))
  have r1 := raised_ok (k := k + 4) (w := w) hra
  have j1 : CP (k + 8) 7 [.lst [.lst ((raiseF a).map D.int), .lst (r.map D.int)]] w = some (.lst (l.map D.int), w) := by
    have := joined_ok (k := k + 5) (w := w) [raiseF a, r] (fun x hx => by
      rcases List.mem_cons.mp hx with e | e
      · subst e; exact ⟨ca.raise.st, by rw [raise_len]; have := hra.ln; omega⟩
      · cases List.mem_singleton.mp e; exact hrr) (by simp) (by rw [List.flatten_cons, List.length_append, List.flatten_cons, List.length_append, raise_len]; simp; omega)
    rw [show [raiseF a, r].flatten = l by rw [hf]; unfold raiseF; simp] at this
    exact this
  have k1 := law_is_closed_ok (k := k + 6) (w := w) a (by have := hra.ln; omega)
  have k2 := law_is_closed_ok (k := k + 6) (w := w) r (by have := hrr.ln; omega)
  rw [closedB_cl ca] at k1
  rw [closedB_cl cr] at k2
  have hc := lcP_map (w := w) (f := turnC (CP (k + 8)) [5] (.nm 5) (.bl true) b25e1 [some (.lst (l.map D.int)), some (.lst (l.map D.int)), some (fLL ps), some due, some (.lst [due, due, fLL ps, fLL ps]), none])
    (enc := fun x : List Int => .one (fL x)) (fun x => fL (raiseF x)) ps (fun x hx => by
      have r2 := raised_ok (k := k + 4) (w := w) (l := x) ⟨(hps x hx).st, by have := fl.2 x hx; omega⟩
      clear c1 c2 c3 e1 i0 e2 e3 g1 g2 g3 s1 s2 p1 r1 j1 k1 k2 hlen fl hf hl hr hra hrr ca cr hps hqs c hn h0 hpq hrq hx
      unfold b25e1
      walk_at "mi")
  have hn2 : newLD (ps.map fun x => fL (raiseF x)) = some (.lst (ps.map fun x => fL (raiseF x))) := d_newm (le_size (by have := fl.1; omega))
  have j2 : CP (k + 8) 7 [.lst (ps.map fun x => fL (raiseF x))] w = some (.lst (l.map D.int), w) := by
    have := joined_ok (k := k + 5) (w := w) (ps.map raiseF) (fun x hx => by
      obtain ⟨p, hp, rfl⟩ := List.mem_map.mp hx
      exact ⟨(hps p hp).raise.st, by rw [raise_len]; have := fl.2 p hp; omega⟩) (by rw [List.length_map]; have := fl.1; omega) (by rw [map_raise, ← hl]; omega)
    rw [map_raise, ← hl, fLL, List.map_map] at this
    exact this
  have hi : ∀ y, itemsD .seq (fLL ps) y = some (ps.map fun x : List Int => Pv.one (fL x)) := fun y => i_seqM
  clear hlen fl hf hl hr hra hrr ca cr hps hqs c hn h0 hpq hrq g1 g2
  subst hdue
  rw [call25]; unfold b25
  walk_at "mi"

end K03

set_option maxRecDepth 100000
namespace K03
open Mi PySem Rd
local macro_rules | `(tactic| walk_at "mi") => `(tactic| simp only [v_pb, v_ob, v_pft, v_pff, v_pfd, v_pfn, v_pbs, v_pbs_rt, v_pbs_bk, v_pbs_ct, v_fin_rt, v_fin_nx, v_var, v_int, v_bl, v_non, v_str, v_bin, v_neg, v_not, v_and, v_or, v_ite, v_cmp, v_chain, v_list, v_tup, v_sub, v_slice, v_rev, v_call, v_callk, v_bi, v_isi, v_isi2, v_meth, v_lrng, v_turn, v_turn2, v_lc, v_lc2, v_nil, v_cons, v_Nil, v_Cons, v_pass, v_ex, v_set, v_setF, v_spl, v_app, v_appF, v_retF, v_par, v_asg, v_aug, v_Ite, v_body, v_for, v_while, v_ret, v_retn, v_brk, v_cnt, v_mut1, v_mut2, v_st1, v_sw, v_mv, v_mutv, v_get0, v_getS, v_set0, v_setS, v_one, v_two, v_nm, v_tp2t, v_tp2l, v_tp3t, v_wipe0, v_wipeS, v_all0, v_allS, v_st1D, v_stDl, v_stDp,
  d_add, d_sub, d_mul, d_div, d_mod, d_pow, d_appM, d_repI, d_lt, d_le, d_gt, d_ge, d_eqi, d_nei, d_eqI, d_neI, d_eqI0, d_neI0, d_inI, d_ninI, d_inN, d_ninN, d_inO, d_ninO, d_subD, d_slice, d_countI, d_sliceL, d_sliceR, cut_mapI, setD_0, setD_1, setD_2, d_eqbb, d_nebb, d_is, d_isn, d_notb, d_negi, d_notO, d_len, d_lenT, d_sum, d_all, d_any, d_min2, d_max2, d_inti, d_intb, d_listl, d_listt, d_tuple, d_new0, d_new1, d_new2, d_new3, d_new4, d_new5, d_new6, d_newT2, d_newT3, d_newT4, d_newm, d_subL, d_subT, d_sub0, isTyD, isTysD, isNonD, dOf, atI_i, setD_i,
  i_seqM, i_seqT, i_seqL, i_seq0, v_pbl, v_pbl_ct, v_pbl_bk, v_pbl_rt, v_for0, v_forS, v_lc0, v_lcS, d_sub1, d_sub2, d_sub3, h_le1, d_appL, d_appR, i_enumM, i_zipM, i_rev, List.map_cons, List.map_nil, List.length_map, List.length_cons, List.length_nil, List.getD_cons_zero, List.getD_cons_succ, List.append_nil, List.nil_append, List.cons_append, Bool.not_true, Bool.not_false, Bool.not_not, decide_true, decide_false, if_true, if_false, ite_true, ite_false, reduceIte, Bool.false_eq_true, *])
local macro_rules | `(tactic| walk_at "mn") => `(tactic| simp only [v_pb, v_ob, v_pft, v_pff, v_pfd, v_pfn, v_pbs, v_pbs_rt, v_pbs_bk, v_pbs_ct, v_fin_rt, v_fin_nx, v_var, v_int, v_bl, v_non, v_str, v_bin, v_neg, v_not, v_and, v_or, v_ite, v_cmp, v_chain, v_list, v_tup, v_sub, v_slice, v_rev, v_call, v_callk, v_bi, v_isi, v_isi2, v_meth, v_lrng, v_turn, v_turn2, v_lc, v_lc2, v_nil, v_cons, v_Nil, v_Cons, v_pass, v_ex, v_set, v_setF, v_spl, v_app, v_appF, v_retF, v_par, v_asg, v_aug, v_Ite, v_body, v_for, v_while, v_ret, v_retn, v_brk, v_cnt, v_mut1, v_mut2, v_st1, v_sw, v_mv, v_mutv, v_get0, v_getS, v_set0, v_setS, v_one, v_two, v_nm, v_tp2t, v_tp2l, v_tp3t, v_wipe0, v_wipeS, v_all0, v_allS, v_st1D, v_stDl, v_stDp,
  d_add, d_sub, d_mul, d_div, d_mod, d_pow, d_appM, d_repI, d_lt, d_le, d_gt, d_ge, d_eqi, d_nei, d_eqI, d_neI, d_eqI0, d_neI0, d_inI, d_ninI, d_inN, d_ninN, d_inO, d_ninO, d_subD, d_slice, d_countI, d_sliceL, d_sliceR, cut_mapI, setD_0, setD_1, setD_2, d_eqbb, d_nebb, d_is, d_isn, d_notb, d_negi, d_notO, d_len, d_lenT, d_sum, d_all, d_any, d_min2, d_max2, d_inti, d_intb, d_listl, d_listt, d_tuple, d_new0, d_new1, d_new2, d_new3, d_new4, d_new5, d_new6, d_newT2, d_newT3, d_newT4, d_newm, d_subL, d_subT, d_sub0, isTyD, isTysD, isNonD, dOf, atI_i, setD_i,
  i_seqM, i_seqT, i_seqL, i_seq0, v_pbl, v_pbl_ct, v_pbl_bk, v_pbl_rt, v_lc0, v_lcS, d_sub1, d_sub2, d_sub3, h_le1, d_appL, d_appR, i_enumM, i_zipM, i_rev, List.map_cons, List.map_nil, List.length_map, List.length_cons, List.length_nil, List.getD_cons_zero, List.getD_cons_succ, List.append_nil, List.nil_append, List.cons_append, Bool.not_true, Bool.not_false, Bool.not_not, decide_true, decide_false, if_true, if_false, ite_true, ite_false, reduceIte, Bool.false_eq_true, *])

def depth : Nat := 21
def clB (l : List Int) : Bool := closedB l && (l.all fun x => decide (x = 1) || decide (x = -1)) && decide (l.length ≤ 100)
theorem clB_ok {l : List Int} (h : clB l = true) : Cl l ∧ l.length ≤ 100 := by
  unfold clB closedB stayB at h
  rw [Bool.and_eq_true, Bool.and_eq_true, Bool.and_eq_true] at h
  obtain ⟨⟨⟨h1, h2⟩, h3⟩, h4⟩ := h
  refine ⟨⟨fun x hx => ?_, (hts_min l).mp (of_decide_eq_true h1), by have := of_decide_eq_true h2; omega⟩, of_decide_eq_true h4⟩
  have := List.all_eq_true.mp h3 x hx
  rw [Bool.or_eq_true] at this
  rcases this with e | e
  · exact .inl (of_decide_eq_true e)
  · exact .inr (of_decide_eq_true e)
theorem intsD_eq : ∀ {xs : List D} {l : List Int}, intsD xs = some l → xs = l.map D.int
  | [], l, h => by cases h; rfl
  | x :: r, l, h => by
    cases x with
    | int i =>
      have h : (match intsD r with | some l => some (i :: l) | none => none) = some l := h
      cases hr : intsD r with
      | none => rw [hr] at h; cases h
      | some m =>
        rw [hr] at h
        cases h
        rw [intsD_eq hr]; rfl
    | _ => cases h
def clD (d : D) : Bool := match d with
  | .lst xs => match intsD xs with
    | some l => clB l
    | none => false
  | _ => false
theorem clD_ok {d : D} (h : clD d = true) : ∃ l : List Int, d = fL l ∧ Cl l ∧ l.length ≤ 100 := by
  cases d with
  | lst xs =>
    have h : (match intsD xs with | some l => clB l | none => false) = true := h
    cases hr : intsD xs with
    | none => rw [hr] at h; cases h
    | some l =>
      rw [hr] at h
      exact ⟨l, by rw [intsD_eq hr], clB_ok h⟩
  | _ => cases h
theorem clDs_ok : ∀ {ds : List D}, ds.all clD = true → ∃ L : List (List Int), ds = L.map fL ∧ ∀ l ∈ L, Cl l ∧ l.length ≤ 100
  | [], _ => ⟨[], rfl, (fun _ h => nomatch h)⟩
  | d :: r, h => by
    rw [List.all_cons, Bool.and_eq_true] at h
    obtain ⟨l, e, hl⟩ := clD_ok h.1
    obtain ⟨L, e2, h2⟩ := clDs_ok h.2
    refine ⟨l :: L, by rw [e, e2]; rfl, fun m hm => ?_⟩
    rcases List.mem_cons.mp hm with e | e
    · subst e; exact hl
    · exact h2 m e
def llOk : PR → Bool
  | some (.lst ds, []) => ds.all clD && decide (ds.length ≤ 1000)
  | _ => false
theorem llOk_ok {o : PR} (h : llOk o = true) : ∃ L : List (List Int), o = some (fLL L, []) ∧ (∀ l ∈ L, Cl l ∧ l.length ≤ 100) ∧ L.length ≤ 1000 := by
  unfold llOk at h
  split at h
  · rw [Bool.and_eq_true] at h
    obtain ⟨L, e, h2⟩ := clDs_ok h.1
    refine ⟨L, by rw [e], h2, ?_⟩
    have := of_decide_eq_true h.2
    rw [e, List.length_map] at this
    exact this
  · cases h
theorem all_closed_chk : (List.range 6).all (fun c => llOk (CP 20 22 [.int (c : Int)] [])) = true := by decide +kernel
theorem all_closed_ok {c : Nat} (hc : c < 6) (w : PW) : ∃ L : List (List Int), CP 20 22 [.int (c : Int)] w = some (fLL L, w) ∧ (∀ l ∈ L, Cl l ∧ l.length ≤ 100) ∧ L.length ≤ 1000 := by
  obtain ⟨L, e, h1, h2⟩ := llOk_ok (List.all_eq_true.mp all_closed_chk c (List.mem_range.mpr hc))
  exact ⟨L, call_any e w, h1, h2⟩
theorem body_ok {w : PW} (pw : Pw (2 ^ 60) w) : ∃ fl σ' w', exPs (CP 20) b26f1 ((List.replicate 3 none).set 1 (some .pur)) w = some (fl, σ', w') ∧ (fl = .nx ∨ fl = .ct) := by
  obtain ⟨x, w1, e1, hx, p1⟩ := one_of_ok (k := 17) (n := 10000) (w := w) [4, 9, 31] (by simp) (by simp) (Pw_mono (by omega) pw)
  replace e1 : CP 20 15 [.pur, .lst [.int 4, .int 9, .int 31]] w = some (.int x, w1) := e1
  have hx2 : 1 ≤ x ∧ x ≤ 31 := by
    simp at hx
    rcases hx with e | e | e <;> omega
  obtain ⟨z, w2, e2, hz0, hz1, p2⟩ := draw_ok (k := 18) (iM := 13) (iD := 14) q13 q14 (many := x) (by omega) (by omega) (n := 9000) (Pw_mono (by omega) p1)
  obtain ⟨p, rfl⟩ : ∃ c : Nat, z = (c : Int) := ⟨z.toNat, by omega⟩
  obtain ⟨l, w3, e3, hc, hl, p3⟩ := closed_road_ok (k := 17) (n := 1000) (w := w2) p (by omega) (Pw_mono (by omega) p2)
  have e4 := right_ok (k := 11) (w := w3) hc (by omega)
  have e5 := right_0 (k := 11) (w := w3)
  obtain ⟨y, w4, e6, hy0, hy1, p4⟩ := draw_ok (k := 18) (iM := 13) (iD := 14) q13 q14 (many := 4) (by omega) (by omega) (n := 100) (w := w3) (Pw_mono (by omega) p3)
  obtain ⟨u, w5, e7, hu0, hu1, p5⟩ := draw_ok (k := 18) (iM := 13) (iD := 14) q13 q14 (many := 6) (by omega) (by omega) (n := 10) (w := w4) (Pw_mono (by omega) p4)
  obtain ⟨c, rfl⟩ : ∃ c : Nat, u = (c : Int) := ⟨u.toNat, by omega⟩
  obtain ⟨L, e8, hL, hLl⟩ := all_closed_ok (c := c) (by omega) w5
  have hcm := lcP_map (w := w5) (f := turnC (CP 20) [2] (.nm 2) (.bl true) b26e1 [none, some .pur, none])
    (enc := fun x : List Int => .one (fL x)) (fun _ => .bl true) L (fun x hx => by
      have e9 := right_ok (k := 11) (w := w5) (hL x hx).1 (hL x hx).2
      clear e1 e2 e3 e4 e5 e6 e7 e8 hL hLl hx
      unfold b26e1
      walk_at "mi")
  have hn : newLD (L.map fun _ => D.bl true) = some (.lst (L.map fun _ => D.bl true)) := d_newm (le_size (by omega))
  have ha : biD .all [.lst (L.map fun _ => D.bl true)] = some (.bl true) := by
    refine (d_allM (p := fun _ => true)).trans ?_
    simp
  have h0 : (List.replicate 3 (none : Option D)).set 1 (some .pur) = [none, some .pur, none] := rfl
  rw [h0]
  by_cases hy : y = 0
  · have hyy : decide (y = 0) = true := decide_eq_true hy
    refine ⟨.nx, [none, some .pur, none], w5, ?_, .inl rfl⟩
    clear pw p1 p2 p3 p4 p5 hx hx2 hz0 hz1 hy0 hy1 hu0 hu1 hc hl hL hLl h0
    unfold b26f1
    walk_at "mi"
  · have hyy : decide (y = 0) = false := decide_eq_false hy
    refine ⟨.nx, [none, some .pur, none], w4, ?_, .inl rfl⟩
    clear pw p1 p2 p3 p4 p5 hx hx2 hz0 hz1 hy0 hy1 hu0 hu1 hc hl hL hLl h0
    unfold b26f1
    walk_at "mi"
theorem rest_ok : ∃ σ' w', exPs (CP 20) (.cons (.ret (.bl true)) .nil) (List.replicate 3 none) [] = some (.rt (.bl true), σ', w') := ⟨_, _, rfl⟩
theorem main : ∀ ns : List Int, ns.length ≤ 63 → (∀ z ∈ ns, PySem.Builtin.Int.intBits z ≤ 1048576) → ∃ h1, callN (qOf Ds) depth 26 [.ref 0] (heap0 ns) = some (.bl true, h1) := by
  intro ns _ _
  obtain ⟨⟨r, J⟩, cb⟩ := Option.isSome_iff_exists.mp (by decide +kernel : (chkSs (sgOf sgL) .sc b26f1 ((List.replicate 3 none).set 1 (some .pu))).isSome = true)
  obtain ⟨⟨r2, J2⟩, cr⟩ := Option.isSome_iff_exists.mp (by decide +kernel : (chkSs (sgOf sgL) .sc (.cons (.ret (.bl true)) .nil) (List.replicate 3 none)).isSome = true)
  exact law1 (Q := qOf Ds) (Qp := Qp) (rk := sgOf sgL) (nv := 3) (p := 1) (body := b26f1) (iP := 12) (iPs := 17) (li := 26) (k0 := 18) (few := 3) (rest := .cons (.ret (.bl true)) .nil) maskQ_sub (maskQ_chk chk) sps rfl rfl rfl (by decide) (by decide)
    cb cr (fun w pw => body_ok pw) rest_ok ns

end K03

set_option maxRecDepth 100000
open PySem PySem.W PyProof.Rows
set_option maxHeartbeats 0 in
set_option maxRecDepth 100000 in
theorem PySem.Challenge.cw_neverbehind_k03_whole_parts_of_roads_holds : PySem.Challenge.rw_neverbehind_k03_whole_parts_of_roads.Holds := by
  w_on; o_law; k_head; (case hw => w_witness2)
  k_fill
  refine Mi.walk_mi (l := PySem.Challenge.rw_neverbehind_k03_whole_parts_of_roads) (k := K03.depth) (li := 26) (T := K03.tab) (Q := Mi.qOf K03.Ds) (Ds := K03.Ds) (D := K03.D26) (x := "script") rfl rfl ⟨rfl, by decide, by decide⟩ rfl rfl (fun w h Y => PySem.W.kIn_of Y) ?F K03.main
  case F =>
    intro w mg fa h KX G hmg
    refine' Mi.bt_then KX ?b0 ?b1 ?b2 ?b3 ?b4 ?b5 ?b6 ?b7 ?b8 ?b9 ?b10 ?b11 ?b12 ?b13 ?b14 ?b15 ?b16 ?b17 ?b18 ?b19 fun BT => ?_
    (case b0 => k_is); (case b1 => k_is); (case b2 => k_is); (case b3 => k_is); (case b4 => k_is); (case b5 => k_is); (case b6 => k_is); (case b7 => k_is); (case b8 => k_is); (case b9 => k_is); (case b10 => k_is); (case b11 => k_is); (case b12 => k_is); (case b13 => k_is); (case b14 => k_is); (case b15 => k_is); (case b16 => k_is); (case b17 => k_is); (case b18 => k_is); (case b19 => k_is)
    refine' K03.at0 KX G ?a ?l ?c ?k (fun f0 fd0 A0 => ?_)
    (case a => k_is); (case l => k_is); (case c => k_is); (case k => k_is)
    refine' K03.at1 KX G ?a ?l ?c ?k (fun f1 fd1 A1 => ?_)
    (case a => k_is); (case l => k_is); (case c => k_is); (case k => k_is)
    refine' K03.at2 KX G ?a ?l ?c ?k (fun f2 fd2 A2 => ?_)
    (case a => k_is); (case l => k_is); (case c => k_is); (case k => k_is)
    refine' K03.at3 KX G ?a ?l ?c ?k (fun f3 fd3 A3 => ?_)
    (case a => k_is); (case l => k_is); (case c => k_is); (case k => k_is)
    refine' K03.at4 KX G ?a ?l ?c ?k (fun f4 fd4 A4 => ?_)
    (case a => k_is); (case l => k_is); (case c => k_is); (case k => k_is)
    refine' K03.at5 KX G ?a ?l ?c ?k (fun f5 fd5 A5 => ?_)
    (case a => k_is); (case l => k_is); (case c => k_is); (case k => k_is)
    refine' K03.at6 KX G ?a ?l ?c ?k (fun f6 fd6 A6 => ?_)
    (case a => k_is); (case l => k_is); (case c => k_is); (case k => k_is)
    refine' K03.at7 KX G ?a ?l ?c ?k (fun f7 fd7 A7 => ?_)
    (case a => k_is); (case l => k_is); (case c => k_is); (case k => k_is)
    refine' K03.at8 KX G ?a ?l ?c ?k (fun f8 fd8 A8 => ?_)
    (case a => k_is); (case l => k_is); (case c => k_is); (case k => k_is)
    refine' K03.at9 KX G ?a ?l ?c ?k (fun f9 fd9 A9 => ?_)
    (case a => k_is); (case l => k_is); (case c => k_is); (case k => k_is)
    refine' K03.at10 KX G ?a ?l ?c ?k (fun f10 fd10 A10 => ?_)
    (case a => k_is); (case l => k_is); (case c => k_is); (case k => k_is)
    refine' K03.at11 KX G ?a ?l ?c ?k (fun f11 fd11 A11 => ?_)
    (case a => k_is); (case l => k_is); (case c => k_is); (case k => k_is)
    refine' K03.at12 KX G ?a ?l ?c ?k (fun f12 fd12 A12 => ?_)
    (case a => k_is); (case l => k_is); (case c => k_is); (case k => k_is)
    refine' K03.at13 KX G ?a ?l ?c ?k (fun f13 fd13 A13 => ?_)
    (case a => k_is); (case l => k_is); (case c => k_is); (case k => k_is)
    refine' K03.at14 KX G ?a ?l ?c ?k (fun f14 fd14 A14 => ?_)
    (case a => k_is); (case l => k_is); (case c => k_is); (case k => k_is)
    refine' K03.at15 KX G ?a ?l ?c ?k (fun f15 fd15 A15 => ?_)
    (case a => k_is); (case l => k_is); (case c => k_is); (case k => k_is)
    refine' K03.at16 KX G ?a ?l ?c ?k (fun f16 fd16 A16 => ?_)
    (case a => k_is); (case l => k_is); (case c => k_is); (case k => k_is)
    refine' K03.at17 KX G ?a ?l ?c ?k (fun f17 fd17 A17 => ?_)
    (case a => k_is); (case l => k_is); (case c => k_is); (case k => k_is)
    refine' K03.at18 KX G ?a ?l ?c ?k (fun f18 fd18 A18 => ?_)
    (case a => k_is); (case l => k_is); (case c => k_is); (case k => k_is)
    refine' K03.at19 KX G ?a ?l ?c ?k (fun f19 fd19 A19 => ?_)
    (case a => k_is); (case l => k_is); (case c => k_is); (case k => k_is)
    refine' K03.at20 KX G ?a ?l ?c ?k (fun f20 fd20 A20 => ?_)
    (case a => k_is); (case l => k_is); (case c => k_is); (case k => k_is)
    refine' K03.at21 KX G ?a ?l ?c ?k (fun f21 fd21 A21 => ?_)
    (case a => k_is); (case l => k_is); (case c => k_is); (case k => k_is)
    refine' K03.at22 KX G ?a ?l ?c ?k (fun f22 fd22 A22 => ?_)
    (case a => k_is); (case l => k_is); (case c => k_is); (case k => k_is)
    refine' K03.at23 KX G ?a ?l ?c ?k (fun f23 fd23 A23 => ?_)
    (case a => k_is); (case l => k_is); (case c => k_is); (case k => k_is)
    refine' K03.at24 KX G ?a ?l ?c ?k (fun f24 fd24 A24 => ?_)
    (case a => k_is); (case l => k_is); (case c => k_is); (case k => k_is)
    refine' K03.at25 KX G ?a ?l ?c ?k (fun f25 fd25 A25 => ?_)
    (case a => k_is); (case l => k_is); (case c => k_is); (case k => k_is)
    refine' K03.at26 KX G hmg ?a ?l ?c ?k (fun fd26 BB A26 => ?_)
    (case a => k_is); (case l => k_is); (case c => k_is); (case k => k_is)
    exact ⟨fd26, BB, Mi.prg_mk KX G BT rfl K03.oks ⟨⟨f0, fd0, A0⟩, ⟨f1, fd1, A1⟩, ⟨f2, fd2, A2⟩, ⟨f3, fd3, A3⟩, ⟨f4, fd4, A4⟩, ⟨f5, fd5, A5⟩, ⟨f6, fd6, A6⟩, ⟨f7, fd7, A7⟩, ⟨f8, fd8, A8⟩, ⟨f9, fd9, A9⟩, ⟨f10, fd10, A10⟩, ⟨f11, fd11, A11⟩, ⟨f12, fd12, A12⟩, ⟨f13, fd13, A13⟩, ⟨f14, fd14, A14⟩, ⟨f15, fd15, A15⟩, ⟨f16, fd16, A16⟩, ⟨f17, fd17, A17⟩, ⟨f18, fd18, A18⟩, ⟨f19, fd19, A19⟩, ⟨f20, fd20, A20⟩, ⟨f21, fd21, A21⟩, ⟨f22, fd22, A22⟩, ⟨f23, fd23, A23⟩, ⟨f24, fd24, A24⟩, ⟨f25, fd25, A25⟩, ⟨fa, fd26, A26⟩, trivial⟩, A26⟩
