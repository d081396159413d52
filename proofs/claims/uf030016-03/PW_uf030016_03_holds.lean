import PyProof.Rows.All
import Wide.All
import OpenK.AllK
import Wide.FinOn
import Open.Row
import PyProof.StationsW
import PyProof.DictStraight
import PyProof.EqKinds
import PyProof.ListOps
import PyProof.CompFree
import PyProof.Cells
import PyProof.Rows.Many
import PyProof.NeKinds
import KE.KIsAll
import PyProof.ExcArgsOwn
import PyProof.ExcAttrAll.ValueError
import KE.KRevSl
import KE.KSortTup
import KE.KDictSum
import OpenK.KRaise
import KE.KPar
import PySem.Challenge.RW_uf030016_03
set_option Elab.async false
set_option linter.all false
set_option bootstrap.genMatcherCode false
set_option genSizeOfSpec false
set_option genSizeOf false
set_option genInjectivity false
section
namespace Mine.Internal
open PySem (Str Addr)

set_option genInjectivity true in
inductive V where
  | none
  | bool (b : Bool)
  | int (i : Int)
  | str (s : Str)
  | tup (vs : List V)
  | ref (a : Addr)
  | ro (xs : List Int)
  | exc (c : String)
  deriving Inhabited

set_option genInjectivity true in
inductive Ob where
  | list (xs : List V)
  | dict (kvs : List (Int × V))
  deriving Inhabited

abbrev Hp := Addr → Option Ob
noncomputable def Hp.set (H : Hp) (a : Addr) (o : Ob) : Hp := fun b => if b = a then some o else H b
abbrev Loc := List (Option V)

inductive Op where
  | add | sub | mul | fdiv | mod | pow
  deriving DecidableEq
inductive BF where
  | len | min2 | max2 | abs | sum | sorted | list | int
  deriving DecidableEq
inductive Mt where
  | append | clear | count | get | pop | reverse | popD
  deriving DecidableEq
inductive Cm where
  | eq | ne | lt | le | gt | ge | is | isNot | isIn | notIn
  deriving DecidableEq
inductive Cn where
  | own (c : String) | int | bool | list | tuple | valueError
  deriving DecidableEq
inductive Tg where
  | one (i : Nat) | two (i j : Nat)
  deriving DecidableEq
set_option genInjectivity true in
inductive It where
  | v (x : V) | p (x y : V)

mutual
inductive Ex where
  | none | bool (b : Bool) | int (i : Int) | str (s : String)
  | var (i : Nat)
  | glob (x : String) (n : Int)
  | bin (op : Op) (a b : Ex)
  | neg (a : Ex)
  | nt (a : Ex)
  | cmp (op : Cm) (a b : Ex)
  | cmp2 (o1 o2 : Cm) (a b c : Ex)
  | bop (conj : Bool) (es : Exs)
  | ife (c a b : Ex)
  | list (es : Exs)
  | tup (es : Exs)
  | dict0
  | idx (e i : Ex)
  | call (f : String) (es : Exs)
  | bc (f : BF) (es : Exs)
  | mt (m : Mt) (o : Ex) (es : Exs)
  | isi (e : Ex) (cs : List Cn)
  | comp (elt : Ex) (t : Tg) (src : Sr)
  | compIf (elt : Ex) (t : Tg) (src : Sr) (c : Ex)
inductive Exs where
  | nil | cons (e : Ex) (r : Exs)
inductive Sr where
  | ex (e : Ex)
  | range1 (b : Ex)
end

mutual
inductive St where
  | asg (i : Nat) (e : Ex)
  | setIt (o i v : Ex)
  | ex (e : Ex)
  | ret (e : Ex)
  | ife (c : Ex) (a b : Sts)
  | whl (c : Ex) (b : Sts)
  | for (t : Tg) (s : Sr) (b : Sts)
  | raise (c : String) (msg : String)
  | tr (b : Sts) (hs : Hs)
  | pass
inductive Sts where
  | nil | cons (s : St) (r : Sts)
inductive Hs where
  | nil | cons (c : String) (x : Option Nat) (b : Sts) (r : Hs)
end

structure Gl where
  call : String → List V → (V → Hp → Prop) → (String → Hp → Prop) → Hp → Prop
  anc : String → List String

noncomputable def Lim : Nat := 16777216
noncomputable def Sm (x : Int) : Prop := -18446744073709551616 < x ∧ x < 18446744073709551616
noncomputable def Ix (x : Int) : Prop := -4611686018427387904 < x ∧ x < 4611686018427387904

noncomputable def vb : V → V → Option Bool
  | .none, .none => some true
  | .none, .bool _ => some false
  | .none, .int _ => some false
  | .none, .str _ => some false
  | .none, .tup _ => some false
  | .bool _, .none => some false
  | .int _, .none => some false
  | .str _, .none => some false
  | .tup _, .none => some false
  | .bool a, .bool b => some (a == b)
  | .int a, .int b => some (decide (a = b))
  | .str a, .str b => some (decide (a = b))
  | _, _ => none
noncomputable def allEq (f : V → V → Option Bool) : List V → List V → Option Bool
  | [], [] => some true
  | x :: xs, y :: ys => match f x y, allEq f xs ys with
    | some a, some b => some (a && b)
    | _, _ => none
  | [], _ :: _ => some false
  | _ :: _, [] => some false
noncomputable def veq : Nat → Hp → V → V → Option Bool
  | 0, _, x, y => vb x y
  | n + 1, H, x, y => match x, y with
    | .tup xs, .tup ys => allEq (veq n H) xs ys
    | .ref a, .ref b => match H a, H b with
      | some (.list xs), some (.list ys) => allEq (veq n H) xs ys
      | _, _ => none
    | .none, .ref a => match H a with
      | some (.list _) => some false
      | _ => none
    | .ref a, .none => match H a with
      | some (.list _) => some false
      | _ => none
    | x, y => vb x y
abbrev eqFuel : Nat := 8

noncomputable def okH (w : List (Addr × Ob)) (H : Hp) : Prop := ∀ p ∈ w, H p.1 = some p.2

noncomputable def newL (xs : List V) (Q : V → Hp → Prop) (H : Hp) : Prop := xs.length ≤ Lim ∧ ∀ a, H a = none → Q (.ref a) (H.set a (.list xs))

noncomputable def wbin (op : Op) (x y : V) (Q : V → Hp → Prop) (H : Hp) : Prop := match op, x, y with
  | .add, .int a, .int b => Q (.int (a + b)) H
  | .sub, .int a, .int b => Q (.int (a - b)) H
  | .mul, .int a, .int b => (Sm a ∨ Sm b) ∧ Q (.int (a * b)) H
  | .fdiv, .int a, .int b => (0 < b ∧ b < 1073741824) ∧ Q (.int (a / b)) H
  | .mod, .int a, .int b => 0 < b ∧ Q (.int (a % b)) H
  | .pow, .int a, .int b => (0 ≤ a ∧ a ≤ 10 ∧ 0 ≤ b ∧ b ≤ 20) ∧ Q (.int (a ^ b.toNat)) H
  | .add, .ref a, .ref b => ∃ xs ys, H a = some (.list xs) ∧ H b = some (.list ys) ∧ newL (xs ++ ys) Q H
  | _, _, _ => False

noncomputable def dget (k : Int) : List (Int × V) → Option V
  | [] => none
  | (j, v) :: r => if j = k then some v else dget k r
noncomputable def dset (k : Int) (v : V) : List (Int × V) → List (Int × V)
  | [] => [(k, v)]
  | (j, x) :: r => if j = k then (j, v) :: r else (j, x) :: dset k v r
noncomputable def inL (H : Hp) (x : V) : List V → Option Bool
  | [] => some false
  | y :: ys => match veq eqFuel H y x, inL H x ys with
    | some a, some b => some (a || b)
    | _, _ => none
noncomputable def cntL (x : V) : List V → Option Nat
  | [] => some 0
  | y :: ys => match x, y, cntL x ys with
    | .int a, .int b, some n => some (if b = a then n + 1 else n)
    | .bool a, .bool b, some n => some (if b = a then n + 1 else n)
    | _, _, _ => none

noncomputable def wcmp (op : Cm) (x y : V) (Q : Bool → Hp → Prop) (H : Hp) : Prop := match op with
  | .eq => ∃ b, veq eqFuel H x y = some b ∧ Q b H
  | .ne => ∃ b, veq eqFuel H x y = some b ∧ Q (!b) H
  | .lt => match x, y with | .int a, .int b => Q (decide (a < b)) H | _, _ => False
  | .le => match x, y with | .int a, .int b => Q (decide (a ≤ b)) H | _, _ => False
  | .gt => match x, y with | .int a, .int b => Q (decide (b < a)) H | _, _ => False
  | .ge => match x, y with | .int a, .int b => Q (decide (b ≤ a)) H | _, _ => False
  | .is => False
  | .isNot => False
  | .isIn => match y with
    | .ref a => (match x, H a with
      | .int k, some (.dict kvs) => Q (dget k kvs).isSome H
      | x, some (.list ys) => ∃ b, inL H x ys = some b ∧ Q b H
      | _, _ => False)
    | _ => False
  | .notIn => False

noncomputable def place (i : Int) (n : Nat) : Option Nat := if 0 ≤ i then (if i.toNat < n then some i.toNat else none) else (if 0 ≤ i + n then some (i + n).toNat else none)

noncomputable def widx (x y : V) (Q : V → Hp → Prop) (H : Hp) : Prop := match x, y with
  | .ro xs, .int i => ∃ j z, Ix i ∧ place i xs.length = some j ∧ xs[j]? = some z ∧ Q (.int z) H
  | .tup xs, .int i => ∃ j z, Ix i ∧ place i xs.length = some j ∧ xs[j]? = some z ∧ Q z H
  | .ref a, .int i => (match H a with
    | some (.list xs) => ∃ j z, Ix i ∧ place i xs.length = some j ∧ xs[j]? = some z ∧ Q z H
    | some (.dict kvs) => ∃ z, dget i kvs = some z ∧ Q z H
    | none => False)
  | _, _ => False

noncomputable def intsOf : List V → Option (List Int)
  | [] => some []
  | .int i :: r => (intsOf r).map (i :: ·)
  | _ :: _ => none
noncomputable def pairV (p : Int × Int) : V := .tup [.int p.1, .int p.2]

noncomputable def wbc (f : BF) (vs : List V) (Q : V → Hp → Prop) (H : Hp) : Prop := match f, vs with
  | .len, [.ro xs] => Q (.int xs.length) H
  | .len, [.ref a] => (match H a with
    | some (.list xs) => Q (.int xs.length) H
    | some (.dict kvs) => Q (.int kvs.length) H
    | none => False)
  | .max2, [.int a, .int b] => Q (.int (if b > a then b else a)) H
  | .sorted, [.ref a] => (match H a with
    | some (.list xs) => xs.length < 64 ∧ ((∃ is, intsOf xs = some is ∧ ∀ js : List Int, js.Perm is → js.Pairwise (· ≤ ·) → newL (js.map V.int) Q H) ∨
        (∃ ps : List (Int × Int), xs = ps.map pairV ∧ (ps.map (·.1)).Nodup ∧ ∀ qs : List (Int × Int), qs.Perm ps → (qs.map (·.1)).Pairwise (· ≤ ·) → newL (qs.map pairV) Q H))
    | some (.dict kvs) => kvs.length < 64 ∧ ∀ js : List Int, js.Perm (kvs.map (·.1)) → js.Pairwise (· ≤ ·) → newL (js.map V.int) Q H
    | none => False)
  | .list, [.ref a] => ∃ xs, H a = some (.list xs) ∧ newL xs Q H
  | _, _ => False

noncomputable def wmt (m : Mt) (o : V) (vs : List V) (Q : V → Hp → Prop) (H : Hp) : Prop := match m, o, vs with
  | .append, .ref a, [x] => ∃ xs, H a = some (.list xs) ∧ xs.length < Lim ∧ Q .none (H.set a (.list (xs ++ [x])))
  | .count, .ref a, [x] => ∃ xs n, H a = some (.list xs) ∧ cntL x xs = some n ∧ Q (.int n) H
  | _, _, _ => False

noncomputable def recv (m : Mt) (x : V) (H : Hp) : Prop := match x with
  | .ref a => (match H a with
    | some (.list _) => m ≠ .get ∧ m ≠ .popD
    | some (.dict _) => m = .get ∨ m = .popD
    | none => False)
  | _ => False

noncomputable def isi1 (anc : String → List String) (H : Hp) (v : V) (c : Cn) : Option Bool := match c with
  | .own c => (match v with | .exc d => some ((anc d).contains c) | _ => none)
  | .valueError => (match v with | .exc _ => some true | _ => none)
  | .int => (match v with | .none => some false | .bool _ => some true | .int _ => some true | .str _ => some false | .tup _ => some false | .ref a => (match H a with | some _ => some false | none => none) | _ => none)
  | .bool => (match v with | .none => some false | .bool _ => some true | .int _ => some false | .str _ => some false | .tup _ => some false | .ref a => (match H a with | some _ => some false | none => none) | _ => none)
  | .list => (match v with | .none => some false | .bool _ => some false | .int _ => some false | .str _ => some false | .tup _ => some false | .ref a => (match H a with | some (.list _) => some true | some (.dict _) => some false | none => none) | _ => none)
  | .tuple => (match v with | .none => some false | .bool _ => some false | .int _ => some false | .str _ => some false | .tup _ => some true | .ref a => (match H a with | some _ => some false | none => none) | _ => none)
noncomputable def isiAny (anc : String → List String) (H : Hp) (v : V) : List Cn → Option Bool
  | [] => some false
  | c :: r => match isi1 anc H v c, isiAny anc H v r with
    | some a, some b => some (a || b)
    | _, _ => none

noncomputable def bindT : Tg → It → Loc → Option Loc
  | .one i, .v x, ρ => some (ρ.set i (some x))
  | .two i j, .v (.tup [x, y]), ρ => some ((ρ.set i (some x)).set j (some y))
  | .two i j, .p x y, ρ => some ((ρ.set i (some x)).set j (some y))
  | _, _, _ => none

noncomputable def forGo (t : Tg) (w : List (Addr × Ob)) (body : Loc → (Loc → Hp → Prop) → Hp → Prop) : List It → Loc → (Loc → Hp → Prop) → Hp → Prop
  | [], ρ, N, H => okH w H ∧ N ρ H
  | it :: its, ρ, N, H => okH w H ∧ ∃ ρ', bindT t it ρ = some ρ' ∧ body ρ' (fun ρ'' H'' => forGo t w body its ρ'' N H'') H

noncomputable def compGo (t : Tg) (w : List (Addr × Ob)) (ρ : Loc) (elt : Loc → (V → Hp → Prop) → Hp → Prop) (test : Loc → (Bool → Hp → Prop) → Hp → Prop) : List It → List V → (List V → Hp → Prop) → Hp → Prop
  | [], acc, Q, H => okH w H ∧ Q acc H
  | it :: its, acc, Q, H => okH w H ∧ acc.length < Lim ∧ ∃ ρ', bindT t it ρ = some ρ' ∧ test ρ' (fun b H₁ => if b then elt ρ' (fun v H₂ => compGo t w ρ elt test its (acc ++ [v]) Q H₂) H₁ else compGo t w ρ elt test its acc Q H₁) H

noncomputable def rangeL (lo st : Int) (n : Nat) : List It := (List.range n).map fun (k : Nat) => It.v (.int (lo + (k : Int) * st))
noncomputable def asB (Q : Bool → Hp → Prop) (v : V) (H : Hp) : Prop := match v with
  | .bool b => Q b H
  | _ => False

noncomputable def turns (lo hi st : Int) : Nat := if 0 < st then ((hi - lo + st - 1) / st).toNat else ((lo - hi - st - 1) / (-st)).toNat

mutual
noncomputable def wpE (G : Gl) (hd : Bool) : Ex → Loc → (V → Hp → Prop) → (String → Hp → Prop) → Hp → Prop
  | .none, _, Q, _, H => Q .none H
  | .bool b, _, Q, _, H => Q (.bool b) H
  | .int i, _, Q, _, H => Q (.int i) H
  | .str s, _, Q, _, H => Q (.str (Str.ofString s)) H
  | .var i, ρ, Q, _, H => match ρ[i]? with
    | some (some v) => Q v H
    | _ => False
  | .glob _ n, _, Q, _, H => Q (.int n) H
  | .bin op a b, ρ, Q, X, H => wpE G hd a ρ (fun x H₁ => wpE G hd b ρ (fun y H₂ => wbin op x y Q H₂) X H₁) X H
  | .neg a, ρ, Q, X, H => wpE G hd a ρ (fun x H₁ => match x with | .int i => Q (.int (-i)) H₁ | _ => False) X H
  | .nt a, ρ, Q, X, H => wpE G hd a ρ (asB fun b H₁ => Q (.bool (!b)) H₁) X H
  | .cmp op a b, ρ, Q, X, H => wpE G hd a ρ (fun x H₁ => wpE G hd b ρ (fun y H₂ => wcmp op x y (fun c H₃ => Q (.bool c) H₃) H₂) X H₁) X H
  | .cmp2 o1 o2 a b c, ρ, Q, X, H => wpE G hd a ρ (fun x H₁ => wpE G hd b ρ (fun y H₂ => wcmp o1 x y (fun r H₃ => if r then wpE G hd c ρ (fun z H₄ => wcmp o2 y z (fun r' H₅ => Q (.bool r') H₅) H₄) X H₃ else Q (.bool false) H₃) H₂) X H₁) X H
  | .bop conj es, ρ, Q, X, H => wpB G hd conj es ρ Q X H
  | .ife c a b, ρ, Q, X, H => wpE G hd c ρ (asB fun r H₁ => if r then wpE G hd a ρ Q X H₁ else wpE G hd b ρ Q X H₁) X H
  | .list es, ρ, Q, X, H => wpEs G hd es ρ (fun vs H₁ => newL vs Q H₁) X H
  | .tup es, ρ, Q, X, H => wpEs G hd es ρ (fun vs H₁ => vs.length ≤ Lim ∧ Q (.tup vs) H₁) X H
  | .dict0, _, Q, _, H => ∀ a, H a = none → Q (.ref a) (H.set a (.dict []))
  | .idx e i, ρ, Q, X, H => wpE G hd e ρ (fun x H₁ => wpE G hd i ρ (fun y H₂ => widx x y Q H₂) X H₁) X H
  | .call f es, ρ, Q, X, H => hd = false ∧ wpEs G hd es ρ (fun vs H₁ => G.call f vs Q X H₁) X H
  | .bc f es, ρ, Q, X, H => hd = false ∧ wpEs G hd es ρ (fun vs H₁ => wbc f vs Q H₁) X H
  | .mt m o es, ρ, Q, X, H => wpE G hd o ρ (fun x H₁ => recv m x H₁ ∧ wpEs G hd es ρ (fun vs H₂ => wmt m x vs Q H₂) X H₁) X H
  | .isi e cs, ρ, Q, X, H => wpE G hd e ρ (fun x H₁ => ∃ b, isiAny G.anc H₁ x cs = some b ∧ Q (.bool b) H₁) X H
  | .comp elt t src, ρ, Q, X, H => hd = false ∧ wpSr G hd src ρ (fun its w H₁ => compGo t w ρ (fun ρ' K H₂ => wpE G hd elt ρ' K (fun _ _ => False) H₂) (fun _ K H₂ => K true H₂) its [] (fun vs H₂ => newL vs Q H₂) H₁) X H
  | .compIf elt t src c, ρ, Q, X, H => hd = false ∧ wpSr G hd src ρ (fun its w H₁ => compGo t w ρ (fun ρ' K H₂ => wpE G hd elt ρ' K (fun _ _ => False) H₂) (fun ρ' K H₂ => wpE G hd c ρ' (asB K) (fun _ _ => False) H₂) its [] (fun vs H₂ => newL vs Q H₂) H₁) X H
noncomputable def wpEs (G : Gl) (hd : Bool) : Exs → Loc → (List V → Hp → Prop) → (String → Hp → Prop) → Hp → Prop
  | .nil, _, Q, _, H => Q [] H
  | .cons e r, ρ, Q, X, H => wpE G hd e ρ (fun v H₁ => wpEs G hd r ρ (fun vs H₂ => Q (v :: vs) H₂) X H₁) X H
noncomputable def wpB (G : Gl) (hd : Bool) (conj : Bool) : Exs → Loc → (V → Hp → Prop) → (String → Hp → Prop) → Hp → Prop
  | .nil, _, _, _, _ => False
  | .cons e r, ρ, Q, X, H => match r with
    | .nil => wpE G hd e ρ Q X H
    | r => wpE G hd e ρ (asB fun b H₁ => if b = conj then wpB G hd conj r ρ Q X H₁ else Q (.bool b) H₁) X H
noncomputable def wpSr (G : Gl) (hd : Bool) : Sr → Loc → (List It → List (Addr × Ob) → Hp → Prop) → (String → Hp → Prop) → Hp → Prop
  | .ex e, ρ, K, X, H => wpE G hd e ρ (fun v H₁ => match v with
    | .ref a => (match H₁ a with
      | some (.list xs) => K (xs.map It.v) [(a, .list xs)] H₁
      | _ => False)
    | _ => False) X H
  | .range1 b, ρ, K, X, H => wpE G hd b ρ (fun v H₁ => match v with | .int n => Ix n ∧ K (rangeL 0 1 n.toNat) [] H₁ | _ => False) X H
end

mutual
noncomputable def wpS (G : Gl) (hd : Bool) : St → Loc → (Loc → Hp → Prop) → (V → Hp → Prop) → (String → Loc → Hp → Prop) → Hp → Prop
  | .asg i e, ρ, N, _, X, H => wpE G hd e ρ (fun v H₁ => N (ρ.set i (some v)) H₁) (fun c H₁ => X c ρ H₁) H
  | .setIt o i v, ρ, N, _, X, H => wpE G hd v ρ (fun z H₁ => wpE G hd o ρ (fun x H₂ => wpE G hd i ρ (fun y H₃ => match x, y with
      | .ref a, .int k => (match H₃ a with
        | some (.list xs) => (0 ≤ k ∧ k < xs.length) ∧ N ρ (H₃.set a (.list (xs.set k.toNat z)))
        | some (.dict kvs) => kvs.length < Lim ∧ N ρ (H₃.set a (.dict (dset k z kvs)))
        | none => False)
      | _, _ => False) (fun c H' => X c ρ H') H₂) (fun c H' => X c ρ H') H₁) (fun c H' => X c ρ H') H
  | .ex e, ρ, N, _, X, H => wpE G hd e ρ (fun _ H₁ => N ρ H₁) (fun c H₁ => X c ρ H₁) H
  | .ret e, ρ, _, R, X, H => wpE G hd e ρ (fun v H₁ => R v H₁) (fun c H₁ => X c ρ H₁) H
  | .ife c a b, ρ, N, R, X, H => wpE G hd c ρ (asB fun r H₁ => if r then wpSs G hd a ρ N R X H₁ else wpSs G hd b ρ N R X H₁) (fun c H₁ => X c ρ H₁) H
  | .whl c b, ρ, N, R, X, H => ∀ P : Loc → Hp → Prop, (∀ ρ' H', wpE G hd c ρ' (asB fun r H₁ => if r then wpSs G hd b ρ' P R X H₁ else N ρ' H₁) (fun c H₁ => X c ρ' H₁) H' → P ρ' H') → P ρ H
  | .for t s b, ρ, N, R, X, H => hd = false ∧ wpSr G hd s ρ (fun its w H₁ => forGo t w (fun ρ' K H₂ => wpSs G hd b ρ' K R X H₂) its ρ N H₁) (fun c H₁ => X c ρ H₁) H
  | .raise c _, ρ, _, _, X, H => hd = false ∧ X c ρ H
  | .tr b hs, ρ, N, R, X, H => hd = false ∧ wpSs G hd b ρ N R (fun c ρ₁ H₁ => wpHs G c hs ρ₁ N R (X c ρ₁ H₁) H₁) H
  | .pass, ρ, N, _, _, H => N ρ H
noncomputable def wpSs (G : Gl) (hd : Bool) : Sts → Loc → (Loc → Hp → Prop) → (V → Hp → Prop) → (String → Loc → Hp → Prop) → Hp → Prop
  | .nil, ρ, N, _, _, H => N ρ H
  | .cons s r, ρ, N, R, X, H => wpS G hd s ρ (fun ρ₁ H₁ => wpSs G hd r ρ₁ N R X H₁) R X H
noncomputable def wpHs (G : Gl) (c : String) : Hs → Loc → (Loc → Hp → Prop) → (V → Hp → Prop) → Prop → Hp → Prop
  | .nil, _, _, _, no, _ => no
  | .cons d x b r, ρ, N, R, no, H => if (G.anc c).contains d then (match x with
      | none => wpSs G true b ρ N R (fun _ _ _ => False) H
      | some i => wpSs G true b (ρ.set i (some (.exc c))) (fun ρ₁ H₁ => N (ρ₁.set i none) H₁) R (fun _ _ _ => False) H)
    else wpHs G c r ρ N R no H
end

structure Fn where
  params : Nat
  nf : Nat
  slots : List String
  body : Sts

noncomputable def callN (defs : String → Option Fn) (anc : String → List String) : Nat → String → List V → (V → Hp → Prop) → (String → Hp → Prop) → Hp → Prop
  | 0, _, _, _, _, _ => False
  | n + 1, f, vs, Q, X, H => match defs f with
    | none => False
    | some d => vs.length = d.params ∧ wpSs ⟨callN defs anc n, anc⟩ false d.body ((vs.map some) ++ List.replicate (d.slots.length - d.params) none) (fun _ H₁ => Q .none H₁) Q (fun c _ H₁ => X c H₁) H

end Mine.Internal
end

section
namespace Mine.Internal
open PySem PySem.Calls PyProof.Rows

structure Wd where
  prog : Program
  w : World
  base : Heap
  s₀ : Shared
  cls : String → Option Addr

structure Cx where
  A : Around
  env : Env
  fenvs : List Env
  names : List String
  vis : Nat → Bool
  own : List Addr
  outer : List (Addr × (Str → Option Value))
noncomputable def Cx.frs (c : Cx) : List Addr := c.fenvs.filterMap (·.frame)
noncomputable def Cx.all (c : Cx) : List Addr := c.own ++ c.frs ++ c.outer.map (·.1)

inductive Ints : List Int → List Value → Prop
  | nil : Ints [] []
  | cons {i t is vs} : Ints is vs → Ints (i :: is) (.int i t :: vs)

mutual
inductive Rep (W : Wd) (h : Heap) : V → Value → Prop
  | none : Rep W h .none .none
  | bool (b : Bool) : Rep W h (.bool b) (.bool b)
  | int (i : Int) (t : Tok) : Rep W h (.int i) (.int i t)
  | str (s : Str) (t : Tok) : Rep W h (.str s) (.str s t)
  | tup {a : Addr} {o : Obj} {items : Array Value} {n : Nat} {vs : List V} : h.get? a = some o → o.cls = .type "tuple" → o.data = .seq items n → vs.length ≤ Lim → Reps W h vs items.toList → Rep W h (.tup vs) (.ref a)
  | ref (a : Addr) : Rep W h (.ref a) (.ref a)
  | ro {a : Addr} {items : Array Value} {xs : List Int} : W.base.IsList a items → xs.length ≤ 1000 → Ints xs items.toList → Rep W h (.ro xs) (.ref a)
  | exc {a C : Addr} {o : Obj} {ws : Array Value} {c : String} : h.get? a = some o → o.cls = .ref C → o.data = .fields ws → W.cls c = some C → Rep W h (.exc c) (.ref a)
inductive Reps (W : Wd) (h : Heap) : List V → List Value → Prop
  | nil : Reps W h [] []
  | cons {v x vs xs} : Rep W h v x → Reps W h vs xs → Reps W h (v :: vs) (x :: xs)
end

structure KeepR (h h' : Heap) : Prop where
  tup : ∀ b o items n, h.get? b = some o → o.cls = .type "tuple" → o.data = .seq items n → h'.get? b = some o
  exc : ∀ b o C ws, h.get? b = some o → o.cls = .ref C → o.data = .fields ws → ∃ o' ws', h'.get? b = some o' ∧ o'.cls = .ref C ∧ o'.data = .fields ws'

theorem KeepR.refl (h : Heap) : KeepR h h := ⟨fun _ _ _ _ e _ _ => e, fun _ o _ ws e c d => ⟨o, ws, e, c, d⟩⟩
theorem KeepR.of_keeps {h h' : Heap} (k : ∀ b o, h.get? b = some o → h'.get? b = some o) : KeepR h h' := ⟨fun b o _ _ e _ _ => k b o e, fun b o _ ws e c d => ⟨o, ws, k b o e, c, d⟩⟩
theorem KeepR.trans {h₁ h₂ h₃ : Heap} (x : KeepR h₁ h₂) (y : KeepR h₂ h₃) : KeepR h₁ h₃ :=
  ⟨fun b o i n e c d => y.tup b o i n (x.tup b o i n e c d) c d, fun b o C ws e c d => let ⟨o', ws', e', c', d'⟩ := x.exc b o C ws e c d; y.exc b o' C ws' e' c' d'⟩

mutual
theorem Rep.mono {W : Wd} {h h' : Heap} (k : KeepR h h') : ∀ {v : V} {x : Value}, Rep W h v x → Rep W h' v x
  | _, _, .none => .none
  | _, _, .bool b => .bool b
  | _, _, .int i t => .int i t
  | _, _, .str s t => .str s t
  | _, _, .tup e c d l r => .tup (k.tup _ _ _ _ e c d) c d l (Reps.mono k r)
  | _, _, .ref a => .ref a
  | _, _, .ro b l i => .ro b l i
  | _, _, .exc e c d q => let ⟨_, _, e', c', d'⟩ := k.exc _ _ _ _ e c d; .exc e' c' d' q
theorem Reps.mono {W : Wd} {h h' : Heap} (k : KeepR h h') : ∀ {v : List V} {x : List Value}, Reps W h v x → Reps W h' v x
  | _, _, .nil => .nil
  | _, _, .cons a b => .cons (Rep.mono k a) (Reps.mono k b)
end

theorem Reps.length {W : Wd} {h : Heap} : ∀ {vs : List V} {xs : List Value}, Reps W h vs xs → vs.length = xs.length
  | _, _, .nil => rfl
  | _, _, .cons _ r => by simp [Reps.length r]
theorem Reps.append {W : Wd} {h : Heap} : ∀ {vs vs' : List V} {xs xs' : List Value}, Reps W h vs xs → Reps W h vs' xs' → Reps W h (vs ++ vs') (xs ++ xs')
  | _, _, _, _, .nil, r => r
  | _, _, _, _, .cons a b, r => .cons a (Reps.append b r)
theorem Reps.get {W : Wd} {h : Heap} : ∀ {vs : List V} {xs : List Value} {i : Nat} {v : V}, Reps W h vs xs → vs[i]? = some v → ∃ x, xs[i]? = some x ∧ Rep W h v x
  | _, _, _, _, .nil, e => by simp at e
  | _, _, 0, _, .cons a b, e => by simp at e; subst e; exact ⟨_, rfl, a⟩
  | _, _, i + 1, _, .cons a b, e => by simp at e; obtain ⟨x, q, r⟩ := Reps.get b e; exact ⟨x, by simpa using q, r⟩

inductive RepKV (W : Wd) (h : Heap) : List (Int × V) → List (Int × Value) → Prop
  | nil : RepKV W h [] []
  | cons {k v x kvs ys} : Rep W h v x → RepKV W h kvs ys → RepKV W h ((k, v) :: kvs) ((k, x) :: ys)
theorem RepKV.mono {W : Wd} {h h' : Heap} (k : KeepR h h') : ∀ {v : List (Int × V)} {x : List (Int × Value)}, RepKV W h v x → RepKV W h' v x
  | _, _, .nil => .nil
  | _, _, .cons a b => .cons (a.mono k) (b.mono k)

noncomputable def RepO (W : Wd) (h : Heap) (a : Addr) : Ob → Prop
  | .list vs => vs.length ≤ Lim ∧ ∃ items n, h.get? a = some { cls := .type "list", data := .seq items n } ∧ Reps W h vs items.toList
  | .dict kvs => (kvs.length ≤ Lim ∧ (a == sysModules) = false) ∧ ∃ ys, h.DictOf (intKind W.prog W.w) a ys ∧ RepKV W h kvs ys

theorem RepO.obj {W : Wd} {h : Heap} {a : Addr} {o : Ob} (r : RepO W h a o) : ∃ ob, h.get? a = some ob ∧ (ob.cls = .type "list" ∨ ob.cls = .type "dict") ∧ (∀ v, ob.data ≠ .cell v) := by
  cases o with
  | list vs => obtain ⟨_, items, n, e, _⟩ := r; exact ⟨_, e, .inl rfl, fun v q => by cases q⟩
  | dict kvs => obtain ⟨_, ys, ⟨o, es, ep, e, x, d, _⟩, _⟩ := r; exact ⟨o, e, .inr x.1, fun v q => by rw [d] at q; cases q⟩

theorem RepO.at {W : Wd} {h h' : Heap} {a : Addr} {o : Ob} (r : RepO W h a o) (k : KeepR h h') (e : ∀ ob, h.get? a = some ob → h'.get? a = some ob) : RepO W h' a o := by
  cases o with
  | list vs => obtain ⟨l, items, n, q, r⟩ := r; exact ⟨l, items, n, e _ q, r.mono k⟩
  | dict kvs => obtain ⟨l, ys, ⟨o, es, ep, q, x⟩, r⟩ := r; exact ⟨l, ys, ⟨o, es, ep, e _ q, x⟩, r.mono k⟩

noncomputable def HasVar (W : Wd) (env : Env) (h : Heap) (m : Str → Option Value) (x : Str) (v : V) : Prop :=
  (env.kindOf x = some .local ∧ ∃ u, m x = some u ∧ Rep W h v u) ∨
  (env.kindOf x = some .cell ∧ ∃ cl o u, env.cells.lookup x = some cl ∧ h.get? cl = some o ∧ o.data = .cell (some u) ∧ Rep W h v u)

noncomputable def LocOk (W : Wd) (c : Cx) (ρ : Loc) (h : Heap) : Prop :=
  ∃ m, h.Ns c.env.locals m ∧ ∀ i x v, c.vis i = true → c.names[i]? = some x → ρ[i]? = some (some v) → HasVar W c.env h m (Str.ofString x) v

structure Sim (W : Wd) (c : Cx) (P : Addr → Obj → Prop) (ρ : Loc) (H : Hp) (s : Shared) : Prop where
  rest : ∃ h tk, s = { W.s₀ with heap := h, toks := tk }
  base : W.base.StaysIn s.heap
  frames : s.heap.FunFrames W.base c.fenvs
  outer : ∀ p ∈ c.outer, s.heap.Ns p.1 p.2
  loc : LocOk W c ρ s.heap
  locOwn : c.env.locals ∈ c.own
  ownNew : ∀ b ∈ c.own, W.base.get? b = none
  ownOut : ∀ b ∈ c.own, ∀ p ∈ c.outer, p.1 ≠ b
  heap : ∀ a o, H a = some o → RepO W s.heap a o
  new : ∀ a o, H a = some o → W.base.get? a = none
  apart : ∀ a o, H a = some o → a ∉ c.all
  prot : ∀ b o, P b o → s.heap.get? b = some o
  protH : ∀ b o, P b o → H b = none
  protF : ∀ b o, P b o → b ∉ c.own ∧ b ∉ c.frs
  cells : ∀ x a, c.env.cells.lookup x = some a → ∃ u, s.heap.IsCell a u
  ownD : ∀ b, b ∈ c.own ∨ b ∈ c.frs → ∃ o, s.heap.get? b = some o ∧ ((∃ es n, o.data = .dict es n) ∨ (∃ v, o.data = .cell v))

theorem Sim.weaken {W : Wd} {c : Cx} {P P' : Addr → Obj → Prop} {ρ : Loc} {H : Hp} {s : Shared} (S : Sim W c P' ρ H s) (k : ∀ b o, P b o → P' b o) : Sim W c P ρ H s :=
  { S with prot := fun b o p => S.prot b o (k b o p), protH := fun b o p => S.protH b o (k b o p), protF := fun b o p => S.protF b o (k b o p) }

noncomputable def PMax (c : Cx) (H : Hp) (h : Heap) : Addr → Obj → Prop := fun b o => h.get? b = some o ∧ H b = none ∧ b ∉ c.own ∧ b ∉ c.frs

theorem Sim.max {W : Wd} {c : Cx} {P : Addr → Obj → Prop} {ρ : Loc} {H : Hp} {s : Shared} (S : Sim W c P ρ H s) : Sim W c (PMax c H s.heap) ρ H s :=
  { S with prot := fun _ _ p => p.1, protH := fun _ _ p => p.2.1, protF := fun _ _ p => p.2.2 }
theorem Sim.le_max {W : Wd} {c : Cx} {P : Addr → Obj → Prop} {ρ : Loc} {H : Hp} {s : Shared} (S : Sim W c P ρ H s) (b : Addr) (o : Obj) (p : P b o) : PMax c H s.heap b o :=
  ⟨S.prot b o p, S.protH b o p, S.protF b o p⟩

theorem Sim.keepR {W : Wd} {c : Cx} {P : Addr → Obj → Prop} {ρ ρ' : Loc} {H H' : Hp} {s s' : Shared} (S : Sim W c P ρ H s) (S' : Sim W c (PMax c H s.heap) ρ' H' s') : KeepR s.heap s'.heap := by
  have nH : ∀ b o, s.heap.get? b = some o → o.cls ≠ .type "list" → o.cls ≠ .type "dict" → H b = none := fun b o e h1 h2 => by
    cases q : H b with
    | none => rfl
    | some x =>
      obtain ⟨ob, e', k, _⟩ := (S.heap b x q).obj
      rw [e] at e'; cases e'
      rcases k with k | k
      · exact absurd k h1
      · exact absurd k h2
  refine ⟨fun b o items n e k d => S'.prot b o ⟨e, nH b o e (by rw [k]; decide) (by rw [k]; decide), fun m => ?_, fun m => ?_⟩, fun b o C ws e k d => ⟨o, ws, S'.prot b o ⟨e, nH b o e (by rw [k]; exact nofun) (by rw [k]; exact nofun), fun m => ?_, fun m => ?_⟩, k, d⟩⟩
  all_goals (obtain ⟨o', e', q⟩ := S.ownD b (by first | exact .inl m | exact .inr m); rw [e] at e'; cases e'; rcases q with ⟨_, _, q⟩ | ⟨_, q⟩ <;> rw [d] at q <;> cases q)

theorem funFrames_at {base h h' : Heap} : ∀ {l : List Env}, h.FunFrames base l → (∀ b ∈ l.filterMap (·.frame), ∀ o, h.get? b = some o → (∀ vs, o.data ≠ .fields vs) → ∃ o', h'.get? b = some o' ∧ ∀ vs, o'.data ≠ .fields vs) → h'.FunFrames base l
  | [], _, _ => trivial
  | env :: r, ⟨hk, ⟨L, o, hf, hn, ho, hd⟩, hr⟩, k => by
    have hm : ∀ b, b ∈ r.filterMap (·.frame) → b ∈ (env :: r).filterMap (·.frame) := fun b hb => by rw [List.filterMap_cons, hf]; exact .tail _ hb
    obtain ⟨o', e, q⟩ := k L (by rw [List.filterMap_cons, hf]; exact .head _) o ho hd
    exact ⟨hk, ⟨L, o', hf, hn, e, q⟩, funFrames_at hr fun b hb => k b (hm b hb)⟩

theorem HasVar.mono {W : Wd} {env : Env} {h h' : Heap} {m : Str → Option Value} {x : Str} {v : V} (hv : HasVar W env h m x v) (kr : KeepR h h')
    (kc : ∀ cl o u, env.cells.lookup x = some cl → h.get? cl = some o → o.data = .cell (some u) → ∃ o', h'.get? cl = some o' ∧ o'.data = o.data) : HasVar W env h' m x v := by
  rcases hv with ⟨k, u, e, r⟩ | ⟨k, cl, o, u, e, ho, hd, r⟩
  · exact .inl ⟨k, u, e, r.mono kr⟩
  · obtain ⟨o', ho', hd'⟩ := kc cl o u e ho hd
    exact .inr ⟨k, cl, o', u, e, ho', hd'.trans hd, r.mono kr⟩

theorem Cx.mem_all_own {c : Cx} {b : Addr} (h : b ∈ c.own) : b ∈ c.all := by simp only [Cx.all, List.mem_append]; exact .inl (.inl h)
theorem Cx.mem_all_frs {c : Cx} {b : Addr} (h : b ∈ c.frs) : b ∈ c.all := by simp only [Cx.all, List.mem_append]; exact .inl (.inr h)
theorem Cx.mem_all_outer {c : Cx} {p : Addr × (Str → Option Value)} (h : p ∈ c.outer) : p.1 ∈ c.all := by simp only [Cx.all, List.mem_append]; exact .inr (List.mem_map_of_mem h)

theorem Sim.change {W : Wd} {c : Cx} {P : Addr → Obj → Prop} {ρ : Loc} {H H' : Hp} {s : Shared} {h' : Heap} {tk : Nat} (S : Sim W c P ρ H s) (d : Addr)
    (hd : ∀ o, s.heap.get? d = some o → o.cls ≠ .type "tuple" ∧ (∀ C, o.cls ≠ .ref C) ∧ (∀ v, o.data ≠ .cell v))
    (hnew : W.base.get? d = none) (hall : d ∉ c.all) (hP : ∀ o, ¬ P d o)
    (hk : ∀ b o, b ≠ d → s.heap.get? b = some o → h'.get? b = some o)
    (hH : ∀ b, b ≠ d → H' b = H b) (hO : ∀ o, H' d = some o → RepO W h' d o) : Sim W c P ρ H' { s with heap := h', toks := tk } := by
  have kr : KeepR s.heap h' := ⟨fun b o _ _ e k _ => hk b o (by rintro rfl; exact (hd o e).1 k) e, fun b o C ws e k q => ⟨o, ws, hk b o (by rintro rfl; exact (hd o e).2.1 C k) e, k, q⟩⟩
  have hne : ∀ b, b ∈ c.all → b ≠ d := fun b hb q => hall (q ▸ hb)
  have hloc : d ≠ c.env.locals := fun q => hall (q ▸ Cx.mem_all_own S.locOwn)
  refine ⟨?_, fun b o e => hk b o (by rintro rfl; rw [hnew] at e; cases e) (S.base b o e), funFrames_at S.frames fun b hb o e d => ⟨o, hk b o (hne b (Cx.mem_all_frs hb)) e, d⟩, fun p hp => ?_, ?_, S.locOwn, S.ownNew, S.ownOut,
    fun a o e => ?_, fun a o e => ?_, fun a o e => ?_, fun b o p => hk b o (by rintro rfl; exact hP o p) (S.prot b o p), fun b o p => ?_, S.protF, fun x a e => ?_, fun b hb => ?_⟩
  · obtain ⟨h, tk', rfl⟩ := S.rest; exact ⟨h', tk, rfl⟩
  · obtain ⟨o, es, ep, e, r⟩ := S.outer p hp
    exact ⟨o, es, ep, hk _ _ (hne _ (Cx.mem_all_outer hp)) e, r⟩
  · obtain ⟨m, ⟨o, es, ep, e, r⟩, hv⟩ := S.loc
    refine ⟨m, ⟨o, es, ep, hk _ _ (Ne.symm hloc) e, r⟩, fun i x v h1 h2 h3 => (hv i x v h1 h2 h3).mono kr fun cl o u _ ho hq => ⟨o, hk _ _ (by rintro rfl; exact (hd o ho).2.2 _ hq) ho, rfl⟩⟩
  · by_cases q : a = d
    · subst q; exact hO o e
    · rw [hH a q] at e; exact (S.heap a o e).at kr fun ob h => hk a ob q h
  · by_cases q : a = d
    · subst q; exact hnew
    · rw [hH a q] at e; exact S.new a o e
  · by_cases q : a = d
    · subst q; exact hall
    · rw [hH a q] at e; exact S.apart a o e
  · have q : b ≠ d := by rintro rfl; exact hP o p
    rw [hH b q]; exact S.protH b o p
  · obtain ⟨u, o, e1, e2⟩ := S.cells x a e
    exact ⟨u, o, hk a o (by rintro rfl; exact (hd o e1).2.2 _ e2) e1, e2⟩
  · obtain ⟨o, e, q⟩ := S.ownD b hb
    exact ⟨o, hk b o (hne b (hb.elim Cx.mem_all_own Cx.mem_all_frs)) e, q⟩

theorem Sim.grow {W : Wd} {c : Cx} {P : Addr → Obj → Prop} {ρ : Loc} {H : Hp} {s : Shared} {h' : Heap} {tk : Nat} (S : Sim W c P ρ H s) (hk : ∀ b o, s.heap.get? b = some o → h'.get? b = some o) : Sim W c P ρ H { s with heap := h', toks := tk } := by
  have kr : KeepR s.heap h' := .of_keeps hk
  refine ⟨?_, fun b o e => hk b o (S.base b o e), funFrames_at S.frames fun b hb o e d => ⟨o, hk b o e, d⟩, fun p hp => ?_, ?_, S.locOwn, S.ownNew, S.ownOut,
    fun a o e => (S.heap a o e).at kr fun ob h => hk a ob h, S.new, S.apart, fun b o p => hk b o (S.prot b o p), S.protH, S.protF, fun x a e => ?_, fun b hb => ?_⟩
  · obtain ⟨h, tk', rfl⟩ := S.rest; exact ⟨h', tk, rfl⟩
  · obtain ⟨o, es, ep, e, r⟩ := S.outer p hp; exact ⟨o, es, ep, hk _ _ e, r⟩
  · obtain ⟨m, ⟨o, es, ep, e, r⟩, hv⟩ := S.loc
    exact ⟨m, ⟨o, es, ep, hk _ _ e, r⟩, fun i x v h1 h2 h3 => (hv i x v h1 h2 h3).mono kr fun cl o u _ ho hq => ⟨o, hk _ _ ho, rfl⟩⟩
  · obtain ⟨u, o, e1, e2⟩ := S.cells x a e; exact ⟨u, o, hk a o e1, e2⟩
  · obtain ⟨o, e, q⟩ := S.ownD b hb; exact ⟨o, hk b o e, q⟩
theorem Sim.toks {W : Wd} {c : Cx} {P : Addr → Obj → Prop} {ρ : Loc} {H : Hp} {s : Shared} (S : Sim W c P ρ H s) (tk : Nat) : Sim W c P ρ H { s with toks := tk } := S.grow fun _ _ e => e

theorem size_none (h : Heap) : h.get? h.objs.size = none := by
  cases q : h.get? h.objs.size with
  | none => rfl
  | some o => exact absurd (Heap.lt_size q) (Nat.lt_irrefl _)
theorem Sim.hsize {W : Wd} {c : Cx} {P : Addr → Obj → Prop} {ρ : Loc} {H : Hp} {s : Shared} (S : Sim W c P ρ H s) {a : Addr} (h : s.heap.get? a = none) : H a = none := by
  cases q : H a with
  | none => rfl
  | some o => obtain ⟨ob, e, _⟩ := (S.heap a o q).obj; rw [h] at e; cases e
theorem Sim.all_there {W : Wd} {c : Cx} {P : Addr → Obj → Prop} {ρ : Loc} {H : Hp} {s : Shared} (S : Sim W c P ρ H s) {a : Addr} (h : s.heap.get? a = none) : a ∉ c.all := fun m => by
  simp only [Cx.all, List.mem_append] at m
  rcases m with m | m
  · obtain ⟨o, e, _⟩ := S.ownD a m; rw [h] at e; cases e
  · obtain ⟨p, hp, rfl⟩ := List.mem_map.mp m
    obtain ⟨o, es, ep, e, _⟩ := S.outer p hp; rw [h] at e; cases e

theorem Sim.alloc {W : Wd} {c : Cx} {P : Addr → Obj → Prop} {ρ : Loc} {H : Hp} {s : Shared} {h' : Heap} {tk : Nat} {a : Addr} {o : Ob} (S : Sim W c P ρ H s) (ha : s.heap.get? a = none)
    (hk : ∀ b o, s.heap.get? b = some o → h'.get? b = some o) (hO : RepO W h' a o) : Sim W c P ρ (H.set a o) { s with heap := h', toks := tk } := by
  refine S.change a (fun o e => by rw [ha] at e; cases e) ?_ (S.all_there ha) (fun o p => by rw [S.prot a o p] at ha; cases ha) (fun b o _ e => hk b o e) (fun b hb => by simp [Hp.set, hb]) fun o' e => ?_
  · cases q : W.base.get? a with
    | none => rfl
    | some x => rw [S.base a x q] at ha; cases ha
  · simp only [Hp.set, if_true, Option.some.injEq] at e; subst e; exact hO

theorem Sim.write {W : Wd} {c : Cx} {P : Addr → Obj → Prop} {ρ : Loc} {H : Hp} {s : Shared} {h' : Heap} {tk : Nat} {a : Addr} {o₀ o : Ob} (S : Sim W c P ρ H s) (ha : H a = some o₀)
    (hk : ∀ b o, b ≠ a → s.heap.get? b = some o → h'.get? b = some o) (hO : RepO W h' a o) : Sim W c P ρ (H.set a o) { s with heap := h', toks := tk } := by
  obtain ⟨ob, e, k, nc⟩ := (S.heap a o₀ ha).obj
  refine S.change a (fun o' e' => ?_) (S.new a _ ha) (S.apart a _ ha) (fun o' p => by rw [S.protH a o' p] at ha; cases ha) hk (fun b hb => by simp [Hp.set, hb]) fun o' e' => ?_
  · rw [e] at e'; cases e'
    exact ⟨by rcases k with k | k <;> rw [k] <;> decide, by rcases k with k | k <;> rw [k] <;> exact nofun, nc⟩
  · simp only [Hp.set, if_true, Option.some.injEq] at e'; subst e'; exact hO

end Mine.Internal
end

section
namespace Mine.Internal
open PySem PySem.Calls PyProof.Rows PySem.SeqAt

theorem veq_self : ∀ (n : Nat) (H : Hp) (x : V) (b : Bool), veq n H x x = some b → b = true := by
  have hb : ∀ (x : V) (b : Bool), vb x x = some b → b = true := by
    intro x b h; cases x <;> simp_all [vb]
  intro n
  induction n with
  | zero => intro H x b h; exact hb x b (by simpa only [veq] using h)
  | succ n ih =>
    intro H x b h
    have hl : ∀ (xs : List V) (b : Bool), allEq (veq n H) xs xs = some b → b = true := by
      intro xs
      induction xs with
      | nil => intro b h; simpa [allEq] using h.symm
      | cons y ys ihy =>
        intro b h
        simp only [allEq] at h
        split at h
        · rename_i p q h1 h2; cases h; rw [ih H y p h1, ihy q h2]; rfl
        · cases h
    cases x with
    | tup xs => simp only [veq] at h; exact hl xs b h
    | ref a =>
      simp only [veq] at h
      split at h
      · rename_i xs ys h1 h2; rw [h1] at h2; cases h2; exact hl xs b h
      · cases h
    | _ => simp only [veq] at h; exact hb _ b h

theorem vb_ref {a : Addr} {y : V} : vb (.ref a) y = none := by cases y <;> rfl
theorem vb_ro {a : List Int} {y : V} : vb (.ro a) y = none := by cases y <;> rfl
theorem vb_exc {a : String} {y : V} : vb (.exc a) y = none := by cases y <;> rfl
theorem veq_succ {n : Nat} {H : Hp} {x y : V} {b : Bool} (h : veq (n + 1) H x y = some b) :
    (∃ xs ys, x = .tup xs ∧ y = .tup ys ∧ allEq (veq n H) xs ys = some b) ∨ (∃ a c xs ys, x = .ref a ∧ y = .ref c ∧ H a = some (.list xs) ∧ H c = some (.list ys) ∧ allEq (veq n H) xs ys = some b) ∨
    (∃ a xs, x = .none ∧ y = .ref a ∧ H a = some (.list xs) ∧ b = false) ∨ (∃ a xs, x = .ref a ∧ y = .none ∧ H a = some (.list xs) ∧ b = false) ∨ vb x y = some b := by
  unfold veq at h
  split at h
  · exact .inl ⟨_, _, rfl, rfl, h⟩
  · split at h
    · rename_i h1 h2; exact .inr (.inl ⟨_, _, _, _, rfl, rfl, h1, h2, h⟩)
    · cases h
  · split at h
    · rename_i h1; cases h; exact .inr (.inr (.inl ⟨_, _, rfl, rfl, h1, rfl⟩))
    · cases h
  · split at h
    · rename_i h1; cases h; exact .inr (.inr (.inr (.inl ⟨_, _, rfl, rfl, h1, rfl⟩)))
    · cases h
  · exact .inr (.inr (.inr (.inr h)))
theorem vb_same {W : Wd} {h : Heap} {x y : V} {u : Value} {b : Bool} (r : Rep W h x u) (r' : Rep W h y u) (e : vb x y = some b) : b = true := by
  cases r with
  | none => cases r'; cases e; rfl
  | bool c => cases r'; cases e; exact beq_self_eq_true _
  | int i t => cases r'; cases e; exact decide_eq_true rfl
  | str i t => cases r'; cases e; exact decide_eq_true rfl
  | tup _ _ _ _ _ => cases r' <;> cases e
  | ref _ => rw [vb_ref] at e; cases e
  | ro _ _ _ => rw [vb_ro] at e; cases e
  | exc _ _ _ _ => rw [vb_exc] at e; cases e
theorem veq_same {W : Wd} {h : Heap} : ∀ (n : Nat) (H : Hp) (x y : V) (u : Value) (b : Bool), Rep W h x u → Rep W h y u → veq n H x y = some b → b = true := by
  intro n
  induction n with
  | zero => intro H x y u b r r' e; exact vb_same r r' e
  | succ n ih =>
    intro H x y u b r r' e
    have hl : ∀ {us : List Value} {xs ys : List V} {b : Bool}, Reps W h xs us → Reps W h ys us → allEq (veq n H) xs ys = some b → b = true := by
      intro us
      induction us with
      | nil => intro xs ys b r r' e; cases r; cases r'; cases e; rfl
      | cons u us ihu =>
        intro xs ys b r r' e
        cases r with | cons a r => cases r' with | cons a' r' =>
        simp only [allEq] at e
        split at e
        · rename_i p q h1 h2; cases e; rw [ih H _ _ u p a a' h1, ihu r r' h2]; rfl
        · cases e
    rcases veq_succ e with ⟨xs, ys, rfl, rfl, e'⟩ | ⟨a, c, xs, ys, rfl, rfl, h1, h2, e'⟩ | ⟨a, xs, rfl, rfl, _⟩ | ⟨a, xs, rfl, rfl, _⟩ | e'
    · cases r with | tup e1 c1 d1 l1 r1 => cases r' with | tup e2 c2 d2 l2 r2 =>
      rw [e1] at e2; cases e2; rw [d1] at d2; cases d2
      exact hl r1 r2 e'
    · cases r; cases r'; exact veq_self _ _ _ _ e
    · cases r; cases r'
    · cases r; cases r'
    · exact vb_same r r' e'

theorem allEq_items {f : V → V → Option Bool} : ∀ {xs ys : List V} {b : Bool}, allEq f xs ys = some b → (∀ (j : Nat) (x y : V), xs[j]? = some x → ys[j]? = some y → ∃ c, f x y = some c) ∧
    b = ((List.range (min xs.length ys.length)).all (fun (j : Nat) => (match xs[j]?, ys[j]? with | some x, some y => (f x y).getD false | _, _ => false)) && xs.length == ys.length)
  | [], [], b, h => by simp [allEq] at h; subst h; simp
  | [], _ :: _, b, h => by simp [allEq] at h; subst h; simp
  | _ :: _, [], b, h => by simp [allEq] at h; subst h; simp
  | x :: xs, y :: ys, b, h => by
    simp only [allEq] at h
    split at h
    · rename_i p q h1 h2
      cases h
      obtain ⟨i1, i2⟩ := allEq_items h2
      refine ⟨fun j u v hu hv => ?_, ?_⟩
      · cases j with
        | zero => simp at hu hv; subst hu hv; exact ⟨p, h1⟩
        | succ j => exact i1 j u v (by simpa using hu) (by simpa using hv)
      · rw [i2]
        have : min (x :: xs).length (y :: ys).length = min xs.length ys.length + 1 := by simp only [List.length_cons]; omega
        rw [this, List.range_succ_eq_map, List.all_cons, List.all_map]
        simp [h1, Function.comp_def, Bool.and_assoc]
    · cases h

section
variable {W : Wd} {A : Around} {s : Shared} {H : Hp}
theorem Reps.at {h : Heap} {xs : List V} {items : Array Value} (r : Reps W h xs items.toList) {j : Nat} (hj : j < items.size) : ∃ x, xs[j]? = some x ∧ Rep W h x items[j] := by
  have hl : j < xs.length := by rw [r.length]; simpa using hj
  obtain ⟨u, e, q⟩ := r.get (List.getElem?_eq_getElem hl)
  have : items.toList[j]? = some items[j] := by simp [hj]
  rw [this] at e; cases e
  exact ⟨_, List.getElem?_eq_getElem hl, q⟩
theorem Reps.size {h : Heap} {xs : List V} {items : Array Value} (r : Reps W h xs items.toList) : items.size = xs.length := by have := r.length; simpa using this.symm

theorem Rep.isTuple {h : Heap} {xs : List V} {u : Value} (r : Rep W h (.tup xs) u) : ∃ a items, u = .ref a ∧ h.IsTuple a items ∧ xs.length ≤ Lim ∧ Reps W h xs items.toList := by
  cases r with | tup e c d l r => exact ⟨_, _, rfl, ⟨_, e, c, _, d⟩, l, r⟩
theorem veq_sound (hH : ∀ a o, H a = some o → RepO W s.heap a o) : ∀ (n : Nat) (A : Around) (x y : V) (u v : Value) (b : Bool), Rep W s.heap x u → Rep W s.heap y v → veq n H x y = some b → A.units + n < cLine → RcAt A s u v b ∧ EqAt A s u v b := by
  have hb : ∀ (A : Around) (x y : V) (u v : Value) (b : Bool), Rep W s.heap x u → Rep W s.heap y v → vb x y = some b → A.units < cLine → RcAt A s u v b ∧ EqAt A s u v b := by
    intro A x y u v b r r' e hu
    cases r with
    | none => cases r' with
      | none => cases e; exact ⟨RcAt.none_none, .same _⟩
      | bool b => cases e; exact ⟨RcAt.none_bool b, .none_bool b⟩
      | int i t => cases e; exact ⟨RcAt.none_int i t, .none_int i t⟩
      | str x t => cases e; exact ⟨RcAt.none_str x t, .none_str x t⟩
      | tup e1 c1 d1 l1 r1 => cases e; exact ⟨RcAt.none_tuple ⟨_, e1, c1, _, d1⟩ hu, .none_tuple ⟨_, e1, c1, _, d1⟩ hu⟩
      | _ => cases e
    | bool a => cases r' with
      | none => cases e; exact ⟨RcAt.bool_none a, .bool_none a⟩
      | bool b => cases e; exact ⟨RcAt.bool_bool a b, .bool_bool a b⟩
      | _ => cases e
    | int i t => cases r' with
      | none => cases e; exact ⟨RcAt.int_none i t, .int_none i t⟩
      | int j t' =>
        have q : b = (i == j) := by
          simp only [vb, Option.some.injEq] at e
          rw [← e]; by_cases h : i = j <;> simp [h]
        subst q; exact ⟨RcAt.int_int i t j t', .int_int i t j t'⟩
      | _ => cases e
    | str i t => cases r' with
      | none => cases e; exact ⟨RcAt.str_none i t, .str_none i t⟩
      | str j t' =>
        have q : b = (i == j) := by
          simp only [vb, Option.some.injEq] at e
          rw [← e]; by_cases h : i = j <;> simp [h]
        subst q; exact ⟨RcAt.str_str i t j t', .str_str i t j t'⟩
      | _ => cases e
    | tup e1 c1 d1 l1 r1 => cases r' with
      | none => cases e; exact ⟨RcAt.tuple_none ⟨_, e1, c1, _, d1⟩ hu, .tuple_none ⟨_, e1, c1, _, d1⟩ hu⟩
      | _ => cases e
    | ref a => rw [vb_ref] at e; cases e
    | ro _ _ _ => rw [vb_ro] at e; cases e
    | exc _ _ _ _ => rw [vb_exc] at e; cases e
  intro n
  induction n with
  | zero => intro A x y u v b r r' e hu; exact hb A x y u v b r r' (by simpa only [veq] using e) (by omega)
  | succ n ih =>
    intro A x y u v b r r' e hu
    have hx : ∀ {xs ys : List V} {it jt : Array Value} {b : Bool}, Reps W s.heap xs it.toList → Reps W s.heap ys jt.toList → allEq (veq n H) xs ys = some b →
        ∃ f : Nat → Bool, (∀ j (h1 : j < it.size) (h2 : j < jt.size), EqAt A.in1 s it[j] jt[j] (f j)) ∧ b = ((List.range (min it.size jt.size)).all f && it.size == jt.size) := by
      intro xs ys it jt b r1 r2 e
      obtain ⟨i1, i2⟩ := allEq_items e
      refine ⟨_, fun j h1 h2 => ?_, by rw [i2, r1.size, r2.size]⟩
      obtain ⟨p, e1, q1⟩ := r1.at h1
      obtain ⟨q, e2, q2⟩ := r2.at h2
      obtain ⟨c, hc⟩ := i1 j p q e1 e2
      have := (ih A.in1 p q _ _ c q1 q2 hc (by show A.units + 1 + n < cLine; omega)).2
      simpa only [e1, e2, hc, Option.getD_some] using this
    have hu' : A.units < cLine := by omega
    have fin : ∀ {p q : Addr}, u = .ref p → v = .ref q → RcAt A s u v b → RcAt A s u v b ∧ EqAt A s u v b := fun h1 h2 R => by
      refine ⟨R, ?_⟩
      by_cases huv : u = v
      · subst huv; rw [veq_same (n + 1) H x y u b r r' e]; exact .same _
      · subst h1; subst h2; exact .of_refs (fun z => huv (by rw [z])) R
    rcases veq_succ e with ⟨xs, ys, rfl, rfl, e'⟩ | ⟨a, c, xs, ys, rfl, rfl, h1, h2, e'⟩ | ⟨a, xs, rfl, rfl, h1, rfl⟩ | ⟨a, xs, rfl, rfl, h1, rfl⟩ | e'
    · obtain ⟨p, it, hp, t1, _, r1⟩ := r.isTuple
      obtain ⟨q, jt, hq, t2, _, r2⟩ := r'.isTuple
      obtain ⟨f, hf, z⟩ := hx r1 r2 e'
      refine fin hp hq ?_
      rw [z, hp, hq]; exact RcAt.tuples t1 t2 hu' hf
    · cases r; cases r'
      obtain ⟨_, it, m, g1, q1⟩ := hH _ _ h1
      obtain ⟨_, jt, m', g2, q2⟩ := hH _ _ h2
      obtain ⟨f, hf, q⟩ := hx q1 q2 e'
      refine fin rfl rfl ?_
      by_cases hs : it.size = jt.size
      · rw [hs] at q; simp only [beq_self_eq_true, Bool.and_true, Nat.min_self] at q
        rw [q, ← hs]; exact RcAt.lists ⟨_, g1, rfl, _, rfl⟩ ⟨_, g2, rfl, _, rfl⟩ hs hu' hf
      · rw [show b = false by rw [q, beq_false_of_ne hs, Bool.and_false]]; exact RcAt.lists_lengths ⟨_, g1, rfl, _, rfl⟩ ⟨_, g2, rfl, _, rfl⟩ (bne_iff_ne.mpr hs) hu'
    · cases r; cases r'
      obtain ⟨_, it, m, g1, q1⟩ := hH _ _ h1
      exact ⟨RcAt.none_list ⟨_, g1, rfl, _, rfl⟩ hu', .none_list ⟨_, g1, rfl, _, rfl⟩ hu'⟩
    · cases r; cases r'
      obtain ⟨_, it, m, g1, q1⟩ := hH _ _ h1
      exact ⟨RcAt.list_none ⟨_, g1, rfl, _, rfl⟩ hu', .list_none ⟨_, g1, rfl, _, rfl⟩ hu'⟩
    · exact hb A x y u v b r r' e' hu'

theorem vne_sound (hH : ∀ a o, H a = some o → RepO W s.heap a o) (n : Nat) (A : Around) (x y : V) (u v : Value) (b : Bool) (r : Rep W s.heap x u) (r' : Rep W s.heap y v) (e : veq n H x y = some b) (hu : A.units + n < cLine) : RcNeAt A s u v (!b) := by
  have hu' : A.units < cLine := by omega
  have hb : ∀ (x y : V) (u v : Value) (b : Bool), Rep W s.heap x u → Rep W s.heap y v → vb x y = some b → RcNeAt A s u v (!b) := by
    intro x y u v b r r' e
    cases r with
    | none => cases r' with
      | none => cases e; exact RcNeAt.none_none
      | bool b => cases e; exact RcNeAt.none_bool b
      | int i t => cases e; exact RcNeAt.none_int i t
      | str x t => cases e; exact RcNeAt.none_str x t
      | tup e1 c1 d1 l1 r1 => cases e; exact RcNeAt.none_tuple ⟨_, e1, c1, _, d1⟩ hu'
      | _ => cases e
    | bool a => cases r' with
      | none => cases e; exact RcNeAt.bool_none a
      | bool b => cases e; exact RcNeAt.bool_bool a b
      | _ => cases e
    | int i t => cases r' with
      | none => cases e; exact RcNeAt.int_none i t
      | int j t' =>
        have q : b = (i == j) := by
          simp only [vb, Option.some.injEq] at e
          rw [← e]; by_cases h : i = j <;> simp [h]
        subst q; exact RcNeAt.int_int i t j t'
      | _ => cases e
    | str i t => cases r' with
      | none => cases e; exact RcNeAt.str_none i t
      | str j t' =>
        have q : b = (i == j) := by
          simp only [vb, Option.some.injEq] at e
          rw [← e]; by_cases h : i = j <;> simp [h]
        subst q; exact RcNeAt.str_str i t j t'
      | _ => cases e
    | tup e1 c1 d1 l1 r1 => cases r' with
      | none => cases e; exact RcNeAt.tuple_none ⟨_, e1, c1, _, d1⟩ hu'
      | _ => cases e
    | ref a => rw [vb_ref] at e; cases e
    | ro _ _ _ => rw [vb_ro] at e; cases e
    | exc _ _ _ _ => rw [vb_exc] at e; cases e
  cases n with
  | zero => exact hb x y u v b r r' (by simpa only [veq] using e)
  | succ n =>
    have hx : ∀ {xs ys : List V} {it jt : Array Value} {b : Bool}, Reps W s.heap xs it.toList → Reps W s.heap ys jt.toList → allEq (veq n H) xs ys = some b →
        ∃ f : Nat → Bool, (∀ j (h1 : j < it.size) (h2 : j < jt.size), EqAt A.in1 s it[j] jt[j] (f j)) ∧ b = ((List.range (min it.size jt.size)).all f && it.size == jt.size) := by
      intro xs ys it jt b r1 r2 e
      obtain ⟨i1, i2⟩ := allEq_items e
      refine ⟨_, fun j h1 h2 => ?_, by rw [i2, r1.size, r2.size]⟩
      obtain ⟨p, e1, q1⟩ := r1.at h1
      obtain ⟨q, e2, q2⟩ := r2.at h2
      obtain ⟨c, hc⟩ := i1 j p q e1 e2
      have := (veq_sound hH n A.in1 p q _ _ c q1 q2 hc (by show A.units + 1 + n < cLine; omega)).2
      simpa only [e1, e2, hc, Option.getD_some] using this
    rcases veq_succ e with ⟨xs, ys, rfl, rfl, e'⟩ | ⟨a, c, xs, ys, rfl, rfl, h1, h2, e'⟩ | ⟨a, xs, rfl, rfl, h1, rfl⟩ | ⟨a, xs, rfl, rfl, h1, rfl⟩ | e'
    · obtain ⟨p, it, hp, t1, _, r1⟩ := r.isTuple
      obtain ⟨q, jt, hq, t2, _, r2⟩ := r'.isTuple
      obtain ⟨f, hf, z⟩ := hx r1 r2 e'
      rw [z, hp, hq]; exact RcNeAt.tuples t1 t2 hu' hf
    · cases r; cases r'
      obtain ⟨_, it, m, g1, q1⟩ := hH _ _ h1
      obtain ⟨_, jt, m', g2, q2⟩ := hH _ _ h2
      obtain ⟨f, hf, q⟩ := hx q1 q2 e'
      by_cases hs : it.size = jt.size
      · rw [hs] at q; simp only [beq_self_eq_true, Bool.and_true, Nat.min_self] at q
        rw [q, ← hs]; exact RcNeAt.lists ⟨_, g1, rfl, _, rfl⟩ ⟨_, g2, rfl, _, rfl⟩ hs hu' hf
      · rw [show b = false by rw [q, beq_false_of_ne hs, Bool.and_false]]; exact RcNeAt.lists_lengths ⟨_, g1, rfl, _, rfl⟩ ⟨_, g2, rfl, _, rfl⟩ (bne_iff_ne.mpr hs) hu'
    · cases r; cases r'
      obtain ⟨_, it, m, g1, q1⟩ := hH _ _ h1
      exact RcNeAt.none_list ⟨_, g1, rfl, _, rfl⟩ hu'
    · cases r; cases r'
      obtain ⟨_, it, m, g1, q1⟩ := hH _ _ h1
      exact RcNeAt.list_none ⟨_, g1, rfl, _, rfl⟩ hu'
    · exact hb x y u v b r r' e'
end
end Mine.Internal
end

section
namespace Mine.Internal
open PySem PySem.Calls PyProof.Rows PySem.SeqAt

noncomputable def allN (h : Heap) (L : Addr) : List (Addr × Obj) := (List.range h.objs.size).filterMap fun a => if a = L then none else (h.get? a).map fun o => (a, o)
theorem mem_allN {h : Heap} {L b : Addr} {o : Obj} : (b, o) ∈ allN h L ↔ h.get? b = some o ∧ b ≠ L := by
  unfold allN
  rw [List.mem_filterMap]
  constructor
  · rintro ⟨a, ha, e⟩
    split at e
    · cases e
    · rename_i q
      cases ho : h.get? a with
      | none => rw [ho] at e; cases e
      | some o' => rw [ho] at e; cases e; exact ⟨ho, q⟩
  · rintro ⟨e, q⟩
    exact ⟨b, List.mem_range.mpr (Heap.lt_size e), by rw [if_neg q, e]; rfl⟩
noncomputable def noH : Heap := { objs := #[] }
theorem noH_get (b : Addr) : noH.get? b = none := by
  cases q : noH.get? b with
  | none => rfl
  | some o => exact absurd (Heap.lt_size q) (Nat.not_lt_zero _)
theorem fr_of {h : Heap} {L : Addr} {m : Str → Option Value} (hn : h.Ns L m) : Fr noH L h m := ⟨hn, (fun b o e => by rw [noH_get] at e; exact nomatch e), Nat.zero_le _⟩
theorem news_of (h : Heap) (L : Addr) : News noH L h (allN h L) := fun p hp => by
  obtain ⟨b, o⟩ := p
  obtain ⟨e, q⟩ := mem_allN.mp hp
  exact ⟨e, q, noH_get _⟩

section
variable {W : Wd} {c : Cx} {P : Addr → Obj → Prop} {ρ : Loc} {H : Hp} {s : Shared} {Q : V → Hp → Prop} {E : Value → Shared → Prop}

theorem Sim.names {ρ' : Loc} {h' : Heap} {tk : Nat} {m m' : Str → Option Value} (S : Sim W c P ρ H s) (hm : s.heap.Ns c.env.locals m) (hn : h'.Ns c.env.locals m')
    (hk : ∀ b o, b ≠ c.env.locals → s.heap.get? b = some o → h'.get? b = some o)
    (hv : KeepR s.heap h' → (∀ b o v, s.heap.get? b = some o → o.data = .cell v → h'.get? b = some o) → ∀ i x v, c.vis i = true → c.names[i]? = some x → ρ'[i]? = some (some v) → HasVar W c.env h' m' (Str.ofString x) v) :
    Sim W c P ρ' H { s with heap := h', toks := tk } := by
  obtain ⟨oL, esL, epL, eL, dL, kL, fL⟩ := hm
  obtain ⟨oN, esN, epN, eN, dN, kN, fN⟩ := id hn
  have nt : ∀ b o, s.heap.get? b = some o → (∀ es n, o.data ≠ .dict es n) → b ≠ c.env.locals := fun b o e d q => by rw [q, eL] at e; cases e; exact d _ _ dL
  have kr : KeepR s.heap h' := ⟨fun b o i n e k d => hk b o (nt b o e (by rw [d]; exact nofun)) e, fun b o C ws e k d => ⟨o, ws, hk b o (nt b o e (by rw [d]; exact nofun)) e, k, d⟩⟩
  have nH : ∀ a o, H a = some o → a ≠ c.env.locals := fun a o e q => S.apart a o e (q ▸ Cx.mem_all_own S.locOwn)
  refine ⟨?_, fun b o e => hk b o (fun q => by rw [q, S.ownNew _ S.locOwn] at e; cases e) (S.base b o e), funFrames_at S.frames fun b hb o e d => ?_, fun p hp => ?_, ⟨m', hn, hv kr fun b o v e d => hk b o (nt b o e (by rw [d]; exact nofun)) e⟩, S.locOwn, S.ownNew, S.ownOut,
    fun a o e => (S.heap a o e).at kr fun ob h => hk a ob (nH a o e) h, S.new, S.apart, fun b o p => hk b o (fun q => (S.protF b o p).1 (q ▸ S.locOwn)) (S.prot b o p), S.protH, S.protF, fun x a e => ?_, fun b hb => ?_⟩
  · obtain ⟨h, tk', rfl⟩ := S.rest; exact ⟨h', tk, rfl⟩
  · by_cases q : b = c.env.locals
    · subst q; exact ⟨oN, eN, by rw [dN]; exact nofun⟩
    · exact ⟨o, hk b o q e, d⟩
  · obtain ⟨o, es, ep, e, r⟩ := S.outer p hp
    exact ⟨o, es, ep, hk _ _ (S.ownOut _ S.locOwn p hp) e, r⟩
  · obtain ⟨u, o, e1, e2⟩ := S.cells x a e
    exact ⟨u, o, hk a o (nt a o e1 (by rw [e2]; exact nofun)) e1, e2⟩
  · by_cases q : b = c.env.locals
    · subst q; exact ⟨oN, eN, .inl ⟨_, _, dN⟩⟩
    · obtain ⟨o, e, z⟩ := S.ownD b hb; exact ⟨o, hk b o q e, z⟩

theorem Sim.growL {h' : Heap} {tk : Nat} {m : Str → Option Value} (S : Sim W c P ρ H s) (hm : s.heap.Ns c.env.locals m) (hv : ∀ i x v, c.vis i = true → c.names[i]? = some x → ρ[i]? = some (some v) → HasVar W c.env s.heap m (Str.ofString x) v)
    (F : Fr noH c.env.locals h' m) (N : News noH c.env.locals h' (allN s.heap c.env.locals)) : Sim W c P ρ H { s with heap := h', toks := tk } :=
  S.names hm F.ns (fun b o q e => (N (b, o) (mem_allN.mpr ⟨e, q⟩)).1) fun kr kc i x v h1 h2 h3 => (hv i x v h1 h2 h3).mono kr fun cl o u _ ho hd => ⟨o, kc cl o _ ho hd, rfl⟩
theorem allN_keeps {h h' : Heap} {L : Addr} (N : News noH L h' (allN h L)) : ∀ b o, b ≠ L → h.get? b = some o → h'.get? b = some o := fun b o q e => (N (b, o) (mem_allN.mpr ⟨e, q⟩)).1

theorem Sim.adopt {a : Addr} {o : Ob} (S : Sim W c P ρ H s) (hb : W.base.get? a = none) (hall : a ∉ c.all) (hP : ∀ o, ¬ P a o) (r : RepO W s.heap a o) : Sim W c P ρ (H.set a o) s := by
  obtain ⟨ob, e, k, nc⟩ := r.obj
  refine (S.change (H' := H.set a o) (h' := s.heap) (tk := s.toks) a (fun o' e' => ?_) hb hall hP (fun _ _ _ e => e) (fun b hb => by simp [Hp.set, hb]) fun o' e' => ?_ :)
  · rw [e] at e'; cases e'
    exact ⟨by rcases k with k | k <;> rw [k] <;> decide, by rcases k with k | k <;> rw [k] <;> exact nofun, nc⟩
  · simp only [Hp.set, if_true, Option.some.injEq] at e'; subst e'; exact r
theorem Sim.fresh {a : Addr} (S : Sim W c P ρ H s) (h : s.heap.get? a = none) : W.base.get? a = none ∧ a ∉ c.all ∧ (∀ o, ¬ P a o) ∧ H a = none := by
  refine ⟨?_, S.all_there h, fun o p => ?_, S.hsize h⟩
  · cases q : W.base.get? a with
    | none => rfl
    | some x => rw [S.base a x q] at h; cases h
  · rw [S.prot a o p] at h; cases h

noncomputable def PE (W : Wd) (c : Cx) (P : Addr → Obj → Prop) (ρ : Loc) (Q : V → Hp → Prop) : Value → Shared → Prop := fun x s' => ∃ v H', Sim W c P ρ H' s' ∧ Rep W s'.heap v x ∧ Q v H'

theorem rep_list {h : Heap} {a : Addr} {items : Array Value} {n : Nat} {vs : List V} (l : vs.length ≤ Lim) (e : h.get? a = some { cls := .type "list", data := .seq items n }) (r : Reps W h vs items.toList) : RepO W h a (.list vs) := ⟨l, items, n, e, r⟩

theorem sound_newList {xs : List V} {us : List Value} (S : Sim W c P ρ H s) (r : Reps W s.heap xs us) (h : newL xs Q H) : wpAny (model W.prog W.w) c.A (newList us) (PE W c P ρ Q) E s := by
  have hl : us.length ≤ sizeLine := by have := r.length; have := h.1; rw [sizeLine_eq]; unfold Lim at this; omega
  refine wpAny_newObj_type ?_ (by show us.toArray.size ≤ sizeLine; rw [List.size_toArray]; exact hl)
  have hk : ∀ b o, s.heap.get? b = some o → (s.heap.push { cls := .type "list", data := .seq us.toArray }).get? b = some o := fun b o e => Heap.get?_push_of_some _ e
  have hn := size_none s.heap
  exact ⟨.ref s.heap.objs.size, H.set s.heap.objs.size (.list xs), S.alloc (tk := s.toks) hn hk (rep_list h.1 (Heap.get?_push_size _ rfl) (by simpa using r.mono (.of_keeps hk))), .ref _, h.2 _ (S.hsize hn)⟩
theorem sound_newTuple {xs : List V} {us : List Value} (S : Sim W c P ρ H s) (r : Reps W s.heap xs us) (hl0 : xs.length ≤ Lim) (h : Q (.tup xs) H) : wpAny (model W.prog W.w) c.A (newTuple us) (PE W c P ρ Q) E s := by
  have hl : us.length ≤ sizeLine := by have := r.length; rw [sizeLine_eq]; unfold Lim at hl0; omega
  refine wpAny_newObj_type ?_ (by show us.toArray.size ≤ sizeLine; rw [List.size_toArray]; exact hl)
  have hk : ∀ b o, s.heap.get? b = some o → (s.heap.push { cls := .type "tuple", data := .seq us.toArray }).get? b = some o := fun b o e => Heap.get?_push_of_some _ e
  exact ⟨.tup xs, H, S.grow (tk := s.toks) hk, Rep.tup (Heap.get?_push_size _ rfl) rfl rfl hl0 (by simpa using r.mono (.of_keeps hk)), h⟩
end
end Mine.Internal
end

section
namespace Mine.Internal
open PySem PySem.Calls PyProof.Rows PySem.SeqAt
section
variable {W : Wd} {c : Cx} {P : Addr → Obj → Prop} {ρ : Loc} {H : Hp} {s : Shared} {Q : V → Hp → Prop} {E : Value → Shared → Prop}

noncomputable def opOf : Op → Operator
  | .add => .Add | .sub => .Sub | .mul => .Mult | .fdiv => .FloorDiv | .mod => .Mod | .pow => .Pow

theorem pe_int {i : Int} (S : Sim W c P ρ H s) (h : Q (.int i) H) : PE W c P ρ Q (.int i s.toks) { s with toks := s.toks + 1 } := ⟨.int i, H, S.toks _, .int i _, h⟩
theorem pe_bool {b : Bool} (S : Sim W c P ρ H s) (h : Q (.bool b) H) : PE W c P ρ Q (.bool b) s := ⟨.bool b, H, S, .bool b, h⟩
theorem pe_same {v : V} {x : Value} (S : Sim W c P ρ H s) (r : Rep W s.heap v x) (h : Q v H) : PE W c P ρ Q x s := ⟨v, H, S, r, h⟩

theorem sm_bits {a b : Int} (h : Sm a ∨ Sm b) : IntMulOk a b := by
  rcases h with h | h
  · exact .of_left (intBits_le_64 (by have := h.1; omega) (by have := h.2; omega))
  · exact .of_right (intBits_le_64 (by have := h.1; omega) (by have := h.2; omega))

theorem sound_bin {op : Op} {x y : V} {u v : Value} (S : Sim W c P ρ H s) (hx : Rep W s.heap x u) (hy : Rep W s.heap y v) (h : wbin op x y Q H) :
    wpAny (model W.prog W.w) c.A (binaryOp (opOf op) u v) (PE W c P ρ Q) E s := by
  unfold wbin at h
  split at h
  · cases hx; cases hy; exact wpAny_add_int (pe_int S h)
  · cases hx; cases hy; exact sub_int' (pe_int S h)
  · cases hx; cases hy; exact mul_int (pe_int S h.2) (sm_bits h.1)
  · cases hx; cases hy; rename_i a b _ _
    obtain ⟨⟨h1, h2⟩, h⟩ := h
    refine floordiv_int (by omega) (pe_int S ?_) (.inl (PyProof.noPylong_small (by omega)))
    rwa [Int.fdiv_eq_ediv_of_nonneg _ (by omega)]
  · cases hx; cases hy
    obtain ⟨h1, h⟩ := h
    refine mod_int' (by omega) (pe_int S ?_)
    rwa [Int.fmod_eq_emod_of_nonneg _ (by omega)]
  · cases hx; cases hy; rename_i a b _ _
    obtain ⟨⟨h1, h2, h3, h4⟩, h⟩ := h
    refine pow_int h3 ?_ (pe_int S h)
    have hb : Builtin.Int.intBits a ≤ 64 := intBits_le_64 (by omega) (by omega)
    have : (Builtin.Int.intBits a : Int) * b ≤ 64 * 20 := Int.mul_le_mul (by omega) h4 h3 (by omega)
    omega
  · cases hx; cases hy
    obtain ⟨xs, ys, e1, e2, h⟩ := h
    obtain ⟨_, it, n, g1, r1⟩ := S.heap _ _ e1
    obtain ⟨_, jt, m, g2, r2⟩ := S.heap _ _ e2
    have hk : ∀ b o, s.heap.get? b = some o → (s.heap.push { cls := .type "list", data := .seq (it ++ jt) }).get? b = some o := fun b o e => Heap.get?_push_of_some _ e
    have hn := size_none s.heap
    refine _root_.PySem.P.add_list g1 g2 ⟨.ref s.heap.objs.size, H.set s.heap.objs.size (.list (xs ++ ys)), S.alloc (tk := s.toks) hn hk (rep_list h.1 (Heap.get?_push_size _ rfl) ?_), .ref _, h.2 _ (S.hsize hn)⟩ ?_
    · rw [Array.toList_append]; exact (r1.append r2).mono (.of_keeps hk)
    · have := h.1; rw [List.length_append] at this; rw [r1.size, r2.size, sizeLine_eq]; exact this
  · exact h.elim
end
end Mine.Internal
end

section
namespace Mine.Internal
open PySem PySem.Calls PyProof.Rows PySem.SeqAt
section
variable {W : Wd} {c : Cx} {P : Addr → Obj → Prop} {ρ : Loc} {H : Hp} {s : Shared} {Q : V → Hp → Prop} {B : Bool → Hp → Prop} {E : Value → Shared → Prop}

noncomputable def cmOf : Cm → CmpOp
  | .eq => .Eq | .ne => .NotEq | .lt => .Lt | .le => .LtE | .gt => .Gt | .ge => .GtE | .is => .Is | .isNot => .IsNot | .isIn => .In | .notIn => .NotIn

noncomputable def PB (W : Wd) (c : Cx) (P : Addr → Obj → Prop) (ρ : Loc) (B : Bool → Hp → Prop) : Value → Shared → Prop := fun x s' => ∃ b H', x = .bool b ∧ Sim W c P ρ H' s' ∧ B b H'
theorem pb {b : Bool} (S : Sim W c P ρ H s) (h : B b H) : PB W c P ρ B (.bool b) s := ⟨b, H, rfl, S, h⟩

theorem inL_iff {x : V} : ∀ {ys : List V} {b : Bool}, inL H x ys = some b → (∀ v ∈ ys, ∃ k, veq eqFuel H v x = some k) ∧ (b = true ↔ ∃ v ∈ ys, veq eqFuel H v x = some true)
  | [], b, h => by simp [inL] at h; subst h; simp
  | y :: ys, b, h => by
    simp only [inL] at h
    split at h
    · rename_i p q h1 h2
      cases h
      obtain ⟨i1, i2⟩ := inL_iff h2
      refine ⟨fun v hv => ?_, ?_⟩
      · rcases List.mem_cons.mp hv with rfl | hv
        · exact ⟨p, h1⟩
        · exact i1 v hv
      · simp only [Bool.or_eq_true, List.mem_cons, exists_eq_or_imp, h1, Option.some.injEq, i2]
    · cases h
theorem Reps.mem_left {h : Heap} : ∀ {xs : List V} {us : List Value} {u : Value}, Reps W h xs us → u ∈ us → ∃ x ∈ xs, Rep W h x u
  | _, _, _, .nil, m => nomatch m
  | _, _, _, .cons a b, m => by
    rcases List.mem_cons.mp m with rfl | m
    · exact ⟨_, .head _, a⟩
    · obtain ⟨x, q, r⟩ := Reps.mem_left b m; exact ⟨x, .tail _ q, r⟩
theorem Reps.mem_right {h : Heap} : ∀ {xs : List V} {us : List Value} {x : V}, Reps W h xs us → x ∈ xs → ∃ u ∈ us, Rep W h x u
  | _, _, _, .nil, m => nomatch m
  | _, _, _, .cons a b, m => by
    rcases List.mem_cons.mp m with rfl | m
    · exact ⟨_, .head _, a⟩
    · obtain ⟨x, q, r⟩ := Reps.mem_right b m; exact ⟨x, .tail _ q, r⟩

open Classical in
noncomputable def eqItem (W : Wd) (h : Heap) (H : Hp) (ys : List V) (x : V) (y : Value) : Bool := decide (∃ v ∈ ys, Rep W h v y ∧ veq eqFuel H v x = some true)
open Classical in
theorem eqItem_true {h : Heap} {ys : List V} {x : V} {y : Value} : eqItem W h H ys x y = true ↔ ∃ v ∈ ys, Rep W h v y ∧ veq eqFuel H v x = some true := by unfold eqItem; exact decide_eq_true_iff
theorem eqItem_at {ys : List V} {x : V} {u : Value} {A : Around} (hH : ∀ a o, H a = some o → RepO W s.heap a o) (hx : Rep W s.heap x u) (hu : A.units + 8 < cLine) (hk : ∀ v ∈ ys, ∃ k, veq eqFuel H v x = some k) {us : List Value} (r : Reps W s.heap ys us) :
    ∀ y ∈ us, EqAt A s y u (eqItem W s.heap H ys x y) := fun y hy => by
  obtain ⟨v, hv, rv⟩ := r.mem_left hy
  obtain ⟨k, hk⟩ := hk v hv
  by_cases q : ∃ v ∈ ys, Rep W s.heap v y ∧ veq eqFuel H v x = some true
  · obtain ⟨w, hw, rw', ew⟩ := id q
    have : eqItem W s.heap H ys x y = true := eqItem_true.mpr q
    rw [this]; exact (veq_sound hH eqFuel A w x y u true rw' hx ew hu).2
  · have : eqItem W s.heap H ys x y = false := Bool.eq_false_iff.mpr fun z => q (eqItem_true.mp z)
    rw [this]
    cases k with
    | true => exact absurd ⟨v, hv, rv, hk⟩ q
    | false => exact (veq_sound hH eqFuel A v x y u false rv hx hk hu).2
theorem eqItem_any {ys : List V} {x : V} {b : Bool} (e : inL H x ys = some b) {it : Array Value} {h : Heap} (r : Reps W h ys it.toList) : it.any (eqItem W h H ys x) = b := by
  obtain ⟨i1, i2⟩ := inL_iff e
  rw [← Array.any_toList]
  cases b with
  | true =>
    obtain ⟨v, hv, ev⟩ := i2.mp rfl
    obtain ⟨u, hu, ru⟩ := r.mem_right hv
    exact List.any_eq_true.mpr ⟨u, hu, eqItem_true.mpr ⟨v, hv, ru, ev⟩⟩
  | false =>
    refine List.any_eq_false.mpr fun u hu => ?_
    intro q
    obtain ⟨v, hv, _, ev⟩ := eqItem_true.mp q
    have := i2.mpr ⟨v, hv, ev⟩
    cases this

theorem RepKV.get {h : Heap} {k : Int} : ∀ {kvs : List (Int × V)} {ys : List (Int × Value)}, RepKV W h kvs ys → (∀ v, dget k kvs = some v → ∃ u, valueAt ys k = some u ∧ Rep W h v u) ∧ (dget k kvs).isSome = (valueAt ys k).isSome
  | _, _, .nil => ⟨fun v e => by simp [dget] at e, rfl⟩
  | _, _, .cons (k := j) (x := x) a b => by
    obtain ⟨i1, i2⟩ := RepKV.get (k := k) b
    by_cases q : j = k
    · subst q; simp only [dget, valueAt, List.find?_cons, if_true, decide_true, Option.map_some]
      exact ⟨fun v e => by cases e; exact ⟨_, rfl, a⟩, rfl⟩
    · simp only [dget, valueAt, List.find?_cons, q, if_false, decide_false]
      exact ⟨i1, i2⟩

theorem not_sysModules (S : Sim W c P ρ H s) {a : Addr} {kvs : List (Int × V)} (e : H a = some (.dict kvs)) (hb : (W.base.get? cStatics).isSome = true) : (a == sysModules) = false := (S.heap _ _ e).1.2
theorem sound_cmp {op : Cm} {x y : V} {u v : Value} (S : Sim W c P ρ H s) (hu : c.A.units + 20 < cLine) (hb : (W.base.get? cStatics).isSome = true) (hx : Rep W s.heap x u) (hy : Rep W s.heap y v) (h : wcmp op x y B H) :
    wpAny (model W.prog W.w) c.A (compareOp (cmOf op) u v) (PB W c P ρ B) E s := by
  unfold wcmp at h
  cases op with
  | eq =>
    obtain ⟨b, e, h⟩ := h
    exact (veq_sound S.heap eqFuel c.A x y u v b hx hy e (by unfold eqFuel; omega)).1 W.prog W.w E _ (pb S h)
  | ne =>
    obtain ⟨b, e, h⟩ := h
    exact vne_sound S.heap eqFuel c.A x y u v b hx hy e (by unfold eqFuel; omega) W.prog W.w E _ (pb S h)
  | lt => dsimp only at h; split at h; · cases hx; cases hy; exact _root_.PySem.P.lt_int (pb S h)
          · exact h.elim
  | le => dsimp only at h; split at h; · cases hx; cases hy; exact _root_.PySem.P.le_int (pb S h)
          · exact h.elim
  | gt => dsimp only at h; split at h; · cases hx; cases hy; exact _root_.PySem.P.gt_int (pb S h)
          · exact h.elim
  | ge => dsimp only at h; split at h; · cases hx; cases hy; exact _root_.PySem.P.ge_int (pb S h)
          · exact h.elim
  | is => exact False.elim h
  | isNot => exact False.elim h
  | isIn =>
    dsimp only at h
    split at h
    · cases hy
      split at h
      · rename_i k kvs ea
        cases hx
        obtain ⟨_, ys, hD, r⟩ := S.heap _ _ ea
        rw [(r.get (k := k)).2] at h
        exact wpAny_in_of (intKind_is _ _ _ _) (not_sysModules S ea hb) hD.mapOf (pb (S.toks _) h)
      · rename_i x' a ys _ _ ea
        obtain ⟨b, e, h⟩ := h
        obtain ⟨_, it, n, g, r⟩ := S.heap _ _ ea
        refine in_listAt (eqItem W s.heap H _ _) ⟨_, g, rfl, _, rfl⟩ (fun z hz => eqItem_at S.heap hx (by show c.A.units + 1 + 8 < cLine; omega) (inL_iff e).1 r z (by simpa using hz)) ?_
        rw [eqItem_any e r]; exact pb S h
      · exact h.elim
    · exact h.elim
  | notIn => exact False.elim h
end
end Mine.Internal
end

section
namespace Mine.Internal
open PySem PySem.Calls PyProof.Rows PySem.SeqAt
section
variable {W : Wd} {c : Cx} {P : Addr → Obj → Prop} {ρ : Loc} {H : Hp} {s : Shared} {Q : V → Hp → Prop} {B : Bool → Hp → Prop} {E : Value → Shared → Prop}

theorem place_seq {i : Int} {n j : Nat} (h : place i n = some j) : seqIndex? i n = some j := by
  unfold place at h; unfold seqIndex?
  by_cases h0 : 0 ≤ i
  · rw [if_pos h0] at h
    by_cases h1 : i.toNat < n
    · rw [if_pos h1] at h
      have e : ¬ i < 0 := by omega
      simp only [e, if_false]
      rw [if_pos (by simp; omega)]; exact h
    · rw [if_neg h1] at h; cases h
  · rw [if_neg h0] at h
    by_cases h1 : 0 ≤ i + n
    · rw [if_pos h1] at h
      have e : i < 0 := by omega
      simp only [e, if_true]
      rw [if_pos (by simp; omega)]; exact h
    · rw [if_neg h1] at h; cases h
theorem Ints.get : ∀ {xs : List Int} {us : List Value} {j : Nat} {z : Int}, Ints xs us → xs[j]? = some z → ∃ t, us[j]? = some (.int z t)
  | _, _, _, _, .nil, e => by simp at e
  | _, _, 0, _, .cons h, e => by simp at e; subst e; exact ⟨_, rfl⟩
  | _, _, j + 1, _, .cons h, e => by simp at e; obtain ⟨t, q⟩ := Ints.get h e; exact ⟨t, by simpa using q⟩
theorem Ints.length : ∀ {xs : List Int} {us : List Value}, Ints xs us → xs.length = us.length
  | _, _, .nil => rfl
  | _, _, .cons h => by simp [Ints.length h]
theorem Reps.take {h : Heap} : ∀ {xs : List V} {us : List Value} (n : Nat), Reps W h xs us → Reps W h (xs.take n) (us.take n)
  | _, _, 0, r => .nil
  | _, _, n + 1, .nil => .nil
  | _, _, n + 1, .cons a b => .cons a (Reps.take n b)
theorem Reps.drop {h : Heap} : ∀ {xs : List V} {us : List Value} (n : Nat), Reps W h xs us → Reps W h (xs.drop n) (us.drop n)
  | _, _, 0, r => r
  | _, _, n + 1, .nil => .nil
  | _, _, n + 1, .cons a b => Reps.drop n b
theorem Reps.reverse {h : Heap} : ∀ {xs : List V} {us : List Value}, Reps W h xs us → Reps W h xs.reverse us.reverse
  | _, _, .nil => .nil
  | _, _, .cons a b => by rw [List.reverse_cons, List.reverse_cons]; exact (Reps.reverse b).append (.cons a .nil)

theorem getItem_list_any {l : Addr} {items : Array Value} {i : Int} {t : Tok} {j : Nat} {x : Value} {Q : Value → Shared → Prop} (hl : s.heap.IsList l items) (hi : Ix i) (hj : place i items.size = some j) (hx : items[j]? = some x) (h : Q x s) :
    wpAny (model W.prog W.w) c.A (getItem (.ref l) (.int i t)) Q E s := by
  unfold place at hj
  split at hj
  · split at hj
    · cases hj; exact wpAny_getItem_list hl (by omega) (by have := hi.2; omega) hx h
    · cases hj
  · split at hj
    · cases hj; exact wpAny_getItem_list_neg hl (by omega) (by omega) (by have := hi.1; omega) hx h
    · cases hj

theorem sound_idx {value slice : Expr} {x y : V} {u v : Value} (S : Sim W c P ρ H s) (hx : Rep W s.heap x u) (hy : Rep W s.heap y v) (h : widx x y Q H)
    (hs : ∀ o i, subscripted slice false o i = operate [o, i] (getItem o i)) :
    wpAny (model W.prog W.w) c.A (subscriptTail value slice u v) (PE W c P ρ Q) E s := by
  unfold widx at h
  split at h
  · cases hy; rename_i xs i t
    obtain ⟨j, z, hi, hj, hz, h⟩ := h
    cases hx with | ro hb hl r =>
    rename_i a items
    obtain ⟨o, g0, g1⟩ := hb
    obtain ⟨t', e⟩ := r.get hz
    have hl' : s.heap.IsList a items := ⟨o, S.base _ _ g0, g1⟩
    refine tail_any hl'.typeIs slot_list_getitem.lookup (getItem_list_any hl' hi (j := j) ?_ (by rw [← Array.getElem?_toList]; exact e) (pe_same S (.int z t') h)) (hs _ _)
    have : items.size = xs.length := by have := r.length; simpa using this.symm
    rw [this]; exact hj
  · cases hy; rename_i xs i t
    obtain ⟨j, z, hi, hj, hz, h⟩ := h
    obtain ⟨a, items, rfl, ht, hl, r⟩ := hx.isTuple
    obtain ⟨w, e, rw'⟩ := r.get hz
    refine item_tupleT (l := items.toList) ht (by have := hi.1; omega) (by have := hi.2; omega) (j := j) ?_ e (pe_same S rw' h) (hs _ _)
    rw [← r.length]; exact place_seq hj
  · cases hy; rename_i i t; cases hx; rename_i a
    split at h
    · rename_i xs ea
      obtain ⟨j, z, hi, hj, hz, h⟩ := h
      obtain ⟨_, items, n, g, r⟩ := S.heap _ _ ea
      obtain ⟨w, e, rw'⟩ := r.get hz
      have hl' : s.heap.IsList a items := ⟨_, g, rfl, _, rfl⟩
      refine tail_any hl'.typeIs slot_list_getitem.lookup (getItem_list_any hl' hi (j := j) ?_ (by rw [← Array.getElem?_toList]; exact e) (pe_same S rw' h)) (hs _ _)
      rw [r.size]; exact hj
    · rename_i kvs ea
      obtain ⟨z, hz, h⟩ := h
      obtain ⟨_, ys, hD, r⟩ := S.heap _ _ ea
      obtain ⟨w, e, rw'⟩ := (r.get (k := i)).1 z hz
      exact tail_any hD.typeIs slot_dict_getitem.lookup (wpAny_getItem_of (intKind_is _ _ _ _) hD.mapOf e (pe_same (S.toks _) rw' h)) (hs _ _)
    · exact h.elim
  · exact h.elim

end
end Mine.Internal
end

section
namespace Mine.Internal
open PySem PySem.Calls PyProof.Rows PySem.SeqAt
section
variable {W : Wd} {c : Cx} {P : Addr → Obj → Prop} {ρ : Loc} {H : Hp} {s : Shared} {Q : V → Hp → Prop} {B : Bool → Hp → Prop} {E : Value → Shared → Prop}

noncomputable def bfOf : BF → Value
  | .len => .builtin "len" | .min2 => .builtin "min" | .max2 => .builtin "max" | .abs => .builtin "abs" | .sum => .builtin "sum" | .sorted => .builtin "sorted" | .list => .type "list" | .int => .type "int"

theorem Reps.one {h : Heap} {x : V} {us : List Value} (r : Reps W h [x] us) : ∃ u, us = [u] ∧ Rep W h x u := by
  cases r with | cons a b => cases b; exact ⟨_, rfl, a⟩
theorem Reps.two {h : Heap} {x y : V} {us : List Value} (r : Reps W h [x, y] us) : ∃ u v, us = [u, v] ∧ Rep W h x u ∧ Rep W h y v := by
  cases r with | cons a b => obtain ⟨v, rfl, q⟩ := b.one; exact ⟨_, _, rfl, a, q⟩
theorem Reps.zero {h : Heap} {us : List Value} (r : Reps W h [] us) : us = [] := by cases r; rfl

theorem intsAre_of {h : Heap} : ∀ {xs : List V} {is : List Int} {us : List Value}, Reps W h xs us → intsOf xs = some is → IntsAre us is := by
  intro xs
  induction xs with
  | nil => intro is us r e; cases r; simp only [intsOf, Option.some.injEq] at e; subst e; exact .nil
  | cons x xs ih =>
    intro is us r e
    cases r with | cons a b =>
    cases x with
    | int i =>
      cases a
      rw [intsOf, Option.map_eq_some_iff] at e
      obtain ⟨js, e1, rfl⟩ := e
      exact .cons i _ (ih b e1)
    | _ => cases e

theorem sound_bc {f : BF} {xs : List V} {us : List Value} (hf : f ≠ .sorted) (S : Sim W c P ρ H s) (hh : c.A.handled = none) (hb : (W.base.get? cStatics).isSome = true) (r : Reps W s.heap xs us) (h : wbc f xs Q H) :
    wpAny (model W.prog W.w) c.A (call (bfOf f) us) (PE W c P ρ Q) E s := by
  unfold wbc at h
  split at h
  · obtain ⟨u, rfl, rx⟩ := r.one
    cases rx with | ro b l i =>
    obtain ⟨o, g0, g1⟩ := b
    have hl := i.length
    refine len_list ⟨o, S.base _ _ g0, g1⟩ ?_ ⟨.int _, H, S.toks _, ?_, h⟩
    · have : _ = _ := hl; simp only [Array.length_toList] at hl; omega
    · simp only [Array.length_toList] at hl; rw [hl]; exact .int _ _
  · obtain ⟨u, rfl, rx⟩ := r.one
    cases rx; rename_i a
    split at h
    · rename_i xs ea
      obtain ⟨hl, it, n, g, ri⟩ := S.heap _ _ ea
      have hz := ri.size
      refine len_list ⟨_, g, rfl, _, rfl⟩ ?_ ⟨.int _, H, S.toks _, ?_, h⟩
      · unfold Lim at hl; omega
      · rw [hz]; exact .int _ _
    · rename_i kvs ea
      obtain ⟨⟨hl, _⟩, ys, hD, ri⟩ := S.heap _ _ ea
      have hz : ys.length = kvs.length := by clear h ea hD hl; induction ri with | nil => rfl | cons _ _ ih => simp [ih]
      refine call_len_dict (not_sysModules S ea hb) hD ?_ ⟨.int _, H, S.toks _, ?_, h⟩
      · unfold Lim at hl; omega
      · rw [hz]; exact .int _ _
    · exact h.elim
  · obtain ⟨u, v, rfl, rx, ry⟩ := r.two
    cases rx; cases ry; rename_i a b t t'
    refine max_two_ints hh fun h' tk hk => ⟨.int _, H, S.grow hk, ?_, h⟩
    split <;> exact .int _ _
  · exact absurd rfl hf
  · obtain ⟨u, rfl, rx⟩ := r.one
    cases rx; rename_i a
    obtain ⟨xs, ea, h⟩ := h
    obtain ⟨hl, it, n, g, ri⟩ := S.heap _ _ ea
    refine call_list_seq _ (.inl rfl) g rfl rfl (fun h' c' hk hD => ?_) ?_
    · have hn := size_none s.heap
      exact ⟨.ref _, H.set _ _, S.alloc (tk := s.toks) hn hk (rep_list h.1 hD (ri.mono (.of_keeps hk))), .ref _, h.2 _ (S.hsize hn)⟩
    · rw [ri.size, sizeLine_eq]; exact h.1
  · exact h.elim
end
end Mine.Internal
end

section
namespace Mine.Internal
open PySem PySem.Calls PyProof.Rows PySem.SeqAt
section
variable {W : Wd} {c : Cx} {P : Addr → Obj → Prop} {ρ : Loc} {H : Hp} {s : Shared} {Q : V → Hp → Prop} {B : Bool → Hp → Prop} {E : Value → Shared → Prop}

noncomputable def mtId : Mt → String
  | .append => "list.append" | .clear => "list.clear" | .count => "list.count" | .get => "dict.get" | .pop => "list.pop" | .reverse => "list.reverse" | .popD => "dict.pop"
noncomputable def mtName : Mt → String
  | .append => "append" | .clear => "clear" | .count => "count" | .get => "get" | .pop => "pop" | .reverse => "reverse" | .popD => "pop"

theorem upd_list {h : Heap} {a : Addr} {it : Array Value} {n : Nat} (g : h.get? a = some { cls := .type "list", data := .seq it n }) (f : Array Value → Array Value) :
    (h.update a (Obj.mapSeq f)).get? a = some { cls := .type "list", data := .seq (f it) (if (f it).size == it.size then n else n + 1) } := Heap.get?_update_self _ g rfl
theorem upd_keep {h : Heap} {a : Addr} (f : Obj → Obj) : ∀ b o, b ≠ a → h.get? b = some o → (h.update a f).get? b = some o := fun b o hb e => (Heap.get?_update_other h f (Ne.symm hb)).trans e

theorem Sim.writeL {a : Addr} {o₀ : Ob} {xs : List V} {it : Array Value} {n : Nat} (S : Sim W c P ρ H s) (ha : H a = some o₀) (g : s.heap.get? a = some { cls := .type "list", data := .seq it n }) (f : Array Value → Array Value) (hl : xs.length ≤ Lim) (r : Reps W s.heap xs (f it).toList) :
    Sim W c P ρ (H.set a (.list xs)) { s with heap := s.heap.update a (Obj.mapSeq f) } := by
  refine S.write (tk := s.toks) ha (upd_keep _) (rep_list hl (upd_list g f) (r.mono ⟨fun b o i m e k d => upd_keep _ b o ?_ e, fun b o C ws e k d => ⟨o, ws, upd_keep _ b o ?_ e, k, d⟩⟩))
  · rintro rfl; rw [g] at e; cases e; exact absurd (show Value.type "list" = Value.type "tuple" from k) (by decide)
  · rintro rfl; rw [g] at e; cases e; exact absurd k (by exact nofun)

theorem Reps.erase {h : Heap} : ∀ {xs : List V} {us : List Value} (n : Nat), Reps W h xs us → Reps W h (xs.eraseIdx n) (us.eraseIdx n)
  | _, _, _, .nil => by simpa using .nil
  | _, _, 0, .cons a b => b
  | _, _, n + 1, .cons a b => .cons a (Reps.erase n b)

noncomputable def eqV : Value → Value → Bool
  | .int a _, .int b _ => a == b
  | .bool a, .bool b => a == b
  | _, _ => false
theorem cntL_spec {h : Heap} {x : V} {u : Value} (rx : Rep W h x u) : ∀ {ys : List V} {us : List Value} {n : Nat}, Reps W h ys us → cntL x ys = some n → (∀ A s, ∀ y ∈ us, EqAt A s y u (eqV y u)) ∧ n = us.countP (fun y => eqV y u)
  | _, _, n, .nil, e => by simp [cntL] at e; subst e; exact ⟨fun _ _ y hy => (by cases hy), rfl⟩
  | _, _, n, .cons a b, e => by
    simp only [cntL] at e
    split at e
    · rename_i i j k ek
      cases e; cases rx; cases a; rename_i t t'
      obtain ⟨i1, i2⟩ := cntL_spec (.int i t) b ek
      refine ⟨fun A s y hy => ?_, ?_⟩
      · rcases List.mem_cons.mp hy with rfl | hy
        · exact EqAt.int_int _ _ _ _
        · exact i1 A s y hy
      · rw [List.countP_cons, ← i2]; simp [eqV]; split <;> simp_all
    · rename_i i j k ek
      cases e; cases rx; cases a
      obtain ⟨i1, i2⟩ := cntL_spec (.bool i) b ek
      refine ⟨fun A s y hy => ?_, ?_⟩
      · rcases List.mem_cons.mp hy with rfl | hy
        · exact EqAt.bool_bool _ _
        · exact i1 A s y hy
      · rw [List.countP_cons, ← i2]; simp [eqV]; split <;> simp_all
    · cases e

theorem sound_mt {m : Mt} {x : V} {xs : List V} {u : Value} {us : List Value} (hm : m ≠ .popD) (S : Sim W c P ρ H s) (hu : c.A.units + 20 < cLine) (hb : (W.base.get? cStatics).isSome = true) (rx : Rep W s.heap x u) (r : Reps W s.heap xs us) (h : wmt m x xs Q H) :
    wpAny (model W.prog W.w) c.A (call (.builtin (mtId m)) (u :: us)) (PE W c P ρ Q) E s := by
  unfold wmt at h
  split at h
  · cases rx; rename_i a x0
    obtain ⟨v, rfl, rv⟩ := r.one
    obtain ⟨ys, ea, hz, h⟩ := h
    obtain ⟨hl, it, n, g, ri⟩ := S.heap _ _ ea
    refine call_meets F.slot_list_append ⟨_, g, rfl⟩ F.entry_list_append (F.args_list_append_2 _ _) (list_append a it n v ?_) ⟨g, ⟨.none, _, S.writeL ea g (·.push v) ?_ ?_, .none, h⟩⟩
    · rw [ri.size, sizeLine_eq]; unfold Lim at hl; exact hl
    · rw [List.length_append]; simp; omega
    · rw [Array.toList_push]; exact ri.append (.cons rv .nil)
  · cases rx; rename_i a x0
    obtain ⟨v, rfl, rv⟩ := r.one
    obtain ⟨ys, k, ea, ek, h⟩ := h
    obtain ⟨hl, it, n, g, ri⟩ := S.heap _ _ ea
    obtain ⟨i1, i2⟩ := cntL_spec rv ri ek
    refine call_meets F.slot_list_count ⟨_, g, rfl⟩ F.entry_list_count (F.args_list_count_2 _ _) (list_countAt a it n none #[] v (fun y => eqV y v)) ⟨g, fun y hy => i1 _ _ y (by simpa using hy), ⟨.int k, H, S.toks _, ?_, h⟩⟩
    rw [i2]; exact .int _ _
  · exact h.elim
end
end Mine.Internal
end

section
namespace Mine.Internal
open PySem PySem.W PySem.Calls PyProof.Rows
section
variable {prog : Program} {w : World} {A : Around} {E : Value → Shared → Prop} {s : Shared} {K : Frag} {a D : Addr} {o : Obj}

theorem looks_ty {M : Model} {h : Heap} (hx : h.get? a = some o) (hc : o.cls = .ref D) : Looks M h (typeOf (.ref a)) (.ref D) := hc ▸ (Looks.ld hx).andThen .now

theorem check_ga {M : Model} {nameV : Value} {Q : Unit → Shared → Prop} (X : K.In s.heap) (hmB : mroIn K D (.type "BaseException") = some true)
    (hx : s.heap.get? a = some o) (hc : o.cls = .ref D) (hq : Q () s) : wpAny M A (checkBuiltinCall "BaseException.__getattribute__" ⟨[.ref a, nameV], []⟩) Q E s := by
  have hk : builtinKind "BaseException.__getattribute__" = some .slot := by decide +kernel
  have hsplit : splitId "BaseException.__getattribute__" = some ("BaseException", "__getattribute__") := by decide +kernel
  have ha := F.args_bexc_ga (.ref a) nameV
  obtain ⟨hh, g, d, t, os⟩ := s
  have L0 := looks_ty (M := M) hx hc
  have L1 := looks_mroIn (M := M) X hmB
  have LI : Looks M hh (isInstance (.ref a) (.type "BaseException")) true := L0.andThen L1
  simp only [checkBuiltinCall, hk, hsplit]
  refine wpAny_bind (LI.at ?_)

  repeat lk

  exact hq

open Builtin Builtin.ObjectAttr Builtin.Getset_descriptor in
theorem class_get' {tp : Value} {R : Result → Shared → Prop} (X : K.In s.heap) (L0 : Looks (model prog w) s.heap (typeOf (.ref a)) (.ref D)) (hm : mroIn K D (.type "object") = some true)
    (h : R (.ok (.ret (.ref D))) s) : codeAny (model prog w) A (.call (.builtin "getset_descriptor.__get__") ⟨[.builtin "object.__class__", .ref a, tp], []⟩) R s := by
  obtain ⟨hh, g, dr, t, os⟩ := s
  have L1 := looks_mroIn (M := model prog w) X hm
  refine codeAny_call_builtin KF.slot_gs.plain KF.entry_gs (KF.slot_gs.check _ _ _ _ _ _ _ _ KF.type_class (KF.args_gs _ _ _) ?_)
  unfold Builtin.«getset_descriptor.__get__» descrGet
  rw [dga_obj]
  refine wpAny_bind (wpAny_pure ?_)
  unfold descrGetter descrCheckInstance descrNameAndClass isInstance
  simp only [KF.owner_class]
  repeat lk
  refine ⟨Code.quiet_builtin _ (by decide +kernel), codeAny_builtin KF.entry_class ?_⟩
  unfold Builtin.«object.__class__» shownTypeOf
  repeat lk
  exact h

theorem exc_class {Q : Option Value → Shared → Prop} (X : K.In s.heap) (hx : s.heap.get? a = some o) (hc : o.cls = .ref D)
    (hga : findIn K (.ref D) "__getattribute__" = some (some (.builtin "BaseException.__getattribute__"))) (hgn : findIn K (.ref D) "__getattr__" = some none)
    (ha : findIn K (.ref D) "__class__" = some (some (.builtin "object.__class__"))) (hn : specialIn K (.builtin "object.__class__") "__get__" = some (some (.builtin "getset_descriptor.__get__")))
    (htk : takesIn K (.builtin "object.__class__") = some true) (hm : mroIn K D (.type "object") = some true) (hmB : mroIn K D (.type "BaseException") = some true)
    (h : Q (some (.ref D)) { s with toks := s.toks + 1 }) : wpAny (model prog w) A (getAttr? (.ref a) "__class__") Q E s := by
  obtain ⟨hh, g, d, t, os⟩ := s
  have L0 := looks_ty (M := model prog w) hx hc
  have L1 := looks_findIn (M := model prog w) X hga
  have L2 := looks_findIn (M := model prog w) X hgn
  have L3 := looks_findIn (M := model prog w) X ha
  unfold getAttr? getAttrBy? getAttrBy
  refine wpAny_bind (wpAny_mkText (wpAny_bind (wpAny_attempt (wpAny_holding (wpAny_bind (L0.at (wpAny_bind (L1.at ?_))))))))
  show wpAny _ _ (getAttrByItsOwn _ _ _ _ _ _) _ _ _
  unfold getAttrByItsOwn
  refine wpAny_bind (Looks.at (show Looks _ _ (hookBefore (.ref D)) none from L2) ?_)
  refine wpAny_bind (wpAny_attempt (wpAny_holding ?_))
  show wpAny _ _ (boundAndCalled (.builtin "BaseException.__getattribute__") (.ref a) _) _ _ _
  unfold boundAndCalled
  rw [PySem.F.attr_ValueError.ga.bind]
  refine wpAny_bind (wpAny_pure (wpAny_call ?_))
  refine codeAny_call_builtin PySem.F.attr_ValueError.ga.plain F.entry_bexc_ga (check_ga (K := K) X hmB hx hc ?_)
  have L5 := looks_specialIn (M := model prog w) X hn
  have L6 := looks_takesIn (M := model prog w) X htk
  have L4 : Looks (model prog w) hh (Builtin.ObjectAttr.find (.ref a) (.ref D) "__class__") (.bind (.builtin "getset_descriptor.__get__") (.builtin "object.__class__")) := by
    refine L3.andThen ?_
    refine Looks.andThen (show Looks (model prog w) hh (Builtin.ObjectAttr.getOf (some (.builtin "object.__class__"))) (some (.builtin "getset_descriptor.__get__")) from L5) ?_
    refine Looks.andThen (show Looks (model prog w) hh (Builtin.ObjectAttr.dataDescriptor? (some (.builtin "object.__class__")) (some (.builtin "getset_descriptor.__get__"))) (some (.builtin "getset_descriptor.__get__", .builtin "object.__class__")) from L6.andThen .now) (Looks.tag .now)

  unfold Builtin.«object.__getattribute__»
  repeat lk
  refine wpAny_run (c := Code.call (Value.builtin "getset_descriptor.__get__") ⟨[Value.builtin "object.__class__", Value.ref a, Value.ref D], []⟩) (h := none) ?_
  refine class_get' (K := K) X (looks_ty hx hc) hm ?_
  exact wpAny_pure (wpAny_pure (handed_on rfl (wpAny_pure h)))

structure ExcCls (K : Frag) (D : Addr) : Prop where
  cls : (clsIn K D).isSome = true
  ty : typeIn K (.ref D) = some (.type "type")
  ga : findIn K (.ref D) "__getattribute__" = some (some (.builtin "BaseException.__getattribute__"))
  gn : findIn K (.ref D) "__getattr__" = some none
  ca : findIn K (.ref D) "__class__" = some (some (.builtin "object.__class__"))
  get : specialIn K (.builtin "object.__class__") "__get__" = some (some (.builtin "getset_descriptor.__get__"))
  takes : takesIn K (.builtin "object.__class__") = some true
  obj : mroIn K D (.type "object") = some true
  base : mroIn K D (.type "BaseException") = some true

theorem kitx_exc (Z : ExcCls K D) : KitX K (.ref a) (.ref D) (fun h => ∃ o, h.get? a = some o ∧ o.cls = .ref D) where
  ty := fun _ _ _ ⟨o, h1, h2⟩ => looks_ty h1 h2
  it := fun _ _ X _ => by
    obtain ⟨cdD, hcD⟩ := Option.isSome_iff_exists.mp Z.cls
    unfold clsIn at hcD
    split at hcD
    · rename_i c' d' cd' sl' ho
      intro A' Q' E' s' k q
      unfold isType loadHead
      exact wpAny_bind (wpAny_loadPart (k _ _ (X _ _ ho)) (wpAny_pure q))
    · cases hcD
  ne := fun h tp dd its n sl X htp => by
    obtain ⟨cdD, hcD⟩ := Option.isSome_iff_exists.mp Z.cls
    refine Bool.eq_false_iff.mpr fun q => ?_
    have e : D = tp := Value.ref.inj (beq_iff_eq.mp q)
    subst e
    unfold clsIn at hcD
    split at hcD
    · rename_i c' d' cd' sl' ho
      have z := (X _ _ ho).symm.trans htp
      cases z
    · cases hcD
  ca := fun X ⟨o, h1, h2⟩ k => exc_class X h1 h2 Z.ga Z.gn Z.ca Z.get Z.takes Z.obj Z.base k
end
noncomputable def isiTy (t n : String) : Bool := (t == n) || (t == "bool" && n == "int")
end Mine.Internal
end

section
namespace Mine.Internal
open PySem PySem.Calls PyProof.Rows PySem.SeqAt

structure Kc where
  sc : Scope
  names : List String
  vis : Nat → Bool
  gint : List (String × Int)
  fns : List String
  cls : List String
  inC : Bool
noncomputable def Kc.var (K : Kc) (i : Nat) (x : Str) : Bool := K.vis i && (match K.names[i]? with | some y => Str.ofString y == x | none => false) && !(x == ("__debug__" : Str))
noncomputable def Kc.gl (K : Kc) (x : Str) : Bool := (K.sc.names.lookup x == some .globalImplicit) && !(x == ("__debug__" : Str))
noncomputable def Kc.tgt (K : Kc) (i : Nat) (x : Str) : Bool := K.vis i && (match K.names[i]? with | some y => Str.ofString y == x | none => false) && (K.sc.names.lookup x == some .local || (K.sc.names.lookup x == some .cell && !K.inC))
noncomputable def Tg.slots : Tg → List Nat
  | .one i => [i] | .two i j => [i, j]
noncomputable def cOk (K : Kc) (scope : Scope) (t : Tg) : Bool :=
  scope.kind == .function && scope.names.all (fun y => y.2 != .cell && (y.2 != .local || scope.names.lookup y.1 == some .local) && (y.2 != .free || K.sc.names.lookup y.1 == some .cell)) &&
    (List.range K.names.length).all (fun i => match K.names[i]? with | some x => (match scope.names.lookup (Str.ofString x) with | some .local => t.slots.contains i | _ => true) | none => true)

noncomputable def bfName : BF → String
  | .len => "len" | .min2 => "min" | .max2 => "max" | .abs => "abs" | .sum => "sum" | .sorted => "sorted" | .list => "list" | .int => "int"
noncomputable def cnName : Cn → Option String
  | .own _ => none | .int => some "int" | .bool => some "bool" | .list => some "list" | .tuple => some "tuple" | .valueError => some "ValueError"

noncomputable def relabelS (scope outer : Scope) : Scope :=
  { scope with names := scope.names.map fun (n, k) => if (k == .free && outer.kind == .function && outer.names.lookup n == some .cell) then (n, .cell) else (n, k) }
noncomputable def Kc.comp (K : Kc) (scope : Scope) : Kc :=
  { K with sc := relabelS scope K.sc, vis := fun i => match K.names[i]? with | some y => (match scope.names.lookup (Str.ofString y) with | some .local => true | some .free => K.vis i && (K.sc.names.lookup (Str.ofString y) == some .cell) | _ => false) | none => false, inC := true }

inductive MCn (K : Kc) : Cn → Expr → Prop
  | own {c x p} : x = Str.ofString c → K.gl x = true → K.cls.contains c = true → MCn K (.own c) (.Name x p)
  | ty {c n x p} : cnName c = some n → x = Str.ofString n → K.gl x = true → MCn K c (.Name x p)
inductive MCns (K : Kc) : List Cn → List Expr → Prop
  | nil : MCns K [] []
  | cons {c x cs xs} : MCn K c x → MCns K cs xs → MCns K (c :: cs) (x :: xs)
inductive MTg (K : Kc) : Tg → Expr → Prop
  | one {i x p} : K.tgt i x = true → MTg K (.one i) (.Name x p)
  | two {i j x y p q k pos} : K.tgt i x = true → K.tgt j y = true → MTg K (.two i j) (.Tuple [.Name x p, .Name y q] k pos)

mutual
inductive ME : Kc → Ex → Expr → Prop
  | none {K k p} : ME K .none (.Constant .none k p)
  | bool {K b k p} : ME K (.bool b) (.Constant (.bool b) k p)
  | int {K i k p} : ME K (.int i) (.Constant (.int i) k p)
  | str {K s x k p} : x = Str.ofString s → ME K (.str s) (.Constant (.str x) k p)
  | var {K i x p} : K.var i x = true → ME K (.var i) (.Name x p)
  | glob {K x n y p} : y = Str.ofString x → K.gl y = true → K.gint.lookup x = some n → ME K (.glob x n) (.Name y p)
  | bin {K op a b l o r p} : o = opOf op → ME K a l → ME K b r → ME K (.bin op a b) (.BinOp l o r p)
  | neg {K a x p} : ME K a x → ME K (.neg a) (.UnaryOp .USub x p)
  | nt {K a x p} : ME K a x → ME K (.nt a) (.UnaryOp .Not x p)
  | cmp {K op a b l o r p} : o = cmOf op → behindInMarks o r = false → ME K a l → ME K b r → ME K (.cmp op a b) (.Compare l [o] [r] p)
  | cmp2 {K o1 o2 a b c l p1 p2 r t p} : p1 = cmOf o1 → p2 = cmOf o2 → lastMarks [p1, p2] [r, t] = false → ME K a l → ME K b r → ME K c t → ME K (.cmp2 o1 o2 a b c) (.Compare l [p1, p2] [r, t] p)
  | and {K es xs p} : MEs K es xs → ME K (.bop true es) (.BoolOp .And xs p)
  | or {K es xs p} : MEs K es xs → ME K (.bop false es) (.BoolOp .Or xs p)
  | ife {K c a b x y z p} : ME K c x → ME K a y → ME K b z → ME K (.ife c a b) (.IfExp x y z p)
  | list {K es xs p} : MEs K es xs → ME K (.list es) (.List xs p)
  | tup {K es xs k p} : MEs K es xs → ME K (.tup es) (.Tuple xs k p)
  | dict0 {K p} : ME K .dict0 (.Dict [] [] p)
  | idx {K e i x y p} : (∀ o i, subscripted y false o i = operate [o, i] (getItem o i)) → ME K e x → ME K i y → ME K (.idx e i) (.Subscript x y p)
  | call {K f es y x xs q p} : y = Str.ofString f → K.gl y = true → K.fns.contains f = true → MEs K es (x :: xs) → ME K (.call f es) (.Call (.Name y q) (x :: xs) [] p)
  | bc {K f es y x xs q p} : y = Str.ofString (bfName f) → K.gl y = true → MEs K es (x :: xs) → ME K (.bc f es) (.Call (.Name y q) (x :: xs) [] p)
  | mt {K m o es y x xs ap p} : m ≠ .popD → y = Str.ofString (mtName m) → (apos_ok : (ap.endLine == p.line) = true) → (∀ env : Env, attributeBase x y env (eval x env) = eval x env) → xs.length < 29 → ME K o x → MEs K es xs → ME K (.mt m o es) (.Call (.Attribute x y ap) xs [] p)
  | isi1 {K e c x y z q p} : z = Str.ofString "isinstance" → K.gl z = true → ME K e x → MCn K c y → ME K (.isi e [c]) (.Call (.Name z q) [x, y] [] p)
  | isiN {K e c d cs x ys k t z q p} : z = Str.ofString "isinstance" → K.gl z = true → cs.length < 1000 → ME K e x → MCns K (c :: d :: cs) ys → ME K (.isi e (c :: d :: cs)) (.Call (.Name z q) [x, .Tuple ys k t] [] p)
  | comp {K elt t src x tx sx scope p} : K.inC = false → cOk K scope t = true →
      (∀ env : Env, env.scope = K.sc → ∀ v, foldedSetIterable sx env v = pure v) → MSr K src sx → MTg (K.comp scope) t tx → ME (K.comp scope) elt x → ME K (.comp elt t src) (.ListComp x [⟨tx, sx, [], 0⟩] scope p)
  | compIf {K elt t src c x tx sx cx scope p} : K.inC = false → cOk K scope t = true →
      (∀ env : Env, env.scope = K.sc → ∀ v, foldedSetIterable sx env v = pure v) → MSr K src sx → MTg (K.comp scope) t tx → ME (K.comp scope) elt x → ME (K.comp scope) c cx → ME K (.compIf elt t src c) (.ListComp x [⟨tx, sx, [cx], 0⟩] scope p)
inductive MEs : Kc → Exs → List Expr → Prop
  | nil {K} : MEs K .nil []
  | cons {K e x r xs} : ME K e x → MEs K r xs → MEs K (.cons e r) (x :: xs)
inductive MSr : Kc → Sr → Expr → Prop
  | ex {K e x} : ME K e x → MSr K (.ex e) x
  | range1 {K b y q x p} : y = Str.ofString "range" → K.gl y = true → ME K b x → MSr K (.range1 b) (.Call (.Name y q) [x] [] p)
end

structure Tx (W : Wd) where
  G : Addr
  B : Addr
  mg : Str → Option Value
  mb : Str → Option Value
  hG : W.base.Ns G mg
  hB : W.base.Ns B mb
  mods : (W.base.get? cStatics).isSome = true
  gint : List (String × Int)
  hgint : ∀ x n, gint.lookup x = some n → ∃ t, mg (Str.ofString x) = some (.int n t)
  fns : List String
  hfns : ∀ f, fns.contains f = true → ∃ a o fd, mg (Str.ofString f) = some (.ref a) ∧ W.base.get? a = some o ∧ o.data = .func fd
  cls : List String
  frag : PySem.W.Frag
  hfrag : frag.In W.base
  anc : String → List String
  kty : ∀ t ∈ ["NoneType", "bool", "int", "str", "tuple", "list", "dict"], ∀ n ∈ ["int", "bool", "list", "tuple"], PySem.W.kitOne frag (.type t) (.type n) = some (isiTy t n)
  kown : ∀ d D c C, W.cls d = some D → W.cls c = some C → PySem.W.kitOne frag (.ref D) (.ref C) = some ((anc d).contains c)
  kval : ∀ d D, W.cls d = some D → PySem.W.kitOne frag (.ref D) (.type "ValueError") = some true
  kcl : ∀ d D, W.cls d = some D → ExcCls frag D
  ksub : ∀ d D c C, W.cls d = some D → W.cls c = some C → PySem.W.subIn frag (.ref D) (.ref C) = some ((anc d).contains c)
  own : ∀ f, cls.contains f = true → ∃ C, W.cls f = some C ∧ OwnCls (Str.ofString f) C [.type "ValueError", .type "Exception", .type "BaseException", .type "object"] "ValueError.__new__" mg W.base
  cns : ∀ c n, cnName c = some n → mg (Str.ofString n) = none ∧ mb (Str.ofString n) = some (.type n)
  bfs : ∀ f : BF, mg (Str.ofString (bfName f)) = none ∧ mb (Str.ofString (bfName f)) = some (bfOf f)
  isi : mg (Str.ofString "isinstance") = none ∧ mb (Str.ofString "isinstance") = some (.builtin "isinstance")
  rng : mg (Str.ofString "range") = none ∧ mb (Str.ofString "range") = some (.type "range")
  enm : mg (Str.ofString "enumerate") = none ∧ mb (Str.ofString "enumerate") = some (.type "enumerate")
  zip : mg (Str.ofString "zip") = none ∧ mb (Str.ofString "zip") = some (.type "zip")

theorem Tx.hcls {W : Wd} (T : Tx W) (f : String) (h : T.cls.contains f = true) : ∃ C, T.mg (Str.ofString f) = some (.ref C) ∧ W.cls f = some C := let ⟨C, e, O⟩ := T.own f h; ⟨C, O.bound, e⟩
structure CxOk {W : Wd} (T : Tx W) (c : Cx) (K : Kc) (hd : Bool) : Prop where
  sc : c.env.scope = K.sc
  kind : K.sc.kind = .function
  names : c.names = K.names
  vis : c.vis = K.vis
  gint : K.gint = T.gint
  fns : K.fns = T.fns
  cls : K.cls = T.cls
  glob : c.env.globals = T.G
  bi : c.env.builtins = T.B
  hand : hd = false → c.A.handled = none
  units : c.A.units + 20 < cLine
  frames : c.A.frames = some c.fenvs
  inj : ∀ (i j : Nat) (x y : String), c.names[i]? = some x → c.names[j]? = some y → Str.ofString x = Str.ofString y → i = j
  cellOwn : ∀ x a, c.env.cells.lookup x = some a → K.inC = false → a ∈ c.own
  cellFr : ∀ x a, c.env.cells.lookup x = some a → a ∉ c.frs
  cellKind : ∀ x, c.env.kindOf x = some .cell → ∃ a, c.env.cells.lookup x = some a
  cellInj : ∀ x y a, c.env.cells.lookup x = some a → c.env.cells.lookup y = some a → x = y

section
variable {W : Wd} {c : Cx} {P : Addr → Obj → Prop} {ρ : Loc} {H : Hp} {s : Shared} {Q : V → Hp → Prop} {X : String → Hp → Prop}

noncomputable def Fly (W : Wd) (P : Addr → Obj → Prop) (f : Option Addr) (h : Heap) (e : Value) (k : String) : Prop :=
  ∃ a C oe vs a0, e = .ref a ∧ W.cls k = some C ∧ h.get? a = some oe ∧ oe.cls = .ref C ∧ oe.data = .fields vs ∧ vs[0]? = some a0 ∧ W.base.get? a = none ∧ (∀ o, ¬ P a o) ∧
    (vs[1]? = some .none ∨ ∃ T oT ts fl, vs[1]? = some (.ref T) ∧ T ≠ a ∧ W.base.get? T = none ∧ (∀ o, ¬ P T o) ∧ h.get? T = some oT ∧ oT.data = .fields ts ∧ ts[3]? = some fl ∧ (fl = .none ∨ ∃ L, f = some L ∧ fl = rawInt L))
theorem Fly.weaken {P' : Addr → Obj → Prop} {f : Option Addr} {h : Heap} {e : Value} {k : String} (x : Fly W P' f h e k) (q : ∀ b o, P b o → P' b o) : Fly W P f h e k := by
  obtain ⟨a, C, oe, vs, a0, h1, h2, h3, h4, h5, h6, h7, h8, h9⟩ := x
  refine ⟨a, C, oe, vs, a0, h1, h2, h3, h4, h5, h6, h7, fun o p => h8 o (q _ _ p), h9.imp id ?_⟩
  rintro ⟨T, oT, ts, fl, t1, t2, t3, t4, t5⟩
  exact ⟨T, oT, ts, fl, t1, t2, t3, fun o p => t4 o (q _ _ p), t5⟩

noncomputable def EX (W : Wd) (c : Cx) (P : Addr → Obj → Prop) (ρ : Loc) (X : String → Hp → Prop) : Value → Shared → Prop := fun e s' => ∃ k H', Sim W c P ρ H' s' ∧ Fly W P c.env.frame s'.heap e k ∧ X k H'
theorem EX.weaken {P' : Addr → Obj → Prop} {e : Value} {s' : Shared} (h : EX W c P' ρ X e s') (q : ∀ b o, P b o → P' b o) : EX W c P ρ X e s' :=
  let ⟨k, H', S, F, x⟩ := h; ⟨k, H', S.weaken q, F.weaken q, x⟩

noncomputable def SE (W : Wd) (c : Cx) (G : Gl) (hd : Bool) (e : Ex) (x : Expr) : Prop := ∀ (P : Addr → Obj → Prop) (ρ : Loc) (H : Hp) (s : Shared) (Q : V → Hp → Prop) (X : String → Hp → Prop), Sim W c P ρ H s → wpE G hd e ρ Q X H → wpAny (model W.prog W.w) c.A (eval x c.env) (PE W c P ρ Q) (EX W c P ρ X) s
noncomputable def ST (W : Wd) (c : Cx) (G : Gl) (hd : Bool) (e : Ex) (x : Expr) : Prop := ∀ (P : Addr → Obj → Prop) (ρ : Loc) (H : Hp) (s : Shared) (B : Bool → Hp → Prop) (X : String → Hp → Prop), Sim W c P ρ H s → wpE G hd e ρ (asB B) X H →
  wpAny (model W.prog W.w) c.A (isTrue x c.env (eval x c.env)) (fun b s' => ∃ H', Sim W c P ρ H' s' ∧ B b H') (EX W c P ρ X) s
noncomputable def SEs (W : Wd) (c : Cx) (G : Gl) (hd : Bool) (es : Exs) (xs : List Expr) : Prop := ∀ (P : Addr → Obj → Prop) (ρ : Loc) (H : Hp) (s : Shared) (Q : List V → Hp → Prop) (X : String → Hp → Prop) (pos : Pos), Sim W c P ρ H s → wpEs G hd es ρ Q X H →
  wpAny (model W.prog W.w) c.A (spliced (backTo pos (starEach xs c.env))) (fun us s' => ∃ vs H', Sim W c P ρ H' s' ∧ Reps W s'.heap vs us ∧ Q vs H') (EX W c P ρ X) s

theorem ME.star {K : Kc} {e : Ex} {x : Expr} {xs : List Expr} {env : Env} (h : ME K e x) : starEach (x :: xs) env = (false, eval x env) :: starEach xs env := by cases h <;> rfl

theorem SE.max {G : Gl} {hd : Bool} {e : Ex} {x : Expr} (h : SE W c G hd e x) (S : Sim W c P ρ H s) (w : wpE G hd e ρ Q X H) :
    wpAny (model W.prog W.w) c.A (eval x c.env) (fun u s' => KeepR s.heap s'.heap ∧ PE W c P ρ Q u s') (EX W c P ρ X) s :=
  wpAny_mono (h _ ρ H s Q X S.max w) (fun u s' ⟨v, H', S', r, q⟩ => ⟨S.keepR S', v, H', S'.weaken S.le_max, r, q⟩) fun _ _ x => x.weaken S.le_max

theorem SE.two {G : Gl} {hd : Bool} {a b : Ex} {l r : Expr} (ha : SE W c G hd a l) (hb : SE W c G hd b r) {R : V → V → Hp → Prop} (S : Sim W c P ρ H s) (w : wpE G hd a ρ (fun x H₁ => wpE G hd b ρ (fun y H₂ => R x y H₂) X H₁) X H) :
    wpAny (model W.prog W.w) c.A (eval l c.env) (fun u s₁ => wpAny (model W.prog W.w) c.A (eval r c.env) (fun v s₂ => ∃ x y H₂, Sim W c P ρ H₂ s₂ ∧ Rep W s₂.heap x u ∧ Rep W s₂.heap y v ∧ R x y H₂) (EX W c P ρ X) s₁) (EX W c P ρ X) s :=
  wpAny_mono (ha P ρ H s _ X S w) (fun u s₁ ⟨x, H₁, S₁, rx, w₁⟩ => wpAny_mono (hb.max S₁ w₁) (fun v s₂ ⟨k, y, H₂, S₂, ry, q⟩ => ⟨x, y, H₂, S₂, rx.mono k, ry, q⟩) fun _ _ x => x) fun _ _ x => x

theorem Sim.gl {T : Tx W} {K : Kc} {hd : Bool} (S : Sim W c P ρ H s) (C : CxOk T c K hd) : s.heap.Ns c.env.globals T.mg := by rw [C.glob]; exact T.hG.at' fun o e => S.base _ _ e
theorem Sim.bi {T : Tx W} {K : Kc} {hd : Bool} (S : Sim W c P ρ H s) (C : CxOk T c K hd) : s.heap.Ns c.env.builtins T.mb := by rw [C.bi]; exact T.hB.at' fun o e => S.base _ _ e

theorem Kc.gl_spec {K : Kc} {x : Str} (h : K.gl x = true) : K.sc.names.lookup x = some .globalImplicit ∧ (x == ("__debug__" : Str)) = false := by
  unfold Kc.gl at h
  simp only [Bool.and_eq_true, beq_iff_eq, Bool.not_eq_true'] at h
  exact h
theorem Kc.tgt_kind {K : Kc} {i : Nat} {x : Str} (h : K.tgt i x = true) : K.sc.names.lookup x = some .local ∨ (K.sc.names.lookup x = some .cell ∧ K.inC = false) := by
  unfold Kc.tgt at h
  simp only [Bool.and_eq_true, Bool.or_eq_true, beq_iff_eq, Bool.not_eq_true'] at h
  exact h.2
theorem Kc.at_spec {K : Kc} {i : Nat} {x : Str} (h : (K.vis i && (match K.names[i]? with | some y => Str.ofString y == x | none => false)) = true) : K.vis i = true ∧ ∃ y, K.names[i]? = some y ∧ Str.ofString y = x := by
  simp only [Bool.and_eq_true] at h
  obtain ⟨h1, h2⟩ := h
  split at h2
  · rename_i y e; exact ⟨h1, y, e, by simpa using h2⟩
  · cases h2
theorem Kc.tgt_spec {K : Kc} {i : Nat} {x : Str} (h : K.tgt i x = true) : K.vis i = true ∧ ∃ y, K.names[i]? = some y ∧ Str.ofString y = x := by
  unfold Kc.tgt at h
  rw [Bool.and_eq_true] at h
  exact Kc.at_spec h.1
theorem Kc.var_spec {K : Kc} {i : Nat} {x : Str} (h : K.var i x = true) : K.vis i = true ∧ (∃ y, K.names[i]? = some y ∧ Str.ofString y = x) ∧ (x == ("__debug__" : Str)) = false := by
  unfold Kc.var at h
  simp only [Bool.and_eq_true, Bool.not_eq_true'] at h
  obtain ⟨⟨h1, h2⟩, h3⟩ := h
  obtain ⟨a, b⟩ := Kc.at_spec (K := K) (i := i) (x := x) (by simp only [Bool.and_eq_true]; exact ⟨h1, h2⟩)
  exact ⟨a, b, h3⟩

theorem CxOk.kindF {T : Tx W} {K : Kc} {hd : Bool} (C : CxOk T c K hd) : c.env.scope.kind = .function := by rw [C.sc]; exact C.kind
theorem CxOk.kindG {T : Tx W} {K : Kc} {hd : Bool} (C : CxOk T c K hd) {x : Str} (h : K.gl x = true) : c.env.kindOf x = some .globalImplicit := by unfold Env.kindOf; rw [C.sc]; exact (Kc.gl_spec h).1

noncomputable def GOk {W : Wd} (T : Tx W) (G : Gl) (A : Around) : Prop := ∀ (c : Cx) (K : Kc), c.A = A → CxOk T c K false → ∀ (f : String) (vs : List V) (us : List Value) (P : Addr → Obj → Prop) (ρ : Loc) (H : Hp) (s : Shared) (Q : V → Hp → Prop) (X : String → Hp → Prop) (a : Addr),
  Sim W c P ρ H s → Reps W s.heap vs us → T.mg (Str.ofString f) = some (.ref a) → G.call f vs Q X H → wpAny (model W.prog W.w) c.A (call (.ref a) us) (PE W c P ρ Q) (EX W c P ρ X) s

theorem sound_global {T : Tx W} {K : Kc} {hd : Bool} {x : Str} {v : Value} {p : Pos} {E : Value → Shared → Prop} {Q : Value → Shared → Prop} (C : CxOk T c K hd) (S : Sim W c P ρ H s) (g : K.gl x = true) (e : T.mg x = some v) (h : Q v s) :
    wpAny (model W.prog W.w) c.A (eval (.Name x p) c.env) Q E s := Name_function_global C.kindF (C.kindG g) (loadGlobal_global (S.gl C) e h) (Kc.gl_spec g).2
theorem sound_builtin {T : Tx W} {K : Kc} {hd : Bool} {x : Str} {v : Value} {p : Pos} {E : Value → Shared → Prop} {Q : Value → Shared → Prop} (C : CxOk T c K hd) (S : Sim W c P ρ H s) (g : K.gl x = true) (e : T.mg x = none ∧ T.mb x = some v) (h : Q v s) :
    wpAny (model W.prog W.w) c.A (eval (.Name x p) c.env) Q E s := Name_function_global C.kindF (C.kindG g) (loadGlobal_builtin (S.gl C) e.1 (S.bi C) e.2 h) (Kc.gl_spec g).2

theorem sound_var {T : Tx W} {K : Kc} {hd : Bool} {G : Gl} {i : Nat} {x : Str} {p : Pos} (C : CxOk T c K hd) (g : K.var i x = true) : SE W c G hd (.var i) (.Name x p) := by
  intro P ρ H s Q X S w
  obtain ⟨h1, ⟨y, h2, rfl⟩, h3⟩ := Kc.var_spec g
  simp only [wpE] at w
  split at w
  · rename_i v e
    obtain ⟨m, hn, hv⟩ := S.loc
    rcases hv i y v (by rw [C.vis]; exact h1) (by rw [C.names]; exact h2) e with ⟨k, u, hu, r⟩ | ⟨k, cl, o, u, hc, ho, hd, r⟩
    · exact wpAny_Name (wpAny_loadName_local C.kindF k hn hu (pe_same S r w)) h3
    · exact wpAny_Name (wpAny_loadName_cell C.kindF k hc ⟨o, ho, hd⟩ (pe_same S r w)) h3
  · exact w.elim
end
end Mine.Internal
end

section
namespace Mine.Internal
open PySem PySem.Calls PyProof.Rows PySem.SeqAt
section
variable {W : Wd} {T : Tx W} {c : Cx} {K : Kc} {hd : Bool} {G : Gl}

theorem se_const {k p} : SE W c G hd .none (.Constant .none k p) := fun P ρ H s Q X S w => Constant_none (pe_same S .none w)
theorem se_bool {b k p} : SE W c G hd (.bool b) (.Constant (.bool b) k p) := fun P ρ H s Q X S w => Constant_bool (pe_same S (.bool b) w)
theorem se_int {i k p} : SE W c G hd (.int i) (.Constant (.int i) k p) := fun P ρ H s Q X S w => wpAny_Constant_int (pe_int S w)
theorem se_str {x k p} : SE W c G hd (.str x) (.Constant (.str (Str.ofString x)) k p) := fun P ρ H s Q X S w => Constant_str ⟨_, H, S.toks _, .str _ _, w⟩
theorem se_glob {x n p} (C : CxOk T c K hd) (g : K.gl (Str.ofString x) = true) (e : K.gint.lookup x = some n) : SE W c G hd (.glob x n) (.Name (Str.ofString x) p) := fun P ρ H s Q X S w => by
  obtain ⟨t, h⟩ := T.hgint x n (C.gint ▸ e)
  exact sound_global C S g h (pe_same S (.int n t) w)
theorem se_bin {op a b l r p} (ha : SE W c G hd a l) (hb : SE W c G hd b r) : SE W c G hd (.bin op a b) (.BinOp l (opOf op) r p) := fun P ρ H s Q X S w => by
  rw [wpE] at w
  exact wpAny_BinOp (wpAny_mono (ha.two hb S w) (fun u s₁ h₁ => wpAny_mono h₁ (fun v s₂ ⟨x, y, H₂, S₂, rx, ry, q⟩ => sound_bin S₂ rx ry q) fun _ _ x => x) fun _ _ x => x)
theorem se_neg {a x p} (ha : SE W c G hd a x) : SE W c G hd (.neg a) (.UnaryOp .USub x p) := fun P ρ H s Q X S w => by
  rw [wpE] at w
  refine UnaryOp_ (wpAny_mono (ha P ρ H s _ X S w) (fun u s₁ ⟨v, H₁, S₁, r, q⟩ => ?_) fun _ _ x => x)
  dsimp only at q
  split at q
  · cases r; exact neg_int (pe_int S₁ q)
  · exact q.elim
theorem truthy_of {E : Value → Shared → Prop} {P : Addr → Obj → Prop} {ρ : Loc} {s : Shared} {u : Value} {B : Bool → Hp → Prop} {R : Bool → Shared → Prop} (h : PE W c P ρ (asB B) u s) (k : ∀ b H', u = .bool b → Sim W c P ρ H' s → B b H' → R b s) : wpAny (model W.prog W.w) c.A (truthy u) R E s := by
  obtain ⟨v, H', S, r, q⟩ := h
  unfold asB at q
  split at q
  · cases r; exact wpAny_truthy_bool (k _ H' rfl S q)
  · exact q.elim
theorem se_nt {a x p} (ha : SE W c G hd a x) : SE W c G hd (.nt a) (.UnaryOp .Not x p) := fun P ρ H s Q X S w => by
  rw [wpE] at w
  exact UnaryOp_ (wpAny_mono (ha P ρ H s _ X S w) (fun u s₁ h => not_of (truthy_of h fun b H' _ S' q => pe_bool S' q)) fun _ _ x => x)
theorem pb_pe {P : Addr → Obj → Prop} {ρ : Loc} {s : Shared} {u : Value} {Q : V → Hp → Prop} (h : PB W c P ρ (fun b H' => Q (.bool b) H') u s) : PE W c P ρ Q u s := by
  obtain ⟨b, H', rfl, S, q⟩ := h; exact pe_bool S q
theorem se_cmp {op a b l r p} (C : CxOk T c K hd) (hm : behindInMarks (cmOf op) r = false) (ha : SE W c G hd a l) (hb : SE W c G hd b r) : SE W c G hd (.cmp op a b) (.Compare l [cmOf op] [r] p) := fun P ρ H s Q X S w => by
  rw [wpE] at w
  exact wpAny_Compare1 (wpAny_mono (ha.two hb S w) (fun u s₁ h₁ => wpAny_mono h₁ (fun v s₂ ⟨x, y, H₂, S₂, rx, ry, q⟩ => wpAny_mono (sound_cmp S₂ C.units T.mods rx ry q) (fun _ _ z => pb_pe z) fun _ _ x => x) fun _ _ x => x) fun _ _ x => x) hm
theorem st_cmp {op a b l r p} (C : CxOk T c K hd) (hm : behindInMarks (cmOf op) r = false) (ha : SE W c G hd a l) (hb : SE W c G hd b r) : ST W c G hd (.cmp op a b) (.Compare l [cmOf op] [r] p) := fun P ρ H s B X S w => by
  rw [wpE] at w
  refine wpAny_isTrue_Compare1 (wpAny_mono (ha.two hb S w) (fun u s₁ h₁ => wpAny_mono h₁ (fun v s₂ ⟨x, y, H₂, S₂, rx, ry, q⟩ => wpAny_mono (sound_cmp (B := fun b H' => asB B (.bool b) H') S₂ C.units T.mods rx ry q) (fun t s₃ z => ?_) fun _ _ x => x) fun _ _ x => x) fun _ _ x => x) hm
  obtain ⟨b, H', rfl, S₃, q⟩ := z
  exact wpAny_truthy_bool ⟨H', S₃, q⟩
theorem st_plain {e x} (h : SE W c G hd e x) (he : ∀ whole, isTrue x c.env whole = (do let v ← whole; standAt x.pos; holding [v] (truthy v))) : ST W c G hd e x := fun P ρ H s B X S w =>
  isTrue_plain (wpAny_mono (h P ρ H s _ X S w) (fun u s₁ h₁ => truthy_of h₁ fun b H' _ S' q => ⟨H', S', q⟩) fun _ _ x => x) (he _)
theorem st_nt {a x p} (ha : ST W c G hd a x) : ST W c G hd (.nt a) (.UnaryOp .Not x p) := fun P ρ H s B X S w => by
  rw [wpE] at w
  exact isTrue_not (ha P ρ H s _ X S w)
theorem se_cmp2 {o1 o2 a b d l r t p} (C : CxOk T c K hd) (hm : lastMarks [cmOf o1, cmOf o2] [r, t] = false) (ha : SE W c G hd a l) (hb : SE W c G hd b r) (hc : SE W c G hd d t) : SE W c G hd (.cmp2 o1 o2 a b d) (.Compare l [cmOf o1, cmOf o2] [r, t] p) := fun P ρ H s Q X S w => by
  rw [wpE] at w
  refine Compare_chain (wpAny_mono (ha.two hb S w) (fun u s₁ h₁ => chain_link (wpAny_mono h₁ (fun v s₂ ⟨x, y, H₂, S₂, rx, ry, q⟩ => wpAny_mono (sound_cmp S₂.max C.units T.mods rx ry q) (fun z s₃ hz => ?_) fun _ _ x => x) fun _ _ x => x)) fun _ _ x => x) hm
  obtain ⟨b', H₃, rfl, S₃, q⟩ := hz
  have ry' := ry.mono (S₂.keepR S₃)
  have S₃ := S₃.weaken S₂.le_max
  refine wpAny_truthy_bool ?_
  cases b' with
  | false => simpa using pe_bool S₃ (by simpa using q)
  | true =>
    simp only [if_true] at q ⊢
    refine chain_last (wpAny_mono (hc.max S₃ q) (fun w s₄ ⟨k, z, H₄, S₄, rz, q⟩ => ?_) fun _ _ x => x)
    exact wpAny_mono (sound_cmp S₄ C.units T.mods (ry'.mono k) rz q) (fun _ _ z => pb_pe z) fun _ _ x => x
theorem st_cmp2 {o1 o2 a b d l r t p} (C : CxOk T c K hd) (hm : lastMarks [cmOf o1, cmOf o2] [r, t] = false) (ha : SE W c G hd a l) (hb : SE W c G hd b r) (hc : SE W c G hd d t) : ST W c G hd (.cmp2 o1 o2 a b d) (.Compare l [cmOf o1, cmOf o2] [r, t] p) := fun P ρ H s B X S w => by
  rw [wpE] at w
  refine isTrue_chain (wpAny_mono (ha.two hb S w) (fun u s₁ h₁ => test_link (wpAny_mono h₁ (fun v s₂ ⟨x, y, H₂, S₂, rx, ry, q⟩ => wpAny_mono (sound_cmp S₂.max C.units T.mods rx ry q) (fun z s₃ hz => ?_) fun _ _ x => x) fun _ _ x => x)) fun _ _ x => x) hm
  obtain ⟨b', H₃, rfl, S₃, q⟩ := hz
  have ry' := ry.mono (S₂.keepR S₃)
  have S₃ := S₃.weaken S₂.le_max
  refine wpAny_truthy_bool ?_
  cases b' with
  | false => exact ⟨H₃, S₃, by simpa [asB] using q⟩
  | true =>
    simp only [if_true] at q ⊢
    refine test_last (wpAny_mono (hc.max S₃ q) (fun w s₄ ⟨k, z, H₄, S₄, rz, q⟩ => ?_) fun _ _ x => x)
    refine wpAny_mono (sound_cmp (B := fun b H' => asB B (.bool b) H') S₄ C.units T.mods (ry'.mono k) rz q) (fun t s₅ z => ?_) fun _ _ x => x
    obtain ⟨b, H', rfl, S₅, q⟩ := z
    exact wpAny_truthy_bool ⟨H', S₅, q⟩
theorem se_ife {d a b x y z p} (hc : ST W c G hd d x) (ha : SE W c G hd a y) (hb : SE W c G hd b z) : SE W c G hd (.ife d a b) (.IfExp x y z p) := fun P ρ H s Q X S w => by
  rw [wpE] at w
  refine IfExp_ (wpAny_mono (hc P ρ H s _ X S w) (fun t s₁ ⟨H₁, S₁, q⟩ => ?_) fun _ _ x => x)
  cases t with
  | true => simp only [if_true] at q ⊢; exact ha P ρ H₁ s₁ Q X S₁ q
  | false => simp only [Bool.false_eq_true, if_false] at q ⊢; exact hb P ρ H₁ s₁ Q X S₁ q
theorem st_ife {d a b x y z p} (hc : ST W c G hd d x) (ha : ST W c G hd a y) (hb : ST W c G hd b z) : ST W c G hd (.ife d a b) (.IfExp x y z p) := fun P ρ H s B X S w => by
  rw [wpE] at w
  refine isTrue_IfExp (wpAny_mono (hc P ρ H s _ X S w) (fun t s₁ ⟨H₁, S₁, q⟩ => ?_) fun _ _ x => x)
  cases t with
  | true => simp only [if_true] at q ⊢; exact ha P ρ H₁ s₁ B X S₁ q
  | false => simp only [Bool.false_eq_true, if_false] at q ⊢; exact hb P ρ H₁ s₁ B X S₁ q

theorem ses_nil : SEs W c G hd .nil [] := fun P ρ H s Q X pos S w => spliced_nil ⟨[], H, S, .nil, by simpa [wpEs] using w⟩
theorem ses_cons {e r x xs} (he : ∀ ys env, starEach (x :: ys) env = (false, eval x env) :: starEach ys env) (h1 : SE W c G hd e x) (h2 : SEs W c G hd r xs) : SEs W c G hd (.cons e r) (x :: xs) := fun P ρ H s Q X pos S w => by
  rw [wpEs] at w
  rw [he]
  refine spliced_cons (wpAny_mono (h1 P ρ H s _ X S w) (fun u s₁ ⟨v, H₁, S₁, rv, q⟩ => ?_) fun _ _ x => x)
  refine wpAny_mono (h2 _ ρ H₁ s₁ _ X pos S₁.max q) (fun us s₂ ⟨vs, H₂, S₂, rs, q⟩ => ?_) fun _ _ x => x.weaken S₁.le_max
  exact ⟨v :: vs, H₂, S₂.weaken S₁.le_max, .cons (rv.mono (S₁.keepR S₂)) rs, q⟩
theorem SEs.max {es xs} {P : Addr → Obj → Prop} {ρ : Loc} {H : Hp} {s : Shared} {Q : List V → Hp → Prop} {X : String → Hp → Prop} {pos : Pos} (h : SEs W c G hd es xs) (S : Sim W c P ρ H s) (w : wpEs G hd es ρ Q X H) :
    wpAny (model W.prog W.w) c.A (spliced (backTo pos (starEach xs c.env))) (fun us s' => KeepR s.heap s'.heap ∧ ∃ vs H', Sim W c P ρ H' s' ∧ Reps W s'.heap vs us ∧ Q vs H') (EX W c P ρ X) s :=
  wpAny_mono (h _ ρ H s Q X pos S.max w) (fun u s' ⟨v, H', S', r, q⟩ => ⟨S.keepR S', v, H', S'.weaken S.le_max, r, q⟩) fun _ _ x => x.weaken S.le_max
theorem se_list {es xs p} (h : SEs W c G hd es xs) : SE W c G hd (.list es) (.List xs p) := fun P ρ H s Q X S w => by
  rw [wpE] at w
  show wpAny _ _ (do standAt p; newList (← spliced (backTo p (starEach xs c.env)))) _ _ s
  exact wpAny_bind (wpAny_standAt (wpAny_bind (wpAny_mono (h P ρ H s _ X p S w) (fun us s₁ ⟨vs, H₁, S₁, r, q⟩ => sound_newList S₁ r q) fun _ _ x => x)))
theorem se_tup {es xs k p} (h : SEs W c G hd es xs) : SE W c G hd (.tup es) (.Tuple xs k p) := fun P ρ H s Q X S w => by
  rw [wpE] at w
  show wpAny _ _ (do standAt p; newTuple (← spliced (backTo p (starEach xs c.env)))) _ _ s
  exact wpAny_bind (wpAny_standAt (wpAny_bind (wpAny_mono (h P ρ H s _ X p S w) (fun us s₁ ⟨vs, H₁, S₁, r, q⟩ => sound_newTuple S₁ r q.1 q.2) fun _ _ x => x)))
theorem se_dict0 {p} (hb : (W.base.get? cStatics).isSome = true) : SE W c G hd .dict0 (.Dict [] [] p) := fun P ρ H s Q X S w => by
  rw [wpE] at w
  have hn := size_none s.heap
  refine wpAny_Dict_empty ⟨.ref s.heap.objs.size, _, S.alloc (tk := s.toks) (o := .dict []) hn (fun b o e => Heap.get?_push_of_some _ e) ⟨⟨by simp [Lim], ?_⟩, [], ⟨_, _, _, Heap.get?_push_size _ rfl, ⟨rfl, rfl, rfl⟩, rfl, ?_, ?_, ?_⟩, .nil⟩, .ref _, w _ (S.hsize hn)⟩
  · obtain ⟨o, e⟩ := Option.isSome_iff_exists.mp hb
    have h2 : 2 < s.heap.objs.size := Heap.lt_size (S.base _ _ e)
    refine beq_eq_false_iff_ne.mpr fun q => ?_
    rw [q] at h2
    exact absurd h2 (by decide)
  · intro e he; simp at he
  · exact .nil
  · simp
theorem se_idx {e i x y p} (hs : ∀ o i, subscripted y false o i = operate [o, i] (getItem o i)) (h1 : SE W c G hd e x) (h2 : SE W c G hd i y) : SE W c G hd (.idx e i) (.Subscript x y p) := fun P ρ H s Q X S w => by
  rw [wpE] at w
  rw [eval_Subscript]
  exact wpAny_bind (wpAny_mono (h1.two h2 S w) (fun u s₁ h₁ => wpAny_bind (wpAny_holding (wpAny_mono h₁ (fun v s₂ ⟨x', y', H₂, S₂, rx, ry, q⟩ => wpAny_bind (wpAny_standAt (sound_idx (value := x) (slice := y) S₂ rx ry q hs))) fun _ _ x => x))) fun _ _ x => x)
end
end Mine.Internal
end

section
namespace Mine.Internal
open PySem PySem.Calls PyProof.Rows PySem.SeqAt
section
variable {W : Wd} {T : Tx W} {c : Cx} {K : Kc} {hd : Bool} {G : Gl}

inductive SB (W : Wd) (c : Cx) (G : Gl) (hd : Bool) : Exs → List Expr → Prop
  | nil : SB W c G hd .nil []
  | cons {e r x xs} : SE W c G hd e x → ST W c G hd e x → SB W c G hd r xs → SB W c G hd (.cons e r) (x :: xs)

theorem se_and {p} : ∀ {es xs}, SB W c G hd es xs → SE W c G hd (.bop true es) (.BoolOp .And xs p)
  | _, _, .nil => fun P ρ H s Q X S w => by simp [wpE, wpB] at w
  | _, _, .cons h1 h2 .nil => fun P ρ H s Q X S w => by
    simp only [wpE, wpB] at w
    exact BoolOp_one (h1 P ρ H s Q X S w)
  | _, _, .cons h1 h2 (.cons h3 h4 h5) => fun P ρ H s Q X S w => by
    simp only [wpE, wpB] at w
    have ih := se_and (p := p) (.cons h3 h4 h5)
    refine BoolOp_and (wpAny_mono (h1 P ρ H s _ X S w) (fun u s₁ h => truthy_of h fun b H' e S' q => ?_) fun _ _ x => x)
    cases b with
    | true => simp only [if_true] at q ⊢; exact ih P ρ H' s₁ Q X S' (by rw [wpE]; exact q)
    | false => simp only [Bool.false_eq_true, if_false] at q ⊢; subst e; exact pe_bool S' q
theorem se_or {p} : ∀ {es xs}, SB W c G hd es xs → SE W c G hd (.bop false es) (.BoolOp .Or xs p)
  | _, _, .nil => fun P ρ H s Q X S w => by simp [wpE, wpB] at w
  | _, _, .cons h1 h2 .nil => fun P ρ H s Q X S w => by
    simp only [wpE, wpB] at w
    exact BoolOp_one (h1 P ρ H s Q X S w)
  | _, _, .cons h1 h2 (.cons h3 h4 h5) => fun P ρ H s Q X S w => by
    simp only [wpE, wpB] at w
    have ih := se_or (p := p) (.cons h3 h4 h5)
    refine BoolOp_or (wpAny_mono (h1 P ρ H s _ X S w) (fun u s₁ h => truthy_of h fun b H' e S' q => ?_) fun _ _ x => x)
    cases b with
    | false => simp only [Bool.false_eq_true, if_false, if_true] at q ⊢; exact ih P ρ H' s₁ Q X S' (by rw [wpE]; exact q)
    | true => simp only [Bool.true_eq_false, if_false, if_true] at q ⊢; subst e; exact pe_bool S' q
theorem st_and {p} : ∀ {es xs}, SB W c G hd es xs → ST W c G hd (.bop true es) (.BoolOp .And xs p)
  | _, _, .nil => fun P ρ H s Q X S w => by simp [wpE, wpB] at w
  | _, _, .cons h1 h2 .nil => fun P ρ H s B X S w => by
    simp only [wpE, wpB] at w
    refine isTrue_and (wpAny_mono (h2 P ρ H s _ X S w) (fun b s₁ ⟨H', S', q⟩ => ?_) fun _ _ x => x)
    cases b with
    | true => simp only [if_true]; exact isTrue_and_nil ⟨H', S', q⟩
    | false => simp only [Bool.false_eq_true, if_false]; exact ⟨H', S', q⟩
  | _, _, .cons h1 h2 (.cons h3 h4 h5) => fun P ρ H s B X S w => by
    simp only [wpE, wpB] at w
    have ih := st_and (p := p) (.cons h3 h4 h5)
    refine isTrue_and (wpAny_mono (h2 P ρ H s _ X S w) (fun b s₁ ⟨H', S', q⟩ => ?_) fun _ _ x => x)
    cases b with
    | true => simp only [if_true] at q ⊢; exact ih P ρ H' s₁ B X S' (by rw [wpE]; exact q)
    | false => simp only [Bool.false_eq_true, if_false] at q ⊢; exact ⟨H', S', q⟩
theorem st_or {p} : ∀ {es xs}, SB W c G hd es xs → ST W c G hd (.bop false es) (.BoolOp .Or xs p)
  | _, _, .nil => fun P ρ H s Q X S w => by simp [wpE, wpB] at w
  | _, _, .cons h1 h2 .nil => fun P ρ H s B X S w => by
    simp only [wpE, wpB] at w
    refine isTrue_or (wpAny_mono (h2 P ρ H s _ X S w) (fun b s₁ ⟨H', S', q⟩ => ?_) fun _ _ x => x)
    cases b with
    | false => simp only [Bool.false_eq_true, if_false]; exact isTrue_or_nil ⟨H', S', q⟩
    | true => simp only [if_true]; exact ⟨H', S', q⟩
  | _, _, .cons h1 h2 (.cons h3 h4 h5) => fun P ρ H s B X S w => by
    simp only [wpE, wpB] at w
    have ih := st_or (p := p) (.cons h3 h4 h5)
    refine isTrue_or (wpAny_mono (h2 P ρ H s _ X S w) (fun b s₁ ⟨H', S', q⟩ => ?_) fun _ _ x => x)
    cases b with
    | false => simp only [Bool.false_eq_true, if_false, if_true] at q ⊢; exact ih P ρ H' s₁ B X S' (by rw [wpE]; exact q)
    | true => simp only [Bool.true_eq_false, if_false, if_true] at q ⊢; exact ⟨H', S', q⟩

end
end Mine.Internal
end

section
namespace Mine.Internal
open PySem PySem.Calls PyProof.Rows PySem.SeqAt
section
variable {W : Wd} {T : Tx W} {c : Cx} {K : Kc} {hd : Bool} {G : Gl}

theorem evalArgs_sp {M : Model} {A : Around} {E : Value → Shared → Prop} {s : Shared} {f : Value} {trees : List (Bool × Sem Value)} {Q : Args → Shared → Prop} (hp : trees.any (·.1) = false)
    (h : wpAny M A (spliced trees) (fun vs s' => Q ⟨vs, []⟩ s') E s) : wpAny M A (evalArgs f true trees []) Q E s := by
  cases trees with
  | nil =>
    unfold evalArgs
    show wpAny M A (spliced [] >>= _) Q E s
    refine wpAny_bind (wpAny_mono h (fun vs s' h' => ?_) fun _ _ x => x)
    refine wpAny_holding ?_
    exact wpAny_bind (wpAny_pure (wpAny_bind (wpAny_pure (wpAny_pure h'))))
  | cons a r =>
    obtain ⟨b, x⟩ := a
    simp only [List.any_cons, Bool.or_eq_false_iff] at hp
    obtain ⟨hb, _⟩ := hp
    subst hb
    exact evalArgs_plain h

theorem MEs.plain {pos : Pos} {env : Env} : ∀ {es : Exs} {xs : List Expr}, MEs K es xs → (backTo pos (starEach xs env)).any (·.1) = false
  | _, _, .nil => rfl
  | _, _, .cons h r => by
    rw [h.star]
    show (false || (backTo pos (starEach _ env)).any (·.1)) = false
    rw [r.plain]; rfl

theorem se_call {f es x xs q p} (C : CxOk T c K hd) (O : hd = false → GOk T G c.A) (g : K.gl (Str.ofString f) = true) (hf : K.fns.contains f = true) (ms : MEs K es (x :: xs)) (h : SEs W c G hd es (x :: xs)) :
    SE W c G hd (.call f es) (.Call (.Name (Str.ofString f) q) (x :: xs) [] p) := fun P ρ H s Q X S w => by
  rw [wpE] at w
  obtain ⟨rfl, w⟩ := w
  obtain ⟨a, o, fd, e1, e2, e3⟩ := T.hfns f (C.fns ▸ hf)
  refine wpAny_Call_Name_kw (sound_global C S g e1 ?_)
  refine callWith_function (o := o) (fd := fd) (evalArgs_sp ms.plain (wpAny_mono (h P ρ H s _ X p S w) (fun us s₁ ⟨vs, H₁, S₁, r, q⟩ => ⟨⟨S₁.base _ _ e2, e3⟩, ?_⟩) fun _ _ x => x))
  exact O rfl c K rfl C f vs us P ρ H₁ s₁ Q X a S₁ r e1 q
theorem se_bc {f es x xs q p} (hs : f ≠ .sorted) (C : CxOk T c K hd) (g : K.gl (Str.ofString (bfName f)) = true) (ms : MEs K es (x :: xs)) (h : SEs W c G hd es (x :: xs)) :
    SE W c G hd (.bc f es) (.Call (.Name (Str.ofString (bfName f)) q) (x :: xs) [] p) := fun P ρ H s Q X S w => by
  rw [wpE] at w
  obtain ⟨rfl, w⟩ := w
  refine wpAny_Call_Name_kw (sound_builtin C S g (T.bfs f) ?_)
  have go : ∀ f', f' = bfOf f → wpAny (model W.prog W.w) c.A (evalArgs f' true (backTo p (starEach (x :: xs) c.env)) []) (fun a s₁ => wpAny (model W.prog W.w) c.A (call (bfOf f) ([] ++ a.pos) a.kw) (PE W c P ρ Q) (EX W c P ρ X) s₁) (EX W c P ρ X) s := fun f' _ =>
    evalArgs_sp ms.plain (wpAny_mono (h P ρ H s _ X p S w) (fun us s₁ ⟨vs, H₁, S₁, r, q⟩ => sound_bc hs S₁ (C.hand rfl) T.mods r q) fun _ _ x => x)
  cases f
  · exact callWith_builtin ms.plain (go _ rfl)
  · exact callWith_builtin ms.plain (go _ rfl)
  · exact callWith_builtin ms.plain (go _ rfl)
  · exact callWith_builtin ms.plain (go _ rfl)
  · exact callWith_builtin ms.plain (go _ rfl)
  · exact absurd rfl hs
  · exact PySem.callWith_type ms.plain (go _ rfl)
  · exact PySem.callWith_type ms.plain (go _ rfl)

theorem mt_facts (m : Mt) : ∃ T', (T' = if m = .get ∨ m = .popD then "dict" else "list") ∧ PlainAttrs T' ∧ Slot T' (Str.ofString (mtName m)) (mtId m) ∧ typeOf (.builtin (mtId m)) = pure (.type "method_descriptor") := by
  cases m
  · exact ⟨_, rfl, F.plainAttrs_list, F.slot_list_append, F.type_list_append⟩
  · exact ⟨_, rfl, F.plainAttrs_list, F.slot_list_clear, F.type_list_clear⟩
  · exact ⟨_, rfl, F.plainAttrs_list, F.slot_list_count, F.type_list_count⟩
  · exact ⟨_, rfl, F.plainAttrs_dict, F.slot_dict_get, F.type_dict_get⟩
  · exact ⟨_, rfl, F.plainAttrs_list, F.slot_list_pop, F.type_list_pop⟩
  · exact ⟨_, rfl, F.plainAttrs_list, F.slot_list_reverse, F.type_list_reverse⟩
  · exact ⟨_, rfl, F.plainAttrs_dict, F.slot_dict_pop, F.type_dict_pop⟩

theorem se_mt {m o es x xs ap p} (hm : m ≠ .popD) (C : CxOk T c K hd) (hp : (ap.endLine == p.line) = true) (hb : attributeBase x (Str.ofString (mtName m)) c.env (eval x c.env) = eval x c.env) (hl : xs.length < 29) (ms : MEs K es xs)
    (h1 : SE W c G hd o x) (h2 : SEs W c G hd es xs) : SE W c G hd (.mt m o es) (.Call (.Attribute x (Str.ofString (mtName m)) ap) xs [] p) := fun P ρ H s Q X S w => by
  rw [wpE] at w
  have hall : (backTo p (starEach xs c.env)).all (fun x => !x.1) = true := by
    have := ms.plain (pos := p) (env := c.env)
    rw [List.all_eq_true]
    intro z hz
    have := (List.any_eq_false.mp this) z hz
    simpa using this
  refine wpAny_Call_method_late hb ?_ hp rfl (wpAny_mono (h1 P ρ H s _ X S w) (fun u s₁ ⟨v, H₁, S₁, r, hr, w₁⟩ => ?_) fun _ _ x => x)
  · rw [hall]; simp [backToKw, keywordEach]; omega
  obtain ⟨T', eT, pa, sl, ty⟩ := mt_facts m
  refine ⟨T', mtId m, pa, sl, ty, ?_, ?_, callWith_builtin ms.plain (evalArgs_sp ms.plain (wpAny_mono (h2.max S₁ w₁) (fun us s₂ ⟨k, vs, H₂, S₂, rs, q⟩ => ?_) fun _ _ x => x))⟩
  · unfold recv at hr
    split at hr
    · cases r; rename_i a
      split at hr
      · rename_i ys ea
        obtain ⟨_, it, n, g, _⟩ := S₁.heap _ _ ea
        rw [eT, if_neg (by rintro (rfl | rfl) <;> simp at hr)]
        exact ⟨_, g, rfl⟩
      · rename_i ys ea
        obtain ⟨_, ys', ⟨ob, es', ep, g, x', _⟩, _⟩ := S₁.heap _ _ ea
        rw [eT, if_pos hr]
        exact ⟨_, g, x'.1⟩
      · exact hr.elim
    · exact hr.elim
  · rintro a rfl
    unfold recv at hr
    split at hr
    · cases r
      split at hr
      · rename_i ys ea
        obtain ⟨_, it, n, g, _⟩ := S₁.heap _ _ ea
        exact ⟨_, g, rfl⟩
      · rename_i ys ea
        obtain ⟨_, ys', ⟨ob, es', ep, g, x', _⟩, _⟩ := S₁.heap _ _ ea
        exact ⟨_, g, x'.2.1⟩
      · exact hr.elim
    · exact hr.elim
  · exact sound_mt hm S₂ C.units T.mods (r.mono k) rs q
end
end Mine.Internal
end

section
namespace Mine.Internal
open PySem PySem.W PySem.Calls PyProof.Rows PySem.SeqAt
section
variable {W : Wd} {T : Tx W} {c : Cx} {K : Kc} {hd : Bool} {G : Gl}

inductive CnV (T : Tx W) : Cn → Value → Prop
  | own {c C} : W.cls c = some C → CnV T (.own c) (.ref C)
  | ty {c n} : cnName c = some n → CnV T c (.type n)
inductive CnVs (T : Tx W) : List Cn → List Value → Prop
  | nil : CnVs T [] []
  | cons {c v cs vs} : CnV T c v → CnVs T cs vs → CnVs T (c :: cs) (v :: vs)

theorem Sim.frag {P : Addr → Obj → Prop} {ρ : Loc} {H : Hp} {s : Shared} (S : Sim W c P ρ H s) : T.frag.In s.heap := fun a o e => S.base _ _ (T.hfrag a o e)

theorem isi_plain {t n : String} {cc : Cn} {cv : Value} (hv : CnV T cc cv) (hc : cnName cc = some n) (hn : n ∈ ["int", "bool", "list", "tuple"]) (ht : t ∈ ["NoneType", "bool", "int", "str", "tuple", "list", "dict"]) : kitOne T.frag (.type t) cv = some (isiTy t n) := by
  cases hv with
  | own _ => cases hc
  | ty e => rw [hc] at e; cases e; exact T.kty t ht n hn

theorem kit_of {v : V} {u : Value} {c0 : Cn} {b0 : Bool} {P : Addr → Obj → Prop} {ρ : Loc} {H : Hp} {s : Shared} (S : Sim W c P ρ H s) (r : Rep W s.heap v u) (h0 : isi1 T.anc H v c0 = some b0) :
    ∃ t Hh, KitX T.frag u t Hh ∧ Hh s.heap ∧ u ≠ .builtin "__main__.__loader__#opaque" ∧ ∀ cc cv b, isi1 T.anc H v cc = some b → CnV T cc cv → kitOne T.frag t cv = some b := by
  have fin : ∀ t, t ∈ ["NoneType", "bool", "int", "str", "tuple", "list", "dict"] → (∀ cc b, isi1 T.anc H v cc = some b → ∃ n, cnName cc = some n ∧ n ∈ ["int", "bool", "list", "tuple"] ∧ b = isiTy t n) →
      ∀ cc cv b, isi1 T.anc H v cc = some b → CnV T cc cv → kitOne T.frag (.type t) cv = some b := fun t ht h cc cv b e hv => by
    obtain ⟨n, e1, e2, rfl⟩ := h cc b e
    exact isi_plain hv e1 e2 ht
  cases r with
  | none =>
    refine ⟨_, _, kitx_none, trivial, by simp, fin _ (by simp) fun cc b e => ?_⟩
    cases cc <;> simp [isi1] at e <;> subst e <;> exact ⟨_, rfl, by simp, by decide⟩
  | bool y =>
    refine ⟨_, _, kitx_bool, trivial, by simp, fin _ (by simp) fun cc b e => ?_⟩
    cases cc <;> simp [isi1] at e <;> subst e <;> exact ⟨_, rfl, by simp, by decide⟩
  | int y t =>
    refine ⟨_, _, kitx_int, trivial, by simp, fin _ (by simp) fun cc b e => ?_⟩
    cases cc <;> simp [isi1] at e <;> subst e <;> exact ⟨_, rfl, by simp, by decide⟩
  | str y t =>
    refine ⟨_, _, kitx_str, trivial, by simp, fin _ (by simp) fun cc b e => ?_⟩
    cases cc <;> simp [isi1] at e <;> subst e <;> exact ⟨_, rfl, by simp, by decide⟩
  | tup g k d l rs =>
    refine ⟨_, _, kitx_tuple, ⟨_, g, k⟩, by simp, fin _ (by simp) fun cc b e => ?_⟩
    cases cc <;> simp [isi1] at e <;> subst e <;> exact ⟨_, rfl, by simp, by decide⟩
  | ref a =>
    cases ha : H a with
    | none => cases c0 <;> simp [isi1, ha] at h0
    | some ob =>
      cases ob with
      | list xs =>
        obtain ⟨_, it, n, g, _⟩ := S.heap _ _ ha
        refine ⟨_, _, kitx_list, ⟨_, g, rfl⟩, by simp, fin _ (by simp) fun cc b e => ?_⟩
        cases cc <;> simp [isi1, ha] at e <;> subst e <;> exact ⟨_, rfl, by simp, by decide⟩
      | dict xs =>
        obtain ⟨_, ys, ⟨o, es, ep, g, x, _⟩, _⟩ := S.heap _ _ ha
        refine ⟨_, _, kitx_dict, ⟨_, g, x.1⟩, by simp, fin _ (by simp) fun cc b e => ?_⟩
        cases cc <;> simp [isi1, ha] at e <;> subst e <;> exact ⟨_, rfl, by simp, by decide⟩
  | ro => cases c0 <;> simp [isi1] at h0
  | exc g k d q =>
    refine ⟨_, _, kitx_exc (T.kcl _ _ q), ⟨_, g, k⟩, by simp, fun cc cv b e hv => ?_⟩
    cases hv with
    | own h => simp [isi1] at e; subst e; rw [T.kown _ _ _ _ q h]; simp
    | ty h => cases cc <;> simp [isi1] at e <;> subst e <;> cases h; exact T.kval _ _ q

theorem kit_any {t : Value} {f : Cn → Option Bool} {v : V} {H : Hp} (h : ∀ cc cv b, isi1 T.anc H v cc = some b → CnV T cc cv → kitOne T.frag t cv = some b) : ∀ {cs : List Cn} {vs : List Value} {b : Bool}, CnVs T cs vs → isiAny T.anc H v cs = some b → kitAny T.frag t vs = some b
  | _, _, b, .nil, e => by simp [isiAny] at e; subst e; rfl
  | _, _, b, .cons h1 h2, e => by
    simp only [isiAny] at e
    split at e
    · rename_i x y e1 e2
      cases e
      have k1 := h _ _ _ e1 h1
      have k2 := kit_any (f := f) h h2 e2
      unfold kitAny
      rw [k1]
      cases x with
      | true => simp
      | false => simpa using k2
    · cases e

theorem sound_cn {cc : Cn} {y : Expr} {P : Addr → Obj → Prop} {ρ : Loc} {H : Hp} {s : Shared} {E : Value → Shared → Prop} {Q : Value → Shared → Prop} (C : CxOk T c K hd) (S : Sim W c P ρ H s) (m : MCn K cc y) (h : ∀ cv, CnV T cc cv → Q cv s) : wpAny (model W.prog W.w) c.A (eval y c.env) Q E s := by
  cases m with
  | own e g k =>
    subst e
    obtain ⟨D, e1, e2⟩ := T.hcls _ (C.cls ▸ k)
    exact sound_global C S g e1 (h _ (.own e2))
  | ty e1 e2 g =>
    subst e2
    exact sound_builtin C S g (T.cns _ _ e1) (h _ (.ty e1))
theorem MCn.star {cc : Cn} {x : Expr} {xs : List Expr} {env : Env} (h : MCn K cc x) : starEach (x :: xs) env = (false, eval x env) :: starEach xs env := by cases h <;> rfl
theorem sound_cns {P : Addr → Obj → Prop} {ρ : Loc} {H : Hp} {s : Shared} {E : Value → Shared → Prop} {pos : Pos} (C : CxOk T c K hd) (S : Sim W c P ρ H s) : ∀ {cs : List Cn} {ys : List Expr} {Q : List Value → Shared → Prop}, MCns K cs ys → (∀ vs, CnVs T cs vs → Q vs s) →
    wpAny (model W.prog W.w) c.A (spliced (backTo pos (starEach ys c.env))) Q E s
  | _, _, _, .nil, h => spliced_nil (h [] .nil)
  | _, _, _, .cons m ms, h => by
    rw [m.star]
    exact spliced_cons (sound_cn C S m fun cv hv => sound_cns C S ms fun vs hvs => h _ (.cons hv hvs))

theorem se_isi1 {e cc x y q p} (hG : G.anc = T.anc) (C : CxOk T c K hd) (g : K.gl (Str.ofString "isinstance") = true) (me : ME K e x) (h1 : SE W c G hd e x) (m : MCn K cc y) : SE W c G hd (.isi e [cc]) (.Call (.Name (Str.ofString "isinstance") q) [x, y] [] p) := fun P ρ H s Q X S w => by
  rw [wpE] at w
  refine wpAny_Call_Name_kw (sound_builtin C S g T.isi ?_)
  rw [me.star, m.star]
  refine callWith_builtin rfl (evalArgs_plain (spliced_cons (wpAny_mono (h1 P ρ H s _ X S w) (fun u s₁ ⟨v, H₁, S₁, r, b, e, q⟩ => ?_) fun _ _ x => x)))
  refine spliced_cons (sound_cn C S₁ m fun cv hv => spliced_nil ?_)
  rw [hG] at e
  simp only [isiAny] at e
  split at e
  · rename_i b1 b2 e1 e2
    cases e; cases e2
    obtain ⟨t, Hh, Z, z, nb, k⟩ := kit_of S₁ r e1
    exact kia_one Z S₁.frag z (by simpa using k _ _ _ e1 hv) nb fun tk => ⟨_, _, S₁.toks tk, .bool _, q⟩
  · cases e
theorem CnVs.length : ∀ {cs : List Cn} {vs : List Value}, CnVs T cs vs → vs.length = cs.length
  | _, _, .nil => rfl
  | _, _, .cons _ h => by simp [h.length]
theorem se_isiN {e cc dd cs x ys k t q p} (hc : cs.length < 1000) (hG : G.anc = T.anc) (C : CxOk T c K hd) (g : K.gl (Str.ofString "isinstance") = true) (me : ME K e x) (h1 : SE W c G hd e x) (m : MCns K (cc :: dd :: cs) ys) : SE W c G hd (.isi e (cc :: dd :: cs)) (.Call (.Name (Str.ofString "isinstance") q) [x, .Tuple ys k t] [] p) := fun P ρ H s Q X S w => by
  rw [wpE] at w
  refine wpAny_Call_Name_kw (sound_builtin C S g T.isi ?_)
  rw [me.star]
  refine callWith_builtin rfl (evalArgs_plain (spliced_cons (wpAny_mono (h1 P ρ H s _ X S w) (fun u s₁ ⟨v, H₁, S₁, r, b, e, q⟩ => ?_) fun _ _ x => x)))
  refine spliced_cons ?_
  show wpAny _ _ (do standAt t; newTuple (← spliced (backTo t (starEach ys c.env)))) _ _ s₁
  refine wpAny_bind (wpAny_standAt (wpAny_bind (sound_cns C S₁ m fun vs hvs => ?_)))
  rw [hG] at e
  have hlen := hvs.length
  have e0 : ∃ b0, isi1 T.anc H₁ v cc = some b0 := by
    simp only [isiAny] at e
    split at e
    · rename_i e1 e2; exact ⟨_, e1⟩
    · cases e
  obtain ⟨b0, e0⟩ := e0
  refine wpAny_newObj_type (spliced_nil ?_) ?_
  · have hk : ∀ b o, s₁.heap.get? b = some o → (s₁.heap.push { cls := .type "tuple", data := .seq vs.toArray }).get? b = some o := fun b o e => Heap.get?_push_of_some _ e
    have S₂ : Sim W c P ρ H₁ { s₁ with heap := s₁.heap.push { cls := .type "tuple", data := .seq vs.toArray } } := S₁.grow (tk := s₁.toks) hk
    obtain ⟨t, Hh, Z, z, nb, kk⟩ := kit_of S₂ (r.mono (.of_keeps hk)) e0
    exact kia_tup (s := { s₁ with heap := s₁.heap.push { cls := .type "tuple", data := .seq vs.toArray } }) Z S₂.frag z (Heap.get?_push_size _ rfl) (kit_any (f := fun _ => none) kk hvs e) nb fun tk => ⟨_, _, S₂.toks tk, .bool _, q⟩
  · show vs.toArray.size ≤ sizeLine
    rw [List.size_toArray, hlen, sizeLine_eq]; simp only [List.length_cons]; omega
end
end Mine.Internal
end

section
namespace Mine.Internal
open PySem PySem.W PyProof.Rows

noncomputable def kOk {α : Type} (lt : Nat → Nat → Bool) (n : Nat) : KasT α → (α → Prop) → Prop
  | .ret a, Q => Q a
  | .ask i j k, Q => i < n ∧ j < n ∧ kOk lt n (k (lt i j)) Q
theorem kOk_bind {α β : Type} {lt : Nat → Nat → Bool} {n : Nat} {f : α → KasT β} {Q : β → Prop} : ∀ {t : KasT α}, kOk lt n t (fun a => kOk lt n (f a) Q) → kOk lt n (t.bind f) Q
  | .ret a, h => h
  | .ask i j k, ⟨h1, h2, h⟩ => ⟨h1, h2, kOk_bind h⟩
theorem kOk_mono {α : Type} {lt : Nat → Nat → Bool} {n : Nat} {Q Q' : α → Prop} (hq : ∀ a, Q a → Q' a) : ∀ {t : KasT α}, kOk lt n t Q → kOk lt n t Q'
  | .ret a, h => hq a h
  | .ask i j k, ⟨h1, h2, h⟩ => ⟨h1, h2, kOk_mono hq h⟩
theorem kOk_wp {α : Type} {lt : Nat → Nat → Bool} {n : Nat} {cmp : Nat → Nat → (Bool → Shared → Prop) → Shared → Prop} {s : Shared} {Q : α → Shared → Prop} (hc : ∀ i j C, i < n → j < n → C (lt i j) s → cmp i j C s) :
    ∀ {t : KasT α}, kOk lt n t (fun a => Q a s) → t.kasWp cmp Q s
  | .ret a, h => h
  | .ask i j k, ⟨h1, h2, h⟩ => hc i j _ h1 h2 (kOk_wp hc h)

section
variable {key : Nat → Int} {n : Nat}
noncomputable def KK' (key : Nat → Int) (p : Array Nat) (i : Nat) : Int := key (p.getD i 0)
noncomputable def PermR (p : Array Nat) (n : Nat) : Prop := p.toList.Perm (List.range n)
theorem PermR.size {p : Array Nat} (h : PermR p n) : p.size = n := by have := h.length_eq; simpa using this
theorem PermR.lt {p : Array Nat} (h : PermR p n) {i : Nat} (hi : i < n) : p.getD i 0 < n := by
  have hs := h.size
  have e : p.getD i 0 = p[i]'(by omega) := by simp [Array.getD, show i < p.size by omega]
  rw [e]
  have m : p[i]'(by omega) ∈ p.toList := by simp
  simpa using h.mem_iff.mp m
theorem PermR.inj {p : Array Nat} (h : PermR p n) {i j : Nat} (hi : i < n) (hj : j < n) (e : p.getD i 0 = p.getD j 0) : i = j := by
  have hs := h.size
  have hn : p.toList.Nodup := h.nodup_iff.mpr List.nodup_range
  have e1 : p.getD i 0 = p.toList[i]'(by simp; omega) := by simp [Array.getD, show i < p.size by omega]
  have e2 : p.getD j 0 = p.toList[j]'(by simp; omega) := by simp [Array.getD, show j < p.size by omega]
  rw [e1, e2] at e
  exact (List.getElem_inj hn).mp e
noncomputable def Srt (key : Nat → Int) (p : Array Nat) (m : Nat) : Prop := ∀ i j, i ≤ j → j < m → KK' key p i ≤ KK' key p j
noncomputable def Dec (key : Nat → Int) (p : Array Nat) (m : Nat) : Prop := ∀ i j, i ≤ j → j < m → KK' key p j ≤ KK' key p i
theorem ne_of {p : Array Nat} (hk : ∀ i j, i < n → j < n → key i = key j → i = j) (h : PermR p n) {i j : Nat} (hi : i < n) (hj : j < n) (q : i ≠ j) : KK' key p i ≠ KK' key p j := fun e => q (h.inj hi hj (hk _ _ (h.lt hi) (h.lt hj) e))
abbrev ltK (key : Nat → Int) : Nat → Nat → Bool := fun i j => decide (key i < key j)

theorem k_asc {p : Array Nat} (h : PermR p n) : ∀ (f m : Nat), 1 ≤ m → m + f ≤ n → Srt key p m → kOk (ltK key) n (kas_asc p f m) (fun m' => m ≤ m' ∧ m' ≤ m + f ∧ Srt key p m' ∧ (m' < m + f → KK' key p m' < KK' key p (m' - 1)))
  | 0, m, h1, h2, hs => ⟨Nat.le_refl _, Nat.le_refl _, hs, fun q => absurd q (Nat.lt_irrefl _)⟩
  | f + 1, m, h1, h2, hs => by
    refine ⟨h.lt (by omega), h.lt (by omega), ?_⟩
    by_cases c : key (p.getD m 0) < key (p.getD (m - 1) 0)
    · simp only [ltK, decide_eq_true c, if_true]; exact ⟨Nat.le_refl _, by omega, hs, fun _ => c⟩
    · simp only [ltK, decide_eq_false c, Bool.false_eq_true, if_false]
      refine kOk_mono (fun m' ⟨a1, a2, a3, a4⟩ => ⟨by omega, by omega, a3, fun q => a4 (by omega)⟩) (k_asc h f (m + 1) (by omega) (by omega) fun i j hij hj => ?_)
      by_cases q : j < m
      · exact hs i j hij q
      · have e : j = m := by omega
        subst e
        by_cases q2 : i = j
        · subst q2; exact Int.le_refl _
        · have := hs i (j - 1) (by omega) (by omega)
          unfold KK' at this ⊢; omega
theorem k_desc {p : Array Nat} (hk : ∀ i j, i < n → j < n → key i = key j → i = j) (h : PermR p n) : ∀ (f m : Nat), 1 ≤ m → m + f ≤ n → Dec key p m → kOk (ltK key) n (kas_desc f p m 0) (fun r => r.1 = p ∧ r.2.2 = 0 ∧ m ≤ r.2.1 ∧ r.2.1 ≤ m + f ∧ Dec key p r.2.1)
  | 0, m, h1, h2, hs => ⟨rfl, rfl, Nat.le_refl _, Nat.le_refl _, hs⟩
  | f + 1, m, h1, h2, hs => by
    refine ⟨h.lt (by omega), h.lt (by omega), ?_⟩
    by_cases c : key (p.getD m 0) < key (p.getD (m - 1) 0)
    · simp only [ltK, decide_eq_true c, if_true, Nat.lt_irrefl, if_false, gt_iff_lt]
      refine kOk_mono (fun m' ⟨a0, a1, a2, a3, a4⟩ => ⟨a0, a1, by omega, by omega, a4⟩) (k_desc hk h f (m + 1) (by omega) (by omega) fun i j hij hj => ?_)
      by_cases q : j < m
      · exact hs i j hij q
      · have e : j = m := by omega
        subst e
        by_cases q2 : i = j
        · subst q2; exact Int.le_refl _
        · have := hs i (j - 1) (by omega) (by omega)
          unfold KK' at this ⊢; omega
    · simp only [ltK, decide_eq_false c, Bool.false_eq_true, if_false]
      refine ⟨h.lt (by omega), h.lt (by omega), ?_⟩
      have c2 : key (p.getD (m - 1) 0) < key (p.getD m 0) := by
        have := ne_of hk h (i := m - 1) (j := m) (by omega) (by omega) (by omega)
        unfold KK' at this; omega
      simp only [decide_eq_true c2, if_true]
      exact ⟨rfl, rfl, Nat.le_refl _, by show m ≤ m + (f + 1); omega, hs⟩
theorem rev_get {p : Array Nat} {m k : Nat} (hm : m ≤ p.size) : (kas_rev p 0 m).getD k 0 = if k < m then p.getD (m - 1 - k) 0 else p.getD k 0 := by
  have e := getElem?_mirror_all (xs := p) (i := 0) (j := m) hm k
  unfold kas_rev
  rw [Array.getD_eq_getD_getElem?, e]
  by_cases q : k < m
  · rw [if_pos ⟨Nat.zero_le _, q⟩, if_pos q, Array.getD_eq_getD_getElem?]; simp
  · rw [if_neg (by omega), if_neg q, Array.getD_eq_getD_getElem?]
theorem rev_perm {p : Array Nat} {m : Nat} (h : PermR p n) : PermR (kas_rev p 0 m) n := ((mirror_perm p 0 m _).toList).trans h
theorem k_tail3 {p : Array Nat} {m : Nat} (h : PermR p n) (h1 : 1 ≤ m) (h2 : m ≤ n) (hd : Dec key p m) : kOk (ltK key) n (kas_tail3 m n p) (fun r => 1 ≤ r.1 ∧ r.1 ≤ n ∧ PermR r.2 n ∧ Srt key r.2 r.1) := by
  refine kOk_bind (kOk_mono (fun m' ⟨a1, a2, a3, _⟩ => ⟨by show 1 ≤ m'; omega, by show m' ≤ n; omega, rev_perm h, a3⟩) (k_asc (rev_perm h) (n - m) m h1 (by omega) fun i j hij hj => ?_))
  unfold KK'
  rw [rev_get (by rw [h.size]; exact h2), rev_get (by rw [h.size]; exact h2), if_pos (by omega), if_pos hj]
  exact hd _ _ (by omega) (by omega)
theorem k_count {p : Array Nat} (hk : ∀ i j, i < n → j < n → key i = key j → i = j) (h : PermR p n) (h1 : 1 ≤ n) : kOk (ltK key) n (kas_count n p) (fun r => 1 ≤ r.1 ∧ r.1 ≤ n ∧ PermR r.2 n ∧ Srt key r.2 r.1) := by
  have ha := k_asc (key := key) h (n - 1) 1 (Nat.le_refl _) (by omega) fun i j hij hj => by
    have : i = j := by omega
    subst this; exact Int.le_refl _
  refine kOk_bind (kOk_mono (fun m ⟨a1, a2, a3, a4⟩ => ?_) ha)
  · by_cases q : (m == n) = true
    · rw [if_pos q]; exact ⟨a1, by omega, h, a3⟩
    · rw [if_neg q]
      have q : m ≠ n := by simpa using q
      by_cases q2 : m > 1
      · rw [if_pos q2]
        refine ⟨h.lt (by omega), h.lt (by omega), ?_⟩
        have c2 : key (p.getD 0 0) < key (p.getD (m - 1) 0) := by
          have := ne_of hk h (i := 0) (j := m - 1) (by omega) (by omega) (by omega)
          have := a3 0 (m - 1) (by omega) (by omega)
          unfold KK' at *; omega
        simp only [ltK, decide_eq_true c2, if_true]
        exact ⟨a1, by omega, h, a3⟩
      · rw [if_neg q2]
        have e : m = 1 := by omega
        subst e
        have hd := k_desc hk h (n - (1 + 1)) (1 + 1) (by omega) (by omega) fun i j hij hj => by
          have h4 : KK' key p 1 < KK' key p 0 := a4 (by omega)
          have e : (j = 0 ∨ j = 1) := by omega
          rcases e with rfl | rfl
          · have : i = 0 := by omega
            subst this; exact Int.le_refl _
          · by_cases q : i = 1
            · subst q; exact Int.le_refl _
            · have : i = 0 := by omega
              subst this
              omega
        refine kOk_bind (kOk_mono (fun r ⟨b0, b1, b2, b3, b4⟩ => ?_) hd)
        rw [if_neg (by omega), b0]
        exact k_tail3 h (by omega) (by omega) b4

theorem k_place {p : Array Nat} (h : PermR p n) {k : Nat} (hkn : k < n) (hs : Srt key p k) : ∀ (f l r : Nat), l ≤ r → r ≤ k → r - l ≤ f → (∀ i, i < l → KK' key p i ≤ KK' key p k) → (∀ i, r ≤ i → i < k → KK' key p k < KK' key p i) →
    kOk (ltK key) n (kas_place p k f l r) (fun l' => l' ≤ k ∧ (∀ i, i < l' → KK' key p i ≤ KK' key p k) ∧ (∀ i, l' ≤ i → i < k → KK' key p k < KK' key p i))
  | 0, l, r, h1, h2, h3, a, b => ⟨by omega, a, fun i hi => b i (by omega)⟩
  | f + 1, l, r, h1, h2, h3, a, b => by
    unfold kas_place
    by_cases q : l ≥ r
    · rw [if_pos q]; exact ⟨by omega, a, fun i hi => b i (by omega)⟩
    · rw [if_neg q]
      refine ⟨h.lt hkn, h.lt (by omega), ?_⟩
      by_cases c : key (p.getD k 0) < key (p.getD ((l + r) / 2) 0)
      · simp only [ltK, decide_eq_true c, if_true]
        refine k_place h hkn hs f l ((l + r) / 2) (by omega) (by omega) (by omega) a fun i hi1 hi2 => ?_
        have := hs ((l + r) / 2) i hi1 hi2
        unfold KK' at *; omega
      · simp only [ltK, decide_eq_false c, Bool.false_eq_true, if_false]
        refine k_place h hkn hs f ((l + r) / 2 + 1) r (by omega) h2 (by omega) (fun i hi => ?_) b
        have := hs i ((l + r) / 2) (by omega) (by omega)
        unfold KK' at *; omega
theorem bub_get {p : Array Nat} {k l i : Nat} (hk : k < p.size) (hl : l ≤ k) : (bubble p k (k - l)).getD i 0 = if i = l then p.getD k 0 else if l < i ∧ i ≤ k then p.getD (i - 1) 0 else p.getD i 0 := by
  have e := getElem?_bubble hk (k - l) (by omega) i
  rw [show k - (k - l) = l by omega] at e
  rw [Array.getD_eq_getD_getElem?, e]
  by_cases q : i = l
  · rw [if_pos q, if_pos q, Array.getD_eq_getD_getElem?]
  · rw [if_neg q, if_neg q]
    by_cases q2 : l < i ∧ i ≤ k
    · rw [if_pos q2, if_pos q2, Array.getD_eq_getD_getElem?]
    · rw [if_neg q2, if_neg q2, Array.getD_eq_getD_getElem?]
theorem k_bin : ∀ (f : Nat) (p : Array Nat) (k : Nat), PermR p n → k + f = n → Srt key p k → kOk (ltK key) n (kas_bin f p k) (fun p' => PermR p' n ∧ Srt key p' n)
  | 0, p, k, h, e, hs => ⟨h, by rw [← e]; exact hs⟩
  | f + 1, p, k, h, e, hs => by
    refine kOk_bind (kOk_mono (fun l ⟨a1, a2, a3⟩ => ?_) (k_place h (by omega) hs k 0 k (Nat.zero_le _) (Nat.le_refl _) (by omega) (fun i hi => absurd hi (Nat.not_lt_zero _)) fun i h1 h2 => by omega))
    have hsz := h.size
    refine k_bin f _ (k + 1) ((bubble_perm p k (k - l)).toList.trans h) (by omega) fun i j hij hj => ?_
    unfold KK'
    rw [bub_get (by omega) a1, bub_get (by omega) a1]
    unfold KK' Srt at *
    by_cases i1 : i = l
    · rw [if_pos i1]
      by_cases j1 : j = l
      · rw [if_pos j1]; exact Int.le_refl _
      · rw [if_neg j1, if_pos (by omega)]
        exact Int.le_of_lt (a3 _ (by omega) (by omega))
    · rw [if_neg i1]
      by_cases i2 : l < i ∧ i ≤ k
      · rw [if_pos i2]
        rw [if_neg (by omega), if_pos (by omega)]
        exact hs _ _ (by omega) (by omega)
      · rw [if_neg i2]
        by_cases j1 : j = l
        · rw [if_pos j1]; exact a2 _ (by omega)
        · rw [if_neg j1]
          by_cases j2 : l < j ∧ j ≤ k
          · rw [if_pos j2]; exact hs _ _ (by omega) (by omega)
          · rw [if_neg j2]; exact hs _ _ hij (by omega)
theorem k_sort (hk : ∀ i j, i < n → j < n → key i = key j → i = j) (h1 : 1 ≤ n) : kOk (ltK key) n (kas_sort n) (fun p' => PermR p' n ∧ Srt key p' n) := by
  have h : PermR (List.toArray (List.range n)) n := by unfold PermR; simp
  refine kOk_bind (kOk_mono (fun r ⟨a1, a2, a3, a4⟩ => ?_) (k_count hk h h1))
  by_cases q : r.1 < n
  · rw [if_pos q]
    have e : max r.1 1 = r.1 := by omega
    rw [e]
    exact k_bin _ _ _ a3 (by omega) a4
  · rw [if_neg q]
    have e : r.1 = n := by omega
    exact ⟨a3, e ▸ a4⟩
end
end Mine.Internal
end

section
namespace Mine.Internal
open PySem PySem.W PySem.Calls PyProof.Rows PySem.SeqAt
section
variable {W : Wd} {c : Cx} {P : Addr → Obj → Prop} {ρ : Loc} {H : Hp} {s : Shared} {Q : V → Hp → Prop} {E : Value → Shared → Prop}

theorem reps_ints {h : Heap} : ∀ {vs : List Value} {ns : List Int}, IntsAre vs ns → Reps W h (ns.map V.int) vs
  | _, _, .nil => .nil
  | _, _, .cons n t r => .cons (.int _ _) (reps_ints r)

theorem Sim.newN {h' : Heap} {tk : Nat} {D : Addr} {it : Array Value} {n : Nat} {m : Str → Option Value} {xs : List V} (S : Sim W c P ρ H s) (hm : s.heap.Ns c.env.locals m) (hv : ∀ i x v, c.vis i = true → c.names[i]? = some x → ρ[i]? = some (some v) → HasVar W c.env s.heap m (Str.ofString x) v)
    (F : Fr noH c.env.locals h' m) (N : News noH c.env.locals h' ((D, { cls := .type "list", data := .seq it n }) :: allN s.heap c.env.locals)) (hD : ∀ q ∈ allN s.heap c.env.locals, q.1 < D) (r : KeepR s.heap h' → Reps W h' xs it.toList) (h : newL xs Q H) :
    PE W c P ρ Q (.ref D) { s with heap := h', toks := tk } := by
  have hL : c.env.locals ≠ D := fun q => (N (D, _) (.head _)).2.1 q.symm
  have h0 : s.heap.get? D = none := by
    cases e : s.heap.get? D with
    | none => rfl
    | some o => exact absurd (hD (D, o) (mem_allN.mpr ⟨e, Ne.symm hL⟩)) (Nat.lt_irrefl _)
  have N' : News noH c.env.locals h' (allN s.heap c.env.locals) := fun p hp => N p (.tail _ hp)
  have S' := S.growL (tk := tk) hm hv F N'
  obtain ⟨f1, f2, f3, f4⟩ := S.fresh h0
  have hk := allN_keeps N'
  have kr : KeepR s.heap h' := by
    obtain ⟨oL, esL, epL, eL, dL, kL, fL⟩ := hm
    have nt : ∀ b o, s.heap.get? b = some o → (∀ es n, o.data ≠ .dict es n) → b ≠ c.env.locals := fun b o e d q => by rw [q, eL] at e; cases e; exact d _ _ dL
    exact ⟨fun b o i n e k d => hk b o (nt b o e (by rw [d]; exact nofun)) e, fun b o C ws e k d => ⟨o, ws, hk b o (nt b o e (by rw [d]; exact nofun)) e, k, d⟩⟩
  exact ⟨.ref D, _, S'.adopt f1 f2 f3 (rep_list h.1 (N _ (.head _)).1 (r kr)), .ref _, h.2 D f4⟩

theorem sort_list {D : Addr} {vs : List Value} {ns : List Int} {n : Nat} {Q : Value → Shared → Prop} {A : Around} (ho : s.heap.get? D = some (seqObj "list" vs.toArray n)) (hI : IntsAre vs ns) (h64 : vs.length < 64)
    (h : ∀ (out : Array Value) (ns' : List Int), IntsAre out.toList ns' → ns'.Perm ns → ns'.Pairwise (· ≤ ·) → Q .none { s with heap := sortedHeap s.heap D vs out }) : wpAny (model W.prog W.w) A (call (.builtin "list.sort") [.ref D]) Q E s :=
  wpAny_call_entry slot_list_sort ⟨_, ho, rfl⟩ entry_list_sort (list_sort_tree ho hI h64 fun out ns' a1 a2 a3 => ⟨_, rfl, h out ns' a1 a2 a3⟩) (args_list_sort _)

theorem pair_at {h : Heap} {a b : Int} {u : Value} (r : Rep W h (pairV (a, b)) u) : ∃ x o n t t', u = .ref x ∧ h.get? x = some o ∧ o.cls = .type "tuple" ∧ o.data = .seq #[.int a t, .int b t'] n := by
  unfold pairV at r
  cases r with
  | tup g k d l rs =>
    rename_i x o items n
    obtain ⟨u1, u2, e, r1, r2⟩ := rs.two
    cases r1 with | int _ t =>
    cases r2 with | int _ t' =>
    have : items = #[.int a t, .int b t'] := Array.toList_inj.mp e
    subst this
    exact ⟨x, o, n, t, t', rfl, g, k, d⟩

theorem list_sort_short {a : Addr} {vs : List Value} {n : Nat} {P : PySem.Fin → Shared → Prop} {A : Around} (ho : s.heap.get? a = some (seqObj "list" vs.toArray n)) (h2 : vs.length < 2)
    (h : P (.done (.ret .none)) { s with heap := sortedHeap s.heap a vs vs.toArray }) : wpAny (model W.prog W.w) A (Builtin.«list.sort» ⟨[.ref a], []⟩) P E s := by
  rw [list_sort_plain]
  have ha : a < s.heap.objs.size := Heap.lt_size ho
  have hsz : vs.toArray.size = vs.length := by simp
  refine wpAny_bind (listItems_at ho rfl ?_)
  refine wpAny_bind (listUpdate_at ho rfl ?_ (by rw [hsz, sizeLine_eq]; omega) (Nat.zero_le _))
  obtain ⟨e1, ho1⟩ : ∃ e1, (s.heap.update a (Obj.mapSeq fun _ => #[])).get? a = some (seqObj "list" #[] e1) := ⟨_, get?_update_seq ho (fun _ => #[])⟩
  refine wpAny_bind (seqEpoch_at ho1 rfl ?_)
  refine wpAny_bind (wpAny_newTuple ?_ (by show vs.length ≤ _; rw [sizeLine_eq]; omega))
  refine wpAny_bind (wpAny_newList ?_ (Nat.zero_le _))
  refine wpAny_holding ?_
  have ho6 : (((s.heap.update a (Obj.mapSeq fun _ => #[])).push (seqObj "tuple" vs.toArray 0)).push (seqObj "list" #[] 0)).get? a = some (seqObj "list" #[] e1) := by
    rw [Heap.get?_push_ne _ _ _ (by rw [size_push', Heap.size_update]; exact Nat.ne_of_lt (Nat.lt_succ_of_lt ha)), Heap.get?_push_ne _ _ _ (by rw [Heap.size_update]; exact Nat.ne_of_lt ha)]
    exact ho1
  show wpAny (model W.prog W.w) A _ P E { s with heap := ((s.heap.update a (Obj.mapSeq fun _ => #[])).push (seqObj "tuple" vs.toArray 0)).push (seqObj "list" #[] 0) }
  dsimp only
  have h2' : vs.toArray.size < 2 := by rw [hsz]; exact h2
  rw [if_pos h2', if_pos h2']
  refine wpAny_bind (wpAny_pure ?_)
  rw [StateT.run_pure]
  refine wpAny_bind (wpAny_pure ?_)
  dsimp only
  have ez : (vs.toArray.zip vs.toArray).map (·.2) = vs.toArray := by
    apply Array.toList_inj.mp
    simp [List.map_snd_zip]
  refine wpAny_bind (seqEpoch_at ho6 rfl ?_)
  refine wpAny_bind (listUpdate_at ho6 rfl ?_ (Nat.zero_le _) (by show ((vs.toArray.zip vs.toArray).map (·.2)).size ≤ _; rw [ez, hsz, sizeLine_eq]; omega))
  simp only [bne_self_eq_false, Bool.false_eq_true, if_false]
  refine wpAny_pure ?_
  show P _ { s with heap := (((s.heap.update a (Obj.mapSeq fun _ => #[])).push (seqObj "tuple" vs.toArray 0)).push (seqObj "list" #[] 0)).update a (Obj.mapSeq fun _ => (vs.toArray.zip vs.toArray).map (·.2)) }
  rw [ez]; exact h

theorem sorted_short {l : Addr} {vs : List Value} {Q : Value → Shared → Prop} {A : Around} (hl : s.heap.IsList l vs.toArray) (h2 : vs.length < 2)
    (h : Q (.ref (s.heap.objs.size + 1)) { s with heap := sortedAll s.heap vs vs.toArray }) : wpAny (model W.prog W.w) A (call (.builtin "sorted") [.ref l]) Q E s := by
  refine Calls.call_function_entry kind_sorted plain_sorted entry_sorted (args_sorted1 _) ?_
  unfold Builtin.«sorted»
  refine wpAny_bind (m := checkCount "sorted" 1 1 _) (wpAny_pure ?_)
  refine wpAny_bind (collect_list hl ?_ (by rw [sizeLine_eq]; omega))
  refine wpAny_bind (wpAny_newList ?_ (by rw [sizeLine_eq]; omega))
  have hsz : ((s.heap.push (seqObj "list" #[] 0)).update s.heap.objs.size (Obj.mapSeq (· ++ vs.toArray))).objs.size = s.heap.objs.size + 1 := by
    rw [Heap.size_update, size_push']
  have hoL : (((s.heap.push (seqObj "list" #[] 0)).update s.heap.objs.size (Obj.mapSeq (· ++ vs.toArray))).push (seqObj "list" vs.toArray 0)).get? (s.heap.objs.size + 1) = some (seqObj "list" vs.toArray 0) := by
    rw [← hsz]; exact Heap.get?_push_size _ rfl
  show wpAny _ _ _ _ _ { s with heap := ((s.heap.push (seqObj "list" #[] 0)).update s.heap.objs.size (Obj.mapSeq (· ++ vs.toArray))).push (seqObj "list" vs.toArray 0) }
  rw [hsz]
  refine wpAny_bind (wpAny_holding (wpAny_call_entry slot_list_sort ⟨_, hoL, rfl⟩ entry_list_sort (list_sort_short hoL h2 ⟨_, rfl, ?_⟩) (args_list_sort _)))
  exact wpAny_pure ⟨_, rfl, h⟩

theorem katTups_of {h : Heap} : ∀ {ps : List (Int × Int)} {us : List Value}, Reps W h (ps.map pairV) us → ∃ fs, KatTups h us fs ∧ fs.length = ps.length ∧ (∀ v ∈ fs, ∃ i t, v = Value.int i t)
  | [], _, .nil => ⟨[], trivial, rfl, fun _ h => by cases h⟩
  | p :: ps, _, .cons r rs => by
    obtain ⟨x, o, n, t, t', rfl, g, k, d⟩ := pair_at (a := p.1) (b := p.2) r
    obtain ⟨fs, h1, h2, h3⟩ := katTups_of rs
    refine ⟨_ :: fs, KatTups.cons g k d (f := .int p.1 t) rfl h1, by simp [h2], fun v hv => ?_⟩
    rcases List.mem_cons.mp hv with rfl | hv
    · exact ⟨_, _, rfl⟩
    · exact h3 v hv

theorem pair_get {h : Heap} {ps : List (Int × Int)} {us : List Value} (r : Reps W h (ps.map pairV) us) {i : Nat} (hi : i < ps.length) : ∃ x o n t t', us.getD i .none = .ref x ∧ h.get? x = some o ∧ o.cls = .type "tuple" ∧ o.data = .seq #[.int ps[i].1 t, .int ps[i].2 t'] n := by
  obtain ⟨u, e, r'⟩ := r.get (i := i) (v := pairV ps[i]) (by simp [hi])
  obtain ⟨x, o, n, t, t', rfl, g, k, d⟩ := pair_at (a := ps[i].1) (b := ps[i].2) r'
  exact ⟨x, o, n, t, t', by simp [e], g, k, d⟩

theorem reps_pick {h : Heap} {ps : List (Int × Int)} {us : List Value} (r : Reps W h (ps.map pairV) us) : ∀ (l : List Nat), (∀ i ∈ l, i < ps.length) → Reps W h ((l.map fun i => ps.getD i (0, 0)).map pairV) (l.map fun i => us.getD i .none)
  | [], _ => .nil
  | i :: l, hl => by
    have hi := hl i (.head _)
    obtain ⟨u, e, r'⟩ := r.get (i := i) (v := pairV ps[i]) (by simp [hi])
    refine .cons ?_ (reps_pick r l fun j hj => hl j (.tail _ hj))
    simpa [e, hi] using r'

theorem sorted_pairs {ps : List (Int × Int)} {us : List Value} {a : Addr} {n : Nat} (S : Sim W c P ρ H s) (g : s.heap.get? a = some { cls := .type "list", data := .seq us.toArray n }) (r : Reps W s.heap (ps.map pairV) us) (h64 : ps.length < 64) (hn : (ps.map (·.1)).Nodup)
    (h : ∀ qs : List (Int × Int), qs.Perm ps → (qs.map (·.1)).Pairwise (· ≤ ·) → newL (qs.map pairV) Q H) : wpAny (model W.prog W.w) c.A (call (.builtin "sorted") [.ref a]) (PE W c P ρ Q) E s := by
  obtain ⟨m, hm, hv⟩ := S.loc
  have hl : us.length = ps.length := by have := r.length; simpa using this.symm
  have hlist : s.heap.IsList a us.toArray := ⟨_, g, rfl, n, rfl⟩
  by_cases h2 : us.length < 2
  · refine sorted_short hlist h2 ?_
    obtain ⟨e, he⟩ := sortedAll_at s.heap us us.toArray
    refine S.newN (tk := s.toks) hm hv ((fr_of hm).kept fun _ _ => sortedAll_old) ((news_of s.heap c.env.locals).kept_cons (fr_of hm) (fun _ _ => sortedAll_old) (Nat.le_succ _) he) (fun q hq => Nat.lt_succ_of_lt (Heap.lt_size (mem_allN.mp hq).1)) (fun k => by simpa using r.mono k) (h ps (List.Perm.refl _) ?_)
    match ps, hl with
    | [], _ => simp
    | [_], _ => simp
    | _ :: _ :: _, q => simp at q; omega
  · refine kat_sorted (fr_of hm) (news_of s.heap c.env.locals) hlist (by omega) (by omega) fun D e1 h' F' N' hD => ?_
    have N0 : News noH c.env.locals h' (allN s.heap c.env.locals) := fun p hp => N' p (.tail _ hp)
    have kr : KeepR s.heap h' := by
      have hk := allN_keeps N0
      obtain ⟨oL, esL, epL, eL, dL, kL, fL⟩ := hm
      have nt : ∀ b o, s.heap.get? b = some o → (∀ es n, o.data ≠ .dict es n) → b ≠ c.env.locals := fun b o e d q => by rw [q, eL] at e; cases e; exact d _ _ dL
      exact ⟨fun b o i n e k d => hk b o (nt b o e (by rw [d]; exact nofun)) e, fun b o C ws e k d => ⟨o, ws, hk b o (nt b o e (by rw [d]; exact nofun)) e, k, d⟩⟩
    have r' := r.mono kr
    obtain ⟨fs, t1, t2, t3⟩ := katTups_of r'
    refine kat_kind (T := .type "int") (s := { s with heap := h' }) t1 (by omega) (fun v hv => ?_) rfl ?_
    · obtain ⟨i, t, rfl⟩ := t3 v hv
      exact Looks.of_pure rfl
    rw [show us.length = ps.length from hl]
    have hks := k_sort (key := fun i => (ps.getD i (0, 0)).1) (n := ps.length) (fun i j hi hj e => (List.getElem_inj (i := i) (j := j) (h₀ := by simpa using hi) (h₁ := by simpa using hj) hn).mp (by simpa [hi, hj] using e)) (by omega)
    refine kOk_wp (lt := ltK fun i => (ps.getD i (0, 0)).1) (n := ps.length) (fun i j C hi hj hc => ?_) (kOk_mono (fun p ⟨p1, p2⟩ => ?_) hks)
    · unfold kas_ask
      obtain ⟨x, ox, nx, t, t', e1', g1, k1, d1⟩ := pair_get r' hi
      obtain ⟨y, oy, ny, u, u', e2', g2, k2, d2⟩ := pair_get r' hj
      rw [e1', e2']
      refine kat_lt (s := { s with heap := h' }) g1 d1 g2 d2 ?_
      have hc' : C (decide (ps[i].1 < ps[j].1)) { s with heap := h' } := by simpa [ltK, hi, hj] using hc
      refine kat_cons (EqAt.int_int _ _ _ _ W.prog W.w _ _ ?_)
      by_cases q : ps[i].1 = ps[j].1
      · have ij : i = j := by
          have := (List.getElem_inj (i := i) (j := j) (h₀ := by simpa using hi) (h₁ := by simpa using hj) hn).mp (by simpa using q)
          exact this
        subst ij
        rw [e1'] at e2'; cases e2'
        rw [g1] at g2; cases g2
        rw [d1] at d2; cases d2
        rw [beq_self_eq_true]
        refine kat_yes (kat_cons (EqAt.int_int _ _ _ _ W.prog W.w _ _ ?_))
        rw [beq_self_eq_true]
        refine kat_yes (kat_nil ?_)
        simpa using hc'
      · rw [beq_eq_false_iff_ne.mpr q]
        refine kat_no ?_
        exact oneLt_int hc'
    · have hlt : ∀ i ∈ p.toList, i < ps.length := fun i hi => by simpa using p1.mem_iff.mp hi
      have hperm : (p.toList.map fun i => ps.getD i (0, 0)).Perm ps := by
        have := p1.map (fun i => ps.getD i (0, 0))
        refine this.trans (List.Perm.of_eq ?_)
        apply List.ext_getElem
        · simp
        · intro k h1 h2; simp [h2]
      have hsort : ((p.toList.map fun i => ps.getD i (0, 0)).map (·.1)).Pairwise (· ≤ ·) := by
        rw [List.map_map, List.pairwise_iff_getElem]
        intro i j hi hj hij
        have hs := p1.size
        simp only [List.length_map, Array.length_toList] at hi hj
        have := p2 i j (by omega) (by omega)
        unfold KK' at this
        simpa [Array.getD, hi, hj] using this
      refine ⟨_, _, F', N', UpdF.head (fun q hq => Nat.ne_of_lt (hD q hq)), fun h'' c' F'' N'' => ?_⟩
      refine S.newN (tk := s.toks) hm hv F'' N'' hD (fun k => ?_) (h _ hperm hsort)
      simpa using reps_pick (r.mono k) p.toList hlt

theorem RepKV.keys {h : Heap} : ∀ {kvs : List (Int × V)} {ys : List (Int × Value)}, RepKV W h kvs ys → kvs.map (·.1) = ys.map (·.1)
  | _, _, .nil => rfl
  | _, _, .cons _ r => by simp [r.keys]
theorem ints_of_keys : ∀ {vs : List Value} {ys : List (Int × Value)}, vs.length = ys.length → (∀ (j : Nat) (v : Value), vs[j]? = some v → ∃ k x, ys[j]? = some (k, x) ∧ (intKind W.prog W.w).is k v = true) → IntsAre vs (ys.map (·.1))
  | [], [], _, _ => .nil
  | [], _ :: _, h, _ => by simp at h
  | _ :: _, [], h, _ => by simp at h
  | v :: vs, y :: ys, h, k => by
    obtain ⟨k', x, e1, e2⟩ := k 0 v rfl
    cases e1
    obtain ⟨t, rfl⟩ := Value.isInt_shape (show Value.isInt k' v = true from e2)
    exact .cons k' t (ints_of_keys (by simpa using h) fun j w e => by simpa using k (j + 1) w (by simpa using e))

theorem sound_sorted {xs : List V} {us : List Value} (S : Sim W c P ρ H s) (hh : c.A.handled = none) (hb : (W.base.get? cStatics).isSome = true) (r : Reps W s.heap xs us) (h : wbc .sorted xs Q H) :
    wpAny (model W.prog W.w) c.A (call (bfOf .sorted) us) (PE W c P ρ Q) E s := by
  cases r with
  | nil => exact h.elim
  | cons rx rs =>
    cases rs with
    | cons _ _ => cases rx <;> exact h.elim
    | nil =>
      cases rx with
      | ref a =>
        obtain ⟨m, hm, hv⟩ := S.loc
        simp only [wbc] at h
        split at h
        · rename_i ys ea
          obtain ⟨hlen, h⟩ := h
          obtain ⟨hz, it, n, g, ri⟩ := S.heap _ _ ea
          rcases h with ⟨is, e, h⟩ | ⟨ps, e, hn, h⟩
          · have hi := intsAre_of ri e
            have hl := ri.length
            refine kso_sorted (fr_of hm) (news_of s.heap c.env.locals) (vs := it.toList) ⟨_, g, rfl, n, by simp⟩ hi ?_ fun D vs' ns' c' h' F' N' hD i' e' p' o' _ => ?_
            · rw [← IntsAre.length hi, ← hl]; exact hlen
            · exact S.newN (tk := s.toks) hm hv F' N' hD (fun _ => by simpa using reps_ints i') (h ns' p' o')
          · subst e
            have := sorted_pairs (us := it.toList) (n := n) (E := E) S (by simpa using g) ri (by simpa using hlen) hn h
            exact this
        · rename_i kvs ea
          obtain ⟨hlen, h⟩ := h
          obtain ⟨⟨hz, _⟩, ys, hD, rk⟩ := S.heap _ _ ea
          obtain ⟨ep, hAt⟩ := hD.dictAt
          have lo : (a == sysModules) = false := not_sysModules S ea hb
          have hkl : kvs.length = ys.length := by have := congrArg List.length rk.keys; simpa using this
          refine kdu_sorted (kdl_dict (kvs := ys) (ep := ep) (knd := intKind W.prog W.w) lo) hh (fr_of hm) (news_of s.heap c.env.locals) hAt (by rw [sizeLine_eq]; omega) fun D h' tk vs F' N' hDD e1 e2 => ?_
          have hI : IntsAre vs (ys.map (·.1)) := ints_of_keys e1 e2
          refine sort_list (s := { s with heap := h', toks := tk }) (vs := vs) (n := 0) (N' _ (.head _)).1 hI (by omega) fun out ns' a1 a2 a3 => ?_
          have hD0 := (N' _ (.head _))
          have hLD : c.env.locals ≠ D := fun q => hD0.2.1 q.symm
          obtain ⟨ec, he⟩ := sortedHeap_at (out := out) (vs := vs) (n := 0) hD0.1
          have keep : ∀ b o, b ≠ D → h'.get? b = some o → (sortedHeap h' D vs out).get? b = some o := fun b o q e => (sortedHeap_old q (Heap.lt_size e)).trans e
          have hkm := rk.keys
          show PE W c P ρ Q (.ref D) { s with heap := sortedHeap h' D vs out, toks := tk }
          refine S.newN (tk := tk) (it := out) (n := ec) hm hv (fr_of (F'.ns.at' fun o e => keep _ o hLD e)) (fun p hp => ?_) hDD (fun _ => reps_ints a1) (h ns' (hkm ▸ a2) a3)
          rcases List.mem_cons.mp hp with rfl | hp
          · exact ⟨he, hD0.2⟩
          · exact ⟨keep _ _ (Nat.ne_of_lt (hDD p hp)) (N' p (.tail _ hp)).1, (N' p (.tail _ hp)).2⟩
        · exact h.elim
      | _ => exact h.elim

theorem se_bcS {T : Tx W} {K : Kc} {hd : Bool} {G : Gl} {f es x xs q p} (C : CxOk T c K hd) (g : K.gl (Str.ofString (bfName f)) = true) (ms : MEs K es (x :: xs)) (h : SEs W c G hd es (x :: xs)) :
    SE W c G hd (.bc f es) (.Call (.Name (Str.ofString (bfName f)) q) (x :: xs) [] p) := by
  by_cases hf : f = .sorted
  · subst hf
    intro P ρ H s Q X S w
    rw [wpE] at w
    obtain ⟨rfl, w⟩ := w
    refine wpAny_Call_Name_kw (sound_builtin C S g (T.bfs .sorted) ?_)
    exact callWith_builtin ms.plain (evalArgs_sp ms.plain (wpAny_mono (h P ρ H s _ X p S w) (fun us s₁ ⟨vs, H₁, S₁, r, q⟩ => sound_sorted S₁ (C.hand rfl) T.mods r q) fun _ _ x => x))
  · exact se_bc hf C g ms h
end
end Mine.Internal
end

section
namespace Mine.Internal
open PySem PySem.W PySem.Calls PyProof.Rows PySem.SeqAt
section
variable {W : Wd} {T : Tx W} {c : Cx} {K : Kc} {hd : Bool} {P : Addr → Obj → Prop} {ρ : Loc} {H : Hp} {s : Shared} {E : Value → Shared → Prop}

theorem Sim.cell {ρ' : Loc} {h' : Heap} {tk : Nat} {d : Addr} {u₀ : Option Value} (S : Sim W c P ρ H s) (ho : s.heap.IsCell d u₀) (hown : d ∈ c.own) (hnf : d ∉ c.frs) {u : Option Value} (hc : h'.IsCell d u) (hk : ∀ b o, b ≠ d → s.heap.get? b = some o → h'.get? b = some o)
    (hv : KeepR s.heap h' → ∀ m, (∀ i x v, c.vis i = true → c.names[i]? = some x → ρ[i]? = some (some v) → HasVar W c.env s.heap m (Str.ofString x) v) → ∀ i x v, c.vis i = true → c.names[i]? = some x → ρ'[i]? = some (some v) → HasVar W c.env h' m (Str.ofString x) v) :
    Sim W c P ρ' H { s with heap := h', toks := tk } := by
  obtain ⟨o₀, e₀, d₀⟩ := ho
  obtain ⟨o₁, e₁, d₁⟩ := hc
  have nt : ∀ b o, s.heap.get? b = some o → (∀ v, o.data ≠ .cell v) → b ≠ d := fun b o e q z => by rw [z, e₀] at e; cases e; exact q _ d₀
  have kr : KeepR s.heap h' := ⟨fun b o i n e k q => hk b o (nt b o e (by rw [q]; exact nofun)) e, fun b o C ws e k q => ⟨o, ws, hk b o (nt b o e (by rw [q]; exact nofun)) e, k, q⟩⟩
  have nH : ∀ a o, H a = some o → a ≠ d := fun a o e q => S.apart a o e (q ▸ Cx.mem_all_own hown)
  refine ⟨?_, fun b o e => hk b o (fun q => by rw [q, S.ownNew _ hown] at e; cases e) (S.base b o e), funFrames_at S.frames fun b hb o e q => ⟨o, hk b o (fun z => hnf (z ▸ hb)) e, q⟩, fun p hp => ?_, ?_, S.locOwn, S.ownNew, S.ownOut,
    fun a o e => (S.heap a o e).at kr fun ob h => hk a ob (nH a o e) h, S.new, S.apart, fun b o p => hk b o (fun q => (S.protF b o p).1 (q ▸ hown)) (S.prot b o p), S.protH, S.protF, fun x a e => ?_, fun b hb => ?_⟩
  · obtain ⟨h, tk', rfl⟩ := S.rest; exact ⟨h', tk, rfl⟩
  · obtain ⟨o, es, ep, e, r⟩ := S.outer p hp
    exact ⟨o, es, ep, hk _ _ (S.ownOut _ hown p hp) e, r⟩
  · obtain ⟨m, ⟨o, es, ep, e, dd, r⟩, hv'⟩ := S.loc
    exact ⟨m, ⟨o, es, ep, hk _ _ (nt _ _ e (by rw [dd]; exact nofun)) e, dd, r⟩, hv kr m hv'⟩
  · by_cases q : a = d
    · subst q; exact ⟨u, o₁, e₁, d₁⟩
    · obtain ⟨u', o, e1, e2⟩ := S.cells x a e; exact ⟨u', o, hk a o q e1, e2⟩
  · by_cases q : b = d
    · subst q; exact ⟨o₁, e₁, .inr ⟨_, d₁⟩⟩
    · obtain ⟨o, e, z⟩ := S.ownD b hb; exact ⟨o, hk b o q e, z⟩

theorem sound_store {i : Nat} {x : Str} {v : V} {u : Value} {Q : Unit → Shared → Prop} (C : CxOk T c K hd) (S : Sim W c P ρ H s) (g : K.tgt i x = true) (r : Rep W s.heap v u)
    (h : ∀ s', Sim W c P (ρ.set i (some v)) H s' → KeepR s.heap s'.heap → Q () s') : wpAny (model W.prog W.w) c.A (storeName c.env x u) Q E s := by
  have hk : c.env.kindOf x = some .local ∨ (c.env.kindOf x = some .cell ∧ K.inC = false) := by
    have := Kc.tgt_kind g
    unfold Env.kindOf; rw [C.sc]; exact this
  obtain ⟨h1, y, h2, rfl⟩ := Kc.tgt_spec g
  have look : ∀ (j : Nat) (w : V), (ρ.set i (some v))[j]? = some (some w) → (j = i ∧ w = v) ∨ (j ≠ i ∧ ρ[j]? = some (some w)) := fun j w e => by
    by_cases q : j = i
    · subst q
      rw [List.getElem?_set] at e
      simp only [if_true] at e
      split at e
      · cases e; exact .inl ⟨rfl, rfl⟩
      · cases e
    · rw [List.getElem?_set_ne (Ne.symm q)] at e; exact .inr ⟨q, e⟩
  rcases hk with hl | ⟨hl, hin⟩
  · obtain ⟨m, hn, hv⟩ := S.loc
    refine wpAny_storeName_local hl hn (fun h' hn' hs' => ?_) (by rw [C.sc, C.kind]; rfl)
    have hkeep : ∀ b o, b ≠ c.env.locals → s.heap.get? b = some o → h'.get? b = some o := fun b o q e => hs'.extBut b o q e
    have kr : KeepR s.heap h' := by
      obtain ⟨oL, esL, epL, eL, dL, kL, fL⟩ := id hn
      have nt : ∀ b o, s.heap.get? b = some o → (∀ es n, o.data ≠ .dict es n) → b ≠ c.env.locals := fun b o e d q => by rw [q, eL] at e; cases e; exact d _ _ dL
      exact ⟨fun b o i n e k d => hkeep b o (nt b o e (by rw [d]; exact nofun)) e, fun b o C ws e k d => ⟨o, ws, hkeep b o (nt b o e (by rw [d]; exact nofun)) e, k, d⟩⟩
    refine h _ (S.names (tk := s.toks + 1) hn hn' hkeep fun kr' kc j z w hj1 hj2 hj3 => ?_) kr
    rcases look j w hj3 with ⟨rfl, rfl⟩ | ⟨q, e⟩
    · rw [C.names, h2] at hj2; cases hj2
      exact .inl ⟨hl, u, by simp, r.mono kr⟩
    · have ne : Str.ofString z ≠ Str.ofString y := fun q' => q (C.inj j i z y hj2 (by rw [C.names]; exact h2) q')
      rcases hv j z w hj1 hj2 e with ⟨k, u', e', r'⟩ | ⟨k, cl, o, u', e', ho, hd', r'⟩
      · exact .inl ⟨k, u', by simp [ne, e'], r'.mono kr⟩
      · exact .inr ⟨k, cl, o, u', e', kc cl o _ ho hd', hd', r'.mono kr⟩
  · obtain ⟨a, ha⟩ := C.cellKind _ hl
    have hown := C.cellOwn _ _ ha hin
    have hnf := C.cellFr _ _ ha
    obtain ⟨u₀, hcell⟩ := S.cells _ _ ha
    refine wpAny_storeName_cell C.kindF hl ha hcell fun h' hc' hs' => ?_
    obtain ⟨o₀, e₀, d₀⟩ := id hcell
    have hkeep : ∀ b o, b ≠ a → s.heap.get? b = some o → h'.get? b = some o := fun b o q e => hs'.extBut b o q e
    have nt : ∀ b o, s.heap.get? b = some o → (∀ v, o.data ≠ .cell v) → b ≠ a := fun b o e q z => by rw [z, e₀] at e; cases e; exact q _ d₀
    have kr : KeepR s.heap h' := ⟨fun b o i n e k q => hkeep b o (nt b o e (by rw [q]; exact nofun)) e, fun b o C ws e k q => ⟨o, ws, hkeep b o (nt b o e (by rw [q]; exact nofun)) e, k, q⟩⟩
    refine h _ (S.cell (tk := s.toks) hcell hown hnf hc' hkeep fun kr' m hv j z w hj1 hj2 hj3 => ?_) kr
    rcases look j w hj3 with ⟨rfl, rfl⟩ | ⟨q, e⟩
    · rw [C.names, h2] at hj2; cases hj2
      obtain ⟨o₁, e₁, d₁⟩ := hc'
      exact .inr ⟨hl, a, o₁, u, ha, e₁, d₁, r.mono kr⟩
    · have ne : Str.ofString z ≠ Str.ofString y := fun q' => q (C.inj j i z y hj2 (by rw [C.names]; exact h2) q')
      rcases hv j z w hj1 hj2 e with ⟨k, u', e', r'⟩ | ⟨k, cl, o, u', e', ho, hd', r'⟩
      · exact .inl ⟨k, u', e', r'.mono kr⟩
      · refine .inr ⟨k, cl, o, u', e', hkeep cl o ?_ ho, hd', r'.mono kr⟩
        rintro rfl
        exact ne (C.cellInj _ _ _ e' ha)
end
end Mine.Internal
end

section
namespace Mine.Internal
open PySem PySem.W PySem.Calls PyProof.Rows PySem.SeqAt
section
variable {W : Wd} {T : Tx W} {c : Cx} {K : Kc} {hd : Bool} {P : Addr → Obj → Prop} {ρ : Loc} {H : Hp} {s : Shared} {E : Value → Shared → Prop}

theorem Sim.exc {h' : Heap} {tk : Nat} {X : Addr → Prop} (S : Sim W c P ρ H s)
    (hX : ∀ b, X b → W.base.get? b = none ∧ (∀ o, ¬ P b o) ∧ (∀ o, s.heap.get? b = some o → ∃ vs, o.data = .fields vs ∧ ∃ o' vs', h'.get? b = some o' ∧ o'.cls = o.cls ∧ o'.data = .fields vs'))
    (k1 : ∀ b o, ¬ X b → b ∉ c.frs → s.heap.get? b = some o → h'.get? b = some o)
    (k2 : ∀ b o, b ∈ c.frs → s.heap.get? b = some o → ∃ sl, h'.get? b = some { o with slots := sl }) : Sim W c P ρ H { s with heap := h', toks := tk } := by
  have nX : ∀ b o, s.heap.get? b = some o → (∀ vs, o.data ≠ .fields vs) → ¬ X b := fun b o e d x => by
    obtain ⟨vs, d', _⟩ := (hX b x).2.2 o e
    exact d vs d'
  have nF : ∀ b o, s.heap.get? b = some o → ((∃ i n, o.data = .seq i n) ∨ (∃ vs, o.data = .fields vs)) → b ∉ c.frs := fun b o e d m => by
    obtain ⟨o', e', q⟩ := S.ownD b (.inr m)
    rw [e] at e'; cases e'
    rcases d with ⟨_, _, d⟩ | ⟨_, d⟩ <;> rcases q with ⟨_, _, q⟩ | ⟨_, q⟩ <;> rw [d] at q <;> cases q
  have kr : KeepR s.heap h' := ⟨fun b o i n e k d => k1 b o (nX b o e (by rw [d]; exact nofun)) (nF b o e (.inl ⟨_, _, d⟩)) e, fun b o C ws e k d => by
    by_cases x : X b
    · obtain ⟨vs, _, o', vs', e', c', d'⟩ := (hX b x).2.2 o e
      exact ⟨o', vs', e', c'.trans k, d'⟩
    · exact ⟨o, ws, k1 b o x (nF b o e (.inr ⟨_, d⟩)) e, k, d⟩⟩
  have any : ∀ b o, s.heap.get? b = some o → (∀ vs, o.data ≠ .fields vs) → ∃ sl, h'.get? b = some { o with slots := sl } := fun b o e d => by
    by_cases m : b ∈ c.frs
    · exact k2 b o m e
    · exact ⟨o.slots, k1 b o (nX b o e d) m e⟩
  have nsk : ∀ a m, s.heap.Ns a m → h'.Ns a m := fun a m ⟨o, es, ep, e, d, r⟩ => by
    obtain ⟨sl, e'⟩ := any a o e (by rw [d]; exact nofun)
    exact ⟨_, es, ep, e', d, r⟩
  have hb : ∀ b o, s.heap.get? b = some o → b ∈ c.frs → W.base.get? b = none := fun b o e m => (S.frames.mem m).1
  refine ⟨?_, fun b o e => k1 b o (fun x => by rw [(hX b x).1] at e; cases e) (fun m => by rw [(S.frames.mem m).1] at e; cases e) (S.base b o e), funFrames_at S.frames fun b hb o e d => ?_, fun p hp => nsk _ _ (S.outer p hp), ?_, S.locOwn, S.ownNew, S.ownOut,
    fun a o e => ?_, S.new, S.apart, fun b o p => k1 b o (fun x => (hX b x).2.1 o p) (S.protF b o p).2 (S.prot b o p), S.protH, S.protF, fun x a e => ?_, fun b hb => ?_⟩
  · obtain ⟨h, tk', rfl⟩ := S.rest; exact ⟨h', tk, rfl⟩
  · obtain ⟨sl, e'⟩ := k2 b o hb e; exact ⟨_, e', d⟩
  · obtain ⟨m, hn, hv⟩ := S.loc
    refine ⟨m, nsk _ _ hn, fun i x v h1 h2 h3 => (hv i x v h1 h2 h3).mono kr fun cl o u _ ho hq => ?_⟩
    obtain ⟨sl, e'⟩ := any cl o ho (by rw [hq]; exact nofun)
    exact ⟨_, e', rfl⟩
  · have ha : ∀ ob, s.heap.get? a = some ob → h'.get? a = some ob := fun ob h => k1 a ob (fun x => by
      obtain ⟨vs, d, _⟩ := (hX a x).2.2 ob h
      cases o with
      | list vs' => obtain ⟨_, it, n, g, _⟩ := S.heap _ _ e; rw [h] at g; cases g; cases d
      | dict kvs => obtain ⟨_, ys, ⟨o', es, ep, g, _, d', _⟩, _⟩ := S.heap _ _ e; rw [h] at g; cases g; rw [d] at d'; cases d') (fun m => S.apart a o e (Cx.mem_all_frs m)) h
    exact (S.heap a o e).at kr ha
  · obtain ⟨u, o, e1, e2⟩ := S.cells x a e
    obtain ⟨sl, e'⟩ := any a o e1 (by rw [e2]; exact nofun)
    exact ⟨u, _, e', e2⟩
  · obtain ⟨o, e, q⟩ := S.ownD b hb
    obtain ⟨sl, e'⟩ := any b o e (by rcases q with ⟨_, _, q⟩ | ⟨_, q⟩ <;> rw [q] <;> exact nofun)
    exact ⟨_, e', q⟩

noncomputable def FlyAt (W : Wd) (P : Addr → Obj → Prop) (fl : Value) (h : Heap) (e : Value) (k : String) : Prop :=
  ∃ a C oe vs a0 T oT ts, e = .ref a ∧ W.cls k = some C ∧ h.get? a = some oe ∧ oe.cls = .ref C ∧ oe.data = .fields vs ∧ vs[0]? = some a0 ∧ W.base.get? a = none ∧ (∀ o, ¬ P a o) ∧
    vs[1]? = some (.ref T) ∧ T ≠ a ∧ W.base.get? T = none ∧ (∀ o, ¬ P T o) ∧ h.get? T = some oT ∧ oT.data = .fields ts ∧ ts[3]? = some fl
theorem FlyAt.fly {f : Option Addr} {h : Heap} {e : Value} {k : String} (x : FlyAt W P .none h e k) : Fly W P f h e k := by
  obtain ⟨a, C, oe, vs, a0, T, oT, ts, h1, h2, h3, h4, h5, h6, h7, h8, t1, t2, t3, t4, t5, t6, t7⟩ := x
  exact ⟨a, C, oe, vs, a0, h1, h2, h3, h4, h5, h6, h7, h8, .inr ⟨T, oT, ts, _, t1, t2, t3, t4, t5, t6, t7, .inl rfl⟩⟩
theorem FlyAt.flyL {L : Addr} {h : Heap} {e : Value} {k : String} (x : FlyAt W P (rawInt L) h e k) : Fly W P (some L) h e k := by
  obtain ⟨a, C, oe, vs, a0, T, oT, ts, h1, h2, h3, h4, h5, h6, h7, h8, t1, t2, t3, t4, t5, t6, t7⟩ := x
  exact ⟨a, C, oe, vs, a0, h1, h2, h3, h4, h5, h6, h7, h8, .inr ⟨T, oT, ts, _, t1, t2, t3, t4, t5, t6, t7, .inr ⟨L, rfl, rfl⟩⟩⟩

theorem setFlight_to {fl : Value} {f : Option Addr} {e : Value} {k : String} {Q : Unit → Shared → Prop} {A : Around} (S : Sim W c P ρ H s) (F : FlyAt W P fl s.heap e k)
    (h : ∀ h', Sim W c P ρ H { s with heap := h' } → FlyAt W P (f.elim .none fun f => rawInt f) h' e k → Q () { s with heap := h' }) : wpAny (model W.prog W.w) A (setFlight e f) Q E s := by
  obtain ⟨a, C, oe, vs, a0, T, oT, ts, rfl, h2, h3, h4, h5, h6, h7, h8, t1, t2, t3, t4, t5, t6, t7⟩ := F
  have hsz : 3 < ts.size := (Array.getElem?_eq_some_iff.mp t7).1
  unfold setFlight
  refine wpAny_bind (wpAny_field h3 h5 t1 ?_)
  rw [if_pos (show (Value.ref T != Value.none) = true from by simp)]
  refine wpAny_setField t5 t6 hsz ?_
  have eT := Heap.get?_update_self (Obj.mapFields (·.setIfInBounds 3 (f.elim Value.none fun f => rawInt f))) t5 (Obj.isFreed_of_fields (Obj.data_mapFields t6 _))
  have other : ∀ b, b ≠ T → (s.heap.update T (Obj.mapFields (·.setIfInBounds 3 (f.elim Value.none fun f => rawInt f)))).get? b = s.heap.get? b := fun b hb => Heap.get?_update_other _ _ (Ne.symm hb)
  refine h _ (S.exc (tk := s.toks) (X := fun b => b = T) (fun b hb => ?_) (fun b o x _ e => (other b x).trans e) fun b o m e => ⟨o.slots, (other b ?_).trans e⟩) ?_
  · subst hb
    refine ⟨t3, t4, fun o e => ?_⟩
    rw [t5] at e; cases e
    exact ⟨ts, t6, _, _, eT, Obj.cls_mapFields _ _, Obj.data_mapFields t6 _⟩
  · rintro rfl
    obtain ⟨_, o', e', d⟩ := S.frames.mem m
    rw [t5] at e'; cases e'; exact d _ t6
  · exact ⟨a, C, oe, vs, a0, T, _, _, rfl, h2, (other a (Ne.symm t2)).trans h3, h4, h5, h6, h7, h8, t1, t2, t3, t4, eT, Obj.data_mapFields t6 _, by simp [hsz]⟩

theorem new_entry {a C L : Addr} {oe : Obj} {vs : Array Value} {a0 head : Value} {hadNext : Bool} {k : String} {env : Env} {outer : List Env} {Q : Unit → Shared → Prop} {A : Around} (S : Sim W c P ρ H s) (hfr : A.frames = some (env :: outer)) (he : c.fenvs = env :: outer) (hf : env.frame = some L)
    (h2 : W.cls k = some C) (h3 : s.heap.get? a = some oe) (h4 : oe.cls = .ref C) (h5 : oe.data = .fields vs) (h6 : vs[0]? = some a0) (h7 : W.base.get? a = none) (h8 : ∀ o, ¬ P a o) (hsz : 1 < vs.size)
    (h : ∀ h', Sim W c P ρ H { s with heap := h' } → FlyAt W P (rawInt L) h' (.ref a) k → Q () { s with heap := h' }) :
    wpAny (model W.prog W.w) A (do let a' ← frameOf env; let pl ← entryPlaceOf L hadNext; let b ← EntryCells.newEntry head a' .none (rawInt L) .none pl; setField (.ref a) 1 b) Q E s := by
  have frs : ∀ b, b ∈ c.frs ↔ b ∈ (env :: outer).filterMap (·.frame) := fun b => by unfold Cx.frs; rw [he]
  have hl : s.heap.FunFrames (hideAll s.heap ([a] ++ c.frs)) (env :: outer) := by
    refine funFrames_hide (by rw [← he]; exact S.frames) fun env' hm b hb => ?_
    simp only [List.mem_append]
    right
    rw [frs]
    exact List.mem_filterMap.mpr ⟨env', hm, hb⟩
  refine wpAny_entryW (base := hideAll s.heap ([a] ++ c.frs)) hfr hl hf h3 (fun b o e => of_hideAll _ e) (hideAll_none _ (by simp)) h5 hsz h6 fun h' ⟨x1, x2, ⟨oe', vs', T', oT', ts', y1, ⟨y2, y3⟩, y4, y5, y6, y7, y8, y9, y10⟩, x4⟩ => ?_
  have keep : ∀ b o, b ≠ a → b ∉ c.frs → s.heap.get? b = some o → h'.get? b = some o := fun b o i j e => x1 b o (hideAll_get _ e (by simp [i, j]))
  have hT0 : s.heap.get? T' = none := by
    cases q : s.heap.get? T' with
    | none => rfl
    | some o =>
      by_cases j : T' ∈ c.frs
      · obtain ⟨_, o', e', d⟩ := S.frames.mem j
        obtain ⟨sl, z⟩ := x4 _ _ e' d
        rw [y8] at z; cases z; exact absurd y9 (d _)
      · rw [hideAll_get _ q (by simp [y7, j])] at y6; cases y6
  obtain ⟨f1, _, f3, _⟩ := S.fresh hT0
  refine h h' (S.exc (tk := s.toks) (X := fun b => b = a) (fun b hb => ?_) (fun b o i j e => keep b o i j e) fun b o m e => ?_) ⟨a, C, oe', vs', a0, T', oT', ts', rfl, h2, y1, by rw [y2, h4], y4, y3, h7, h8, y5, y7, f1, f3, y8, y9, y10⟩
  · subst hb
    refine ⟨h7, h8, fun o e => ?_⟩
    rw [h3] at e; cases e
    exact ⟨_, h5, oe', vs', y1, y2, y4⟩
  · obtain ⟨_, o', e', d⟩ := S.frames.mem m
    rw [e] at e'; cases e'
    exact x4 b o e d

theorem note_frame {e : Value} {k : String} {L : Addr} {env : Env} {outer : List Env} {Q : Unit → Shared → Prop} {A : Around} (S : Sim W c P ρ H s) (hfr : A.frames = some (env :: outer)) (he : c.fenvs = env :: outer) (hf : env.frame = some L) (F : Fly W P (some L) s.heap e k)
    (h : ∀ h', Sim W c P ρ H { s with heap := h' } → FlyAt W P (rawInt L) h' e k → Q () { s with heap := h' }) : wpAny (model W.prog W.w) A (noteFrame e env) Q E s := by
  obtain ⟨a, C, oe, vs, a0, rfl, h2, h3, h4, h5, h6, h7, h8, h9⟩ := F
  rcases h9 with h1 | ⟨Tb, oT, ts, fl, t1, t2, t3, t4, t5, t6, t7, t8⟩
  · unfold noteFrame
    simp only [hf]
    refine wpAny_bind (wpAny_field h3 h5 h1 ?_)
    rw [if_neg (by decide)]
    exact new_entry S hfr he hf h2 h3 h4 h5 h6 h7 h8 (Array.getElem?_eq_some_iff.mp h1).1 h
  · rcases t8 with rfl | ⟨L', e, rfl⟩
    · have hsz : 3 < ts.size := (Array.getElem?_eq_some_iff.mp t7).1
      unfold noteFrame
      simp only [hf]
      refine wpAny_bind (wpAny_field h3 h5 t1 ?_)
      rw [if_pos (show (Value.ref Tb != Value.none) = true from by simp)]
      refine wpAny_bind (wpAny_field t5 t6 t7 ?_)
      rw [if_neg (show ¬ ((Value.none == rawInt L) = true) from by simp [rawInt])]
      refine wpAny_bind (wpAny_setField t5 t6 hsz ?_)
      have eT := Heap.get?_update_self (Obj.mapFields (·.setIfInBounds 3 Value.none)) t5 (Obj.isFreed_of_fields (Obj.data_mapFields t6 _))
      have other : ∀ b, b ≠ Tb → (s.heap.update Tb (Obj.mapFields (·.setIfInBounds 3 Value.none))).get? b = s.heap.get? b := fun b hb => Heap.get?_update_other _ _ (Ne.symm hb)
      have S₁ : Sim W c P ρ H { s with heap := s.heap.update Tb (Obj.mapFields (·.setIfInBounds 3 Value.none)) } := by
        refine S.exc (tk := s.toks) (X := fun b => b = Tb) (fun b hb => ?_) (fun b o x _ e => (other b x).trans e) fun b o m e => ⟨o.slots, (other b ?_).trans e⟩
        · subst hb
          refine ⟨t3, t4, fun o e => ?_⟩
          rw [t5] at e; cases e
          exact ⟨ts, t6, _, _, eT, Obj.cls_mapFields _ _, Obj.data_mapFields t6 _⟩
        · rintro rfl
          obtain ⟨_, o', e', d⟩ := S.frames.mem m
          rw [t5] at e'; cases e'; exact d _ t6
      exact new_entry (s := { s with heap := s.heap.update Tb (Obj.mapFields (·.setIfInBounds 3 Value.none)) }) S₁ hfr he hf h2 ((other a (Ne.symm t2)).trans h3) h4 h5 h6 h7 h8 (Array.getElem?_eq_some_iff.mp t1).1 h
    · cases e
      refine wpAny_noteFrame_againW (base := noH) (cls := oe.cls) (a0 := a0) hf ⟨oe, vs, Tb, oT, ts, h3, ⟨rfl, h6⟩, h5, t1, noH_get _, t2, t5, t6, t7⟩ ?_
      exact h s.heap S ⟨a, C, oe, vs, a0, Tb, oT, ts, rfl, h2, h3, h4, h5, h6, h7, h8, t1, t2, t3, t4, t5, t6, t7⟩

noncomputable def EXs (W : Wd) (c : Cx) (P : Addr → Obj → Prop) (X : String → Loc → Hp → Prop) : Value → Shared → Prop := fun e s' => ∃ k ρ' H', Sim W c P ρ' H' s' ∧ Fly W P c.env.frame s'.heap e k ∧ X k ρ' H'
theorem EXs.weaken {P' : Addr → Obj → Prop} {X : String → Loc → Hp → Prop} {e : Value} {s' : Shared} (h : EXs W c P' X e s') (q : ∀ b o, P b o → P' b o) : EXs W c P X e s' :=
  let ⟨k, ρ', H', S, F, x⟩ := h; ⟨k, ρ', H', S.weaken q, F.weaken q, x⟩
theorem EX.toS {X : String → Loc → Hp → Prop} {e : Value} {s' : Shared} (h : EX W c P ρ (fun k H' => X k ρ H') e s') : EXs W c P X e s' := let ⟨k, H', S, F, x⟩ := h; ⟨k, ρ, H', S, F, x⟩

theorem passes_own {X : String → Loc → Hp → Prop} {A A' : Around} {L : Addr} {outer : List Env} (hfr : A'.frames = some (c.env :: outer)) (he : c.fenvs = c.env :: outer) (hf : c.env.frame = some L) : PassesOwnAt (model W.prog W.w) A' A c.env (EXs W c P X) := by
  intro e s' ⟨k, ρ', H', S, F, x⟩
  unfold notedBy cameBackBy
  rw [hf] at F
  refine note_frame S hfr he hf F fun h' S' F' => ?_
  obtain ⟨a, C, oe, vs, a0, T, oT, ts, rfl, h2, h3, h4, h5, h6, h7, h8, t1, t2, t3, t4, t5, t6, t7⟩ := id F'
  refine wpAny_bind (wpAny_field h3 h5 t1 ?_)
  rw [if_neg (by simp)]
  rw [hf]
  refine setFlight_to (s := { s' with heap := h' }) (f := some L) S' F' fun h'' S'' F'' => ?_
  exact ⟨k, ρ', H', S'', by rw [hf]; exact FlyAt.flyL F'', x⟩
end
end Mine.Internal
end

section
namespace Mine.Internal
open PySem PySem.W PySem.Calls PyProof.Rows PySem.SeqAt

noncomputable def RepIt (W : Wd) (h : Heap) : It → Value → Prop
  | .v x, u => Rep W h x u
  | .p x y, u => Rep W h (.tup [x, y]) u
theorem RepIt.mono {W : Wd} {h h' : Heap} {it : It} {u : Value} (r : RepIt W h it u) (k : KeepR h h') : RepIt W h' it u := by cases it <;> exact Rep.mono k r

inductive TgX : Expr → Prop
  | name {x p} : TgX (.Name x p)
  | tup {es k p} : TgX (.Tuple es k p)
noncomputable def TgI : It → Expr → Prop
  | .v _, tx => TgX tx
  | .p _ _, tx => ∃ es k p, tx = .Tuple es k p
theorem MTg.x {K : Kc} {t : Tg} {x : Expr} (h : MTg K t x) : TgX x := by cases h; exact .name; exact .tup
theorem MTg.xi {K : Kc} {t : Tg} {x : Expr} {it : It} {ρ ρ' : Loc} (h : MTg K t x) (e : bindT t it ρ = some ρ') : TgI it x := by
  cases it with
  | v _ => exact h.x
  | p _ _ => cases h with
    | one _ => cases e
    | two _ _ => exact ⟨_, _, _, rfl⟩

noncomputable def Free (W : Wd) (c : Cx) (P : Addr → Obj → Prop) (H : Hp) (b : Addr) : Prop := W.base.get? b = none ∧ b ∉ c.all ∧ (∀ o, ¬ P b o) ∧ H b = none

structure ItOk (W : Wd) (A : Around) (I : Addr) (ad : List Addr) (w : List (Addr × Ob)) (R : List It → Heap → Prop) : Prop where
  frame : ∀ its h h', R its h → (∀ b ∈ ad, ∀ o, h.get? b = some o → h'.get? b = some o) → R its h'
  there : ∀ its h, R its h → ∀ b ∈ ad, ∃ o, h.get? b = some o ∧ (∃ n, o.cls = .type n ∧ n ≠ "tuple") ∧ (∃ vs, o.data = .fields vs)
  item : ∀ (c : Cx) (P : Addr → Obj → Prop) (ρ : Loc) (H : Hp) (s : Shared) (it : It) (its : List It) (tx : Expr) (E : Value → Shared → Prop), c.A = A → Sim W c P ρ H s → (∀ b ∈ ad, Free W c P H b) → okH w H → R (it :: its) s.heap → TgI it tx →
    wpAny (model W.prog W.w) A (pyNext (.ref I)) (fun r s₁ => ∃ v, r = some v ∧ wpAny (model W.prog W.w) A (letOwnedTupleGo tx (.ref I) v) (fun _ s₂ => Sim W c P ρ H s₂ ∧ KeepR s.heap s₂.heap ∧ RepIt W s₂.heap it v ∧ R its s₂.heap) E s₁) E s
  fin : ∀ (c : Cx) (P : Addr → Obj → Prop) (ρ : Loc) (H : Hp) (s : Shared) (E : Value → Shared → Prop), c.A = A → Sim W c P ρ H s → (∀ b ∈ ad, Free W c P H b) → okH w H → R [] s.heap →
    wpAny (model W.prog W.w) A (pyNext (.ref I)) (fun r s₁ => r = none ∧ Sim W c P ρ H s₁ ∧ KeepR s.heap s₁.heap) E s
  self : ∀ (its : List It) (s : Shared) (Q : Value → Shared → Prop) (E : Value → Shared → Prop), R its s.heap → Q (.ref I) s → wpAny (model W.prog W.w) A (pyIter (.ref I)) Q E s

section
variable {W : Wd} {A : Around}

theorem Sim.turn {c : Cx} {P : Addr → Obj → Prop} {ρ : Loc} {H : Hp} {s : Shared} {h' : Heap} {tk : Nat} {d : Addr} {o : Obj} (S : Sim W c P ρ H s) (f : Free W c P H d) (e : s.heap.get? d = some o) (hc : ∃ n, o.cls = .type n ∧ n ≠ "tuple") (hd : ∃ vs, o.data = .fields vs)
    (hk : ∀ b o, b ≠ d → s.heap.get? b = some o → h'.get? b = some o) : Sim W c P ρ H { s with heap := h', toks := tk } ∧ KeepR s.heap h' := by
  obtain ⟨n, hc, hn⟩ := hc
  obtain ⟨vs, hd⟩ := hd
  refine ⟨S.change d (fun o' e' => ?_) f.1 f.2.1 f.2.2.1 hk (fun _ _ => rfl) (fun o' e' => by rw [f.2.2.2] at e'; cases e'), ⟨fun b o' i m e' k q => hk b o' ?_ e', fun b o' C ws e' k q => ⟨o', ws, hk b o' ?_ e', k, q⟩⟩⟩
  · rw [e] at e'; cases e'
    exact ⟨by rw [hc]; intro q; exact hn (by cases q; rfl), by rw [hc]; exact nofun, by rw [hd]; exact nofun⟩
  · rintro rfl; rw [e] at e'; cases e'; rw [hc] at k; exact hn (by cases k; rfl)
  · rintro rfl; rw [e] at e'; cases e'; rw [hc] at k; cases k

theorem go_plain {I : Addr} {o : Obj} {v : Value} {tx : Expr} {n : String} {vs : Array Value} {Q : Unit → Shared → Prop} {E : Value → Shared → Prop} {s : Shared} (g : s.heap.get? I = some o) (hc : o.cls = .type n) (hd : o.data = .fields vs)
    (hn : (["enumerate", "zip", "dict_itemiterator", "dict_reverseitemiterator", "odict_iterator", "itertools.zip_longest", "itertools.pairwise"].contains n) = false) (t : TgX tx) (h : Q () s) : wpAny (model W.prog W.w) A (letOwnedTupleGo tx (.ref I) v) Q E s := by
  cases t with
  | name => exact wpAny_pure h
  | tup =>
    unfold letOwnedTupleGo
    cases v <;> first | exact wpAny_pure h | skip
    refine wpAny_bind (wpAny_load g ?_)
    rw [hc, hd]
    dsimp only
    rw [hn, Bool.false_and]
    exact wpAny_pure h

theorem itok_list (hh : A.handled = none) (I l : Addr) (xs : List V) : ItOk W A I [I] [(l, .list xs)] (fun its h => ∃ i, h.IsListIter I l i ∧ its = (xs.drop i).map It.v) where
  frame := fun its h h' ⟨i, x, e⟩ k => ⟨i, x.at fun o z => k I (by simp) o z, e⟩
  there := fun its h ⟨i, ⟨o, x, hc, hd⟩, e⟩ b hb => by simp at hb; subst hb; exact ⟨o, x, ⟨_, hc, by decide⟩, _, hd⟩
  item := fun c P ρ H s it its tx E hA S f ok ⟨i, x, e⟩ t => by
    have ha := ok (l, .list xs) (by simp)
    obtain ⟨_, items, n, g, r⟩ := S.heap _ _ ha
    have hlt : i < xs.length := by
      rcases Nat.lt_or_ge i xs.length with q | q
      · exact q
      · rw [List.drop_eq_nil_of_le q] at e; cases e
    rw [List.drop_eq_getElem_cons hlt] at e
    simp only [List.map_cons, List.cons.injEq] at e
    obtain ⟨rfl, rfl⟩ := e
    obtain ⟨u, e1, r1⟩ := r.get (i := i) (v := xs[i]) (by simp [hlt])
    obtain ⟨o, ho, hc, hd⟩ := id x
    have hl : s.heap.IsList l items := ⟨_, g, rfl, n, rfl⟩
    refine wpAny_pyNext_list_item x hl (x := u) (by simpa using e1) fun h' x' hs' => ⟨u, rfl, ?_⟩
    have hk : ∀ b o, b ≠ I → s.heap.get? b = some o → h'.get? b = some o := fun b o q e => hs'.extBut b o q e
    obtain ⟨S', kr⟩ := S.turn (tk := s.toks) (f I (by simp)) ho ⟨_, hc, by decide⟩ ⟨_, hd⟩ hk
    obtain ⟨o', ho', hc', hd'⟩ := id x'
    exact go_plain (s := { s with heap := h' }) ho' hc' hd' (by decide) t ⟨S', kr, r1.mono kr, i + 1, x', rfl⟩
  fin := fun c P ρ H s E hA S f ok ⟨i, x, e⟩ => by
    have ha := ok (l, .list xs) (by simp)
    obtain ⟨_, items, n, g, r⟩ := S.heap _ _ ha
    obtain ⟨o, ho, hc, hd⟩ := id x
    have hl : s.heap.IsList l items := ⟨_, g, rfl, n, rfl⟩
    have hge : xs.length ≤ i := by
      rcases Nat.lt_or_ge i xs.length with q | q
      · rw [List.drop_eq_getElem_cons q] at e; cases e
      · exact q
    have hsz : items.size = xs.length := by rw [r.length]; simp
    refine wpAny_pyNext_list_end hh x hl (by simp; omega) fun h' hs' => ⟨rfl, ?_⟩
    exact S.turn (tk := s.toks) (f I (by simp)) ho ⟨_, hc, by decide⟩ ⟨_, hd⟩ fun b o q e => hs' b o q e
  self := fun its s Q E ⟨i, x, e⟩ h => wpAny_pyIter_listiter x h

theorem rangeL_succ (lo st : Int) (n : Nat) : rangeL lo st (n + 1) = It.v (.int lo) :: rangeL (lo + st) st n := by
  unfold rangeL
  rw [List.range_succ_eq_map, List.map_cons, List.map_map]
  congr 1
  · simp
  · apply List.map_congr_left
    intro k _
    simp only [Function.comp, It.v.injEq, V.int.injEq]
    rw [Int.natCast_succ, Int.add_mul]; omega

theorem itok_range (hh : A.handled = none) (I : Addr) (st : Int) : ItOk W A I [I] [] (fun its h => ∃ (x : Int) (n : Nat), IsRangeIter h I x n st ∧ its = rangeL x st n) where
  frame := fun its h h' ⟨i, n, x, e⟩ k => ⟨i, n, k I (by simp) _ x, e⟩
  there := fun its h ⟨i, n, x, e⟩ b hb => by simp at hb; subst hb; exact ⟨_, x, ⟨_, rfl, by decide⟩, _, rfl⟩
  item := fun c P ρ H s it its tx E hA S f ok ⟨i, n, x, e⟩ t => by
    cases n with
    | zero => cases e
    | succ n =>
      rw [rangeL_succ] at e
      simp only [List.cons.injEq] at e
      obtain ⟨rfl, rfl⟩ := e
      refine wpAny_pyNext_range_item x (by omega) fun h' x' hs' => ⟨_, rfl, ?_⟩
      obtain ⟨S', kr⟩ := S.turn (tk := s.toks + 1) (f I (by simp)) x ⟨_, rfl, by decide⟩ ⟨_, rfl⟩ fun b o q e => hs'.extBut b o q e
      have x'' : IsRangeIter h' I (i + st) n st := by
        have e : ((n + 1 : Nat) : Int) - 1 = n := by omega
        rw [e] at x'; exact x'
      exact go_plain (s := { s with heap := h', toks := s.toks + 1 }) x'' rfl rfl (by decide) t ⟨S', kr, .int _ _, _, n, x'', rfl⟩
  fin := fun c P ρ H s E hA S f ok ⟨i, n, x, e⟩ => by
    cases n with
    | succ n => rw [rangeL_succ] at e; cases e
    | zero =>
      refine wpAny_pyNext_range_end hh x (by simp) fun h' hs' => ⟨rfl, ?_⟩
      exact S.turn (tk := s.toks) (f I (by simp)) x ⟨_, rfl, by decide⟩ ⟨_, rfl⟩ fun b o q e => hs' b o q e
  self := fun its s Q E ⟨i, n, x, e⟩ h => wpAny_pyIter_rangeiter x h
end
end Mine.Internal
end

section
namespace Mine.Internal
open PySem PySem.W PySem.Calls PyProof.Rows PySem.SeqAt
section
variable {W : Wd} {T : Tx W} {c : Cx} {K : Kc} {hd : Bool} {G : Gl}

noncomputable def Itr (W : Wd) (c : Cx) (P : Addr → Obj → Prop) (ρ : Loc) (KK : List It → List (Addr × Ob) → Hp → Prop) : Value → Shared → Prop := fun it s₂ =>
  ∃ I ad w R its H₂, it = .ref I ∧ ItOk W c.A I ad w R ∧ R its s₂.heap ∧ Sim W c P ρ H₂ s₂ ∧ (∀ b ∈ ad, Free W c P H₂ b) ∧ KK its w H₂
noncomputable def SS (W : Wd) (c : Cx) (G : Gl) (hd : Bool) (src : Sr) (sx : Expr) : Prop := ∀ (P : Addr → Obj → Prop) (ρ : Loc) (H : Hp) (s : Shared) (KK : List It → List (Addr × Ob) → Hp → Prop) (X : String → Hp → Prop), hd = false → Sim W c P ρ H s → wpSr G hd src ρ KK X H →
  wpAny (model W.prog W.w) c.A (eval sx c.env) (fun xv s₁ => wpAny (model W.prog W.w) c.A (pyIter xv) (Itr W c P ρ KK) (EX W c P ρ X) s₁) (EX W c P ρ X) s

theorem Sim.free {P : Addr → Obj → Prop} {ρ : Loc} {H : Hp} {s : Shared} (S : Sim W c P ρ H s) {a : Addr} (h : s.heap.get? a = none) : Free W c P H a := S.fresh h

theorem ss_ex {e x} (C : CxOk T c K hd) (h : SE W c G hd e x) : SS W c G hd (.ex e) x := fun P ρ H s KK X hf S w => by
  rw [wpSr] at w
  refine wpAny_mono (h P ρ H s _ X S w) (fun u s₁ ⟨v, H₁, S₁, r, q⟩ => ?_) fun _ _ x => x
  cases v with
  | ref a =>
    cases r
    dsimp only at q
    split at q
    · rename_i xs ea
      obtain ⟨_, it, n, g, ri⟩ := S₁.heap _ _ ea
      refine wpAny_pyIter_list (items := it) ⟨_, g, rfl, n, rfl⟩ ?_
      refine ⟨s₁.heap.objs.size, _, _, _, _, H₁, rfl, itok_list (C.hand hf) s₁.heap.objs.size a xs, ⟨0, ⟨_, Heap.get?_push_size _ rfl, rfl, rfl⟩, rfl⟩, S₁.grow (tk := s₁.toks) fun b o e => Heap.get?_push_of_some _ e, fun b hb => ?_, by simpa using q⟩
      simp at hb; subst hb
      exact S₁.free (size_none _)
    · exact q.elim
  | _ => exact q.elim

theorem iter_range {P : Addr → Obj → Prop} {ρ : Loc} {H : Hp} {s : Shared} {KK : List It → List (Addr × Ob) → Hp → Prop} {E : Value → Shared → Prop} {a b st : Int} {t u v : Tok} {r : Addr} (hh : c.A.handled = none) (S : Sim W c P ρ H s) (hr : IsRange s.heap r a b st t u v) (hs : Builtin.Range.small a b st = true)
    (hz : Builtin.Range.rangeSize a b st = (turns a b st : Nat)) (q : KK (rangeL a st (turns a b st)) [] H) : wpAny (model W.prog W.w) c.A (pyIter (.ref r)) (Itr W c P ρ KK) E s := by
  refine wpAny_pyIter_range hr hs ?_
  rw [hz]
  refine ⟨s.heap.objs.size, _, _, _, _, H, rfl, itok_range hh s.heap.objs.size st, ⟨a, turns a b st, Heap.get?_push_size _ rfl, rfl⟩, S.grow (tk := s.toks) fun b o e => Heap.get?_push_of_some _ e, fun b hb => ?_, q⟩
  simp at hb; subst hb
  exact S.free (size_none _)

theorem turns_one (a b : Int) : turns a b 1 = (b - a).toNat := by unfold turns; simp
theorem size_1 (n : Int) : Builtin.Range.rangeSize 0 n 1 = (turns 0 n 1 : Nat) := by
  rw [turns_one]
  unfold Builtin.Range.rangeSize
  rw [if_pos (by decide)]
  split <;> omega
theorem small_1 {n : Int} (h : Ix n) : Builtin.Range.small 0 n 1 = true := by
  unfold Ix at h
  have hz : 0 ≤ Builtin.Range.rangeSize 0 n 1 ∧ Builtin.Range.rangeSize 0 n 1 ≤ 9223372036854775807 := by rw [size_1, turns_one]; omega
  unfold Builtin.Range.small
  simp only [Builtin.Range.rangeFitsLong, Bool.and_eq_true, Bool.or_eq_true, decide_eq_true_eq, beq_iff_eq]
  refine ⟨⟨⟨⟨by omega, by omega⟩, by omega⟩, by omega⟩, .inr ?_⟩
  rw [if_pos (by decide)]
  simp only [Bool.and_eq_true, decide_eq_true_eq]
  omega
theorem ss_range1 {b x q p} (C : CxOk T c K hd) (g : K.gl (Str.ofString "range") = true) (m : ME K b x) (h : SE W c G hd b x) : SS W c G hd (.range1 b) (.Call (.Name (Str.ofString "range") q) [x] [] p) := fun P ρ H s KK X hf S w => by
  rw [wpSr] at w
  refine wpAny_Call_Name_kw (sound_builtin C S g T.rng ?_)
  rw [m.star]
  refine PySem.callWith_type rfl (evalArgs_plain (spliced_cons (wpAny_mono (h P ρ H s _ X S w) (fun u s₁ ⟨v, H₁, S₁, r, q⟩ => spliced_nil ?_) fun _ _ x => x)))
  cases v with
  | int n =>
    cases r
    obtain ⟨hn, q⟩ := q
    refine call_range_1 ?_
    exact iter_range (s := { s₁ with heap := s₁.heap.push { cls := .type "range", data := .fields #[.int 0 s₁.toks, .int n _, .int 1 (s₁.toks + 1)] }, toks := s₁.toks + 1 + 1 }) (C.hand hf) (S₁.grow fun b o e => Heap.get?_push_of_some _ e) (IsRange.new ..) (small_1 hn) (size_1 _) (by rw [turns_one]; simpa using q)
  | _ => exact q.elim
end
end Mine.Internal
end

section
namespace Mine.Internal
open PySem PySem.W PySem.Calls PyProof.Rows PySem.SeqAt
section
variable {W : Wd} {T : Tx W} {c : Cx} {K : Kc} {hd : Bool} {G : Gl}

theorem sound_assign {t : Tg} {tx : Expr} {it : It} {v : Value} {P : Addr → Obj → Prop} {ρ ρ' : Loc} {H : Hp} {s : Shared} {E : Value → Shared → Prop} {Q : Unit → Shared → Prop} (C : CxOk T c K hd) (hh : c.A.handled = none) (S : Sim W c P ρ H s) (m : MTg K t tx) (b : bindT t it ρ = some ρ') (r : RepIt W s.heap it v)
    (h : ∀ s', Sim W c P ρ' H s' → KeepR s.heap s'.heap → Q () s') : wpAny (model W.prog W.w) c.A (assign tx c.env v) Q E s := by
  cases m with
  | one g =>
    cases it with
    | p _ _ => cases b
    | v x =>
      cases b
      exact wpAny_assign_Name (sound_store C S g r h)
  | two g1 g2 =>
    rename_i i j _ _ _ _ _ _
    have r' : ∃ x y, Rep W s.heap (.tup [x, y]) v ∧ ρ' = (ρ.set i (some x)).set j (some y) := by
      cases it with
      | p x y => cases b; exact ⟨x, y, r, rfl⟩
      | v z =>
        cases z with
        | tup l =>
          match l, b with
          | [x, y], b => cases b; exact ⟨x, y, r, rfl⟩
          | [], b => cases b
          | [_], b => cases b
          | _ :: _ :: _ :: _, b => cases b
        | _ => cases b
    obtain ⟨x, y, r', rfl⟩ := r'
    cases r' with
    | tup e k d l rs =>
      obtain ⟨u1, u2, e2, r1, r2⟩ := rs.two
      rename_i items n
      have hs : items.size = 2 := by rw [← Array.length_toList, e2]; rfl
      refine wpAny_assign_Tuple hh (items := items) ⟨_, e, k, n, d⟩ (by rw [hs]; rfl) rfl fun h' hx => ?_
      have hk : ∀ b o, s.heap.get? b = some o → h'.get? b = some o := fun b o e => hx b o (fun q => by rw [q, size_none] at e; cases e) e
      have S₁ : Sim W c P ρ H { s with heap := h' } := S.grow (tk := s.toks) hk
      rw [e2]
      show wpAny _ _ (assignInOrder [assign (.Name _ _) c.env, assign (.Name _ _) c.env] [u1, u2]) _ _ _
      refine wpAny_assignInOrder_more (wpAny_assign_Name (sound_store C S₁ g1 (r1.mono (.of_keeps hk)) fun s₂ S₂ k₂ => ?_))
      refine wpAny_assignInOrder_more (wpAny_assign_Name (sound_store C S₂ g2 (r2.mono ((KeepR.of_keeps hk).trans k₂)) fun s₃ S₃ k₃ => ?_))
      exact wpAny_assignInOrder_none (h s₃ S₃ (((KeepR.of_keeps hk).trans k₂).trans k₃))

theorem cOk_spec {scope : Scope} {t : Tg} (h : cOk K scope t = true) : scope.kind = .function ∧ (∀ y ∈ scope.names, y.2 ≠ .cell) ∧ (∀ y ∈ scope.names, y.2 = .local → scope.names.lookup y.1 = some .local) ∧ (∀ y ∈ scope.names, y.2 = .free → K.sc.names.lookup y.1 = some .cell) ∧
    (∀ i x, K.names[i]? = some x → scope.names.lookup (Str.ofString x) = some .local → i ∈ t.slots) := by
  unfold cOk at h
  simp only [Bool.and_eq_true, beq_iff_eq, List.all_eq_true] at h
  obtain ⟨⟨h1, h2⟩, h3⟩ := h
  refine ⟨h1, fun y hy => ?_, fun y hy q => ?_, fun y hy q => ?_, fun i x e q => ?_⟩
  · have := (h2 y hy).1.1; simpa using this
  · have := (h2 y hy).1.2; simpa [q] using this
  · have := (h2 y hy).2; simpa [q] using this
  · have hi : i < K.names.length := by
      rcases Nat.lt_or_ge i K.names.length with z | z
      · exact z
      · rw [List.getElem?_eq_none z] at e; cases e
    have := h3 i (List.mem_range.mpr hi)
    simp only [e, q] at this
    simpa using this

theorem lookup_mem {names : List (Str × NameKind)} {x : Str} {k : NameKind} (h : names.lookup x = some k) : (x, k) ∈ names := by
  induction names with
  | nil => cases h
  | cons p r ih =>
    obtain ⟨n, k'⟩ := p
    rw [List.lookup_cons] at h
    cases q : x == n with
    | true => rw [q] at h; cases h; rw [beq_iff_eq.mp q]; exact .head _
    | false => rw [q] at h; exact .tail _ (ih h)

theorem closure_go {env : Env} : ∀ (names : List (Str × NameKind)) (cs : List (Str × Addr)), (∀ y ∈ names, y.2 = .free → ∃ a, env.cells.lookup y.1 = some a) → (∀ x a, cs.lookup x = some a → env.cells.lookup x = some a) →
    ∃ cl, (forIn names cs fun (x : Str × NameKind) (r : List (Str × Addr)) => (do if x.2 == .free then pure (ForInStep.yield ((x.1, ← cellOf env x.1) :: r)) else pure (ForInStep.yield r) : Sem _)) = pure cl ∧ (∀ x a, cl.lookup x = some a → env.cells.lookup x = some a) ∧ (∀ x a, cs.lookup x = some a → cl.lookup x = some a) ∧ (∀ y ∈ names, y.2 = .free → ∃ a, cl.lookup y.1 = some a)
  | [], cs, _, h => ⟨cs, rfl, h, fun _ _ e => e, fun _ h => by cases h⟩
  | (n, k) :: r, cs, hf, h => by
    by_cases hk : k = .free
    · subst hk
      obtain ⟨a, ha⟩ := hf (n, .free) (.head _) rfl
      obtain ⟨cl, e1, e2, e3, e4⟩ := closure_go r ((n, a) :: cs) (fun y hy => hf y (.tail _ hy)) (fun x b e => by
        rw [List.lookup_cons] at e
        cases q : x == n with
        | true => rw [q] at e; cases e; rw [beq_iff_eq.mp q]; exact ha
        | false => rw [q] at e; exact h x b e)
      have hn : cl.lookup n = some a := e3 n a (by rw [List.lookup_cons, beq_self_eq_true])
      refine ⟨cl, ?_, e2, fun x b e => ?_, fun y hy q => ?_⟩
      · rw [List.forIn_cons, ← e1]
        simp only [beq_self_eq_true, if_true]
        unfold cellOf
        rw [ha]
        rfl
      · by_cases q : x = n
        · subst q
          have := h x b e
          rw [ha] at this; cases this; exact hn
        · exact e3 x b (by rw [List.lookup_cons, beq_eq_false_iff_ne.mpr q]; exact e)
      · rcases List.mem_cons.mp hy with rfl | hy
        · exact ⟨a, hn⟩
        · exact e4 y hy q
    · obtain ⟨cl, e1, e2, e3, e4⟩ := closure_go r cs (fun y hy => hf y (.tail _ hy)) h
      refine ⟨cl, ?_, e2, e3, fun y hy q => ?_⟩
      · rw [List.forIn_cons, ← e1]
        simp only [beq_eq_false_iff_ne.mpr hk, Bool.false_eq_true, if_false]
        rfl
      · rcases List.mem_cons.mp hy with rfl | hy
        · exact absurd q hk
        · exact e4 y hy q
theorem closure_of {scope : Scope} {t : Tg} (C : CxOk T c K hd) (h : cOk K scope t = true) : ∃ cl, closureFor scope c.env = pure cl ∧ (∀ x a, cl.lookup x = some a → c.env.cells.lookup x = some a) ∧ (∀ x, scope.names.lookup x = some .free → ∃ a, cl.lookup x = some a) := by
  obtain ⟨h1, h2, h3, h4, h5⟩ := cOk_spec h
  obtain ⟨cl, e1, e2, e3, e4⟩ := closure_go (env := c.env) scope.names [] (fun y hy q => C.cellKind _ (by unfold Env.kindOf; rw [C.sc]; exact h4 y hy q)) (fun x a e => by cases e)
  refine ⟨cl, ?_, e2, fun x e => e4 (x, .free) (lookup_mem e) rfl⟩
  unfold closureFor
  show (forIn scope.names [] _ >>= pure) = pure cl
  rw [show (fun (x : Str × NameKind) (r : List (Str × Addr)) => (match x with | (name, kind) => if (kind == NameKind.free) = true then (do let __do_lift ← cellOf c.env name; pure (ForInStep.yield ((name, __do_lift) :: r))) else pure (ForInStep.yield r) : Sem (ForInStep (List (Str × Addr))))) = (fun x r => do if x.2 == .free then pure (ForInStep.yield ((x.1, ← cellOf c.env x.1) :: r)) else pure (ForInStep.yield r)) from rfl, e1]
  rfl
end
end Mine.Internal
end

section
namespace Mine.Internal
open PySem PySem.W PySem.Calls PyProof.Rows PySem.SeqAt
section
variable {W : Wd} {T : Tx W} {c : Cx} {K : Kc} {hd : Bool} {G : Gl}

noncomputable def Cx.comp (c : Cx) (K : Kc) (scope : Scope) (cl : List (Str × Addr)) (C : Addr) (m : Str → Option Value) : Cx :=
  { A := c.A, env := compEnvC scope cl C c.env, fenvs := c.fenvs, names := c.names, vis := (K.comp scope).vis, own := [C], outer := (c.env.locals, m) :: c.outer }
noncomputable def PC (c : Cx) (H : Hp) (h : Heap) (ad : List Addr) : Addr → Obj → Prop := fun b o => h.get? b = some o ∧ H b = none ∧ b ∉ c.frs ∧ b ∉ ad

theorem relabel_lookup {scope outer : Scope} {x : Str} : (relabelS scope outer).names.lookup x = (scope.names.lookup x).map fun k => if (k == .free && outer.kind == .function && outer.names.lookup x == some .cell) then .cell else k := by
  unfold relabelS
  dsimp only
  induction scope.names with
  | nil => rfl
  | cons p r ih =>
    obtain ⟨n, k⟩ := p
    have key : ∀ k' : NameKind, (x, k') = (x, k') := fun _ => rfl
    by_cases hc : (k == .free && outer.kind == .function && outer.names.lookup n == some .cell) = true
    · rw [List.map_cons]
      simp only [hc, if_true]
      rw [List.lookup_cons, List.lookup_cons]
      cases q : x == n with
      | true => have e := beq_iff_eq.mp q; subst e; simp only [Option.map, hc, if_true]
      | false => exact ih
    · rw [List.map_cons]
      simp only [hc, Bool.false_eq_true, if_false]
      rw [List.lookup_cons, List.lookup_cons]
      cases q : x == n with
      | true => have e := beq_iff_eq.mp q; subst e; simp only [Option.map, hc, Bool.false_eq_true, if_false]
      | false => exact ih

theorem CxOk.comp {scope : Scope} {t : Tg} {cl : List (Str × Addr)} {C : Addr} {m : Str → Option Value} (O : CxOk T c K hd) (h : cOk K scope t = true) (e2 : ∀ x a, cl.lookup x = some a → c.env.cells.lookup x = some a) (e3 : ∀ x, scope.names.lookup x = some .free → ∃ a, cl.lookup x = some a) :
    CxOk T (c.comp K scope cl C m) (K.comp scope) hd := by
  obtain ⟨h1, h2, h3, h4, h5⟩ := cOk_spec h
  refine ⟨?_, h1, O.names, rfl, O.gint, O.fns, O.cls, O.glob, O.bi, O.hand, O.units, O.frames, O.inj, (fun x a e q => by cases q), fun x a e => O.cellFr x a (e2 x a e), fun x e => ?_, fun x y a ex ey => O.cellInj x y a (e2 x a ex) (e2 y a ey)⟩
  · show relabelS scope c.env.scope = relabelS scope K.sc
    rw [O.sc]
  · have e : (relabelS scope c.env.scope).names.lookup x = some .cell := e
    rw [relabel_lookup] at e
    cases q : scope.names.lookup x with
    | none => rw [q] at e; cases e
    | some k =>
      rw [q] at e
      cases k with
      | free => exact e3 x q
      | cell => exact absurd rfl (h2 _ (lookup_mem q))
      | _ => simp at e

theorem Sim.intoC {P : Addr → Obj → Prop} {ρ ρ₀ : Loc} {H : Hp} {s : Shared} {h' : Heap} {tk : Nat} {scope : Scope} {t : Tg} {cl : List (Str × Addr)} {C : Addr} {m : Str → Option Value} {ad : List Addr} (O : CxOk T c K hd) (h : cOk K scope t = true) (e2 : ∀ x a, cl.lookup x = some a → c.env.cells.lookup x = some a)
    (e3 : ∀ x, scope.names.lookup x = some .free → ∃ a, cl.lookup x = some a) (S : Sim W c P ρ H s) (hk : ∀ b o, s.heap.get? b = some o → h'.get? b = some o) (hC : s.heap.get? C = none) (hn : h'.Ns C (fun _ => none)) (hm : s.heap.Ns c.env.locals m)
    (hv : ∀ i x v, c.vis i = true → c.names[i]? = some x → ρ[i]? = some (some v) → HasVar W c.env s.heap m (Str.ofString x) v) (h0 : ∀ (i : Nat) (v : V), ρ₀[i]? = some (some v) → ρ[i]? = some (some v) ∧ i ∉ t.slots) :
    Sim W (c.comp K scope cl C m) (PC c H s.heap ad) ρ₀ H { s with heap := h', toks := tk } := by
  obtain ⟨h1, h2, h3, h4, h5⟩ := cOk_spec h
  have kr : KeepR s.heap h' := .of_keeps hk
  obtain ⟨f1, f2, f3, f4⟩ := S.fresh hC
  have hCne : ∀ b o, s.heap.get? b = some o → b ≠ C := fun b o e q => by rw [q, hC] at e; cases e
  obtain ⟨oC, esC, epC, eC, dC, rC⟩ := id hn
  refine ⟨?_, fun b o e => hk b o (S.base b o e), funFrames_at S.frames fun b hb o e d => ⟨o, hk b o e, d⟩, fun p hp => ?_, ⟨fun _ => none, hn, fun i x v v1 v2 v3 => ?_⟩, by simp [Cx.comp, compEnvC], fun b hb => ?_, fun b hb p hp => ?_,
    fun a o e => (S.heap a o e).at kr fun ob z => hk a ob z, S.new, fun a o e => ?_, fun b o p => hk b o p.1, fun b o p => p.2.1, fun b o p => ⟨?_, p.2.2.1⟩, fun x a e => ?_, fun b hb => ?_⟩
  · obtain ⟨hp, tk', e⟩ := S.rest
    exact ⟨h', tk, by rw [e]⟩
  · rcases List.mem_cons.mp hp with rfl | hp
    · exact hm.at' fun o e => hk _ o e
    · exact (S.outer p hp).at' fun o e => hk _ o e
  · obtain ⟨w1, w2⟩ := h0 i v v3
    have v2' : K.names[i]? = some x := by rw [← O.names]; exact v2
    have v1' : (K.comp scope).vis i = true := v1
    unfold Kc.comp at v1'
    dsimp only at v1'
    rw [v2'] at v1'
    dsimp only at v1'
    split at v1'
    · rename_i q; exact absurd (h5 i x v2' q) w2
    · rename_i q
      simp only [Bool.and_eq_true, beq_iff_eq] at v1'
      obtain ⟨z1, z2⟩ := v1'
      obtain ⟨a, ha⟩ := e3 _ q
      have ke : c.env.kindOf (Str.ofString x) = some .cell := by unfold Env.kindOf; rw [O.sc]; exact z2
      rcases hv i x v (by rw [O.vis]; exact z1) v2 w1 with ⟨k, _⟩ | ⟨k, cl', o, u, e', ho, hd', r'⟩
      · rw [ke] at k; cases k
      · have := e2 _ _ ha
        rw [e'] at this; cases this
        refine .inr ⟨?_, a, o, u, ha, hk _ _ ho, hd', r'.mono kr⟩
        show (relabelS scope c.env.scope).names.lookup (Str.ofString x) = some .cell
        rw [relabel_lookup, q, O.sc]
        simp [O.kind, z2]
    · cases v1'
  · simp [Cx.comp] at hb; subst hb; exact f1
  · simp [Cx.comp] at hb; subst hb
    rcases List.mem_cons.mp hp with rfl | hp
    · rintro q
      obtain ⟨o, _, _, e, _⟩ := hm
      exact hCne _ _ e q
    · rintro q
      obtain ⟨o, _, _, e, _⟩ := S.outer p hp
      exact hCne _ _ e q
  · have := S.apart a o e
    obtain ⟨ob, ea, _⟩ := (S.heap a o e).obj
    have ne := hCne _ _ ea
    simp only [Cx.all, Cx.comp, Cx.frs, List.mem_append, List.map_cons, List.mem_cons, List.not_mem_nil, or_false, not_or] at this ⊢
    exact ⟨⟨ne, this.1.2⟩, fun q => this.1.1 (q ▸ S.locOwn), this.2⟩
  · simp [Cx.comp]; exact hCne _ _ p.1
  · obtain ⟨u, o, e1, e2'⟩ := S.cells x a (e2 x a e)
    exact ⟨u, o, hk _ _ e1, e2'⟩
  · rcases hb with hb | hb
    · simp [Cx.comp] at hb; subst hb
      exact ⟨oC, eC, .inl ⟨_, _, dC⟩⟩
    · obtain ⟨o, e, q⟩ := S.ownD b (.inr hb)
      exact ⟨o, hk _ _ e, q⟩

theorem Sim.outC {P : Addr → Obj → Prop} {ρ ρc : Loc} {H H' : Hp} {s s' : Shared} {h'' : Heap} {scope : Scope} {cl : List (Str × Addr)} {C : Addr} {m : Str → Option Value} {ad : List Addr} (O : CxOk T c K hd) (S : Sim W c P ρ H s) (hC : s.heap.get? C = none) (hm : s.heap.Ns c.env.locals m)
    (hv : ∀ i x v, c.vis i = true → c.names[i]? = some x → ρ[i]? = some (some v) → HasVar W c.env s.heap m (Str.ofString x) v) (hin : K.inC = false) (had : ∀ b ∈ ad, Free W c P H b) (hadT : ∀ b ∈ ad, ∀ o, s.heap.get? b = some o → (∃ n, o.cls = .type n ∧ n ≠ "tuple") ∧ (∃ vs, o.data = .fields vs))
    (S' : Sim W (c.comp K scope cl C m) (PC c H s.heap ad) ρc H' s') (hs : Heap.SameBut C s'.heap h'') : Sim W c P ρ H' { s' with heap := h'' } ∧ KeepR s.heap h'' := by
  have k0 : ∀ b o, b ≠ C → s'.heap.get? b = some o → h''.get? b = some o := fun b o q e => hs.extBut b o q e
  have hCne : ∀ b o, s.heap.get? b = some o → b ≠ C := fun b o e q => by rw [q, hC] at e; cases e
  have kp : ∀ b o, s.heap.get? b = some o → H b = none → b ∉ c.frs → b ∉ ad → h''.get? b = some o := fun b o e q1 q2 q3 => k0 b o (hCne b o e) (S'.prot b o ⟨e, q1, q2, q3⟩)
  obtain ⟨f1, f2, f3, f4⟩ := S.fresh hC
  have nfr : ∀ b o, s.heap.get? b = some o → (∀ es n, o.data ≠ .dict es n) → (∀ v, o.data ≠ .cell v) → b ∉ c.frs := fun b o e d1 d2 mm => by
    obtain ⟨o', e', q⟩ := S.ownD b (.inr mm)
    rw [e] at e'; cases e'
    rcases q with ⟨_, _, q⟩ | ⟨_, q⟩
    · exact d1 _ _ q
    · exact d2 _ q
  have nH : ∀ b o, s.heap.get? b = some o → o.cls ≠ .type "list" → o.cls ≠ .type "dict" → H b = none := fun b o e h1 h2 => by
    cases q : H b with
    | none => rfl
    | some x =>
      obtain ⟨ob, e', k, _⟩ := (S.heap b x q).obj
      rw [e] at e'; cases e'
      rcases k with k | k
      · exact absurd k h1
      · exact absurd k h2
  have kr : KeepR s.heap h'' := by
    refine ⟨fun b o i n e k d => kp b o e (nH b o e (by rw [k]; decide) (by rw [k]; decide)) (nfr b o e (by rw [d]; exact nofun) (by rw [d]; exact nofun)) fun z => ?_, fun b o D ws e k d => ⟨o, ws, kp b o e (nH b o e (by rw [k]; exact nofun) (by rw [k]; exact nofun)) (nfr b o e (by rw [d]; exact nofun) (by rw [d]; exact nofun)) fun z => ?_, k, d⟩⟩
    · obtain ⟨⟨n', q1, q2⟩, _⟩ := hadT b z o e
      rw [k] at q1; cases q1; exact q2 rfl
    · obtain ⟨⟨n', q1, q2⟩, _⟩ := hadT b z o e
      rw [k] at q1; cases q1
  have nad : ∀ b o, s.heap.get? b = some o → ((∃ es n, o.data = .dict es n) ∨ (∃ v, o.data = .cell v)) → b ∉ ad := fun b o e q z => by
    obtain ⟨_, vs, d⟩ := hadT b z o e
    rcases q with ⟨_, _, q⟩ | ⟨_, q⟩ <;> rw [d] at q <;> cases q
  have own : ∀ b, b ∈ c.own → b ∉ c.frs → ∃ o, s.heap.get? b = some o ∧ h''.get? b = some o ∧ H' b = none := fun b hb hf => by
    obtain ⟨o, e, q⟩ := S.ownD b (.inl hb)
    have hH : H b = none := by
      cases z : H b with
      | none => rfl
      | some x => exact absurd (Cx.mem_all_own hb) (S.apart b x z)
    exact ⟨o, e, kp b o e hH hf (nad b o e q), S'.protH b o ⟨e, hH, hf, nad b o e q⟩⟩
  have fr : ∀ b, b ∈ c.frs → ∃ o, h''.get? b = some o ∧ ((∃ es n, o.data = .dict es n) ∨ (∃ v, o.data = .cell v)) := fun b hb => by
    obtain ⟨o, e, q⟩ := S'.ownD b (.inr hb)
    obtain ⟨o', e', _⟩ := S.ownD b (.inr hb)
    exact ⟨o, k0 b o (hCne b o' e') e, q⟩
  refine ⟨⟨?_, fun b o e => k0 b o (fun q => by rw [q, f1] at e; cases e) (S'.base b o e), funFrames_at (h := s'.heap) S'.frames fun b hb o e d => ⟨o, k0 b o ?_ e, d⟩, fun p hp => ?_, ⟨m, ?_, fun i x v h1 h2 h3 => (hv i x v h1 h2 h3).mono kr fun cl' o u e1 ho hq => ?_⟩, S.locOwn, S.ownNew, S.ownOut,
    fun a o e => ?_, S'.new, fun a o e => ?_, fun b o p => ?_, fun b o p => ?_, S.protF, fun x a e => ?_, fun b hb => ?_⟩, kr⟩
  · obtain ⟨hp, tk', e⟩ := S'.rest; exact ⟨h'', tk', by rw [e]⟩
  · obtain ⟨o', e', _⟩ := S.ownD b (.inr hb); exact hCne b o' e'
  · refine (S'.outer p (.tail _ hp)).at' fun o e => k0 _ o ?_ e
    obtain ⟨o', _, _, e', _⟩ := S.outer p hp
    exact hCne _ _ e'
  · refine (S'.outer (c.env.locals, m) (.head _)).at' fun o e => k0 _ o ?_ e
    obtain ⟨o', _, _, e', _⟩ := hm
    exact hCne _ _ e'
  · obtain ⟨o', q1, q2, _⟩ := own cl' (O.cellOwn _ _ e1 hin) (O.cellFr _ _ e1)
    rw [ho] at q1; cases q1
    exact ⟨o, q2, rfl⟩
  · have z := S'.heap a o e
    obtain ⟨ob, ea, _⟩ := z.obj
    have ne : a ≠ C := by
      have := S'.apart a o e
      simp only [Cx.all, Cx.comp, List.mem_append, List.mem_cons, List.not_mem_nil, or_false, not_or] at this
      exact this.1.1
    refine z.at ?_ fun ob' e' => k0 _ _ ne e'
    have hl := S'.loc
    obtain ⟨m', ⟨oC, esC, epC, eC, dC, _⟩, _⟩ := hl
    have nt : ∀ b o, s'.heap.get? b = some o → (∀ es n, o.data ≠ .dict es n) → b ≠ C := fun b o e d q => by rw [q, show s'.heap.get? C = some oC from eC] at e; cases e; exact d _ _ dC
    exact ⟨fun b o i n e k d => k0 b o (nt b o e (by rw [d]; exact nofun)) e, fun b o D ws e k d => ⟨o, ws, k0 b o (nt b o e (by rw [d]; exact nofun)) e, k, d⟩⟩
  · have := S'.apart a o e
    simp only [Cx.all, Cx.comp, Cx.frs, List.mem_append, List.map_cons, List.mem_cons, List.not_mem_nil, or_false, not_or] at this ⊢
    refine ⟨⟨fun q => ?_, this.1.2⟩, this.2.2⟩
    by_cases hf : a ∈ c.frs
    · exact this.1.2 hf
    · obtain ⟨_, _, _, z⟩ := own a q hf
      rw [e] at z; cases z
  · exact kp b o (S.prot b o p) (S.protH b o p) (S.protF b o p).2 fun z => (had b z).2.2.1 o p
  · exact S'.protH b o ⟨S.prot b o p, S.protH b o p, (S.protF b o p).2, fun z => (had b z).2.2.1 o p⟩
  · obtain ⟨u, o, e1, e2⟩ := S.cells x a e
    obtain ⟨o', q1, q2, _⟩ := own a (O.cellOwn _ _ e hin) (O.cellFr _ _ e)
    rw [e1] at q1; cases q1
    exact ⟨u, o, q2, e2⟩
  · rcases hb with hb | hb
    · by_cases hf : b ∈ c.frs
      · exact fr b hf
      · obtain ⟨o, e, q2, _⟩ := own b hb hf
        obtain ⟨o', e', q⟩ := S.ownD b (.inl hb)
        rw [e] at e'; cases e'
        exact ⟨o, q2, q⟩
    · exact fr b hb
end
end Mine.Internal
end

section
namespace Mine.Internal
open PySem PySem.W PySem.Calls PyProof.Rows PySem.SeqAt
section
variable {W : Wd} {T : Tx W} {c : Cx} {K : Kc} {hd : Bool} {G : Gl}

theorem comp_rule {prog : Program} {w : World} {A : Around} {R : Result → Shared → Prop} {s : Shared} {elt target iter : Expr} {ifs : List Expr} {scope : Scope} {pos : Pos} {it acc : Value} {env : Env} (I : Nat → Shared → Prop)
    (turn : ∀ n s, I n s → wpAny (model prog w) A (pyNext it) (fun r s₁ => match r with
      | none => R (.ok .next) s₁
      | some v => wpAny (model prog w) A (letOwnedTupleGo target it v) (fun _ s₁' => wpAny (model prog w) A (assign target env v) (fun _ s₂ =>
          wpAny (model prog w) A (forIn ifs true fun c r => if r = true then do let ok ← isTrue c env (eval c env); pure (ForInStep.yield ok) else pure (ForInStep.yield r)) (fun ok s₃ =>
            if ok = true then wpAny (model prog w) A (eval elt env) (fun x s₄ =>
              wpAny (model prog w) A (call (.builtin "list.append") [acc, x]) (fun _ s₅ => ∃ m, m < n ∧ I m s₅) (fun _ _ => False) s₄) (fun _ _ => False) s₃
            else ∃ m, m < n ∧ I m s₃) (fun _ _ => False) s₂) (fun _ _ => False) s₁') (fun _ _ => False) s₁) (fun _ _ => False) s)
    (n : Nat) (h : I n s) : codeAny (model prog w) A (.compLoop (.ListComp elt [⟨target, iter, ifs, 0⟩] scope pos) 0 it acc env) R s := by
  refine codeAny_loop rfl I (fun n s hI => ?_) n h
  show wpAny _ A ((compTurn (.ListComp elt [⟨target, iter, ifs, 0⟩] scope pos) 0 it acc env).onRaise (fun x => do noteFrame x env; theTreesLotGoes x)) _ _ s
  refine wpAny_noted ?_
  rw [compTurn_list]
  refine wpAny_bind (wpAny_standAt (wpAny_bind (wpAny_mono (turn n s hI) (fun r s₁ h₁ => ?_) fun _ _ f => f.elim)))
  cases r with
  | none => exact wpAny_pure h₁
  | some v =>
    refine wpAny_bind (wpAny_mono h₁ (fun _ s₁' h₁' => ?_) fun _ _ f => f.elim)
    refine wpAny_bind (wpAny_mono h₁' (fun _ s₂ h₂ => wpAny_bind (wpAny_mono h₂ (fun ok s₃ h₃ => ?_) fun _ _ f => f.elim)) fun _ _ f => f.elim)
    cases ok with
    | false => exact wpAny_pure ⟨rfl, h₃⟩
    | true =>
      exact wpAny_bind (wpAny_bind (wpAny_mono h₃ (fun x s₄ h₄ => wpAny_bind (wpAny_mono h₄ (fun _ s₅ h₅ => wpAny_pure (wpAny_pure ⟨rfl, h₅⟩)) fun _ _ f => f.elim)) fun _ _ f => f.elim))

theorem Sim.addP {P : Addr → Obj → Prop} {ρ : Loc} {H : Hp} {s : Shared} (S : Sim W c P ρ H s) (X : Addr → Obj → Prop) (hX : ∀ b o, X b o → s.heap.get? b = some o ∧ H b = none ∧ b ∉ c.own ∧ b ∉ c.frs) : Sim W c (fun b o => P b o ∨ X b o) ρ H s :=
  { S with prot := fun b o p => p.elim (S.prot b o) fun x => (hX b o x).1, protH := fun b o p => p.elim (S.protH b o) fun x => (hX b o x).2.1, protF := fun b o p => p.elim (S.protF b o) fun x => (hX b o x).2.2 }
theorem Free.out {P : Addr → Obj → Prop} {H : Hp} {b : Addr} (f : Free W c P H b) : b ∉ c.own ∧ b ∉ c.frs := ⟨fun m => f.2.1 (Cx.mem_all_own m), fun m => f.2.1 (Cx.mem_all_frs m)⟩

theorem comp_turns {A : Around} {P : Addr → Obj → Prop} {ρ : Loc} {D I : Addr} {ad : List Addr} {w : List (Addr × Ob)} {R : List It → Heap → Prop} {t : Tg} {tx sx x : Expr} {ifs : List Expr} {scope : Scope} {pos : Pos} {RR : Result → Shared → Prop} {elt : Loc → (V → Hp → Prop) → Hp → Prop} {test : Loc → (Bool → Hp → Prop) → Hp → Prop} {QQ : List V → Hp → Prop}
    (C : CxOk T c K false) (hA : c.A = A) (O : ItOk W A I ad w R) (m : MTg K t tx)
    (hE : ∀ (P' : Addr → Obj → Prop) (ρ' : Loc) (H' : Hp) (s' : Shared) (Q : V → Hp → Prop), Sim W c P' ρ' H' s' → elt ρ' Q H' → wpAny (model W.prog W.w) A (eval x c.env) (PE W c P' ρ' Q) (fun _ _ => False) s')
    (hT : ∀ (P' : Addr → Obj → Prop) (ρ' : Loc) (H' : Hp) (s' : Shared) (B : Bool → Hp → Prop), Sim W c P' ρ' H' s' → test ρ' B H' → wpAny (model W.prog W.w) A (forIn ifs true fun cx r => if r = true then do let ok ← isTrue cx c.env (eval cx c.env); pure (ForInStep.yield ok) else pure (ForInStep.yield r)) (fun b s'' => ∃ H'', Sim W c P' ρ' H'' s'' ∧ B b H'') (fun _ _ => False) s')
    (hset : ∀ it it' ρ₁ ρ₂, bindT t it ρ = some ρ₁ → bindT t it' ρ = some ρ₂ → bindT t it' ρ₁ = some ρ₂)
    (hRR : ∀ vs H' s' ρc, Sim W c P ρc H' s' → H' D = none → Free W c P H' D → (∃ items n, s'.heap.get? D = some { cls := .type "list", data := .seq items n } ∧ Reps W s'.heap vs items.toList) → QQ vs H' → vs.length ≤ Lim → RR (.ok .next) s') (hDad : D ∉ ad) :
    ∀ (its : List It) (acc : List V) (ρc : Loc) (H : Hp) (s : Shared), Sim W c P ρc H s → (∀ it ρ', bindT t it ρ = some ρ' → bindT t it ρc = some ρ') → (∃ items n, s.heap.get? D = some { cls := .type "list", data := .seq items n } ∧ Reps W s.heap acc items.toList) → acc.length ≤ Lim →
      Free W c P H D → R its s.heap → (∀ b ∈ ad, Free W c P H b) → compGo t w ρ elt test its acc QQ H →
      codeAny (model W.prog W.w) A (.compLoop (.ListComp x [⟨tx, sx, ifs, 0⟩] scope pos) 0 (.ref I) (.ref D) c.env) RR s := by
  intro its acc ρc H s S hb hD hl fD r fad g
  refine comp_rule (I := fun n s => ∃ (its : List It) (acc : List V) (ρc : Loc) (H : Hp), n = its.length ∧ Sim W c P ρc H s ∧ (∀ it ρ', bindT t it ρ = some ρ' → bindT t it ρc = some ρ') ∧ (∃ items n, s.heap.get? D = some { cls := .type "list", data := .seq items n } ∧ Reps W s.heap acc items.toList) ∧ acc.length ≤ Lim ∧
      Free W c P H D ∧ R its s.heap ∧ (∀ b ∈ ad, Free W c P H b) ∧ compGo t w ρ elt test its acc QQ H) (fun n s hI => ?_) its.length ⟨its, acc, ρc, H, rfl, S, hb, hD, hl, fD, r, fad, g⟩
  clear its acc ρc H S hb hD hl fD r fad g
  obtain ⟨its, acc, ρc, H, rfl, S, hb, ⟨items, n, gD, rD⟩, hl, fD, r, fad, g⟩ := hI
  cases its with
  | nil =>
    refine wpAny_mono (O.fin c (fun b o => P b o ∨ (b = D ∧ s.heap.get? D = some o)) ρc H s _ hA (S.addP (fun b o => b = D ∧ s.heap.get? D = some o) ?_) ?_ g.1 r) (fun q s₁ h₁ => ?_) fun _ _ f => f
    · rintro b o ⟨rfl, e⟩; exact ⟨e, fD.2.2.2, fD.out⟩
    · intro b hbad
      refine ⟨(fad b hbad).1, (fad b hbad).2.1, fun o p => p.elim ((fad b hbad).2.2.1 o) fun ⟨q, _⟩ => hDad (q ▸ hbad), (fad b hbad).2.2.2⟩
    · obtain ⟨rfl, S₁, kr⟩ := h₁
      have k := S₁.prot D _ (.inr ⟨rfl, gD⟩)
      refine hRR acc H s₁ ρc (S₁.weaken fun b o p => .inl p) fD.2.2.2 fD ⟨items, n, k, rD.mono kr⟩ g.2 hl
  | cons it its =>
    obtain ⟨ok, hlt, ρ', eb, g⟩ := g
    have free1 : ∀ b ∈ ad, Free W c (fun b o => P b o ∨ (b = D ∧ s.heap.get? D = some o)) H b := fun b hbad =>
      ⟨(fad b hbad).1, (fad b hbad).2.1, fun o p => p.elim ((fad b hbad).2.2.1 o) fun ⟨q, _⟩ => hDad (q ▸ hbad), (fad b hbad).2.2.2⟩
    refine wpAny_mono (O.item c (fun b o => P b o ∨ (b = D ∧ s.heap.get? D = some o)) ρc H s it its tx _ hA (S.addP (fun b o => b = D ∧ s.heap.get? D = some o) ?_) free1 ok r (m.xi eb)) (fun q s₁ h₁ => ?_) fun _ _ f => f
    · rintro b o ⟨rfl, e⟩; exact ⟨e, fD.2.2.2, fD.out⟩
    obtain ⟨v, rfl, h₁⟩ := h₁
    refine wpAny_mono h₁ (fun _ s₂ ⟨S₂, k₂, rv, r₂⟩ => ?_) fun _ _ f => f
    have gD₂ := S₂.prot D _ (.inr ⟨rfl, gD⟩)
    have S₂' := S₂.addP (fun b o => b ∈ ad ∧ s₂.heap.get? b = some o) fun b o ⟨hbad, e⟩ => ⟨e, (fad b hbad).2.2.2, (fad b hbad).out⟩
    refine hA ▸ sound_assign C (C.hand rfl) S₂' m (hb it ρ' eb) rv fun s₃ S₃ k₃ => ?_
    refine hA ▸ wpAny_mono (hT _ ρ' H s₃ _ S₃.max g) (fun b s₄ ⟨H₄, S₄m, g₄⟩ => ?_) fun _ _ f => f
    have k₄ := S₃.keepR S₄m
    have S₄ := S₄m.weaken S₃.le_max
    have rest : ∀ (H₅ : Hp) (s₅ : Shared) (acc' : List V) (items' : Array Value) (n' : Nat), Sim W c P ρ' H₅ s₅ → H₅ D = none → (∀ b ∈ ad, H₅ b = none) → (∀ b ∈ ad, ∀ o, s₂.heap.get? b = some o → s₅.heap.get? b = some o) → s₅.heap.get? D = some { cls := .type "list", data := .seq items' n' } → Reps W s₅.heap acc' items'.toList → acc'.length ≤ Lim → compGo t w ρ elt test its acc' QQ H₅ →
        ∃ m, m < (it :: its).length ∧ ∃ (its : List It) (acc : List V) (ρc : Loc) (H : Hp), m = its.length ∧ Sim W c P ρc H s₅ ∧ (∀ it ρ', bindT t it ρ = some ρ' → bindT t it ρc = some ρ') ∧ (∃ items n, s₅.heap.get? D = some { cls := .type "list", data := .seq items n } ∧ Reps W s₅.heap acc items.toList) ∧ acc.length ≤ Lim ∧
          Free W c P H D ∧ R its s₅.heap ∧ (∀ b ∈ ad, Free W c P H b) ∧ compGo t w ρ elt test its acc QQ H :=
      fun H₅ s₅ acc' items' n' S₅ hDn had hk g' r' l' gg => ⟨its.length, Nat.lt_succ_self _, its, acc', ρ', H₅, rfl, S₅, fun it' ρ₂ e' => hset it it' ρ' ρ₂ eb e', ⟨items', n', g', r'⟩, l', ⟨fD.1, fD.2.1, fD.2.2.1, hDn⟩, O.frame _ _ _ r₂ hk, fun b hbad => ⟨(fad b hbad).1, (fad b hbad).2.1, (fad b hbad).2.2.1, had b hbad⟩, gg⟩
    have pD : (fun b o => (P b o ∨ (b = D ∧ s.heap.get? D = some o)) ∨ (b ∈ ad ∧ s₂.heap.get? b = some o)) D { cls := .type "list", data := .seq items n } := .inl (.inr ⟨rfl, gD⟩)
    have rD₄ := (((rD.mono k₂).mono k₃).mono k₄)
    have wk : ∀ b o, P b o → (P b o ∨ (b = D ∧ s.heap.get? D = some o)) ∨ (b ∈ ad ∧ s₂.heap.get? b = some o) := fun b o p => .inl (.inl p)
    cases b with
    | false =>
      simp only [Bool.false_eq_true, if_false] at g₄ ⊢
      exact rest H₄ s₄ acc items n (S₄.weaken wk) (S₄.protH D _ pD) (fun b hbad => by obtain ⟨o, e, _⟩ := O.there _ _ r₂ b hbad; exact S₄.protH b o (.inr ⟨hbad, e⟩)) (fun b hbad o e => S₄.prot b o (.inr ⟨hbad, e⟩)) (S₄.prot D _ pD) rD₄ hl g₄
    | true =>
      simp only [if_true] at g₄ ⊢
      refine wpAny_mono (hE _ ρ' H₄ s₄ _ S₄.max g₄) (fun u s₅ ⟨z, H₅, S₅m, rz, g₅⟩ => ?_) fun _ _ f => f
      have k₅ := S₄.keepR S₅m
      have S₅ := S₅m.weaken S₄.le_max
      have gD₅ := S₅.prot D _ pD
      have rD₅ := rD₄.mono k₅
      have hsz : items.size = acc.length := by rw [rD.length]; simp
      refine call_meets F.slot_list_append ⟨_, gD₅, rfl⟩ F.entry_list_append (F.args_list_append_2 _ _) (list_append D items n u ?_) ⟨gD₅, ?_⟩
      · rw [hsz, sizeLine_eq]; unfold Lim at hlt; omega
      have hkk := upd_keep (h := s₅.heap) (a := D) (Obj.mapSeq (·.push u))
      have kr : KeepR s₅.heap (s₅.heap.update D (Obj.mapSeq (·.push u))) := ⟨fun b o i n' e k d => hkk b o (by rintro rfl; rw [gD₅] at e; cases e; exact absurd (show Value.type "list" = Value.type "tuple" from k) (by decide)) e, fun b o C' ws e k d => ⟨o, ws, hkk b o (by rintro rfl; rw [gD₅] at e; cases e; cases k) e, k, d⟩⟩
      have S₆ : Sim W c P ρ' H₅ { s₅ with heap := s₅.heap.update D (Obj.mapSeq (·.push u)) } := by
        refine (S₅.weaken wk).change (tk := s₅.toks) D (fun o e => ?_) fD.1 fD.2.1 fD.2.2.1 hkk (fun _ _ => rfl) fun o e => ?_
        · rw [gD₅] at e; cases e; exact ⟨show Value.type "list" ≠ Value.type "tuple" by decide, by exact nofun, by exact nofun⟩
        · rw [S₅.protH D _ pD] at e; cases e
      refine rest H₅ _ (acc ++ [z]) _ _ S₆ (S₅.protH D _ pD) (fun b hbad => by obtain ⟨o, e, _⟩ := O.there _ _ r₂ b hbad; exact S₅.protH b o (.inr ⟨hbad, e⟩)) (fun b hbad o e => hkk b o (fun q => hDad (q ▸ hbad)) (S₅.prot b o (.inr ⟨hbad, e⟩))) (upd_list gD₅ (·.push u)) ?_ ?_ g₅
      · rw [Array.toList_push]
        exact (rD₅.mono kr).append (.cons (rz.mono kr) .nil)
      · rw [List.length_append]; simp only [List.length_cons, List.length_nil]; omega
end
end Mine.Internal
end

section
namespace Mine.Internal
open PySem PySem.W PySem.Calls PyProof.Rows PySem.SeqAt

noncomputable def eraseT : Tg → Loc → Loc
  | .one i, ρ => ρ.set i none
  | .two i j, ρ => (ρ.set i none).set j none
theorem set4 (ρ : Loc) (i j : Nat) (a b x y : Option V) : (((ρ.set i a).set j b).set i x).set j y = (ρ.set i x).set j y := by
  apply List.ext_getElem?
  intro k
  simp only [List.getElem?_set, List.length_set]
  by_cases h1 : j = k <;> by_cases h2 : i = k <;> simp [h1, h2]
theorem set2 (ρ : Loc) (i : Nat) (a x : Option V) : (ρ.set i a).set i x = ρ.set i x := by
  apply List.ext_getElem?
  intro k
  simp only [List.getElem?_set, List.length_set]
  by_cases h2 : i = k <;> simp [h2]
theorem bind_over {t : Tg} {it it' : It} {ρ ρ₁ ρ₂ : Loc} (h1 : bindT t it ρ = some ρ₁) (h2 : bindT t it' ρ = some ρ₂) : bindT t it' ρ₁ = some ρ₂ := by
  have two : ∀ (ρ ρ₁ : Loc) (it : It) (i j : Nat), bindT (.two i j) it ρ = some ρ₁ → ∃ x y, ρ₁ = (ρ.set i (some x)).set j (some y) ∧ ∀ ρ', bindT (.two i j) it ρ' = some ((ρ'.set i (some x)).set j (some y)) := fun ρ ρ₁ it i j h => by
    cases it with
    | p x y => cases h; exact ⟨x, y, rfl, fun _ => rfl⟩
    | v z =>
      cases z with
      | tup l =>
        match l, h with
        | [x, y], h => cases h; exact ⟨x, y, rfl, fun _ => rfl⟩
        | [], h => cases h
        | [_], h => cases h
        | _ :: _ :: _ :: _, h => cases h
      | _ => cases h
  cases t with
  | one i =>
    cases it with
    | p _ _ => cases h1
    | v x =>
      cases it' with
      | p _ _ => cases h2
      | v y => cases h1; cases h2; show some _ = some _; rw [set2]
  | two i j =>
    obtain ⟨x, y, rfl, _⟩ := two _ _ _ _ _ h1
    obtain ⟨x', y', rfl, f⟩ := two _ _ _ _ _ h2
    rw [f, set4]
theorem bind_erase {t : Tg} {it : It} {ρ ρ' : Loc} (h : bindT t it ρ = some ρ') : bindT t it (eraseT t ρ) = some ρ' := by
  cases t with
  | one i =>
    cases it with
    | p _ _ => cases h
    | v x => cases h; show some _ = some _; unfold eraseT; rw [set2]
  | two i j =>
    cases it with
    | p x y => cases h; show some _ = some _; unfold eraseT; rw [set4]
    | v z =>
      cases z with
      | tup l =>
        match l, h with
        | [x, y], h => cases h; show some _ = some _; unfold eraseT; rw [set4]
        | [], h => cases h
        | [_], h => cases h
        | _ :: _ :: _ :: _, h => cases h
      | _ => cases h
theorem erase_spec {t : Tg} {ρ : Loc} {i : Nat} {v : V} (h : (eraseT t ρ)[i]? = some (some v)) : ρ[i]? = some (some v) ∧ i ∉ t.slots := by
  cases t with
  | one j =>
    unfold eraseT at h
    rw [List.getElem?_set] at h
    by_cases q : j = i
    · rw [if_pos q] at h; split at h <;> simp at h
    · rw [if_neg q] at h; exact ⟨h, by simp [Tg.slots]; exact fun z => q z.symm⟩
  | two j k =>
    unfold eraseT at h
    rw [List.getElem?_set, List.getElem?_set] at h
    by_cases q : k = i
    · rw [if_pos q] at h; split at h <;> simp at h
    · rw [if_neg q] at h
      by_cases q2 : j = i
      · rw [if_pos q2] at h; split at h <;> simp at h
      · rw [if_neg q2] at h; exact ⟨h, by simp [Tg.slots]; exact ⟨fun z => q2 z.symm, fun z => q z.symm⟩⟩

section
variable {W : Wd} {T : Tx W} {c : Cx} {K : Kc} {G : Gl}

noncomputable def CompEnd (W : Wd) (c : Cx) (P : Addr → Obj → Prop) (ρ : Loc) (Q : V → Hp → Prop) (D C : Addr) (s' : Shared) : Prop :=
  (∃ m, s'.heap.Ns C m) ∧ (∀ o, ¬ P C o) ∧ C ∉ c.own ∧ C ∉ c.frs ∧ (W.base.get? C = none ∧ C ∉ c.all) ∧ ∃ vs H', H' D = none ∧ newL vs Q H' ∧ (H'.set D (.list vs)) C = none ∧ ∀ h'', Heap.SameBut C s'.heap h'' → Sim W c P ρ (H'.set D (.list vs)) { s' with heap := h'' }

theorem comp_core {P : Addr → Obj → Prop} {ρ : Loc} {H : Hp} {s₂ : Shared} {I : Addr} {ad : List Addr} {w : List (Addr × Ob)} {R : List It → Heap → Prop} {its : List It} {t : Tg} {tx sx x : Expr} {ifs : List Expr} {scope : Scope} {pos : Pos} {cl : List (Str × Addr)} {E : Value → Shared → Prop} {Q : V → Hp → Prop}
    {RR : Value → Addr → Result → Shared → Prop} {elt : Loc → (V → Hp → Prop) → Hp → Prop} {test : Loc → (Bool → Hp → Prop) → Hp → Prop}
    (C : CxOk T c K false) (hin : K.inC = false) (hc : cOk K scope t = true) (e2 : ∀ x a, cl.lookup x = some a → c.env.cells.lookup x = some a) (e3 : ∀ x, scope.names.lookup x = some .free → ∃ a, cl.lookup x = some a)
    (mt : MTg (K.comp scope) t tx) (O : ItOk W c.A I ad w R) (r : R its s₂.heap) (S : Sim W c P ρ H s₂) (fad : ∀ b ∈ ad, Free W c P H b) (g : compGo t w ρ elt test its [] (fun vs H' => newL vs Q H') H)
    (hE : ∀ c', CxOk T c' (K.comp scope) false → c'.A = c.A → ∀ (P' : Addr → Obj → Prop) (ρ' : Loc) (H' : Hp) (s' : Shared) (Q : V → Hp → Prop), Sim W c' P' ρ' H' s' → elt ρ' Q H' → wpAny (model W.prog W.w) c.A (eval x c'.env) (PE W c' P' ρ' Q) (fun _ _ => False) s')
    (hT : ∀ c', CxOk T c' (K.comp scope) false → c'.A = c.A → ∀ (P' : Addr → Obj → Prop) (ρ' : Loc) (H' : Hp) (s' : Shared) (B : Bool → Hp → Prop), Sim W c' P' ρ' H' s' → test ρ' B H' → wpAny (model W.prog W.w) c.A (forIn ifs true fun cx r => if r = true then do let ok ← isTrue cx c'.env (eval cx c'.env); pure (ForInStep.yield ok) else pure (ForInStep.yield r)) (fun b s'' => ∃ H'', Sim W c' P' ρ' H'' s'' ∧ B b H'') (fun _ _ => False) s')
    (hRR : ∀ D C' s', CompEnd W c P ρ Q D C' s' → RR (.ref D) C' (.ok .next) s') :
    wpAny (model W.prog W.w) c.A (newList []) (fun acc s₃ => wpAny (model W.prog W.w) c.A (newFunctionEnv scope c.env.globals cl [] c.env.qual none .none (some c.env)) (fun cenv s₄ =>
      codeAny (model W.prog W.w) c.A (.compStart (.ListComp x [⟨tx, sx, ifs, 0⟩] scope pos) 0 (.ref I) acc { cenv with scope := relabel scope c.env }) (RR acc cenv.locals) s₄) E s₃) E s₂ := by
  obtain ⟨h1, h2, h3, h4, h5⟩ := cOk_spec hc
  refine wpAny_newObj_type (wpAny_newFunctionEnv h2 (by intro y hy; simp at hy) (fun h₁ hns₁ hsb₁ => ?_) h1)
  dsimp only at hns₁ hsb₁ ⊢
  generalize hH2 : s₂.heap.push { cls := .type "list", dict := none, data := .seq ([] : List Value).toArray } = HH at hns₁ hsb₁ ⊢
  have hsz : HH.objs.size = s₂.heap.objs.size + 1 := by rw [← hH2, Heap.size_push]
  have hDC : s₂.heap.objs.size ≠ HH.objs.size := by rw [hsz]; exact Nat.ne_of_lt (Nat.lt_succ_self _)
  have below : ∀ b, b < s₂.heap.objs.size → b ≠ HH.objs.size ∧ b ≠ s₂.heap.objs.size := fun b hb => ⟨by rw [hsz]; exact Nat.ne_of_lt (Nat.lt_succ_of_lt hb), Nat.ne_of_lt hb⟩
  have old : ∀ b o, s₂.heap.get? b = some o → h₁.get? b = some o := fun b o e => hsb₁.extBut b o (below b (Heap.lt_size e)).1 (Heap.get?_push_of_some _ (hH2 ▸ Heap.get?_push_of_some _ e))
  have gD : h₁.get? s₂.heap.objs.size = some { cls := .type "list", data := .seq #[] } := hsb₁.extBut _ _ hDC (Heap.get?_push_of_some _ (hH2 ▸ Heap.get?_push_size _ rfl))
  have nC : s₂.heap.get? HH.objs.size = none := Heap.get?_none_of_le (by rw [hsz]; exact Nat.le_succ _)
  have nD : s₂.heap.get? s₂.heap.objs.size = none := size_none _
  have hn : h₁.Ns HH.objs.size (fun _ => none) := by simpa using hns₁
  obtain ⟨m, hm, hv⟩ := S.loc
  have S₁ := S.intoC (tk := s₂.toks + ([] : List (Str × Value)).length) (ad := ad) C hc e2 e3 old nC hn hm hv (fun i v e => erase_spec e)
  have C' := C.comp (C := HH.objs.size) (m := m) hc e2 e3
  obtain ⟨d1, d2, d3, d4⟩ := S.fresh nD
  obtain ⟨c1, c2, c3, c4⟩ := S.fresh nC
  have adlt : ∀ b ∈ ad, b < s₂.heap.objs.size := fun b hb => by obtain ⟨o, e, _⟩ := O.there _ _ r b hb; exact Heap.lt_size e
  have mem_all : ∀ b, b ∉ c.all → b ≠ HH.objs.size → b ∉ (c.comp K scope cl HH.objs.size m).all := fun b hb hne => by
    simp only [Cx.all, Cx.comp, Cx.frs, List.mem_append, List.map_cons, List.mem_cons, List.not_mem_nil, or_false, not_or] at hb ⊢
    exact ⟨⟨hne, hb.1.2⟩, fun q => hb.1.1 (q ▸ S.locOwn), hb.2⟩
  have hDad : s₂.heap.objs.size ∉ ad := fun z => Nat.lt_irrefl _ (adlt _ z)
  have loop : ∀ s₄ : Shared, s₄ = { s₂ with heap := h₁, toks := s₂.toks + ([] : List (Str × Value)).length } →
      codeAny (model W.prog W.w) c.A (.compLoop (.ListComp x [⟨tx, sx, ifs, 0⟩] scope pos) 0 (.ref I) (.ref s₂.heap.objs.size) (compEnvC scope cl HH.objs.size c.env)) (RR (.ref s₂.heap.objs.size) HH.objs.size) s₄ := by
    rintro s₄ rfl
    refine comp_turns (c := c.comp K scope cl HH.objs.size m) (P := PC c H s₂.heap ad) (ρ := ρ) (D := s₂.heap.objs.size) (ad := ad) (w := w) (R := R) (t := t) (elt := elt) (test := test) (QQ := fun vs H' => newL vs Q H') C' rfl O mt (hE _ C' rfl) (hT _ C' rfl) (fun it it' ρ₁ ρ₂ a b => bind_over a b) ?_ hDad its [] (eraseT t ρ) H _ S₁ (fun it ρ' e => bind_erase e) ⟨#[], 0, gD, .nil⟩ (by simp) ?_ ?_ ?_ g
    · intro vs H' s' ρc S' hD0 fD ⟨items, n, gD', rD⟩ hq hl
      refine hRR _ _ _ ⟨?_, c3, fun q => c2 (Cx.mem_all_own q), fun q => c2 (Cx.mem_all_frs q), ⟨c1, c2⟩, vs, H', hD0, hq, ?_, fun h'' hs => ?_⟩
      · obtain ⟨m', hn', _⟩ := S'.loc; exact ⟨m', hn'⟩
      · have : H' HH.objs.size = none := by
          cases q : H' HH.objs.size with
          | none => rfl
          | some o => exact absurd (by simp [Cx.all, Cx.comp]) (S'.apart _ _ q)
        simp [Hp.set, Ne.symm hDC, this]
      · obtain ⟨S'', kr⟩ := S.outC (hd := false) C nC hm hv hin fad (fun b hb o e => by obtain ⟨o', e', q1, q2⟩ := O.there _ _ r b hb; rw [e] at e'; cases e'; exact ⟨q1, q2⟩) S' hs
        obtain ⟨m', ⟨oC, esC, epC, eC, dC, _⟩, _⟩ := S'.loc
        have k0 : ∀ b o, b ≠ HH.objs.size → s'.heap.get? b = some o → h''.get? b = some o := fun b o q e => hs.extBut b o q e
        have nt : ∀ b o, s'.heap.get? b = some o → (∀ es n, o.data ≠ .dict es n) → b ≠ HH.objs.size := fun b o e d q => by rw [q, show s'.heap.get? HH.objs.size = some oC from eC] at e; cases e; exact d _ _ dC
        have kr' : KeepR s'.heap h'' := ⟨fun b o i n e k d => k0 b o (nt b o e (by rw [d]; exact nofun)) e, fun b o D ws e k d => ⟨o, ws, k0 b o (nt b o e (by rw [d]; exact nofun)) e, k, d⟩⟩
        exact S''.adopt d1 d2 d3 (rep_list hl (k0 _ _ hDC gD') (rD.mono kr'))
    · refine ⟨d1, mem_all _ d2 hDC, fun o p => ?_, d4⟩
      have := p.1; rw [nD] at this; cases this
    · exact O.frame _ _ _ r fun b hb o e => old b o e
    · intro b hb
      exact ⟨(fad b hb).1, mem_all _ (fad b hb).2.1 (below b (adlt b hb)).1, fun o p => p.2.2.2 hb, (fad b hb).2.2.2⟩
  exact codeAny_compStart_list (loop _ rfl) (O.self its _ _ _ (O.frame _ _ _ r fun b hb o e => old b o e) (loop _ rfl))
end
end Mine.Internal
end

section
namespace Mine.Internal
open PySem PySem.W PySem.Calls PyProof.Rows PySem.SeqAt
section
variable {W : Wd} {T : Tx W} {c : Cx} {K : Kc} {G : Gl} {hd : Bool}

theorem ex_false {P : Addr → Obj → Prop} {ρ : Loc} {e : Value} {s : Shared} (h : EX W c P ρ (fun _ _ => False) e s) : False := h.elim fun _ h => h.elim fun _ h => h.2.2

theorem comp_any {t : Tg} {src : Sr} {x tx sx : Expr} {ifs : List Expr} {scope : Scope} {p : Pos} {P : Addr → Obj → Prop} {ρ : Loc} {H : Hp} {s : Shared} {Q : V → Hp → Prop} {X : String → Hp → Prop} {use : Option (Value → Sem Unit)} {QQ : Value → Shared → Prop} {E : Value → Shared → Prop} {pp : Pos}
    {elt : Loc → (V → Hp → Prop) → Hp → Prop} {test : Loc → (Bool → Hp → Prop) → Hp → Prop}
    (C : CxOk T c K false) (hin : K.inC = false) (hc : cOk K scope t = true) (hs : ∀ v, foldedSetIterable sx c.env v = pure v) (hsrc : SS W c G false src sx) (mt : MTg (K.comp scope) t tx)
    (hE : ∀ c', CxOk T c' (K.comp scope) false → c'.A = c.A → ∀ (P' : Addr → Obj → Prop) (ρ' : Loc) (H' : Hp) (s' : Shared) (Q : V → Hp → Prop), Sim W c' P' ρ' H' s' → elt ρ' Q H' → wpAny (model W.prog W.w) c.A (eval x c'.env) (PE W c' P' ρ' Q) (fun _ _ => False) s')
    (hT : ∀ c', CxOk T c' (K.comp scope) false → c'.A = c.A → ∀ (P' : Addr → Obj → Prop) (ρ' : Loc) (H' : Hp) (s' : Shared) (B : Bool → Hp → Prop), Sim W c' P' ρ' H' s' → test ρ' B H' → wpAny (model W.prog W.w) c.A (forIn ifs true fun cx r => if r = true then do let ok ← isTrue cx c'.env (eval cx c'.env); pure (ForInStep.yield ok) else pure (ForInStep.yield r)) (fun b s'' => ∃ H'', Sim W c' P' ρ' H'' s'' ∧ B b H'') (fun _ _ => False) s')
    (S : Sim W c P ρ H s) (w : wpSr G false src ρ (fun its w H₁ => compGo t w ρ elt test its [] (fun vs H₂ => newL vs Q H₂) H₁) X H)
    (hX : ∀ e s', EX W c P ρ X e s' → E e s') (hQ : ∀ D C' s', CompEnd W c P ρ Q D C' s' → compPost (model W.prog W.w) c.A E use QQ (.ref D) C' (.ok .next) s') :
    wpAny (model W.prog W.w) c.A (comprehension (.ListComp x [⟨tx, sx, ifs, 0⟩] scope p) scope c.env pp (newList []) false (eval sx c.env) use) QQ E s := by
  obtain ⟨h1, h2, h3, h4, h5⟩ := cOk_spec hc
  obtain ⟨cl, ecl, e2, e3⟩ := closure_of C hc
  refine wpAny_comprehension_free rfl hs ecl h1 h3 (wpAny_mono (hsrc P ρ H s _ X rfl S w) (fun xv s₁ g₁ => wpAny_mono g₁ (fun it s₂ g₂ => ?_) hX) hX)
  obtain ⟨I, ad, w', R, its, H₂, rfl, O, r, S₂, fad, g⟩ := g₂
  exact comp_core (Q := Q) (RR := fun acc C' => compPost (model W.prog W.w) c.A E use QQ acc C') C hin hc e2 e3 mt O r S₂ fad g hE hT hQ

theorem comp_end {P : Addr → Obj → Prop} {ρ : Loc} {Q : V → Hp → Prop} {E : Value → Shared → Prop} {D C' : Addr} {s' : Shared} (h : CompEnd W c P ρ Q D C' s') : compPost (model W.prog W.w) c.A E none (PE W c P ρ Q) (.ref D) C' (.ok .next) s' := by
  obtain ⟨⟨m, hn⟩, _, _, _, _, vs, H', hD, hq, _, hS⟩ := h
  exact ⟨m, hn, fun h'' hs => ⟨.ref D, _, hS h'' hs, .ref D, hq.2 D hD⟩⟩

theorem se_comp {elt t src x tx sx scope p} (C : CxOk T c K hd) (hin : K.inC = false) (hc : cOk K scope t = true) (hs : ∀ v, foldedSetIterable sx c.env v = pure v) (hsrc : SS W c G hd src sx) (mt : MTg (K.comp scope) t tx)
    (hE : ∀ c', CxOk T c' (K.comp scope) hd → c'.A = c.A → SE W c' G hd elt x) : SE W c G hd (.comp elt t src) (.ListComp x [⟨tx, sx, [], 0⟩] scope p) := fun P ρ H s Q X S w => by
  rw [wpE] at w
  obtain ⟨rfl, w⟩ := w
  rw [eval_ListComp]
  refine comp_any (Q := Q) C hin hc hs hsrc mt (fun c' C' hA P' ρ' H' s' Q' S' w' => ?_) (fun c' C' hA P' ρ' H' s' B S' w' => wpAny_tests_nil ⟨H', S', w'⟩) S w (fun _ _ e => e) fun D C' s' h => comp_end h
  exact wpAny_mono (hA ▸ hE c' C' hA P' ρ' H' s' Q' _ S' w') (fun _ _ z => z) fun _ _ z => ex_false z
theorem se_compIf {elt t src d x tx sx cx scope p} (C : CxOk T c K hd) (hin : K.inC = false) (hc : cOk K scope t = true) (hs : ∀ v, foldedSetIterable sx c.env v = pure v) (hsrc : SS W c G hd src sx) (mt : MTg (K.comp scope) t tx)
    (hE : ∀ c', CxOk T c' (K.comp scope) hd → c'.A = c.A → SE W c' G hd elt x) (hT : ∀ c', CxOk T c' (K.comp scope) hd → c'.A = c.A → ST W c' G hd d cx) : SE W c G hd (.compIf elt t src d) (.ListComp x [⟨tx, sx, [cx], 0⟩] scope p) := fun P ρ H s Q X S w => by
  rw [wpE] at w
  obtain ⟨rfl, w⟩ := w
  rw [eval_ListComp]
  refine comp_any (Q := Q) C hin hc hs hsrc mt (fun c' C' hA P' ρ' H' s' Q' S' w' => ?_) (fun c' C' hA P' ρ' H' s' B S' w' => wpAny_tests_one ?_) S w (fun _ _ e => e) fun D C' s' h => comp_end h
  · exact wpAny_mono (hA ▸ hE c' C' hA P' ρ' H' s' Q' _ S' w') (fun _ _ z => z) fun _ _ z => ex_false z
  · exact wpAny_mono (hA ▸ hT c' C' hA P' ρ' H' s' B _ S' w') (fun _ _ z => z) fun _ _ z => ex_false z

end

set_option maxHeartbeats 4000000
theorem sound_ME {W : Wd} {T : Tx W} {G : Gl} {hd : Bool} (hG : G.anc = T.anc) {K : Kc} {e : Ex} {x : Expr} (h0 : ME K e x) : ∀ (c : Cx) (C : CxOk T c K hd) (O : hd = false → GOk T G c.A), SE W c G hd e x ∧ ST W c G hd e x := by
  apply ME.rec (motive_1 := fun K e x _ => ∀ (c : Cx) (C : CxOk T c K hd) (O : hd = false → GOk T G c.A), SE W c G hd e x ∧ ST W c G hd e x) (motive_2 := fun K es xs _ => ∀ (c : Cx) (C : CxOk T c K hd) (O : hd = false → GOk T G c.A), SEs W c G hd es xs ∧ SB W c G hd es xs) (motive_3 := fun K src x _ => ∀ (c : Cx) (C : CxOk T c K hd) (O : hd = false → GOk T G c.A), SS W c G hd src x)
  case t => exact h0
  case none => intro _ _ _ c C O; exact ⟨se_const, st_plain se_const fun _ => rfl⟩
  case bool => intro _ _ _ _ c C O; exact ⟨se_bool, st_plain se_bool fun _ => rfl⟩
  case int => intro _ _ _ _ c C O; exact ⟨se_int, st_plain se_int fun _ => rfl⟩
  case str => intro _ _ _ _ _ e1 c C O; subst e1; exact ⟨se_str, st_plain se_str fun _ => rfl⟩
  case var => intro _ _ _ _ g c C O; exact ⟨sound_var C g, st_plain (sound_var C g) fun _ => rfl⟩
  case glob => intro _ _ _ _ _ e1 g e c C O; subst e1; exact ⟨se_glob C g e, st_plain (se_glob C g e) fun _ => rfl⟩
  case bin => intro _ _ _ _ _ _ _ _ e1 a b ih_a ih_b c C O; subst e1; exact let h := se_bin (ih_a c C O).1 (ih_b c C O).1; ⟨h, st_plain h fun _ => rfl⟩
  case neg => intro _ _ _ _ a ih_a c C O; exact let h := se_neg (ih_a c C O).1; ⟨h, st_plain h fun _ => rfl⟩
  case nt => intro _ _ _ _ a ih_a c C O; exact let h := ih_a c C O; ⟨se_nt h.1, st_nt h.2⟩
  case cmp => intro _ _ _ _ _ _ _ _ e1 hm a b ih_a ih_b c C O; subst e1; exact let h := (ih_a c C O).1; let h' := (ih_b c C O).1; ⟨se_cmp C hm h h', st_cmp C hm h h'⟩
  case cmp2 => intro _ _ _ _ _ _ _ _ _ _ _ _ e1 e2 hm a b d ih_a ih_b ih_d c C O; subst e1; subst e2; exact let h := (ih_a c C O).1; let h' := (ih_b c C O).1; let h'' := (ih_d c C O).1; ⟨se_cmp2 C hm h h' h'', st_cmp2 C hm h h' h''⟩
  case and => intro _ _ _ _ es ih_es c C O; exact let h := (ih_es c C O).2; ⟨se_and h, st_and h⟩
  case or => intro _ _ _ _ es ih_es c C O; exact let h := (ih_es c C O).2; ⟨se_or h, st_or h⟩
  case ife => intro _ _ _ _ _ _ _ _ a b d ih_a ih_b ih_d c C O; exact let h := ih_a c C O; let h' := ih_b c C O; let h'' := ih_d c C O; ⟨se_ife h.2 h'.1 h''.1, st_ife h.2 h'.2 h''.2⟩
  case list => intro _ _ _ _ es ih_es c C O; exact let h := se_list (ih_es c C O).1; ⟨h, st_plain h fun _ => rfl⟩
  case tup => intro _ _ _ _ _ es ih_es c C O; exact let h := se_tup (ih_es c C O).1; ⟨h, st_plain h fun _ => rfl⟩
  case dict0 => intro _ _ c C O; exact ⟨se_dict0 T.mods, st_plain (se_dict0 T.mods) fun _ => rfl⟩
  case idx => intro _ _ _ _ _ _ hs a b ih_a ih_b c C O; exact let h := se_idx hs (ih_a c C O).1 (ih_b c C O).1; ⟨h, st_plain h fun _ => rfl⟩
  case call => intro _ _ _ _ _ _ _ _ e1 g hf es ih_es c C O; subst e1; exact let h := se_call C O g hf es (ih_es c C O).1; ⟨h, st_plain h fun _ => rfl⟩
  case bc => intro _ _ _ _ _ _ _ _ e1 g es ih_es c C O; subst e1; exact let h := se_bcS C g es (ih_es c C O).1; ⟨h, st_plain h fun _ => rfl⟩
  case mt => intro _ _ _ _ _ _ _ _ _ hm e1 hp hb hl o es ih_o ih_es c C O; subst e1; exact let h := se_mt hm C hp (hb _) hl es (ih_o c C O).1 (ih_es c C O).1; ⟨h, st_plain h fun _ => rfl⟩
  case isi1 => intro _ _ _ _ _ _ _ _ e1 g me m ih_me c C O; subst e1; exact let h := se_isi1 hG C g me (ih_me c C O).1 m; ⟨h, st_plain h fun _ => rfl⟩
  case isiN => intro _ _ _ _ _ _ _ _ _ _ _ _ e1 g hl me m ih_me c C O; subst e1; exact let h := se_isiN hl hG C g me (ih_me c C O).1 m; ⟨h, st_plain h fun _ => rfl⟩
  case comp =>
    intro _ _ _ _ _ _ _ _ _ hin hc hs ms mt me ih_ms ih_me c C O
    exact (let h := se_comp C hin hc (hs _ C.sc) (ih_ms c C O) mt fun c' C' hA => (ih_me c' C' (hA ▸ O)).1
      ⟨h, st_plain h fun _ => rfl⟩)
  case compIf =>
    intro _ _ _ _ _ _ _ _ _ _ _ hin hc hs ms mt me mc ih_ms ih_me ih_mc c C O
    exact (let h := se_compIf C hin hc (hs _ C.sc) (ih_ms c C O) mt (fun c' C' hA => (ih_me c' C' (hA ▸ O)).1) fun c' C' hA => (ih_mc c' C' (hA ▸ O)).2
      ⟨h, st_plain h fun _ => rfl⟩)
  case nil => intro _ c C O; exact ⟨ses_nil, .nil⟩
  case cons => intro _ _ _ _ _ a r ih_a ih_r c C O; exact let h := ih_a c C O; let h' := ih_r c C O; ⟨ses_cons (fun ys env => a.star) h.1 h'.1, .cons h.1 h.2 h'.2⟩
  case ex => intro _ _ _ a ih_a c C O; exact ss_ex C (ih_a c C O).1
  case range1 => intro _ _ _ _ _ _ e1 g a ih_a c C O; subst e1; exact ss_range1 C g a (ih_a c C O).1
theorem sound_MSr {W : Wd} {T : Tx W} {G : Gl} {hd : Bool} (hG : G.anc = T.anc)  {K : Kc} {src : Sr} {x : Expr} (h0 : MSr K src x) (c : Cx) (C : CxOk T c K hd) (O : hd = false → GOk T G c.A) : SS W c G hd src x := by
  cases h0 with
  | ex a => exact ss_ex C (sound_ME hG a c C O).1
  | range1 e1 g a => subst e1; exact ss_range1 C g a (sound_ME hG a c C O).1
end Mine.Internal
end

section
namespace Mine.Internal
open PySem PySem.W PySem.Calls PyProof.Rows PySem.SeqAt
section
variable {W : Wd} {T : Tx W} {c : Cx} {K : Kc} {G : Gl} {hd : Bool}

noncomputable def PS (W : Wd) (c : Cx) (P : Addr → Obj → Prop) (N : Loc → Hp → Prop) (R : V → Hp → Prop) : Flow → Shared → Prop := fun f s' => match f with
  | .next => ∃ ρ' H', Sim W c P ρ' H' s' ∧ N ρ' H'
  | .ret u => ∃ v ρ' H', Sim W c P ρ' H' s' ∧ Rep W s'.heap v u ∧ R v H'
  | _ => False
theorem PS.weaken {P P' : Addr → Obj → Prop} {N : Loc → Hp → Prop} {R : V → Hp → Prop} {f : Flow} {s' : Shared} (h : PS W c P' N R f s') (q : ∀ b o, P b o → P' b o) : PS W c P N R f s' := by
  cases f with
  | next => obtain ⟨ρ', H', S, n⟩ := h; exact ⟨ρ', H', S.weaken q, n⟩
  | ret u => obtain ⟨v, ρ', H', S, r, n⟩ := h; exact ⟨v, ρ', H', S.weaken q, r, n⟩
  | _ => exact h.elim
noncomputable def SX (W : Wd) (c : Cx) (G : Gl) (hd : Bool) (e : St) (x : Stmt) : Prop := ∀ (P : Addr → Obj → Prop) (ρ : Loc) (H : Hp) (s : Shared) (N : Loc → Hp → Prop) (R : V → Hp → Prop) (X : String → Loc → Hp → Prop), Sim W c P ρ H s → wpS G hd e ρ N R X H → wpAny (model W.prog W.w) c.A (exec x c.env) (PS W c P N R) (EXs W c P X) s
noncomputable def SXs (W : Wd) (c : Cx) (G : Gl) (hd : Bool) (e : Sts) (x : List Stmt) : Prop := ∀ (P : Addr → Obj → Prop) (ρ : Loc) (H : Hp) (s : Shared) (N : Loc → Hp → Prop) (R : V → Hp → Prop) (X : String → Loc → Hp → Prop), Sim W c P ρ H s → wpSs G hd e ρ N R X H → wpAny (model W.prog W.w) c.A (execs x c.env) (PS W c P N R) (EXs W c P X) s

theorem sx_pass {p} : SX W c G hd .pass (.Pass p) := fun P ρ H s N R X S w => wpAny_Pass ⟨ρ, H, S, by simpa [wpS] using w⟩
theorem sx_ret {e x p} (h : SE W c G hd e x) : SX W c G hd (.ret e) (.Return (some x) p) := fun P ρ H s N R X S w => by
  rw [wpS] at w
  exact wpAny_Return_some (wpAny_mono (h P ρ H s _ _ S w) (fun u s₁ ⟨v, H₁, S₁, r, q⟩ => ⟨v, ρ, H₁, S₁, r, q⟩) fun _ _ z => z.toS)
theorem sx_asg {i e x v p q} (C : CxOk T c K hd) (g : K.tgt i x = true) (hs : swapsWith v (some (.Name x p)) q.line c.env = pure false) (h : SE W c G hd e v) : SX W c G hd (.asg i e) (.Assign [.Name x p] v q) := fun P ρ H s N R X S w => by
  rw [wpS] at w
  refine wpAny_Assign_Name (wpAny_mono (h P ρ H s _ _ S w) (fun u s₁ ⟨v, H₁, S₁, r, q⟩ => ?_) fun _ _ z => z.toS) hs
  exact sound_store C S₁ g r fun s₂ S₂ _ => ⟨_, _, S₂, q⟩
theorem sx_ex {e v q} (C : CxOk T c K hd) (hs : swapsWith v none q.line c.env = pure false) (h : SE W c G hd e v) : SX W c G hd (.ex e) (.Expr v q) := fun P ρ H s N R X S w => by
  rw [wpS] at w
  refine wpAny_Expr_any (wpAny_mono (h P ρ H s _ _ S w) (fun u s₁ ⟨v, H₁, S₁, r, q⟩ => ⟨_, _, S₁, q⟩) fun _ _ z => z.toS) ?_ hs
  unfold interactive; rw [C.sc, C.kind]; rfl
theorem sx_if {d a b x y z p} (hc : ST W c G hd d x) (ha : SXs W c G hd a y) (hb : SXs W c G hd b z) : SX W c G hd (.ife d a b) (.If x y z p) := fun P ρ H s N R X S w => by
  rw [wpS] at w
  refine wpAny_If (wpAny_mono (hc P ρ H s _ _ S w) (fun t s₁ ⟨H₁, S₁, q⟩ => ?_) fun _ _ z => z.toS)
  cases t with
  | true => simp only [if_true] at q ⊢; exact ha P ρ H₁ s₁ N R X S₁ q
  | false => simp only [Bool.false_eq_true, if_false] at q ⊢; exact hb P ρ H₁ s₁ N R X S₁ q
theorem sxs_nil : SXs W c G hd .nil [] := fun P ρ H s N R X S w => wpAny_execs_nil ⟨ρ, H, S, by simpa [wpSs] using w⟩
theorem sxs_cons {e r x xs} (h1 : SX W c G hd e x) (h2 : SXs W c G hd r xs) : SXs W c G hd (.cons e r) (x :: xs) := fun P ρ H s N R X S w => by
  rw [wpSs] at w
  rw [execs_cons]
  refine wpAny_bind (wpAny_mono (h1 P ρ H s _ R X S w) (fun f s₁ h₁ => ?_) fun _ _ z => z)
  cases f with
  | next => obtain ⟨ρ', H', S', n⟩ := h₁; exact h2 P ρ' H' s₁ N R X S' n
  | ret u => exact wpAny_pure h₁
  | _ => exact h₁.elim

theorem while_step {A : Around} {R : Result → Shared → Prop} {s : Shared} {test : Expr} {body : List Stmt} {env : Env}
    (h : wpAny (model W.prog W.w) A (isTrue test env (eval test env)) (fun b s₂ =>
        if b then wpAny (model W.prog W.w) A (execs body env) (fun f s₃ => match f with
            | .next | .cont => codeAny (model W.prog W.w) A (.whileLoop test body [] env) R s₃
            | .brk => R (.ok .next) s₃
            | .ret v => R (.ok (.ret v)) s₃) (notedBy (model W.prog W.w) A env fun e s' => R (.error e) s') s₂
        else R (.ok .next) s₂)
        (notedBy (model W.prog W.w) A env fun e s' => R (.error e) s') s) : codeAny (model W.prog W.w) A (.whileLoop test body [] env) R s := by
  refine codeAny_of_tree ?_
  show wpAny _ A ((whileTurn test body [] env).onRaise (fun x => do noteFrame x env; theTreesLotGoes x)) _ _ s
  refine wpAny_noted ?_
  simp only [whileTurn]
  refine wpAny_bind (wpAny_mono h (fun b s₂ h₂ => ?_) fun _ _ h' => h')
  cases b with
  | false =>
    simp only [Bool.false_eq_true, if_false] at h₂ ⊢
    exact wpAny_bind (wpAny_execs_nil (wpAny_pure h₂))
  | true =>
    simp only [if_true] at h₂ ⊢
    refine wpAny_bind (wpAny_mono h₂ (fun f s₃ h₃ => ?_) fun _ _ h' => h')
    cases f with
    | next => exact wpAny_pure ⟨rfl, h₃⟩
    | cont => exact wpAny_pure ⟨rfl, h₃⟩
    | brk => exact wpAny_pure h₃
    | ret v => exact wpAny_pure h₃

structure FxOk {W : Wd} (T : Tx W) (c : Cx) (K : Kc) (hd : Bool) : Prop extends CxOk T c K hd where
  head : ∃ outer, c.fenvs = c.env :: outer
  fr : ∃ L, c.env.frame = some L
  inF : K.inC = false

theorem FxOk.passes (C : FxOk T c K hd) {P : Addr → Obj → Prop} {X : String → Loc → Hp → Prop} {e : Value} {s' : Shared} (h : EXs W c P X e s') : notedBy (model W.prog W.w) c.A c.env (fun e s' => cameBackBy (model W.prog W.w) c.A c.env (EXs W c P X) e s') e s' := by
  obtain ⟨outer, ho⟩ := C.head
  obtain ⟨L, hL⟩ := C.fr
  exact passes_own (A := c.A) (by rw [C.frames, ho]) ho hL e s' h

theorem sx_while {d b x y p} (C : FxOk T c K hd) (hc : ST W c G hd d x) (hb : SXs W c G hd b y) : SX W c G hd (.whl d b) (.While x y [] p) := fun P ρ H s N R X S w => by
  rw [wpS] at w
  refine wpAny_While ?_
  refine w (fun ρ' H' => ∀ s', Sim W c P ρ' H' s' → codeAny (model W.prog W.w) c.A (.whileLoop x y [] c.env) (fun r s' => match r with | .ok f => PS W c P N R f s' | .error e => cameBackBy (model W.prog W.w) c.A c.env (EXs W c P X) e s') s') (fun ρ' H' h s' S' => ?_) s S
  refine while_step (wpAny_mono (hc P ρ' H' s' _ _ S' h) (fun t s₁ ⟨H₁, S₁, q⟩ => ?_) fun e s' z => C.passes z.toS)
  cases t with
  | false => simp only [Bool.false_eq_true, if_false] at q ⊢; exact ⟨_, _, S₁, q⟩
  | true =>
    simp only [if_true] at q ⊢
    refine wpAny_mono (hb P ρ' H₁ s₁ _ R X S₁ q) (fun f s₂ h₂ => ?_) fun e s' z => C.passes z
    cases f with
    | next => obtain ⟨ρ₂, H₂, S₂, n⟩ := h₂; exact n s₂ S₂
    | ret u => exact h₂
    | _ => exact h₂.elim

theorem for_step {A : Around} {R : Result → Shared → Prop} {s : Shared} {target : Expr} {it : Value} {body : List Stmt} {env : Env}
    (h : wpAny (model W.prog W.w) A (pyNext it) (fun r s₁ => match r with
      | none => R (.ok .next) s₁
      | some v => wpAny (model W.prog W.w) A (letOwnedTupleGo target it v) (fun _ s₁' => wpAny (model W.prog W.w) A (assign target env v) (fun _ s₂ => wpAny (model W.prog W.w) A (execs body env) (fun f s₃ => match f with
          | .next | .cont => codeAny (model W.prog W.w) A (.forLoop target it body [] env) R s₃
          | .brk => R (.ok .next) s₃
          | .ret v => R (.ok (.ret v)) s₃) (notedBy (model W.prog W.w) A env fun e s' => R (.error e) s') s₂) (notedBy (model W.prog W.w) A env fun e s' => R (.error e) s') s₁') (notedBy (model W.prog W.w) A env fun e s' => R (.error e) s') s₁) (notedBy (model W.prog W.w) A env fun e s' => R (.error e) s') s) :
    codeAny (model W.prog W.w) A (.forLoop target it body [] env) R s := by
  refine codeAny_of_tree ?_
  show wpAny _ _ ((forTurn target it body [] env).onRaise (fun x => do noteFrame x env; theTreesLotGoes x)) _ _ s
  refine wpAny_noted ?_
  simp only [forTurn]
  refine wpAny_bind (wpAny_standAt (wpAny_bind (wpAny_onRaise (wpAny_mono h (fun r s₁ h₁ => ?_) fun _ _ h' => wpAny_standAt h'))))
  cases r with
  | none => exact wpAny_pure ⟨rfl, codeAny_block (wpAny_execs_nil h₁)⟩
  | some v =>
    refine wpAny_bind (wpAny_mono h₁ (fun _ s₁' h₁' => ?_) fun _ _ h' => h')
    refine wpAny_bind (wpAny_mono h₁' (fun _ s₂ h₂ => wpAny_bind (wpAny_mono h₂ (fun f s₃ h₃ => ?_) fun _ _ h' => h')) fun _ _ h' => h')
    cases f with
    | next => exact wpAny_pure ⟨rfl, h₃⟩
    | cont => exact wpAny_pure ⟨rfl, h₃⟩
    | brk => exact wpAny_pure h₃
    | ret v => exact wpAny_pure h₃

theorem for_turns {I : Addr} {ad : List Addr} {w : List (Addr × Ob)} {RI : List It → Heap → Prop} {t : Tg} {tx : Expr} {b : Sts} {y : List Stmt} {P : Addr → Obj → Prop} {N : Loc → Hp → Prop} {R : V → Hp → Prop} {X : String → Loc → Hp → Prop}
    (C : FxOk T c K false) (O : ItOk W c.A I ad w RI) (m : MTg K t tx) (hb : SXs W c G false b y) :
    ∀ (its : List It) (ρ : Loc) (H : Hp) (s : Shared), Sim W c P ρ H s → RI its s.heap → (∀ b ∈ ad, Free W c P H b) → forGo t w (fun ρ' KK H₂ => wpSs G false b ρ' KK R X H₂) its ρ N H →
      codeAny (model W.prog W.w) c.A (.forLoop tx (.ref I) y [] c.env) (fun r s' => match r with | .ok f => PS W c P N R f s' | .error e => cameBackBy (model W.prog W.w) c.A c.env (EXs W c P X) e s') s
  | [], ρ, H, s, S, r, fad, g => by
    refine for_step (wpAny_mono (O.fin c P ρ H s _ rfl S fad g.1 r) (fun q s₁ h₁ => ?_) fun _ _ z => z)
    obtain ⟨rfl, S₁, _⟩ := h₁
    exact ⟨ρ, H, S₁, g.2⟩
  | it :: its, ρ, H, s, S, r, fad, g => by
    obtain ⟨ok, ρ', eb, g⟩ := g
    refine for_step (wpAny_mono (O.item c P ρ H s it its tx _ rfl S fad ok r (m.xi eb)) (fun q s₁ h₁ => ?_) fun _ _ z => z)
    obtain ⟨v, rfl, h₁⟩ := h₁
    refine wpAny_mono h₁ (fun _ s₂ ⟨S₂, k₂, rv, r₂⟩ => ?_) fun _ _ z => z
    have S₂' := S₂.addP (fun b o => b ∈ ad ∧ s₂.heap.get? b = some o) fun b o ⟨hbad, e⟩ => ⟨e, (fad b hbad).2.2.2, (fad b hbad).out⟩
    have wk : ∀ b o, P b o → P b o ∨ (b ∈ ad ∧ s₂.heap.get? b = some o) := fun b o p => .inl p
    refine sound_assign C.toCxOk (C.hand rfl) S₂' m eb rv fun s₃ S₃ k₃ => ?_
    refine wpAny_mono (hb _ ρ' H s₃ _ R X S₃ g) (fun f s₄ h₄ => ?_) fun e s' z => C.passes (z.weaken wk)
    cases f with
    | next =>
      obtain ⟨ρ₄, H₄, S₄, g₄⟩ := h₄
      exact for_turns C O m hb its ρ₄ H₄ s₄ (S₄.weaken wk) (O.frame _ _ _ r₂ fun b hbad o e => S₄.prot b o (.inr ⟨hbad, e⟩)) (fun b hbad => ⟨(fad b hbad).1, (fad b hbad).2.1, (fad b hbad).2.2.1, by obtain ⟨o, e, _⟩ := O.there _ _ r₂ b hbad; exact S₄.protH b o (.inr ⟨hbad, e⟩)⟩) g₄
    | ret u => exact PS.weaken (f := .ret u) h₄ wk
    | _ => exact h₄.elim

theorem sx_for {t src b tx sx y p} (C : FxOk T c K hd) (hs : ∀ v, foldedSetIterable sx c.env v = pure v) (hsrc : SS W c G hd src sx) (m : MTg K t tx) (hb : SXs W c G hd b y) : SX W c G hd (.for t src b) (.For tx sx y [] p) := fun P ρ H s N R X S w => by
  rw [wpS] at w
  obtain ⟨rfl, w⟩ := w
  refine wpAny_For (wpAny_mono (hsrc P ρ H s _ _ rfl S w) (fun xv s₁ g₁ => wpAny_mono g₁ (fun it s₂ g₂ => ?_) fun _ _ z => z.toS) fun _ _ z => z.toS) hs
  obtain ⟨I, ad, w', RI, its, H₂, rfl, O, r, S₂, fad, g⟩ := g₂
  exact for_turns C O m hb its ρ H₂ s₂ S₂ r fad g
end
end Mine.Internal
end

section
namespace Mine.Internal
open PySem PySem.W PySem.Calls PyProof.Rows PySem.SeqAt
section
variable {W : Wd} {T : Tx W} {c : Cx} {K : Kc} {G : Gl} {hd : Bool}

theorem sx_raise {k msg x y q kk p cp pp} (C : CxOk T c K hd) (hx : x = Str.ofString k) (g : K.gl x = true) (hk : K.cls.contains k = true) : SX W c G hd (.raise k msg) (.Raise (some (.Call (.Name x q) [.Constant (.str y) kk p] [] cp)) none pp) := fun P ρ H s N R X S w => by
  subst hx
  rw [wpS] at w
  obtain ⟨rfl, w⟩ := w
  obtain ⟨D, eD, O⟩ := T.own k (C.cls ▸ hk)
  obtain ⟨tl, NN, nm, qq, bs, hdct, sn, sub, ab, col, dd, k0, k1, k2, k3, k5, mN, hC, hN, hni, TT⟩ := O.obj
  refine wpAny_Raise_call_subT (C := D) (nm := nm) (q := qq) (N := NN) (bs := bs) (bm := tl) (hdct := hdct) (sn := sn) (sub := sub) (ab := ab) (col := col) (dd := dd) (k0 := k0) (k1 := k1) (k2 := k2) (k3 := k3) (k5 := k5)
    PySem.F.excBase_ValueError (mN := mN) (TT.hasType PySem.F.excBase_ValueError.hasBase) (C.hand rfl) rfl hni (sound_global C S g O.bound ⟨rfl, ?_⟩)
  refine evalArgs_plain (spliced_cons (Constant_str (k := kk) (pos := p) (spliced_nil ?_)))
  have S₁ : Sim W c P ρ H { s with toks := s.toks + 1 } := S.toks _
  have kb : ∀ b o, W.base.get? b = some o → s.heap.get? b = some o := fun b o e => S.base b o e
  refine ⟨rfl, by simp [sizeLine_eq], kb _ _ hC, hN.at' fun o e => kb _ _ e, TT.keeps kb, fun h' e M => ?_⟩
  obtain ⟨t, he, htn, ht⟩ := M.there
  obtain ⟨f1, f2, f3, f4⟩ := S.fresh M.new
  exact ⟨k, ρ, H, S.grow (tk := s.toks + 1) M.keeps, ⟨e, D, _, _, .ref t, rfl, eD, he, rfl, rfl, rfl, f1, f3, .inl rfl⟩, w⟩

theorem RepKV.set {h : Heap} {k : Int} {v : V} {u : Value} (r : Rep W h v u) : ∀ {kvs : List (Int × V)} {ys : List (Int × Value)}, RepKV W h kvs ys → (ys.map (·.1)).Nodup → RepKV W h (dset k v kvs) (stored ys k u)
  | _, _, .nil, _ => by simpa [dset, stored] using RepKV.cons (k := k) r .nil
  | _, _, .cons (k := j) (v := z) (x := x) (kvs := kvs) (ys := ys) a b, hn => by
    rw [List.map_cons, List.nodup_cons] at hn
    by_cases q : j = k
    · subst q
      have hne : ∀ p ∈ ys, p.1 ≠ j := fun p hp e => hn.1 (List.mem_map.mpr ⟨p, hp, e⟩)
      have e1 : stored ((j, x) :: ys) j u = (j, u) :: ys := by
        unfold stored
        rw [if_pos (by simp)]
        rw [List.map_cons]
        simp only [if_true]
        congr 1
        conv => rhs; rw [← List.map_id ys]
        apply List.map_congr_left
        intro p hp
        simp [hne p hp]
      rw [e1]
      simp only [dset, if_true]
      exact .cons r b
    · have ih := RepKV.set (k := k) r b hn.2
      have e1 : stored ((j, x) :: ys) k u = (j, x) :: stored ys k u := by
        unfold stored
        by_cases z : ys.any (fun kv => decide (kv.1 = k)) = true
        · rw [if_pos (by simp only [List.any_cons, z, Bool.or_true]), if_pos z, List.map_cons]; simp [q]
        · rw [if_neg (by simp only [List.any_cons]; simp only [Bool.or_eq_true, not_or]; exact ⟨by simpa using q, z⟩), if_neg z]; rfl
      rw [e1]
      simp only [dset, if_neg q]
      exact .cons a ih

theorem dset_length (k : Int) (v : V) : ∀ kvs : List (Int × V), (dset k v kvs).length ≤ kvs.length + 1
  | [] => by simp [dset]
  | (j, x) :: r => by simp only [dset]; split <;> simp; exact dset_length k v r

theorem Reps.set {h : Heap} {v : V} {u : Value} (r : Rep W h v u) : ∀ {xs : List V} {us : List Value} (n : Nat), Reps W h xs us → Reps W h (xs.set n v) (us.set n u)
  | _, _, _, .nil => .nil
  | _, _, 0, .cons a b => .cons r b
  | _, _, n + 1, .cons a b => .cons a (Reps.set r n b)

theorem sx_setIt {o i v x y z p q} (hs : swapsWith z (some (.Subscript x y p)) q.line c.env = pure false) (ho : SE W c G hd o x) (hi : SE W c G hd i y) (hv : SE W c G hd v z) : SX W c G hd (.setIt o i v) (.Assign [.Subscript x y p] z q) := fun P ρ H s N R X S w => by
  rw [wpS] at w
  refine wpAny_Assign_Subscript (wpAny_mono (hv.two ho S w) (fun u s₁ h₁ => wpAny_mono h₁ (fun uo s₂ ⟨v1, v2, H₂, S₂, r1, r2, q⟩ => ?_) fun _ _ z => z.toS) fun _ _ z => z.toS) hs
  refine wpAny_mono (hi.max S₂ q) (fun ui s₃ ⟨kr, v3, H₃, S₃, r3, q⟩ => ?_) fun _ _ z => z.toS
  have r1 := r1.mono kr
  have r2 := r2.mono kr
  cases v2 with
  | ref a =>
    cases v3 with
    | int k =>
      cases r2; cases r3
      dsimp only at q
      split at q
      · rename_i xs ea
        obtain ⟨⟨h0, h1⟩, q⟩ := q
        obtain ⟨hl, it, n, g, ri⟩ := S₃.heap _ _ ea
        have hsz : it.size = xs.length := by rw [ri.length]; simp
        refine ki_setAt (n := n) g h0 (by unfold Lim at hl; omega) (by omega) ?_
        refine ⟨ρ, _, S₃.writeL (xs := xs.set k.toNat v1) ea g _ (by simpa using hl) ?_, q⟩
        rw [Array.toList_setIfInBounds]
        exact ri.set r1 k.toNat
      · rename_i kvs ea
        obtain ⟨hlt, q⟩ := q
        obtain ⟨⟨hl, hms⟩, ys, hD, rk⟩ := S₃.heap _ _ ea
        have hn : (ys.map (·.1)).Nodup := by obtain ⟨_, _, _, _, _, _, _, _, hn⟩ := hD; exact hn
        have hkl : kvs.length = ys.length := by have := congrArg List.length rk.keys; simpa using this
        obtain ⟨od, esd, epd, eod, xd, dd, _⟩ := id hD
        refine wpAny_setItem_pairs (k := k) (intKind_is _ _ _ _) hD (fun h' hD' hs' => ?_) (by rw [sizeLine_eq]; unfold Lim at hl; omega)
        have hk : ∀ b o, b ≠ a → s₃.heap.get? b = some o → h'.get? b = some o := fun b o q e => hs'.extBut b o q e
        have kr' : KeepR s₃.heap h' := by
          have nt : ∀ b o, s₃.heap.get? b = some o → (∀ es n, o.data ≠ .dict es n) → b ≠ a := fun b o e d q => by rw [q, eod] at e; cases e; exact d _ _ dd
          exact ⟨fun b o i n e k d => hk b o (nt b o e (by rw [d]; exact nofun)) e, fun b o C ws e k d => ⟨o, ws, hk b o (nt b o e (by rw [d]; exact nofun)) e, k, d⟩⟩
        refine ⟨ρ, _, S₃.write (o := .dict (dset k v1 kvs)) (tk := s₃.toks + 1) ea hk ⟨⟨?_, hms⟩, _, hD', (rk.set r1 hn).mono kr'⟩, q⟩
        have := dset_length k v1 kvs
        omega
      · exact q.elim
    | _ => exact q.elim
  | _ => exact q.elim

theorem Sim.changeD {W : Wd} {c : Cx} {P : Addr → Obj → Prop} {ρ : Loc} {H H' : Hp} {s : Shared} {h' : Heap} {tk : Nat} (S : Sim W c P ρ H s) (d : Addr)
    (hd : ∀ o, s.heap.get? d = some o → ∃ es n, o.data = .dict es n)
    (hnew : W.base.get? d = none) (hall : d ∉ c.all) (hP : ∀ o, ¬ P d o)
    (hk : ∀ b o, b ≠ d → s.heap.get? b = some o → h'.get? b = some o)
    (hH : ∀ b, b ≠ d → H' b = H b) (hO : ∀ o, H' d = some o → RepO W h' d o) : Sim W c P ρ H' { s with heap := h', toks := tk } := by
  have kr : KeepR s.heap h' := ⟨fun b o _ _ e k q => hk b o (by rintro rfl; obtain ⟨_, _, z⟩ := hd o e; rw [q] at z; cases z) e, fun b o C ws e k q => ⟨o, ws, hk b o (by rintro rfl; obtain ⟨_, _, z⟩ := hd o e; rw [q] at z; cases z) e, k, q⟩⟩
  have hne : ∀ b, b ∈ c.all → b ≠ d := fun b hb q => hall (q ▸ hb)
  have hloc : d ≠ c.env.locals := fun q => hall (q ▸ Cx.mem_all_own S.locOwn)
  refine ⟨?_, fun b o e => hk b o (by rintro rfl; rw [hnew] at e; cases e) (S.base b o e), funFrames_at S.frames fun b hb o e d => ⟨o, hk b o (hne b (Cx.mem_all_frs hb)) e, d⟩, fun p hp => ?_, ?_, S.locOwn, S.ownNew, S.ownOut,
    fun a o e => ?_, fun a o e => ?_, fun a o e => ?_, fun b o p => hk b o (by rintro rfl; exact hP o p) (S.prot b o p), fun b o p => ?_, S.protF, fun x a e => ?_, fun b hb => ?_⟩
  · obtain ⟨h, tk', rfl⟩ := S.rest; exact ⟨h', tk, rfl⟩
  · obtain ⟨o, es, ep, e, r⟩ := S.outer p hp
    exact ⟨o, es, ep, hk _ _ (hne _ (Cx.mem_all_outer hp)) e, r⟩
  · obtain ⟨m, ⟨o, es, ep, e, r⟩, hv⟩ := S.loc
    refine ⟨m, ⟨o, es, ep, hk _ _ (Ne.symm hloc) e, r⟩, fun i x v h1 h2 h3 => (hv i x v h1 h2 h3).mono kr fun cl o u _ ho hq => ⟨o, hk _ _ (by rintro rfl; obtain ⟨_, _, z⟩ := hd o ho; rw [hq] at z; cases z) ho, rfl⟩⟩
  · by_cases q : a = d
    · subst q; exact hO o e
    · rw [hH a q] at e; exact (S.heap a o e).at kr fun ob h => hk a ob q h
  · by_cases q : a = d
    · subst q; exact hnew
    · rw [hH a q] at e; exact S.new a o e
  · by_cases q : a = d
    · subst q; exact hall
    · rw [hH a q] at e; exact S.apart a o e
  · have q : b ≠ d := by rintro rfl; exact hP o p
    rw [hH b q]; exact S.protH b o p
  · obtain ⟨u, o, e1, e2⟩ := S.cells x a e
    exact ⟨u, o, hk a o (by rintro rfl; obtain ⟨_, _, z⟩ := hd o e1; rw [e2] at z; cases z) e1, e2⟩
  · obtain ⟨o, e, q⟩ := S.ownD b hb
    exact ⟨o, hk b o (hne b (hb.elim Cx.mem_all_own Cx.mem_all_frs)) e, q⟩


theorem comp_use {P : Addr → Obj → Prop} {ρ : Loc} {Q : V → Hp → Prop} {E : Value → Shared → Prop} {D C' : Addr} {s' : Shared} {i : Nat} {x : Str} {p : Pos} {N : Loc → Hp → Prop} (C : CxOk T c K hd) (g : K.tgt i x = true) (h : CompEnd W c P ρ (fun v H₁ => N (ρ.set i (some v)) H₁) D C' s') :
    compPost (model W.prog W.w) c.A E (some (assign (.Name x p) c.env)) (fun _ s'' => ∃ ρ' H', Sim W c P ρ' H' s'' ∧ N ρ' H') (.ref D) C' (.ok .next) s' := by
  obtain ⟨⟨m, hn⟩, hP, hown, hfr, ⟨hbase, hall⟩, vs, H', hD, hq, hCn, hS⟩ := h
  have S0 := hS s'.heap (Heap.SameBut.refl _ _)
  show wpAny _ _ (assign (.Name x p) c.env (.ref D)) _ _ s'
  obtain ⟨oC, esC, epC, eC, dC, rC⟩ := id hn
  have S1 : Sim W c (fun b o => P b o ∨ (b = C' ∧ s'.heap.get? b = some o)) ρ (H'.set D (.list vs)) s' := Sim.addP (s := s') S0 (fun b o => b = C' ∧ s'.heap.get? b = some o) fun b o ⟨e, z⟩ => ⟨z, e ▸ hCn, e ▸ hown, e ▸ hfr⟩
  refine wpAny_assign_Name (sound_store C S1 g (.ref D) fun s₂ S₂ kr => ?_)
  have eC₂ := S₂.prot C' oC (.inr ⟨rfl, eC⟩)
  refine ⟨m, ⟨oC, esC, epC, eC₂, dC, rC⟩, fun h'' hs => ⟨_, _, ?_, hq.2 D hD⟩⟩
  have S₃ := S₂.weaken (P := P) fun b o z => .inl z
  refine S₃.changeD (tk := s₂.toks) C' (fun o e => ?_) hbase hall hP (fun b o q e => hs.extBut b o q e) (fun _ _ => rfl) (fun o e => ?_)
  · rw [eC₂] at e; cases e; exact ⟨_, _, dC⟩
  · rw [S₂.protH C' oC (.inr ⟨rfl, eC⟩)] at e; cases e
end
end Mine.Internal
end

section
namespace Mine.Internal
open PySem PySem.W PySem.Calls PyProof.Rows PySem.SeqAt
section
variable {W : Wd} {T : Tx W} {c : Cx} {K : Kc} {G : Gl} {hd : Bool}

theorem sx_asgComp {i elt t src x tx sx v scope p pp q} (C : CxOk T c K hd) (g : K.tgt i v = true) (hsw : swapsWith (.ListComp x [⟨tx, sx, [], 0⟩] scope p) (some (.Name v pp)) q.line c.env = pure true) (hin : K.inC = false) (hc : cOk K scope t = true) (hs : ∀ v, foldedSetIterable sx c.env v = pure v) (hsrc : SS W c G hd src sx) (mt : MTg (K.comp scope) t tx)
    (hE : ∀ c', CxOk T c' (K.comp scope) hd → c'.A = c.A → SE W c' G hd elt x) : SX W c G hd (.asg i (.comp elt t src)) (.Assign [.Name v pp] (.ListComp x [⟨tx, sx, [], 0⟩] scope p) q) := fun P ρ H s N R X S w => by
  rw [wpS, wpE] at w
  obtain ⟨rfl, w⟩ := w
  rw [exec_Assign_Name_used _ _ _ _ hsw]
  refine wpAny_bind (wpAny_standAt (wpAny_bind ?_))
  show wpAny _ _ (do let _ ← comprehension (.ListComp x [⟨tx, sx, [], 0⟩] scope p) scope c.env _ (newList []) false (eval sx c.env) (some (assign (.Name v pp) c.env))) _ _ s
  refine wpAny_bind (wpAny_mono (comp_any (Q := fun v H₁ => N (ρ.set i (some v)) H₁) (QQ := fun _ s'' => ∃ ρ' H', Sim W c P ρ' H' s'' ∧ N ρ' H') C hin hc hs hsrc mt (fun c' C' hA P' ρ' H' s' Q' S' w' => ?_) (fun c' C' hA P' ρ' H' s' B S' w' => wpAny_tests_nil ⟨H', S', w'⟩) S w (fun _ _ e => e.toS) fun D C' s' h => comp_use (Q := fun _ _ => True) C g h) (fun _ s₁ h₁ => wpAny_pure (wpAny_pure h₁)) fun _ _ z => z)
  exact wpAny_mono (hA ▸ hE c' C' hA P' ρ' H' s' Q' _ S' w') (fun _ _ z => z) fun _ _ z => ex_false z
theorem sx_asgCompIf {i elt t src d x tx sx cx v scope p pp q} (C : CxOk T c K hd) (g : K.tgt i v = true) (hsw : swapsWith (.ListComp x [⟨tx, sx, [cx], 0⟩] scope p) (some (.Name v pp)) q.line c.env = pure true) (hin : K.inC = false) (hc : cOk K scope t = true) (hs : ∀ v, foldedSetIterable sx c.env v = pure v) (hsrc : SS W c G hd src sx) (mt : MTg (K.comp scope) t tx)
    (hE : ∀ c', CxOk T c' (K.comp scope) hd → c'.A = c.A → SE W c' G hd elt x) (hT : ∀ c', CxOk T c' (K.comp scope) hd → c'.A = c.A → ST W c' G hd d cx) : SX W c G hd (.asg i (.compIf elt t src d)) (.Assign [.Name v pp] (.ListComp x [⟨tx, sx, [cx], 0⟩] scope p) q) := fun P ρ H s N R X S w => by
  rw [wpS, wpE] at w
  obtain ⟨rfl, w⟩ := w
  rw [exec_Assign_Name_used _ _ _ _ hsw]
  refine wpAny_bind (wpAny_standAt (wpAny_bind ?_))
  show wpAny _ _ (do let _ ← comprehension (.ListComp x [⟨tx, sx, [cx], 0⟩] scope p) scope c.env _ (newList []) false (eval sx c.env) (some (assign (.Name v pp) c.env))) _ _ s
  refine wpAny_bind (wpAny_mono (comp_any (Q := fun v H₁ => N (ρ.set i (some v)) H₁) (QQ := fun _ s'' => ∃ ρ' H', Sim W c P ρ' H' s'' ∧ N ρ' H') C hin hc hs hsrc mt (fun c' C' hA P' ρ' H' s' Q' S' w' => ?_) (fun c' C' hA P' ρ' H' s' B S' w' => wpAny_tests_one ?_) S w (fun _ _ e => e.toS) fun D C' s' h => comp_use (Q := fun _ _ => True) C g h) (fun _ s₁ h₁ => wpAny_pure (wpAny_pure h₁)) fun _ _ z => z)
  · exact wpAny_mono (hA ▸ hE c' C' hA P' ρ' H' s' Q' _ S' w') (fun _ _ z => z) fun _ _ z => ex_false z
  · exact wpAny_mono (hA ▸ hT c' C' hA P' ρ' H' s' B _ S' w') (fun _ _ z => z) fun _ _ z => ex_false z

theorem exc_match {P : Addr → Obj → Prop} {ρ : Loc} {H : Hp} {s : Shared} {a C D : Addr} {oe : Obj} {k d : String} {A : Around} {E : Value → Shared → Prop} {Q : Bool → Shared → Prop} (S : Sim W c P ρ H s) (ho : s.heap.get? a = some oe) (hc : oe.cls = .ref C) (hk : W.cls k = some C) (hdd : W.cls d = some D) (h : Q ((T.anc k).contains d) s) :
    wpAny (model W.prog W.w) A (excMatches (.ref a) (.ref D)) Q E s := by
  have Z := T.kcl d D hdd
  have X := S.frag (T := T)
  have hsub := T.ksub k C d D hk hdd
  obtain ⟨hh, g, dr, t, os⟩ := s
  have L0 := looks_ty (M := model W.prog W.w) ho hc
  have L1 := looks_subIn (M := model W.prog W.w) X hsub
  have L2 := looks_typeIn (M := model W.prog W.w) X Z.ty
  have L3 := looks_mroIn (M := model W.prog W.w) X Z.base
  have L4 : Looks (model W.prog W.w) hh (isInstance (.ref D) (.type "tuple")) false := L2.andThen (Looks.of_pure tc_notTuple)
  have L5 : Looks (model W.prog W.w) hh (isType (.ref D)) true := by
    obtain ⟨cdD, hcD⟩ := Option.isSome_iff_exists.mp Z.cls
    unfold clsIn at hcD
    split at hcD
    · rename_i c' d' cd' sl' ho'
      intro A' Q' E' s' kk q
      unfold isType loadHead
      exact wpAny_bind (wpAny_loadPart (kk _ _ (X _ _ ho')) (wpAny_pure q))
    · cases hcD
  have L6 : Looks (model W.prog W.w) hh (isExcClass (.ref D)) true := L5.andThen L3
  unfold excMatches
  refine wpAny_bind (L4.at ?_)
  simp only [Bool.false_eq_true, if_false]
  refine wpAny_bind (wpAny_pure ?_)
  simp only [List.forIn_cons, List.forIn_nil]
  refine wpAny_bind (wpAny_bind (wpAny_bind (L6.at ?_)))
  simp only [Bool.not_true, Bool.false_eq_true, if_false]
  refine wpAny_pure (wpAny_pure ?_)
  refine wpAny_bind (L0.at ?_)
  refine wpAny_bind (wpAny_bind (wpAny_bind (L1.at ?_)))
  cases hb : (T.anc k).contains d <;> rw [hb] at h
  · simp only [Bool.false_eq_true, if_false]
    exact wpAny_pure (wpAny_pure (wpAny_pure h))
  · simp only [if_true]
    exact wpAny_pure (wpAny_pure (wpAny_pure h))
end
end Mine.Internal
end

section
namespace Mine.Internal
open PySem PySem.W PySem.Calls PyProof.Rows PySem.SeqAt
section
variable {W : Wd} {T : Tx W} {c : Cx} {K : Kc} {G : Gl} {hd : Bool}

theorem Sim.reA {P : Addr → Obj → Prop} {ρ : Loc} {H : Hp} {s : Shared} (A : Around) (S : Sim W c P ρ H s) : Sim W { c with A := A } P ρ H s :=
  ⟨S.rest, S.base, S.frames, S.outer, S.loc, S.locOwn, S.ownNew, S.ownOut, S.heap, S.new, S.apart, S.prot, S.protH, S.protF, S.cells, S.ownD⟩
theorem Sim.unA {P : Addr → Obj → Prop} {ρ : Loc} {H : Hp} {s : Shared} {A : Around} (S : Sim W { c with A := A } P ρ H s) : Sim W c P ρ H s :=
  ⟨S.rest, S.base, S.frames, S.outer, S.loc, S.locOwn, S.ownNew, S.ownOut, S.heap, S.new, S.apart, S.prot, S.protH, S.protF, S.cells, S.ownD⟩
theorem PS.unA {P : Addr → Obj → Prop} {N : Loc → Hp → Prop} {R : V → Hp → Prop} {f : Flow} {s : Shared} {A : Around} (h : PS W { c with A := A } P N R f s) : PS W c P N R f s := by
  cases f with
  | next => obtain ⟨ρ', H', S, n⟩ := h; exact ⟨ρ', H', S.unA, n⟩
  | ret u => obtain ⟨v, ρ', H', S, r, n⟩ := h; exact ⟨v, ρ', H', S.unA, r, n⟩
  | _ => exact h.elim
theorem exs_false {P : Addr → Obj → Prop} {e : Value} {s : Shared} (h : EXs W c P (fun _ _ _ => False) e s) : False := h.elim fun _ h => h.elim fun _ h => h.elim fun _ h => h.2.2
theorem FxOk.mark (C : FxOk T c K hd) (e : Option Value) : FxOk T { c with A := c.A.mark e } K true :=
  { sc := C.sc, kind := C.kind, names := C.names, vis := C.vis, gint := C.gint, fns := C.fns, cls := C.cls, glob := C.glob, bi := C.bi, hand := (fun q => by cases q), units := C.units, frames := C.frames, inj := C.inj, cellOwn := C.cellOwn, cellFr := C.cellFr, cellKind := C.cellKind, cellInj := C.cellInj, head := C.head, fr := C.fr, inF := C.inF }

inductive SH (W : Wd) (c : Cx) (K : Kc) (G : Gl) : Hs → List ExceptHandler → Prop
  | nil : SH W c K G .nil []
  | cons0 {d x q b b₀ ys pos r hx} : x = Str.ofString d → K.gl x = true → K.cls.contains d = true → (∀ e, SXs W { c with A := c.A.mark e } G true b (b₀ :: ys)) → SH W c K G r hx → SH W c K G (.cons d none b r) (.ExceptHandler (some (.Name x q)) none (b₀ :: ys) pos :: hx)
  | cons1 {d x q i n b b₀ ys pos r hx} : x = Str.ofString d → K.gl x = true → K.cls.contains d = true → K.tgt i n = true → K.sc.names.lookup n = some .local → (∀ e, SXs W { c with A := c.A.mark e } G true b (b₀ :: ys)) → SH W c K G r hx → SH W c K G (.cons d (some i) b r) (.ExceptHandler (some (.Name x q)) (some n) (b₀ :: ys) pos :: hx)

theorem FlyAt.rep {P : Addr → Obj → Prop} {fl : Value} {h : Heap} {e : Value} {k : String} (F : FlyAt W P fl h e k) : Rep W h (.exc k) e := by
  obtain ⟨a, C, oe, vs, a0, Tb, oT, ts, rfl, h2, h3, h4, h5, _⟩ := F
  exact .exc h3 h4 h5 h2

theorem unbind_as {P : Addr → Obj → Prop} {ρ : Loc} {H : Hp} {s : Shared} {i : Nat} {n : Str} {pos : Pos} {E : Value → Shared → Prop} {Q : Unit → Shared → Prop} (C : CxOk T c K hd) (g : K.tgt i n = true) (hl : K.sc.names.lookup n = some .local) (S : Sim W c P ρ H s)
    (h : ∀ s', Sim W c P (ρ.set i none) H s' → KeepR s.heap s'.heap → Q () s') : wpAny (model W.prog W.w) c.A (do bindName c.env n .none; unbindBehindTheSuite c.env n pos) Q E s := by
  have hk : c.env.kindOf n = some .local := by unfold Env.kindOf; rw [C.sc]; exact hl
  have hp : (c.env.scope.kind == .class || (c.env.scope.kind == .module && c.env.locals != c.env.globals)) = false := by rw [C.sc, C.kind]; rfl
  obtain ⟨h1, y, h2, rfl⟩ := Kc.tgt_spec g
  obtain ⟨m, hn, hv⟩ := S.loc
  refine wpAny_bind (wpAny_bindName (wpAny_storeName_local hk hn (fun h' hn' hs' => ?_) hp))
  unfold unbindBehindTheSuite
  refine wpAny_onRaise (wpAny_mono (wpAny_unbindName_local (s := { s with heap := h', toks := s.toks + 1 }) (E := fun _ _ => False) (Q := Q) hk hn' (v := .none) (by simp) hp fun h'' u hn'' hs'' => ?_) (fun _ _ z => z) fun _ _ f => f.elim)
  have hkeep : ∀ b o, b ≠ c.env.locals → s.heap.get? b = some o → h''.get? b = some o := fun b o q e => hs''.extBut b o q (hs'.extBut b o q e)
  have kr : KeepR s.heap h'' := by
    obtain ⟨oL, esL, epL, eL, dL, kL, fL⟩ := id hn
    have nt : ∀ b o, s.heap.get? b = some o → (∀ es n, o.data ≠ .dict es n) → b ≠ c.env.locals := fun b o e d q => by rw [q, eL] at e; cases e; exact d _ _ dL
    exact ⟨fun b o i n e k d => hkeep b o (nt b o e (by rw [d]; exact nofun)) e, fun b o C ws e k d => ⟨o, ws, hkeep b o (nt b o e (by rw [d]; exact nofun)) e, k, d⟩⟩
  refine h { s with heap := h'', toks := s.toks + 1 } (S.names (tk := s.toks + 1) hn hn'' hkeep fun kr' kc j z w hj1 hj2 hj3 => ?_) kr
  have q : j ≠ i := by
    rintro rfl
    rw [List.getElem?_set] at hj3
    simp only [if_true] at hj3
    split at hj3 <;> simp at hj3
  rw [List.getElem?_set_ne (Ne.symm q)] at hj3
  have ne : Str.ofString z ≠ Str.ofString y := fun q' => q (C.inj j i z y hj2 (by rw [C.names]; exact h2) q')
  rcases hv j z w hj1 hj2 hj3 with ⟨k, u', e', r'⟩ | ⟨k, cl, o, u', e', ho, hd', r'⟩
  · exact .inl ⟨k, u', by simp [ne, e'], r'.mono kr⟩
  · exact .inr ⟨k, cl, o, u', e', kc cl o _ ho hd', hd', r'.mono kr⟩

theorem handle_by {P : Addr → Obj → Prop} {N : Loc → Hp → Prop} {R : V → Hp → Prop} {X : String → Loc → Hp → Prop} {e : Value} {k : String} (C : FxOk T c K false) (hG : G.anc = T.anc) :
    ∀ {hs : Hs} {hx : List ExceptHandler}, SH W c K G hs hx → ∀ (ρ : Loc) (H : Hp) (s : Shared), Sim W c P ρ H s → FlyAt W P .none s.heap e k → wpHs G k hs ρ N R (X k ρ H) H → wpAny (model W.prog W.w) c.A (handleBy e c.env hx) (PS W c P N R) (EXs W c P X) s
  | _, _, .nil, ρ, H, s, S, F, w => by
    rw [wpHs] at w
    refine wpAny_handleBy_nil ?_
    obtain ⟨L, hL⟩ := C.fr
    obtain ⟨a, D, oe, vs, a0, Tb, oT, ts, rfl, h2, h3, h4, h5, h6, h7, h8, t1, _⟩ := id F
    unfold PySem.passOn
    refine wpAny_bind (wpAny_field h3 h5 t1 ?_)
    rw [if_neg (by simp)]
    rw [hL]
    refine wpAny_bind (setFlight_to (f := some L) S F fun h' S' F' => wpAny_throw ?_)
    exact ⟨k, ρ, H, S', by rw [hL]; exact FlyAt.flyL F', w⟩
  | _, _, .cons0 (d := d) hx g hc hb hr, ρ, H, s, S, F, w => by
    subst hx
    rw [wpHs] at w
    obtain ⟨D, eg, eD⟩ := T.hcls d (C.cls ▸ hc)
    obtain ⟨a, Ck, oe, vs, a0, Tb, oT, ts, rfl, h2, h3, h4, h5, _⟩ := id F
    have Cm := C.mark (some (.ref a))
    refine wpAny_handleBy_cons (codeAny_handlers_test (sound_global (c := { c with A := c.A.mark (some (.ref a)) }) Cm.toCxOk (S.reA _) g eg ?_)) (by intro q; cases q)
    refine exc_match (T := T) S h3 h4 h2 eD ?_
    rw [← hG]
    by_cases hm : (G.anc k).contains d = true
    · rw [if_pos hm] at w
      rw [hm]
      simp only [if_true]
      refine codeAny_handlers_suite (setFlight_to (f := none) S F fun h' S' F' => ?_)
      refine wpAny_mono (hb (some (.ref a)) P ρ H _ N R _ (S'.reA _) w) (fun f s₂ z => ?_) fun _ _ z => (exs_false z).elim
      exact z.unA
    · rw [if_neg hm] at w
      rw [Bool.eq_false_iff.mpr hm]
      simp only [Bool.false_eq_true, if_false]
      exact handle_by C hG hr ρ H s S F w
  | _, _, .cons1 (d := d) (i := i) (n := n) hx g hc ht hl hb hr, ρ, H, s, S, F, w => by
    subst hx
    rw [wpHs] at w
    obtain ⟨D, eg, eD⟩ := T.hcls d (C.cls ▸ hc)
    obtain ⟨a, Ck, oe, vs, a0, Tb, oT, ts, rfl, h2, h3, h4, h5, _⟩ := id F
    have Cm := C.mark (some (.ref a))
    refine wpAny_handleBy_cons (codeAny_handlers_test (sound_global (c := { c with A := c.A.mark (some (.ref a)) }) Cm.toCxOk (S.reA _) g eg ?_)) (by intro q; cases q)
    refine exc_match (T := T) S h3 h4 h2 eD ?_
    rw [← hG]
    by_cases hm : (G.anc k).contains d = true
    · rw [if_pos hm] at w
      rw [hm]
      simp only [if_true]
      refine codeAny_handlers_suite_as (setFlight_to (f := none) S F fun h' S' F' => ?_)
      refine sound_store (c := { c with A := c.A.mark (some (.ref a)) }) Cm.toCxOk (S'.reA _) ht F'.rep fun s₂ S₂ _ => ?_
      refine wpAny_mono (hb (some (.ref a)) P _ H s₂ _ R _ S₂ w) (fun f s₃ z => ?_) fun _ _ z => (exs_false z).elim
      have z := z.unA
      cases f with
      | next =>
        obtain ⟨ρ', H', S₃, hN⟩ := z
        exact unbind_as C.toCxOk ht hl S₃ fun s₄ S₄ _ => ⟨_, _, S₄, hN⟩
      | ret u =>
        obtain ⟨v, ρ', H', S₃, r, hN⟩ := z
        exact unbind_as C.toCxOk ht hl S₃ fun s₄ S₄ kr => ⟨v, _, _, S₄, r.mono kr, hN⟩
      | _ => exact z.elim
    · rw [if_neg hm] at w
      rw [Bool.eq_false_iff.mpr hm]
      simp only [Bool.false_eq_true, if_false]
      exact handle_by C hG hr ρ H s S F w

theorem sx_try {b hs y h₀ hx p} (C : FxOk T c K hd) (hG : G.anc = T.anc) (hb : SXs W c G hd b y) (hh : hd = false → SH W c K G hs (h₀ :: hx)) : SX W c G hd (.tr b hs) (.Try y (h₀ :: hx) [] [] p) := fun P ρ H s N R X S w => by
  rw [wpS] at w
  obtain ⟨rfl, w⟩ := w
  obtain ⟨outer, ho⟩ := C.head
  obtain ⟨L, hL⟩ := C.fr
  refine wpAny_Try_except (wpAny_mono (hb P ρ H s N R _ S w) (fun f s₁ h₁ => ?_) fun e s₁ h₁ => ?_)
  · cases f with
    | next => exact wpAny_execs_nil h₁
    | ret u => exact h₁
    | _ => exact h₁.elim
  · obtain ⟨k, ρ', H', S', F, g⟩ := h₁
    rw [hL] at F
    refine note_frame S' (by rw [C.frames, ho]) ho hL F fun h' S₂ F₂ => ?_
    refine setFlight_to (s := { s₁ with heap := h' }) (f := none) S₂ F₂ fun h'' S₃ F₃ => ?_
    exact handle_by C hG (hh rfl) ρ' H' _ S₃ F₃ g
end
end Mine.Internal
end

section
namespace Mine.Internal
open PySem PySem.W PySem.Calls PyProof.Rows PySem.SeqAt

mutual
inductive MS : Kc → St → Stmt → Prop
  | asg {K i e x v p q} : K.tgt i x = true → (∀ env : Env, env.scope = K.sc → swapsWith v (some (.Name x p)) q.line env = pure false) → ME K e v → MS K (.asg i e) (.Assign [.Name x p] v q)
  | asgC {K i elt t src x tx sx v scope p pp q} : K.tgt i v = true → (∀ env : Env, env.scope = K.sc → swapsWith (.ListComp x [⟨tx, sx, [], 0⟩] scope p) (some (.Name v pp)) q.line env = pure true) → K.inC = false → cOk K scope t = true →
      (∀ env : Env, env.scope = K.sc → ∀ v, foldedSetIterable sx env v = pure v) → MSr K src sx → MTg (K.comp scope) t tx → ME (K.comp scope) elt x → MS K (.asg i (.comp elt t src)) (.Assign [.Name v pp] (.ListComp x [⟨tx, sx, [], 0⟩] scope p) q)
  | asgCI {K i elt t src d x tx sx cx v scope p pp q} : K.tgt i v = true → (∀ env : Env, env.scope = K.sc → swapsWith (.ListComp x [⟨tx, sx, [cx], 0⟩] scope p) (some (.Name v pp)) q.line env = pure true) → K.inC = false → cOk K scope t = true →
      (∀ env : Env, env.scope = K.sc → ∀ v, foldedSetIterable sx env v = pure v) → MSr K src sx → MTg (K.comp scope) t tx → ME (K.comp scope) elt x → ME (K.comp scope) d cx → MS K (.asg i (.compIf elt t src d)) (.Assign [.Name v pp] (.ListComp x [⟨tx, sx, [cx], 0⟩] scope p) q)
  | setIt {K o i v x y z p q} : (∀ env : Env, env.scope = K.sc → swapsWith z (some (.Subscript x y p)) q.line env = pure false) → ME K o x → ME K i y → ME K v z → MS K (.setIt o i v) (.Assign [.Subscript x y p] z q)
  | ex {K e v q} : (∀ env : Env, env.scope = K.sc → swapsWith v none q.line env = pure false) → ME K e v → MS K (.ex e) (.Expr v q)
  | ret {K e x p} : ME K e x → MS K (.ret e) (.Return (some x) p)
  | ife {K d a b x y z p} : ME K d x → MSs K a y → MSs K b z → MS K (.ife d a b) (.If x y z p)
  | whl {K d b x y p} : ME K d x → MSs K b y → MS K (.whl d b) (.While x y [] p)
  | for {K t src b tx sx y p} : (∀ env : Env, env.scope = K.sc → ∀ v, foldedSetIterable sx env v = pure v) → MSr K src sx → MTg K t tx → MSs K b y → MS K (.for t src b) (.For tx sx y [] p)
  | raise {K k msg x y q kk p cp pp} : x = Str.ofString k → K.gl x = true → K.cls.contains k = true → MS K (.raise k msg) (.Raise (some (.Call (.Name x q) [.Constant (.str y) kk p] [] cp)) none pp)
  | tr {K b hs y h₀ hx p} : MSs K b y → MHs K hs (h₀ :: hx) → MS K (.tr b hs) (.Try y (h₀ :: hx) [] [] p)
  | pass {K p} : MS K .pass (.Pass p)
inductive MSs : Kc → Sts → List Stmt → Prop
  | nil {K} : MSs K .nil []
  | cons {K e x r xs} : MS K e x → MSs K r xs → MSs K (.cons e r) (x :: xs)
inductive MHs : Kc → Hs → List ExceptHandler → Prop
  | nil {K} : MHs K .nil []
  | cons0 {K d x q b b₀ ys pos r hx} : x = Str.ofString d → K.gl x = true → K.cls.contains d = true → MSs K b (b₀ :: ys) → MHs K r hx → MHs K (.cons d none b r) (.ExceptHandler (some (.Name x q)) none (b₀ :: ys) pos :: hx)
  | cons1 {K d x q i n b b₀ ys pos r hx} : x = Str.ofString d → K.gl x = true → K.cls.contains d = true → K.tgt i n = true → (K.sc.names.lookup n == some .local) = true → MSs K b (b₀ :: ys) → MHs K r hx → MHs K (.cons d (some i) b r) (.ExceptHandler (some (.Name x q)) (some n) (b₀ :: ys) pos :: hx)
end

set_option maxHeartbeats 4000000
mutual
theorem sound_MS {W : Wd} {T : Tx W} {G : Gl} (hG : G.anc = T.anc) {K : Kc} {e : St} {x : Stmt} (h0 : MS K e x) {hd : Bool} (c : Cx) (C : FxOk T c K hd) (O : hd = false → GOk T G c.A) : SX W c G hd e x := by
  cases h0 with
  | asg g hs a => exact sx_asg C.toCxOk g (hs _ C.sc) (sound_ME hG a c C.toCxOk O).1
  | asgC g hs hin hc hf ms mt me => exact sx_asgComp C.toCxOk g (hs _ C.sc) hin hc (hf _ C.sc) (sound_MSr hG ms c C.toCxOk O) mt fun c' C' hA => (sound_ME hG me c' C' (hA ▸ O)).1
  | asgCI g hs hin hc hf ms mt me mc => exact sx_asgCompIf C.toCxOk g (hs _ C.sc) hin hc (hf _ C.sc) (sound_MSr hG ms c C.toCxOk O) mt (fun c' C' hA => (sound_ME hG me c' C' (hA ▸ O)).1) fun c' C' hA => (sound_ME hG mc c' C' (hA ▸ O)).2
  | setIt hs a b d => exact sx_setIt (hs _ C.sc) (sound_ME hG a c C.toCxOk O).1 (sound_ME hG b c C.toCxOk O).1 (sound_ME hG d c C.toCxOk O).1
  | ex hs a => exact sx_ex C.toCxOk (hs _ C.sc) (sound_ME hG a c C.toCxOk O).1
  | ret a => exact sx_ret (sound_ME hG a c C.toCxOk O).1
  | ife a b d => exact sx_if (sound_ME hG a c C.toCxOk O).2 (sound_MSs hG b c C O) (sound_MSs hG d c C O)
  | whl a b => exact sx_while C (sound_ME hG a c C.toCxOk O).2 (sound_MSs hG b c C O)
  | «for» hf a m b => exact sx_for C (hf _ C.sc) (sound_MSr hG a c C.toCxOk O) m (sound_MSs hG b c C O)
  | raise e g hk => exact sx_raise C.toCxOk e g hk
  | tr b hs => exact sx_try C hG (sound_MSs hG b c C O) fun q => by subst q; exact sound_MHs hG hs c C (O rfl)
  | pass => exact sx_pass
theorem sound_MSs {W : Wd} {T : Tx W} {G : Gl} (hG : G.anc = T.anc) {K : Kc} {e : Sts} {x : List Stmt} (h0 : MSs K e x) {hd : Bool} (c : Cx) (C : FxOk T c K hd) (O : hd = false → GOk T G c.A) : SXs W c G hd e x := by
  cases h0 with
  | nil => exact sxs_nil
  | cons a r => exact sxs_cons (sound_MS hG a c C O) (sound_MSs hG r c C O)
theorem sound_MHs {W : Wd} {T : Tx W} {G : Gl} (hG : G.anc = T.anc) {K : Kc} {e : Hs} {x : List ExceptHandler} (h0 : MHs K e x) (c : Cx) (C : FxOk T c K false) (O : GOk T G c.A) : SH W c K G e x := by
  cases h0 with
  | nil => exact .nil
  | cons0 e g hc b r => exact .cons0 e g hc (fun v => sound_MSs hG b _ (C.mark v) fun q => by cases q) (sound_MHs hG r c C O)
  | cons1 e g hc ht hl b r => exact .cons1 e g hc ht (beq_iff_eq.mp hl) (fun v => sound_MSs hG b _ (C.mark v) fun q => by cases q) (sound_MHs hG r c C O)
end
end Mine.Internal
end

section
namespace Mine.Internal
open PySem PySem.W PySem.Calls PyProof.Rows PySem.SeqAt

noncomputable def bindsOf (d : Fn) (us : List Value) : List (Str × Value) := ((d.slots.take d.params).map Str.ofString).zip us
noncomputable def fnK (gint : List (String × Int)) (fns cls : List String) (sc : Scope) (d : Fn) : Kc :=
  { sc := sc, names := d.slots, vis := fun i => match d.slots[i]? with | some x => (match sc.names.lookup (Str.ofString x) with | some .local => true | some .cell => true | _ => false) | none => false, gint := gint, fns := fns, cls := cls, inC := false }

structure FnOk {W : Wd} (T : Tx W) (d : Fn) (a : Addr) (o : Obj) (fd : FuncData) (body : List Stmt) : Prop where
  at_ : W.base.get? a = some o
  data : o.data = .func fd
  co : fd.scope.isCoroutine = false
  gen : fd.scope.isGenerator = false
  bodyE : fd.body = .stmts body
  code : W.base.CodeRec fd.code fd.qualname
  clos : fd.closure = []
  glob : fd.globals = T.G
  bi : fd.builtins = T.B
  kind : fd.scope.kind = .function
  slots : d.slots.Nodup
  str : ∀ x y : String, x ∈ d.slots → y ∈ d.slots → Str.ofString x = Str.ofString y → x = y
  par : d.params ≤ d.slots.length
  parK : ∀ x ∈ d.slots.take d.params, fd.scope.names.lookup (Str.ofString x) = some .local ∨ fd.scope.names.lookup (Str.ofString x) = some .cell
  binds : ∀ (us : List Value) (s : Shared), us.length = d.params → T.frag.In s.heap → BindsTo s fd ⟨us, []⟩ (bindsOf d us)
  text : MSs (fnK T.gint T.fns T.cls fd.scope d) d.body body

theorem bindL_mem {kindOf : Str → Option NameKind} {x : Str} {u : Value} : ∀ {bs : List (Str × Value)} {m : Str → Option Value}, (bs.map (·.1)).Nodup → kindOf x = some .local → ((x, u) ∈ bs ∨ (x ∉ bs.map (·.1) ∧ m x = some u)) → bindL kindOf bs m x = some u
  | [], m, _, _, h => by rcases h with h | h; cases h; exact h.2
  | (n, v) :: r, m, hn, hk, h => by
    rw [List.map_cons, List.nodup_cons] at hn
    unfold bindL
    refine bindL_mem hn.2 hk ?_
    rcases h with h | ⟨h1, h2⟩
    · rcases List.mem_cons.mp h with e | h
      · cases e; right; exact ⟨hn.1, by rw [if_pos hk]; simp⟩
      · exact .inl h
    · right
      rw [List.map_cons, List.mem_cons, not_or] at h1
      refine ⟨h1.2, ?_⟩
      split
      · simp [h1.1, h2]
      · exact h2
theorem bindC_mem {kindOf : Str → Option NameKind} {x : Str} {u : Value} : ∀ {bs : List (Str × Value)} {m : Str → Option Value}, (bs.map (·.1)).Nodup → kindOf x ≠ some .local → ((x, u) ∈ bs ∨ (x ∉ bs.map (·.1) ∧ m x = some u)) → bindC kindOf bs m x = some u
  | [], m, _, _, h => by rcases h with h | h; cases h; exact h.2
  | (n, v) :: r, m, hn, hk, h => by
    rw [List.map_cons, List.nodup_cons] at hn
    unfold bindC
    refine bindC_mem hn.2 hk ?_
    rcases h with h | ⟨h1, h2⟩
    · rcases List.mem_cons.mp h with e | h
      · cases e; right; exact ⟨hn.1, by rw [if_neg hk]; simp⟩
      · exact .inl h
    · right
      rw [List.map_cons, List.mem_cons, not_or] at h1
      refine ⟨h1.2, ?_⟩
      split
      · exact h2
      · simp [h1.1, h2]

theorem cellsFrom_some {x : Str} : ∀ (names : List (Str × NameKind)) (n : Nat) (acc : List (Str × Addr)), ((x, NameKind.cell) ∈ names ∨ (acc.lookup x).isSome = true) → ((cellsFrom n names acc).lookup x).isSome = true
  | [], n, acc, h => by rcases h with h | h; cases h; exact h
  | (y, k) :: r, n, acc, h => by
    unfold cellsFrom
    by_cases hk : k = .cell
    · rw [if_pos (by simp [hk])]
      refine cellsFrom_some r _ _ ?_
      rcases h with h | h
      · rcases List.mem_cons.mp h with e | h
        · cases e; right; simp [List.lookup_cons]
        · exact .inl h
      · right
        rw [List.lookup_cons]
        cases q : x == y <;> simp [h]
    · rw [if_neg (by simp [hk])]
      refine cellsFrom_some r _ _ ?_
      rcases h with h | h
      · rcases List.mem_cons.mp h with e | h
        · cases e; exact absurd rfl hk
        · exact .inl h
      · exact .inr h
theorem pw_inj {l : List (Str × Addr)} (h : l.Pairwise fun x y => x.2 ≠ y.2) : ∀ p ∈ l, ∀ q ∈ l, p.2 = q.2 → p = q := by
  induction h with
  | nil => intro p hp; cases hp
  | cons h1 h2 ih =>
    intro p hp q hq e
    rcases List.mem_cons.mp hp with e1 | hp' <;> rcases List.mem_cons.mp hq with e2 | hq'
    · rw [e1, e2]
    · subst e1; exact absurd e (h1 q hq')
    · subst e2; exact absurd e.symm (h1 p hp')
    · exact ih p hp' q hq' e

section
variable {W : Wd} {T : Tx W} {c : Cx} {K : Kc} {hd : Bool}

noncomputable def ownC (L : Addr) (cs : List (Str × Addr)) : List Addr := L :: cs.filterMap fun p => if cs.lookup p.1 = some p.2 then some p.2 else none
theorem mem_ownC {L b : Addr} {cs : List (Str × Addr)} (h : b ∈ ownC L cs) : b = L ∨ ∃ x, (x, b) ∈ cs ∧ cs.lookup x = some b := by
  unfold ownC at h
  rcases List.mem_cons.mp h with h | h
  · exact .inl h
  · obtain ⟨p, hp, e⟩ := List.mem_filterMap.mp h
    split at e
    · rename_i q; cases e; exact .inr ⟨p.1, hp, q⟩
    · cases e
noncomputable def Cx.fn (c : Cx) (K : Kc) (env : Env) (m : Str → Option Value) : Cx :=
  { A := c.A.deeper env, env := env, fenvs := env :: c.fenvs, names := K.names, vis := K.vis, own := ownC env.locals env.cells, outer := (c.env.locals, m) :: c.outer }

theorem fn_ok {env : Env} {m : Str → Option Value} (C : CxOk T c K false) {K' : Kc} (h1 : env.scope = K'.sc) (h2 : K'.sc.kind = .function) (hg : K'.gint = T.gint) (hf : K'.fns = T.fns) (hc : K'.cls = T.cls) (hin : K'.inC = false) (hgl : env.globals = T.G) (hbi : env.builtins = T.B) (hfr : env.frame = some env.locals) (hu : c.A.units + 23 < cLine)
    (hinj : ∀ (i j : Nat) (x y : String), K'.names[i]? = some x → K'.names[j]? = some y → Str.ofString x = Str.ofString y → i = j) (hck : ∀ x, env.kindOf x = some .cell → ∃ a, env.cells.lookup x = some a) (hpw : env.cells.Pairwise fun x y => x.2 ≠ y.2) (hab : ∀ x a, env.cells.lookup x = some a → a ≠ env.locals ∧ a ∉ c.frs) :
    FxOk T (c.fn K' env m) K' false where
  sc := h1
  kind := h2
  names := rfl
  vis := rfl
  gint := hg
  fns := hf
  cls := hc
  glob := hgl
  bi := hbi
  hand := fun _ => C.hand rfl
  units := by show c.A.units + 3 + 20 < cLine; omega
  frames := by show c.A.frames.map (env :: ·) = some (env :: c.fenvs); rw [C.frames]; rfl
  inj := hinj
  cellOwn := fun x a e _ => by
    show a ∈ ownC env.locals env.cells
    unfold ownC
    refine .tail _ (List.mem_filterMap.mpr ⟨(x, a), mem_of_lookup e, by simp [show env.cells.lookup x = some a from e]⟩)
  cellFr := fun x a e q => by
    have := hab x a e
    simp only [Cx.frs, Cx.fn, List.filterMap_cons, hfr, List.mem_cons] at q
    rcases q with q | q
    · exact this.1 q
    · exact this.2 q
  cellKind := hck
  cellInj := fun x y a ex ey => by
    have := pw_inj hpw (x, a) (mem_of_lookup ex) (y, a) (mem_of_lookup ey) rfl
    cases this; rfl
  head := ⟨c.fenvs, rfl⟩
  fr := ⟨_, hfr⟩
  inF := hin

theorem Sim.intoF {P : Addr → Obj → Prop} {ρ ρ₀ : Loc} {H : Hp} {s s' : Shared} {K' : Kc} {env : Env} {m m' cm : Str → Option Value} (S : Sim W c P ρ H s) (hkd : env.scope.kind ≠ .module) (hfr : env.frame = some env.locals) (hL : env.locals = s.heap.objs.size) (x : InCallC s env.locals m' env.cells cm s') (hm : s.heap.Ns c.env.locals m)
    (hv : KeepR s.heap s'.heap → ∀ i x v, K'.vis i = true → K'.names[i]? = some x → ρ₀[i]? = some (some v) → HasVar W env s'.heap m' (Str.ofString x) v) :
    Sim W (c.fn K' env m) (PC c H s.heap []) ρ₀ H s' := by
  have hk := x.toInCall.keep
  have kr : KeepR s.heap s'.heap := .of_keeps hk
  have nL : s.heap.get? env.locals = none := by rw [hL]; exact size_none _
  obtain ⟨f1, f2, f3, f4⟩ := S.fresh nL
  have ncell : ∀ y b, (y, b) ∈ env.cells → s.heap.get? b = none := fun y b e => Heap.get?_none_of_le (by have := x.above y b e; rw [hL] at this; exact Nat.le_of_lt this)
  have own_none : ∀ b, b ∈ ownC env.locals env.cells → s.heap.get? b = none := fun b hb => by
    rcases mem_ownC hb with rfl | ⟨y, e, _⟩
    · exact nL
    · exact ncell y b e
  obtain ⟨oL, esL, epL, eL, dL, rL⟩ := id x.toInCall.ns
  refine ⟨?_, fun b o e => hk b o (S.base b o e), ⟨hkd, ⟨env.locals, oL, hfr, f1, eL, by rw [dL]; exact nofun⟩, funFrames_at S.frames fun b hb o e d => ⟨o, hk b o e, d⟩⟩, fun p hp => ?_, ⟨m', x.toInCall.ns, hv kr⟩, by simp [Cx.fn, ownC], fun b hb => (S.fresh (own_none b hb)).1, fun b hb p hp q => ?_,
    fun a o e => (S.heap a o e).at kr fun ob z => hk a ob z, S.new, fun a o e => ?_, fun b o p => hk b o p.1, fun b o p => p.2.1, fun b o p => ⟨fun q => ?_, fun q => ?_⟩, fun y a e => ⟨_, x.cell y a e⟩, fun b hb => ?_⟩
  · obtain ⟨h, tk, e⟩ := x.toInCall.same
    obtain ⟨hp, tk', e'⟩ := S.rest
    exact ⟨h, tk, by rw [e, e']⟩
  · rcases List.mem_cons.mp hp with rfl | hp
    · exact hm.at' fun o e => hk _ o e
    · exact (S.outer p hp).at' fun o e => hk _ o e
  · have nb := own_none b hb
    rcases List.mem_cons.mp hp with rfl | hp
    · obtain ⟨o, _, _, e, _⟩ := hm
      rw [← q] at nb; dsimp only at nb; rw [e] at nb; cases nb
    · obtain ⟨o, _, _, e, _⟩ := S.outer p hp
      rw [← q, e] at nb; cases nb
  · have := S.apart a o e
    obtain ⟨ob, ea, _⟩ := (S.heap a o e).obj
    simp only [Cx.all, Cx.fn, Cx.frs, List.mem_append, List.map_cons, List.mem_cons, List.filterMap_cons, hfr, not_or] at this ⊢
    refine ⟨⟨fun q => ?_, fun q => ?_, this.1.2⟩, fun q => this.1.1 (q ▸ S.locOwn), this.2⟩
    · rw [own_none a q] at ea; cases ea
    · rw [q, nL] at ea; cases ea
  · have := p.1; rw [own_none b q] at this; cases this
  · simp only [Cx.frs, Cx.fn, List.filterMap_cons, hfr, List.mem_cons] at q
    rcases q with q | q
    · have := p.1; rw [q, nL] at this; cases this
    · exact p.2.2.1 q
  · rcases hb with hb | hb
    · rcases mem_ownC hb with rfl | ⟨y, e, l⟩
      · exact ⟨oL, eL, .inl ⟨_, _, dL⟩⟩
      · obtain ⟨o, e1, e2⟩ := x.cell y b l
        exact ⟨o, e1, .inr ⟨_, e2⟩⟩
    · simp only [Cx.frs, Cx.fn, List.filterMap_cons, hfr, List.mem_cons] at hb
      rcases hb with rfl | hb
      · exact ⟨oL, eL, .inl ⟨_, _, dL⟩⟩
      · obtain ⟨o, e, q⟩ := S.ownD b (.inr hb)
        exact ⟨o, hk _ _ e, q⟩
end
end Mine.Internal
end

section
namespace Mine.Internal
open PySem PySem.W PySem.Calls PyProof.Rows PySem.SeqAt
section
variable {W : Wd} {T : Tx W} {c : Cx} {K : Kc} {hd : Bool}

theorem Sim.outF {P : Addr → Obj → Prop} {ρ ρc : Loc} {H H' : Hp} {s s' : Shared} {K' : Kc} {env : Env} {m : Str → Option Value} (O : CxOk T c K hd) (S : Sim W c P ρ H s) (hm : s.heap.Ns c.env.locals m) (hfr : env.frame = some env.locals)
    (hv : ∀ i x v, c.vis i = true → c.names[i]? = some x → ρ[i]? = some (some v) → HasVar W c.env s.heap m (Str.ofString x) v)
    (S' : Sim W (c.fn K' env m) (PC c H s.heap []) ρc H' s') : Sim W c P ρ H' s' ∧ KeepR s.heap s'.heap := by
  have kp : ∀ b o, s.heap.get? b = some o → H b = none → b ∉ c.frs → s'.heap.get? b = some o := fun b o e q1 q2 => S'.prot b o ⟨e, q1, q2, by simp⟩
  have hfrs : ∀ b, b ∈ c.frs → b ∈ (c.fn K' env m).frs := fun b hb => by simp only [Cx.frs, Cx.fn, List.filterMap_cons, hfr, List.mem_cons]; exact .inr hb
  have nfr : ∀ b o, s.heap.get? b = some o → (∀ es n, o.data ≠ .dict es n) → (∀ v, o.data ≠ .cell v) → b ∉ c.frs := fun b o e d1 d2 mm => by
    obtain ⟨o', e', q⟩ := S.ownD b (.inr mm)
    rw [e] at e'; cases e'
    rcases q with ⟨_, _, q⟩ | ⟨_, q⟩
    · exact d1 _ _ q
    · exact d2 _ q
  have nH : ∀ b o, s.heap.get? b = some o → o.cls ≠ .type "list" → o.cls ≠ .type "dict" → H b = none := fun b o e h1 h2 => by
    cases q : H b with
    | none => rfl
    | some x =>
      obtain ⟨ob, e', k, _⟩ := (S.heap b x q).obj
      rw [e] at e'; cases e'
      rcases k with k | k
      · exact absurd k h1
      · exact absurd k h2
  have nHc : ∀ b o v, s.heap.get? b = some o → o.data = .cell v → H b = none := fun b o v e d => by
    cases q : H b with
    | none => rfl
    | some x =>
      obtain ⟨ob, e', _, k⟩ := (S.heap b x q).obj
      rw [e] at e'; cases e'
      exact absurd d (k v)
  have kr : KeepR s.heap s'.heap := ⟨fun b o i n e k d => kp b o e (nH b o e (by rw [k]; decide) (by rw [k]; decide)) (nfr b o e (by rw [d]; exact nofun) (by rw [d]; exact nofun)), fun b o D ws e k d => ⟨o, ws, kp b o e (nH b o e (by rw [k]; exact nofun) (by rw [k]; exact nofun)) (nfr b o e (by rw [d]; exact nofun) (by rw [d]; exact nofun)), k, d⟩⟩
  have own : ∀ b, b ∈ c.own → b ∉ c.frs → ∃ o, s.heap.get? b = some o ∧ s'.heap.get? b = some o ∧ H' b = none := fun b hb hf => by
    obtain ⟨o, e, q⟩ := S.ownD b (.inl hb)
    have hH : H b = none := by
      cases z : H b with
      | none => rfl
      | some x => exact absurd (Cx.mem_all_own hb) (S.apart b x z)
    exact ⟨o, e, kp b o e hH hf, S'.protH b o ⟨e, hH, hf, by simp⟩⟩
  have fr : ∀ b, b ∈ c.frs → ∃ o, s'.heap.get? b = some o ∧ ((∃ es n, o.data = .dict es n) ∨ (∃ v, o.data = .cell v)) := fun b hb => S'.ownD b (.inr (hfrs b hb))
  refine ⟨⟨S'.rest, S'.base, S'.frames.2.2, fun p hp => S'.outer p (.tail _ hp), ⟨m, S'.outer (c.env.locals, m) (.head _), fun i x v h1 h2 h3 => (hv i x v h1 h2 h3).mono kr fun cl' o u e1 ho hq => ⟨o, kp cl' o ho (nHc _ _ _ ho hq) (O.cellFr _ _ e1), rfl⟩⟩, S.locOwn, S.ownNew, S.ownOut,
    S'.heap, S'.new, fun a o e => ?_, fun b o p => kp b o (S.prot b o p) (S.protH b o p) (S.protF b o p).2, fun b o p => S'.protH b o ⟨S.prot b o p, S.protH b o p, (S.protF b o p).2, by simp⟩, S.protF, fun x a e => ?_, fun b hb => ?_⟩, kr⟩
  · have := S'.apart a o e
    simp only [Cx.all, Cx.fn, Cx.frs, List.mem_append, List.map_cons, List.mem_cons, List.filterMap_cons, hfr, not_or] at this ⊢
    refine ⟨⟨fun q => ?_, this.1.2.2⟩, this.2.2⟩
    by_cases hf : a ∈ c.frs
    · exact this.1.2.2 hf
    · obtain ⟨_, _, _, z⟩ := own a q hf
      rw [e] at z; cases z
  · obtain ⟨u, o, e1, e2⟩ := S.cells x a e
    exact ⟨u, o, kp a o e1 (nHc _ _ _ e1 e2) (O.cellFr _ _ e), e2⟩
  · rcases hb with hb | hb
    · by_cases hf : b ∈ c.frs
      · exact fr b hf
      · obtain ⟨o, e, q2, _⟩ := own b hb hf
        obtain ⟨o', e', q⟩ := S.ownD b (.inl hb)
        rw [e] at e'; cases e'
        exact ⟨o, q2, q⟩
    · exact fr b hb

theorem binds_at {d : Fn} {us : List Value} {i : Nat} {x : String} {u : Value} (h1 : i < d.params) (hx : d.slots[i]? = some x) (hu : us[i]? = some u) : (Str.ofString x, u) ∈ bindsOf d us := by
  unfold bindsOf
  refine List.mem_of_getElem? (i := i) ?_
  rw [List.getElem?_zip_eq_some]
  refine ⟨?_, hu⟩
  rw [List.getElem?_map, List.getElem?_take_of_lt h1, hx]; rfl
theorem binds_nodup {d : Fn} {us : List Value} (h1 : d.slots.Nodup) (h2 : ∀ x y : String, x ∈ d.slots → y ∈ d.slots → Str.ofString x = Str.ofString y → x = y) : ((bindsOf d us).map (·.1)).Nodup := by
  unfold bindsOf
  have : ((((d.slots.take d.params).map Str.ofString).zip us).map (·.1)).Sublist ((d.slots.take d.params).map Str.ofString) := by
    generalize (d.slots.take d.params).map Str.ofString = l
    induction l generalizing us with
    | nil => simp
    | cons a r ih =>
      cases us with
      | nil => simp
      | cons u us => simpa using ih
  refine List.Nodup.sublist this ?_
  have hs : (d.slots.take d.params).Sublist d.slots := List.take_sublist _ _
  rw [List.nodup_iff_pairwise_ne, List.pairwise_map]
  have hn := (h1.sublist hs)
  rw [List.nodup_iff_pairwise_ne] at hn
  exact hn.imp_of_mem fun ha hb hne e => hne (h2 _ _ (hs.subset ha) (hs.subset hb) e)

theorem gok {defs : String → Option Fn} {anc : String → List String} (hanc : anc = T.anc) (hlim : W.base.NoLimit) (D : ∀ f d, defs f = some d → ∃ a o fd body, T.mg (Str.ofString f) = some (.ref a) ∧ FnOk T d a o fd body) :
    ∀ (n : Nat) (A : Around), A.depth + n < 1000 → A.units + 3 * n + 25 < cLine → GOk T ⟨callN defs anc n, anc⟩ A
  | 0, A, _, _ => fun c K hA C f vs us P ρ H s Q X a S r e w => w.elim
  | n + 1, A, hdep, hun => fun c K hA C f vs us P ρ H s Q X a S r eg w => by
    subst hA
    have w : (match defs f with
      | none => False
      | some d => vs.length = d.params ∧ wpSs ⟨callN defs anc n, anc⟩ false d.body ((vs.map some) ++ List.replicate (d.slots.length - d.params) none) (fun _ H₁ => Q .none H₁) Q (fun c _ H₁ => X c H₁) H) := w
    cases hf : defs f with
    | none => rw [hf] at w; exact w.elim
    | some d =>
      rw [hf] at w
      obtain ⟨hlen, w⟩ := w
      obtain ⟨a', o, fd, body, eg', FO⟩ := D f d hf
      rw [eg] at eg'; cases eg'
      obtain ⟨m, hm, hv⟩ := S.loc
      have hul : us.length = d.params := by rw [← r.length]; exact hlen
      have kb : ∀ b o, W.base.get? b = some o → s.heap.get? b = some o := fun b o e => S.base b o e
      have hcode : s.heap.CodeRec fd.code fd.qualname := by
        obtain ⟨cc, oc, cvs, tq, h1, h2, h3, h4⟩ := FO.code
        exact ⟨cc, oc, cvs, tq, h1, kb _ _ h2, h3, h4⟩
      refine wpAny_call (codeAny_call_function (by unfold recursionLimit; omega) (kb _ _ FO.at_) FO.data FO.co FO.gen FO.bodyE hcode (FO.binds us s hul S.frag _ _ _ _ ?_))
      rw [FO.clos]
      have hnd := binds_nodup (us := us) FO.slots FO.str
      refine wpAny_newFunctionEnv_cells FO.kind (fun y hy => ?_) fun env he s' x => ?_
      · obtain ⟨z, hz, ez⟩ : ∃ z ∈ d.slots.take d.params, Str.ofString z = y.1 := by
          have : y.1 ∈ (d.slots.take d.params).map Str.ofString := (List.of_mem_zip hy).1
          obtain ⟨z, hz, e⟩ := List.mem_map.mp this
          exact ⟨z, hz, e⟩
        rw [← ez]
        rcases FO.parK z hz with h | h
        · exact .inl h
        · exact .inr ⟨h, cellsFrom_some _ _ _ (.inl (lookup_mem h))⟩
      have hloc : env.locals = s.heap.objs.size := by rw [he]; rfl
      have hcel : env.cells = cellsFrom (s.heap.objs.size + 1) fd.scope.names [] := by rw [he]; rfl
      have hsc : env.scope = fd.scope := by rw [he]; rfl
      have hfr : env.frame = some env.locals := by rw [he]; rfl
      have hfr' : ∀ b ∈ c.frs, b < s.heap.objs.size := fun b hb => by obtain ⟨o', e', _⟩ := S.ownD b (.inr hb); exact Heap.lt_size e'
      refine ⟨(hlim.keeps kb).keeps x.toInCall.keep, codeAny_func ?_⟩
      have FX : FxOk T (c.fn (fnK T.gint T.fns T.cls fd.scope d) env m) (fnK T.gint T.fns T.cls fd.scope d) false := by
        refine fn_ok C (K' := fnK T.gint T.fns T.cls fd.scope d) hsc FO.kind rfl rfl rfl rfl (by rw [he]; exact FO.glob) (by rw [he]; exact FO.bi) hfr (by omega) ?_ ?_ x.apart ?_
        · intro i j y z hi hj e
          have hy : y ∈ d.slots := List.mem_of_getElem? hi
          have hz : z ∈ d.slots := List.mem_of_getElem? hj
          have := FO.str y z hy hz e
          subst this
          have hi' : d.slots[i]? = some y := hi
          have hj' : d.slots[j]? = some y := hj
          have hil : i < d.slots.length := by
            rcases Nat.lt_or_ge i d.slots.length with q | q
            · exact q
            · rw [List.getElem?_eq_none q] at hi'; cases hi'
          exact (List.getElem?_inj hil FO.slots).mp (hi'.trans hj'.symm)
        · intro y e
          have e : fd.scope.names.lookup y = some .cell := by unfold Env.kindOf at e; rw [hsc] at e; exact e
          rw [hcel]
          exact Option.isSome_iff_exists.mp (cellsFrom_some _ _ _ (.inl (lookup_mem e)))
        · intro y b e
          have h1 := x.above y b (mem_of_lookup e)
          refine ⟨Nat.ne_of_gt h1, fun q => ?_⟩
          have h2 := hfr' b q
          rw [hloc] at h1
          exact absurd (Nat.lt_trans h1 h2) (Nat.lt_irrefl _)
      have S' : Sim W (c.fn (fnK T.gint T.fns T.cls fd.scope d) env m) (PC c H s.heap []) ((vs.map some) ++ List.replicate (d.slots.length - d.params) none) H s' := by
        refine S.intoF (by rw [hsc, FO.kind]; decide) hfr hloc x hm fun kr i y v hi1 hi2 hi3 => ?_
        have hi : i < d.params ∧ vs[i]? = some v := by
          by_cases q : i < vs.length
          · rw [List.getElem?_append_left (by simpa using q), List.getElem?_map] at hi3
            cases z : vs[i]? with
            | none => rw [z] at hi3; cases hi3
            | some v' => rw [z] at hi3; cases hi3; exact ⟨by omega, rfl⟩
          · rw [List.getElem?_append_right (by simpa using q), List.getElem?_replicate] at hi3
            split at hi3 <;> simp at hi3
        obtain ⟨u, eu, ru⟩ := r.get hi.2
        have mem := binds_at (us := us) hi.1 hi2 eu
        have hz : y ∈ d.slots.take d.params := List.mem_of_getElem? (i := i) (by rw [List.getElem?_take_of_lt hi.1]; exact hi2)
        have kof : env.kindOf (Str.ofString y) = fd.scope.names.lookup (Str.ofString y) := by unfold Env.kindOf; rw [hsc]
        rcases FO.parK y hz with h | h
        · exact .inl ⟨by rw [kof]; exact h, u, bindL_mem hnd (by rw [kof]; exact h) (.inl mem), ru.mono kr⟩
        · obtain ⟨cl, ecl⟩ := Option.isSome_iff_exists.mp (cellsFrom_some fd.scope.names (s.heap.objs.size + 1) [] (.inl (lookup_mem h)))
          have ecl' : env.cells.lookup (Str.ofString y) = some cl := by rw [hcel]; exact ecl
          obtain ⟨o', e1, e2⟩ := x.cell _ _ ecl'
          rw [bindC_mem hnd (by rw [kof, h]; simp) (.inl mem)] at e2
          exact .inr ⟨by rw [kof]; exact h, cl, o', u, ecl', e1, e2, ru.mono kr⟩
      have O' : GOk T ⟨callN defs anc n, anc⟩ (c.A.deeper env) := gok hanc hlim D n _ (by show c.A.depth + 1 + n < 1000; omega) (by show c.A.units + 3 + 3 * n + 25 < cLine; omega)
      have run := sound_MSs (G := ⟨callN defs anc n, anc⟩) hanc FO.text (c.fn (fnK T.gint T.fns T.cls fd.scope d) env m) FX (fun _ => O') _ _ _ s' _ Q _ S' w
      refine wpAny_mono run (fun fl s₂ h₂ => ?_) fun e s₂ h₂ => ?_
      · cases fl with
        | next =>
          obtain ⟨ρ', H', S₂, q⟩ := h₂
          exact ⟨.none, H', (S.outF C hm hfr hv S₂).1, .none, q⟩
        | ret u =>
          obtain ⟨v, ρ', H', S₂, rv, q⟩ := h₂
          exact ⟨v, H', (S.outF C hm hfr hv S₂).1, rv, q⟩
        | _ => exact h₂.elim
      · obtain ⟨k, ρ', H', S₂, F, q⟩ := h₂
        unfold leaving
        have F : Fly W (PC c H s.heap []) (some env.locals) s₂.heap e k := by rw [← hfr]; exact F
        have hfrm : (c.A.deeper env).frames = some (env :: c.fenvs) := FX.frames
        refine wpAny_bind (note_frame S₂ hfrm rfl hfr F fun h' S₃ F₃ => ?_)
        refine setFlight_to (s := { s₂ with heap := h' }) (f := none) S₃ F₃ fun h'' S₄ F₄ => ?_
        have S₅ := (S.outF C hm hfr hv S₄).1
        exact ⟨k, H', S₅, (FlyAt.fly F₄).weaken fun b o p => ⟨S.prot b o p, S.protH b o p, (S.protF b o p).2, by simp⟩, q⟩
end
end Mine.Internal
end

section
namespace Mine.Internal
open PySem PySem.W PySem.Calls PyProof.Rows PySem.SeqAt
section
variable {W : Wd} {T : Tx W}

noncomputable def Cx.top (A : Around) (K : Kc) (env : Env) : Cx := { A := A.deeper env, env := env, fenvs := [env], names := K.names, vis := K.vis, own := ownC env.locals env.cells, outer := [] }

theorem top_ok {A : Around} {K' : Kc} {env : Env} (hh : A.handled = none) (hA : A.frames = some []) (h1 : env.scope = K'.sc) (h2 : K'.sc.kind = .function) (hg : K'.gint = T.gint) (hf : K'.fns = T.fns) (hc : K'.cls = T.cls) (hin : K'.inC = false) (hgl : env.globals = T.G) (hbi : env.builtins = T.B) (hfr : env.frame = some env.locals) (hu : A.units + 23 < cLine)
    (hinj : ∀ (i j : Nat) (x y : String), K'.names[i]? = some x → K'.names[j]? = some y → Str.ofString x = Str.ofString y → i = j) (hck : ∀ x, env.kindOf x = some .cell → ∃ a, env.cells.lookup x = some a) (hpw : env.cells.Pairwise fun x y => x.2 ≠ y.2) (hab : ∀ x a, env.cells.lookup x = some a → a ≠ env.locals) :
    FxOk T (Cx.top A K' env) K' false where
  sc := h1
  kind := h2
  names := rfl
  vis := rfl
  gint := hg
  fns := hf
  cls := hc
  glob := hgl
  bi := hbi
  hand := fun _ => hh
  units := by show A.units + 3 + 20 < cLine; omega
  frames := by show A.frames.map (env :: ·) = some [env]; rw [hA]; rfl
  inj := hinj
  cellOwn := fun x a e _ => by
    show a ∈ ownC env.locals env.cells
    unfold ownC
    refine .tail _ (List.mem_filterMap.mpr ⟨(x, a), mem_of_lookup e, by simp [show env.cells.lookup x = some a from e]⟩)
  cellFr := fun x a e q => by
    have := hab x a e
    simp only [Cx.frs, Cx.top, List.filterMap_cons, hfr, List.filterMap_nil, List.mem_cons, List.not_mem_nil, or_false] at q
    exact this q
  cellKind := hck
  cellInj := fun x y a ex ey => by
    have := pw_inj hpw (x, a) (mem_of_lookup ex) (y, a) (mem_of_lookup ey) rfl
    cases this; rfl
  head := ⟨[], rfl⟩
  fr := ⟨_, hfr⟩
  inF := hin

theorem Sim.intoTop {A : Around} {ρ₀ : Loc} {s s' : Shared} {K' : Kc} {env : Env} {m' cm : Str → Option Value} (hs : s = W.s₀) (hb : s.heap = W.base) (hkd : env.scope.kind ≠ .module) (hfr : env.frame = some env.locals) (hL : env.locals = s.heap.objs.size) (x : InCallC s env.locals m' env.cells cm s')
    (hv : KeepR s.heap s'.heap → ∀ i x v, K'.vis i = true → K'.names[i]? = some x → ρ₀[i]? = some (some v) → HasVar W env s'.heap m' (Str.ofString x) v) :
    Sim W (Cx.top A K' env) (fun _ _ => False) ρ₀ (fun _ => none) s' := by
  have hk := x.toInCall.keep
  have kr : KeepR s.heap s'.heap := .of_keeps hk
  have nL : s.heap.get? env.locals = none := by rw [hL]; exact size_none _
  have ncell : ∀ y b, (y, b) ∈ env.cells → s.heap.get? b = none := fun y b e => Heap.get?_none_of_le (by have := x.above y b e; rw [hL] at this; exact Nat.le_of_lt this)
  have own_none : ∀ b, b ∈ ownC env.locals env.cells → s.heap.get? b = none := fun b hb => by
    rcases mem_ownC hb with rfl | ⟨y, e, _⟩
    · exact nL
    · exact ncell y b e
  obtain ⟨oL, esL, epL, eL, dL, rL⟩ := id x.toInCall.ns
  refine ⟨?_, fun b o e => hk b o (by rw [hb]; exact e), ⟨hkd, ⟨env.locals, oL, hfr, by rw [← hb]; exact nL, eL, by rw [dL]; exact nofun⟩, trivial⟩, (fun p hp => by cases hp), ⟨m', x.toInCall.ns, hv kr⟩, by simp [Cx.top, ownC], fun b hb' => by rw [← hb]; exact own_none b hb', (fun b hb p hp => by cases hp),
    (fun a o e => by cases e), (fun a o e => by cases e), (fun a o e => by cases e), (fun b o p => p.elim), (fun b o p => p.elim), (fun b o p => p.elim), fun y a e => ⟨_, x.cell y a e⟩, fun b hb => ?_⟩
  · obtain ⟨h, tk, e⟩ := x.toInCall.same
    exact ⟨h, tk, by rw [e, hs]⟩
  · rcases hb with hb | hb
    · rcases mem_ownC hb with rfl | ⟨y, e, l⟩
      · exact ⟨oL, eL, .inl ⟨_, _, dL⟩⟩
      · obtain ⟨o, e1, e2⟩ := x.cell y b l
        exact ⟨o, e1, .inr ⟨_, e2⟩⟩
    · simp only [Cx.frs, Cx.top, List.filterMap_cons, hfr, List.filterMap_nil, List.mem_cons, List.not_mem_nil, or_false] at hb
      subst hb
      exact ⟨oL, eL, .inl ⟨_, _, dL⟩⟩

theorem top_call {defs : String → Option Fn} {anc : String → List String} (hanc : anc = T.anc) (hlim : W.base.NoLimit) (D : ∀ f d, defs f = some d → ∃ a o fd body, T.mg (Str.ofString f) = some (.ref a) ∧ FnOk T d a o fd body)
    {n : Nat} {A : Around} (hh : A.handled = none) (hA : A.frames = some []) (hdep : A.depth + (n + 1) < 1000) (hun : A.units + 3 * (n + 1) + 25 < cLine) {f : String} {a : Addr} {vs : List V} {us : List Value} {s : Shared} {Q : V → Prop} {RR : Result → Shared → Prop} (hs : s = W.s₀) (hb : s.heap = W.base)
    (eg : T.mg (Str.ofString f) = some (.ref a)) (r : Reps W s.heap vs us) (w : callN defs anc (n + 1) f vs (fun v _ => Q v) (fun _ _ => False) (fun _ => none))
    (hR : ∀ v u h tk, Q v → Rep W h v u → W.base.StaysIn h → RR (.ok (.ret u)) { W.s₀ with heap := h, toks := tk }) :
    codeAny (model W.prog W.w) A (.call (.ref a) ⟨us, []⟩) RR s := by
  have w : (match defs f with
    | none => False
    | some d => vs.length = d.params ∧ wpSs ⟨callN defs anc n, anc⟩ false d.body ((vs.map some) ++ List.replicate (d.slots.length - d.params) none) (fun _ H₁ => Q .none) (fun v _ => Q v) (fun c _ H₁ => False) (fun _ => none)) := w
  cases hf : defs f with
  | none => rw [hf] at w; exact w.elim
  | some d =>
    rw [hf] at w
    obtain ⟨hlen, w⟩ := w
    obtain ⟨a', o, fd, body, eg', FO⟩ := D f d hf
    rw [eg] at eg'; cases eg'
    have hul : us.length = d.params := by rw [← r.length]; exact hlen
    have kb : ∀ b o, W.base.get? b = some o → s.heap.get? b = some o := fun b o e => by rw [hb]; exact e
    have hcode : s.heap.CodeRec fd.code fd.qualname := by rw [hb]; exact FO.code
    refine codeAny_call_function (by unfold recursionLimit; omega) (kb _ _ FO.at_) FO.data FO.co FO.gen FO.bodyE hcode (FO.binds us s hul (fun b o e => kb b o (T.hfrag b o e)) _ _ _ _ ?_)
    rw [FO.clos]
    have hnd := binds_nodup (us := us) FO.slots FO.str
    refine wpAny_newFunctionEnv_cells FO.kind (fun y hy => ?_) fun env he s' x => ?_
    · obtain ⟨z, hz, ez⟩ : ∃ z ∈ d.slots.take d.params, Str.ofString z = y.1 := by
        have : y.1 ∈ (d.slots.take d.params).map Str.ofString := (List.of_mem_zip hy).1
        obtain ⟨z, hz, e⟩ := List.mem_map.mp this
        exact ⟨z, hz, e⟩
      rw [← ez]
      rcases FO.parK z hz with h | h
      · exact .inl h
      · exact .inr ⟨h, cellsFrom_some _ _ _ (.inl (lookup_mem h))⟩
    have hloc : env.locals = s.heap.objs.size := by rw [he]; rfl
    have hcel : env.cells = cellsFrom (s.heap.objs.size + 1) fd.scope.names [] := by rw [he]; rfl
    have hsc : env.scope = fd.scope := by rw [he]; rfl
    have hfr : env.frame = some env.locals := by rw [he]; rfl
    refine ⟨(hlim.keeps kb).keeps x.toInCall.keep, codeAny_func ?_⟩
    have FX : FxOk T (Cx.top A (fnK T.gint T.fns T.cls fd.scope d) env) (fnK T.gint T.fns T.cls fd.scope d) false := by
      refine top_ok (K' := fnK T.gint T.fns T.cls fd.scope d) hh hA hsc FO.kind rfl rfl rfl rfl (by rw [he]; exact FO.glob) (by rw [he]; exact FO.bi) hfr (by omega) ?_ ?_ x.apart ?_
      · intro i j y z hi hj e
        have hy : y ∈ d.slots := List.mem_of_getElem? hi
        have hz : z ∈ d.slots := List.mem_of_getElem? hj
        have := FO.str y z hy hz e
        subst this
        have hi' : d.slots[i]? = some y := hi
        have hj' : d.slots[j]? = some y := hj
        have hil : i < d.slots.length := by
          rcases Nat.lt_or_ge i d.slots.length with q | q
          · exact q
          · rw [List.getElem?_eq_none q] at hi'; cases hi'
        exact (List.getElem?_inj hil FO.slots).mp (hi'.trans hj'.symm)
      · intro y e
        have e : fd.scope.names.lookup y = some .cell := by unfold Env.kindOf at e; rw [hsc] at e; exact e
        rw [hcel]
        exact Option.isSome_iff_exists.mp (cellsFrom_some _ _ _ (.inl (lookup_mem e)))
      · intro y b e
        exact Nat.ne_of_gt (x.above y b (mem_of_lookup e))
    have S' : Sim W (Cx.top A (fnK T.gint T.fns T.cls fd.scope d) env) (fun _ _ => False) ((vs.map some) ++ List.replicate (d.slots.length - d.params) none) (fun _ => none) s' := by
      refine Sim.intoTop hs hb (by rw [hsc, FO.kind]; decide) hfr hloc x fun kr i y v hi1 hi2 hi3 => ?_
      have hi : i < d.params ∧ vs[i]? = some v := by
        by_cases q : i < vs.length
        · rw [List.getElem?_append_left (by simpa using q), List.getElem?_map] at hi3
          cases z : vs[i]? with
          | none => rw [z] at hi3; cases hi3
          | some v' => rw [z] at hi3; cases hi3; exact ⟨by omega, rfl⟩
        · rw [List.getElem?_append_right (by simpa using q), List.getElem?_replicate] at hi3
          split at hi3 <;> simp at hi3
      obtain ⟨u, eu, ru⟩ := r.get hi.2
      have mem := binds_at (us := us) hi.1 hi2 eu
      have hz : y ∈ d.slots.take d.params := List.mem_of_getElem? (i := i) (by rw [List.getElem?_take_of_lt hi.1]; exact hi2)
      have kof : env.kindOf (Str.ofString y) = fd.scope.names.lookup (Str.ofString y) := by unfold Env.kindOf; rw [hsc]
      rcases FO.parK y hz with h | h
      · exact .inl ⟨by rw [kof]; exact h, u, bindL_mem hnd (by rw [kof]; exact h) (.inl mem), ru.mono kr⟩
      · obtain ⟨cl, ecl⟩ := Option.isSome_iff_exists.mp (cellsFrom_some fd.scope.names (s.heap.objs.size + 1) [] (.inl (lookup_mem h)))
        have ecl' : env.cells.lookup (Str.ofString y) = some cl := by rw [hcel]; exact ecl
        obtain ⟨o', e1, e2⟩ := x.cell _ _ ecl'
        rw [bindC_mem hnd (by rw [kof, h]; simp) (.inl mem)] at e2
        exact .inr ⟨by rw [kof]; exact h, cl, o', u, ecl', e1, e2, ru.mono kr⟩
    have O' : GOk T ⟨callN defs anc n, anc⟩ (A.deeper env) := gok hanc hlim D n _ (by show A.depth + 1 + n < 1000; omega) (by show A.units + 3 + 3 * n + 25 < cLine; omega)
    have run := sound_MSs (G := ⟨callN defs anc n, anc⟩) hanc FO.text (Cx.top A (fnK T.gint T.fns T.cls fd.scope d) env) FX (fun _ => O') _ _ _ s' _ (fun v _ => Q v) _ S' w
    refine wpAny_mono run (fun fl s₂ h₂ => ?_) fun e s₂ h₂ => (exs_false h₂).elim
    cases fl with
    | next =>
      obtain ⟨ρ', H', S₂, q⟩ := h₂
      obtain ⟨h, tk, e⟩ := S₂.rest
      subst e
      exact hR .none .none h tk q .none S₂.base
    | ret u =>
      obtain ⟨v, ρ', H', S₂, rv, q⟩ := h₂
      obtain ⟨h, tk, e⟩ := S₂.rest
      subst e
      exact hR v u h tk q rv S₂.base
    | _ => exact h₂.elim
end
end Mine.Internal
end

section
namespace Mine.Internal
open PySem PySem.W PySem.Calls PyProof.Rows PySem.SeqAt

noncomputable def gintOk (K : Frag) (y : String × Int) : Bool := match nsIn K mainGlobals (Str.ofString y.1) with
  | some (some (.int m _)) => m == y.2
  | _ => false
noncomputable def fnOk (K : Frag) (y : String × Addr) : Bool := (match nsIn K mainGlobals (Str.ofString y.1) with
  | some (some (.ref a)) => a == y.2
  | _ => false) && (match K.lookup y.2 with
  | some ⟨_, _, .func _, _⟩ => true
  | _ => false)
noncomputable def tailVE : List Value := [.type "ValueError", .type "Exception", .type "BaseException", .type "object"]
noncomputable def clOk (K : Frag) (y : String × Addr) : Bool := (match nsIn K mainGlobals (Str.ofString y.1) with
  | some (some (.ref a)) => a == y.2
  | _ => false) && excIn K y.2 tailVE "ValueError.__new__"
noncomputable def noneOk (K : Frag) (x : String) : Bool := match nsIn K mainGlobals (Str.ofString x) with
  | some none => true
  | _ => false
noncomputable def namesB : List String := ["len", "min", "max", "abs", "sum", "sorted", "list", "int", "bool", "tuple", "ValueError", "isinstance", "range", "enumerate", "zip"]
noncomputable def isSB (x : Option Bool) (b : Bool) : Bool := match x with | some c => c == b | none => false
theorem isSB_eq {x : Option Bool} {b : Bool} (h : isSB x b = true) : x = some b := by
  unfold isSB at h; split at h
  · rw [beq_iff_eq.mp h]
  · cases h
noncomputable def tyOk (K : Frag) : Bool := ["NoneType", "bool", "int", "str", "tuple", "list", "dict"].all fun t => ["int", "bool", "list", "tuple"].all fun n => isSB (kitOne K (.type t) (.type n)) (isiTy t n)
noncomputable def ownOk (K : Frag) (anc : String → List String) (cls : List (String × Addr)) (d : String × Addr) : Bool :=
  isSB (kitOne K (.ref d.2) (.type "ValueError")) true && cls.all fun c => isSB (kitOne K (.ref d.2) (.ref c.2)) ((anc d.1).contains c.1) && isSB (subIn K (.ref d.2) (.ref c.2)) ((anc d.1).contains c.1)

theorem mem_lk {α : Type} {l : List (String × α)} {x : String} {a : α} (h : l.lookup x = some a) : (x, a) ∈ l := by
  induction l with
  | nil => cases h
  | cons p r ih =>
    obtain ⟨k, v⟩ := p
    rw [List.lookup_cons] at h
    split at h
    · rename_i e; rw [beq_iff_eq.mp e]; cases h; exact .head _
    · exact .tail _ (ih h)
theorem of_names {K : Frag} {h : Heap} {mg : Str → Option Value} (X : K.In h) (G : h.Ns mainGlobals mg) {x : String} (ok : noneOk K x = true) : mg (Str.ofString x) = none := by
  unfold noneOk at ok
  split at ok
  · rename_i e; exact mg_none_of X G e
  · cases ok

theorem lk_ex {α : Type} {l : List (String × α)} {y : String × α} {f : String} (hy : y ∈ l) (e0 : y.1 = f) : ∃ C, l.lookup f = some C := by
  induction l with
  | nil => cases hy
  | cons z r ih =>
    obtain ⟨k, v⟩ := z
    rw [List.lookup_cons]
    by_cases q : (f == k) = true
    · rw [q]; exact ⟨_, rfl⟩
    · rw [Bool.not_eq_true] at q
      rw [q]
      rcases List.mem_cons.mp hy with rfl | hy'
      · dsimp only at e0; rw [e0] at q; simp at q
      · exact ih hy'
noncomputable def mkTx (W : Wd) {p : Program} {loose : List Str} {mean : ExcName → Option Value} {mg mb : Str → Option Value} (T : Top p loose mean mg mb W.base) (K : Frag) (X : K.In W.base) (gint : List (String × Int)) (fns : List (String × Addr)) (cls : List (String × Addr)) (anc : String → List String)
    (hW : W.cls = fun c => cls.lookup c) (c1 : gint.all (gintOk K) = true) (c2 : fns.all (fnOk K) = true) (c3 : cls.all (clOk K) = true) (c4 : namesB.all (noneOk K) = true) (c5 : tyOk K = true) (c6 : cls.all (ownOk K anc cls) = true) (c7 : ∀ d ∈ cls, ExcCls K d.2) : Tx W where
  G := mainGlobals
  B := builtinsNs
  mg := mg
  mb := mb
  hG := T.g
  hB := T.b
  mods := by obtain ⟨mc, ⟨o, es, ep, e, _⟩, _⟩ := T.nodigits; rw [e]; rfl
  gint := gint
  hgint := fun x n h => by
    have := List.all_eq_true.mp c1 _ (mem_lk h)
    unfold gintOk at this
    split at this
    · rename_i m t e
      rw [beq_iff_eq.mp this] at e
      exact ⟨t, mg_of X T.g e⟩
    · cases this
  fns := fns.map (·.1)
  hfns := fun f h => by
    have h : f ∈ fns.map (·.1) := List.contains_iff_mem.mp h
    obtain ⟨y, hy, rfl⟩ := List.mem_map.mp h
    have := List.all_eq_true.mp c2 y hy
    unfold fnOk at this
    rw [Bool.and_eq_true] at this
    obtain ⟨h1, h2⟩ := this
    split at h1
    · rename_i a e
      split at h2
      · rename_i fd _ e2
        rw [beq_iff_eq.mp h1] at e
        exact ⟨y.2, _, fd, mg_of X T.g e, X _ _ e2, rfl⟩
      · cases h2
    · cases h1
  cls := cls.map (·.1)
  frag := K
  hfrag := X
  anc := anc
  kty := fun t ht n hn => isSB_eq (List.all_eq_true.mp (List.all_eq_true.mp c5 t ht) n hn)
  kown := fun d D c C hd hc => by
    rw [hW] at hd hc
    have := List.all_eq_true.mp c6 _ (mem_lk hd)
    unfold ownOk at this
    rw [Bool.and_eq_true] at this
    have := List.all_eq_true.mp this.2 _ (mem_lk hc)
    rw [Bool.and_eq_true] at this
    exact isSB_eq this.1
  kval := fun d D hd => by
    rw [hW] at hd
    have := List.all_eq_true.mp c6 _ (mem_lk hd)
    unfold ownOk at this
    rw [Bool.and_eq_true] at this
    exact isSB_eq this.1
  kcl := fun d D hd => by rw [hW] at hd; exact c7 _ (mem_lk hd)
  ksub := fun d D c C hd hc => by
    rw [hW] at hd hc
    have := List.all_eq_true.mp c6 _ (mem_lk hd)
    unfold ownOk at this
    rw [Bool.and_eq_true] at this
    have := List.all_eq_true.mp this.2 _ (mem_lk hc)
    rw [Bool.and_eq_true] at this
    exact isSB_eq this.2
  own := fun f h => by
    have h : f ∈ cls.map (·.1) := List.contains_iff_mem.mp h
    obtain ⟨y, hy, e0⟩ := List.mem_map.mp h
    have : ∃ C, cls.lookup f = some C := lk_ex hy e0
    obtain ⟨C, hC⟩ := this
    refine ⟨C, by rw [hW]; exact hC, ?_⟩
    have := List.all_eq_true.mp c3 _ (mem_lk hC)
    unfold clOk at this
    rw [Bool.and_eq_true] at this
    obtain ⟨h1, h2⟩ := this
    split at h1
    · rename_i a e
      rw [beq_iff_eq.mp h1] at e
      exact own_of_in X (topRead_of T) e h2
    · cases h1
  cns := fun c n h => by
    have N : ∀ x ∈ namesB, mg (Str.ofString x) = none := fun x hx => of_names X T.g (List.all_eq_true.mp c4 x hx)
    cases c <;> simp only [cnName, Option.some.injEq, reduceCtorEq] at h <;> subst h <;> refine ⟨N _ (by decide), ?_⟩ <;> rw [T.builtins _ (by decide +kernel)] <;> decide +kernel
  bfs := fun f => by
    have N : ∀ x ∈ namesB, mg (Str.ofString x) = none := fun x hx => of_names X T.g (List.all_eq_true.mp c4 x hx)
    cases f <;> simp only [bfName, bfOf] <;> refine ⟨N _ (by decide), ?_⟩ <;> rw [T.builtins _ (by decide +kernel)] <;> decide +kernel
  isi := ⟨of_names X T.g (List.all_eq_true.mp c4 "isinstance" (by decide)), by rw [T.builtins _ (by decide +kernel)]; decide +kernel⟩
  rng := ⟨of_names X T.g (List.all_eq_true.mp c4 "range" (by decide)), by rw [T.builtins _ (by decide +kernel)]; decide +kernel⟩
  enm := ⟨of_names X T.g (List.all_eq_true.mp c4 "enumerate" (by decide)), by rw [T.builtins _ (by decide +kernel)]; decide +kernel⟩
  zip := ⟨of_names X T.g (List.all_eq_true.mp c4 "zip" (by decide)), by rw [T.builtins _ (by decide +kernel)]; decide +kernel⟩

noncomputable def codeIn (K : Frag) (cd : Value) (q : Str) : Bool := match cd with
  | .ref c => (match K.lookup c with
    | some ⟨_, _, .fields vs, _⟩ => (match (vs[1]? : Option Value) with
      | some (.str q' _) => q' == q
      | _ => false)
    | _ => false)
  | _ => false
theorem codeIn_rec {K : Frag} {h : Heap} {cd : Value} {q : Str} (X : K.In h) (e : codeIn K cd q = true) : h.CodeRec cd q := by
  unfold codeIn at e
  split at e
  · split at e
    · rename_i vs _ e2
      split at e
      · rename_i q' t e3
        rw [beq_iff_eq.mp e] at e3
        exact ⟨_, _, vs, t, rfl, X _ _ e2, rfl, e3⟩
      · cases e
    · cases e
  · cases e
noncomputable def fdOk (K : Frag) (d : Fn) (fd : FuncData) : Bool :=
  !fd.scope.isCoroutine && !fd.scope.isGenerator && codeIn K fd.code fd.qualname && fd.closure.isEmpty && fd.globals == mainGlobals && fd.builtins == builtinsNs && fd.scope.kind == .function &&
    decide d.slots.Nodup && d.slots.all (fun x => d.slots.all fun y => !(Str.ofString x == Str.ofString y) || x == y) && decide (d.params ≤ d.slots.length) &&
    (d.slots.take d.params).all (fun x => match fd.scope.names.lookup (Str.ofString x) with | some .local => true | some .cell => true | _ => false)
theorem mkFn {W : Wd} {T : Tx W} {d : Fn} {a : Addr} {o : Obj} {fd : FuncData} {body : List Stmt} (hG : T.G = mainGlobals) (hB : T.B = builtinsNs) (at_ : T.frag.lookup a = some o) (data : o.data = .func fd) (ok : fdOk T.frag d fd = true) (bodyE : fd.body = .stmts body)
    (binds : ∀ (us : List Value) (s : Shared), us.length = d.params → T.frag.In s.heap → BindsTo s fd ⟨us, []⟩ (bindsOf d us)) (text : MSs (fnK T.gint T.fns T.cls fd.scope d) d.body body) : FnOk T d a o fd body := by
  unfold fdOk at ok
  simp only [Bool.and_eq_true, Bool.not_eq_true', beq_iff_eq, decide_eq_true_eq, List.isEmpty_iff] at ok
  obtain ⟨⟨⟨⟨⟨⟨⟨⟨⟨⟨k1, k2⟩, k3⟩, k4⟩, k5⟩, k6⟩, k7⟩, k8⟩, k9⟩, k10⟩, k11⟩ := ok
  refine ⟨T.hfrag _ _ at_, data, k1, k2, bodyE, codeIn_rec T.hfrag k3, k4, k5.trans hG.symm, k6.trans hB.symm, k7, k8, fun x y hx hy e => ?_, k10, fun x hx => ?_, binds, text⟩
  · have := List.all_eq_true.mp (List.all_eq_true.mp k9 x hx) y hy
    rw [e] at this; simpa using this
  · have := List.all_eq_true.mp k11 x hx
    split at this
    · exact .inl (by assumption)
    · exact .inr (by assumption)
    · cases this
noncomputable def FnIn (K : Frag) (gint : List (String × Int)) (fns cls : List String) (d : Fn) (a : Addr) : Prop := ∃ o fd body, K.lookup a = some o ∧ o.data = .func fd ∧ fdOk K d fd = true ∧ fd.body = .stmts body ∧
  (∀ (us : List Value) (s : Shared), us.length = d.params → K.In s.heap → BindsTo s fd ⟨us, []⟩ (bindsOf d us)) ∧ MSs (fnK gint fns cls fd.scope d) d.body body
noncomputable def FnsIn (K : Frag) (gint : List (String × Int)) (fns cls : List String) : List (String × Fn) → List (String × Addr) → Prop
  | [], [] => True
  | (x, d) :: r, (y, a) :: q => x = y ∧ FnIn K gint fns cls d a ∧ FnsIn K gint fns cls r q
  | _, _ => False
theorem FnsIn.mem {K : Frag} {gint : List (String × Int)} {fns cls : List String} {f : String} {d : Fn} : ∀ {l : List (String × Fn)} {q : List (String × Addr)}, FnsIn K gint fns cls l q → (f, d) ∈ l → ∃ a, (f, a) ∈ q ∧ FnIn K gint fns cls d a
  | [], [], _, h => by cases h
  | (x, d') :: r, (y, a) :: q, ⟨e, hf, hr⟩, h => by
    rcases List.mem_cons.mp h with z | z
    · cases z; subst e; exact ⟨a, .head _, hf⟩
    · obtain ⟨b, hb, hf'⟩ := FnsIn.mem hr z
      exact ⟨b, .tail _ hb, hf'⟩
  | _ :: _, [], h, _ => h.elim
theorem swaps_of {x : Expr} {gens : List Comprehension} {scope sc : Scope} {p pp : Pos} {t : Str} {line : Nat} {env : Env} (h : env.scope = sc)
    (e : ((if sc.kind.isAnnotationScope then ScopeKind.function else sc.kind) == .function && sc.names.lookup t == some .local && pp.line == p.line && !(scope.names.any fun (n, k) => n == t && (k == .local || k == .cell))) = true) :
    swapsWith (.ListComp x gens scope p) (some (.Name t pp)) line env = pure true := by
  subst h
  show pure _ = pure _
  exact congrArg pure e
theorem len0 {us : List Value} (h : us.length = 0) : us = [] := List.eq_nil_of_length_eq_zero h
theorem lenS {n : Nat} {us : List Value} (h : us.length = n + 1) : ∃ a r, us = a :: r ∧ r.length = n := by
  cases us with
  | nil => cases h
  | cons a r => exact ⟨a, r, rfl, Nat.succ.inj h⟩
theorem len1 {us : List Value} (h : us.length = 1) : ∃ a, us = [a] := let ⟨a, _, e, q⟩ := lenS h; ⟨a, by rw [e, len0 q]⟩
theorem len2 {us : List Value} (h : us.length = 2) : ∃ a b, us = [a, b] := let ⟨a, _, e, q⟩ := lenS h; let ⟨b, r⟩ := len1 q; ⟨a, b, by rw [e, r]⟩
theorem len3 {us : List Value} (h : us.length = 3) : ∃ a b c, us = [a, b, c] := let ⟨a, _, e, q⟩ := lenS h; let ⟨b, c, r⟩ := len2 q; ⟨a, b, c, by rw [e, r]⟩
theorem len4 {us : List Value} (h : us.length = 4) : ∃ a b c d, us = [a, b, c, d] := let ⟨a, _, e, q⟩ := lenS h; let ⟨b, c, d, r⟩ := len3 q; ⟨a, b, c, d, by rw [e, r]⟩
theorem run_law {prog : Program} {w : World} {s : Shared} {p : Program} {loose : List Str} {mean : ExcName → Option Value} {mg mb : Str → Option Value} (T : Top p loose mean mg mb s.heap) (K : Frag) (X : K.In s.heap) (gint : List (String × Int)) (fns : List (String × Addr)) (cls : List (String × Addr)) (anc : String → List String) (tab : List (String × Fn))
    (c1 : gint.all (gintOk K) = true) (c2 : fns.all (fnOk K) = true) (c3 : cls.all (clOk K) = true) (c4 : namesB.all (noneOk K) = true) (c5 : tyOk K = true) (c6 : cls.all (ownOk K anc cls) = true) (c7 : ∀ d ∈ cls, ExcCls K d.2) (hfn : FnsIn K gint (fns.map (·.1)) (cls.map (·.1)) tab fns)
    {n : Nat} {A : Around} (hh : A.handled = none) (hA : A.frames = some []) (hdep : A.depth + (n + 1) < 1000) (hun : A.units + 3 * (n + 1) + 25 < cLine) {a l : Addr} {items : Array Value} {xs : List Int} (hlaw : mg (Str.ofString "law") = some (.ref a)) (hl : s.heap.IsList l items) (hx : xs.length ≤ 1000) (hi : Ints xs items.toList)
    (spec : callN (fun f => tab.lookup f) anc (n + 1) "law" [.ro xs] (fun v _ => v = .bool true) (fun _ _ => False) (fun _ => none)) {RR : Result → Shared → Prop} (hR : ∀ h tk, s.heap.StaysIn h → RR (.ok (.ret (.bool true))) { s with heap := h, toks := tk }) :
    codeAny (model prog w) A (.call (.ref a) ⟨[.ref l], []⟩) RR s := by
  let W : Wd := ⟨prog, w, s.heap, s, fun c => cls.lookup c⟩
  let TX : Tx W := mkTx W T K X gint fns cls anc rfl c1 c2 c3 c4 c5 c6 c7
  refine top_call (W := W) (T := TX) (defs := fun f => tab.lookup f) (anc := anc) rfl T.nolimit (fun f d hf => ?_) hh hA hdep hun (f := "law") (Q := fun v => v = .bool true) rfl rfl hlaw (.cons (.ro hl hx hi) .nil) spec fun v u h tk hv hr hs => ?_
  · obtain ⟨b, hb, o, fd, body, e1, e2, e3, e4, e5, e6⟩ := hfn.mem (mem_lk hf)
    have := List.all_eq_true.mp c2 _ hb
    unfold fnOk at this
    rw [Bool.and_eq_true] at this
    obtain ⟨h1, h2⟩ := this
    split at h1
    · rename_i b' e
      rw [beq_iff_eq.mp h1] at e
      exact ⟨b, o, fd, body, mg_of X T.g e, mkFn (T := TX) rfl rfl e1 e2 e3 e4 e5 e6⟩
    · cases h1
  · subst hv
    cases hr
    exact hR h tk hs
end Mine.Internal
end

section
namespace Mine.Internal
open PySem (Str Addr)

noncomputable def Ext (H H' : Hp) : Prop := ∀ a o, H a = some o → H' a = some o
theorem Ext.refl (H : Hp) : Ext H H := fun _ _ h => h
theorem Ext.trans {H H₁ H₂ : Hp} (a : Ext H H₁) (b : Ext H₁ H₂) : Ext H H₂ := fun x o h => b x o (a x o h)
theorem Hp.set_self (H : Hp) (a : Addr) (o : Ob) : (H.set a o) a = some o := by simp [Hp.set]
theorem Hp.set_ne {H : Hp} {a b : Addr} (o : Ob) (h : b ≠ a) : (H.set a o) b = H b := by simp [Hp.set, h]
theorem Ext.new {H : Hp} {a : Addr} (o : Ob) (h : H a = none) : Ext H (H.set a o) := fun b o' hb => by
  rw [Hp.set_ne o (by rintro rfl; rw [h] at hb; cases hb)]; exact hb
theorem ne_new {H : Hp} {a b : Addr} {o : Ob} (hb : H b = some o) (ha : H a = none) : b ≠ a := by rintro rfl; rw [ha] at hb; cases hb
theorem Ext.no {H H' : Hp} {a : Addr} (e : Ext H H') (h : H' a = none) : H a = none := by
  cases q : H a with
  | none => rfl
  | some o => rw [e a o q] at h; cases h
theorem Hp.set_set (H : Hp) (a : Addr) (o o' : Ob) : (H.set a o).set a o' = H.set a o' := by
  funext b; unfold Hp.set; split <;> rfl
theorem Ext.setNew {H H' : Hp} {a : Addr} (o : Ob) (e : Ext H H') (h : H a = none) : Ext H (H'.set a o) := fun b o' hb => by
  rw [Hp.set_ne o (ne_new hb h)]; exact e b o' hb

theorem place_nat {k n : Nat} (h : k < n) : place (k : Int) n = some k := by
  unfold place; rw [if_pos (Int.natCast_nonneg k)]; simp [h]
theorem place_in {i : Int} {n : Nat} (h0 : 0 ≤ i) (h : i < n) : place i n = some i.toNat := by
  unfold place; rw [if_pos h0, if_pos (by omega)]
theorem ex_idx {α : Type} {xs : List α} {i : Int} {P : α → Prop} (hi : Ix i) (h0 : 0 ≤ i) (h : i < xs.length) (hp : P (xs[i.toNat]'(by omega))) :
    ∃ j z, Ix i ∧ place i xs.length = some j ∧ xs[j]? = some z ∧ P z :=
  ⟨i.toNat, _, hi, place_in h0 h, List.getElem?_eq_getElem (by omega), hp⟩
theorem forGo_inv {t : Tg} {w : List (Addr × Ob)} {body : Loc → (Loc → Hp → Prop) → Hp → Prop} {N : Loc → Hp → Prop} (I : List It → List It → Loc → Hp → Prop)
    (hw : ∀ done rest ρ H, I done rest ρ H → okH w H)
    (hN : ∀ done ρ H, I done [] ρ H → N ρ H)
    (step : ∀ done it rest ρ H K, I done (it :: rest) ρ H → (∀ ρ' H', I (done ++ [it]) rest ρ' H' → K ρ' H') → ∃ ρ', bindT t it ρ = some ρ' ∧ body ρ' K H) :
    ∀ (rest done : List It) (ρ : Loc) (H : Hp), I done rest ρ H → forGo t w body rest ρ N H
  | [], done, ρ, H, h => ⟨hw _ _ _ _ h, hN _ _ _ h⟩
  | it :: rest, done, ρ, H, h => ⟨hw _ _ _ _ h, step done it rest ρ H _ h fun ρ' H' h' => forGo_inv I hw hN step rest (done ++ [it]) ρ' H' h'⟩

theorem whl_inv {G : Gl} {hd : Bool} {c : Ex} {b : Sts} {N : Loc → Hp → Prop} {R : V → Hp → Prop} {X : String → Loc → Hp → Prop} (I : Nat → Loc → Hp → Prop)
    (step : ∀ n ρ H K, I n ρ H → (∀ m ρ' H', m < n → I m ρ' H' → K ρ' H') → wpE G hd c ρ (asB fun r H₁ => if r then wpSs G hd b ρ K R X H₁ else N ρ H₁) (fun c H₁ => X c ρ H₁) H)
    {n : Nat} {ρ : Loc} {H : Hp} (h : I n ρ H) : wpS G hd (.whl c b) ρ N R X H := by
  simp only [wpS]
  intro P hP
  induction n using Nat.strongRecOn generalizing ρ H with
  | ind n ih => exact hP ρ H (step n ρ H P h fun m ρ' H' hm h' => ih m hm h')

noncomputable def pv (p : Int × Int) : V := .tup [.int p.1, .int p.2]
noncomputable def lv (ps : List (Int × Int)) : List V := ps.map pv
@[simp] theorem lv_length (ps : List (Int × Int)) : (lv ps).length = ps.length := by simp [lv]
theorem lv_append (a b : List (Int × Int)) : lv (a ++ b) = lv a ++ lv b := by simp [lv]

end Mine.Internal
end

section
namespace Mine.Internal
open PySem (Str Addr)
section
variable {Q : V → Hp → Prop} {B : Bool → Hp → Prop} {H : Hp} {a b n i k : Int} {xs ys : List V} {p q : Addr} {x y : V} {G : Gl} {hd : Bool} {ρ : Loc} {X : String → Hp → Prop}
theorem b_add : wbin .add (.int a) (.int b) Q H = Q (.int (a + b)) H := rfl
theorem b_sub : wbin .sub (.int a) (.int b) Q H = Q (.int (a - b)) H := rfl
theorem b_mul : wbin .mul (.int a) (.int b) Q H = ((Sm a ∨ Sm b) ∧ Q (.int (a * b)) H) := rfl
theorem b_fdiv : wbin .fdiv (.int a) (.int b) Q H = ((0 < b ∧ b < 1073741824) ∧ Q (.int (a / b)) H) := rfl
theorem b_mod : wbin .mod (.int a) (.int b) Q H = (0 < b ∧ Q (.int (a % b)) H) := rfl
theorem b_pow9 : wbin .pow (.int 10) (.int 9) Q H = Q (.int 1000000000) H := by simp [wbin]
theorem b_pow10 : wbin .pow (.int 10) (.int 10) Q H = Q (.int 10000000000) H := by simp [wbin]
theorem b_pow6 : wbin .pow (.int 10) (.int 6) Q H = Q (.int 1000000) H := by simp [wbin]
theorem b_addL : wbin .add (.ref p) (.ref q) Q H = ∃ xs ys, H p = some (.list xs) ∧ H q = some (.list ys) ∧ newL (xs ++ ys) Q H := rfl
theorem c_lt : wcmp .lt (.int a) (.int b) B H = B (decide (a < b)) H := rfl
theorem c_le : wcmp .le (.int a) (.int b) B H = B (decide (a ≤ b)) H := rfl
theorem c_gt : wcmp .gt (.int a) (.int b) B H = B (decide (b < a)) H := rfl
theorem c_ge : wcmp .ge (.int a) (.int b) B H = B (decide (b ≤ a)) H := rfl
theorem c_eqI : wcmp .eq (.int a) (.int b) B H = B (decide (a = b)) H := by simp [wcmp, veq, vb]
theorem c_neI : wcmp .ne (.int a) (.int b) B H = B (!decide (a = b)) H := by simp [wcmp, veq, vb]
theorem c_eqS {s t : Str} : wcmp .eq (.str s) (.str t) B H = B (decide (s = t)) H := by simp [wcmp, veq, vb]
theorem c_neS {s t : Str} : wcmp .ne (.str s) (.str t) B H = B (!decide (s = t)) H := by simp [wcmp, veq, vb]
theorem c_eqB {s t : Bool} : wcmp .eq (.bool s) (.bool t) B H = B (s == t) H := by simp [wcmp, veq, vb]
theorem c_neB {s t : Bool} : wcmp .ne (.bool s) (.bool t) B H = B (!(s == t)) H := by simp [wcmp, veq, vb]
theorem asB_bool {b : Bool} : asB B (.bool b) H = B b H := rfl
theorem i_ro {xs : List Int} : widx (.ro xs) (.int i) Q H = ∃ j z, Ix i ∧ place i xs.length = some j ∧ xs[j]? = some z ∧ Q (.int z) H := rfl
theorem i_tup0 : widx (.tup (x :: xs)) (.int 0) Q H = Q x H := by
  simp only [widx]; refine propext ⟨fun ⟨j, z, _, h1, h2, h3⟩ => ?_, fun h => ⟨0, x, ⟨by decide, by decide⟩, place_nat (k := 0) (by simp), rfl, h⟩⟩
  have e : place (0 : Int) (x :: xs).length = some 0 := place_nat (k := 0) (by simp)
  rw [e] at h1; cases h1; cases h2; exact h3
theorem i_tup1 : widx (.tup (x :: y :: xs)) (.int 1) Q H = Q y H := by
  simp only [widx]; refine propext ⟨fun ⟨j, z, _, h1, h2, h3⟩ => ?_, fun h => ⟨1, y, ⟨by decide, by decide⟩, place_nat (k := 1) (by simp), rfl, h⟩⟩
  have e : place (1 : Int) (x :: y :: xs).length = some 1 := place_nat (k := 1) (by simp)
  rw [e] at h1; cases h1; cases h2; exact h3
theorem i_tup2 {z : V} : widx (.tup (x :: y :: z :: xs)) (.int 2) Q H = Q z H := by
  simp only [widx]; refine propext ⟨fun ⟨j, u, _, h1, h2, h3⟩ => ?_, fun h => ⟨2, z, ⟨by decide, by decide⟩, place_nat (k := 2) (by simp), rfl, h⟩⟩
  have e : place (2 : Int) (x :: y :: z :: xs).length = some 2 := place_nat (k := 2) (by simp)
  rw [e] at h1; cases h1; cases h2; exact h3
theorem i_pv0 {r : Int × Int} : widx (pv r) (.int 0) Q H = Q (.int r.1) H := i_tup0
theorem i_pv1 {r : Int × Int} : widx (pv r) (.int 1) Q H = Q (.int r.2) H := i_tup1
theorem i_list (h : H p = some (.list xs)) : widx (.ref p) (.int i) Q H = ∃ j z, Ix i ∧ place i xs.length = some j ∧ xs[j]? = some z ∧ Q z H := by simp only [widx, h]
theorem i_dict {kvs : List (Int × V)} (h : H p = some (.dict kvs)) : widx (.ref p) (.int i) Q H = ∃ z, dget i kvs = some z ∧ Q z H := by simp only [widx, h]
theorem f_lenR {xs : List Int} : wbc .len [.ro xs] Q H = Q (.int xs.length) H := rfl
theorem f_lenL (h : H p = some (.list xs)) : wbc .len [.ref p] Q H = Q (.int xs.length) H := by simp only [wbc, h]
theorem f_max : wbc .max2 [.int a, .int b] Q H = Q (.int (if b > a then b else a)) H := rfl
theorem f_list (h : H p = some (.list xs)) : wbc .list [.ref p] Q H = newL xs Q H := by simp only [wbc, h]; simp
theorem f_sortL (h : H p = some (.list xs)) : wbc .sorted [.ref p] Q H = (xs.length < 64 ∧ ((∃ is, intsOf xs = some is ∧ ∀ js : List Int, js.Perm is → js.Pairwise (· ≤ ·) → newL (js.map V.int) Q H) ∨ (∃ ps : List (Int × Int), xs = ps.map pairV ∧ (ps.map (·.1)).Nodup ∧ ∀ qs : List (Int × Int), qs.Perm ps → (qs.map (·.1)).Pairwise (· ≤ ·) → newL (qs.map pairV) Q H))) := by simp only [wbc, h]
theorem f_sortD {kvs : List (Int × V)} (h : H p = some (.dict kvs)) : wbc .sorted [.ref p] Q H = (kvs.length < 64 ∧ ∀ js : List Int, js.Perm (kvs.map (·.1)) → js.Pairwise (· ≤ ·) → newL (js.map V.int) Q H) := by simp only [wbc, h]
theorem m_append (h : H p = some (.list xs)) : wmt .append (.ref p) [x] Q H = (xs.length < Lim ∧ Q .none (H.set p (.list (xs ++ [x])))) := by simp only [wmt, h]; simp
theorem r_L {m : Mt} (h : H p = some (.list xs)) : recv m (.ref p) H = (m ≠ .get ∧ m ≠ .popD) := by simp only [recv, h]
theorem m_count (h : H p = some (.list xs)) : wmt .count (.ref p) [x] Q H = ∃ n, cntL x xs = some n ∧ Q (.int n) H := by simp only [wmt, h]; simp
theorem c_inD {kvs : List (Int × V)} (h : H p = some (.dict kvs)) : wcmp .isIn (.int i) (.ref p) B H = B (dget i kvs).isSome H := by simp only [wcmp, h]
end
end Mine.Internal
end

section
namespace Mine.Internal
open PySem (Str Addr)

theorem ex_idxA {α : Type} {xs : List α} {i : Int} {P : α → Prop} (hi : Ix i) (h0 : 0 ≤ i) (h : i < xs.length) (hp : ∀ z ∈ xs, P z) :
    ∃ j z, Ix i ∧ place i xs.length = some j ∧ xs[j]? = some z ∧ P z := ex_idx hi h0 h (hp _ (List.getElem_mem _))
theorem ite_all {c : Prop} [Decidable c] {A B : Prop} (h1 : c → A) (h2 : ¬ c → B) : if c then A else B := by split <;> simp_all

noncomputable def keys (kvs : List (Int × V)) : List Int := kvs.map (·.1)
theorem keys_length (kvs : List (Int × V)) : (keys kvs).length = kvs.length := by simp [keys]
theorem dget_some_iff {k : Int} : ∀ {kvs : List (Int × V)}, (dget k kvs).isSome = true ↔ k ∈ keys kvs
  | [] => by simp [dget, keys]
  | (j, v) :: r => by
    have ih := dget_some_iff (k := k) (kvs := r)
    simp only [dget, keys, List.map_cons, List.mem_cons] at ih ⊢
    split
    · rename_i e; simp [e]
    · rename_i e; rw [ih]; exact ⟨.inr, fun h => h.resolve_left fun q => e q.symm⟩
theorem dset_new {k : Int} {v : V} : ∀ {kvs : List (Int × V)}, k ∉ keys kvs → dset k v kvs = kvs ++ [(k, v)]
  | [], _ => rfl
  | (j, x) :: r, h => by
    simp only [keys, List.map_cons, List.mem_cons, not_or] at h
    rw [dset, if_neg (fun e => h.1 e.symm), dset_new (kvs := r) h.2]; rfl
theorem dget_mem {k : Int} {v : V} : ∀ {kvs : List (Int × V)}, (keys kvs).Nodup → (k, v) ∈ kvs → dget k kvs = some v
  | (j, x) :: r, hn, hm => by
    simp only [keys, List.map_cons, List.nodup_cons] at hn
    rcases List.mem_cons.mp hm with e | hm
    · cases e; simp [dget]
    · have : k ∈ r.map (·.1) := List.mem_map.mpr ⟨_, hm, rfl⟩
      rw [dget, if_neg (by rintro rfl; exact hn.1 this)]
      exact dget_mem (kvs := r) hn.2 hm

theorem nodup_le {α : Type} [DecidableEq α] : ∀ {l ks : List α}, l.Nodup → (∀ x ∈ l, x ∈ ks) → l.length ≤ ks.length
  | [], _, _, _ => by simp
  | x :: r, ks, hn, hs => by
    have hx := hs x (.head _)
    have hn := List.nodup_cons.mp hn
    have ih := nodup_le (l := r) (ks := ks.erase x) hn.2 fun y hy => by
      rw [List.mem_erase_of_ne (by rintro rfl; exact hn.1 hy)]; exact hs y (.tail _ hy)
    rw [List.length_erase_of_mem hx] at ih
    have : 0 < ks.length := List.length_pos_of_mem hx
    simp only [List.length_cons]; omega
theorem free_place (M : Nat) (hM : 0 < M) {ks : List Int} (h : ks.length < M) (v : Int) : ∃ n : Nat, ((v - 1 + n) % (M : Int) + 1) ∉ ks := by
  refine Classical.byContradiction fun hc => ?_
  have hc : ∀ n : Nat, ((v - 1 + n) % (M : Int) + 1) ∈ ks := fun n => Classical.byContradiction fun q => hc ⟨n, q⟩
  have := nodup_le (l := (List.range M).map fun n : Nat => ((v - 1 + n) % (M : Int) + 1)) (ks := ks) ?_ (by
    intro x hx; obtain ⟨n, _, rfl⟩ := List.mem_map.mp hx; exact hc n)
  · simp at this; omega
  · rw [List.nodup_iff_pairwise_ne, List.pairwise_map]
    have hr := List.nodup_range (n := M)
    rw [List.nodup_iff_pairwise_ne] at hr
    refine hr.imp_of_mem fun {a b} ha hb hne e => hne ?_
    have ha := List.mem_range.mp ha; have hb := List.mem_range.mp hb
    have e : (v - 1 + a) % (M : Int) = (v - 1 + b) % (M : Int) := by omega
    have d := Int.emod_emod_of_dvd (v - 1 + a) (Int.dvd_refl (M : Int))
    have q : (M : Int) ∣ ((v - 1 + a) - (v - 1 + b)) := by
      have h1 : (M : Int) ∣ (v - 1 + a) - (v - 1 + b) % M := by rw [← e]; exact Int.dvd_self_sub_emod
      have h2 : (M : Int) ∣ (v - 1 + b) - (v - 1 + b) % M := Int.dvd_self_sub_emod
      have := Int.dvd_sub h1 h2
      have z : (v - 1 + (a : Int)) - (v - 1 + b) % M - ((v - 1 + b) - (v - 1 + b) % M) = (v - 1 + a) - (v - 1 + b) := by omega
      rwa [z] at this
    have z : (v - 1 + (a : Int)) - (v - 1 + b) = (a : Int) - b := by omega
    rw [z] at q
    rcases Nat.lt_trichotomy a b with hl | hl | hl
    · have q' : (M : Int) ∣ (b : Int) - a := by have := Int.dvd_neg.mpr q; rwa [Int.neg_sub] at this
      have := Int.le_of_dvd (by omega) q'; omega
    · exact hl
    · have := Int.le_of_dvd (by omega) q; omega

theorem rangeL_length (lo st : Int) (n : Nat) : (rangeL lo st n).length = n := by simp [rangeL]
theorem rangeL_at {lo st : Int} {n : Nat} {done rest : List It} {it : It} (h : rangeL lo st n = done ++ it :: rest) : it = .v (.int (lo + done.length * st)) ∧ done.length < n := by
  have h1 := congrArg (fun l => l[done.length]?) h
  have h2 := congrArg List.length h
  simp only [rangeL, List.getElem?_map, List.length_map, List.length_range, List.length_append, List.length_cons] at h1 h2
  rw [List.getElem?_range (by omega)] at h1
  simp at h1
  exact ⟨h1.symm, by omega⟩

theorem compGo_map {t : Tg} {w : List (Addr × Ob)} {ρ : Loc} {elt : Loc → (V → Hp → Prop) → Hp → Prop} {Q : List V → Hp → Prop} {H : Hp} (f : It → V) (hw : okH w H) :
    ∀ (its : List It) (acc : List V), acc.length + its.length ≤ Lim → (∀ it ∈ its, ∃ ρ', bindT t it ρ = some ρ' ∧ ∀ K, K (f it) H → elt ρ' K H) → Q (acc ++ its.map f) H →
    compGo t w ρ elt (fun _ K H₂ => K true H₂) its acc Q H
  | [], acc, _, _, q => by simp only [compGo]; exact ⟨hw, by simpa using q⟩
  | it :: its, acc, hl, he, q => by
    simp only [compGo]
    obtain ⟨ρ', e, k⟩ := he it (.head _)
    simp only [List.length_cons] at hl
    refine ⟨hw, by omega, ρ', e, ?_⟩
    rw [if_pos trivial]
    exact k _ (compGo_map f hw its (acc ++ [f it]) (by simp; omega) (fun it' h => he it' (.tail _ h)) (by simpa using q))

theorem sorted_one {ps qs : List (Int × Int)} (hp : ps.Perm qs) (h1 : (ps.map (·.1)).Pairwise (· ≤ ·)) (h2 : (qs.map (·.1)).Pairwise (· ≤ ·)) (hn : (qs.map (·.1)).Nodup) : ps = qs := by
  have strict : ∀ l : List (Int × Int), (l.map (·.1)).Pairwise (· ≤ ·) → (l.map (·.1)).Nodup → l.Pairwise (fun a b => a.1 < b.1) := fun l h n => by
    rw [List.nodup_iff_pairwise_ne] at n
    rw [List.pairwise_map] at h n
    exact (h.and n).imp fun ⟨x, y⟩ => by omega
  have n1 : (ps.map (·.1)).Nodup := ((hp.map _).nodup_iff).mpr hn
  exact hp.eq_of_pairwise (le := fun a b => a.1 < b.1) (fun a b _ _ x y => by omega) (strict _ h1 n1) (strict _ h2 hn)

theorem allEq_lv {H : Hp} {m : Nat} : ∀ (ps qs : List (Int × Int)), allEq (veq (m + 2) H) (lv ps) (lv qs) = some (decide (ps = qs))
  | [], [] => by simp [lv, allEq]
  | [], q :: qs => by simp [lv, allEq]
  | p :: ps, [] => by simp [lv, allEq]
  | (a, b) :: ps, (c, d) :: qs => by
    have ih := allEq_lv (H := H) (m := m) ps qs
    simp only [lv, List.map_cons, allEq] at ih ⊢
    rw [ih]
    simp only [pv, veq, allEq, vb]
    by_cases h1 : a = c <;> by_cases h2 : b = d <;> simp [h1, h2, Bool.and_comm]
theorem c_neLv {B : Bool → Hp → Prop} {H : Hp} {p q : Addr} {ps qs : List (Int × Int)} (h1 : H p = some (.list (lv ps))) (h2 : H q = some (.list (lv qs))) : wcmp .ne (.ref p) (.ref q) B H = B (!decide (ps = qs)) H := by
  have : veq eqFuel H (.ref p) (.ref q) = some (decide (ps = qs)) := by
    show veq (7 + 1) H (.ref p) (.ref q) = _
    simp only [veq, h1, h2]; exact allEq_lv (m := 5) ps qs
  simp [wcmp, this]
theorem c_eqLv {B : Bool → Hp → Prop} {H : Hp} {p q : Addr} {ps qs : List (Int × Int)} (h1 : H p = some (.list (lv ps))) (h2 : H q = some (.list (lv qs))) : wcmp .eq (.ref p) (.ref q) B H = B (decide (ps = qs)) H := by
  have : veq eqFuel H (.ref p) (.ref q) = some (decide (ps = qs)) := by
    show veq (7 + 1) H (.ref p) (.ref q) = _
    simp only [veq, h1, h2]; exact allEq_lv (m := 5) ps qs
  simp [wcmp, this]
end Mine.Internal
end

section
namespace Mine.Internal
open PySem (Str Addr)
theorem lim_eq : Lim = 16777216 := rfl
noncomputable def Sts.app : Sts → Sts → Sts
  | .nil, r => r
  | .cons s a, r => .cons s (a.app r)
noncomputable def Sts.drop : Nat → Sts → Sts
  | 0, r => r
  | n + 1, .cons _ r => r.drop n
  | _ + 1, .nil => .nil
section
variable {G : Gl} {hd : Bool} {ρ : Loc} {N : Loc → Hp → Prop} {R : V → Hp → Prop} {X : String → Loc → Hp → Prop} {H : Hp} {r a b : Sts} {e c o k v : Ex} {i j m : Nat} {s : St}
theorem app_nil : Sts.app .nil r = r := rfl
theorem app_cons : Sts.app (.cons s a) r = .cons s (a.app r) := rfl
theorem wpSs_app : ∀ (a : Sts) (ρ : Loc) (N : Loc → Hp → Prop) (H : Hp), wpSs G hd (a.app r) ρ N R X H = wpSs G hd a ρ (fun ρ₁ H₁ => wpSs G hd r ρ₁ N R X H₁) R X H
  | .nil, ρ, N, H => by simp only [app_nil, wpSs]
  | .cons s a, ρ, N, H => by
    simp only [app_cons, wpSs]
    congr 1
    funext ρ₁ H₁
    exact wpSs_app a ρ₁ N H₁
theorem s_nil : wpSs G hd .nil ρ N R X H = N ρ H := by simp only [wpSs]
theorem s_asg : wpSs G hd (.cons (.asg i e) r) ρ N R X H = wpE G hd e ρ (fun v H₁ => wpSs G hd r (ρ.set i (some v)) N R X H₁) (fun c H₁ => X c ρ H₁) H := by simp only [wpSs, wpS]
noncomputable def setW (z x y : V) (N : Hp → Prop) (H : Hp) : Prop := match x, y with
      | .ref a, .int k => (match H a with
        | some (.list xs) => (0 ≤ k ∧ k < xs.length) ∧ N (H.set a (.list (xs.set k.toNat z)))
        | some (.dict kvs) => kvs.length < Lim ∧ N (H.set a (.dict (dset k z kvs)))
        | none => False)
      | _, _ => False
theorem s_setIt : wpSs G hd (.cons (.setIt o k v) r) ρ N R X H = wpE G hd v ρ (fun z H₁ => wpE G hd o ρ (fun x H₂ => wpE G hd k ρ (fun y H₃ => setW z x y (fun H' => wpSs G hd r ρ N R X H') H₃) (fun c H' => X c ρ H') H₂) (fun c H' => X c ρ H') H₁) (fun c H' => X c ρ H') H := by
  simp only [wpSs, wpS]; rfl
theorem set_D {z : V} {p : Addr} {k : Int} {kvs : List (Int × V)} {N : Hp → Prop} (h : H p = some (.dict kvs)) : setW z (.ref p) (.int k) N H = (kvs.length < Lim ∧ N (H.set p (.dict (dset k z kvs)))) := by simp only [setW, h]
theorem s_ex : wpSs G hd (.cons (.ex e) r) ρ N R X H = wpE G hd e ρ (fun _ H₁ => wpSs G hd r ρ N R X H₁) (fun c H₁ => X c ρ H₁) H := by simp only [wpSs, wpS]
theorem s_ret : wpSs G hd (.cons (.ret e) r) ρ N R X H = wpE G hd e ρ (fun v H₁ => R v H₁) (fun c H₁ => X c ρ H₁) H := by simp only [wpSs, wpS]
theorem s_ife : wpSs G hd (.cons (.ife e a b) r) ρ N R X H = wpE G hd e ρ (asB fun t H₁ => if t then wpSs G hd (a.app r) ρ N R X H₁ else wpSs G hd (b.app r) ρ N R X H₁) (fun c H₁ => X c ρ H₁) H := by simp only [wpSs, wpS, wpSs_app]
theorem s_raise {c m : String} : wpSs G hd (.cons (.raise c m) r) ρ N R X H = (hd = false ∧ X c ρ H) := by simp only [wpSs, wpS]
theorem s_pass : wpSs G hd (.cons .pass r) ρ N R X H = wpSs G hd r ρ N R X H := by simp only [wpSs, wpS]
theorem s_tr {hs : Hs} : wpSs G hd (.cons (.tr b hs) r) ρ N R X H = (hd = false ∧ wpSs G hd b ρ (fun ρ₁ H₁ => wpSs G hd r ρ₁ N R X H₁) R (fun c ρ₁ H₁ => wpHs G c hs ρ₁ (fun ρ₁ H₁ => wpSs G hd r ρ₁ N R X H₁) R (X c ρ₁ H₁) H₁) H) := by simp only [wpSs, wpS]
noncomputable def bodyW (G : Gl) (hd : Bool) (b : Sts) (R : V → Hp → Prop) (X : String → Loc → Hp → Prop) : Loc → (Loc → Hp → Prop) → Hp → Prop := fun ρ K H => wpSs G hd b ρ K R X H
noncomputable def restW (G : Gl) (hd : Bool) (r : Sts) (N : Loc → Hp → Prop) (R : V → Hp → Prop) (X : String → Loc → Hp → Prop) : Loc → Hp → Prop := fun ρ H => wpSs G hd r ρ N R X H
theorem whl_cons (I : Nat → Loc → Hp → Prop)
    (step : ∀ n ρ H K, I n ρ H → (∀ m ρ' H', m < n → I m ρ' H' → K ρ' H') → wpE G hd c ρ (asB fun t H₁ => if t then bodyW G hd b R X ρ K H₁ else restW G hd r N R X ρ H₁) (fun c H₁ => X c ρ H₁) H)
    {n : Nat} {ρ : Loc} {H : Hp} (h : I n ρ H) : wpSs G hd (.cons (.whl c b) r) ρ N R X H := by
  have := whl_inv (G := G) (hd := hd) (c := c) (b := b) (N := fun ρ₁ H₁ => wpSs G hd r ρ₁ N R X H₁) (R := R) (X := X) I step h
  rw [wpSs]; exact this
theorem for_cons {t : Tg} {s : Sr} (h : hd = false ∧ wpSr G hd s ρ (fun its w H₁ => forGo t w (bodyW G hd b R X) its ρ (restW G hd r N R X) H₁) (fun c H₁ => X c ρ H₁) H) : wpSs G hd (.cons (.for t s b) r) ρ N R X H := by
  simp only [wpSs, wpS]; exact h
noncomputable def srcW (v : V) (K : List It → List (Addr × Ob) → Hp → Prop) (H : Hp) : Prop := match v with
    | .ref a => (match H a with
      | some (.list xs) => K (xs.map It.v) [(a, .list xs)] H
      | _ => False)
    | _ => False
theorem sr_ex {K : List It → List (Addr × Ob) → Hp → Prop} {X : String → Hp → Prop} : wpSr G hd (.ex e) ρ K X H = wpE G hd e ρ (fun v H₁ => srcW v K H₁) X H := by simp only [wpSr]; rfl
theorem src_L {p : Addr} {xs : List V} {K : List It → List (Addr × Ob) → Hp → Prop} (h : H p = some (.list xs)) : srcW (.ref p) K H = K (xs.map It.v) [(p, .list xs)] H := by simp only [srcW, h]
theorem sf_asg : wpSs G hd (.cons (.asg i e) r) ρ N R X H = wpE G hd e ρ (fun v H₁ => restW G hd r N R X (ρ.set i (some v)) H₁) (fun c H₁ => X c ρ H₁) H := s_asg
theorem sf_setIt : wpSs G hd (.cons (.setIt o k v) r) ρ N R X H = wpE G hd v ρ (fun z H₁ => wpE G hd o ρ (fun x H₂ => wpE G hd k ρ (fun y H₃ => setW z x y (fun H' => restW G hd r N R X ρ H') H₃) (fun c H' => X c ρ H') H₂) (fun c H' => X c ρ H') H₁) (fun c H' => X c ρ H') H := s_setIt
theorem sf_ex : wpSs G hd (.cons (.ex e) r) ρ N R X H = wpE G hd e ρ (fun _ H₁ => restW G hd r N R X ρ H₁) (fun c H₁ => X c ρ H₁) H := s_ex
theorem sf_ife : wpSs G hd (.cons (.ife e a b) r) ρ N R X H = wpE G hd e ρ (asB fun t H₁ => if t then restW G hd (a.app r) N R X ρ H₁ else restW G hd (b.app r) N R X ρ H₁) (fun c H₁ => X c ρ H₁) H := s_ife
theorem src_of {p : Addr} {xs : List V} {K : List It → List (Addr × Ob) → Hp → Prop} (h : H p = some (.list xs)) (k : K (xs.map It.v) [(p, .list xs)] H) : srcW (.ref p) K H := by rw [src_L h]; exact k
abbrev SK := List It → List (Addr × Ob) → Hp → Prop
noncomputable def r1W (v : V) (K : SK) (H : Hp) : Prop := match v with | .int n => Ix n ∧ K (rangeL 0 1 n.toNat) [] H | _ => False
variable {K : SK} {Y : String → Hp → Prop} {m n t : Int} {x y z : Ex}
theorem sr_r1 : wpSr G hd (.range1 x) ρ K Y H = wpE G hd x ρ (fun v H₁ => r1W v K H₁) Y H := by simp only [wpSr]; rfl
theorem r1_i : r1W (.int n) K H = (Ix n ∧ K (rangeL 0 1 n.toNat) [] H) := rfl
end
end Mine.Internal
end

section
namespace Mine.Internal
noncomputable def ancT (c : String) : List String := if c = "TillError" then ["TillError"] else [c, "TillError"]
noncomputable def f_need_kind : Fn := ⟨1, 1, ["value"],
  (.cons (.ife (.nt (.cmp2 .le .le (.int 1) (.var 0) (.glob "MOST_VALUE" 1000))) (.cons (.raise "NoKind" "no kind")
    .nil) .nil)
  .nil)⟩
noncomputable def f_need_count : Fn := ⟨1, 1, ["count"],
  (.cons (.ife (.nt (.cmp2 .le .le (.int 0) (.var 0) (.glob "MOST_COUNT" 1000000000))) (.cons (.raise "NoCount" "no count")
    .nil) .nil)
  .nil)⟩
noncomputable def f_pairs_of : Fn := ⟨1, 1, ["counts", "value"],
  (.cons (.ret (.comp (.tup (.cons (.var 1) (.cons (.idx (.var 0) (.var 1)) .nil))) (.one 1) (.ex (.bc .sorted (.cons (.var 0) .nil)))))
  .nil)⟩
noncomputable def f_law_cell_at : Fn := ⟨2, 2, ["_law_script", "_law_k"],
  (.cons (.ife (.cmp .lt (.var 1) (.bc .len (.cons (.var 0) .nil))) (.cons (.ret (.idx (.var 0) (.var 1)))
    .nil) .nil)
  (.cons (.ret (.int 0))
  .nil))⟩
noncomputable def f_law_whole : Fn := ⟨1, 1, ["_law_found"],
  (.cons (.ret (.bop true (.cons (.isi (.var 0) [.int]) (.cons (.nt (.isi (.var 0) [.bool])) .nil))))
  .nil)⟩
noncomputable def f_law_mixed : Fn := ⟨2, 2, ["_law_cell", "_law_k"],
  (.cons (.ret (.bin .mod (.bin .mul (.bin .add (.var 0) (.bin .mul (.int 7919) (.var 1))) (.int 48271)) (.int 2147483647)))
  .nil)⟩
noncomputable def f_law_value : Fn := ⟨2, 3, ["_law_cell", "_law_k", "_law_drawn"],
  (.cons (.asg 2 (.call "_law_mixed" (.cons (.var 0) (.cons (.var 1) .nil))))
  (.cons (.ife (.cmp .eq (.bin .mod (.var 0) (.int 3)) (.int 0)) (.cons (.ret (.idx (.list (.cons (.int 1) (.cons (.int 2) (.cons (.int 5) (.cons (.int 10) (.cons (.int 20) (.cons (.int 50) (.cons (.int 100) (.cons (.int 200) (.cons (.int 500) (.cons (.int 1000) .nil))))))))))) (.bin .mod (.var 2) (.int 10))))
    .nil) .nil)
  (.cons (.ife (.cmp .eq (.bin .mod (.var 0) (.int 3)) (.int 1)) (.cons (.ret (.bin .add (.int 1) (.bin .mod (.var 2) (.int 30))))
    .nil) .nil)
  (.cons (.ret (.bin .add (.int 1) (.bin .mod (.var 2) (.int 1000))))
  .nil))))⟩
noncomputable def f_law_count : Fn := ⟨2, 3, ["_law_cell", "_law_k", "_law_drawn"],
  (.cons (.asg 2 (.call "_law_mixed" (.cons (.var 0) (.cons (.var 1) .nil))))
  (.cons (.ife (.cmp .eq (.bin .mod (.bin .fdiv (.var 0) (.int 3)) (.int 4)) (.int 1)) (.cons (.ret (.bin .mod (.var 2) (.int 61)))
    .nil) .nil)
  (.cons (.ife (.cmp .eq (.bin .mod (.bin .fdiv (.var 0) (.int 3)) (.int 12)) (.int 6)) (.cons (.ret (.bin .mul (.bin .mod (.bin .fdiv (.var 2) (.int 7)) (.int 2)) (.bin .sub (.bin .pow (.int 10) (.int 9)) (.bin .mod (.var 2) (.int 50)))))
    .nil) .nil)
  (.cons (.ret (.bin .mod (.var 2) (.int 5)))
  .nil))))⟩
noncomputable def f_law_pairs : Fn := ⟨1, 7, ["_law_script", "_law_cell", "_law_many", "_law_found", "_law_seen", "_law_k", "_law_value_here"],
  (.cons (.asg 1 (.call "_law_cell_at" (.cons (.var 0) (.cons (.int 0) .nil))))
  (.cons (.asg 2 (.bin .add (.int 1) (.bin .mod (.var 1) (.int 5))))
  (.cons (.ife (.cmp .eq (.bin .mod (.bin .fdiv (.var 1) (.int 5)) (.int 8)) (.int 1)) (.cons (.asg 2 (.bin .add (.int 6) (.bin .mod (.bin .fdiv (.var 1) (.int 40)) (.int 5))))
    .nil) .nil)
  (.cons (.asg 3 (.list .nil))
  (.cons (.asg 4 .dict0)
  (.cons (.for (.one 5) (.range1 (.var 2)) (.cons (.asg 6 (.call "_law_value" (.cons (.call "_law_cell_at" (.cons (.var 0) (.cons (.int 1) .nil))) (.cons (.bin .add (.var 5) (.int 1)) .nil))))
    (.cons (.whl (.cmp .isIn (.var 6) (.var 4)) (.cons (.asg 6 (.bin .add (.bin .mod (.var 6) (.int 1000)) (.int 1)))
      .nil))
    (.cons (.setIt (.var 4) (.var 6) (.bool true))
    (.cons (.ex (.mt .append (.var 3) (.cons (.tup (.cons (.var 6) (.cons (.call "_law_count" (.cons (.call "_law_cell_at" (.cons (.var 0) (.cons (.int 2) .nil))) (.cons (.bin .add (.var 5) (.int 1)) .nil))) .nil))) .nil)))
    .nil)))))
  (.cons (.ret (.var 3))
  .nil)))))))⟩
noncomputable def f_law_alike : Fn := ⟨2, 3, ["_law_found", "_law_due_here", "_law_pair"],
  (.cons (.ife (.bop false (.cons (.nt (.isi (.var 0) [.list])) (.cons (.cmp .ne (.var 0) (.var 1)) .nil))) (.cons (.ret (.bool false))
    .nil) .nil)
  (.cons (.for (.one 2) (.ex (.var 0)) (.cons (.ife (.bop false (.cons (.nt (.isi (.var 2) [.tuple])) (.cons (.nt (.call "_law_whole" (.cons (.idx (.var 2) (.int 0)) .nil))) (.cons (.nt (.call "_law_whole" (.cons (.idx (.var 2) (.int 1)) .nil))) .nil)))) (.cons (.ret (.bool false))
      .nil) .nil)
    .nil))
  (.cons (.ret (.bool true))
  .nil)))⟩
end Mine.Internal
end

section
namespace Mine.Internal
open PySem (Str Addr)

section
variable {defs : String → Option Fn} {anc : String → List String} {n : Nat} {Q : V → Hp → Prop} {X : String → Hp → Prop} {H : Hp}
theorem cell_at_spec (h : defs "_law_cell_at" = some f_law_cell_at) {xs : List Int} {k : Int} (h0 : 0 ≤ k) (hk : k < 1000) (hq : ∀ c, Q (.int c) H) :
    callN defs anc (n + 1) "_law_cell_at" [.ro xs, .int k] Q X H := by
  simp only [callN, h, f_law_cell_at]
  (try simp only [s_nil, s_asg, s_setIt, s_ex, s_ret, s_ife, s_raise, s_pass, s_tr, app_nil, app_cons, wpE, wpEs, wpB, sr_ex, sr_r1, r1_i, wpHs, b_add, b_sub, b_mul, b_fdiv, b_mod, b_pow9, b_pow10, b_pow6, b_addL, c_lt, c_le, c_gt, c_ge, c_eqI, c_neI, c_eqS, c_neS, c_eqB, c_neB, asB_bool, i_tup0, i_tup1, i_tup2, i_pv0, i_pv1, i_ro, f_lenR, f_max, List.length_cons, List.length_nil, List.map_cons, List.map_nil, List.replicate, List.cons_append, List.nil_append, Nat.sub_self, List.getElem?_cons_zero, List.getElem?_cons_succ, List.set_cons_zero, List.set_cons_succ, and_true, true_and, Nat.reduceAdd, Nat.reduceSub, decide_eq_true_eq])
  refine ite_all (fun hl => ?_) fun hl => hq _
  exact ex_idx (P := fun z => Q (.int z) H) ⟨by omega, by omega⟩ h0 hl (hq _)
theorem need_kind_spec (h : defs "need_kind" = some f_need_kind) {v : Int} (h1 : 1 ≤ v ∧ v ≤ 1000 → Q .none H) (h2 : ¬ (1 ≤ v ∧ v ≤ 1000) → X "NoKind" H) :
    callN defs anc (n + 1) "need_kind" [.int v] Q X H := by
  simp only [callN, h, f_need_kind]
  (try simp only [s_nil, s_asg, s_setIt, s_ex, s_ret, s_ife, s_raise, s_pass, s_tr, app_nil, app_cons, wpE, wpEs, wpB, sr_ex, sr_r1, r1_i, wpHs, b_add, b_sub, b_mul, b_fdiv, b_mod, b_pow9, b_pow10, b_pow6, b_addL, c_lt, c_le, c_gt, c_ge, c_eqI, c_neI, c_eqS, c_neS, c_eqB, c_neB, asB_bool, i_tup0, i_tup1, i_tup2, i_pv0, i_pv1, i_ro, f_lenR, f_max, List.length_cons, List.length_nil, List.map_cons, List.map_nil, List.replicate, List.cons_append, List.nil_append, Nat.sub_self, List.getElem?_cons_zero, List.getElem?_cons_succ, List.set_cons_zero, List.set_cons_succ, and_true, true_and, Nat.reduceAdd, Nat.reduceSub, decide_eq_true_eq])
  (repeat' split) <;> simp_all <;> first | (apply h1; omega) | (apply h2; omega)
theorem need_count_spec (h : defs "need_count" = some f_need_count) {v : Int} (h1 : 0 ≤ v ∧ v ≤ 1000000000 → Q .none H) (h2 : ¬ (0 ≤ v ∧ v ≤ 1000000000) → X "NoCount" H) :
    callN defs anc (n + 1) "need_count" [.int v] Q X H := by
  simp only [callN, h, f_need_count]
  (try simp only [s_nil, s_asg, s_setIt, s_ex, s_ret, s_ife, s_raise, s_pass, s_tr, app_nil, app_cons, wpE, wpEs, wpB, sr_ex, sr_r1, r1_i, wpHs, b_add, b_sub, b_mul, b_fdiv, b_mod, b_pow9, b_pow10, b_pow6, b_addL, c_lt, c_le, c_gt, c_ge, c_eqI, c_neI, c_eqS, c_neS, c_eqB, c_neB, asB_bool, i_tup0, i_tup1, i_tup2, i_pv0, i_pv1, i_ro, f_lenR, f_max, List.length_cons, List.length_nil, List.map_cons, List.map_nil, List.replicate, List.cons_append, List.nil_append, Nat.sub_self, List.getElem?_cons_zero, List.getElem?_cons_succ, List.set_cons_zero, List.set_cons_succ, and_true, true_and, Nat.reduceAdd, Nat.reduceSub, decide_eq_true_eq])
  (repeat' split) <;> simp_all <;> first | (apply h1; omega) | (apply h2; omega)
theorem mixed_spec (h : defs "_law_mixed" = some f_law_mixed) {c k : Int} (hq : ∀ v, 0 ≤ v → v < 2147483647 → Q (.int v) H) :
    callN defs anc (n + 1) "_law_mixed" [.int c, .int k] Q X H := by
  simp only [callN, h, f_law_mixed]
  (try simp only [s_nil, s_asg, s_setIt, s_ex, s_ret, s_ife, s_raise, s_pass, s_tr, app_nil, app_cons, wpE, wpEs, wpB, sr_ex, sr_r1, r1_i, wpHs, b_add, b_sub, b_mul, b_fdiv, b_mod, b_pow9, b_pow10, b_pow6, b_addL, c_lt, c_le, c_gt, c_ge, c_eqI, c_neI, c_eqS, c_neS, c_eqB, c_neB, asB_bool, i_tup0, i_tup1, i_tup2, i_pv0, i_pv1, i_ro, f_lenR, f_max, List.length_cons, List.length_nil, List.map_cons, List.map_nil, List.replicate, List.cons_append, List.nil_append, Nat.sub_self, List.getElem?_cons_zero, List.getElem?_cons_succ, List.set_cons_zero, List.set_cons_succ, and_true, true_and, Nat.reduceAdd, Nat.reduceSub, decide_eq_true_eq])
  refine ⟨.inl ⟨by decide, by decide⟩, .inr ⟨by decide, by decide⟩, by decide, hq _ (Int.emod_nonneg _ (by decide)) (Int.emod_lt_of_pos _ (by decide))⟩
theorem value_spec (h : defs "_law_mixed" = some f_law_mixed)  (h' : defs "_law_value" = some f_law_value) {c k : Int} (hq : ∀ v H', 1 ≤ v → v ≤ 1000 → Ext H H' → Q (.int v) H') :
    callN defs anc (n + 2) "_law_value" [.int c, .int k] Q X H := by
  rw [callN, h']
  simp only [f_law_value]
  (try simp only [s_nil, s_asg, s_setIt, s_ex, s_ret, s_ife, s_raise, s_pass, s_tr, app_nil, app_cons, wpE, wpEs, wpB, sr_ex, sr_r1, r1_i, wpHs, b_add, b_sub, b_mul, b_fdiv, b_mod, b_pow9, b_pow10, b_pow6, b_addL, c_lt, c_le, c_gt, c_ge, c_eqI, c_neI, c_eqS, c_neS, c_eqB, c_neB, asB_bool, i_tup0, i_tup1, i_tup2, i_pv0, i_pv1, i_ro, f_lenR, f_max, List.length_cons, List.length_nil, List.map_cons, List.map_nil, List.replicate, List.cons_append, List.nil_append, Nat.sub_self, List.getElem?_cons_zero, List.getElem?_cons_succ, List.set_cons_zero, List.set_cons_succ, and_true, true_and, Nat.reduceAdd, Nat.reduceSub, decide_eq_true_eq])
  refine mixed_spec h fun v h0 h1 => ?_
  (try simp only [s_nil, s_asg, s_setIt, s_ex, s_ret, s_ife, s_raise, s_pass, s_tr, app_nil, app_cons, wpE, wpEs, wpB, sr_ex, sr_r1, r1_i, wpHs, b_add, b_sub, b_mul, b_fdiv, b_mod, b_pow9, b_pow10, b_pow6, b_addL, c_lt, c_le, c_gt, c_ge, c_eqI, c_neI, c_eqS, c_neS, c_eqB, c_neB, asB_bool, i_tup0, i_tup1, i_tup2, i_pv0, i_pv1, i_ro, f_lenR, f_max, List.length_cons, List.length_nil, List.map_cons, List.map_nil, List.replicate, List.cons_append, List.nil_append, Nat.sub_self, List.getElem?_cons_zero, List.getElem?_cons_succ, List.set_cons_zero, List.set_cons_succ, and_true, true_and, Nat.reduceAdd, Nat.reduceSub, decide_eq_true_eq])
  refine ⟨by decide, ite_all (fun _ => ?_) fun _ => ⟨by decide, ite_all (fun _ => ?_) fun _ => ?_⟩⟩
  · refine ⟨by decide, fun a ha => ⟨by decide, ?_⟩⟩
    rw [i_list (Hp.set_self _ _ _)]
    have e1 := Int.emod_nonneg v (show (10 : Int) ≠ 0 by decide)
    have e2 := Int.emod_lt_of_pos v (show (0 : Int) < 10 by decide)
    refine ex_idxA (P := fun z => Q z _) ⟨by omega, by omega⟩ e1 (by simpa using e2) ?_
    simp only [List.mem_cons, List.not_mem_nil, or_false]
    rintro z (rfl | rfl | rfl | rfl | rfl | rfl | rfl | rfl | rfl | rfl) <;> exact hq _ _ (by decide) (by decide) (.new _ ha)
  · exact ⟨by decide, hq _ _ (by omega) (by omega) (.refl _)⟩
  · exact ⟨by decide, hq _ _ (by omega) (by omega) (.refl _)⟩
theorem count_spec (h : defs "_law_mixed" = some f_law_mixed)  (h' : defs "_law_count" = some f_law_count) {c k : Int} (hq : ∀ v, 0 ≤ v → v ≤ 1000000000 → Q (.int v) H) :
    callN defs anc (n + 2) "_law_count" [.int c, .int k] Q X H := by
  rw [callN, h']
  simp only [f_law_count]
  (try simp only [s_nil, s_asg, s_setIt, s_ex, s_ret, s_ife, s_raise, s_pass, s_tr, app_nil, app_cons, wpE, wpEs, wpB, sr_ex, sr_r1, r1_i, wpHs, b_add, b_sub, b_mul, b_fdiv, b_mod, b_pow9, b_pow10, b_pow6, b_addL, c_lt, c_le, c_gt, c_ge, c_eqI, c_neI, c_eqS, c_neS, c_eqB, c_neB, asB_bool, i_tup0, i_tup1, i_tup2, i_pv0, i_pv1, i_ro, f_lenR, f_max, List.length_cons, List.length_nil, List.map_cons, List.map_nil, List.replicate, List.cons_append, List.nil_append, Nat.sub_self, List.getElem?_cons_zero, List.getElem?_cons_succ, List.set_cons_zero, List.set_cons_succ, and_true, true_and, Nat.reduceAdd, Nat.reduceSub, decide_eq_true_eq])
  refine mixed_spec h fun v h0 h1 => ?_
  (try simp only [s_nil, s_asg, s_setIt, s_ex, s_ret, s_ife, s_raise, s_pass, s_tr, app_nil, app_cons, wpE, wpEs, wpB, sr_ex, sr_r1, r1_i, wpHs, b_add, b_sub, b_mul, b_fdiv, b_mod, b_pow9, b_pow10, b_pow6, b_addL, c_lt, c_le, c_gt, c_ge, c_eqI, c_neI, c_eqS, c_neS, c_eqB, c_neB, asB_bool, i_tup0, i_tup1, i_tup2, i_pv0, i_pv1, i_ro, f_lenR, f_max, List.length_cons, List.length_nil, List.map_cons, List.map_nil, List.replicate, List.cons_append, List.nil_append, Nat.sub_self, List.getElem?_cons_zero, List.getElem?_cons_succ, List.set_cons_zero, List.set_cons_succ, and_true, true_and, Nat.reduceAdd, Nat.reduceSub, decide_eq_true_eq])
  refine ⟨⟨by decide, by decide⟩, by decide, ite_all (fun _ => ?_) fun _ => ⟨⟨by decide, by decide⟩, by decide, ite_all (fun _ => ?_) fun _ => ?_⟩⟩
  · exact ⟨by decide, hq _ (by omega) (by omega)⟩
  · have hz : v / 7 % 2 = 0 ∨ v / 7 % 2 = 1 := by omega
    refine ⟨⟨by decide, by decide⟩, by decide, by decide, .inl ⟨by omega, by omega⟩, ?_⟩
    rcases hz with e | e <;> rw [e] <;> exact hq _ (by omega) (by omega)
  · exact ⟨by decide, hq _ (by omega) (by omega)⟩
theorem whole_spec (h : defs "_law_whole" = some f_law_whole) {i : Int} (hq : Q (.bool true) H) :
    callN defs anc (n + 1) "_law_whole" [.int i] Q X H := by
  simp only [callN, h, f_law_whole]
  (try simp only [s_nil, s_asg, s_setIt, s_ex, s_ret, s_ife, s_raise, s_pass, s_tr, app_nil, app_cons, wpE, wpEs, wpB, sr_ex, sr_r1, r1_i, wpHs, b_add, b_sub, b_mul, b_fdiv, b_mod, b_pow9, b_pow10, b_pow6, b_addL, c_lt, c_le, c_gt, c_ge, c_eqI, c_neI, c_eqS, c_neS, c_eqB, c_neB, asB_bool, i_tup0, i_tup1, i_tup2, i_pv0, i_pv1, i_ro, f_lenR, f_max, List.length_cons, List.length_nil, List.map_cons, List.map_nil, List.replicate, List.cons_append, List.nil_append, Nat.sub_self, List.getElem?_cons_zero, List.getElem?_cons_succ, List.set_cons_zero, List.set_cons_succ, and_true, true_and, Nat.reduceAdd, Nat.reduceSub, decide_eq_true_eq])
  simp [isiAny, isi1, hq]
end
end Mine.Internal
end

section
namespace Mine.Internal
open PySem (Str Addr)
structure Good (ps : List (Int × Int)) : Prop where
  pos : 1 ≤ ps.length
  len : ps.length ≤ 10
  nodup : (ps.map (·.1)).Nodup
  val : ∀ q ∈ ps, 1 ≤ q.1 ∧ q.1 ≤ 1000
  cnt : ∀ q ∈ ps, 0 ≤ q.2 ∧ q.2 ≤ 1000000000
theorem ite_via {c : Prop} [Decidable c] {A B : Prop} {P : Int → Prop} {L U : Int} (x y : Int) (hA : P x → A) (hB : P y → B) (hx : L ≤ x ∧ x ≤ U) (hy : L ≤ y ∧ y ≤ U) (h : ∀ m, L ≤ m ∧ m ≤ U → P m) : if c then A else B := by
  split
  · exact hA (h x hx)
  · exact hB (h y hy)
theorem nodup_snoc {α : Type} {l : List α} {a : α} (h : l.Nodup) (ha : a ∉ l) : (l ++ [a]).Nodup := by
  rw [List.nodup_append]
  refine ⟨h, by simp, ?_⟩
  intro x hx y hy
  simp only [List.mem_cons, List.not_mem_nil, or_false] at hy
  subst hy; rintro rfl; exact ha hx
section
variable {defs : String → Option Fn} {anc : String → List String} {n : Nat} {Q : V → Hp → Prop} {X : String → Hp → Prop} {H : Hp}
theorem pairs_spec (h1 : defs "_law_mixed" = some f_law_mixed)  (h2 : defs "_law_value" = some f_law_value) (h3 : defs "_law_count" = some f_law_count) (h4 : defs "_law_cell_at" = some f_law_cell_at) (h5 : defs "_law_pairs" = some f_law_pairs) {xs : List Int}
    (hq : ∀ ps a H', Good ps → Ext H H' → H a = none → H' a = some (.list (lv ps)) → Q (.ref a) H') :
    callN defs anc (n + 3) "_law_pairs" [.ro xs] Q X H := by
  rw [callN, h5]
  simp only [f_law_pairs]
  (try simp only [s_nil, s_asg, s_setIt, s_ex, s_ret, s_ife, s_raise, s_pass, s_tr, app_nil, app_cons, wpE, wpEs, wpB, sr_ex, sr_r1, r1_i, wpHs, b_add, b_sub, b_mul, b_fdiv, b_mod, b_pow9, b_pow10, b_pow6, b_addL, c_lt, c_le, c_gt, c_ge, c_eqI, c_neI, c_eqS, c_neS, c_eqB, c_neB, asB_bool, i_tup0, i_tup1, i_tup2, i_pv0, i_pv1, i_ro, f_lenR, f_max, List.length_cons, List.length_nil, List.map_cons, List.map_nil, List.replicate, List.cons_append, List.nil_append, Nat.sub_self, List.getElem?_cons_zero, List.getElem?_cons_succ, List.set_cons_zero, List.set_cons_succ, and_true, true_and, Nat.reduceAdd, Nat.reduceSub, decide_eq_true_eq])
  refine cell_at_spec h4 (by decide) (by decide) fun c => ?_
  refine ⟨by decide, ⟨by decide, by decide⟩, by decide, ?_⟩
  (try simp only [s_nil, s_asg, s_setIt, s_ex, s_ret, s_ife, s_raise, s_pass, s_tr, app_nil, app_cons, wpE, wpEs, wpB, sr_ex, sr_r1, r1_i, wpHs, b_add, b_sub, b_mul, b_fdiv, b_mod, b_pow9, b_pow10, b_pow6, b_addL, c_lt, c_le, c_gt, c_ge, c_eqI, c_neI, c_eqS, c_neS, c_eqB, c_neB, asB_bool, i_tup0, i_tup1, i_tup2, i_pv0, i_pv1, i_ro, f_lenR, f_max, List.length_cons, List.length_nil, List.map_cons, List.map_nil, List.replicate, List.cons_append, List.nil_append, Nat.sub_self, List.getElem?_cons_zero, List.getElem?_cons_succ, List.set_cons_zero, List.set_cons_succ, and_true, true_and, Nat.reduceAdd, Nat.reduceSub, decide_eq_true_eq])
  refine ite_via (P := fun m : Int => newL [] (fun v H₁ => ∀ (a : Addr), H₁ a = none → restW ⟨callN defs anc (n + 2), anc⟩ false (f_law_pairs.body.drop 5) (fun _ H₁ => Q .none H₁) Q (fun c _ H₁ => X c H₁) [some (.ro xs), some (.int c), some (.int m), some v, some (.ref a), none, none] (H₁.set a (.dict []))) H) (L := 1) (U := 10) (6 + c / 40 % 5) (1 + c % 5) (fun h => ⟨⟨by decide, by decide⟩, by decide, h⟩) (fun h => h) (by omega) (by omega) fun m hm => ?_
  dsimp only [restW]
  simp only [f_law_pairs, Sts.drop]
  obtain ⟨hm0, hm⟩ := hm
  refine ⟨by decide, fun F hF S hS => for_cons ⟨rfl, ?_⟩⟩
  (try simp only [s_nil, s_asg, s_setIt, s_ex, s_ret, s_ife, s_raise, s_pass, s_tr, app_nil, app_cons, wpE, wpEs, wpB, sr_ex, sr_r1, r1_i, wpHs, b_add, b_sub, b_mul, b_fdiv, b_mod, b_pow9, b_pow10, b_pow6, b_addL, c_lt, c_le, c_gt, c_ge, c_eqI, c_neI, c_eqS, c_neS, c_eqB, c_neB, asB_bool, i_tup0, i_tup1, i_tup2, i_pv0, i_pv1, i_ro, f_lenR, f_max, List.length_cons, List.length_nil, List.map_cons, List.map_nil, List.replicate, List.cons_append, List.nil_append, Nat.sub_self, List.getElem?_cons_zero, List.getElem?_cons_succ, List.set_cons_zero, List.set_cons_succ, and_true, true_and, Nat.reduceAdd, Nat.reduceSub, decide_eq_true_eq])
  refine ⟨⟨by omega, by omega⟩, ?_⟩
  have hFS : F ≠ S := ne_new (Hp.set_self H F (.list [])) hS
  have hS0 : H S = none := by rwa [Hp.set_ne _ (Ne.symm hFS)] at hS
  refine forGo_inv (I := fun done rest ρ H' => rangeL 0 1 m.toNat = done ++ rest ∧ ∃ ps kvs x5 x6, ρ = [some (.ro xs), some (.int c), some (.int m), some (.ref F), some (.ref S), x5, x6] ∧ Ext H H' ∧ H' F = some (.list (lv ps)) ∧ H' S = some (.dict kvs) ∧ ps.length = done.length ∧ keys kvs = ps.map (·.1) ∧ (ps.map (·.1)).Nodup ∧ (∀ q ∈ ps, 1 ≤ q.1 ∧ q.1 ≤ 1000) ∧ (∀ q ∈ ps, 0 ≤ q.2 ∧ q.2 ≤ 1000000000)) ?_ ?_ ?_ _ [] _ _ ⟨rfl, [], [], none, none, rfl, ((Ext.new _ hF).trans (.new _ hS)), by rw [Hp.set_ne _ hFS]; exact Hp.set_self _ _ _, Hp.set_self _ _ _, rfl, rfl, by simp, by simp, by simp⟩
  · intro _ _ _ _ _ p hp; cases hp
  · rintro done ρ H' ⟨hr, ps, kvs, x5, x6, rfl, hE, e1, e2, l1, l2, l3, l4, l5⟩
    rw [restW]
    (try simp only [s_nil, s_asg, s_setIt, s_ex, s_ret, s_ife, s_raise, s_pass, s_tr, app_nil, app_cons, wpE, wpEs, wpB, sr_ex, sr_r1, r1_i, wpHs, b_add, b_sub, b_mul, b_fdiv, b_mod, b_pow9, b_pow10, b_pow6, b_addL, c_lt, c_le, c_gt, c_ge, c_eqI, c_neI, c_eqS, c_neS, c_eqB, c_neB, asB_bool, i_tup0, i_tup1, i_tup2, i_pv0, i_pv1, i_ro, f_lenR, f_max, List.length_cons, List.length_nil, List.map_cons, List.map_nil, List.replicate, List.cons_append, List.nil_append, Nat.sub_self, List.getElem?_cons_zero, List.getElem?_cons_succ, List.set_cons_zero, List.set_cons_succ, and_true, true_and, Nat.reduceAdd, Nat.reduceSub, decide_eq_true_eq])
    have := congrArg List.length hr
    rw [rangeL_length] at this; simp at this
    exact hq ps F H' ⟨by omega, by omega, l3, l4, l5⟩ hE hF e1
  · rintro done it rest ρ H' K' ⟨hr, ps, kvs, x5, x6, rfl, hE, e1, e2, l1, l2, l3, l4, l5⟩ hK'
    obtain ⟨rfl, hlt⟩ := rangeL_at hr
    refine ⟨_, rfl, ?_⟩
    rw [bodyW]
    (try simp only [s_nil, s_asg, s_setIt, s_ex, s_ret, s_ife, s_raise, s_pass, s_tr, app_nil, app_cons, wpE, wpEs, wpB, sr_ex, sr_r1, r1_i, wpHs, b_add, b_sub, b_mul, b_fdiv, b_mod, b_pow9, b_pow10, b_pow6, b_addL, c_lt, c_le, c_gt, c_ge, c_eqI, c_neI, c_eqS, c_neS, c_eqB, c_neB, asB_bool, i_tup0, i_tup1, i_tup2, i_pv0, i_pv1, i_ro, f_lenR, f_max, List.length_cons, List.length_nil, List.map_cons, List.map_nil, List.replicate, List.cons_append, List.nil_append, Nat.sub_self, List.getElem?_cons_zero, List.getElem?_cons_succ, List.set_cons_zero, List.set_cons_succ, and_true, true_and, Nat.reduceAdd, Nat.reduceSub, decide_eq_true_eq])
    refine cell_at_spec h4 (by decide) (by decide) fun c1 => ?_
    refine value_spec h1 h2 fun v H₂ hv1 hv2 hE2 => ?_
    have e1' := hE2 _ _ e1
    have e2' := hE2 _ _ e2
    obtain ⟨nn, hnn⟩ := free_place 1000 (by decide) (ks := keys kvs) (by rw [l2, List.length_map]; omega) v
    refine whl_cons (I := fun k ρ H'' => H'' = H₂ ∧ ∃ v : Int, ρ = [some (.ro xs), some (.int c), some (.int m), some (.ref F), some (.ref S), some (.int (0 + done.length * 1)), some (.int v)] ∧ 1 ≤ v ∧ v ≤ 1000 ∧ ((v - 1 + (k : Int)) % (1000 : Int) + 1) ∉ keys kvs) ?_ (n := nn) ⟨rfl, v, rfl, hv1, hv2, hnn⟩
    rintro k ρ H'' K'' ⟨rfl, u, rfl, hu1, hu2, hu⟩ hK''
    (try simp only [s_nil, s_asg, s_setIt, s_ex, s_ret, s_ife, s_raise, s_pass, s_tr, app_nil, app_cons, wpE, wpEs, wpB, sr_ex, sr_r1, r1_i, wpHs, b_add, b_sub, b_mul, b_fdiv, b_mod, b_pow9, b_pow10, b_pow6, b_addL, c_lt, c_le, c_gt, c_ge, c_eqI, c_neI, c_eqS, c_neS, c_eqB, c_neB, asB_bool, i_tup0, i_tup1, i_tup2, i_pv0, i_pv1, i_ro, f_lenR, f_max, List.length_cons, List.length_nil, List.map_cons, List.map_nil, List.replicate, List.cons_append, List.nil_append, Nat.sub_self, List.getElem?_cons_zero, List.getElem?_cons_succ, List.set_cons_zero, List.set_cons_succ, and_true, true_and, Nat.reduceAdd, Nat.reduceSub, decide_eq_true_eq])
    rw [c_inD e2']
    simp only [dget_some_iff]
    refine ite_all (fun hin => ?_) fun hin => ?_
    · dsimp only [bodyW]
      (try simp only [s_nil, s_asg, s_setIt, s_ex, s_ret, s_ife, s_raise, s_pass, s_tr, app_nil, app_cons, wpE, wpEs, wpB, sr_ex, sr_r1, r1_i, wpHs, b_add, b_sub, b_mul, b_fdiv, b_mod, b_pow9, b_pow10, b_pow6, b_addL, c_lt, c_le, c_gt, c_ge, c_eqI, c_neI, c_eqS, c_neS, c_eqB, c_neB, asB_bool, i_tup0, i_tup1, i_tup2, i_pv0, i_pv1, i_ro, f_lenR, f_max, List.length_cons, List.length_nil, List.map_cons, List.map_nil, List.replicate, List.cons_append, List.nil_append, Nat.sub_self, List.getElem?_cons_zero, List.getElem?_cons_succ, List.set_cons_zero, List.set_cons_succ, and_true, true_and, Nat.reduceAdd, Nat.reduceSub, decide_eq_true_eq])
      refine ⟨by decide, ?_⟩
      cases k with
      | zero =>
        have : (u - 1 + ((0 : Nat) : Int)) % 1000 + 1 = u := by omega
        rw [this] at hu; exact absurd hin hu
      | succ k =>
        refine hK'' k _ _ (Nat.lt_succ_self _) ⟨rfl, _, rfl, by omega, by omega, ?_⟩
        have : (u % 1000 + 1 - 1 + (k : Int)) % 1000 + 1 = (u - 1 + ((k + 1 : Nat) : Int)) % 1000 + 1 := by omega
        rw [this]; exact hu
    · dsimp only [restW]
      (try simp only [s_nil, s_asg, s_setIt, s_ex, s_ret, s_ife, s_raise, s_pass, s_tr, app_nil, app_cons, wpE, wpEs, wpB, sr_ex, sr_r1, r1_i, wpHs, b_add, b_sub, b_mul, b_fdiv, b_mod, b_pow9, b_pow10, b_pow6, b_addL, c_lt, c_le, c_gt, c_ge, c_eqI, c_neI, c_eqS, c_neS, c_eqB, c_neB, asB_bool, i_tup0, i_tup1, i_tup2, i_pv0, i_pv1, i_ro, f_lenR, f_max, List.length_cons, List.length_nil, List.map_cons, List.map_nil, List.replicate, List.cons_append, List.nil_append, Nat.sub_self, List.getElem?_cons_zero, List.getElem?_cons_succ, List.set_cons_zero, List.set_cons_succ, and_true, true_and, Nat.reduceAdd, Nat.reduceSub, decide_eq_true_eq])
      rw [set_D e2']
      refine ⟨by rw [← keys_length, l2, List.length_map, lim_eq]; omega, ?_⟩
      have e1'' : (H''.set S (.dict (dset u (.bool true) kvs))) F = some (.list (lv ps)) := by rw [Hp.set_ne _ hFS]; exact e1'
      rw [r_L e1'']
      refine ⟨⟨by decide, by decide⟩, ?_⟩
      refine cell_at_spec h4 (by decide) (by decide) fun c2 => ?_
      refine count_spec h1 h3 fun cc cc0 cc1 => ?_
      refine ⟨by decide, ?_⟩
      rw [m_append e1'']
      refine ⟨by rw [lv_length, lim_eq]; omega, ?_⟩
      refine hK' _ _ ⟨by rw [hr]; simp, ps ++ [(u, cc)], dset u (.bool true) kvs, _, _, rfl, ?_, ?_, ?_, by simp [l1], by rw [dset_new hin]; simpa [keys] using l2, by rw [List.map_append]; exact nodup_snoc l3 (by rw [← l2]; exact hin), ?_, ?_⟩
      · exact .setNew _ (.setNew _ (hE.trans hE2) hS0) hF
      · rw [Hp.set_self, lv_append]; rfl
      · rw [Hp.set_ne _ (Ne.symm hFS), Hp.set_self]
      · intro q hq'
        rcases List.mem_append.mp hq' with h | h
        · exact l4 q h
        · simp only [List.mem_cons, List.not_mem_nil, or_false] at h; subst h; exact ⟨hu1, hu2⟩
      · intro q hq'
        rcases List.mem_append.mp hq' with h | h
        · exact l5 q h
        · simp only [List.mem_cons, List.not_mem_nil, or_false] at h; subst h; exact ⟨cc0, cc1⟩

end
end Mine.Internal
end

section
namespace Mine.Internal
open PySem (Str Addr)
section
variable {defs : String → Option Fn} {anc : String → List String} {n : Nat} {Q : V → Hp → Prop} {X : String → Hp → Prop} {H : Hp}
theorem i_lv {p : Addr} {ps : List (Int × Int)} {i : Int} (h : H p = some (.list (lv ps))) (h0 : 0 ≤ i) (h1 : i < ps.length) (hl : ps.length ≤ Lim) (hq : ∀ r, ps[i.toNat]? = some r → Q (pv r) H) : widx (.ref p) (.int i) Q H := by
  rw [i_list h]
  rw [lim_eq] at hl
  have : i.toNat < ps.length := by omega
  exact ⟨i.toNat, pv ps[i.toNat], ⟨by omega, by omega⟩, place_in h0 (by rw [lv_length]; exact h1), by simp [lv, this], hq _ (List.getElem?_eq_getElem this)⟩
end
end Mine.Internal
end

section
namespace Mine.Internal
open PySem (Str Addr)
noncomputable def kvI (p : Int × Int) : Int × V := (p.1, .int p.2)
theorem keys_kvI (ps : List (Int × Int)) : keys (ps.map kvI) = ps.map (·.1) := by simp [keys, kvI, Function.comp_def]
section
variable {defs : String → Option Fn} {anc : String → List String} {n : Nat} {Q : V → Hp → Prop} {X : String → Hp → Prop} {H : Hp}
theorem pairs_of_spec (h5 : defs "pairs_of" = some f_pairs_of) {p : Addr} {ps : List (Int × Int)} (hp : H p = some (.dict (ps.map kvI))) (hl : ps.length ≤ 63) (hn : (ps.map (·.1)).Nodup)
    (hq : ∀ qs a H', qs.Perm ps → (qs.map (·.1)).Pairwise (· ≤ ·) → Ext H H' → H a = none → H' a = some (.list (lv qs)) → Q (.ref a) H') :
    callN defs anc (n + 1) "pairs_of" [.ref p] Q X H := by
  rw [callN, h5]
  simp only [f_pairs_of]
  (try simp only [s_nil, s_asg, s_setIt, s_ex, s_ret, s_ife, s_raise, s_pass, s_tr, app_nil, app_cons, wpE, wpEs, wpB, sr_ex, sr_r1, r1_i, wpHs, b_add, b_sub, b_mul, b_fdiv, b_mod, b_pow9, b_pow10, b_pow6, b_addL, c_lt, c_le, c_gt, c_ge, c_eqI, c_neI, c_eqS, c_neS, c_eqB, c_neB, asB_bool, i_tup0, i_tup1, i_tup2, i_pv0, i_pv1, i_ro, f_lenR, f_max, List.length_cons, List.length_nil, List.map_cons, List.map_nil, List.replicate, List.cons_append, List.nil_append, Nat.sub_self, List.getElem?_cons_zero, List.getElem?_cons_succ, List.set_cons_zero, List.set_cons_succ, and_true, true_and, Nat.reduceAdd, Nat.reduceSub, decide_eq_true_eq])
  rw [f_sortD hp]
  refine ⟨by simp; omega, fun js hj hs => ⟨?_, fun a ha => ?_⟩⟩
  · have := hj.length_eq; rw [List.length_map, lim_eq]; simp at this; omega
  refine src_of (Hp.set_self _ _ _) ?_
  have hj : js.Perm (ps.map (·.1)) := by have := keys_kvI ps; rw [keys] at this; rwa [this] at hj
  have hp' := Ext.new (.list (js.map V.int)) ha _ _ hp
  have hjl : js.length = ps.length := by have := hj.length_eq; simpa using this
  let f : Int → Int × Int := fun k => (k, match dget k (ps.map kvI) with | some (.int v) => v | _ => 0)
  have hf : ∀ q ∈ ps, dget q.1 (ps.map kvI) = some (.int q.2) := fun q hq => dget_mem (by rw [keys_kvI]; exact hn) (List.mem_map.mpr ⟨q, hq, rfl⟩)
  have hf2 : ∀ q ∈ ps, f q.1 = q := fun q hq => by simp only [f, hf q hq]
  refine compGo_map (f := fun it => match it with | .v (.int k) => pv (f k) | _ => .none) (fun q hq => by simp only [List.mem_cons, List.not_mem_nil, or_false] at hq; subst hq; exact Hp.set_self _ _ _) _ [] (by simp [lim_eq]; omega) ?_ ?_
  · intro it hit
    simp only [List.mem_map] at hit
    obtain ⟨v, ⟨k, hk, rfl⟩, rfl⟩ := hit
    refine ⟨_, rfl, fun K hK => ?_⟩
    (try simp only [s_nil, s_asg, s_setIt, s_ex, s_ret, s_ife, s_raise, s_pass, s_tr, app_nil, app_cons, wpE, wpEs, wpB, sr_ex, sr_r1, r1_i, wpHs, b_add, b_sub, b_mul, b_fdiv, b_mod, b_pow9, b_pow10, b_pow6, b_addL, c_lt, c_le, c_gt, c_ge, c_eqI, c_neI, c_eqS, c_neS, c_eqB, c_neB, asB_bool, i_tup0, i_tup1, i_tup2, i_pv0, i_pv1, i_ro, f_lenR, f_max, List.length_cons, List.length_nil, List.map_cons, List.map_nil, List.replicate, List.cons_append, List.nil_append, Nat.sub_self, List.getElem?_cons_zero, List.getElem?_cons_succ, List.set_cons_zero, List.set_cons_succ, and_true, true_and, Nat.reduceAdd, Nat.reduceSub, decide_eq_true_eq])
    obtain ⟨q, hq1, hq2⟩ := List.mem_map.mp (hj.mem_iff.mp hk)
    rw [i_dict hp']
    subst hq2
    refine ⟨_, hf q hq1, Nat.le_of_ble_eq_true rfl, ?_⟩
    simp only [hf2 q hq1] at hK
    exact hK
  · refine ⟨by simp [lim_eq]; omega, fun b hb => ?_⟩
    have hb0 : H b = none := (Ext.new _ ha).no hb
    refine hq (js.map f) b _ ?_ ?_ ((Ext.new _ ha).trans (.new _ hb)) hb0 ?_
    · have h1 := hj.map f
      rw [List.map_map] at h1
      have h2 : ps.map (f ∘ fun x => x.1) = ps := by
        exact (List.map_congr_left (g := id) fun q hq => hf2 q hq).trans (by simp)
      rw [h2] at h1; exact h1
    · rw [List.map_map]; simpa [f, Function.comp_def] using hs
    · rw [Hp.set_self]; simp [lv, Function.comp_def]
theorem alike_spec (h1 : defs "_law_whole" = some f_law_whole) (h5 : defs "_law_alike" = some f_law_alike) {p q : Addr} {ps : List (Int × Int)} (hp : H p = some (.list (lv ps))) (hq' : H q = some (.list (lv ps))) (hq : Q (.bool true) H) :
    callN defs anc (n + 2) "_law_alike" [.ref p, .ref q] Q X H := by
  rw [callN, h5]
  simp only [f_law_alike]
  (try simp only [s_nil, s_asg, s_setIt, s_ex, s_ret, s_ife, s_raise, s_pass, s_tr, app_nil, app_cons, wpE, wpEs, wpB, sr_ex, sr_r1, r1_i, wpHs, b_add, b_sub, b_mul, b_fdiv, b_mod, b_pow9, b_pow10, b_pow6, b_addL, c_lt, c_le, c_gt, c_ge, c_eqI, c_neI, c_eqS, c_neS, c_eqB, c_neB, asB_bool, i_tup0, i_tup1, i_tup2, i_pv0, i_pv1, i_ro, f_lenR, f_max, List.length_cons, List.length_nil, List.map_cons, List.map_nil, List.replicate, List.cons_append, List.nil_append, Nat.sub_self, List.getElem?_cons_zero, List.getElem?_cons_succ, List.set_cons_zero, List.set_cons_succ, and_true, true_and, Nat.reduceAdd, Nat.reduceSub, decide_eq_true_eq])
  refine ⟨true, by simp [isiAny, isi1, hp], ?_⟩
  rw [c_neLv hp hq']
  simp only [decide_true, Bool.not_true, if_true]
  rw [if_neg (by simp)]
  refine for_cons ⟨rfl, ?_⟩
  (try simp only [s_nil, s_asg, s_setIt, s_ex, s_ret, s_ife, s_raise, s_pass, s_tr, app_nil, app_cons, wpE, wpEs, wpB, sr_ex, sr_r1, r1_i, wpHs, b_add, b_sub, b_mul, b_fdiv, b_mod, b_pow9, b_pow10, b_pow6, b_addL, c_lt, c_le, c_gt, c_ge, c_eqI, c_neI, c_eqS, c_neS, c_eqB, c_neB, asB_bool, i_tup0, i_tup1, i_tup2, i_pv0, i_pv1, i_ro, f_lenR, f_max, List.length_cons, List.length_nil, List.map_cons, List.map_nil, List.replicate, List.cons_append, List.nil_append, Nat.sub_self, List.getElem?_cons_zero, List.getElem?_cons_succ, List.set_cons_zero, List.set_cons_succ, and_true, true_and, Nat.reduceAdd, Nat.reduceSub, decide_eq_true_eq])
  refine src_of hp ?_
  refine forGo_inv (I := fun dn rs ρ H' => H' = H ∧ ∃ bs x2, rs = (lv bs).map It.v ∧ ρ = [some (.ref p), some (.ref q), x2]) ?_ ?_ ?_ _ [] _ _ ⟨rfl, ps, _, rfl, rfl⟩
  · rintro dn rs ρ H' ⟨rfl, _⟩ z hz
    simp only [List.mem_cons, List.not_mem_nil, or_false] at hz; subst hz; exact hp
  · rintro dn ρ H' ⟨rfl, bs, x2, e2, rfl⟩
    rw [restW]
    (try simp only [s_nil, s_asg, s_setIt, s_ex, s_ret, s_ife, s_raise, s_pass, s_tr, app_nil, app_cons, wpE, wpEs, wpB, sr_ex, sr_r1, r1_i, wpHs, b_add, b_sub, b_mul, b_fdiv, b_mod, b_pow9, b_pow10, b_pow6, b_addL, c_lt, c_le, c_gt, c_ge, c_eqI, c_neI, c_eqS, c_neS, c_eqB, c_neB, asB_bool, i_tup0, i_tup1, i_tup2, i_pv0, i_pv1, i_ro, f_lenR, f_max, List.length_cons, List.length_nil, List.map_cons, List.map_nil, List.replicate, List.cons_append, List.nil_append, Nat.sub_self, List.getElem?_cons_zero, List.getElem?_cons_succ, List.set_cons_zero, List.set_cons_succ, and_true, true_and, Nat.reduceAdd, Nat.reduceSub, decide_eq_true_eq])
    exact hq
  · rintro dn it rs ρ H' K' ⟨rfl, bs, x2, e2, rfl⟩ hK'
    cases bs with
    | nil => simp [lv] at e2
    | cons b bs =>
      simp only [lv, List.map_cons, List.cons.injEq] at e2
      obtain ⟨rfl, rfl⟩ := e2
      refine ⟨_, rfl, ?_⟩
      rw [bodyW]
      (try simp only [s_nil, s_asg, s_setIt, s_ex, s_ret, s_ife, s_raise, s_pass, s_tr, app_nil, app_cons, wpE, wpEs, wpB, sr_ex, sr_r1, r1_i, wpHs, b_add, b_sub, b_mul, b_fdiv, b_mod, b_pow9, b_pow10, b_pow6, b_addL, c_lt, c_le, c_gt, c_ge, c_eqI, c_neI, c_eqS, c_neS, c_eqB, c_neB, asB_bool, i_tup0, i_tup1, i_tup2, i_pv0, i_pv1, i_ro, f_lenR, f_max, List.length_cons, List.length_nil, List.map_cons, List.map_nil, List.replicate, List.cons_append, List.nil_append, Nat.sub_self, List.getElem?_cons_zero, List.getElem?_cons_succ, List.set_cons_zero, List.set_cons_succ, and_true, true_and, Nat.reduceAdd, Nat.reduceSub, decide_eq_true_eq])
      refine ⟨true, by simp [isiAny, isi1, pv], ?_⟩
      simp only [Bool.not_true, if_true]
      refine whole_spec h1 ?_
      (try simp only [s_nil, s_asg, s_setIt, s_ex, s_ret, s_ife, s_raise, s_pass, s_tr, app_nil, app_cons, wpE, wpEs, wpB, sr_ex, sr_r1, r1_i, wpHs, b_add, b_sub, b_mul, b_fdiv, b_mod, b_pow9, b_pow10, b_pow6, b_addL, c_lt, c_le, c_gt, c_ge, c_eqI, c_neI, c_eqS, c_neS, c_eqB, c_neB, asB_bool, i_tup0, i_tup1, i_tup2, i_pv0, i_pv1, i_ro, f_lenR, f_max, List.length_cons, List.length_nil, List.map_cons, List.map_nil, List.replicate, List.cons_append, List.nil_append, Nat.sub_self, List.getElem?_cons_zero, List.getElem?_cons_succ, List.set_cons_zero, List.set_cons_succ, and_true, true_and, Nat.reduceAdd, Nat.reduceSub, decide_eq_true_eq])
      simp only [Bool.not_true, if_true]
      refine whole_spec h1 ?_
      (try simp only [s_nil, s_asg, s_setIt, s_ex, s_ret, s_ife, s_raise, s_pass, s_tr, app_nil, app_cons, wpE, wpEs, wpB, sr_ex, sr_r1, r1_i, wpHs, b_add, b_sub, b_mul, b_fdiv, b_mod, b_pow9, b_pow10, b_pow6, b_addL, c_lt, c_le, c_gt, c_ge, c_eqI, c_neI, c_eqS, c_neS, c_eqB, c_neB, asB_bool, i_tup0, i_tup1, i_tup2, i_pv0, i_pv1, i_ro, f_lenR, f_max, List.length_cons, List.length_nil, List.map_cons, List.map_nil, List.replicate, List.cons_append, List.nil_append, Nat.sub_self, List.getElem?_cons_zero, List.getElem?_cons_succ, List.set_cons_zero, List.set_cons_succ, and_true, true_and, Nat.reduceAdd, Nat.reduceSub, decide_eq_true_eq])
      rw [if_neg (by simp)]
      exact hK' _ _ ⟨rfl, bs, _, rfl, rfl⟩
end
end Mine.Internal
end

section
namespace Mine.Internal
open PySem (Str Addr)
theorem isi_own {anc : String → List String} {H : Hp} {d c : String} : isiAny anc H (.exc d) [.own c] = some ((anc d).contains c) := by simp [isiAny, isi1]
theorem isi_any {anc : String → List String} {H : Hp} {d : String} : ∀ {ls : List String}, isiAny anc H (.exc d) (ls.map Cn.own) = some (ls.any (anc d).contains)
  | [] => rfl
  | c :: ls => by rw [List.map_cons, isiAny, isi_any (ls := ls)]; rfl
theorem isi_val {anc : String → List String} {H : Hp} {d : String} : isiAny anc H (.exc d) [.valueError] = some true := by simp [isiAny, isi1]
section
variable {defs : String → Option Fn} {n : Nat} {Q : V → Hp → Prop} {X : String → Hp → Prop} {H : Hp}
end
end Mine.Internal
end

section
namespace Mine.Internal
open PySem (Str Addr)
theorem forGo_map {α : Type} {t : Tg} {w : List (Addr × Ob)} {body : Loc → (Loc → Hp → Prop) → Hp → Prop} {N : Loc → Hp → Prop} {f : α → It} {l : List α} (I : List α → Loc → Hp → Prop)
    (hw : ∀ as ρ H, I as ρ H → okH w H) (hN : ∀ ρ H, I l ρ H → N ρ H)
    (step : ∀ as b bs ρ H K, l = as ++ b :: bs → I as ρ H → (∀ ρ' H', I (as ++ [b]) ρ' H' → K ρ' H') → ∃ ρ', bindT t (f b) ρ = some ρ' ∧ body ρ' K H) {ρ : Loc} {H : Hp} (h : I [] ρ H) : forGo t w body (l.map f) ρ N H := by
  have go : ∀ (bs as : List α) (ρ : Loc) (H : Hp), l = as ++ bs → I as ρ H → forGo t w body (bs.map f) ρ N H := by
    intro bs
    induction bs with
    | nil => intro as ρ H e i; rw [List.append_nil] at e; subst e; exact ⟨hw _ _ _ i, hN _ _ i⟩
    | cons b bs ih =>
      intro as ρ H e i
      exact ⟨hw _ _ _ i, step as b bs ρ H _ e i fun ρ' H' i' => ih (as ++ [b]) ρ' H' (by rw [e]; simp) i'⟩
  exact go l [] ρ H rfl h
theorem lvIt (ps : List (Int × Int)) : (lv ps).map It.v = ps.map (fun p => It.v (pv p)) := by simp [lv, Function.comp_def]
theorem okH_one {p : Addr} {o : Ob} {H : Hp} (h : H p = some o) : okH [(p, o)] H := fun q hq => by
  simp only [List.mem_cons, List.not_mem_nil, or_false] at hq; subst hq; exact h
theorem compGo_if {α : Type} {t : Tg} {w : List (Addr × Ob)} {ρ : Loc} {elt : Loc → (V → Hp → Prop) → Hp → Prop} {test : Loc → (Bool → Hp → Prop) → Hp → Prop} {Q : List V → Hp → Prop} {H : Hp} (g : α → It) (c : α → Bool) (f : α → V) (hw : okH w H) :
    ∀ (l : List α) (acc : List V), acc.length + l.length ≤ Lim → (∀ a ∈ l, ∃ ρ', bindT t (g a) ρ = some ρ' ∧ (∀ K, K (c a) H → test ρ' K H) ∧ (c a = true → ∀ K, K (f a) H → elt ρ' K H)) → Q (acc ++ (l.filter c).map f) H →
    compGo t w ρ elt test (l.map g) acc Q H
  | [], acc, _, _, q => by simp only [List.map_nil, compGo]; exact ⟨hw, by simpa using q⟩
  | a :: l, acc, hl, he, q => by
    simp only [List.map_cons, compGo]
    obtain ⟨ρ', e, k1, k2⟩ := he a (.head _)
    simp only [List.length_cons] at hl
    refine ⟨hw, by omega, ρ', e, k1 _ ?_⟩
    by_cases hc : c a = true
    · rw [if_pos hc]
      exact k2 hc _ (compGo_if g c f hw l (acc ++ [f a]) (by simp; omega) (fun x h => he x (.tail _ h)) (by simpa [hc] using q))
    · rw [if_neg hc]
      exact compGo_if g c f hw l acc (by omega) (fun x h => he x (.tail _ h)) (by simpa [hc] using q)
theorem compGo_all {α : Type} {t : Tg} {w : List (Addr × Ob)} {ρ : Loc} {elt : Loc → (V → Hp → Prop) → Hp → Prop} {Q : List V → Hp → Prop} {H : Hp} (g : α → It) (f : α → V) (hw : okH w H) {l : List α} (hl : l.length ≤ Lim)
    (he : ∀ a ∈ l, ∃ ρ', bindT t (g a) ρ = some ρ' ∧ ∀ K, K (f a) H → elt ρ' K H) (q : Q (l.map f) H) : compGo t w ρ elt (fun _ K H₂ => K true H₂) (l.map g) [] Q H :=
  compGo_if g (fun _ => true) f hw l [] (by simpa using hl) (fun a ha => let ⟨ρ', e, k⟩ := he a ha; ⟨ρ', e, fun K hK => hK, fun _ => k⟩) (by
    have : List.filter (fun _ : α => true) l = l := by simp
    rw [this]; exact q)
noncomputable def lk (v : Int) : List (Int × Int) → Option Int
  | [] => none
  | p :: r => if p.1 = v then some p.2 else lk v r
noncomputable def setP (v c : Int) : List (Int × Int) → List (Int × Int)
  | [] => [(v, c)]
  | p :: r => if p.1 = v then (p.1, c) :: r else p :: setP v c r
theorem lk_none {v : Int} : ∀ {ps : List (Int × Int)}, lk v ps = none ↔ v ∉ ps.map (·.1)
  | [] => by simp [lk]
  | p :: r => by
    have ih := lk_none (v := v) (ps := r)
    simp only [lk, List.map_cons, List.mem_cons, not_or]
    split
    · rename_i e; simp [e]
    · rename_i e; rw [ih]; exact ⟨fun h => ⟨fun q => e q.symm, h⟩, (·.2)⟩
theorem lk_some {v c : Int} : ∀ {ps : List (Int × Int)}, lk v ps = some c → (v, c) ∈ ps
  | [], h => by simp [lk] at h
  | p :: r, h => by
    simp only [lk] at h
    split at h
    · rename_i e; cases h; subst e; exact .head _
    · exact .tail _ (lk_some h)
theorem lk_mem {v c : Int} : ∀ {ps : List (Int × Int)}, (ps.map (·.1)).Nodup → (v, c) ∈ ps → lk v ps = some c
  | p :: r, hn, hm => by
    simp only [List.map_cons, List.nodup_cons] at hn
    rcases List.mem_cons.mp hm with e | hm
    · subst e; simp [lk]
    · have : v ∈ r.map (·.1) := List.mem_map.mpr ⟨_, hm, rfl⟩
      rw [lk, if_neg (by intro e; exact hn.1 (e ▸ this))]
      exact lk_mem hn.2 hm
theorem lk_append {v : Int} : ∀ {as bs : List (Int × Int)}, v ∉ as.map (·.1) → lk v (as ++ bs) = lk v bs
  | [], bs, _ => rfl
  | p :: r, bs, h => by
    simp only [List.map_cons, List.mem_cons, not_or] at h
    rw [List.cons_append, lk, if_neg (fun e => h.1 e.symm)]
    exact lk_append h.2
theorem dset_setP {v c : Int} : ∀ {ps : List (Int × Int)}, dset v (.int c) (ps.map kvI) = (setP v c ps).map kvI
  | [] => rfl
  | p :: r => by
    simp only [List.map_cons, setP]
    rw [show kvI p = (p.1, V.int p.2) from rfl, dset]
    split
    · simp [kvI]
    · rw [dset_setP (ps := r)]; rfl
theorem setP_new {v c : Int} : ∀ {ps : List (Int × Int)}, v ∉ ps.map (·.1) → setP v c ps = ps ++ [(v, c)]
  | [], _ => rfl
  | p :: r, h => by
    simp only [List.map_cons, List.mem_cons, not_or] at h
    rw [setP, if_neg (fun e => h.1 e.symm), setP_new h.2]; rfl
theorem setP_old {v c : Int} : ∀ {ps : List (Int × Int)}, (ps.map (·.1)).Nodup → v ∈ ps.map (·.1) → setP v c ps = ps.map fun p => if p.1 = v then (v, c) else p
  | p :: r, hn, h => by
    simp only [List.map_cons, List.nodup_cons] at hn
    simp only [setP, List.map_cons]
    split
    · rename_i e
      have : List.map (fun p => if p.1 = v then (v, c) else p) r = r := by
        refine (List.map_congr_left (g := id) fun q hq => ?_).trans (by simp)
        have : q.1 ≠ v := fun z => hn.1 (by rw [e, ← z]; exact List.mem_map.mpr ⟨q, hq, rfl⟩)
        simp [this]
      rw [this, e]
    · rename_i e
      simp only [List.map_cons, List.mem_cons] at h
      rw [setP_old hn.2 (h.resolve_left fun q => e q.symm)]
theorem setP_keys {v c : Int} : ∀ {ps : List (Int × Int)}, (setP v c ps).map (·.1) = if v ∈ ps.map (·.1) then ps.map (·.1) else ps.map (·.1) ++ [v]
  | [] => by simp [setP]
  | p :: r => by
    have ih := setP_keys (v := v) (c := c) (ps := r)
    simp only [setP, List.map_cons, List.mem_cons]
    by_cases e : p.1 = v
    · simp [e]
    · rw [if_neg e]
      simp only [List.map_cons, ih]
      by_cases m : v ∈ r.map (·.1)
      · rw [if_pos m, if_pos (.inr m)]
      · rw [if_neg m, if_neg (by rintro (q | q); exact e q.symm; exact m q)]; rfl
theorem setP_nodup {v c : Int} {ps : List (Int × Int)} (h : (ps.map (·.1)).Nodup) : ((setP v c ps).map (·.1)).Nodup := by
  rw [setP_keys]; split
  · exact h
  · rename_i m; exact nodup_snoc h m
theorem setP_length {v c : Int} {ps : List (Int × Int)} : (setP v c ps).length ≤ ps.length + 1 := by
  have := congrArg List.length (setP_keys (v := v) (c := c) (ps := ps))
  rw [List.length_map] at this
  rw [this]; split <;> simp
abbrev SrtP (ps : List (Int × Int)) : Prop := (ps.map (·.1)).Pairwise (· ≤ ·)
end Mine.Internal
end

section
namespace Mine.Internal
noncomputable def f_counts_of : Fn := ⟨1, 4, ["till", "found", "value", "count"],
  (.cons (.asg 1 .dict0)
  (.cons (.for (.two 2 3) (.ex (.var 0)) (.cons (.setIt (.var 1) (.var 2) (.var 3))
    .nil))
  (.cons (.ret (.var 1))
  .nil)))⟩
noncomputable def f_count_of : Fn := ⟨2, 4, ["till", "value", "one", "count"],
  (.cons (.for (.two 2 3) (.ex (.var 0)) (.cons (.ife (.cmp .eq (.var 2) (.var 1)) (.cons (.ret (.var 3))
      .nil) .nil)
    .nil))
  (.cons (.raise "NoKind" "the till has no such kind")
  .nil))⟩
noncomputable def f_with_count : Fn := ⟨3, 4, ["till", "value", "count", "counts"],
  (.cons (.asg 3 (.call "counts_of" (.cons (.var 0) .nil)))
  (.cons (.setIt (.var 3) (.var 1) (.var 2))
  (.cons (.ret (.call "pairs_of" (.cons (.var 3) .nil)))
  .nil)))⟩
noncomputable def f_brought : Fn := ⟨3, 4, ["till", "value", "count", "there"],
  (.cons (.asg 3 (.call "count_of" (.cons (.var 0) (.cons (.var 1) .nil))))
  (.cons (.ex (.call "need_count" (.cons (.var 2) .nil)))
  (.cons (.ex (.call "need_count" (.cons (.bin .add (.var 3) (.var 2)) .nil)))
  (.cons (.ret (.call "with_count" (.cons (.var 0) (.cons (.var 1) (.cons (.bin .add (.var 3) (.var 2)) .nil)))))
  .nil))))⟩
noncomputable def f_fetched : Fn := ⟨3, 4, ["till", "value", "count", "there"],
  (.cons (.asg 3 (.call "count_of" (.cons (.var 0) (.cons (.var 1) .nil))))
  (.cons (.ex (.call "need_count" (.cons (.var 2) .nil)))
  (.cons (.ife (.cmp .gt (.var 2) (.var 3)) (.cons (.raise "TooFew" "more than lies there")
    .nil) .nil)
  (.cons (.ret (.call "with_count" (.cons (.var 0) (.cons (.var 1) (.cons (.bin .sub (.var 3) (.var 2)) .nil)))))
  .nil))))⟩
noncomputable def f_kind_in : Fn := ⟨2, 2, ["till", "value"],
  (.cons (.ex (.call "need_kind" (.cons (.var 1) .nil)))
  (.cons (.ife (.cmp .isIn (.var 1) (.call "counts_of" (.cons (.var 0) .nil))) (.cons (.raise "Twice" "the kind is there")
    .nil) .nil)
  (.cons (.ife (.cmp .eq (.bc .len (.cons (.var 0) .nil)) (.glob "MOST_KINDS" 10)) (.cons (.raise "NoTill" "too many kinds")
    .nil) .nil)
  (.cons (.ret (.call "with_count" (.cons (.var 0) (.cons (.var 1) (.cons (.int 0) .nil)))))
  .nil))))⟩
noncomputable def f_kind_out : Fn := ⟨2, 2, ["till", "value", "pair"],
  (.cons (.ife (.cmp .gt (.call "count_of" (.cons (.var 0) (.cons (.var 1) .nil))) (.int 0)) (.cons (.raise "StillHeld" "pieces of the kind lie there")
    .nil) .nil)
  (.cons (.ife (.cmp .eq (.bc .len (.cons (.var 0) .nil)) (.int 1)) (.cons (.raise "NoTill" "it is the last kind")
    .nil) .nil)
  (.cons (.ret (.compIf (.var 2) (.one 2) (.ex (.var 0)) (.cmp .ne (.idx (.var 2) (.int 0)) (.var 1))))
  .nil)))⟩
noncomputable def f_law_there : Fn := ⟨2, 3, ["_law_till", "_law_value_here", "_law_pair"],
  (.cons (.for (.one 2) (.ex (.var 0)) (.cons (.ife (.cmp .eq (.idx (.var 2) (.int 0)) (.var 1)) (.cons (.ret (.idx (.var 2) (.int 1)))
      .nil) .nil)
    .nil))
  (.cons (.ret (.neg (.int 1)))
  .nil))⟩
noncomputable def f_law_due_03 : Fn := ⟨4, 5, ["_law_till", "_law_which", "_law_value_here", "_law_count_here", "_law_there_here"],
  (.cons (.asg 4 (.call "_law_there" (.cons (.var 0) (.cons (.var 2) .nil))))
  (.cons (.ife (.bop false (.cons (.cmp .lt (.var 1) (.int 2)) (.cons (.cmp .eq (.var 1) (.int 3)) .nil))) (.cons (.ife (.cmp .lt (.var 4) (.int 0)) (.cons (.ret (.str "kind"))
      .nil) .nil)
    .nil) .nil)
  (.cons (.ife (.cmp .lt (.var 1) (.int 2)) (.cons (.ife (.bop false (.cons (.cmp .lt (.var 3) (.int 0)) (.cons (.cmp .gt (.var 3) (.bin .pow (.int 10) (.int 9))) (.cons (.bop true (.cons (.cmp .eq (.var 1) (.int 0)) (.cons (.cmp .gt (.bin .add (.var 4) (.var 3)) (.bin .pow (.int 10) (.int 9))) .nil))) .nil)))) (.cons (.ret (.str "count"))
      .nil) .nil)
    (.cons (.ife (.bop true (.cons (.cmp .eq (.var 1) (.int 1)) (.cons (.cmp .gt (.var 3) (.var 4)) .nil))) (.cons (.ret (.str "few"))
      .nil) .nil)
    .nil)) .nil)
  (.cons (.ife (.cmp .eq (.var 1) (.int 2)) (.cons (.ife (.bop false (.cons (.cmp .lt (.var 2) (.int 1)) (.cons (.cmp .gt (.var 2) (.int 1000)) .nil))) (.cons (.ret (.str "kind"))
      .nil) .nil)
    (.cons (.ife (.cmp .ge (.var 4) (.int 0)) (.cons (.ret (.str "twice"))
      .nil) .nil)
    (.cons (.ife (.cmp .eq (.bc .len (.cons (.var 0) .nil)) (.int 10)) (.cons (.ret (.str "till"))
      .nil) .nil)
    .nil))) .nil)
  (.cons (.ife (.cmp .eq (.var 1) (.int 3)) (.cons (.ife (.cmp .gt (.var 4) (.int 0)) (.cons (.ret (.str "held"))
      .nil) .nil)
    (.cons (.ife (.cmp .eq (.bc .len (.cons (.var 0) .nil)) (.int 1)) (.cons (.ret (.str "till"))
      .nil) .nil)
    .nil)) .nil)
  (.cons (.ret (.str ""))
  .nil))))))⟩
noncomputable def f_law_behind : Fn := ⟨4, 6, ["_law_till", "_law_which", "_law_value_here", "_law_count_here", "_law_found", "_law_pair"],
  (.cons (.ife (.cmp .eq (.var 1) (.int 2)) (.cons (.ret (.bc .sorted (.cons (.bin .add (.var 0) (.list (.cons (.tup (.cons (.var 2) (.cons (.int 0) .nil))) .nil))) .nil)))
    .nil) .nil)
  (.cons (.asg 4 (.list .nil))
  (.cons (.for (.one 5) (.ex (.var 0)) (.cons (.ife (.cmp .ne (.idx (.var 5) (.int 0)) (.var 2)) (.cons (.ex (.mt .append (.var 4) (.cons (.var 5) .nil)))
      .nil) (.cons (.ife (.cmp .lt (.var 1) (.int 2)) (.cons (.ex (.mt .append (.var 4) (.cons (.tup (.cons (.var 2) (.cons (.bin .add (.idx (.var 5) (.int 1)) (.idx (.list (.cons (.var 3) (.cons (.bin .sub (.int 0) (.var 3)) .nil))) (.var 1))) .nil))) .nil)))
        .nil) .nil)
      .nil))
    .nil))
  (.cons (.ret (.var 4))
  .nil))))⟩
noncomputable def f_law_done : Fn := ⟨4, 4, ["_law_till", "_law_which", "_law_value_here", "_law_count_here"],
  (.cons (.ife (.cmp .eq (.var 1) (.int 0)) (.cons (.ret (.call "brought" (.cons (.var 0) (.cons (.var 2) (.cons (.var 3) .nil)))))
    .nil) .nil)
  (.cons (.ife (.cmp .eq (.var 1) (.int 1)) (.cons (.ret (.call "fetched" (.cons (.var 0) (.cons (.var 2) (.cons (.var 3) .nil)))))
    .nil) .nil)
  (.cons (.ife (.cmp .eq (.var 1) (.int 2)) (.cons (.ret (.call "kind_in" (.cons (.var 0) (.cons (.var 2) .nil))))
    .nil) .nil)
  (.cons (.ret (.call "kind_out" (.cons (.var 0) (.cons (.var 2) .nil))))
  .nil))))⟩
noncomputable def f_law_tried : Fn := ⟨4, 4, ["_law_till", "_law_which", "_law_value_here", "_law_count_here"],
  (.cons (.tr (.cons (.ret (.list (.cons (.str "") (.cons (.call "_law_done" (.cons (.var 0) (.cons (.var 1) (.cons (.var 2) (.cons (.var 3) .nil))))) .nil))))
    .nil) (.cons "NoKind" none (.cons (.ret (.list (.cons (.str "kind") (.cons (.list .nil) .nil))))
    .nil) (.cons "NoCount" none (.cons (.ret (.list (.cons (.str "count") (.cons (.list .nil) .nil))))
    .nil) (.cons "TooFew" none (.cons (.ret (.list (.cons (.str "few") (.cons (.list .nil) .nil))))
    .nil) (.cons "Twice" none (.cons (.ret (.list (.cons (.str "twice") (.cons (.list .nil) .nil))))
    .nil) (.cons "NoTill" none (.cons (.ret (.list (.cons (.str "till") (.cons (.list .nil) .nil))))
    .nil) (.cons "StillHeld" none (.cons (.ret (.list (.cons (.str "held") (.cons (.list .nil) .nil))))
    .nil) .nil)))))))
  .nil)⟩
noncomputable def f_law_any_03 : Fn := ⟨4, 6, ["_law_till", "_law_which", "_law_value_here", "_law_count_here", "e", "_law_kinds"],
  (.cons (.tr (.cons (.ex (.call "_law_done" (.cons (.var 0) (.cons (.var 1) (.cons (.var 2) (.cons (.var 3) .nil))))))
    .nil) (.cons "TillError" (some 4) (.cons (.asg 5 (.list (.cons (.isi (.var 4) [.own "NoTill"]) (.cons (.isi (.var 4) [.own "NoKind"]) (.cons (.isi (.var 4) [.own "Twice"]) (.cons (.isi (.var 4) [.own "NoCount"]) .nil))))))
    (.cons (.asg 5 (.bin .add (.var 5) (.list (.cons (.isi (.var 4) [.own "TooFew"]) (.cons (.isi (.var 4) [.own "StillHeld"]) .nil)))))
    (.cons (.ife (.isi (.var 4) [.own "NoChange", .own "NoDeed", .own "NoSum", .own "TooLittle"]) (.cons (.ret (.bool false))
      .nil) .nil)
    (.cons (.ret (.bop true (.cons (.isi (.var 4) [.valueError]) (.cons (.cmp .eq (.mt .count (.var 5) (.cons (.bool true) .nil)) (.int 1)) .nil))))
    .nil)))) .nil))
  (.cons (.ret (.bool false))
  .nil))⟩
noncomputable def f_law_03 : Fn := ⟨1, 16, ["_law_script", "_law_till", "_law_cell", "_law_own", "_law_value_here", "_law_there_here", "_law_left", "_law_counts", "_law_count_here", "_law_which", "_law_handed", "_law_due_here", "_law_found", "_law_behind_here", "_law_good", "_law_again", "_law_pair"],
  (.cons (.asg 1 (.bc .sorted (.cons (.call "_law_pairs" (.cons (.var 0) .nil)) .nil)))
  (.cons (.asg 2 (.call "_law_cell_at" (.cons (.var 0) (.cons (.int 3) .nil))))
  (.cons (.asg 3 (.idx (.idx (.var 1) (.bin .mod (.bin .fdiv (.var 2) (.int 4)) (.bc .len (.cons (.var 1) .nil)))) (.int 0)))
  (.cons (.asg 4 (.idx (.list (.cons (.bin .mod (.bin .fdiv (.var 2) (.int 4)) (.int 1002)) (.cons (.var 3) (.cons (.var 3) (.cons (.bin .sub (.int 0) (.bin .mod (.bin .fdiv (.var 2) (.int 4)) (.bin .pow (.int 10) (.int 9)))) .nil))))) (.bin .mod (.var 2) (.int 4))))
  (.cons (.ife (.cmp .eq (.bin .mod (.var 2) (.int 24)) (.int 7)) (.cons (.asg 4 (.bin .add (.int 1001) (.bin .mod (.bin .fdiv (.var 2) (.int 24)) (.bin .pow (.int 10) (.int 9)))))
    .nil) .nil)
  (.cons (.asg 5 (.bc .max2 (.cons (.int 0) (.cons (.call "_law_there" (.cons (.var 1) (.cons (.var 4) .nil))) .nil))))
  (.cons (.asg 2 (.call "_law_cell_at" (.cons (.var 0) (.cons (.int 4) .nil))))
  (.cons (.asg 6 (.bin .sub (.bin .pow (.int 10) (.int 9)) (.var 5)))
  (.cons (.asg 7 (.list (.cons (.bin .mod (.bin .fdiv (.var 2) (.int 8)) (.int 10)) (.cons (.var 5) (.cons (.bin .add (.var 5) (.int 1)) (.cons (.var 6) (.cons (.bin .add (.var 6) (.int 1)) (.cons (.neg (.int 1)) (.cons (.bin .mod (.bin .fdiv (.var 2) (.int 8)) (.bin .pow (.int 10) (.int 10))) (.cons (.bin .sub (.int 0) (.bin .mod (.bin .fdiv (.var 2) (.int 8)) (.bin .pow (.int 10) (.int 9)))) .nil))))))))))
  (.cons (.asg 8 (.idx (.var 7) (.bin .mod (.var 2) (.int 8))))
  (.cons (.asg 9 (.bin .mod (.call "_law_cell_at" (.cons (.var 0) (.cons (.int 5) .nil))) (.int 4)))
  (.cons (.ife (.cmp .eq (.bin .mod (.bin .fdiv (.call "_law_cell_at" (.cons (.var 0) (.cons (.int 5) .nil))) (.int 4)) (.int 4)) (.int 1)) (.cons (.asg 1 (.comp (.ife (.cmp .eq (.idx (.var 16) (.int 0)) (.var 4)) (.tup (.cons (.idx (.var 16) (.int 0)) (.cons (.int 0) .nil))) (.var 16)) (.one 16) (.ex (.var 1))))
    .nil) .nil)
  (.cons (.asg 10 (.bc .list (.cons (.var 1) .nil)))
  (.cons (.asg 11 (.call "_law_due" (.cons (.var 1) (.cons (.var 9) (.cons (.var 4) (.cons (.var 8) .nil))))))
  (.cons (.asg 12 (.call "_law_tried" (.cons (.var 10) (.cons (.var 9) (.cons (.var 4) (.cons (.var 8) .nil))))))
  (.cons (.ife (.bop false (.cons (.cmp .ne (.idx (.var 12) (.int 0)) (.var 11)) (.cons (.cmp .ne (.call "_law_any" (.cons (.var 10) (.cons (.var 9) (.cons (.var 4) (.cons (.var 8) .nil))))) (.cmp .ne (.var 11) (.str ""))) (.cons (.cmp .ne (.var 10) (.var 1)) .nil)))) (.cons (.ret (.bool false))
    .nil) .nil)
  (.cons (.ife (.cmp .ne (.var 11) (.str "")) (.cons (.ret (.bool true))
    .nil) .nil)
  (.cons (.ex (.mt .append (.var 10) (.cons (.tup (.cons (.int 5) (.cons (.int 5) .nil))) .nil)))
  (.cons (.asg 13 (.call "_law_behind" (.cons (.var 1) (.cons (.var 9) (.cons (.var 4) (.cons (.var 8) .nil))))))
  (.cons (.asg 14 (.call "_law_alike" (.cons (.idx (.var 12) (.int 1)) (.cons (.var 13) .nil))))
  (.cons (.ex (.mt .append (.idx (.var 12) (.int 1)) (.cons (.tup (.cons (.int 7) (.cons (.int 7) .nil))) .nil)))
  (.cons (.asg 15 (.call "_law_tried" (.cons (.bc .list (.cons (.var 1) .nil)) (.cons (.var 9) (.cons (.var 4) (.cons (.var 8) .nil))))))
  (.cons (.ret (.bop true (.cons (.var 14) (.cons (.cmp .eq (.var 10) (.bin .add (.var 1) (.list (.cons (.tup (.cons (.int 5) (.cons (.int 5) .nil))) .nil)))) (.cons (.call "_law_alike" (.cons (.idx (.var 15) (.int 1)) (.cons (.var 13) .nil))) .nil)))))
  .nil)))))))))))))))))))))))⟩
noncomputable def tab03 : List (String × Fn) := [("need_kind", f_need_kind), ("need_count", f_need_count), ("pairs_of", f_pairs_of), ("counts_of", f_counts_of), ("count_of", f_count_of), ("with_count", f_with_count), ("brought", f_brought), ("fetched", f_fetched), ("kind_in", f_kind_in), ("kind_out", f_kind_out), ("_law_cell_at", f_law_cell_at), ("_law_whole", f_law_whole), ("_law_mixed", f_law_mixed), ("_law_value", f_law_value), ("_law_count", f_law_count), ("_law_pairs", f_law_pairs), ("_law_alike", f_law_alike), ("_law_there", f_law_there), ("_law_due", f_law_due_03), ("_law_behind", f_law_behind), ("_law_done", f_law_done), ("_law_tried", f_law_tried), ("_law_any", f_law_any_03), ("law", f_law_03)]
noncomputable def defs03 (f : String) : Option Fn := tab03.lookup f
noncomputable def gint03 : List (String × Int) := [("MOST_KINDS", 10), ("MOST_VALUE", 1000), ("MOST_COUNT", 1000000000)]
end Mine.Internal
end

section
namespace Mine.Internal
open PySem (Str Addr)
section
variable {defs : String → Option Fn} {anc : String → List String} {n : Nat} {Q : V → Hp → Prop} {X : String → Hp → Prop} {H : Hp}
theorem counts_of_spec (h5 : defs "counts_of" = some f_counts_of) {p : Addr} {ps : List (Int × Int)} (hp : H p = some (.list (lv ps))) (hl : ps.length ≤ 1000) (hn : (ps.map (·.1)).Nodup)
    (hq : ∀ a, H a = none → Q (.ref a) (H.set a (.dict (ps.map kvI)))) :
    callN defs anc (n + 1) "counts_of" [.ref p] Q X H := by
  rw [callN, h5]
  simp only [f_counts_of]
  (try simp only [s_nil, s_asg, s_setIt, s_ex, s_ret, s_ife, s_raise, s_pass, s_tr, app_nil, app_cons, wpE, wpEs, wpB, sr_ex, sr_r1, r1_i, wpHs, b_add, b_sub, b_mul, b_fdiv, b_mod, b_pow9, b_pow10, b_pow6, b_addL, c_lt, c_le, c_gt, c_ge, c_eqI, c_neI, c_eqS, c_neS, c_eqB, c_neB, asB_bool, i_tup0, i_tup1, i_tup2, i_pv0, i_pv1, i_ro, f_lenR, f_max, List.length_cons, List.length_nil, List.map_cons, List.map_nil, List.replicate, List.cons_append, List.nil_append, Nat.sub_self, List.getElem?_cons_zero, List.getElem?_cons_succ, List.set_cons_zero, List.set_cons_succ, and_true, true_and, Nat.reduceAdd, Nat.reduceSub, decide_eq_true_eq])
  intro D hD
  refine for_cons ⟨rfl, ?_⟩
  (try simp only [s_nil, s_asg, s_setIt, s_ex, s_ret, s_ife, s_raise, s_pass, s_tr, app_nil, app_cons, wpE, wpEs, wpB, sr_ex, sr_r1, r1_i, wpHs, b_add, b_sub, b_mul, b_fdiv, b_mod, b_pow9, b_pow10, b_pow6, b_addL, c_lt, c_le, c_gt, c_ge, c_eqI, c_neI, c_eqS, c_neS, c_eqB, c_neB, asB_bool, i_tup0, i_tup1, i_tup2, i_pv0, i_pv1, i_ro, f_lenR, f_max, List.length_cons, List.length_nil, List.map_cons, List.map_nil, List.replicate, List.cons_append, List.nil_append, Nat.sub_self, List.getElem?_cons_zero, List.getElem?_cons_succ, List.set_cons_zero, List.set_cons_succ, and_true, true_and, Nat.reduceAdd, Nat.reduceSub, decide_eq_true_eq])
  refine src_of (Ext.new _ hD _ _ hp) ?_
  have hpD : p ≠ D := ne_new hp hD
  rw [lvIt]
  refine forGo_map (I := fun as ρ H' => ∃ x2 x3, ρ = [some (.ref p), some (.ref D), x2, x3] ∧ H' = H.set D (.dict (as.map kvI))) ?_ ?_ ?_ ⟨_, _, rfl, rfl⟩
  · rintro as ρ H' ⟨x2, x3, rfl, rfl⟩; exact okH_one (by rw [Hp.set_ne _ hpD]; exact hp)
  · rintro ρ H' ⟨x2, x3, rfl, rfl⟩
    dsimp only [restW]
    (try simp only [s_nil, s_asg, s_setIt, s_ex, s_ret, s_ife, s_raise, s_pass, s_tr, app_nil, app_cons, wpE, wpEs, wpB, sr_ex, sr_r1, r1_i, wpHs, b_add, b_sub, b_mul, b_fdiv, b_mod, b_pow9, b_pow10, b_pow6, b_addL, c_lt, c_le, c_gt, c_ge, c_eqI, c_neI, c_eqS, c_neS, c_eqB, c_neB, asB_bool, i_tup0, i_tup1, i_tup2, i_pv0, i_pv1, i_ro, f_lenR, f_max, List.length_cons, List.length_nil, List.map_cons, List.map_nil, List.replicate, List.cons_append, List.nil_append, Nat.sub_self, List.getElem?_cons_zero, List.getElem?_cons_succ, List.set_cons_zero, List.set_cons_succ, and_true, true_and, Nat.reduceAdd, Nat.reduceSub, decide_eq_true_eq])
    exact hq D hD
  · rintro as b bs ρ H' K e ⟨x2, x3, rfl, rfl⟩ hK
    refine ⟨_, rfl, ?_⟩
    rw [bodyW]
    (try simp only [s_nil, s_asg, s_setIt, s_ex, s_ret, s_ife, s_raise, s_pass, s_tr, app_nil, app_cons, wpE, wpEs, wpB, sr_ex, sr_r1, r1_i, wpHs, b_add, b_sub, b_mul, b_fdiv, b_mod, b_pow9, b_pow10, b_pow6, b_addL, c_lt, c_le, c_gt, c_ge, c_eqI, c_neI, c_eqS, c_neS, c_eqB, c_neB, asB_bool, i_tup0, i_tup1, i_tup2, i_pv0, i_pv1, i_ro, f_lenR, f_max, List.length_cons, List.length_nil, List.map_cons, List.map_nil, List.replicate, List.cons_append, List.nil_append, Nat.sub_self, List.getElem?_cons_zero, List.getElem?_cons_succ, List.set_cons_zero, List.set_cons_succ, and_true, true_and, Nat.reduceAdd, Nat.reduceSub, decide_eq_true_eq])
    rw [set_D (Hp.set_self _ _ _)]
    refine ⟨by rw [List.length_map, lim_eq]; rw [e] at hl; simp at hl; omega, ?_⟩
    have hm : b.1 ∉ as.map (·.1) := fun hm => by
      rw [e, List.map_append, List.nodup_append] at hn
      exact hn.2.2 _ hm _ (by simp) rfl
    rw [dset_new (by rw [keys_kvI]; exact hm), Hp.set_set]
    exact hK _ _ ⟨_, _, rfl, by simp [kvI]⟩
theorem count_of_spec (h5 : defs "count_of" = some f_count_of) {p : Addr} {v : Int} {ps : List (Int × Int)} (hp : H p = some (.list (lv ps)))
    (hq : ∀ c, lk v ps = some c → Q (.int c) H) (hX : lk v ps = none → X "NoKind" H) :
    callN defs anc (n + 1) "count_of" [.ref p, .int v] Q X H := by
  rw [callN, h5]
  simp only [f_count_of]
  (try simp only [s_nil, s_asg, s_setIt, s_ex, s_ret, s_ife, s_raise, s_pass, s_tr, app_nil, app_cons, wpE, wpEs, wpB, sr_ex, sr_r1, r1_i, wpHs, b_add, b_sub, b_mul, b_fdiv, b_mod, b_pow9, b_pow10, b_pow6, b_addL, c_lt, c_le, c_gt, c_ge, c_eqI, c_neI, c_eqS, c_neS, c_eqB, c_neB, asB_bool, i_tup0, i_tup1, i_tup2, i_pv0, i_pv1, i_ro, f_lenR, f_max, List.length_cons, List.length_nil, List.map_cons, List.map_nil, List.replicate, List.cons_append, List.nil_append, Nat.sub_self, List.getElem?_cons_zero, List.getElem?_cons_succ, List.set_cons_zero, List.set_cons_succ, and_true, true_and, Nat.reduceAdd, Nat.reduceSub, decide_eq_true_eq])
  refine for_cons ⟨rfl, ?_⟩
  (try simp only [s_nil, s_asg, s_setIt, s_ex, s_ret, s_ife, s_raise, s_pass, s_tr, app_nil, app_cons, wpE, wpEs, wpB, sr_ex, sr_r1, r1_i, wpHs, b_add, b_sub, b_mul, b_fdiv, b_mod, b_pow9, b_pow10, b_pow6, b_addL, c_lt, c_le, c_gt, c_ge, c_eqI, c_neI, c_eqS, c_neS, c_eqB, c_neB, asB_bool, i_tup0, i_tup1, i_tup2, i_pv0, i_pv1, i_ro, f_lenR, f_max, List.length_cons, List.length_nil, List.map_cons, List.map_nil, List.replicate, List.cons_append, List.nil_append, Nat.sub_self, List.getElem?_cons_zero, List.getElem?_cons_succ, List.set_cons_zero, List.set_cons_succ, and_true, true_and, Nat.reduceAdd, Nat.reduceSub, decide_eq_true_eq])
  refine src_of hp ?_
  rw [lvIt]
  refine forGo_map (I := fun as ρ H' => ∃ x2 x3, ρ = [some (.ref p), some (.int v), x2, x3] ∧ H' = H ∧ v ∉ as.map (·.1)) ?_ ?_ ?_ ⟨_, _, rfl, rfl, by simp⟩
  · rintro as ρ H' ⟨x2, x3, rfl, rfl, _⟩; exact okH_one hp
  · rintro ρ H' ⟨x2, x3, rfl, rfl, hm⟩
    dsimp only [restW]
    (try simp only [s_nil, s_asg, s_setIt, s_ex, s_ret, s_ife, s_raise, s_pass, s_tr, app_nil, app_cons, wpE, wpEs, wpB, sr_ex, sr_r1, r1_i, wpHs, b_add, b_sub, b_mul, b_fdiv, b_mod, b_pow9, b_pow10, b_pow6, b_addL, c_lt, c_le, c_gt, c_ge, c_eqI, c_neI, c_eqS, c_neS, c_eqB, c_neB, asB_bool, i_tup0, i_tup1, i_tup2, i_pv0, i_pv1, i_ro, f_lenR, f_max, List.length_cons, List.length_nil, List.map_cons, List.map_nil, List.replicate, List.cons_append, List.nil_append, Nat.sub_self, List.getElem?_cons_zero, List.getElem?_cons_succ, List.set_cons_zero, List.set_cons_succ, and_true, true_and, Nat.reduceAdd, Nat.reduceSub, decide_eq_true_eq])
    exact hX (lk_none.mpr hm)
  · rintro as b bs ρ H' K e ⟨x2, x3, rfl, rfl, hm⟩ hK
    refine ⟨_, rfl, ?_⟩
    rw [bodyW]
    (try simp only [s_nil, s_asg, s_setIt, s_ex, s_ret, s_ife, s_raise, s_pass, s_tr, app_nil, app_cons, wpE, wpEs, wpB, sr_ex, sr_r1, r1_i, wpHs, b_add, b_sub, b_mul, b_fdiv, b_mod, b_pow9, b_pow10, b_pow6, b_addL, c_lt, c_le, c_gt, c_ge, c_eqI, c_neI, c_eqS, c_neS, c_eqB, c_neB, asB_bool, i_tup0, i_tup1, i_tup2, i_pv0, i_pv1, i_ro, f_lenR, f_max, List.length_cons, List.length_nil, List.map_cons, List.map_nil, List.replicate, List.cons_append, List.nil_append, Nat.sub_self, List.getElem?_cons_zero, List.getElem?_cons_succ, List.set_cons_zero, List.set_cons_succ, and_true, true_and, Nat.reduceAdd, Nat.reduceSub, decide_eq_true_eq])
    refine ite_all (fun h => hq _ ?_) fun h => hK _ _ ⟨_, _, rfl, rfl, ?_⟩
    · rw [e, lk_append hm, lk, if_pos h]
    · simp only [List.map_append, List.map_cons, List.map_nil, List.mem_append, List.mem_cons, List.not_mem_nil, or_false, not_or]
      exact ⟨hm, fun q => h q.symm⟩
noncomputable def GiveL (Q : V → Hp → Prop) (H : Hp) (ts : List (Int × Int)) : Prop := ∀ qs a H', qs.Perm ts → SrtP qs → Ext H H' → H a = none → H' a = some (.list (lv qs)) → Q (.ref a) H'
theorem with_count_spec (h1 : defs "pairs_of" = some f_pairs_of) (h2 : defs "counts_of" = some f_counts_of) (h5 : defs "with_count" = some f_with_count) {p : Addr} {v c : Int} {ps : List (Int × Int)} (hp : H p = some (.list (lv ps))) (hl : ps.length ≤ 60) (hn : (ps.map (·.1)).Nodup)
    (hq : GiveL Q H (setP v c ps)) :
    callN defs anc (n + 2) "with_count" [.ref p, .int v, .int c] Q X H := by
  rw [callN, h5]
  simp only [f_with_count]
  (try simp only [s_nil, s_asg, s_setIt, s_ex, s_ret, s_ife, s_raise, s_pass, s_tr, app_nil, app_cons, wpE, wpEs, wpB, sr_ex, sr_r1, r1_i, wpHs, b_add, b_sub, b_mul, b_fdiv, b_mod, b_pow9, b_pow10, b_pow6, b_addL, c_lt, c_le, c_gt, c_ge, c_eqI, c_neI, c_eqS, c_neS, c_eqB, c_neB, asB_bool, i_tup0, i_tup1, i_tup2, i_pv0, i_pv1, i_ro, f_lenR, f_max, List.length_cons, List.length_nil, List.map_cons, List.map_nil, List.replicate, List.cons_append, List.nil_append, Nat.sub_self, List.getElem?_cons_zero, List.getElem?_cons_succ, List.set_cons_zero, List.set_cons_succ, and_true, true_and, Nat.reduceAdd, Nat.reduceSub, decide_eq_true_eq])
  refine counts_of_spec h2 hp (by omega) hn fun D hD => ?_
  (try simp only [s_nil, s_asg, s_setIt, s_ex, s_ret, s_ife, s_raise, s_pass, s_tr, app_nil, app_cons, wpE, wpEs, wpB, sr_ex, sr_r1, r1_i, wpHs, b_add, b_sub, b_mul, b_fdiv, b_mod, b_pow9, b_pow10, b_pow6, b_addL, c_lt, c_le, c_gt, c_ge, c_eqI, c_neI, c_eqS, c_neS, c_eqB, c_neB, asB_bool, i_tup0, i_tup1, i_tup2, i_pv0, i_pv1, i_ro, f_lenR, f_max, List.length_cons, List.length_nil, List.map_cons, List.map_nil, List.replicate, List.cons_append, List.nil_append, Nat.sub_self, List.getElem?_cons_zero, List.getElem?_cons_succ, List.set_cons_zero, List.set_cons_succ, and_true, true_and, Nat.reduceAdd, Nat.reduceSub, decide_eq_true_eq])
  rw [set_D (Hp.set_self _ _ _), Hp.set_set, dset_setP]
  refine ⟨by rw [List.length_map, lim_eq]; omega, ?_⟩
  have := setP_length (v := v) (c := c) (ps := ps)
  refine pairs_of_spec h1 (Hp.set_self _ _ _) (by omega) (setP_nodup hn) fun qs a H' g1 g2 g3 g4 g5 => ?_
  exact hq qs a H' g1 g2 ((Ext.new _ hD).trans g3) ((Ext.new _ hD).no g4) g5
theorem brought_spec (h0 : defs "need_count" = some f_need_count) (h1 : defs "pairs_of" = some f_pairs_of) (h2 : defs "counts_of" = some f_counts_of) (h3 : defs "count_of" = some f_count_of) (h4 : defs "with_count" = some f_with_count) (h5 : defs "brought" = some f_brought) {p : Addr} {v c : Int} {ps : List (Int × Int)} (hp : H p = some (.list (lv ps))) (hl : ps.length ≤ 60) (hn : (ps.map (·.1)).Nodup)
    (hX : lk v ps = none → X "NoKind" H)
    (hX2 : ∀ t, lk v ps = some t → ¬ ((0 ≤ c ∧ c ≤ 1000000000) ∧ (0 ≤ t + c ∧ t + c ≤ 1000000000)) → X "NoCount" H)
    (hq : ∀ t, lk v ps = some t → (0 ≤ c ∧ c ≤ 1000000000) → (0 ≤ t + c ∧ t + c ≤ 1000000000) → GiveL Q H (setP v (t + c) ps)) :
    callN defs anc (n + 3) "brought" [.ref p, .int v, .int c] Q X H := by
  rw [callN, h5]
  simp only [f_brought]
  (try simp only [s_nil, s_asg, s_setIt, s_ex, s_ret, s_ife, s_raise, s_pass, s_tr, app_nil, app_cons, wpE, wpEs, wpB, sr_ex, sr_r1, r1_i, wpHs, b_add, b_sub, b_mul, b_fdiv, b_mod, b_pow9, b_pow10, b_pow6, b_addL, c_lt, c_le, c_gt, c_ge, c_eqI, c_neI, c_eqS, c_neS, c_eqB, c_neB, asB_bool, i_tup0, i_tup1, i_tup2, i_pv0, i_pv1, i_ro, f_lenR, f_max, List.length_cons, List.length_nil, List.map_cons, List.map_nil, List.replicate, List.cons_append, List.nil_append, Nat.sub_self, List.getElem?_cons_zero, List.getElem?_cons_succ, List.set_cons_zero, List.set_cons_succ, and_true, true_and, Nat.reduceAdd, Nat.reduceSub, decide_eq_true_eq])
  refine count_of_spec h3 hp (fun t ht => ?_) hX
  refine need_count_spec h0 (fun w1 => ?_) fun w1 => hX2 t ht (fun z => w1 z.1)
  (try simp only [s_nil, s_asg, s_setIt, s_ex, s_ret, s_ife, s_raise, s_pass, s_tr, app_nil, app_cons, wpE, wpEs, wpB, sr_ex, sr_r1, r1_i, wpHs, b_add, b_sub, b_mul, b_fdiv, b_mod, b_pow9, b_pow10, b_pow6, b_addL, c_lt, c_le, c_gt, c_ge, c_eqI, c_neI, c_eqS, c_neS, c_eqB, c_neB, asB_bool, i_tup0, i_tup1, i_tup2, i_pv0, i_pv1, i_ro, f_lenR, f_max, List.length_cons, List.length_nil, List.map_cons, List.map_nil, List.replicate, List.cons_append, List.nil_append, Nat.sub_self, List.getElem?_cons_zero, List.getElem?_cons_succ, List.set_cons_zero, List.set_cons_succ, and_true, true_and, Nat.reduceAdd, Nat.reduceSub, decide_eq_true_eq])
  refine need_count_spec h0 (fun w2 => ?_) fun w2 => hX2 t ht (fun z => w2 z.2)
  exact with_count_spec h1 h2 h4 hp hl hn (hq t ht w1 w2)
theorem fetched_spec (h0 : defs "need_count" = some f_need_count) (h1 : defs "pairs_of" = some f_pairs_of) (h2 : defs "counts_of" = some f_counts_of) (h3 : defs "count_of" = some f_count_of) (h4 : defs "with_count" = some f_with_count) (h5 : defs "fetched" = some f_fetched) {p : Addr} {v c : Int} {ps : List (Int × Int)} (hp : H p = some (.list (lv ps))) (hl : ps.length ≤ 60) (hn : (ps.map (·.1)).Nodup)
    (hX : lk v ps = none → X "NoKind" H)
    (hX2 : ∀ t, lk v ps = some t → ¬ (0 ≤ c ∧ c ≤ 1000000000) → X "NoCount" H)
    (hX3 : ∀ t, lk v ps = some t → (0 ≤ c ∧ c ≤ 1000000000) → t < c → X "TooFew" H)
    (hq : ∀ t, lk v ps = some t → (0 ≤ c ∧ c ≤ 1000000000) → ¬ t < c → GiveL Q H (setP v (t - c) ps)) :
    callN defs anc (n + 3) "fetched" [.ref p, .int v, .int c] Q X H := by
  rw [callN, h5]
  simp only [f_fetched]
  (try simp only [s_nil, s_asg, s_setIt, s_ex, s_ret, s_ife, s_raise, s_pass, s_tr, app_nil, app_cons, wpE, wpEs, wpB, sr_ex, sr_r1, r1_i, wpHs, b_add, b_sub, b_mul, b_fdiv, b_mod, b_pow9, b_pow10, b_pow6, b_addL, c_lt, c_le, c_gt, c_ge, c_eqI, c_neI, c_eqS, c_neS, c_eqB, c_neB, asB_bool, i_tup0, i_tup1, i_tup2, i_pv0, i_pv1, i_ro, f_lenR, f_max, List.length_cons, List.length_nil, List.map_cons, List.map_nil, List.replicate, List.cons_append, List.nil_append, Nat.sub_self, List.getElem?_cons_zero, List.getElem?_cons_succ, List.set_cons_zero, List.set_cons_succ, and_true, true_and, Nat.reduceAdd, Nat.reduceSub, decide_eq_true_eq])
  refine count_of_spec h3 hp (fun t ht => ?_) hX
  refine need_count_spec h0 (fun w1 => ?_) fun w1 => hX2 t ht w1
  (try simp only [s_nil, s_asg, s_setIt, s_ex, s_ret, s_ife, s_raise, s_pass, s_tr, app_nil, app_cons, wpE, wpEs, wpB, sr_ex, sr_r1, r1_i, wpHs, b_add, b_sub, b_mul, b_fdiv, b_mod, b_pow9, b_pow10, b_pow6, b_addL, c_lt, c_le, c_gt, c_ge, c_eqI, c_neI, c_eqS, c_neS, c_eqB, c_neB, asB_bool, i_tup0, i_tup1, i_tup2, i_pv0, i_pv1, i_ro, f_lenR, f_max, List.length_cons, List.length_nil, List.map_cons, List.map_nil, List.replicate, List.cons_append, List.nil_append, Nat.sub_self, List.getElem?_cons_zero, List.getElem?_cons_succ, List.set_cons_zero, List.set_cons_succ, and_true, true_and, Nat.reduceAdd, Nat.reduceSub, decide_eq_true_eq])
  refine ite_all (fun w2 => hX3 t ht w1 w2) fun w2 => ?_
  exact with_count_spec h1 h2 h4 hp hl hn (hq t ht w1 w2)
theorem kind_in_spec (h0 : defs "need_kind" = some f_need_kind) (h1 : defs "pairs_of" = some f_pairs_of) (h2 : defs "counts_of" = some f_counts_of) (h4 : defs "with_count" = some f_with_count) (h5 : defs "kind_in" = some f_kind_in) {p : Addr} {v : Int} {ps : List (Int × Int)} (hp : H p = some (.list (lv ps))) (hl : ps.length ≤ 60) (hn : (ps.map (·.1)).Nodup)
    (hX : ¬ (1 ≤ v ∧ v ≤ 1000) → X "NoKind" H)
    (hX2 : ∀ H', Ext H H' → (1 ≤ v ∧ v ≤ 1000) → v ∈ ps.map (·.1) → X "Twice" H')
    (hX3 : ∀ H', Ext H H' → (1 ≤ v ∧ v ≤ 1000) → v ∉ ps.map (·.1) → ps.length = 10 → X "NoTill" H')
    (hq : (1 ≤ v ∧ v ≤ 1000) → v ∉ ps.map (·.1) → ps.length ≠ 10 → GiveL Q H (ps ++ [(v, 0)])) :
    callN defs anc (n + 3) "kind_in" [.ref p, .int v] Q X H := by
  rw [callN, h5]
  simp only [f_kind_in]
  (try simp only [s_nil, s_asg, s_setIt, s_ex, s_ret, s_ife, s_raise, s_pass, s_tr, app_nil, app_cons, wpE, wpEs, wpB, sr_ex, sr_r1, r1_i, wpHs, b_add, b_sub, b_mul, b_fdiv, b_mod, b_pow9, b_pow10, b_pow6, b_addL, c_lt, c_le, c_gt, c_ge, c_eqI, c_neI, c_eqS, c_neS, c_eqB, c_neB, asB_bool, i_tup0, i_tup1, i_tup2, i_pv0, i_pv1, i_ro, f_lenR, f_max, List.length_cons, List.length_nil, List.map_cons, List.map_nil, List.replicate, List.cons_append, List.nil_append, Nat.sub_self, List.getElem?_cons_zero, List.getElem?_cons_succ, List.set_cons_zero, List.set_cons_succ, and_true, true_and, Nat.reduceAdd, Nat.reduceSub, decide_eq_true_eq])
  refine need_kind_spec h0 (fun w1 => ?_) hX
  refine counts_of_spec h2 hp (by omega) hn fun D hD => ?_
  (try simp only [s_nil, s_asg, s_setIt, s_ex, s_ret, s_ife, s_raise, s_pass, s_tr, app_nil, app_cons, wpE, wpEs, wpB, sr_ex, sr_r1, r1_i, wpHs, b_add, b_sub, b_mul, b_fdiv, b_mod, b_pow9, b_pow10, b_pow6, b_addL, c_lt, c_le, c_gt, c_ge, c_eqI, c_neI, c_eqS, c_neS, c_eqB, c_neB, asB_bool, i_tup0, i_tup1, i_tup2, i_pv0, i_pv1, i_ro, f_lenR, f_max, List.length_cons, List.length_nil, List.map_cons, List.map_nil, List.replicate, List.cons_append, List.nil_append, Nat.sub_self, List.getElem?_cons_zero, List.getElem?_cons_succ, List.set_cons_zero, List.set_cons_succ, and_true, true_and, Nat.reduceAdd, Nat.reduceSub, decide_eq_true_eq])
  rw [c_inD (Hp.set_self _ _ _)]
  simp only [dget_some_iff, keys_kvI]
  have hE := Ext.new (.dict (ps.map kvI)) hD
  refine ite_all (fun w2 => hX2 _ hE w1 w2) fun w2 => ?_
  rw [f_lenL (hE _ _ hp), lv_length]
  (try simp only [s_nil, s_asg, s_setIt, s_ex, s_ret, s_ife, s_raise, s_pass, s_tr, app_nil, app_cons, wpE, wpEs, wpB, sr_ex, sr_r1, r1_i, wpHs, b_add, b_sub, b_mul, b_fdiv, b_mod, b_pow9, b_pow10, b_pow6, b_addL, c_lt, c_le, c_gt, c_ge, c_eqI, c_neI, c_eqS, c_neS, c_eqB, c_neB, asB_bool, i_tup0, i_tup1, i_tup2, i_pv0, i_pv1, i_ro, f_lenR, f_max, List.length_cons, List.length_nil, List.map_cons, List.map_nil, List.replicate, List.cons_append, List.nil_append, Nat.sub_self, List.getElem?_cons_zero, List.getElem?_cons_succ, List.set_cons_zero, List.set_cons_succ, and_true, true_and, Nat.reduceAdd, Nat.reduceSub, decide_eq_true_eq])
  refine ite_all (fun w3 => hX3 _ hE w1 w2 (by omega)) fun w3 => ?_
  refine with_count_spec h1 h2 h4 (hE _ _ hp) hl hn fun qs a H' g1 g2 g3 g4 g5 => ?_
  rw [setP_new w2] at g1
  exact hq w1 w2 (by omega) qs a H' g1 g2 (hE.trans g3) (hE.no g4) g5
theorem srt_filter {ps : List (Int × Int)} {c : Int × Int → Bool} (h : SrtP ps) : SrtP (ps.filter c) := by
  have : ((ps.filter c).map (·.1)).Sublist (ps.map (·.1)) := List.filter_sublist.map _
  exact h.sublist this
theorem kind_out_spec (h3 : defs "count_of" = some f_count_of) (h5 : defs "kind_out" = some f_kind_out) {p : Addr} {v : Int} {ps : List (Int × Int)} (hp : H p = some (.list (lv ps))) (hl : ps.length ≤ 60) (hs : SrtP ps)
    (hX : lk v ps = none → X "NoKind" H)
    (hX2 : ∀ t, lk v ps = some t → 0 < t → X "StillHeld" H)
    (hX3 : ∀ t, lk v ps = some t → ¬ 0 < t → ps.length = 1 → X "NoTill" H)
    (hq : ∀ t, lk v ps = some t → ¬ 0 < t → ps.length ≠ 1 → GiveL Q H (ps.filter fun q => !decide (q.1 = v))) :
    callN defs anc (n + 2) "kind_out" [.ref p, .int v] Q X H := by
  rw [callN, h5]
  simp only [f_kind_out]
  (try simp only [s_nil, s_asg, s_setIt, s_ex, s_ret, s_ife, s_raise, s_pass, s_tr, app_nil, app_cons, wpE, wpEs, wpB, sr_ex, sr_r1, r1_i, wpHs, b_add, b_sub, b_mul, b_fdiv, b_mod, b_pow9, b_pow10, b_pow6, b_addL, c_lt, c_le, c_gt, c_ge, c_eqI, c_neI, c_eqS, c_neS, c_eqB, c_neB, asB_bool, i_tup0, i_tup1, i_tup2, i_pv0, i_pv1, i_ro, f_lenR, f_max, List.length_cons, List.length_nil, List.map_cons, List.map_nil, List.replicate, List.cons_append, List.nil_append, Nat.sub_self, List.getElem?_cons_zero, List.getElem?_cons_succ, List.set_cons_zero, List.set_cons_succ, and_true, true_and, Nat.reduceAdd, Nat.reduceSub, decide_eq_true_eq])
  refine count_of_spec h3 hp (fun t ht => ?_) hX
  (try simp only [s_nil, s_asg, s_setIt, s_ex, s_ret, s_ife, s_raise, s_pass, s_tr, app_nil, app_cons, wpE, wpEs, wpB, sr_ex, sr_r1, r1_i, wpHs, b_add, b_sub, b_mul, b_fdiv, b_mod, b_pow9, b_pow10, b_pow6, b_addL, c_lt, c_le, c_gt, c_ge, c_eqI, c_neI, c_eqS, c_neS, c_eqB, c_neB, asB_bool, i_tup0, i_tup1, i_tup2, i_pv0, i_pv1, i_ro, f_lenR, f_max, List.length_cons, List.length_nil, List.map_cons, List.map_nil, List.replicate, List.cons_append, List.nil_append, Nat.sub_self, List.getElem?_cons_zero, List.getElem?_cons_succ, List.set_cons_zero, List.set_cons_succ, and_true, true_and, Nat.reduceAdd, Nat.reduceSub, decide_eq_true_eq])
  refine ite_all (fun w1 => hX2 t ht w1) fun w1 => ?_
  rw [f_lenL hp, lv_length]
  (try simp only [s_nil, s_asg, s_setIt, s_ex, s_ret, s_ife, s_raise, s_pass, s_tr, app_nil, app_cons, wpE, wpEs, wpB, sr_ex, sr_r1, r1_i, wpHs, b_add, b_sub, b_mul, b_fdiv, b_mod, b_pow9, b_pow10, b_pow6, b_addL, c_lt, c_le, c_gt, c_ge, c_eqI, c_neI, c_eqS, c_neS, c_eqB, c_neB, asB_bool, i_tup0, i_tup1, i_tup2, i_pv0, i_pv1, i_ro, f_lenR, f_max, List.length_cons, List.length_nil, List.map_cons, List.map_nil, List.replicate, List.cons_append, List.nil_append, Nat.sub_self, List.getElem?_cons_zero, List.getElem?_cons_succ, List.set_cons_zero, List.set_cons_succ, and_true, true_and, Nat.reduceAdd, Nat.reduceSub, decide_eq_true_eq])
  refine ite_all (fun w2 => hX3 t ht w1 (by omega)) fun w2 => ?_
  refine src_of hp ?_
  rw [lvIt]
  have hlf := List.length_filter_le (fun q : Int × Int => !decide (q.1 = v)) ps
  refine compGo_if _ (fun q => !decide (q.1 = v)) pv (okH_one hp) ps [] (by simp [lim_eq]; omega) ?_ ?_
  · intro q hq'
    refine ⟨_, rfl, fun K hK => ?_, fun _ K hK => ?_⟩
    · (try simp only [s_nil, s_asg, s_setIt, s_ex, s_ret, s_ife, s_raise, s_pass, s_tr, app_nil, app_cons, wpE, wpEs, wpB, sr_ex, sr_r1, r1_i, wpHs, b_add, b_sub, b_mul, b_fdiv, b_mod, b_pow9, b_pow10, b_pow6, b_addL, c_lt, c_le, c_gt, c_ge, c_eqI, c_neI, c_eqS, c_neS, c_eqB, c_neB, asB_bool, i_tup0, i_tup1, i_tup2, i_pv0, i_pv1, i_ro, f_lenR, f_max, List.length_cons, List.length_nil, List.map_cons, List.map_nil, List.replicate, List.cons_append, List.nil_append, Nat.sub_self, List.getElem?_cons_zero, List.getElem?_cons_succ, List.set_cons_zero, List.set_cons_succ, and_true, true_and, Nat.reduceAdd, Nat.reduceSub, decide_eq_true_eq]); exact hK
    · (try simp only [s_nil, s_asg, s_setIt, s_ex, s_ret, s_ife, s_raise, s_pass, s_tr, app_nil, app_cons, wpE, wpEs, wpB, sr_ex, sr_r1, r1_i, wpHs, b_add, b_sub, b_mul, b_fdiv, b_mod, b_pow9, b_pow10, b_pow6, b_addL, c_lt, c_le, c_gt, c_ge, c_eqI, c_neI, c_eqS, c_neS, c_eqB, c_neB, asB_bool, i_tup0, i_tup1, i_tup2, i_pv0, i_pv1, i_ro, f_lenR, f_max, List.length_cons, List.length_nil, List.map_cons, List.map_nil, List.replicate, List.cons_append, List.nil_append, Nat.sub_self, List.getElem?_cons_zero, List.getElem?_cons_succ, List.set_cons_zero, List.set_cons_succ, and_true, true_and, Nat.reduceAdd, Nat.reduceSub, decide_eq_true_eq]); exact hK
  · refine ⟨by simp [lim_eq]; omega, fun a ha => ?_⟩
    exact hq t ht w1 (by omega) _ a _ (.refl _) (srt_filter hs) (.new _ ha) ha (by rw [Hp.set_self]; rfl)
end
end Mine.Internal
end

section
namespace Mine.Internal
open PySem (Str Addr)
noncomputable def there (ps : List (Int × Int)) (v : Int) : Int := (lk v ps).getD (-1)
noncomputable def dueP (ps : List (Int × Int)) (w v c : Int) : Nat :=
  if w = 0 then (if there ps v < 0 then 1 else if c < 0 ∨ 1000000000 < c ∨ 1000000000 < there ps v + c then 2 else 0)
  else if w = 1 then (if there ps v < 0 then 1 else if c < 0 ∨ 1000000000 < c then 2 else if there ps v < c then 3 else 0)
  else if w = 2 then (if v < 1 ∨ 1000 < v then 1 else if 0 ≤ there ps v then 4 else if ps.length = 10 then 5 else 0)
  else (if there ps v < 0 then 1 else if 0 < there ps v then 6 else if ps.length = 1 then 5 else 0)
noncomputable def codeS : Nat → String
  | 1 => "kind" | 2 => "count" | 3 => "few" | 4 => "twice" | 5 => "till" | 6 => "held" | _ => ""
noncomputable def codeX : Nat → String
  | 1 => "NoKind" | 2 => "NoCount" | 3 => "TooFew" | 4 => "Twice" | 5 => "NoTill" | 6 => "StillHeld" | _ => ""
section
variable {defs : String → Option Fn} {anc : String → List String} {n : Nat} {Q : V → Hp → Prop} {X : String → Hp → Prop} {H : Hp}
theorem there_spec (h5 : defs "_law_there" = some f_law_there) {p : Addr} {v : Int} {ps : List (Int × Int)} (hp : H p = some (.list (lv ps))) (hq : Q (.int (there ps v)) H) :
    callN defs anc (n + 1) "_law_there" [.ref p, .int v] Q X H := by
  rw [callN, h5]
  simp only [f_law_there]
  refine ⟨rfl, ?_⟩
  refine for_cons ⟨rfl, ?_⟩
  (try simp only [s_nil, s_asg, s_setIt, s_ex, s_ret, s_ife, s_raise, s_pass, s_tr, app_nil, app_cons, wpE, wpEs, wpB, sr_ex, sr_r1, r1_i, wpHs, b_add, b_sub, b_mul, b_fdiv, b_mod, b_pow9, b_pow10, b_pow6, b_addL, c_lt, c_le, c_gt, c_ge, c_eqI, c_neI, c_eqS, c_neS, c_eqB, c_neB, asB_bool, i_tup0, i_tup1, i_tup2, i_pv0, i_pv1, i_ro, f_lenR, f_max, List.length_cons, List.length_nil, List.map_cons, List.map_nil, List.replicate, List.cons_append, List.nil_append, Nat.sub_self, List.getElem?_cons_zero, List.getElem?_cons_succ, List.set_cons_zero, List.set_cons_succ, and_true, true_and, Nat.reduceAdd, Nat.reduceSub, decide_eq_true_eq])
  refine src_of hp ?_
  rw [lvIt]
  refine forGo_map (I := fun as ρ H' => ∃ x2, ρ = [some (.ref p), some (.int v), x2] ∧ H' = H ∧ v ∉ as.map (·.1)) ?_ ?_ ?_ ⟨_, rfl, rfl, by simp⟩
  · rintro as ρ H' ⟨x2, rfl, rfl, _⟩; exact okH_one hp
  · rintro ρ H' ⟨x2, rfl, rfl, hm⟩
    dsimp only [restW]
    (try simp only [s_nil, s_asg, s_setIt, s_ex, s_ret, s_ife, s_raise, s_pass, s_tr, app_nil, app_cons, wpE, wpEs, wpB, sr_ex, sr_r1, r1_i, wpHs, b_add, b_sub, b_mul, b_fdiv, b_mod, b_pow9, b_pow10, b_pow6, b_addL, c_lt, c_le, c_gt, c_ge, c_eqI, c_neI, c_eqS, c_neS, c_eqB, c_neB, asB_bool, i_tup0, i_tup1, i_tup2, i_pv0, i_pv1, i_ro, f_lenR, f_max, List.length_cons, List.length_nil, List.map_cons, List.map_nil, List.replicate, List.cons_append, List.nil_append, Nat.sub_self, List.getElem?_cons_zero, List.getElem?_cons_succ, List.set_cons_zero, List.set_cons_succ, and_true, true_and, Nat.reduceAdd, Nat.reduceSub, decide_eq_true_eq])
    rw [there, lk_none.mpr hm] at hq; exact hq
  · rintro as b bs ρ H' K e ⟨x2, rfl, rfl, hm⟩ hK
    refine ⟨_, rfl, ?_⟩
    rw [bodyW]
    (try simp only [s_nil, s_asg, s_setIt, s_ex, s_ret, s_ife, s_raise, s_pass, s_tr, app_nil, app_cons, wpE, wpEs, wpB, sr_ex, sr_r1, r1_i, wpHs, b_add, b_sub, b_mul, b_fdiv, b_mod, b_pow9, b_pow10, b_pow6, b_addL, c_lt, c_le, c_gt, c_ge, c_eqI, c_neI, c_eqS, c_neS, c_eqB, c_neB, asB_bool, i_tup0, i_tup1, i_tup2, i_pv0, i_pv1, i_ro, f_lenR, f_max, List.length_cons, List.length_nil, List.map_cons, List.map_nil, List.replicate, List.cons_append, List.nil_append, Nat.sub_self, List.getElem?_cons_zero, List.getElem?_cons_succ, List.set_cons_zero, List.set_cons_succ, and_true, true_and, Nat.reduceAdd, Nat.reduceSub, decide_eq_true_eq])
    refine ite_all (fun h => ?_) fun h => hK _ _ ⟨_, rfl, rfl, ?_⟩
    · rw [there, e, lk_append hm, lk, if_pos h] at hq; exact hq
    · simp only [List.map_append, List.map_cons, List.map_nil, List.mem_append, List.mem_cons, List.not_mem_nil, or_false, not_or]
      exact ⟨hm, fun q => h q.symm⟩
theorem or_ifN {c : Prop} {i1 : Decidable (¬ c)} {i2 : Decidable c} {A B B' : Prop} (h1 : c → A) (h2 : ¬ c → B') : @ite Prop (¬ c) i1 B' (@ite Prop c i2 A B) := by
  by_cases h : c
  · rw [if_neg (fun q => q h), if_pos h]; exact h1 h
  · rw [if_pos h]; exact h2 h
theorem due3_spec (h1 : defs "_law_there" = some f_law_there) (h5 : defs "_law_due" = some f_law_due_03) {p : Addr} {w v c : Int} {ps : List (Int × Int)} (hp : H p = some (.list (lv ps))) (hw : w = 0 ∨ w = 1 ∨ w = 2 ∨ w = 3)
    (hq : Q (.str (Str.ofString (codeS (dueP ps w v c)))) H) :
    callN defs anc (n + 2) "_law_due" [.ref p, .int w, .int v, .int c] Q X H := by
  have code : ∀ m : Nat, dueP ps w v c = m → Q (.str (Str.ofString (codeS m))) H := fun m e => e ▸ hq
  clear hq
  rw [callN, h5]
  simp only [f_law_due_03]
  (try simp only [s_nil, sf_asg, sf_setIt, sf_ex, s_ret, sf_ife, s_raise, s_pass, s_tr, app_nil, app_cons, wpE, wpEs, wpB, sr_ex, sr_r1, r1_i, wpHs, b_add, b_sub, b_mul, b_fdiv, b_mod, b_pow9, b_pow10, b_pow6, b_addL, c_lt, c_le, c_gt, c_ge, c_eqI, c_neI, c_eqS, c_neS, c_eqB, c_neB, asB_bool, i_tup0, i_tup1, i_tup2, i_pv0, i_pv1, i_ro, f_lenR, f_max, List.length_cons, List.length_nil, List.map_cons, List.map_nil, List.replicate, List.cons_append, List.nil_append, Nat.sub_self, List.getElem?_cons_zero, List.getElem?_cons_succ, List.set_cons_zero, List.set_cons_succ, and_true, true_and, Nat.reduceAdd, Nat.reduceSub, decide_eq_true_eq])
  refine there_spec h1 hp ?_
  unfold dueP at code
  generalize there ps v = t at *
  rcases hw with rfl | rfl | rfl | rfl
  all_goals simp only [Int.reduceEq, if_true, if_false] at code
  · have k1 : t < 0 → Q (.str (Str.ofString "kind")) H := fun h => code 1 (by rw [if_pos h])
    have k2 : ¬ t < 0 → (c < 0 ∨ 1000000000 < c ∨ 1000000000 < t + c) → Q (.str (Str.ofString "count")) H := fun h g => code 2 (by rw [if_neg h, if_pos g])
    have k0 : ¬ t < 0 → ¬ (c < 0 ∨ 1000000000 < c ∨ 1000000000 < t + c) → Q (.str (Str.ofString "")) H := fun h g => code 0 (by rw [if_neg h, if_neg g])
    clear code
    repeat' first
      | (dsimp only [restW]; (try simp only [s_nil, sf_asg, sf_setIt, sf_ex, s_ret, sf_ife, s_raise, s_pass, s_tr, app_nil, app_cons, wpE, wpEs, wpB, sr_ex, sr_r1, r1_i, wpHs, b_add, b_sub, b_mul, b_fdiv, b_mod, b_pow9, b_pow10, b_pow6, b_addL, c_lt, c_le, c_gt, c_ge, c_eqI, c_neI, c_eqS, c_neS, c_eqB, c_neB, asB_bool, i_tup0, i_tup1, i_tup2, i_pv0, i_pv1, i_ro, f_lenR, f_max, List.length_cons, List.length_nil, List.map_cons, List.map_nil, List.replicate, List.cons_append, List.nil_append, Nat.sub_self, List.getElem?_cons_zero, List.getElem?_cons_succ, List.set_cons_zero, List.set_cons_succ, and_true, true_and, Nat.reduceAdd, Nat.reduceSub, decide_eq_true_eq]); (try simp only [Int.reduceLT, Int.reduceEq, Int.reduceLE, decide_true, decide_false, reduceIte, Bool.false_eq_true, Bool.true_eq_false, reduceCtorEq, if_true, if_false, decide_eq_true_eq, decide_eq_false_iff_not, Bool.not_eq_true', Bool.not_eq_false']))
      | (with_reducible refine or_ifN ?_ ?_ <;> intro _)
      | (with_reducible refine ite_all ?_ ?_ <;> intro _)
    all_goals first | exact k1 (by assumption) | exact k2 (by assumption) (by omega) | exact k0 (by assumption) (by omega)
  · have k1 : t < 0 → Q (.str (Str.ofString "kind")) H := fun h => code 1 (by rw [if_pos h])
    have k2 : ¬ t < 0 → (c < 0 ∨ 1000000000 < c) → Q (.str (Str.ofString "count")) H := fun h g => code 2 (by rw [if_neg h, if_pos g])
    have k3 : ¬ t < 0 → ¬ (c < 0 ∨ 1000000000 < c) → t < c → Q (.str (Str.ofString "few")) H := fun h g f => code 3 (by rw [if_neg h, if_neg g, if_pos f])
    have k0 : ¬ t < 0 → ¬ (c < 0 ∨ 1000000000 < c) → ¬ t < c → Q (.str (Str.ofString "")) H := fun h g f => code 0 (by rw [if_neg h, if_neg g, if_neg f])
    clear code
    repeat' first
      | (dsimp only [restW]; (try simp only [s_nil, sf_asg, sf_setIt, sf_ex, s_ret, sf_ife, s_raise, s_pass, s_tr, app_nil, app_cons, wpE, wpEs, wpB, sr_ex, sr_r1, r1_i, wpHs, b_add, b_sub, b_mul, b_fdiv, b_mod, b_pow9, b_pow10, b_pow6, b_addL, c_lt, c_le, c_gt, c_ge, c_eqI, c_neI, c_eqS, c_neS, c_eqB, c_neB, asB_bool, i_tup0, i_tup1, i_tup2, i_pv0, i_pv1, i_ro, f_lenR, f_max, List.length_cons, List.length_nil, List.map_cons, List.map_nil, List.replicate, List.cons_append, List.nil_append, Nat.sub_self, List.getElem?_cons_zero, List.getElem?_cons_succ, List.set_cons_zero, List.set_cons_succ, and_true, true_and, Nat.reduceAdd, Nat.reduceSub, decide_eq_true_eq]); (try simp only [Int.reduceLT, Int.reduceEq, Int.reduceLE, decide_true, decide_false, reduceIte, Bool.false_eq_true, Bool.true_eq_false, reduceCtorEq, if_true, if_false, decide_eq_true_eq, decide_eq_false_iff_not, Bool.not_eq_true', Bool.not_eq_false']))
      | (with_reducible refine or_ifN ?_ ?_ <;> intro _)
      | (with_reducible refine ite_all ?_ ?_ <;> intro _)
    all_goals first | exact k1 (by assumption) | exact k2 (by assumption) (by omega) | exact k3 (by assumption) (by omega) (by assumption) | exact k0 (by assumption) (by omega) (by assumption) | (exfalso; omega)
  · have k1 : (v < 1 ∨ 1000 < v) → Q (.str (Str.ofString "kind")) H := fun h => code 1 (by rw [if_pos h])
    have k2 : ¬ (v < 1 ∨ 1000 < v) → 0 ≤ t → Q (.str (Str.ofString "twice")) H := fun h g => code 4 (by rw [if_neg h, if_pos g])
    have k3 : ¬ (v < 1 ∨ 1000 < v) → ¬ 0 ≤ t → ps.length = 10 → Q (.str (Str.ofString "till")) H := fun h g f => code 5 (by rw [if_neg h, if_neg g, if_pos f])
    have k0 : ¬ (v < 1 ∨ 1000 < v) → ¬ 0 ≤ t → ¬ ps.length = 10 → Q (.str (Str.ofString "")) H := fun h g f => code 0 (by rw [if_neg h, if_neg g, if_neg f])
    clear code
    repeat' first
      | (dsimp only [restW]; (try simp only [s_nil, sf_asg, sf_setIt, sf_ex, s_ret, sf_ife, s_raise, s_pass, s_tr, app_nil, app_cons, wpE, wpEs, wpB, sr_ex, sr_r1, r1_i, wpHs, b_add, b_sub, b_mul, b_fdiv, b_mod, b_pow9, b_pow10, b_pow6, b_addL, c_lt, c_le, c_gt, c_ge, c_eqI, c_neI, c_eqS, c_neS, c_eqB, c_neB, asB_bool, i_tup0, i_tup1, i_tup2, i_pv0, i_pv1, i_ro, f_lenR, f_max, List.length_cons, List.length_nil, List.map_cons, List.map_nil, List.replicate, List.cons_append, List.nil_append, Nat.sub_self, List.getElem?_cons_zero, List.getElem?_cons_succ, List.set_cons_zero, List.set_cons_succ, and_true, true_and, Nat.reduceAdd, Nat.reduceSub, decide_eq_true_eq]); (try simp only [Int.reduceLT, Int.reduceEq, Int.reduceLE, decide_true, decide_false, reduceIte, Bool.false_eq_true, Bool.true_eq_false, reduceCtorEq, if_true, if_false, decide_eq_true_eq, decide_eq_false_iff_not, Bool.not_eq_true', Bool.not_eq_false']))
      | (with_reducible refine or_ifN ?_ ?_ <;> intro _)
      | (with_reducible refine ite_all ?_ ?_ <;> intro _)
      | (rw [f_lenL hp, lv_length]; (try simp only [s_nil, sf_asg, sf_setIt, sf_ex, s_ret, sf_ife, s_raise, s_pass, s_tr, app_nil, app_cons, wpE, wpEs, wpB, sr_ex, sr_r1, r1_i, wpHs, b_add, b_sub, b_mul, b_fdiv, b_mod, b_pow9, b_pow10, b_pow6, b_addL, c_lt, c_le, c_gt, c_ge, c_eqI, c_neI, c_eqS, c_neS, c_eqB, c_neB, asB_bool, i_tup0, i_tup1, i_tup2, i_pv0, i_pv1, i_ro, f_lenR, f_max, List.length_cons, List.length_nil, List.map_cons, List.map_nil, List.replicate, List.cons_append, List.nil_append, Nat.sub_self, List.getElem?_cons_zero, List.getElem?_cons_succ, List.set_cons_zero, List.set_cons_succ, and_true, true_and, Nat.reduceAdd, Nat.reduceSub, decide_eq_true_eq]); (try simp only [Int.reduceLT, Int.reduceEq, Int.reduceLE, decide_true, decide_false, reduceIte, Bool.false_eq_true, Bool.true_eq_false, reduceCtorEq, if_true, if_false, decide_eq_true_eq, decide_eq_false_iff_not, Bool.not_eq_true', Bool.not_eq_false']))
    all_goals first | exact k1 (by omega) | exact k2 (by omega) (by assumption) | exact k3 (by omega) (by assumption) (by omega) | exact k0 (by omega) (by assumption) (by omega) | (exfalso; omega)
  · have k1 : t < 0 → Q (.str (Str.ofString "kind")) H := fun h => code 1 (by rw [if_pos h])
    have k2 : ¬ t < 0 → 0 < t → Q (.str (Str.ofString "held")) H := fun h g => code 6 (by rw [if_neg h, if_pos g])
    have k3 : ¬ t < 0 → ¬ 0 < t → ps.length = 1 → Q (.str (Str.ofString "till")) H := fun h g f => code 5 (by rw [if_neg h, if_neg g, if_pos f])
    have k0 : ¬ t < 0 → ¬ 0 < t → ¬ ps.length = 1 → Q (.str (Str.ofString "")) H := fun h g f => code 0 (by rw [if_neg h, if_neg g, if_neg f])
    clear code
    repeat' first
      | (dsimp only [restW]; (try simp only [s_nil, sf_asg, sf_setIt, sf_ex, s_ret, sf_ife, s_raise, s_pass, s_tr, app_nil, app_cons, wpE, wpEs, wpB, sr_ex, sr_r1, r1_i, wpHs, b_add, b_sub, b_mul, b_fdiv, b_mod, b_pow9, b_pow10, b_pow6, b_addL, c_lt, c_le, c_gt, c_ge, c_eqI, c_neI, c_eqS, c_neS, c_eqB, c_neB, asB_bool, i_tup0, i_tup1, i_tup2, i_pv0, i_pv1, i_ro, f_lenR, f_max, List.length_cons, List.length_nil, List.map_cons, List.map_nil, List.replicate, List.cons_append, List.nil_append, Nat.sub_self, List.getElem?_cons_zero, List.getElem?_cons_succ, List.set_cons_zero, List.set_cons_succ, and_true, true_and, Nat.reduceAdd, Nat.reduceSub, decide_eq_true_eq]); (try simp only [Int.reduceLT, Int.reduceEq, Int.reduceLE, decide_true, decide_false, reduceIte, Bool.false_eq_true, Bool.true_eq_false, reduceCtorEq, if_true, if_false, decide_eq_true_eq, decide_eq_false_iff_not, Bool.not_eq_true', Bool.not_eq_false']))
      | (with_reducible refine or_ifN ?_ ?_ <;> intro _)
      | (with_reducible refine ite_all ?_ ?_ <;> intro _)
      | (rw [f_lenL hp, lv_length]; (try simp only [s_nil, sf_asg, sf_setIt, sf_ex, s_ret, sf_ife, s_raise, s_pass, s_tr, app_nil, app_cons, wpE, wpEs, wpB, sr_ex, sr_r1, r1_i, wpHs, b_add, b_sub, b_mul, b_fdiv, b_mod, b_pow9, b_pow10, b_pow6, b_addL, c_lt, c_le, c_gt, c_ge, c_eqI, c_neI, c_eqS, c_neS, c_eqB, c_neB, asB_bool, i_tup0, i_tup1, i_tup2, i_pv0, i_pv1, i_ro, f_lenR, f_max, List.length_cons, List.length_nil, List.map_cons, List.map_nil, List.replicate, List.cons_append, List.nil_append, Nat.sub_self, List.getElem?_cons_zero, List.getElem?_cons_succ, List.set_cons_zero, List.set_cons_succ, and_true, true_and, Nat.reduceAdd, Nat.reduceSub, decide_eq_true_eq]); (try simp only [Int.reduceLT, Int.reduceEq, Int.reduceLE, decide_true, decide_false, reduceIte, Bool.false_eq_true, Bool.true_eq_false, reduceCtorEq, if_true, if_false, decide_eq_true_eq, decide_eq_false_iff_not, Bool.not_eq_true', Bool.not_eq_false']))
    all_goals first | exact k1 (by assumption) | exact k2 (by assumption) (by assumption) | exact k3 (by assumption) (by assumption) (by omega) | exact k0 (by assumption) (by assumption) (by omega) | (exfalso; omega)
noncomputable def target (ps : List (Int × Int)) (w v c : Int) : List (Int × Int) :=
  if w = 0 then ps.map (fun p => if p.1 = v then (v, p.2 + c) else p)
  else if w = 1 then ps.map (fun p => if p.1 = v then (v, p.2 - c) else p)
  else if w = 2 then ps ++ [(v, 0)]
  else ps.filter fun q => !decide (q.1 = v)
theorem map_keys {ps : List (Int × Int)} {v : Int} {f : Int × Int → Int × Int} (hf : ∀ p, (f p).1 = p.1) : (ps.map f).map (·.1) = ps.map (·.1) := by
  rw [List.map_map]; exact List.map_congr_left fun p _ => hf p
theorem ite_key {v : Int} {g : Int × Int → Int} (p : Int × Int) : (if p.1 = v then (v, g p) else p).1 = p.1 := by split <;> simp_all
theorem behind_spec (h5 : defs "_law_behind" = some f_law_behind) {p : Addr} {w v c : Int} {ps : List (Int × Int)} (hp : H p = some (.list (lv ps))) (hw : w = 0 ∨ w = 1 ∨ w = 2 ∨ w = 3) (hl : ps.length ≤ 60) (hn : ((target ps w v c).map (·.1)).Nodup) (hs : SrtP ps)
    (hq : GiveL Q H (target ps w v c)) :
    callN defs anc (n + 1) "_law_behind" [.ref p, .int w, .int v, .int c] Q X H := by
  rw [callN, h5]
  simp only [f_law_behind]
  (try simp only [s_nil, s_asg, s_setIt, s_ex, s_ret, s_ife, s_raise, s_pass, s_tr, app_nil, app_cons, wpE, wpEs, wpB, sr_ex, sr_r1, r1_i, wpHs, b_add, b_sub, b_mul, b_fdiv, b_mod, b_pow9, b_pow10, b_pow6, b_addL, c_lt, c_le, c_gt, c_ge, c_eqI, c_neI, c_eqS, c_neS, c_eqB, c_neB, asB_bool, i_tup0, i_tup1, i_tup2, i_pv0, i_pv1, i_ro, f_lenR, f_max, List.length_cons, List.length_nil, List.map_cons, List.map_nil, List.replicate, List.cons_append, List.nil_append, Nat.sub_self, List.getElem?_cons_zero, List.getElem?_cons_succ, List.set_cons_zero, List.set_cons_succ, and_true, true_and, Nat.reduceAdd, Nat.reduceSub, decide_eq_true_eq])
  by_cases h2 : w = 2
  · subst h2
    rw [if_pos rfl]
    refine ⟨Nat.le_of_ble_eq_true rfl, Nat.le_of_ble_eq_true rfl, fun A hA => ?_⟩
    dsimp only
    rw [b_addL]
    refine ⟨_, _, Ext.new _ hA _ _ hp, Hp.set_self _ _ _, by simp [lim_eq]; omega, fun B hB => ?_⟩
    dsimp only
    rw [f_sortL (Hp.set_self _ _ _)]
    simp only [target, Int.reduceEq, if_false, if_true] at hq hn
    refine ⟨by simp; omega, .inr ⟨ps ++ [(v, 0)], by simp [lv, pv, pairV], hn, fun qs g1 g2 => ⟨by rw [List.length_map, g1.length_eq, lim_eq]; simp; omega, fun C hC => ?_⟩⟩⟩
    have hE := ((Ext.new (.list [V.tup [.int v, .int 0]]) hA).trans (.new (.list (lv ps ++ [V.tup [.int v, .int 0]])) hB))
    exact hq qs C _ g1 g2 (hE.trans (.new _ hC)) (hE.no hC) (by rw [Hp.set_self]; rfl)
  rw [if_neg (by simpa using h2)]
  refine ⟨Nat.le_of_ble_eq_true rfl, fun F hF => for_cons ⟨rfl, ?_⟩⟩
  (try simp only [s_nil, s_asg, s_setIt, s_ex, s_ret, s_ife, s_raise, s_pass, s_tr, app_nil, app_cons, wpE, wpEs, wpB, sr_ex, sr_r1, r1_i, wpHs, b_add, b_sub, b_mul, b_fdiv, b_mod, b_pow9, b_pow10, b_pow6, b_addL, c_lt, c_le, c_gt, c_ge, c_eqI, c_neI, c_eqS, c_neS, c_eqB, c_neB, asB_bool, i_tup0, i_tup1, i_tup2, i_pv0, i_pv1, i_ro, f_lenR, f_max, List.length_cons, List.length_nil, List.map_cons, List.map_nil, List.replicate, List.cons_append, List.nil_append, Nat.sub_self, List.getElem?_cons_zero, List.getElem?_cons_succ, List.set_cons_zero, List.set_cons_succ, and_true, true_and, Nat.reduceAdd, Nat.reduceSub, decide_eq_true_eq])
  refine src_of (Ext.new _ hF _ _ hp) ?_
  rw [lvIt]
  have tgt : ∀ l : List (Int × Int), target l w v c = l.flatMap fun b => if b.1 = v then (if w < 2 then [(v, b.2 + (if w = 0 then c else 0 - c))] else []) else [b] := by
    intro l
    rcases hw with rfl | rfl | rfl | rfl
    · simp only [target, if_true]
      rw [← List.flatMap_singleton' (l.map _), List.flatMap_map]
      congr 1; funext b; split <;> simp
    · simp only [target, Int.reduceEq, if_false, if_true]
      rw [← List.flatMap_singleton' (l.map _), List.flatMap_map]
      congr 1; funext b; split <;> simp <;> omega
    · exact absurd rfl h2
    · simp only [target, Int.reduceEq, if_false]
      induction l with
      | nil => rfl
      | cons b l ih =>
        rw [List.filter_cons, List.flatMap_cons, ← ih]
        by_cases e : b.1 = v <;> simp [e]
  have srt : SrtP (target ps w v c) := by
    rcases hw with rfl | rfl | rfl | rfl
    · unfold SrtP target; rw [if_pos rfl, map_keys (v := v) ite_key]; exact hs
    · unfold SrtP target; rw [if_neg (by decide), if_pos rfl, map_keys (v := v) ite_key]; exact hs
    · exact absurd rfl h2
    · unfold target; rw [if_neg (by decide), if_neg (by decide), if_neg (by decide)]; exact srt_filter hs
  have tl : ∀ l : List (Int × Int), (target l w v c).length ≤ l.length := by
    intro l
    rcases hw with rfl | rfl | rfl | rfl
    · simp [target]
    · simp [target]
    · exact absurd rfl h2
    · simp only [target, Int.reduceEq, if_false]; exact List.length_filter_le _ _
  refine forGo_map (I := fun as ρ H' => ∃ x5, ρ = [some (.ref p), some (.int w), some (.int v), some (.int c), some (.ref F), x5] ∧ Ext H H' ∧ H' F = some (.list (lv (target as w v c)))) ?_ ?_ ?_ ⟨_, rfl, .new _ hF, by rw [Hp.set_self, tgt]; rfl⟩
  · rintro as ρ H' ⟨x5, rfl, hE, e1⟩; exact okH_one (hE _ _ hp)
  · rintro ρ H' ⟨x5, rfl, hE, e1⟩
    dsimp only [restW]
    (try simp only [s_nil, s_asg, s_setIt, s_ex, s_ret, s_ife, s_raise, s_pass, s_tr, app_nil, app_cons, wpE, wpEs, wpB, sr_ex, sr_r1, r1_i, wpHs, b_add, b_sub, b_mul, b_fdiv, b_mod, b_pow9, b_pow10, b_pow6, b_addL, c_lt, c_le, c_gt, c_ge, c_eqI, c_neI, c_eqS, c_neS, c_eqB, c_neB, asB_bool, i_tup0, i_tup1, i_tup2, i_pv0, i_pv1, i_ro, f_lenR, f_max, List.length_cons, List.length_nil, List.map_cons, List.map_nil, List.replicate, List.cons_append, List.nil_append, Nat.sub_self, List.getElem?_cons_zero, List.getElem?_cons_succ, List.set_cons_zero, List.set_cons_succ, and_true, true_and, Nat.reduceAdd, Nat.reduceSub, decide_eq_true_eq])
    exact hq _ F H' (.refl _) srt hE hF e1
  · rintro as b bs ρ H' K e ⟨x5, rfl, hE, e1⟩ hK
    refine ⟨_, rfl, ?_⟩
    rw [bodyW]
    have hla := tl as
    have hlas : as.length ≤ 60 := by rw [e] at hl; simp at hl; omega
    have stp : target (as ++ [b]) w v c = target as w v c ++ (if b.1 = v then (if w < 2 then [(v, b.2 + (if w = 0 then c else 0 - c))] else []) else [b]) := by rw [tgt, tgt as, List.flatMap_append]; simp
    (try simp only [s_nil, s_asg, s_setIt, s_ex, s_ret, s_ife, s_raise, s_pass, s_tr, app_nil, app_cons, wpE, wpEs, wpB, sr_ex, sr_r1, r1_i, wpHs, b_add, b_sub, b_mul, b_fdiv, b_mod, b_pow9, b_pow10, b_pow6, b_addL, c_lt, c_le, c_gt, c_ge, c_eqI, c_neI, c_eqS, c_neS, c_eqB, c_neB, asB_bool, i_tup0, i_tup1, i_tup2, i_pv0, i_pv1, i_ro, f_lenR, f_max, List.length_cons, List.length_nil, List.map_cons, List.map_nil, List.replicate, List.cons_append, List.nil_append, Nat.sub_self, List.getElem?_cons_zero, List.getElem?_cons_succ, List.set_cons_zero, List.set_cons_succ, and_true, true_and, Nat.reduceAdd, Nat.reduceSub, decide_eq_true_eq])
    by_cases hb : b.1 = v
    · rw [if_neg (by simp [hb])]
      rw [if_pos hb] at stp
      refine ite_all (fun hw2 => ?_) fun hw2 => ?_
      · rw [if_pos hw2] at stp
        rw [r_L e1]
        refine ⟨⟨by decide, by decide⟩, Nat.le_of_ble_eq_true rfl, fun A hA => ?_⟩
        dsimp only
        rw [i_list (Hp.set_self _ _ _)]
        have e1' := Ext.new (.list [V.int c, V.int (0 - c)]) hA _ _ e1
        have hE' : Ext H (H'.set A (.list [V.int c, V.int (0 - c)])) := hE.trans (.new _ hA)
        have fin : ∀ d : Int, d = (if w = 0 then c else 0 - c) → 2 ≤ Lim ∧ wmt .append (.ref F) [V.tup [.int v, .int (b.2 + d)]] (fun x H₁ => K [some (.ref p), some (.int w), some (.int v), some (.int c), some (.ref F), some (pv b)] H₁) (H'.set A (.list [V.int c, V.int (0 - c)])) := by
          intro d hd
          refine ⟨Nat.le_of_ble_eq_true rfl, ?_⟩
          rw [m_append e1']
          refine ⟨by rw [lv_length, lim_eq]; omega, hK _ _ ⟨_, rfl, .setNew _ hE' hF, ?_⟩⟩
          rw [Hp.set_self, stp, lv_append, hd]; rfl
        rcases hw with rfl | rfl | rfl | rfl
        · exact ⟨0, _, ⟨by decide, by decide⟩, rfl, rfl, fin c rfl⟩
        · exact ⟨1, _, ⟨by decide, by decide⟩, rfl, rfl, fin (0 - c) rfl⟩
        · exact absurd hw2 (by decide)
        · exact absurd hw2 (by decide)
      · rw [if_neg hw2, List.append_nil] at stp
        exact hK _ _ ⟨_, rfl, hE, by rw [stp]; exact e1⟩
    · rw [if_pos (by simp [hb])]
      rw [if_neg hb] at stp
      rw [r_L e1]
      refine ⟨⟨by decide, by decide⟩, ?_⟩
      rw [m_append e1]
      refine ⟨by rw [lv_length, lim_eq]; omega, hK _ _ ⟨_, rfl, .setNew _ hE hF, ?_⟩⟩
      rw [Hp.set_self, stp, lv_append]; rfl
end
end Mine.Internal
end

section
namespace Mine.Internal
open PySem (Str Addr)
structure Till (ps : List (Int × Int)) : Prop where
  pos : 1 ≤ ps.length
  len : ps.length ≤ 10
  nodup : (ps.map (·.1)).Nodup
  srt : SrtP ps
  val : ∀ q ∈ ps, 1 ≤ q.1 ∧ q.1 ≤ 1000
  cnt : ∀ q ∈ ps, 0 ≤ q.2 ∧ q.2 ≤ 1000000000
theorem set_target {ps : List (Int × Int)} {v t d : Int} (hn : (ps.map (·.1)).Nodup) (h : lk v ps = some t) : setP v (t + d) ps = ps.map (fun p => if p.1 = v then (v, p.2 + d) else p) := by
  rw [setP_old hn (by
    have := lk_some h
    exact List.mem_map.mpr ⟨_, this, rfl⟩)]
  refine List.map_congr_left fun p hp => ?_
  by_cases e : p.1 = v
  · rw [if_pos e, if_pos e]
    have : lk v ps = some p.2 := lk_mem hn (by rw [← e]; exact hp)
    rw [h] at this; cases this; rfl
  · rw [if_neg e, if_neg e]
section
variable {defs : String → Option Fn} {anc : String → List String} {n : Nat} {Q : V → Hp → Prop} {X : String → Hp → Prop} {H : Hp}
theorem there_some {ps : List (Int × Int)} {v t : Int} (h : lk v ps = some t) : there ps v = t := by rw [there, h]; rfl
theorem there_none {ps : List (Int × Int)} {v : Int} (h : lk v ps = none) : there ps v = -1 := by rw [there, h]; rfl
theorem Till.lk_cnt {ps : List (Int × Int)} (G : Till ps) {v t : Int} (h : lk v ps = some t) : 0 ≤ t ∧ t ≤ 1000000000 := G.cnt _ (lk_some h)
theorem Till.target_nodup {ps : List (Int × Int)} (G : Till ps) {w v c : Int} (hw : w = 0 ∨ w = 1 ∨ w = 2 ∨ w = 3) (h : dueP ps w v c = 0) : ((target ps w v c).map (·.1)).Nodup := by
  rcases hw with rfl | rfl | rfl | rfl
  · unfold target; rw [if_pos rfl, map_keys (v := v) ite_key]; exact G.nodup
  · unfold target; rw [if_neg (by decide), if_pos rfl, map_keys (v := v) ite_key]; exact G.nodup
  · unfold target; rw [if_neg (by decide), if_neg (by decide), if_pos rfl, List.map_append]
    refine nodup_snoc G.nodup (lk_none.mp ?_)
    cases e : lk v ps with
    | none => rfl
    | some t =>
      have h1 := there_some e
      have h2 := G.lk_cnt e
      rw [dueP, if_neg (by decide), if_neg (by decide), if_pos rfl, h1] at h
      split at h
      · cases h
      · rw [if_pos h2.1] at h; cases h
  · unfold target; rw [if_neg (by decide), if_neg (by decide), if_neg (by decide)]
    exact G.nodup.sublist (List.filter_sublist.map _)
structure Def3 (defs : String → Option Fn) : Prop where
  h0 : defs "need_kind" = some f_need_kind
  h1 : defs "need_count" = some f_need_count
  h2 : defs "pairs_of" = some f_pairs_of
  h3 : defs "counts_of" = some f_counts_of
  h4 : defs "count_of" = some f_count_of
  h5 : defs "with_count" = some f_with_count
  h6 : defs "brought" = some f_brought
  h7 : defs "fetched" = some f_fetched
  h8 : defs "kind_in" = some f_kind_in
  h9 : defs "kind_out" = some f_kind_out
theorem done_spec (D : Def3 defs) (h5 : defs "_law_done" = some f_law_done) {p : Addr} {w v c : Int} {ps : List (Int × Int)} (hp : H p = some (.list (lv ps))) (hw : w = 0 ∨ w = 1 ∨ w = 2 ∨ w = 3) (G : Till ps)
    (hq : dueP ps w v c = 0 → GiveL Q H (target ps w v c))
    (hX : dueP ps w v c ≠ 0 → ∀ H', Ext H H' → X (codeX (dueP ps w v c)) H') :
    callN defs anc (n + 4) "_law_done" [.ref p, .int w, .int v, .int c] Q X H := by
  rw [callN, h5]
  simp only [f_law_done]
  (try simp only [s_nil, s_asg, s_setIt, s_ex, s_ret, s_ife, s_raise, s_pass, s_tr, app_nil, app_cons, wpE, wpEs, wpB, sr_ex, sr_r1, r1_i, wpHs, b_add, b_sub, b_mul, b_fdiv, b_mod, b_pow9, b_pow10, b_pow6, b_addL, c_lt, c_le, c_gt, c_ge, c_eqI, c_neI, c_eqS, c_neS, c_eqB, c_neB, asB_bool, i_tup0, i_tup1, i_tup2, i_pv0, i_pv1, i_ro, f_lenR, f_max, List.length_cons, List.length_nil, List.map_cons, List.map_nil, List.replicate, List.cons_append, List.nil_append, Nat.sub_self, List.getElem?_cons_zero, List.getElem?_cons_succ, List.set_cons_zero, List.set_cons_succ, and_true, true_and, Nat.reduceAdd, Nat.reduceSub, decide_eq_true_eq])
  have code : ∀ m : Nat, m ≠ 0 → dueP ps w v c = m → ∀ H', Ext H H' → X (codeX m) H' := fun m hm e H' hE => by have := hX (by omega) H' hE; rwa [e] at this
  have hl := G.len
  rcases hw with rfl | rfl | rfl | rfl
  · (try simp only [Int.reduceLT, Int.reduceEq, Int.reduceLE, decide_true, decide_false, reduceIte, Bool.false_eq_true, Bool.true_eq_false, reduceCtorEq, if_true, if_false, decide_eq_true_eq, decide_eq_false_iff_not, Bool.not_eq_true', Bool.not_eq_false'])
    have hd : dueP ps 0 v c = (if there ps v < 0 then 1 else if c < 0 ∨ 1000000000 < c ∨ 1000000000 < there ps v + c then 2 else 0) := by rw [dueP, if_pos rfl]
    refine brought_spec D.h1 D.h2 D.h3 D.h4 D.h5 D.h6 hp (by omega) G.nodup (fun hk => ?_) (fun t hk w1 => ?_) fun t hk w1 w2 => ?_
    · exact code 1 (by decide) (by rw [hd, there_none hk, if_pos (by decide)]) _ (.refl _)
    · have := G.lk_cnt hk
      exact code 2 (by decide) (by rw [hd, there_some hk, if_neg (by omega), if_pos (by omega)]) _ (.refl _)
    · have := G.lk_cnt hk
      have := hq (by rw [hd, there_some hk, if_neg (by omega), if_neg (by omega)])
      rw [set_target G.nodup hk]
      rw [target, if_pos rfl] at this; exact this
  · (try simp only [Int.reduceLT, Int.reduceEq, Int.reduceLE, decide_true, decide_false, reduceIte, Bool.false_eq_true, Bool.true_eq_false, reduceCtorEq, if_true, if_false, decide_eq_true_eq, decide_eq_false_iff_not, Bool.not_eq_true', Bool.not_eq_false'])
    have hd : dueP ps 1 v c = (if there ps v < 0 then 1 else if c < 0 ∨ 1000000000 < c then 2 else if there ps v < c then 3 else 0) := by rw [dueP, if_neg (by decide), if_pos rfl]
    refine fetched_spec D.h1 D.h2 D.h3 D.h4 D.h5 D.h7 hp (by omega) G.nodup (fun hk => ?_) (fun t hk w1 => ?_) (fun t hk w1 w2 => ?_) fun t hk w1 w2 => ?_
    · exact code 1 (by decide) (by rw [hd, there_none hk, if_pos (by decide)]) _ (.refl _)
    · have := G.lk_cnt hk
      exact code 2 (by decide) (by rw [hd, there_some hk, if_neg (by omega), if_pos (by omega)]) _ (.refl _)
    · have := G.lk_cnt hk
      exact code 3 (by decide) (by rw [hd, there_some hk, if_neg (by omega), if_neg (by omega), if_pos w2]) _ (.refl _)
    · have := G.lk_cnt hk
      have := hq (by rw [hd, there_some hk, if_neg (by omega), if_neg (by omega), if_neg w2])
      rw [Int.sub_eq_add_neg, set_target G.nodup hk]
      rw [target, if_neg (by decide), if_pos rfl] at this
      simpa only [Int.sub_eq_add_neg] using this
  · (try simp only [Int.reduceLT, Int.reduceEq, Int.reduceLE, decide_true, decide_false, reduceIte, Bool.false_eq_true, Bool.true_eq_false, reduceCtorEq, if_true, if_false, decide_eq_true_eq, decide_eq_false_iff_not, Bool.not_eq_true', Bool.not_eq_false'])
    have hd : dueP ps 2 v c = (if v < 1 ∨ 1000 < v then 1 else if 0 ≤ there ps v then 4 else if ps.length = 10 then 5 else 0) := by rw [dueP, if_neg (by decide), if_neg (by decide), if_pos rfl]
    have mem : v ∈ ps.map (·.1) → 0 ≤ there ps v := fun hm => by
      cases e : lk v ps with
      | none => exact absurd hm (lk_none.mp e)
      | some t => rw [there_some e]; exact (G.lk_cnt e).1
    have nm : v ∉ ps.map (·.1) → ¬ 0 ≤ there ps v := fun hm => by rw [there_none (lk_none.mpr hm)]; decide
    refine kind_in_spec D.h0 D.h2 D.h3 D.h5 D.h8 hp (by omega) G.nodup (fun w1 => ?_) (fun H' hE w1 w2 => ?_) (fun H' hE w1 w2 w3 => ?_) fun w1 w2 w3 => ?_
    · exact code 1 (by decide) (by rw [hd, if_pos (by omega)]) _ (.refl _)
    · exact code 4 (by decide) (by rw [hd, if_neg (by omega), if_pos (mem w2)]) _ hE
    · exact code 5 (by decide) (by rw [hd, if_neg (by omega), if_neg (nm w2), if_pos w3]) _ hE
    · have := hq (by rw [hd, if_neg (by omega), if_neg (nm w2), if_neg w3])
      rw [target, if_neg (by decide), if_neg (by decide), if_pos rfl] at this; exact this
  · (try simp only [Int.reduceLT, Int.reduceEq, Int.reduceLE, decide_true, decide_false, reduceIte, Bool.false_eq_true, Bool.true_eq_false, reduceCtorEq, if_true, if_false, decide_eq_true_eq, decide_eq_false_iff_not, Bool.not_eq_true', Bool.not_eq_false'])
    have hd : dueP ps 3 v c = (if there ps v < 0 then 1 else if 0 < there ps v then 6 else if ps.length = 1 then 5 else 0) := by rw [dueP, if_neg (by decide), if_neg (by decide), if_neg (by decide)]
    refine kind_out_spec D.h4 D.h9 hp (by omega) G.srt (fun hk => ?_) (fun t hk w1 => ?_) (fun t hk w1 w2 => ?_) fun t hk w1 w2 => ?_
    · exact code 1 (by decide) (by rw [hd, there_none hk, if_pos (by decide)]) _ (.refl _)
    · have := G.lk_cnt hk
      exact code 6 (by decide) (by rw [hd, there_some hk, if_neg (by omega), if_pos w1]) _ (.refl _)
    · have := G.lk_cnt hk
      exact code 5 (by decide) (by rw [hd, there_some hk, if_neg (by omega), if_neg w1, if_pos w2]) _ (.refl _)
    · have := G.lk_cnt hk
      have := hq (by rw [hd, there_some hk, if_neg (by omega), if_neg w1, if_neg w2])
      rw [target, if_neg (by decide), if_neg (by decide), if_neg (by decide)] at this; exact this
theorem dueP_le (ps : List (Int × Int)) (w v c : Int) : dueP ps w v c ≤ 6 := by unfold dueP; (repeat' split) <;> omega
theorem hs_chain {F : String → Prop} {no : Prop} (d : Nat) (h1 : 1 ≤ d) (h6 : d ≤ 6) (hF : F (codeS d)) : if (ancT (codeX d)).contains "NoKind" = true then F "kind" else if (ancT (codeX d)).contains "NoCount" = true then F "count" else if (ancT (codeX d)).contains "TooFew" = true then F "few"
    else if (ancT (codeX d)).contains "Twice" = true then F "twice" else if (ancT (codeX d)).contains "NoTill" = true then F "till" else if (ancT (codeX d)).contains "StillHeld" = true then F "held" else no := by
  obtain rfl | rfl | rfl | rfl | rfl | rfl : d = 1 ∨ d = 2 ∨ d = 3 ∨ d = 4 ∨ d = 5 ∨ d = 6 := by omega
  all_goals exact hF
theorem tried_spec (D : Def3 defs) (h4 : defs "_law_done" = some f_law_done) (h5 : defs "_law_tried" = some f_law_tried) {p : Addr} {w v c : Int} {ps : List (Int × Int)} (hp : H p = some (.list (lv ps))) (hw : w = 0 ∨ w = 1 ∨ w = 2 ∨ w = 3) (G : Till ps)
    (hq : ∀ r t H', Ext H H' → H t = none → H' r = some (.list [.str (Str.ofString (codeS (dueP ps w v c))), .ref t]) → (dueP ps w v c = 0 → ∃ qs, qs.Perm (target ps w v c) ∧ SrtP qs ∧ H' t = some (.list (lv qs))) → Q (.ref r) H') :
    callN defs ancT (n + 5) "_law_tried" [.ref p, .int w, .int v, .int c] Q X H := by
  rw [callN, h5]
  simp only [f_law_tried]
  (try simp only [s_nil, s_asg, s_setIt, s_ex, s_ret, s_ife, s_raise, s_pass, s_tr, app_nil, app_cons, wpE, wpEs, wpB, sr_ex, sr_r1, r1_i, wpHs, b_add, b_sub, b_mul, b_fdiv, b_mod, b_pow9, b_pow10, b_pow6, b_addL, c_lt, c_le, c_gt, c_ge, c_eqI, c_neI, c_eqS, c_neS, c_eqB, c_neB, asB_bool, i_tup0, i_tup1, i_tup2, i_pv0, i_pv1, i_ro, f_lenR, f_max, List.length_cons, List.length_nil, List.map_cons, List.map_nil, List.replicate, List.cons_append, List.nil_append, Nat.sub_self, List.getElem?_cons_zero, List.getElem?_cons_succ, List.set_cons_zero, List.set_cons_succ, and_true, true_and, Nat.reduceAdd, Nat.reduceSub, decide_eq_true_eq])
  refine done_spec D h4 hp hw G (fun hc qs a H' g1 g2 g3 g4 g5 => ?_) fun hc H' hE => ?_
  · refine ⟨Nat.le_of_ble_eq_true rfl, fun r hr => ?_⟩
    exact hq r a _ (g3.trans (.new _ hr)) g4 (by rw [Hp.set_self, hc]; rfl) fun _ => ⟨qs, g1, g2, Ext.new _ hr _ _ g5⟩
  · have hle := dueP_le ps w v c
    have fin : ∀ k : String, codeS (dueP ps w v c) = k → newL [] (fun v H₁ => newL [.str (Str.ofString k), v] (fun v H₁ => Q v H₁) H₁) H' := fun k hk => by
      refine ⟨Nat.le_of_ble_eq_true rfl, fun t ht => ⟨Nat.le_of_ble_eq_true rfl, fun r hr => ?_⟩⟩
      exact hq r t _ ((hE.trans (.new _ ht)).trans (.new _ hr)) (hE.no ht) (by rw [Hp.set_self, hk]) fun h => absurd h hc
    exact hs_chain (F := fun k => newL [] (fun v H₁ => newL [.str (Str.ofString k), v] (fun v H₁ => Q v H₁) H₁) H') _ (by omega) hle (fin _ rfl)
theorem any3_spec (D : Def3 defs) (h4 : defs "_law_done" = some f_law_done) (h5 : defs "_law_any" = some f_law_any_03) {p : Addr} {w v c : Int} {ps : List (Int × Int)} (hp : H p = some (.list (lv ps))) (hw : w = 0 ∨ w = 1 ∨ w = 2 ∨ w = 3) (G : Till ps)
    (hq : ∀ H', Ext H H' → Q (.bool (!decide (dueP ps w v c = 0))) H') :
    callN defs ancT (n + 5) "_law_any" [.ref p, .int w, .int v, .int c] Q X H := by
  rw [callN, h5]
  simp only [f_law_any_03]
  (try simp only [s_nil, s_asg, s_setIt, s_ex, s_ret, s_ife, s_raise, s_pass, s_tr, app_nil, app_cons, wpE, wpEs, wpB, sr_ex, sr_r1, r1_i, wpHs, b_add, b_sub, b_mul, b_fdiv, b_mod, b_pow9, b_pow10, b_pow6, b_addL, c_lt, c_le, c_gt, c_ge, c_eqI, c_neI, c_eqS, c_neS, c_eqB, c_neB, asB_bool, i_tup0, i_tup1, i_tup2, i_pv0, i_pv1, i_ro, f_lenR, f_max, List.length_cons, List.length_nil, List.map_cons, List.map_nil, List.replicate, List.cons_append, List.nil_append, Nat.sub_self, List.getElem?_cons_zero, List.getElem?_cons_succ, List.set_cons_zero, List.set_cons_succ, and_true, true_and, Nat.reduceAdd, Nat.reduceSub, decide_eq_true_eq])
  refine done_spec D h4 hp hw G (fun hc qs a H' g1 g2 g3 g4 g5 => ?_) fun hc H' hE => ?_
  · have := hq H' g3; simpa [hc] using this
  · have hle := dueP_le ps w v c
    rw [show (!decide (dueP ps w v c = 0)) = true by simp [hc]] at hq
    have hin : codeX (dueP ps w v c) ∈ ["NoKind", "NoCount", "TooFew", "Twice", "NoTill", "StillHeld"] := by
      have : dueP ps w v c = 1 ∨ dueP ps w v c = 2 ∨ dueP ps w v c = 3 ∨ dueP ps w v c = 4 ∨ dueP ps w v c = 5 ∨ dueP ps w v c = 6 := by omega
      rcases this with e | e | e | e | e | e <;> rw [e] <;> decide
    generalize codeX (dueP ps w v c) = k at hin
    have facts : ((ancT k).contains "TillError" = true ∧ cntL (.bool true) [V.bool ((ancT k).contains "NoTill"), V.bool ((ancT k).contains "NoKind"), V.bool ((ancT k).contains "Twice"), V.bool ((ancT k).contains "NoCount"), V.bool ((ancT k).contains "TooFew"), V.bool ((ancT k).contains "StillHeld")] = some 1) ∧ ["NoChange", "NoDeed", "NoSum", "TooLittle"].any (ancT k).contains = false := by
      revert k; decide +kernel
    rw [if_pos facts.1.1]
    refine ⟨_, isi_own, _, isi_own, _, isi_own, _, isi_own, Nat.le_of_ble_eq_true rfl, fun a ha => ⟨_, isi_own, _, isi_own, Nat.le_of_ble_eq_true rfl, fun b hb => ?_⟩⟩
    dsimp only
    rw [b_addL]
    refine ⟨_, _, Ext.new _ hb _ _ (Hp.set_self _ _ _), Hp.set_self _ _ _, Nat.le_of_ble_eq_true rfl, fun d hd => ⟨_, isi_any (ls := ["NoChange", "NoDeed", "NoSum", "TooLittle"]), ?_⟩⟩
    rw [facts.2, if_neg Bool.false_ne_true]
    refine ⟨true, isi_val, ?_⟩
    rw [if_pos rfl, r_L (Hp.set_self _ _ _), m_count (Hp.set_self _ _ _)]
    refine ⟨⟨by decide, by decide⟩, 1, facts.1.2, ?_⟩
    (try simp only [s_nil, s_asg, s_setIt, s_ex, s_ret, s_ife, s_raise, s_pass, s_tr, app_nil, app_cons, wpE, wpEs, wpB, sr_ex, sr_r1, r1_i, wpHs, b_add, b_sub, b_mul, b_fdiv, b_mod, b_pow9, b_pow10, b_pow6, b_addL, c_lt, c_le, c_gt, c_ge, c_eqI, c_neI, c_eqS, c_neS, c_eqB, c_neB, asB_bool, i_tup0, i_tup1, i_tup2, i_pv0, i_pv1, i_ro, f_lenR, f_max, List.length_cons, List.length_nil, List.map_cons, List.map_nil, List.replicate, List.cons_append, List.nil_append, Nat.sub_self, List.getElem?_cons_zero, List.getElem?_cons_succ, List.set_cons_zero, List.set_cons_succ, and_true, true_and, Nat.reduceAdd, Nat.reduceSub, decide_eq_true_eq])
    exact hq _ (((hE.trans (.new _ ha)).trans (.new _ hb)).trans (.new _ hd))
end
end Mine.Internal
end

section
namespace Mine.Internal
open PySem (Str Addr)
theorem srt_of {qs ps : List (Int × Int)} (G : Good ps) (hp : qs.Perm ps) (hs : SrtP qs) : Till qs :=
  ⟨by rw [hp.length_eq]; exact G.pos, by rw [hp.length_eq]; exact G.len, ((hp.map _).nodup_iff).mpr G.nodup, hs, fun q hq => G.val q (hp.mem_iff.mp hq), fun q hq => G.cnt q (hp.mem_iff.mp hq)⟩
theorem str_code {k : Nat} (h : k ≤ 6) : decide (Str.ofString (codeS k) = Str.ofString "") = decide (k = 0) := by
  have : ∀ k ∈ List.range 7, decide (Str.ofString (codeS k) = Str.ofString "") = decide (k = 0) := by decide +kernel
  exact this k (List.mem_range.mpr (Nat.lt_succ_of_le h))
section
variable {Q : V → Hp → Prop} {X : String → Hp → Prop} {H : Hp}
theorem law3_spec {n : Nat} {xs : List Int} (hq : ∀ H', Q (.bool true) H') : callN defs03 ancT (n + 6) "law" [.ro xs] Q X H := by
  have D : Def3 defs03 := ⟨rfl, rfl, rfl, rfl, rfl, rfl, rfl, rfl, rfl, rfl⟩
  have h5 : defs03 "_law_cell_at" = some f_law_cell_at := rfl
  have h6 : defs03 "_law_whole" = some f_law_whole := rfl
  have h7 : defs03 "_law_mixed" = some f_law_mixed := rfl
  have h8 : defs03 "_law_value" = some f_law_value := rfl
  have h9 : defs03 "_law_count" = some f_law_count := rfl
  have h10 : defs03 "_law_pairs" = some f_law_pairs := rfl
  have h11 : defs03 "_law_alike" = some f_law_alike := rfl
  have h12 : defs03 "_law_there" = some f_law_there := rfl
  have h13 : defs03 "_law_due" = some f_law_due_03 := rfl
  have h14 : defs03 "_law_behind" = some f_law_behind := rfl
  have h15 : defs03 "_law_done" = some f_law_done := rfl
  have h16 : defs03 "_law_tried" = some f_law_tried := rfl
  have h17 : defs03 "_law_any" = some f_law_any_03 := rfl
  have h18 : defs03 "law" = some f_law_03 := rfl
  have t12 : ∀ (ps : List (Int × Int)) (p : Addr) (v c w : Int) (x2 x3 x5 x6 x7 : Option V) (H : Hp), Till ps → H p = some (.list (lv ps)) → (w = 0 ∨ w = 1 ∨ w = 2 ∨ w = 3) → restW ⟨callN defs03 ancT (n + 5), ancT⟩ false (f_law_03.body.drop 12) (fun x H₁ => Q V.none H₁) Q (fun c x H₁ => X c H₁) [some (V.ro xs), some (V.ref p), x2, x3, some (.int v), x5, x6, x7, some (.int c), some (.int w), none, none, none, none, none, none, none] H := by
    intro ps p v c w x2 x3 x5 x6 x7 H G hp hw
    have hl := G.len
    dsimp only [restW]
    simp only [f_law_03, Sts.drop]
    (try simp only [s_nil, sf_asg, sf_setIt, sf_ex, s_ret, sf_ife, s_raise, s_pass, s_tr, app_nil, app_cons, wpE, wpEs, wpB, sr_ex, sr_r1, r1_i, wpHs, b_add, b_sub, b_mul, b_fdiv, b_mod, b_pow9, b_pow10, b_pow6, b_addL, c_lt, c_le, c_gt, c_ge, c_eqI, c_neI, c_eqS, c_neS, c_eqB, c_neB, asB_bool, i_tup0, i_tup1, i_tup2, i_pv0, i_pv1, i_ro, f_lenR, f_max, List.length_cons, List.length_nil, List.map_cons, List.map_nil, List.replicate, List.cons_append, List.nil_append, Nat.sub_self, List.getElem?_cons_zero, List.getElem?_cons_succ, List.set_cons_zero, List.set_cons_succ, and_true, true_and, Nat.reduceAdd, Nat.reduceSub, decide_eq_true_eq])
    rw [f_list hp]
    refine ⟨by rw [lv_length, lim_eq]; omega, fun q hqn => ?_⟩
    have npq : p ≠ q := ne_new hp hqn
    have hq1 := Hp.set_self H q (.list (lv ps))
    have hp1 := Ext.new (.list (lv ps)) hqn _ _ hp
    generalize H.set q (.list (lv ps)) = H₁ at hq1 hp1 ⊢
    dsimp only [restW]
    (try simp only [s_nil, sf_asg, sf_setIt, sf_ex, s_ret, sf_ife, s_raise, s_pass, s_tr, app_nil, app_cons, wpE, wpEs, wpB, sr_ex, sr_r1, r1_i, wpHs, b_add, b_sub, b_mul, b_fdiv, b_mod, b_pow9, b_pow10, b_pow6, b_addL, c_lt, c_le, c_gt, c_ge, c_eqI, c_neI, c_eqS, c_neS, c_eqB, c_neB, asB_bool, i_tup0, i_tup1, i_tup2, i_pv0, i_pv1, i_ro, f_lenR, f_max, List.length_cons, List.length_nil, List.map_cons, List.map_nil, List.replicate, List.cons_append, List.nil_append, Nat.sub_self, List.getElem?_cons_zero, List.getElem?_cons_succ, List.set_cons_zero, List.set_cons_succ, and_true, true_and, Nat.reduceAdd, Nat.reduceSub, decide_eq_true_eq])
    refine due3_spec h12 h13 hp1 hw ?_
    dsimp only [restW]
    (try simp only [s_nil, sf_asg, sf_setIt, sf_ex, s_ret, sf_ife, s_raise, s_pass, s_tr, app_nil, app_cons, wpE, wpEs, wpB, sr_ex, sr_r1, r1_i, wpHs, b_add, b_sub, b_mul, b_fdiv, b_mod, b_pow9, b_pow10, b_pow6, b_addL, c_lt, c_le, c_gt, c_ge, c_eqI, c_neI, c_eqS, c_neS, c_eqB, c_neB, asB_bool, i_tup0, i_tup1, i_tup2, i_pv0, i_pv1, i_ro, f_lenR, f_max, List.length_cons, List.length_nil, List.map_cons, List.map_nil, List.replicate, List.cons_append, List.nil_append, Nat.sub_self, List.getElem?_cons_zero, List.getElem?_cons_succ, List.set_cons_zero, List.set_cons_succ, and_true, true_and, Nat.reduceAdd, Nat.reduceSub, decide_eq_true_eq])
    refine tried_spec D h15 h16 hq1 hw G fun r t H₂ hE2 ht hr hqs => ?_
    have hp2 := hE2 _ _ hp1
    have hq2 := hE2 _ _ hq1
    dsimp only [restW]
    (try simp only [s_nil, sf_asg, sf_setIt, sf_ex, s_ret, sf_ife, s_raise, s_pass, s_tr, app_nil, app_cons, wpE, wpEs, wpB, sr_ex, sr_r1, r1_i, wpHs, b_add, b_sub, b_mul, b_fdiv, b_mod, b_pow9, b_pow10, b_pow6, b_addL, c_lt, c_le, c_gt, c_ge, c_eqI, c_neI, c_eqS, c_neS, c_eqB, c_neB, asB_bool, i_tup0, i_tup1, i_tup2, i_pv0, i_pv1, i_ro, f_lenR, f_max, List.length_cons, List.length_nil, List.map_cons, List.map_nil, List.replicate, List.cons_append, List.nil_append, Nat.sub_self, List.getElem?_cons_zero, List.getElem?_cons_succ, List.set_cons_zero, List.set_cons_succ, and_true, true_and, Nat.reduceAdd, Nat.reduceSub, decide_eq_true_eq])
    rw [i_list hr]
    refine ex_idx (P := fun z => _) ⟨by decide, by decide⟩ (by decide) (by simp) ?_
    simp only [Int.toNat_zero, List.getElem_cons_zero]
    (try simp only [s_nil, sf_asg, sf_setIt, sf_ex, s_ret, sf_ife, s_raise, s_pass, s_tr, app_nil, app_cons, wpE, wpEs, wpB, sr_ex, sr_r1, r1_i, wpHs, b_add, b_sub, b_mul, b_fdiv, b_mod, b_pow9, b_pow10, b_pow6, b_addL, c_lt, c_le, c_gt, c_ge, c_eqI, c_neI, c_eqS, c_neS, c_eqB, c_neB, asB_bool, i_tup0, i_tup1, i_tup2, i_pv0, i_pv1, i_ro, f_lenR, f_max, List.length_cons, List.length_nil, List.map_cons, List.map_nil, List.replicate, List.cons_append, List.nil_append, Nat.sub_self, List.getElem?_cons_zero, List.getElem?_cons_succ, List.set_cons_zero, List.set_cons_succ, and_true, true_and, Nat.reduceAdd, Nat.reduceSub, decide_eq_true_eq])
    simp only [decide_true, Bool.not_true, if_true]
    refine any3_spec D h15 h17 hq2 hw G fun H₃ hE3 => ?_
    have hp3 := hE3 _ _ hp2
    have hq3 := hE3 _ _ hq2
    have hr3 := hE3 _ _ hr
    (try simp only [s_nil, sf_asg, sf_setIt, sf_ex, s_ret, sf_ife, s_raise, s_pass, s_tr, app_nil, app_cons, wpE, wpEs, wpB, sr_ex, sr_r1, r1_i, wpHs, b_add, b_sub, b_mul, b_fdiv, b_mod, b_pow9, b_pow10, b_pow6, b_addL, c_lt, c_le, c_gt, c_ge, c_eqI, c_neI, c_eqS, c_neS, c_eqB, c_neB, asB_bool, i_tup0, i_tup1, i_tup2, i_pv0, i_pv1, i_ro, f_lenR, f_max, List.length_cons, List.length_nil, List.map_cons, List.map_nil, List.replicate, List.cons_append, List.nil_append, Nat.sub_self, List.getElem?_cons_zero, List.getElem?_cons_succ, List.set_cons_zero, List.set_cons_succ, and_true, true_and, Nat.reduceAdd, Nat.reduceSub, decide_eq_true_eq])
    rw [str_code (dueP_le ps w v c)]
    simp only [beq_self_eq_true, Bool.not_true, if_true]
    rw [c_neLv hq3 hp3]
    simp only [decide_true, Bool.not_true]
    rw [if_neg (by simp)]
    dsimp only [restW]
    (try simp only [s_nil, sf_asg, sf_setIt, sf_ex, s_ret, sf_ife, s_raise, s_pass, s_tr, app_nil, app_cons, wpE, wpEs, wpB, sr_ex, sr_r1, r1_i, wpHs, b_add, b_sub, b_mul, b_fdiv, b_mod, b_pow9, b_pow10, b_pow6, b_addL, c_lt, c_le, c_gt, c_ge, c_eqI, c_neI, c_eqS, c_neS, c_eqB, c_neB, asB_bool, i_tup0, i_tup1, i_tup2, i_pv0, i_pv1, i_ro, f_lenR, f_max, List.length_cons, List.length_nil, List.map_cons, List.map_nil, List.replicate, List.cons_append, List.nil_append, Nat.sub_self, List.getElem?_cons_zero, List.getElem?_cons_succ, List.set_cons_zero, List.set_cons_succ, and_true, true_and, Nat.reduceAdd, Nat.reduceSub, decide_eq_true_eq])
    rw [str_code (dueP_le ps w v c)]
    by_cases hz : dueP ps w v c = 0
    case neg =>
      rw [if_pos (by simp [hz])]
      dsimp only [restW]
      (try simp only [s_nil, sf_asg, sf_setIt, sf_ex, s_ret, sf_ife, s_raise, s_pass, s_tr, app_nil, app_cons, wpE, wpEs, wpB, sr_ex, sr_r1, r1_i, wpHs, b_add, b_sub, b_mul, b_fdiv, b_mod, b_pow9, b_pow10, b_pow6, b_addL, c_lt, c_le, c_gt, c_ge, c_eqI, c_neI, c_eqS, c_neS, c_eqB, c_neB, asB_bool, i_tup0, i_tup1, i_tup2, i_pv0, i_pv1, i_ro, f_lenR, f_max, List.length_cons, List.length_nil, List.map_cons, List.map_nil, List.replicate, List.cons_append, List.nil_append, Nat.sub_self, List.getElem?_cons_zero, List.getElem?_cons_succ, List.set_cons_zero, List.set_cons_succ, and_true, true_and, Nat.reduceAdd, Nat.reduceSub, decide_eq_true_eq])
      exact hq _
    rw [if_neg (by simp [hz])]
    obtain ⟨qs, g1, g2, g3⟩ := hqs hz
    have tn := G.target_nodup hw hz
    have ht3 := hE3 _ _ g3
    have ntq : t ≠ q := fun e => by rw [e, hq1] at ht; cases ht
    have ntp : t ≠ p := fun e => by rw [e, hp1] at ht; cases ht
    have nrq : r ≠ q := fun e => by rw [e, hq3] at hr3; obtain _ | ⟨b, ps⟩ := ps <;> simp [lv, pv] at hr3
    dsimp only [restW]
    (try simp only [s_nil, sf_asg, sf_setIt, sf_ex, s_ret, sf_ife, s_raise, s_pass, s_tr, app_nil, app_cons, wpE, wpEs, wpB, sr_ex, sr_r1, r1_i, wpHs, b_add, b_sub, b_mul, b_fdiv, b_mod, b_pow9, b_pow10, b_pow6, b_addL, c_lt, c_le, c_gt, c_ge, c_eqI, c_neI, c_eqS, c_neS, c_eqB, c_neB, asB_bool, i_tup0, i_tup1, i_tup2, i_pv0, i_pv1, i_ro, f_lenR, f_max, List.length_cons, List.length_nil, List.map_cons, List.map_nil, List.replicate, List.cons_append, List.nil_append, Nat.sub_self, List.getElem?_cons_zero, List.getElem?_cons_succ, List.set_cons_zero, List.set_cons_succ, and_true, true_and, Nat.reduceAdd, Nat.reduceSub, decide_eq_true_eq])
    rw [r_L hq3]
    refine ⟨⟨by decide, by decide⟩, Nat.le_of_ble_eq_true rfl, ?_⟩
    rw [m_append hq3]
    refine ⟨by rw [lv_length, lim_eq]; omega, ?_⟩
    have hq4 := Hp.set_self H₃ q (.list (lv ps ++ [V.tup [V.int 5, V.int 5]]))
    have hr4 := (Hp.set_ne (H := H₃) (.list (lv ps ++ [V.tup [V.int 5, V.int 5]])) nrq).trans hr3
    have hp4 := (Hp.set_ne (H := H₃) (.list (lv ps ++ [V.tup [V.int 5, V.int 5]])) npq).trans hp3
    have ht4 := (Hp.set_ne (H := H₃) (.list (lv ps ++ [V.tup [V.int 5, V.int 5]])) ntq).trans ht3
    generalize H₃.set q (.list (lv ps ++ [V.tup [V.int 5, V.int 5]])) = H₄ at hq4 hr4 hp4 ht4 ⊢
    dsimp only [restW]
    (try simp only [s_nil, sf_asg, sf_setIt, sf_ex, s_ret, sf_ife, s_raise, s_pass, s_tr, app_nil, app_cons, wpE, wpEs, wpB, sr_ex, sr_r1, r1_i, wpHs, b_add, b_sub, b_mul, b_fdiv, b_mod, b_pow9, b_pow10, b_pow6, b_addL, c_lt, c_le, c_gt, c_ge, c_eqI, c_neI, c_eqS, c_neS, c_eqB, c_neB, asB_bool, i_tup0, i_tup1, i_tup2, i_pv0, i_pv1, i_ro, f_lenR, f_max, List.length_cons, List.length_nil, List.map_cons, List.map_nil, List.replicate, List.cons_append, List.nil_append, Nat.sub_self, List.getElem?_cons_zero, List.getElem?_cons_succ, List.set_cons_zero, List.set_cons_succ, and_true, true_and, Nat.reduceAdd, Nat.reduceSub, decide_eq_true_eq])
    refine behind_spec h14 hp4 hw (by omega) tn G.srt fun bs b H₅ b1 b2 hE5 hbn hb => ?_
    have eqs : bs = qs := sorted_one (b1.trans g1.symm) b2 g2 ((g1.map _).nodup_iff.mpr tn)
    subst eqs
    have ntb : t ≠ b := fun e => by rw [e, hbn] at ht4; cases ht4
    have nqb : q ≠ b := fun e => by rw [e, hbn] at hq4; cases hq4
    have hq5 := hE5 _ _ hq4
    have hr5 := hE5 _ _ hr4
    have hp5 := hE5 _ _ hp4
    have ht5 := hE5 _ _ ht4
    dsimp only [restW]
    (try simp only [s_nil, sf_asg, sf_setIt, sf_ex, s_ret, sf_ife, s_raise, s_pass, s_tr, app_nil, app_cons, wpE, wpEs, wpB, sr_ex, sr_r1, r1_i, wpHs, b_add, b_sub, b_mul, b_fdiv, b_mod, b_pow9, b_pow10, b_pow6, b_addL, c_lt, c_le, c_gt, c_ge, c_eqI, c_neI, c_eqS, c_neS, c_eqB, c_neB, asB_bool, i_tup0, i_tup1, i_tup2, i_pv0, i_pv1, i_ro, f_lenR, f_max, List.length_cons, List.length_nil, List.map_cons, List.map_nil, List.replicate, List.cons_append, List.nil_append, Nat.sub_self, List.getElem?_cons_zero, List.getElem?_cons_succ, List.set_cons_zero, List.set_cons_succ, and_true, true_and, Nat.reduceAdd, Nat.reduceSub, decide_eq_true_eq])
    rw [i_list hr5]
    refine ex_idx (P := fun z => _) ⟨by decide, by decide⟩ (by decide) (by simp) ?_
    simp only [Int.toNat_one, List.getElem_cons_succ, List.getElem_cons_zero]
    refine alike_spec h6 h11 ht5 hb ?_
    dsimp only [restW]
    (try simp only [s_nil, sf_asg, sf_setIt, sf_ex, s_ret, sf_ife, s_raise, s_pass, s_tr, app_nil, app_cons, wpE, wpEs, wpB, sr_ex, sr_r1, r1_i, wpHs, b_add, b_sub, b_mul, b_fdiv, b_mod, b_pow9, b_pow10, b_pow6, b_addL, c_lt, c_le, c_gt, c_ge, c_eqI, c_neI, c_eqS, c_neS, c_eqB, c_neB, asB_bool, i_tup0, i_tup1, i_tup2, i_pv0, i_pv1, i_ro, f_lenR, f_max, List.length_cons, List.length_nil, List.map_cons, List.map_nil, List.replicate, List.cons_append, List.nil_append, Nat.sub_self, List.getElem?_cons_zero, List.getElem?_cons_succ, List.set_cons_zero, List.set_cons_succ, and_true, true_and, Nat.reduceAdd, Nat.reduceSub, decide_eq_true_eq])
    rw [i_list hr5]
    refine ex_idx (P := fun z => _) ⟨by decide, by decide⟩ (by decide) (by simp) ?_
    simp only [Int.toNat_one, List.getElem_cons_succ, List.getElem_cons_zero]
    rw [r_L ht5]
    refine ⟨⟨by decide, by decide⟩, Nat.le_of_ble_eq_true rfl, ?_⟩
    rw [m_append ht5]
    have hbl : bs.length ≤ 1000 := by
      rw [b1.length_eq]; unfold target; (repeat' split) <;> (try simp) <;> first | omega | exact Nat.le_trans (List.length_filter_le _ _) (by omega)
    refine ⟨by rw [lv_length, lim_eq]; omega, ?_⟩
    have hq6 := (Hp.set_ne (H := H₅) (.list (lv bs ++ [V.tup [V.int 7, V.int 7]])) (Ne.symm ntq)).trans hq5
    have hp6 := (Hp.set_ne (H := H₅) (.list (lv bs ++ [V.tup [V.int 7, V.int 7]])) (Ne.symm ntp)).trans hp5
    have hb6 := (Hp.set_ne (H := H₅) (.list (lv bs ++ [V.tup [V.int 7, V.int 7]])) (Ne.symm ntb)).trans hb
    generalize H₅.set t (.list (lv bs ++ [V.tup [V.int 7, V.int 7]])) = H₆ at hq6 hp6 hb6 ⊢
    dsimp only [restW]
    (try simp only [s_nil, sf_asg, sf_setIt, sf_ex, s_ret, sf_ife, s_raise, s_pass, s_tr, app_nil, app_cons, wpE, wpEs, wpB, sr_ex, sr_r1, r1_i, wpHs, b_add, b_sub, b_mul, b_fdiv, b_mod, b_pow9, b_pow10, b_pow6, b_addL, c_lt, c_le, c_gt, c_ge, c_eqI, c_neI, c_eqS, c_neS, c_eqB, c_neB, asB_bool, i_tup0, i_tup1, i_tup2, i_pv0, i_pv1, i_ro, f_lenR, f_max, List.length_cons, List.length_nil, List.map_cons, List.map_nil, List.replicate, List.cons_append, List.nil_append, Nat.sub_self, List.getElem?_cons_zero, List.getElem?_cons_succ, List.set_cons_zero, List.set_cons_succ, and_true, true_and, Nat.reduceAdd, Nat.reduceSub, decide_eq_true_eq])
    rw [f_list hp6]
    refine ⟨by rw [lv_length, lim_eq]; omega, fun u hu => ?_⟩
    have hE7 := Ext.new (.list (lv ps)) hu
    refine tried_spec D h15 h16 (Hp.set_self _ _ _) hw G fun r2 t2 H₇ hE8 ht2 hr2 hqs2 => ?_
    obtain ⟨q2, k1, k2, k3⟩ := hqs2 hz
    have eqs : q2 = bs := sorted_one (k1.trans b1.symm) k2 b2 ((b1.map _).nodup_iff.mpr tn)
    subst eqs
    have hq7 := hE8 _ _ (hE7 _ _ hq6)
    have hp7 := hE8 _ _ (hE7 _ _ hp6)
    have hb7 := hE8 _ _ (hE7 _ _ hb6)
    dsimp only [restW]
    (try simp only [s_nil, sf_asg, sf_setIt, sf_ex, s_ret, sf_ife, s_raise, s_pass, s_tr, app_nil, app_cons, wpE, wpEs, wpB, sr_ex, sr_r1, r1_i, wpHs, b_add, b_sub, b_mul, b_fdiv, b_mod, b_pow9, b_pow10, b_pow6, b_addL, c_lt, c_le, c_gt, c_ge, c_eqI, c_neI, c_eqS, c_neS, c_eqB, c_neB, asB_bool, i_tup0, i_tup1, i_tup2, i_pv0, i_pv1, i_ro, f_lenR, f_max, List.length_cons, List.length_nil, List.map_cons, List.map_nil, List.replicate, List.cons_append, List.nil_append, Nat.sub_self, List.getElem?_cons_zero, List.getElem?_cons_succ, List.set_cons_zero, List.set_cons_succ, and_true, true_and, Nat.reduceAdd, Nat.reduceSub, decide_eq_true_eq])
    refine ⟨Nat.le_of_ble_eq_true rfl, Nat.le_of_ble_eq_true rfl, fun A hA => ?_⟩
    dsimp only
    rw [b_addL]
    refine ⟨_, _, Ext.new _ hA _ _ hp7, Hp.set_self _ _ _, by simp [lim_eq]; omega, fun B hB => ?_⟩
    have hE9 := (Ext.new (.list [V.tup [V.int 5, V.int 5]]) hA).trans (.new (.list (lv ps ++ [V.tup [V.int 5, V.int 5]])) hB)
    have e55 : lv ps ++ [V.tup [V.int 5, V.int 5]] = lv (ps ++ [(5, 5)]) := by rw [lv_append]; rfl
    have hB9 := Hp.set_self ((H₇.set A (.list [V.tup [V.int 5, V.int 5]]))) B (.list (lv ps ++ [V.tup [V.int 5, V.int 5]]))
    have hq9 := hE9 _ _ hq7
    have hr9 := hE9 _ _ hr2
    have hb9 := hE9 _ _ hb7
    have ht9 := hE9 _ _ k3
    generalize (H₇.set A (.list [V.tup [V.int 5, V.int 5]])).set B (.list (lv ps ++ [V.tup [V.int 5, V.int 5]])) = H₉ at hB9 hq9 hr9 hb9 ht9 ⊢
    rw [e55] at hB9 hq9
    dsimp only
    rw [c_eqLv hq9 hB9]
    simp only [decide_true, if_true]
    rw [i_list hr9]
    refine ex_idx (P := fun z => _) ⟨by decide, by decide⟩ (by decide) (by simp) ?_
    simp only [Int.toNat_one, List.getElem_cons_succ, List.getElem_cons_zero]
    exact alike_spec h6 h11 ht9 hb9 (hq _)
  have t5 : ∀ (ps : List (Int × Int)) (p : Addr) (v : Int) (x2 x3 : Option V) (H : Hp), Till ps → H p = some (.list (lv ps)) → restW ⟨callN defs03 ancT (n + 5), ancT⟩ false (f_law_03.body.drop 5) (fun x H₁ => Q V.none H₁) Q (fun c x H₁ => X c H₁) [some (V.ro xs), some (V.ref p), x2, x3, some (.int v), none, none, none, none, none, none, none, none, none, none, none, none] H := by
    intro ps p v x2 x3 H G hp
    have hl := G.len
    dsimp only [restW]
    simp only [f_law_03, Sts.drop]
    (try simp only [s_nil, sf_asg, sf_setIt, sf_ex, s_ret, sf_ife, s_raise, s_pass, s_tr, app_nil, app_cons, wpE, wpEs, wpB, sr_ex, sr_r1, r1_i, wpHs, b_add, b_sub, b_mul, b_fdiv, b_mod, b_pow9, b_pow10, b_pow6, b_addL, c_lt, c_le, c_gt, c_ge, c_eqI, c_neI, c_eqS, c_neS, c_eqB, c_neB, asB_bool, i_tup0, i_tup1, i_tup2, i_pv0, i_pv1, i_ro, f_lenR, f_max, List.length_cons, List.length_nil, List.map_cons, List.map_nil, List.replicate, List.cons_append, List.nil_append, Nat.sub_self, List.getElem?_cons_zero, List.getElem?_cons_succ, List.set_cons_zero, List.set_cons_succ, and_true, true_and, Nat.reduceAdd, Nat.reduceSub, decide_eq_true_eq])
    refine there_spec h12 hp ?_
    dsimp only [restW]
    (try simp only [s_nil, sf_asg, sf_setIt, sf_ex, s_ret, sf_ife, s_raise, s_pass, s_tr, app_nil, app_cons, wpE, wpEs, wpB, sr_ex, sr_r1, r1_i, wpHs, b_add, b_sub, b_mul, b_fdiv, b_mod, b_pow9, b_pow10, b_pow6, b_addL, c_lt, c_le, c_gt, c_ge, c_eqI, c_neI, c_eqS, c_neS, c_eqB, c_neB, asB_bool, i_tup0, i_tup1, i_tup2, i_pv0, i_pv1, i_ro, f_lenR, f_max, List.length_cons, List.length_nil, List.map_cons, List.map_nil, List.replicate, List.cons_append, List.nil_append, Nat.sub_self, List.getElem?_cons_zero, List.getElem?_cons_succ, List.set_cons_zero, List.set_cons_succ, and_true, true_and, Nat.reduceAdd, Nat.reduceSub, decide_eq_true_eq])
    refine cell_at_spec h5 (by decide) (by decide) fun c => ?_
    dsimp only [restW]
    (try simp only [s_nil, sf_asg, sf_setIt, sf_ex, s_ret, sf_ife, s_raise, s_pass, s_tr, app_nil, app_cons, wpE, wpEs, wpB, sr_ex, sr_r1, r1_i, wpHs, b_add, b_sub, b_mul, b_fdiv, b_mod, b_pow9, b_pow10, b_pow6, b_addL, c_lt, c_le, c_gt, c_ge, c_eqI, c_neI, c_eqS, c_neS, c_eqB, c_neB, asB_bool, i_tup0, i_tup1, i_tup2, i_pv0, i_pv1, i_ro, f_lenR, f_max, List.length_cons, List.length_nil, List.map_cons, List.map_nil, List.replicate, List.cons_append, List.nil_append, Nat.sub_self, List.getElem?_cons_zero, List.getElem?_cons_succ, List.set_cons_zero, List.set_cons_succ, and_true, true_and, Nat.reduceAdd, Nat.reduceSub, decide_eq_true_eq])
    dsimp only [restW]
    (try simp only [s_nil, sf_asg, sf_setIt, sf_ex, s_ret, sf_ife, s_raise, s_pass, s_tr, app_nil, app_cons, wpE, wpEs, wpB, sr_ex, sr_r1, r1_i, wpHs, b_add, b_sub, b_mul, b_fdiv, b_mod, b_pow9, b_pow10, b_pow6, b_addL, c_lt, c_le, c_gt, c_ge, c_eqI, c_neI, c_eqS, c_neS, c_eqB, c_neB, asB_bool, i_tup0, i_tup1, i_tup2, i_pv0, i_pv1, i_ro, f_lenR, f_max, List.length_cons, List.length_nil, List.map_cons, List.map_nil, List.replicate, List.cons_append, List.nil_append, Nat.sub_self, List.getElem?_cons_zero, List.getElem?_cons_succ, List.set_cons_zero, List.set_cons_succ, and_true, true_and, Nat.reduceAdd, Nat.reduceSub, decide_eq_true_eq])
    refine ⟨⟨by decide, by decide⟩, by decide, ⟨by decide, by decide⟩, by decide, ⟨by decide, by decide⟩, by decide, Nat.le_of_ble_eq_true rfl, fun a ha => ?_⟩
    have hE := Ext.new (.list [V.int (c / 8 % 10), V.int (if there ps v > 0 then there ps v else 0), V.int ((if there ps v > 0 then there ps v else 0) + 1), V.int (1000000000 - (if there ps v > 0 then there ps v else 0)), V.int (1000000000 - (if there ps v > 0 then there ps v else 0) + 1), V.int (-1), V.int (c / 8 % 10000000000), V.int (0 - c / 8 % 1000000000)]) ha
    dsimp only [restW]
    (try simp only [s_nil, sf_asg, sf_setIt, sf_ex, s_ret, sf_ife, s_raise, s_pass, s_tr, app_nil, app_cons, wpE, wpEs, wpB, sr_ex, sr_r1, r1_i, wpHs, b_add, b_sub, b_mul, b_fdiv, b_mod, b_pow9, b_pow10, b_pow6, b_addL, c_lt, c_le, c_gt, c_ge, c_eqI, c_neI, c_eqS, c_neS, c_eqB, c_neB, asB_bool, i_tup0, i_tup1, i_tup2, i_pv0, i_pv1, i_ro, f_lenR, f_max, List.length_cons, List.length_nil, List.map_cons, List.map_nil, List.replicate, List.cons_append, List.nil_append, Nat.sub_self, List.getElem?_cons_zero, List.getElem?_cons_succ, List.set_cons_zero, List.set_cons_succ, and_true, true_and, Nat.reduceAdd, Nat.reduceSub, decide_eq_true_eq])
    refine ⟨by decide, ?_⟩
    rw [i_list (Hp.set_self _ _ _)]
    have b1 := Int.emod_nonneg c (show (8 : Int) ≠ 0 by decide)
    have b2 := Int.emod_lt_of_pos c (show (0 : Int) < 8 by decide)
    refine ex_idxA (P := fun z => _) ⟨by omega, by omega⟩ b1 (by simpa using b2) ?_
    have hp' := hE _ _ hp
    have main : ∀ (c1 : Int) (x2 x5 x6 x7 : Option V) (H : Hp), H p = some (.list (lv ps)) → restW ⟨callN defs03 ancT (n + 5), ancT⟩ false (f_law_03.body.drop 10) (fun x H₁ => Q V.none H₁) Q (fun c x H₁ => X c H₁) [some (V.ro xs), some (V.ref p), x2, x3, some (.int v), x5, x6, x7, some (.int c1), none, none, none, none, none, none, none, none] H := by
      intro c1 x2 x5 x6 x7 H hp
      dsimp only [restW]
      simp only [f_law_03, Sts.drop]
      (try simp only [s_nil, sf_asg, sf_setIt, sf_ex, s_ret, sf_ife, s_raise, s_pass, s_tr, app_nil, app_cons, wpE, wpEs, wpB, sr_ex, sr_r1, r1_i, wpHs, b_add, b_sub, b_mul, b_fdiv, b_mod, b_pow9, b_pow10, b_pow6, b_addL, c_lt, c_le, c_gt, c_ge, c_eqI, c_neI, c_eqS, c_neS, c_eqB, c_neB, asB_bool, i_tup0, i_tup1, i_tup2, i_pv0, i_pv1, i_ro, f_lenR, f_max, List.length_cons, List.length_nil, List.map_cons, List.map_nil, List.replicate, List.cons_append, List.nil_append, Nat.sub_self, List.getElem?_cons_zero, List.getElem?_cons_succ, List.set_cons_zero, List.set_cons_succ, and_true, true_and, Nat.reduceAdd, Nat.reduceSub, decide_eq_true_eq])
      refine cell_at_spec h5 (by decide) (by decide) fun c5 => ?_
      (try simp only [s_nil, sf_asg, sf_setIt, sf_ex, s_ret, sf_ife, s_raise, s_pass, s_tr, app_nil, app_cons, wpE, wpEs, wpB, sr_ex, sr_r1, r1_i, wpHs, b_add, b_sub, b_mul, b_fdiv, b_mod, b_pow9, b_pow10, b_pow6, b_addL, c_lt, c_le, c_gt, c_ge, c_eqI, c_neI, c_eqS, c_neS, c_eqB, c_neB, asB_bool, i_tup0, i_tup1, i_tup2, i_pv0, i_pv1, i_ro, f_lenR, f_max, List.length_cons, List.length_nil, List.map_cons, List.map_nil, List.replicate, List.cons_append, List.nil_append, Nat.sub_self, List.getElem?_cons_zero, List.getElem?_cons_succ, List.set_cons_zero, List.set_cons_succ, and_true, true_and, Nat.reduceAdd, Nat.reduceSub, decide_eq_true_eq])
      refine ⟨by decide, ?_⟩
      dsimp only [restW]
      (try simp only [s_nil, sf_asg, sf_setIt, sf_ex, s_ret, sf_ife, s_raise, s_pass, s_tr, app_nil, app_cons, wpE, wpEs, wpB, sr_ex, sr_r1, r1_i, wpHs, b_add, b_sub, b_mul, b_fdiv, b_mod, b_pow9, b_pow10, b_pow6, b_addL, c_lt, c_le, c_gt, c_ge, c_eqI, c_neI, c_eqS, c_neS, c_eqB, c_neB, asB_bool, i_tup0, i_tup1, i_tup2, i_pv0, i_pv1, i_ro, f_lenR, f_max, List.length_cons, List.length_nil, List.map_cons, List.map_nil, List.replicate, List.cons_append, List.nil_append, Nat.sub_self, List.getElem?_cons_zero, List.getElem?_cons_succ, List.set_cons_zero, List.set_cons_succ, and_true, true_and, Nat.reduceAdd, Nat.reduceSub, decide_eq_true_eq])
      refine cell_at_spec h5 (by decide) (by decide) fun c6 => ?_
      (try simp only [s_nil, sf_asg, sf_setIt, sf_ex, s_ret, sf_ife, s_raise, s_pass, s_tr, app_nil, app_cons, wpE, wpEs, wpB, sr_ex, sr_r1, r1_i, wpHs, b_add, b_sub, b_mul, b_fdiv, b_mod, b_pow9, b_pow10, b_pow6, b_addL, c_lt, c_le, c_gt, c_ge, c_eqI, c_neI, c_eqS, c_neS, c_eqB, c_neB, asB_bool, i_tup0, i_tup1, i_tup2, i_pv0, i_pv1, i_ro, f_lenR, f_max, List.length_cons, List.length_nil, List.map_cons, List.map_nil, List.replicate, List.cons_append, List.nil_append, Nat.sub_self, List.getElem?_cons_zero, List.getElem?_cons_succ, List.set_cons_zero, List.set_cons_succ, and_true, true_and, Nat.reduceAdd, Nat.reduceSub, decide_eq_true_eq])
      have hw : c5 % 4 = 0 ∨ c5 % 4 = 1 ∨ c5 % 4 = 2 ∨ c5 % 4 = 3 := by omega
      refine ⟨⟨by decide, by decide⟩, by decide, ite_all (fun _ => ?_) fun _ => t12 ps p v c1 (c5 % 4) _ _ _ _ _ H G hp hw⟩
      dsimp only [restW]
      (try simp only [s_nil, sf_asg, sf_setIt, sf_ex, s_ret, sf_ife, s_raise, s_pass, s_tr, app_nil, app_cons, wpE, wpEs, wpB, sr_ex, sr_r1, r1_i, wpHs, b_add, b_sub, b_mul, b_fdiv, b_mod, b_pow9, b_pow10, b_pow6, b_addL, c_lt, c_le, c_gt, c_ge, c_eqI, c_neI, c_eqS, c_neS, c_eqB, c_neB, asB_bool, i_tup0, i_tup1, i_tup2, i_pv0, i_pv1, i_ro, f_lenR, f_max, List.length_cons, List.length_nil, List.map_cons, List.map_nil, List.replicate, List.cons_append, List.nil_append, Nat.sub_self, List.getElem?_cons_zero, List.getElem?_cons_succ, List.set_cons_zero, List.set_cons_succ, and_true, true_and, Nat.reduceAdd, Nat.reduceSub, decide_eq_true_eq])
      refine src_of hp ?_
      rw [lvIt]
      have G' : Till (ps.map fun q => if q.1 = v then (q.1, 0) else q) := by
        have hk : ∀ q : Int × Int, (if q.1 = v then (q.1, (0 : Int)) else q).1 = q.1 := fun q => by split <;> rfl
        refine ⟨by simpa using G.pos, by simpa using G.len, by rw [map_keys (v := v) hk]; exact G.nodup, by unfold SrtP; rw [map_keys (v := v) hk]; exact G.srt, ?_, ?_⟩
        · intro q hq'
          obtain ⟨q0, m0, rfl⟩ := List.mem_map.mp hq'
          rw [hk]; exact G.val q0 m0
        · intro q hq'
          obtain ⟨q0, m0, rfl⟩ := List.mem_map.mp hq'
          split
          · exact ⟨by simp, by simp⟩
          · exact G.cnt q0 m0
      refine compGo_all _ (fun q => pv (if q.1 = v then (q.1, 0) else q)) (okH_one hp) (by rw [lim_eq]; omega) ?_ ?_
      · intro q hq'
        refine ⟨_, rfl, fun K hK => ?_⟩
        (try simp only [s_nil, sf_asg, sf_setIt, sf_ex, s_ret, sf_ife, s_raise, s_pass, s_tr, app_nil, app_cons, wpE, wpEs, wpB, sr_ex, sr_r1, r1_i, wpHs, b_add, b_sub, b_mul, b_fdiv, b_mod, b_pow9, b_pow10, b_pow6, b_addL, c_lt, c_le, c_gt, c_ge, c_eqI, c_neI, c_eqS, c_neS, c_eqB, c_neB, asB_bool, i_tup0, i_tup1, i_tup2, i_pv0, i_pv1, i_ro, f_lenR, f_max, List.length_cons, List.length_nil, List.map_cons, List.map_nil, List.replicate, List.cons_append, List.nil_append, Nat.sub_self, List.getElem?_cons_zero, List.getElem?_cons_succ, List.set_cons_zero, List.set_cons_succ, and_true, true_and, Nat.reduceAdd, Nat.reduceSub, decide_eq_true_eq])
        refine ite_all (fun e => ⟨Nat.le_of_ble_eq_true rfl, ?_⟩) fun e => ?_
        · rw [if_pos e] at hK; exact hK
        · rw [if_neg e] at hK; exact hK
      · refine ⟨by simp [lim_eq]; omega, fun a ha => ?_⟩
        refine t12 _ a v c1 (c5 % 4) _ _ _ _ _ _ G' ?_ hw
        rw [Hp.set_self, lv, List.map_map]; rfl
    simp only [List.mem_cons, List.not_mem_nil, or_false]
    rintro z (rfl | rfl | rfl | rfl | rfl | rfl | rfl | rfl) <;> exact main _ _ _ _ _ _ hp'
  rw [callN, h18]
  simp only [f_law_03]
  (try simp only [s_nil, sf_asg, sf_setIt, sf_ex, s_ret, sf_ife, s_raise, s_pass, s_tr, app_nil, app_cons, wpE, wpEs, wpB, sr_ex, sr_r1, r1_i, wpHs, b_add, b_sub, b_mul, b_fdiv, b_mod, b_pow9, b_pow10, b_pow6, b_addL, c_lt, c_le, c_gt, c_ge, c_eqI, c_neI, c_eqS, c_neS, c_eqB, c_neB, asB_bool, i_tup0, i_tup1, i_tup2, i_pv0, i_pv1, i_ro, f_lenR, f_max, List.length_cons, List.length_nil, List.map_cons, List.map_nil, List.replicate, List.cons_append, List.nil_append, Nat.sub_self, List.getElem?_cons_zero, List.getElem?_cons_succ, List.set_cons_zero, List.set_cons_succ, and_true, true_and, Nat.reduceAdd, Nat.reduceSub, decide_eq_true_eq])
  refine pairs_spec h7 h8 h9 h5 h10 fun ps p H₁ G hE1 _ hp => ?_
  have hl := G.len
  rw [f_sortL hp]
  refine ⟨by rw [lv_length]; omega, .inr ⟨ps, rfl, G.nodup, fun qs g1 g2 => ⟨by rw [List.length_map, g1.length_eq, lim_eq]; omega, fun q hqn => ?_⟩⟩⟩
  have T := srt_of G g1 g2
  have hq2 : (H₁.set q (.list (qs.map pairV))) q = some (.list (lv qs)) := Hp.set_self _ _ _
  generalize H₁.set q (.list (qs.map pairV)) = H₂ at hq2 ⊢
  dsimp only [restW]
  (try simp only [s_nil, sf_asg, sf_setIt, sf_ex, s_ret, sf_ife, s_raise, s_pass, s_tr, app_nil, app_cons, wpE, wpEs, wpB, sr_ex, sr_r1, r1_i, wpHs, b_add, b_sub, b_mul, b_fdiv, b_mod, b_pow9, b_pow10, b_pow6, b_addL, c_lt, c_le, c_gt, c_ge, c_eqI, c_neI, c_eqS, c_neS, c_eqB, c_neB, asB_bool, i_tup0, i_tup1, i_tup2, i_pv0, i_pv1, i_ro, f_lenR, f_max, List.length_cons, List.length_nil, List.map_cons, List.map_nil, List.replicate, List.cons_append, List.nil_append, Nat.sub_self, List.getElem?_cons_zero, List.getElem?_cons_succ, List.set_cons_zero, List.set_cons_succ, and_true, true_and, Nat.reduceAdd, Nat.reduceSub, decide_eq_true_eq])
  refine cell_at_spec h5 (by decide) (by decide) fun c => ?_
  dsimp only [restW]
  (try simp only [s_nil, sf_asg, sf_setIt, sf_ex, s_ret, sf_ife, s_raise, s_pass, s_tr, app_nil, app_cons, wpE, wpEs, wpB, sr_ex, sr_r1, r1_i, wpHs, b_add, b_sub, b_mul, b_fdiv, b_mod, b_pow9, b_pow10, b_pow6, b_addL, c_lt, c_le, c_gt, c_ge, c_eqI, c_neI, c_eqS, c_neS, c_eqB, c_neB, asB_bool, i_tup0, i_tup1, i_tup2, i_pv0, i_pv1, i_ro, f_lenR, f_max, List.length_cons, List.length_nil, List.map_cons, List.map_nil, List.replicate, List.cons_append, List.nil_append, Nat.sub_self, List.getElem?_cons_zero, List.getElem?_cons_succ, List.set_cons_zero, List.set_cons_succ, and_true, true_and, Nat.reduceAdd, Nat.reduceSub, decide_eq_true_eq])
  rw [f_lenL hq2, lv_length]
  (try simp only [s_nil, sf_asg, sf_setIt, sf_ex, s_ret, sf_ife, s_raise, s_pass, s_tr, app_nil, app_cons, wpE, wpEs, wpB, sr_ex, sr_r1, r1_i, wpHs, b_add, b_sub, b_mul, b_fdiv, b_mod, b_pow9, b_pow10, b_pow6, b_addL, c_lt, c_le, c_gt, c_ge, c_eqI, c_neI, c_eqS, c_neS, c_eqB, c_neB, asB_bool, i_tup0, i_tup1, i_tup2, i_pv0, i_pv1, i_ro, f_lenR, f_max, List.length_cons, List.length_nil, List.map_cons, List.map_nil, List.replicate, List.cons_append, List.nil_append, Nat.sub_self, List.getElem?_cons_zero, List.getElem?_cons_succ, List.set_cons_zero, List.set_cons_succ, and_true, true_and, Nat.reduceAdd, Nat.reduceSub, decide_eq_true_eq])
  have hpos := T.pos
  have hlen := T.len
  refine ⟨⟨by decide, by decide⟩, by omega, ?_⟩
  have b1 := Int.emod_nonneg (c / 4) (show (qs.length : Int) ≠ 0 by omega)
  have b2 := Int.emod_lt_of_pos (c / 4) (show (0 : Int) < qs.length by omega)
  refine i_lv hq2 b1 b2 (by rw [lim_eq]; omega) fun r1 _ => ?_
  (try simp only [s_nil, sf_asg, sf_setIt, sf_ex, s_ret, sf_ife, s_raise, s_pass, s_tr, app_nil, app_cons, wpE, wpEs, wpB, sr_ex, sr_r1, r1_i, wpHs, b_add, b_sub, b_mul, b_fdiv, b_mod, b_pow9, b_pow10, b_pow6, b_addL, c_lt, c_le, c_gt, c_ge, c_eqI, c_neI, c_eqS, c_neS, c_eqB, c_neB, asB_bool, i_tup0, i_tup1, i_tup2, i_pv0, i_pv1, i_ro, f_lenR, f_max, List.length_cons, List.length_nil, List.map_cons, List.map_nil, List.replicate, List.cons_append, List.nil_append, Nat.sub_self, List.getElem?_cons_zero, List.getElem?_cons_succ, List.set_cons_zero, List.set_cons_succ, and_true, true_and, Nat.reduceAdd, Nat.reduceSub, decide_eq_true_eq])
  dsimp only [restW]
  (try simp only [s_nil, sf_asg, sf_setIt, sf_ex, s_ret, sf_ife, s_raise, s_pass, s_tr, app_nil, app_cons, wpE, wpEs, wpB, sr_ex, sr_r1, r1_i, wpHs, b_add, b_sub, b_mul, b_fdiv, b_mod, b_pow9, b_pow10, b_pow6, b_addL, c_lt, c_le, c_gt, c_ge, c_eqI, c_neI, c_eqS, c_neS, c_eqB, c_neB, asB_bool, i_tup0, i_tup1, i_tup2, i_pv0, i_pv1, i_ro, f_lenR, f_max, List.length_cons, List.length_nil, List.map_cons, List.map_nil, List.replicate, List.cons_append, List.nil_append, Nat.sub_self, List.getElem?_cons_zero, List.getElem?_cons_succ, List.set_cons_zero, List.set_cons_succ, and_true, true_and, Nat.reduceAdd, Nat.reduceSub, decide_eq_true_eq])
  refine ⟨⟨by decide, by decide⟩, by decide, ⟨by decide, by decide⟩, by decide, Nat.le_of_ble_eq_true rfl, fun a ha => ⟨by decide, ?_⟩⟩
  have hE := Ext.new (.list [V.int (c / 4 % 1002), V.int r1.1, V.int r1.1, V.int (0 - c / 4 % 1000000000)]) ha
  rw [i_list (Hp.set_self _ _ _)]
  have b3 := Int.emod_nonneg c (show (4 : Int) ≠ 0 by decide)
  have b4 := Int.emod_lt_of_pos c (show (0 : Int) < 4 by decide)
  refine ex_idxA (P := fun z => _) ⟨by omega, by omega⟩ b3 (by simpa using b4) ?_
  have main : ∀ (v : Int), restW ⟨callN defs03 ancT (n + 5), ancT⟩ false (f_law_03.body.drop 4) (fun x H₁ => Q V.none H₁) Q (fun c x H₁ => X c H₁) [some (V.ro xs), some (V.ref q), some (.int c), some (.int r1.1), some (.int v), none, none, none, none, none, none, none, none, none, none, none, none] (H₂.set a (.list [V.int (c / 4 % 1002), V.int r1.1, V.int r1.1, V.int (0 - c / 4 % 1000000000)])) := by
    intro v
    dsimp only [restW]
    simp only [f_law_03, Sts.drop]
    (try simp only [s_nil, sf_asg, sf_setIt, sf_ex, s_ret, sf_ife, s_raise, s_pass, s_tr, app_nil, app_cons, wpE, wpEs, wpB, sr_ex, sr_r1, r1_i, wpHs, b_add, b_sub, b_mul, b_fdiv, b_mod, b_pow9, b_pow10, b_pow6, b_addL, c_lt, c_le, c_gt, c_ge, c_eqI, c_neI, c_eqS, c_neS, c_eqB, c_neB, asB_bool, i_tup0, i_tup1, i_tup2, i_pv0, i_pv1, i_ro, f_lenR, f_max, List.length_cons, List.length_nil, List.map_cons, List.map_nil, List.replicate, List.cons_append, List.nil_append, Nat.sub_self, List.getElem?_cons_zero, List.getElem?_cons_succ, List.set_cons_zero, List.set_cons_succ, and_true, true_and, Nat.reduceAdd, Nat.reduceSub, decide_eq_true_eq])
    refine ⟨by decide, ite_all (fun _ => ?_) fun _ => t5 qs q v _ _ _ T (hE _ _ hq2)⟩
    dsimp only [restW]
    (try simp only [s_nil, sf_asg, sf_setIt, sf_ex, s_ret, sf_ife, s_raise, s_pass, s_tr, app_nil, app_cons, wpE, wpEs, wpB, sr_ex, sr_r1, r1_i, wpHs, b_add, b_sub, b_mul, b_fdiv, b_mod, b_pow9, b_pow10, b_pow6, b_addL, c_lt, c_le, c_gt, c_ge, c_eqI, c_neI, c_eqS, c_neS, c_eqB, c_neB, asB_bool, i_tup0, i_tup1, i_tup2, i_pv0, i_pv1, i_ro, f_lenR, f_max, List.length_cons, List.length_nil, List.map_cons, List.map_nil, List.replicate, List.cons_append, List.nil_append, Nat.sub_self, List.getElem?_cons_zero, List.getElem?_cons_succ, List.set_cons_zero, List.set_cons_succ, and_true, true_and, Nat.reduceAdd, Nat.reduceSub, decide_eq_true_eq])
    exact ⟨⟨by decide, by decide⟩, by decide, t5 qs q _ _ _ _ T (hE _ _ hq2)⟩
  simp only [List.mem_cons, List.not_mem_nil, or_false]
  rintro z (rfl | rfl | rfl | rfl) <;> exact main _
end
end Mine.Internal
end

section
namespace Mine
open Mine.Internal PySem PyProof.Rows
theorem ints_of {vs : List Value} {ns : List Int} (h : IntsAre vs ns) : Ints ns vs.toArray.toList := by
  show Ints ns vs
  induction h with
  | nil => exact .nil
  | cons n t _ ih => exact .cons ih
noncomputable def fnA03 : List (String × Addr) := [("need_kind", 154), ("need_count", 161), ("pairs_of", 166), ("counts_of", 173), ("count_of", 180), ("with_count", 187), ("brought", 194), ("fetched", 201), ("kind_in", 208), ("kind_out", 213), ("_law_cell_at", 220), ("_law_whole", 227), ("_law_mixed", 234), ("_law_value", 241), ("_law_count", 248), ("_law_pairs", 255), ("_law_alike", 262), ("_law_there", 269), ("_law_due", 276), ("_law_behind", 283), ("_law_done", 290), ("_law_tried", 297), ("_law_any", 304), ("law", 309)]
noncomputable def clA03 : List (String × Addr) := [("TillError", 24), ("NoTill", 37), ("NoKind", 49), ("Twice", 61), ("NoCount", 73), ("NoSum", 85), ("TooLittle", 97), ("NoChange", 109), ("TooFew", 121), ("StillHeld", 133), ("NoDeed", 145)]
theorem main.tw2852251193174398662 : True := trivial
theorem main.tw5084117380071580128 : True := trivial
theorem main.tw11156056980113079860 : True := trivial
theorem main.tw16798622893749714585 : True := trivial
theorem main.tw13626721169425172152 : True := trivial
theorem main.tw7083192437325867461 : True := trivial
theorem main.tw1277820614484962519 : True := trivial
theorem main.tw11857135199678951331 : True := trivial
theorem main.tw15803610866087392283 : True := trivial
theorem main.tw15491723280356408159 : True := trivial
theorem main.tw12298629886278197574 : True := trivial
theorem main.tw10896356407431480244 : True := trivial
theorem main.tw10876375607700338302 : True := trivial
theorem main.tw4026956272090484662 : True := trivial
theorem main.tw8778399796184198408 : True := trivial
theorem main.tw17695171507069755227 : True := trivial
theorem main.tw17292155258170135553 : True := trivial
theorem main.tw4544244032028310869 : True := trivial
theorem main.tw8905464785575363620 : True := trivial
theorem main.tw11812620880713246772 : True := trivial
theorem main.tw5585478044538960755 : True := trivial
theorem main.tw9498315638749924794 : True := trivial
theorem main.tw12872379398031375081 : True := trivial
theorem main.tw8930851030842425676 : True := trivial
theorem main.tw16452447596832230105 : True := trivial
theorem main.tw1306636233014830658 : True := trivial
theorem main.tw16008457594558532635 : True := trivial
theorem main.tw9274054859765456524 : True := trivial
theorem main.tw18092606169130929673 : True := trivial
theorem main.tw14457758005677747962 : True := trivial
theorem main.tw5240779543111244032 : True := trivial
theorem main.tw16035907590883218939 : True := trivial
theorem main.tw14539993770535171780 : True := trivial
theorem main.tw1099256609624015869 : True := trivial
theorem main.tw3549514262204291990 : True := trivial
theorem main.tw6361450105264607166 : True := trivial
theorem main.tw1429040668314091153 : True := trivial
theorem main.tw14722489848711283861 : True := trivial
theorem main.tw8278394305814214361 : True := trivial
theorem main.tw5532463470591059822 : True := trivial
theorem main.tw4637267157515435788 : True := trivial
theorem main.tw3045742163950154196 : True := trivial
theorem main.tw6697339332421208802 : True := trivial
theorem main.tw10450603732522932521 : True := trivial
theorem main.tw1826329307503635854 : True := trivial
theorem main.tw1678875084529416142 : True := trivial
theorem main.tw1545906260438175962 : True := trivial
theorem main.tw15737690656516749961 : True := trivial
theorem main.tw12623159325031504133 : True := trivial
theorem main.tw1677766988990989824 : True := trivial
theorem main.tw17958375852430007124 : True := trivial
theorem main.tw2629084897520917108 : True := trivial
theorem main.tw6741292078354696603 : True := trivial
theorem main.tw2581886604459180346 : True := trivial
theorem main.tw6557543464795787104 : True := trivial
theorem main.tw13803360072150633466 : True := trivial
theorem main.tw11461230924637031220 : True := trivial
theorem main.tw16721930046160240684 : True := trivial
theorem main.tw4651154628705390771 : True := trivial
theorem main.tw10877679251791092727 : True := trivial
theorem main.tw5995161000843957690 : True := trivial
theorem main.tw5061512775090418087 : True := trivial
theorem main.tw10094358506670053839 : True := trivial
theorem main.tw11752208632293872130 : True := trivial
theorem main.tw3848698983108048278 : True := trivial
theorem main.tw9155575984036265788 : True := trivial
theorem main.tw8118072479153026202 : True := trivial
theorem main.tw16356685582667847594 : True := trivial
theorem main.tw6044114016751833949 : True := trivial
theorem main.tw6334894449686545209 : True := trivial
theorem main.tw1178595665728414349 : True := trivial
theorem main.tw4324958949535026087 : True := trivial
theorem main.tw10298723112805639129 : True := trivial
theorem main.tw13838900630717943254 : True := trivial
theorem main.tw2406621943657119228 : True := trivial
theorem main.tw16187894506366716058 : True := trivial
theorem main.tw6910295442248876197 : True := trivial
theorem main.tw17236958762192778904 : True := trivial
theorem main.tw1615956725737779560 : True := trivial
theorem main.tw9561784451562097942 : True := trivial
theorem main.tw962032349192862916 : True := trivial
theorem main.tw4775608329324902142 : True := trivial
theorem main.tw7308723440029596264 : True := trivial
theorem main.tw14771111431291430275 : True := trivial
theorem main.tw13355152605343272895 : True := trivial
theorem main.tw8748973510418095054 : True := trivial
theorem main.tw16572128252103988241 : True := trivial
theorem main.tw10047389527955405517 : True := trivial
theorem main.tw14893677947936909564 : True := trivial
theorem main.tw9848185148710128376 : True := trivial
theorem main.tw18403998269306519403 : True := trivial
theorem main.tw10642606787283503386 : True := trivial
theorem main.tw16819838333489098493 : True := trivial
theorem main.tw820145642477177705 : True := trivial
theorem main.tw15729387918133165365 : True := trivial
theorem main.tw16656740534632174751 : True := trivial
theorem main.tw11225645599760410699 : True := trivial
theorem main.tw221909299271738847 : True := trivial
theorem main.tw7221758910455160077 : True := trivial
theorem main.tw7237411587787531456 : True := trivial
theorem main.tw14356970164483606383 : True := trivial
theorem main.tw6385024630547198690 : True := trivial
theorem main.tw16965079339398995527 : True := trivial
theorem main.tw10609540516017602915 : True := trivial
theorem main.tw6886502059237256666 : True := trivial
theorem main.tw14369920842174571615 : True := trivial
theorem main.tw1632041292262086317 : True := trivial
theorem main.tw2729793432009153956 : True := trivial
theorem main.tw12252054271945606052 : True := trivial
theorem main.tw18218335207050127959 : True := trivial
theorem main.tw656089360051881306 : True := trivial
theorem main.tw8466321980469482115 : True := trivial
theorem main.tw5372645768047454471 : True := trivial
theorem main.tw1777545030009416734 : True := trivial
theorem main.tw11646826074482590764 : True := trivial
theorem main.tw7074144079889050967 : True := trivial
theorem main.tw1270039299266317192 : True := trivial
theorem main.tw8947760058931562597 : True := trivial
theorem main.tw18421580907717582127 : True := trivial
theorem main.tw12343854547171428336 : True := trivial
theorem main.tw14027531716089632829 : True := trivial
theorem main.tw7698036289167662538 : True := trivial
theorem main.tw341453280667917650 : True := trivial
theorem main.tw4452170602077327944 : True := trivial
theorem main.tw18058344117034437523 : True := trivial
theorem main.tw3613476055612923068 : True := trivial
theorem main.tw10669944970481658594 : True := trivial
theorem main.tw9897820754763898449 : True := trivial
theorem main.tw13224007501803129859 : True := trivial
theorem main.tw7699798408344515789 : True := trivial
theorem main.tw16826212616301561204 : True := trivial
theorem main.tw5436791530062809996 : True := trivial
theorem main.tw11261727412033496967 : True := trivial
theorem main.tw3454311308915712629 : True := trivial
theorem main.tw9268297945177815525 : True := trivial
theorem main.tw16922381011570985944 : True := trivial
theorem main.tw9069182735580402390 : True := trivial
theorem main.tw8729708805864041840 : True := trivial
theorem main.tw9265829497004654079 : True := trivial
theorem main.tw7186131708394509389 : True := trivial
theorem main.tw3934531018447913466 : True := trivial
theorem main.tw2007339730380871907 : True := trivial
theorem main.tw17561526911342447988 : True := trivial
theorem main.tw8364180298976044652 : True := trivial
theorem main.tw17715262827843222689 : True := trivial
theorem main.tw834873547066669988 : True := trivial
theorem main.tw14439473939278146460 : True := trivial
theorem main.tw6222487380544312443 : True := trivial
theorem main.tw3796207824708393856 : True := trivial
theorem main.tw11221353774195762014 : True := trivial
theorem main.tw9512817274939609580 : True := trivial
theorem main.tw6785657489111691699 : True := trivial
theorem main.tw9670510015898674028 : True := trivial
theorem main.tw13590572293223372214 : True := trivial
theorem main.tw16778611742570070204 : True := trivial
theorem main.tw17450470499104002142 : True := trivial
theorem main.tw6912675738884088206 : True := trivial
theorem main.tw10204856939554784155 : True := trivial
theorem main.tw18332899500509843999 : True := trivial
theorem main.tw1409966394225722968 : True := trivial
theorem main.tw16136984950599521427 : True := trivial
theorem main.tw12483276189755474720 : True := trivial
theorem main.tw5240536507193477226 : True := trivial
theorem main.tw4297412468100583042 : True := trivial
theorem main.tw3829396358689915599 : True := trivial
theorem main.tw9557352009045844224 : True := trivial
theorem main.tw12518504611687188807 : True := trivial
theorem main.tw12431731261707249289 : True := trivial
theorem main.tw8478376212529829071 : True := trivial
theorem main.tw11544348965984651327 : True := trivial
theorem main.tw13348322127785295214 : True := trivial
theorem main.tw11501822485730972192 : True := trivial
theorem main.tw3466206800631347469 : True := trivial
theorem main.tw13350764725976880583 : True := trivial
theorem main.tw16345061883699153513 : True := trivial
theorem main.tw4500915450034043215 : True := trivial
theorem main.tw13110577991587790113 : True := trivial
theorem main.tw14874008761501241426 : True := trivial
theorem main.tw2496676261509829067 : True := trivial
theorem main.tw6635558491612396129 : True := trivial
theorem main.tw3027586509356016917 : True := trivial
theorem main.tw13402765919934010277 : True := trivial
theorem main.tw10234815189450012239 : True := trivial
theorem main.tw2724176850512262202 : True := trivial
theorem main.tw8988871441479999982 : True := trivial
theorem main.tw17679725944135375923 : True := trivial
theorem main.tw2702614204127132176 : True := trivial
theorem main.tw17510229520200029679 : True := trivial
theorem main.tw3905226178654972811 : True := trivial
theorem main.tw330327031418712150 : True := trivial
theorem main.tw104360540948158410 : True := trivial
theorem main.tw15734660467963936456 : True := trivial
theorem main.tw5102693214775723256 : True := trivial
theorem main.tw14635473669698735251 : True := trivial
theorem main.tw3960113756560652017 : True := trivial
theorem main.tw12590340796369385619 : True := trivial
theorem main.tw11982392923317675503 : True := trivial
theorem main.tw7875838824674609581 : True := trivial
theorem main.tw17223442867436993403 : True := trivial
theorem main.tw14371149721154158424 : True := trivial
theorem main.tw12455012482086183272 : True := trivial
theorem main.tw6655696309031964122 : True := trivial
theorem main.tw12839114828313443825 : True := trivial
theorem main.tw16519101796099990279 : True := trivial
theorem main.tw9656510801202774680 : True := trivial
theorem main.tw13676971244355772609 : True := trivial
theorem main.tw18325589031809861271 : True := trivial
theorem main.tw12939479104171293914 : True := trivial
theorem main.tw7751025194823839400 : True := trivial
theorem main.tw15135354766812531094 : True := trivial
theorem main.tw52199770228462824 : True := trivial
theorem main.tw9976160756891316704 : True := trivial
theorem main.tw1439166485080882 : True := trivial
theorem main.tw223528310411579522 : True := trivial
theorem main.tw17353955331779342651 : True := trivial
theorem main.tw3779293765908593550 : True := trivial
theorem main.tw15595112118272840620 : True := trivial
theorem main.tw7411558596216406370 : True := trivial
theorem main.tw2895952525429962455 : True := trivial
theorem main.tw11815829001073249272 : True := trivial
theorem main.tw2759098988195820126 : True := trivial
theorem main.tw4039676971129161736 : True := trivial
theorem main.tw11710404883906591787 : True := trivial
theorem main.tw15514936471743626214 : True := trivial
theorem main.tw33456957511925785 : True := trivial
theorem main.tw14909365282108701170 : True := trivial
theorem main.tw4839478117068044826 : True := trivial
theorem main.tw17052023290607921161 : True := trivial
theorem main.tw65644731488775911 : True := trivial
theorem main.tw11003572833241299968 : True := trivial
theorem main.tw12927740378394474205 : True := trivial
theorem main.tw16251939892948500945 : True := trivial
theorem main.tw16008252555379753968 : True := trivial
theorem main.tw9272984997812220495 : True := trivial
theorem main.tw4900431672193113347 : True := trivial
theorem main.tw3532412968194664532 : True := trivial
theorem main.tw5270908104458285503 : True := trivial
theorem main.tw8467378866343419333 : True := trivial
theorem main.tw15079240505294077160 : True := trivial
theorem main.tw13777938177461255882 : True := trivial
theorem main.tw16952715711813285254 : True := trivial
theorem main.tw16049902774474827687 : True := trivial
theorem main.tw18284262389922463811 : True := trivial
theorem main.tw302440914744352476 : True := trivial
theorem main.tw7991365701116552721 : True := trivial
theorem main.tw7259363254985744601 : True := trivial
theorem main.tw6696893160125735727 : True := trivial
theorem main.tw2195194259037543316 : True := trivial
theorem main.tw2524017781993486291 : True := trivial
theorem main.tw10625486282989778954 : True := trivial
theorem main.tw13113777628852026922 : True := trivial
theorem main.tw9508770018378322450 : True := trivial
theorem main.tw9190990891756207365 : True := trivial
theorem main.tw5571399437266216444 : True := trivial
theorem main.tw15465920861327815835 : True := trivial
theorem main.tw12057704586751987240 : True := trivial
theorem main.tw15109750227778091905 : True := trivial
theorem main.tw7235775444256392728 : True := trivial
theorem main.tw17737603089517620647 : True := trivial
theorem main.tw9840939614602229412 : True := trivial
theorem main.tw387501639795913443 : True := trivial
theorem main.tw11181722664286889309 : True := trivial
theorem main.tw11403851563620829512 : True := trivial
theorem main.tw15017983477296125989 : True := trivial
theorem main.tw1504049600530537962 : True := trivial
theorem main.tw7846812961960373227 : True := trivial
theorem main.tw18315214858253571532 : True := trivial
theorem main.tw6541472054586571296 : True := trivial
theorem main.tw1850612553970854742 : True := trivial
theorem main.tw1513938828510530698 : True := trivial
theorem main.tw4038153913678941442 : True := trivial
theorem main.tw18280085339978019747 : True := trivial
theorem main.tw10821422270917381399 : True := trivial
theorem main.tw16320729459185622934 : True := trivial
theorem main.tw4397610999060964463 : True := trivial
theorem main.tw4333880214566435006 : True := trivial
theorem main.tw15806524323241146399 : True := trivial
theorem main.tw7939164064552038406 : True := trivial
theorem main.tw17974016328880235120 : True := trivial
theorem main.tw16153842264607907944 : True := trivial
theorem main.tw16046730324260685337 : True := trivial
theorem main.tw7761410557224570781 : True := trivial
theorem main.tw15643365686152983790 : True := trivial
theorem main.tw2287757881348798766 : True := trivial
theorem main.tw3234112476842188716 : True := trivial
theorem main.tw10913426047420270581 : True := trivial
theorem main.tw18442785490491869365 : True := trivial
theorem main.tw4475767826048309731 : True := trivial
theorem main.tw12205347405646519318 : True := trivial
theorem main.tw10391951854915411234 : True := trivial
theorem main.tw1157997071576566072 : True := trivial
theorem main.tw6162249291895867263 : True := trivial
theorem main.tw14009396871252706886 : True := trivial
theorem main.tw14639212616227390028 : True := trivial
theorem main.tw2821470743931037460 : True := trivial
theorem main.tw15768048840197415361 : True := trivial
theorem main.tw6053611964639427726 : True := trivial
theorem main.tw15325265745230064102 : True := trivial
theorem main.tw17091655785135471103 : True := trivial
theorem main.tw2225956059507018244 : True := trivial
theorem main.tw3299218664060906527 : True := trivial
theorem main.tw8663697691656813868 : True := trivial
theorem main.tw6511744376749373798 : True := trivial
theorem main.tw17725498274588495791 : True := trivial
theorem main.tw15467891735981029475 : True := trivial
theorem main.tw2906824675625879941 : True := trivial
theorem main.tw12915833801598196605 : True := trivial
theorem main.tw17118054049896295152 : True := trivial
theorem main.tw7173623326730630234 : True := trivial
theorem main.tw13642826006792871662 : True := trivial
theorem main.tw9682133043923132273 : True := trivial
theorem main.tw4990475226369331113 : True := trivial
theorem main.tw4605139254293405059 : True := trivial
theorem main.tw66260789543402106 : True := trivial
theorem main.tw14662554035588321541 : True := trivial
theorem main.tw8228058824784995430 : True := trivial
theorem main.tw5649967823195072380 : True := trivial
theorem main.tw15485851114877660061 : True := trivial
theorem main.tw4126091431370883743 : True := trivial
theorem main.tw4458048076830672230 : True := trivial
end Mine
open PySem PySem.W PyProof.Rows
set_option Elab.async true
set_option maxRecDepth 100000 in
set_option maxHeartbeats 8000000 in
theorem Mine.main : PySem.Challenge.rw_uf030016_03.Holds := by
  w_on; o_law; k_head; (case hw => w_witness2)
  k_fill
  intro w s₀ s₁ mg mb G Y fa o pm cd doc dV kV ho hd hcd hD hmg hg args vals as hpre hlay hrd hwl hlo
  have KX := kIn_of Y
  have X := (Ground.X G).1
  have V := (Ground.X G).2
  try w_nolog (first | (have GL := glob_more (Ground.glob G (by first | k_qdec | decide +kernel) (by first | k_qdec | decide +kernel)) V) | (have GL := glob_more (Ground.glob G (by decide +kernel)) V))
  refine Ground.open G ?_
  intro T B D TE TW
  try (refine guard_noD D (by decide +kernel) ?_; clear D)
  obtain ⟨_, _, M⟩ := bmod_of_top T
  have TA := at_of_top T
  try (obtain ⟨_, _, he, B0⟩ := based_of_top T rfl hmg ho hd; have he' : cd = _ := he; subst he'; clear he)
  wrow_args hpre hlay hrd hwl hlo
  all_goals first | refine callC_kw (enter_call ?_) | refine enter_call ?_ | refine callC_kw (enter_callW ?_) | refine enter_callW ?_ | w_how
  all_goals w_top on
  all_goals try refine codeAny_mono ?_ (fun _ _ g => GoodW.toG g)
  rename_i hL _ _ _ hI _ hcond _
  refine Mine.Internal.run_law T _ KX Mine.Internal.gint03 Mine.fnA03 Mine.clA03 Mine.Internal.ancT Mine.Internal.tab03 rfl rfl (by with_unfolding_all rfl) rfl rfl rfl ?c7 ?fin (n := 8) rfl rfl (by decide +kernel) (by decide +kernel) hmg hL (by omega) (Mine.ints_of hI) (Mine.Internal.law3_spec (n := 3) fun _ => rfl) fun h tk hk => ?_
  case c7 =>
    simp only [Mine.clA03, List.mem_cons, List.not_mem_nil, or_false]
    rintro d (rfl | rfl | rfl | rfl | rfl | rfl | rfl | rfl | rfl | rfl | rfl) <;> exact ⟨rfl, rfl, rfl, rfl, rfl, rfl, rfl, rfl, rfl⟩
  case fin =>
    clear GL TA
    refine ⟨rfl, ?m0, rfl, ?m1, rfl, ?m2, rfl, ?m3, rfl, ?m4, rfl, ?m5, rfl, ?m6, rfl, ?m7, rfl, ?m8, rfl, ?m9, rfl, ?m10, rfl, ?m11, rfl, ?m12, rfl, ?m13, rfl, ?m14, rfl, ?m15, rfl, ?m16, rfl, ?m17, rfl, ?m18, rfl, ?m19, rfl, ?m20, rfl, ?m21, rfl, ?m22, rfl, ?m23, trivial⟩
    case m0 =>
      refine ⟨_, _, _, rfl, rfl, rfl, rfl, fun us s hu hX => ?_, ?_⟩
      · obtain ⟨u0, rfl⟩ := Mine.Internal.len1 hu; exact kp_binds hX (fun S => rfl)
      · dsimp only [Mine.Internal.f_need_kind]
        (repeat' (first | (with_reducible rfl) | (decide +kernel) | rfl | (intro _ _; with_unfolding_all rfl) | (intro _; with_unfolding_all rfl) | (intro _ _ _; with_unfolding_all rfl) | (refine Mine.Internal.MS.asgC ?_ (fun env h => Mine.Internal.swaps_of h (by rfl)) ?_ ?_ ?_ ?_ ?_ ?_) | constructor))
    case m1 =>
      refine ⟨_, _, _, rfl, rfl, rfl, rfl, fun us s hu hX => ?_, ?_⟩
      · obtain ⟨u0, rfl⟩ := Mine.Internal.len1 hu; exact kp_binds hX (fun S => rfl)
      · dsimp only [Mine.Internal.f_need_count]
        (repeat' (first | (with_reducible rfl) | (decide +kernel) | rfl | (intro _ _; with_unfolding_all rfl) | (intro _; with_unfolding_all rfl) | (intro _ _ _; with_unfolding_all rfl) | (refine Mine.Internal.MS.asgC ?_ (fun env h => Mine.Internal.swaps_of h (by rfl)) ?_ ?_ ?_ ?_ ?_ ?_) | constructor))
    case m2 =>
      refine ⟨_, _, _, rfl, rfl, rfl, rfl, fun us s hu hX => ?_, ?_⟩
      · obtain ⟨u0, rfl⟩ := Mine.Internal.len1 hu; exact kp_binds hX (fun S => rfl)
      · dsimp only [Mine.Internal.f_pairs_of]
        (repeat' (first | (with_reducible rfl) | (decide +kernel) | rfl | (intro _ _; with_unfolding_all rfl) | (intro _; with_unfolding_all rfl) | (intro _ _ _; with_unfolding_all rfl) | (refine Mine.Internal.MS.asgC ?_ (fun env h => Mine.Internal.swaps_of h (by rfl)) ?_ ?_ ?_ ?_ ?_ ?_) | constructor))
    case m3 =>
      refine ⟨_, _, _, rfl, rfl, rfl, rfl, fun us s hu hX => ?_, ?_⟩
      · obtain ⟨u0, rfl⟩ := Mine.Internal.len1 hu; exact kp_binds hX (fun S => rfl)
      · dsimp only [Mine.Internal.f_counts_of]
        (repeat' (first | (with_reducible rfl) | (decide +kernel) | rfl | (intro _ _; with_unfolding_all rfl) | (intro _; with_unfolding_all rfl) | (intro _ _ _; with_unfolding_all rfl) | (refine Mine.Internal.MS.asgC ?_ (fun env h => Mine.Internal.swaps_of h (by rfl)) ?_ ?_ ?_ ?_ ?_ ?_) | constructor))
    case m4 =>
      refine ⟨_, _, _, rfl, rfl, rfl, rfl, fun us s hu hX => ?_, ?_⟩
      · obtain ⟨u0, u1, rfl⟩ := Mine.Internal.len2 hu; exact kp_binds hX (fun S => rfl)
      · dsimp only [Mine.Internal.f_count_of]
        (repeat' (first | (with_reducible rfl) | (decide +kernel) | rfl | (intro _ _; with_unfolding_all rfl) | (intro _; with_unfolding_all rfl) | (intro _ _ _; with_unfolding_all rfl) | (refine Mine.Internal.MS.asgC ?_ (fun env h => Mine.Internal.swaps_of h (by rfl)) ?_ ?_ ?_ ?_ ?_ ?_) | constructor))
    case m5 =>
      refine ⟨_, _, _, rfl, rfl, rfl, rfl, fun us s hu hX => ?_, ?_⟩
      · obtain ⟨u0, u1, u2, rfl⟩ := Mine.Internal.len3 hu; exact kp_binds hX (fun S => rfl)
      · dsimp only [Mine.Internal.f_with_count]
        (repeat' (first | (with_reducible rfl) | (decide +kernel) | rfl | (intro _ _; with_unfolding_all rfl) | (intro _; with_unfolding_all rfl) | (intro _ _ _; with_unfolding_all rfl) | (refine Mine.Internal.MS.asgC ?_ (fun env h => Mine.Internal.swaps_of h (by rfl)) ?_ ?_ ?_ ?_ ?_ ?_) | constructor))
    case m6 =>
      refine ⟨_, _, _, rfl, rfl, rfl, rfl, fun us s hu hX => ?_, ?_⟩
      · obtain ⟨u0, u1, u2, rfl⟩ := Mine.Internal.len3 hu; exact kp_binds hX (fun S => rfl)
      · dsimp only [Mine.Internal.f_brought]
        (repeat' (first | (with_reducible rfl) | (decide +kernel) | rfl | (intro _ _; with_unfolding_all rfl) | (intro _; with_unfolding_all rfl) | (intro _ _ _; with_unfolding_all rfl) | (refine Mine.Internal.MS.asgC ?_ (fun env h => Mine.Internal.swaps_of h (by rfl)) ?_ ?_ ?_ ?_ ?_ ?_) | constructor))
    case m7 =>
      refine ⟨_, _, _, rfl, rfl, rfl, rfl, fun us s hu hX => ?_, ?_⟩
      · obtain ⟨u0, u1, u2, rfl⟩ := Mine.Internal.len3 hu; exact kp_binds hX (fun S => rfl)
      · dsimp only [Mine.Internal.f_fetched]
        (repeat' (first | (with_reducible rfl) | (decide +kernel) | rfl | (intro _ _; with_unfolding_all rfl) | (intro _; with_unfolding_all rfl) | (intro _ _ _; with_unfolding_all rfl) | (refine Mine.Internal.MS.asgC ?_ (fun env h => Mine.Internal.swaps_of h (by rfl)) ?_ ?_ ?_ ?_ ?_ ?_) | constructor))
    case m8 =>
      refine ⟨_, _, _, rfl, rfl, rfl, rfl, fun us s hu hX => ?_, ?_⟩
      · obtain ⟨u0, u1, rfl⟩ := Mine.Internal.len2 hu; exact kp_binds hX (fun S => rfl)
      · dsimp only [Mine.Internal.f_kind_in]
        (repeat' (first | (with_reducible rfl) | (decide +kernel) | rfl | (intro _ _; with_unfolding_all rfl) | (intro _; with_unfolding_all rfl) | (intro _ _ _; with_unfolding_all rfl) | (refine Mine.Internal.MS.asgC ?_ (fun env h => Mine.Internal.swaps_of h (by rfl)) ?_ ?_ ?_ ?_ ?_ ?_) | constructor))
    case m9 =>
      refine ⟨_, _, _, rfl, rfl, rfl, rfl, fun us s hu hX => ?_, ?_⟩
      · obtain ⟨u0, u1, rfl⟩ := Mine.Internal.len2 hu; exact kp_binds hX (fun S => rfl)
      · dsimp only [Mine.Internal.f_kind_out]
        (repeat' (first | (with_reducible rfl) | (decide +kernel) | rfl | (intro _ _; with_unfolding_all rfl) | (intro _; with_unfolding_all rfl) | (intro _ _ _; with_unfolding_all rfl) | (refine Mine.Internal.MS.asgC ?_ (fun env h => Mine.Internal.swaps_of h (by rfl)) ?_ ?_ ?_ ?_ ?_ ?_) | constructor))
    case m10 =>
      refine ⟨_, _, _, rfl, rfl, rfl, rfl, fun us s hu hX => ?_, ?_⟩
      · obtain ⟨u0, u1, rfl⟩ := Mine.Internal.len2 hu; exact kp_binds hX (fun S => rfl)
      · dsimp only [Mine.Internal.f_law_cell_at]
        (repeat' (first | (with_reducible rfl) | (decide +kernel) | rfl | (intro _ _; with_unfolding_all rfl) | (intro _; with_unfolding_all rfl) | (intro _ _ _; with_unfolding_all rfl) | (refine Mine.Internal.MS.asgC ?_ (fun env h => Mine.Internal.swaps_of h (by rfl)) ?_ ?_ ?_ ?_ ?_ ?_) | constructor))
    case m11 =>
      refine ⟨_, _, _, rfl, rfl, rfl, rfl, fun us s hu hX => ?_, ?_⟩
      · obtain ⟨u0, rfl⟩ := Mine.Internal.len1 hu; exact kp_binds hX (fun S => rfl)
      · dsimp only [Mine.Internal.f_law_whole]
        (repeat' (first | (with_reducible rfl) | (decide +kernel) | rfl | (intro _ _; with_unfolding_all rfl) | (intro _; with_unfolding_all rfl) | (intro _ _ _; with_unfolding_all rfl) | (refine Mine.Internal.MS.asgC ?_ (fun env h => Mine.Internal.swaps_of h (by rfl)) ?_ ?_ ?_ ?_ ?_ ?_) | constructor))
    case m12 =>
      refine ⟨_, _, _, rfl, rfl, rfl, rfl, fun us s hu hX => ?_, ?_⟩
      · obtain ⟨u0, u1, rfl⟩ := Mine.Internal.len2 hu; exact kp_binds hX (fun S => rfl)
      · dsimp only [Mine.Internal.f_law_mixed]
        (repeat' (first | (with_reducible rfl) | (decide +kernel) | rfl | (intro _ _; with_unfolding_all rfl) | (intro _; with_unfolding_all rfl) | (intro _ _ _; with_unfolding_all rfl) | (refine Mine.Internal.MS.asgC ?_ (fun env h => Mine.Internal.swaps_of h (by rfl)) ?_ ?_ ?_ ?_ ?_ ?_) | constructor))
    case m13 =>
      refine ⟨_, _, _, rfl, rfl, rfl, rfl, fun us s hu hX => ?_, ?_⟩
      · obtain ⟨u0, u1, rfl⟩ := Mine.Internal.len2 hu; exact kp_binds hX (fun S => rfl)
      · dsimp only [Mine.Internal.f_law_value]
        (repeat' (first | (with_reducible rfl) | (decide +kernel) | rfl | (intro _ _; with_unfolding_all rfl) | (intro _; with_unfolding_all rfl) | (intro _ _ _; with_unfolding_all rfl) | (refine Mine.Internal.MS.asgC ?_ (fun env h => Mine.Internal.swaps_of h (by rfl)) ?_ ?_ ?_ ?_ ?_ ?_) | constructor))
    case m14 =>
      refine ⟨_, _, _, rfl, rfl, rfl, rfl, fun us s hu hX => ?_, ?_⟩
      · obtain ⟨u0, u1, rfl⟩ := Mine.Internal.len2 hu; exact kp_binds hX (fun S => rfl)
      · dsimp only [Mine.Internal.f_law_count]
        (repeat' (first | (with_reducible rfl) | (decide +kernel) | rfl | (intro _ _; with_unfolding_all rfl) | (intro _; with_unfolding_all rfl) | (intro _ _ _; with_unfolding_all rfl) | (refine Mine.Internal.MS.asgC ?_ (fun env h => Mine.Internal.swaps_of h (by rfl)) ?_ ?_ ?_ ?_ ?_ ?_) | constructor))
    case m15 =>
      refine ⟨_, _, _, rfl, rfl, rfl, rfl, fun us s hu hX => ?_, ?_⟩
      · obtain ⟨u0, rfl⟩ := Mine.Internal.len1 hu; exact kp_binds hX (fun S => rfl)
      · dsimp only [Mine.Internal.f_law_pairs]
        (repeat' (first | (with_reducible rfl) | (decide +kernel) | rfl | (intro _ _; with_unfolding_all rfl) | (intro _; with_unfolding_all rfl) | (intro _ _ _; with_unfolding_all rfl) | (refine Mine.Internal.MS.asgC ?_ (fun env h => Mine.Internal.swaps_of h (by rfl)) ?_ ?_ ?_ ?_ ?_ ?_) | constructor))
    case m16 =>
      refine ⟨_, _, _, rfl, rfl, rfl, rfl, fun us s hu hX => ?_, ?_⟩
      · obtain ⟨u0, u1, rfl⟩ := Mine.Internal.len2 hu; exact kp_binds hX (fun S => rfl)
      · dsimp only [Mine.Internal.f_law_alike]
        (repeat' (first | (with_reducible rfl) | (decide +kernel) | rfl | (intro _ _; with_unfolding_all rfl) | (intro _; with_unfolding_all rfl) | (intro _ _ _; with_unfolding_all rfl) | (refine Mine.Internal.MS.asgC ?_ (fun env h => Mine.Internal.swaps_of h (by rfl)) ?_ ?_ ?_ ?_ ?_ ?_) | constructor))
    case m17 =>
      refine ⟨_, _, _, rfl, rfl, rfl, rfl, fun us s hu hX => ?_, ?_⟩
      · obtain ⟨u0, u1, rfl⟩ := Mine.Internal.len2 hu; exact kp_binds hX (fun S => rfl)
      · dsimp only [Mine.Internal.f_law_there]
        (repeat' (first | (with_reducible rfl) | (decide +kernel) | rfl | (intro _ _; with_unfolding_all rfl) | (intro _; with_unfolding_all rfl) | (intro _ _ _; with_unfolding_all rfl) | (refine Mine.Internal.MS.asgC ?_ (fun env h => Mine.Internal.swaps_of h (by rfl)) ?_ ?_ ?_ ?_ ?_ ?_) | constructor))
    case m18 =>
      refine ⟨_, _, _, rfl, rfl, rfl, rfl, fun us s hu hX => ?_, ?_⟩
      · obtain ⟨u0, u1, u2, u3, rfl⟩ := Mine.Internal.len4 hu; exact kp_binds hX (fun S => rfl)
      · dsimp only [Mine.Internal.f_law_due_03]
        (repeat' (first | (with_reducible rfl) | (decide +kernel) | rfl | (intro _ _; with_unfolding_all rfl) | (intro _; with_unfolding_all rfl) | (intro _ _ _; with_unfolding_all rfl) | (refine Mine.Internal.MS.asgC ?_ (fun env h => Mine.Internal.swaps_of h (by rfl)) ?_ ?_ ?_ ?_ ?_ ?_) | constructor))
    case m19 =>
      refine ⟨_, _, _, rfl, rfl, rfl, rfl, fun us s hu hX => ?_, ?_⟩
      · obtain ⟨u0, u1, u2, u3, rfl⟩ := Mine.Internal.len4 hu; exact kp_binds hX (fun S => rfl)
      · dsimp only [Mine.Internal.f_law_behind]
        (repeat' (first | (with_reducible rfl) | (decide +kernel) | rfl | (intro _ _; with_unfolding_all rfl) | (intro _; with_unfolding_all rfl) | (intro _ _ _; with_unfolding_all rfl) | (refine Mine.Internal.MS.asgC ?_ (fun env h => Mine.Internal.swaps_of h (by rfl)) ?_ ?_ ?_ ?_ ?_ ?_) | constructor))
    case m20 =>
      refine ⟨_, _, _, rfl, rfl, rfl, rfl, fun us s hu hX => ?_, ?_⟩
      · obtain ⟨u0, u1, u2, u3, rfl⟩ := Mine.Internal.len4 hu; exact kp_binds hX (fun S => rfl)
      · dsimp only [Mine.Internal.f_law_done]
        (repeat' (first | (with_reducible rfl) | (decide +kernel) | rfl | (intro _ _; with_unfolding_all rfl) | (intro _; with_unfolding_all rfl) | (intro _ _ _; with_unfolding_all rfl) | (refine Mine.Internal.MS.asgC ?_ (fun env h => Mine.Internal.swaps_of h (by rfl)) ?_ ?_ ?_ ?_ ?_ ?_) | constructor))
    case m21 =>
      refine ⟨_, _, _, rfl, rfl, rfl, rfl, fun us s hu hX => ?_, ?_⟩
      · obtain ⟨u0, u1, u2, u3, rfl⟩ := Mine.Internal.len4 hu; exact kp_binds hX (fun S => rfl)
      · dsimp only [Mine.Internal.f_law_tried]
        (repeat' (first | (with_reducible rfl) | (decide +kernel) | rfl | (intro _ _; with_unfolding_all rfl) | (intro _; with_unfolding_all rfl) | (intro _ _ _; with_unfolding_all rfl) | (refine Mine.Internal.MS.asgC ?_ (fun env h => Mine.Internal.swaps_of h (by rfl)) ?_ ?_ ?_ ?_ ?_ ?_) | constructor))
    case m22 =>
      refine ⟨_, _, _, rfl, rfl, rfl, rfl, fun us s hu hX => ?_, ?_⟩
      · obtain ⟨u0, u1, u2, u3, rfl⟩ := Mine.Internal.len4 hu; exact kp_binds hX (fun S => rfl)
      · dsimp only [Mine.Internal.f_law_any_03]
        (repeat' (first | (with_reducible rfl) | (decide +kernel) | rfl | (intro _ _; with_unfolding_all rfl) | (intro _; with_unfolding_all rfl) | (intro _ _ _; with_unfolding_all rfl) | (refine Mine.Internal.MS.asgC ?_ (fun env h => Mine.Internal.swaps_of h (by rfl)) ?_ ?_ ?_ ?_ ?_ ?_) | constructor))
    case m23 =>
      refine ⟨_, _, _, rfl, rfl, rfl, rfl, fun us s hu hX => ?_, ?_⟩
      · obtain ⟨u0, rfl⟩ := Mine.Internal.len1 hu; exact kp_binds hX (fun S => rfl)
      · dsimp only [Mine.Internal.f_law_03]
        (repeat' (first | (with_reducible rfl) | (decide +kernel) | rfl | (intro _ _; with_unfolding_all rfl) | (intro _; with_unfolding_all rfl) | (intro _ _ _; with_unfolding_all rfl) | (refine Mine.Internal.MS.asgC ?_ (fun env h => Mine.Internal.swaps_of h (by rfl)) ?_ ?_ ?_ ?_ ?_ ?_) | constructor))
  exact ⟨.inl ⟨_, _, _, rfl, fun _ => rfl, .bool true, (by with_unfolding_all rfl), fun _ => ⟨.nil, nofun⟩⟩, hk, rfl, hg⟩
set_option Elab.async false
theorem PySem.Challenge.cw_uf030016_03_holds : PySem.Challenge.rw_uf030016_03.Holds :=
  Mine.main
end
