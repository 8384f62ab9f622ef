import PyProof.Rows.All
import HandS.ForMost
import HandS.Zip
import HandS.TupAny
import HandS.TupMul
import HandS.Conv
import HandS.IsInst
import HandS.GenList
import HandS.AnyAll
import HandS.TupSets
import KE.KeyNested
import KE.KDictKeyed
import HandS.Flow
import HandS.Style
import KE.GoesMore
import KE.GoesEnum
import KE.GoesZip
import PyProof.TupleOfGen
import PyProof.SumAny
import HandS.EndTab
import HandS.Wide
import Wide.All
import OpenK.AllK
import Wide.FinOn
import PySem.Challenge.RW_hingelayer_k08_whole_least_nets
set_option Elab.async false
set_option linter.all false
set_option maxRecDepth 100000
/-! DL1: data without a heap, the small language, what a text of it asks. -/
namespace DL
open PySem PySem.Spec PyProof.Rows L2

/-- data: tuples and lists that nobody changes are values; ref: a list that is changed -/
inductive D where
  | non | bl (b : Bool) | int (i : Int) | str (x : Str)
  | tup (xs : List D) | lst (xs : List D) | scr (xs : List D) | ref (a : Addr) | dct (a : Addr)
/-- the lists that are changed -/
abbrev Sto := Addr → Option (List D)
def Sto.put (S : Sto) (a : Addr) (xs : List D) : Sto := fun b => if b = a then some xs else S b
/-- the one holds no more than the other -/
def Sub (S S' : Sto) : Prop := ∀ a xs, S a = some xs → S' a = some xs
theorem Sub.refl (S : Sto) : Sub S S := fun _ _ h => h
theorem Sub.trans {S S1 S2 : Sto} (a : Sub S S1) (b : Sub S1 S2) : Sub S S2 := fun c o h => b c o (a c o h)
theorem Sto.put_same {S : Sto} {a : Addr} {xs : List D} : S.put a xs a = some xs := by unfold Sto.put; rw [if_pos rfl]
theorem Sto.put_ne {S : Sto} {a b : Addr} {xs : List D} (h : b ≠ a) : S.put a xs b = S b := by unfold Sto.put; rw [if_neg h]
theorem Sto.put_put {S : Sto} {a : Addr} {xs ys : List D} : (S.put a xs).put a ys = S.put a ys := by funext b; unfold Sto.put; split <;> rfl
/-- one list forgotten -/
def Sto.del (S : Sto) (a : Addr) : Sto := fun b => if b = a then none else S b
theorem Sto.del_same {S : Sto} {a : Addr} : S.del a a = none := by unfold Sto.del; rw [if_pos rfl]
theorem Sub.del {S : Sto} {a : Addr} : Sub (S.del a) S := fun b o e => by
  unfold Sto.del at e
  split at e
  · cases e
  · exact e
theorem Sub.put {S : Sto} {a : Addr} {xs : List D} (h : S a = none) : Sub S (S.put a xs) := fun b o e => by
  rw [Sto.put_ne]; exact e
  rintro rfl; rw [h] at e; cases e

/-- the script: a list that is locked, or one of the text's -/
inductive ScrV (K : PySem.W.Frag) (H : Hp) (a : Addr) (vs : List V) : Prop
  | frz (o : Obj) : H a = some (.frz o (.lst vs)) → ScrV K H a vs
  | txt (o : Obj) (its : Array Value) (n : Nat) : K.lookup a = some o → o.cls = .type "list" → o.dict = none → o.data = .seq its n → its.size ≤ sizeLine → Vals vs its.toList → ScrV K H a vs
theorem ScrV.sq {K : PySem.W.Frag} {H : Hp} {a : Addr} {vs : List V} : ScrV K H a vs → SqL K H a vs
  | .frz o h => .inl (.inr ⟨o, h⟩)
  | .txt o its n h1 h2 h3 h4 h5 h6 => .inr ⟨o, its, n, h1, h2, h3, h4, h5, h6⟩
/-- a list stands here -/
def LstH (H : Hp) (a : Addr) : Prop := ∃ vs, H a = some (.lst vs)
/-- a dict with these entries -/
def dctO (w : World) (a : Addr) (ts : List (NestedKey × Addr × Value)) : HO := .ext fun h => ∃ o es ep, h.get? a = some o ∧ o.ExactDict ∧ o.data = .dict es ep ∧ es.toList = ts.map fun x => ⟨x.1.hash w, .ref x.2.1, x.2.2⟩
def DctH (H : Hp) (a : Addr) : Prop := ∃ w ts, H a = some (dctO w a ts)
mutual
/-- d stands at v; Z: what is hidden -/
inductive Rep (K : PySem.W.Frag) (Z : Addr → Prop) (S : Sto) (H : Hp) : D → V → Prop
  | non : Rep K Z S H .non .non
  | bl (b : Bool) : Rep K Z S H (.bl b) (.bl b)
  | int (i : Int) : Rep K Z S H (.int i) (.int i)
  | str (x : Str) : Rep K Z S H (.str x) (.str x)
  | tup {a : Addr} {vs : List V} {ds : List D} : SqT K H a vs → RepL K Z S H ds vs → Rep K Z S H (.tup ds) (.ref a)
  | lst {a : Addr} {vs : List V} {ds : List D} : H a = some (.lst vs) → S a = none → ¬ Z a → RepL K Z S H ds vs → Rep K Z S H (.lst ds) (.ref a)
  | scr {a : Addr} {vs : List V} {ds : List D} : ScrV K H a vs → RepL K Z S H ds vs → Rep K Z S H (.scr ds) (.ref a)
  | ref {a : Addr} : LstH H a → Rep K Z S H (.ref a) (.ref a)
  | dct {a : Addr} : DctH H a → Rep K Z S H (.dct a) (.ref a)
inductive RepL (K : PySem.W.Frag) (Z : Addr → Prop) (S : Sto) (H : Hp) : List D → List V → Prop
  | nil : RepL K Z S H [] []
  | cons {d : D} {v : V} {ds : List D} {vs : List V} : Rep K Z S H d v → RepL K Z S H ds vs → RepL K Z S H (d :: ds) (v :: vs)
end

inductive BO | add | sub | mul | fdiv | fdivS | mod | pow
  deriving DecidableEq
inductive CO | eq | ne | lt | le | gt | ge | isN | notN | inn | nin
  deriving DecidableEq
inductive BI | abs | len | int | tuple | list (mu : Bool) | sum | max | min
  deriving DecidableEq
inductive TN | int | bool | str | tuple
  deriving DecidableEq
inductive LM | append | pop | reverse
  deriving DecidableEq
inductive SC | non | bl (b : Bool) | int (i : Int) | str (x : Str)
  deriving DecidableEq
def SC.d : SC → D
  | .non => .non | .bl b => .bl b | .int i => .int i | .str x => .str x
/-- targets -/
inductive TT' | n (i : Nat) | t (a : TT') | nil | cons (a b : TT')
  deriving DecidableEq
/-- expressions -/
inductive M
  | v (i : Nat) | c (x : SC) | g (i : Nat)
  | nil | cons (a b : M)
  | tup (a : M) | lst (mu : Bool) (a : M)
  | bin (o : BO) (a b : M) | cat (a b : M) | rep (a b : M) | neg (a : M) | not (a : M)
  | cmp (o : CO) (a b : M) | chain (o o' : CO) (a b c : M)
  | and (a b : M) | or (a b : M) | ite (c a b : M)
  | call (f : Nat) (a : M) | callK (f : Nat) (a ks : M) (kp : Nat)
  | bi (b : BI) (a : M) | isi (a : M) (t : TN)
  | ix (a i : M) | sl (a lo hi : M)
  | lc (mu : Bool) (own : List Nat) (tg : TT') (elt it cond : M)
  | gsum (own : List Nat) (tg : TT') (elt it cond : M)
  | gall (any : Bool) (own : List Nat) (tg : TT') (elt it cond : M)
  | zip (a b : M) | enum (a : M) | rng (a b : M)
  | meth (m : LM) (o a : M)
  | tv (a : M) | so (a : M) | it (a : M)
  | dnew | dget (a i : M) | dgeto (a i x : M) | dsort (a : M) | dlist (a : M) | trng (a : M)
  deriving DecidableEq
/-- statements -/
inductive C
  | done | seq (a b : C)
  | asg (tg : TT') (e : M) | swap (i j : Nat) (a b : M) | swap3 (i j l : Nat) (a b c : M)
  | augv (i : Nat) (o : BO) (e : M) | augs (a i : M) (o : BO) (e : M) | sets (a i e : M) | dput (a i e : M)
  | frz (i : Nat)
  | ret (e : M) | retN | brk | cont | ex (e : M)
  | ite (c : M) (a b : C) | whl (c : M) (a : C) | for (tg : TT') (it : M) (a : C)
  deriving DecidableEq

/-! ### what the operations do -/
abbrev Rho := List (Option D)
/-- bounds: a product's size -/
def MulOk (i j : Int) : Prop := IntMulOk i j
def PowOk (i j : Int) : Prop := CPow i j
def LIM : Nat := 16777216
def dBin : BO → D → D → (D → Prop) → Prop
  | .add, .int i, .int j, k => k (.int (i + j))
  | .sub, .int i, .int j, k => k (.int (i - j))
  | .mul, .int i, .int j, k => MulOk i j ∧ k (.int (i * j))
  | .fdiv, .int i, .int j, k => j ≠ 0 ∧ k (.int (i.fdiv j))
  | .fdivS, .int i, .int j, k => (j ≠ 0 ∧ j.natAbs.log2 < 9000) ∧ k (.int (i.fdiv j))
  | .mod, .int i, .int j, k => j ≠ 0 ∧ k (.int (i.fmod j))
  | .pow, .int i, .int j, k => PowOk i j ∧ k (.int (i ^ j.toNat))
  | .add, .tup xs, .tup ys, k => xs.length + ys.length ≤ LIM ∧ k (.tup (xs ++ ys))
  | .add, .lst xs, .lst ys, k => xs.length + ys.length ≤ LIM ∧ k (.lst (xs ++ ys))
  | .mul, .tup xs, .int n, k => (xs ≠ [] ∧ -(2 ^ 63) ≤ n ∧ n ≤ 1000 ∧ xs.length ≤ 1000) ∧ k (.tup (List.replicate n.toNat xs).flatten)
  | .mul, .lst xs, .int n, k => (-(2 ^ 63) ≤ n ∧ n < 2 ^ 63 ∧ xs.length * n.toNat ≤ LIM) ∧ k (.lst (List.replicate n.toNat xs).flatten)
  | _, _, _, _ => False
/-- op= of ints -/
def dAug (o : BO) (x y : D) (k : D → Prop) : Prop := match o, x, y with
  | .pow, _, _ => False
  | o, .int i, .int j => dBin o (.int i) (.int j) k
  | _, _, _ => False
/-- data for == -/
def toPy : D → Option PyData
  | .non => some .none | .bl b => some (.bool b) | .int i => some (.int i) | .str x => some (.str x)
  | .tup xs => (toPys xs).map .tuple
  | .lst xs => (toPys xs).map .list
  | .ref _ => none
  | .scr _ => none
  | .dct _ => none
where toPys : List D → Option (List PyData)
  | [] => some []
  | x :: xs => match toPy x, toPys xs with
    | some y, some ys => some (y :: ys)
    | _, _ => none
/-- a list that is changed, as it is now -/
def look (S : Sto) : D → D
  | .ref a => match S a with | some xs => .lst xs | none => .ref a
  | d => d
def dEq (S : Sto) (x y : D) (k : Bool → Prop) : Prop := match x, y with
  | .int i, .int j => k (decide (i = j))
  | .str i, .str j => k (decide (i = j))
  | .bl i, .bl j => k (decide (i = j))
  | x, y => ∃ p q, toPy (look S x) = some p ∧ toPy (look S y) = some q ∧ SeqAt.shaped p = true ∧ SeqAt.shaped q = true ∧ k (PyData.eqv p q)
def dCmp (S : Sto) : CO → D → D → (D → Prop) → Prop
  | .eq, x, y, k => dEq S x y fun b => k (.bl b)
  | .ne, x, y, k => dEq S x y fun b => k (.bl !b)
  | .lt, .int i, .int j, k => k (.bl (decide (i < j)))
  | .le, .int i, .int j, k => k (.bl (decide (i ≤ j)))
  | .gt, .int i, .int j, k => k (.bl (decide (j < i)))
  | .ge, .int i, .int j, k => k (.bl (decide (j ≤ i)))
  | .isN, x, .non, k => k (.bl (match x with | .non => true | _ => false))
  | .notN, x, .non, k => k (.bl (match x with | .non => false | _ => true))
  | .inn, .int i, .tup xs, k => ∃ ns : List Int, xs = ns.map .int ∧ k (.bl (decide (i ∈ ns)))
  | .nin, .int i, .tup xs, k => ∃ ns : List Int, xs = ns.map .int ∧ k (.bl (!decide (i ∈ ns)))
  | _, _, _, _ => False
def dTru (S : Sto) (x : D) (k : Bool → Prop) : Prop := match x with
  | .non => k false | .bl b => k b | .int i => k (decide (i ≠ 0)) | .str x => x.length ≤ LIM ∧ k (decide ((x.length : Int) ≠ 0))
  | .tup xs => k (!xs.isEmpty) | .lst xs => k (!xs.isEmpty) | .scr xs => k (!xs.isEmpty)
  | .ref a => ∃ xs, S a = some xs ∧ k (!xs.isEmpty)
  | .dct _ => False
def dBi (b : BI) (ds : List D) (S : Sto) (k : D → Sto → Prop) : Prop := match b, ds with
  | .abs, [.int i] => k (.int (if i < 0 then -i else i)) S
  | .len, [.tup xs] => k (.int xs.length) S
  | .len, [.lst xs] => k (.int xs.length) S
  | .len, [.scr xs] => k (.int xs.length) S
  | .len, [.str x] => x.length ≤ LIM ∧ k (.int x.length) S
  | .len, [.ref a] => ∃ xs, S a = some xs ∧ k (.int xs.length) S
  | .int, [.int i] => k (.int i) S
  | .int, [.bl b] => k (.int (if b then 1 else 0)) S
  | .tuple, [.tup xs] => k (.tup xs) S
  | .tuple, [.lst xs] => k (.tup xs) S
  | .tuple, [.ref a] => ∃ xs, S a = some xs ∧ k (.tup xs) S
  | .sum, [.lst xs] => ∃ ns : List Int, xs = ns.map D.int ∧ k (.int ns.sum) S
  | .max, [.lst xs] => ∃ ns : List Int, xs = ns.map D.int ∧ 0 < ns.length ∧ ∀ m, m ∈ ns → (∀ y, y ∈ ns → y ≤ m) → k (.int m) S
  | .min, [.lst xs] => ∃ ns : List Int, xs = ns.map D.int ∧ 0 < ns.length ∧ ∀ m, m ∈ ns → (∀ y, y ∈ ns → m ≤ y) → k (.int m) S
  | .max, [.int i, .int j] => k (.int (if j > i then j else i)) S
  | .min, [.int i, .int j] => k (.int (if j < i then j else i)) S
  | .list mu, [.tup xs] => if mu then ∀ a, S a = none → k (.ref a) (S.put a xs) else k (.lst xs) S
  | .list mu, [.scr xs] => if mu then ∀ a, S a = none → k (.ref a) (S.put a xs) else k (.lst xs) S
  | .list mu, [.lst xs] => if mu then ∀ a, S a = none → k (.ref a) (S.put a xs) else k (.lst xs) S
  | _, _ => False
def dIsi (S : Sto) (x : D) (t : TN) (k : Bool → Prop) : Prop := match x with
  | .non => k false
  | .bl _ => k (decide (t = .int ∨ t = .bool))
  | .int _ => k (decide (t = .int))
  | .str _ => k (decide (t = .str))
  | .tup _ => k (decide (t = .tuple))
  | .lst _ => k false
  | .scr _ => k false
  | .ref a => ∃ xs, S a = some xs ∧ k false
  | .dct _ => False
def dIx (S : Sto) (x i : D) (k : D → Prop) : Prop := match x, i with
  | .tup xs, .int i => ∃ d, atI xs i = some d ∧ k d
  | .lst xs, .int i => ∃ d, atI xs i = some d ∧ k d
  | .scr xs, .int i => ∃ d, atI xs i = some d ∧ k d
  | .ref a, .int i => ∃ xs d, S a = some xs ∧ atI xs i = some d ∧ k d
  | _, _ => False
def cutD {α : Type} (xs : List α) (lo hi : Option Int) : List α := (xs.drop (HT.sIx xs.length 0 lo)).take (HT.sIx xs.length xs.length hi - HT.sIx xs.length 0 lo)
def dSl (S : Sto) (x : D) (lo hi : Option Int) (k : D → Prop) : Prop := match x with
  | .tup xs => k (.tup (cutD xs lo hi))
  | .lst xs => k (.lst (cutD xs lo hi))
  | .scr xs => k (.lst (cutD xs lo hi))
  | .ref a => ∃ xs, S a = some xs ∧ k (.lst (cutD xs lo hi))
  | _ => False
def dMeth (m : LM) (x : D) (ds : List D) (S : Sto) (k : D → Sto → Prop) : Prop := match m, x, ds with
  | .append, .ref a, [d] => ∃ xs, S a = some xs ∧ xs.length < LIM ∧ k .non (S.put a (xs ++ [d]))
  | .pop, .ref a, [] => ∃ xs d, S a = some xs ∧ xs[xs.length - 1]? = some d ∧ k d (S.put a xs.dropLast)
  | .pop, .ref a, [.int i] => ∃ xs d j, S a = some xs ∧ (-(2 ^ 63) ≤ i ∧ i < 2 ^ 63) ∧ seqIndex? i xs.length = some j ∧ xs[j]? = some d ∧ k d (S.put a (xs.eraseIdx j))
  | .reverse, .ref a, [] => ∃ xs, S a = some xs ∧ k .non (S.put a xs.reverse)
  | _, _, _ => False
def dRef (S : Sto) (x : D) : Prop := match x with
  | .ref a => ∃ xs, S a = some xs
  | _ => False
def dSet (x i d : D) (S : Sto) (k : Sto → Prop) : Prop := match x, i with
  | .ref a, .int i => ∃ xs j, S a = some xs ∧ ixN xs.length i = some j ∧ k (S.put a (xs.set j d))
  | _, _ => False
/-! ### dicts: keys and values by turns; keys are tuples of whole numbers and of such tuples -/
mutual
def keyOf : D → Option NestedKey
  | .int i => some (.num i)
  | .tup xs => (keysOf xs).map .tup
  | .non => none | .bl _ => none | .str _ => none | .lst _ => none | .scr _ => none | .ref _ => none | .dct _ => none
def keysOf : List D → Option (List NestedKey)
  | [] => some []
  | x :: xs => match keyOf x, keysOf xs with
    | some k, some ks => some (k :: ks)
    | _, _ => none
end
def dFind (k : NestedKey) : List D → Option D
  | a :: b :: r => if keyOf a = some k then some b else dFind k r
  | _ => none
def dStore (a : D) (k : NestedKey) (b : D) : List D → List D
  | a' :: b' :: r => if keyOf a' = some k then a' :: b :: r else a' :: b' :: dStore a k b r
  | _ => [a, b]
def dKeys : List D → List D
  | a :: _ :: r => a :: dKeys r
  | _ => []
def KeyOk (d : D) (k : NestedKey) : Prop := (∃ xs, d = .tup xs) ∧ keyOf d = some k ∧ k.depth ≤ 8
def dGet (S : Sto) (x y : D) (Q : D → Prop) : Prop := match x with
  | .dct a => ∃ xs k d, S a = some xs ∧ KeyOk y k ∧ dFind k xs = some d ∧ Q d
  | _ => False
def dGetO (S : Sto) (x y z : D) (Q : D → Prop) : Prop := match x with
  | .dct a => ∃ xs k, S a = some xs ∧ KeyOk y k ∧ Q ((dFind k xs).getD z)
  | _ => False
def dPut (x y d : D) (S : Sto) (Q : Sto → Prop) : Prop := match x with
  | .dct a => ∃ xs k, S a = some xs ∧ KeyOk y k ∧ xs.length ≤ 1000 ∧ Q (S.put a (dStore y k d xs))
  | _ => False
def dRefD (S : Sto) (x : D) : Prop := match x with
  | .dct a => ∃ xs, S a = some xs
  | _ => False
/-- a plane: whole numbers and one more -/
def plD (as : List Int) (b : Int) : D := .tup [.tup (as.map .int), .int b]
/-- the order of rows of whole numbers -/
def lexLe : List Int → List Int → Prop
  | [], _ => True
  | _ :: _, [] => False
  | a :: as, b :: bs => a < b ∨ (a = b ∧ lexLe as bs)
def dSort (S : Sto) (x : D) (Q : D → Prop) : Prop := match x with
  | .dct a => ∃ xs n, ∃ ks : List (List Int × Int), S a = some xs ∧ dKeys xs = ks.map (fun k => plD k.1 k.2) ∧ ks.length < 64 ∧ (∀ k ∈ ks, k.1.length = n) ∧
      ∀ ps : List (List Int × Int), ps.Perm ks → ps.Pairwise (fun x y => lexLe (x.1 ++ [x.2]) (y.1 ++ [y.2])) → Q (.lst (ps.map fun k => plD k.1 k.2))
  | .lst xs => ∃ n, ∃ ks : List (List Int × Int), xs = ks.map (fun k => plD k.1 k.2) ∧ ks.length < 64 ∧ (∀ k ∈ ks, k.1.length = n) ∧
      ∀ ps : List (List Int × Int), ps.Perm ks → ps.Pairwise (fun x y => lexLe (x.1 ++ [x.2]) (y.1 ++ [y.2])) → Q (.lst (ps.map fun k => plD k.1 k.2))
  | _ => False
/-- the keys, as a list -/
def dList (S : Sto) (x : D) (Q : D → Prop) : Prop := match x with
  | .dct a => ∃ xs, S a = some xs ∧ xs.length ≤ 1000 ∧ Q (.lst (dKeys xs))
  | _ => False
def RngOk (a b : Int) : Prop := -(2 ^ 62) ≤ a ∧ a < 2 ^ 62 ∧ -(2 ^ 62) ≤ b ∧ b < 2 ^ 62
@[irreducible] def rangeD (a b : Int) : List D := (List.range (b - a).toNat).map fun (k : Nat) => .int (a + k)
def dTrng (x : D) (Q : D → Prop) : Prop := match x with
  | .int i => 0 ≤ i ∧ i ≤ LIM ∧ Q (.tup (rangeD 0 i))
  | _ => False
/-- binding a target -/
def bindT : TT' → D → Rho → (Rho → Prop) → Prop
  | .n i, d, ρ, k => k (ρ.set i (some d))
  | .t a, .tup xs, ρ, k => bindTs a xs ρ k
  | _, _, _, _ => False
where bindTs : TT' → List D → Rho → (Rho → Prop) → Prop
  | .nil, [], ρ, k => k ρ
  | .cons a b, x :: xs, ρ, k => bindT a x ρ fun ρ' => bindTs b xs ρ' k
  | _, _, _, _ => False
def wipeD (ρ : Rho) : List Nat → Rho
  | [] => ρ
  | v :: vs => (wipeD ρ vs).set v none

/-! ### what a text asks -/
abbrev Fns := Nat → List D → Sto → (D → Sto → Prop) → Prop
/-- the module: its constants, the places of keywords' arguments -/
structure Mod' where
  consts : List D
  kps : List (Nat × Nat × List Nat)
def permD {α : Type} (p : List Nat) (xs : List α) : List α := p.filterMap fun i => xs[i]?
/-- n arguments by place, m by name, put in order -/
def arr {α : Type} (n m : Nat) (p : List Nat) (us ws : List α) : List α := if us.length = n ∧ ws.length = m then permD p (us ++ ws) else []
/-- a comprehension's turns -/
def compL (bind : D → (Rho → Prop) → Prop) (test : Rho → Sto → (Bool → Sto → Prop) → Prop) (elt : Rho → Sto → (D → Sto → Prop) → Prop) (stay : Sto → Prop) (fin : List D → Sto → Prop) : List D → List D → Sto → Prop
  | [], acc, S => stay S ∧ fin acc S
  | x :: xs, acc, S => stay S ∧ acc.length < LIM ∧ bind x fun ρ => test ρ S fun b S1 => if b = true then elt ρ S1 fun d S2 => compL bind test elt stay fin xs (acc ++ [d]) S2 else compL bind test elt stay fin xs acc S1
/-- a bool, or a number, as truth -/
def dTv : D → Bool → Prop
  | .bl b, c => c = b
  | .int i, c => c = decide (i ≠ 0)
  | _, _ => False
/-- all (any) of a generator's turns -/
def allL (any : Bool) (bind : D → (Rho → Prop) → Prop) (test : Rho → Sto → (Bool → Sto → Prop) → Prop) (elt : Rho → Sto → (D → Sto → Prop) → Prop) (stay : Sto → Prop) (fin : Bool → Sto → Prop) : List D → Sto → Prop
  | [], S => stay S ∧ fin (!any) S
  | x :: xs, S => stay S ∧ bind x fun ρ => test ρ S fun b S1 => if b = true then elt ρ S1 fun d S2 => ∃ c, dTv d c ∧ if c = any then fin any S2 else allL any bind test elt stay fin xs S2 else allL any bind test elt stay fin xs S1
/-- the sum of a generator's turns -/
def sumL (bind : D → (Rho → Prop) → Prop) (test : Rho → Sto → (Bool → Sto → Prop) → Prop) (elt : Rho → Sto → (D → Sto → Prop) → Prop) (stay : Sto → Prop) (fin : Int → Sto → Prop) : List D → Int → Sto → Prop
  | [], n, S => stay S ∧ fin n S
  | x :: xs, n, S => stay S ∧ bind x fun ρ => test ρ S fun b S1 => if b = true then elt ρ S1 fun d S2 => ∃ j, d = .int j ∧ sumL bind test elt stay fin xs (n + j) S2 else sumL bind test elt stay fin xs n S1
/-- the items with their numbers -/
def enumD : Nat → List D → List D
  | _, [] => []
  | n, x :: xs => .tup [.int (n : Nat), x] :: enumD (n + 1) xs
section
/-- a list that is read -/
def lsOf (S : Sto) : D → Option (List D)
  | .lst xs => some xs
  | .ref a => S a
  | _ => none
/-- two lists one behind the other, in a list that is changed later -/
def dCat (x y : D) (S : Sto) (Q : D → Sto → Prop) : Prop := ∃ xs ys, lsOf S x = some xs ∧ lsOf S y = some ys ∧ xs.length + ys.length ≤ LIM ∧ ∀ p, S p = none → Q (.ref p) (S.put p (xs ++ ys))
/-- a list so many times, in a list that is changed later -/
def dRep (x y : D) (S : Sto) (Q : D → Sto → Prop) : Prop := match x, y with
  | .lst xs, .int n => (-(2 ^ 63) ≤ n ∧ n < 2 ^ 63 ∧ xs.length * n.toNat ≤ LIM) ∧ ∀ p, S p = none → Q (.ref p) (S.put p (List.replicate n.toNat xs).flatten)
  | _, _ => False
variable (X : Mod') (G : Fns)
mutual
def wE : M → Rho → Sto → (D → Sto → Prop) → Prop
  | .v i, ρ, S, Q => ∃ d, ρ[i]? = some (some d) ∧ Q d S
  | .c x, _, S, Q => Q x.d S
  | .g i, _, S, Q => ∃ d, X.consts[i]? = some d ∧ Q d S
  | .tup a, ρ, S, Q => wL a ρ S fun ds S1 => ds.length ≤ LIM ∧ Q (.tup ds) S1
  | .lst mu a, ρ, S, Q => wL a ρ S fun ds S1 => ds.length ≤ LIM ∧ if mu = true then ∀ p, S1 p = none → Q (.ref p) (S1.put p ds) else Q (.lst ds) S1
  | .bin o a b, ρ, S, Q => wE a ρ S fun x S1 => wE b ρ S1 fun y S2 => dBin o x y fun z => Q z S2
  | .cat a b, ρ, S, Q => wE a ρ S fun x S1 => wE b ρ S1 fun y S2 => dCat x y S2 Q
  | .rep a b, ρ, S, Q => wE a ρ S fun x S1 => wE b ρ S1 fun y S2 => dRep x y S2 Q
  | .neg a, ρ, S, Q => wE a ρ S fun x S1 => ∃ i, x = .int i ∧ Q (.int (-i)) S1
  | .not a, ρ, S, Q => wE a ρ S fun x S1 => dTru S1 x fun b => Q (.bl !b) S1
  | .cmp o a b, ρ, S, Q => wE a ρ S fun x S1 => wE b ρ S1 fun y S2 => dCmp S2 o x y fun z => Q z S2
  | .chain o o' a b c, ρ, S, Q => wE a ρ S fun x S1 => wE b ρ S1 fun y S2 => dCmp S2 o x y fun z => ∃ k, z = .bl k ∧ if k = true then wE c ρ S2 fun u S3 => dCmp S3 o' y u fun z' => Q z' S3 else Q (.bl false) S2
  | .and a b, ρ, S, Q => wE a ρ S fun x S1 => ∃ c, x = .bl c ∧ if c = true then wE b ρ S1 Q else Q (.bl false) S1
  | .or a b, ρ, S, Q => wE a ρ S fun x S1 => ∃ c, x = .bl c ∧ if c = true then Q (.bl true) S1 else wE b ρ S1 Q
  | .ite c a b, ρ, S, Q => wT c ρ S fun t S1 => if t = true then wE a ρ S1 Q else wE b ρ S1 Q
  | .call f a, ρ, S, Q => wL a ρ S fun ds S1 => G f ds S1 Q
  | .callK f a ks kp, ρ, S, Q => wL a ρ S fun ds S1 => wL ks ρ S1 fun es S2 => ∃ n m p, X.kps[kp]? = some (n, m, p) ∧ G f (arr n m p ds es) S2 Q
  | .bi b a, ρ, S, Q => wL a ρ S fun ds S1 => dBi b ds S1 Q
  | .isi a t, ρ, S, Q => wE a ρ S fun x S1 => dIsi S1 x t fun b => Q (.bl b) S1
  | .ix a i, ρ, S, Q => wE a ρ S fun x S1 => wE i ρ S1 fun y S2 => dIx S2 x y fun z => Q z S2
  | .sl a lo hi, ρ, S, Q => wE a ρ S fun x S1 => wO lo ρ S1 fun l S2 => wO hi ρ S2 fun h S3 => dSl S3 x l h fun z => Q z S3
  | .lc mu own tg elt it cond, ρ, S, Q => wI it ρ S fun xs stay S1 =>
      compL (fun d k => bindT tg d (wipeD ρ own) k) (fun ρ' S' k => wT cond ρ' S' k) (fun ρ' S' k => wE elt ρ' S' k) stay (fun acc S' => if mu = true then ∀ p, S' p = none → Q (.ref p) (S'.put p acc) else Q (.lst acc) S') xs [] S1
  | .gall any own tg elt it cond, ρ, S, Q => wI it ρ S fun xs stay S1 =>
      allL any (fun d k => bindT tg d (wipeD ρ own) k) (fun ρ' S' k => wT cond ρ' S' k) (fun ρ' S' k => wE elt ρ' S' k) stay (fun b S' => Q (.bl b) S') xs S1
  | .gsum own tg elt it cond, ρ, S, Q => wI it ρ S fun xs stay S1 =>
      sumL (fun d k => bindT tg d (wipeD ρ own) k) (fun ρ' S' k => wT cond ρ' S' k) (fun ρ' S' k => wE elt ρ' S' k) stay (fun n S' => Q (.int n) S') xs 0 S1
  | .dnew, _, S, Q => ∀ p, S p = none → Q (.dct p) (S.put p [])
  | .dget a i, ρ, S, Q => wE a ρ S fun x S1 => wE i ρ S1 fun y S2 => dGet S2 x y fun z => Q z S2
  | .dgeto a i u, ρ, S, Q => wE a ρ S fun x S1 => dRefD S1 x ∧ wE i ρ S1 fun y S2 => wE u ρ S2 fun z S3 => dGetO S3 x y z fun d => Q d S3
  | .dsort a, ρ, S, Q => wE a ρ S fun x S1 => dSort S1 x fun z => Q z S1
  | .dlist a, ρ, S, Q => wE a ρ S fun x S1 => dList S1 x fun z => Q z S1
  | .trng a, ρ, S, Q => wE a ρ S fun x S1 => dTrng x fun z => Q z S1
  | .meth m o a, ρ, S, Q => wE o ρ S fun x S1 => dRef S1 x ∧ wL a ρ S1 fun ds S2 => dMeth m x ds S2 Q
  | _, _, _, _ => False
def wL : M → Rho → Sto → (List D → Sto → Prop) → Prop
  | .nil, _, S, Q => Q [] S
  | .cons a b, ρ, S, Q => wE a ρ S fun d S1 => wL b ρ S1 fun ds S2 => Q (d :: ds) S2
  | _, _, _, _ => False
/-- as a test -/
def wT : M → Rho → Sto → (Bool → Sto → Prop) → Prop
  | .and a b, ρ, S, Q => wT a ρ S fun c S1 => if c = true then wT b ρ S1 Q else Q false S1
  | .or a b, ρ, S, Q => wT a ρ S fun c S1 => if c = true then Q true S1 else wT b ρ S1 Q
  | .not a, ρ, S, Q => wT a ρ S fun c S1 => Q (!c) S1
  | .cmp o a b, ρ, S, Q => wE a ρ S fun x S1 => wE b ρ S1 fun y S2 => dCmp S2 o x y fun z => ∃ k, z = .bl k ∧ Q k S2
  | .chain o o' a b c, ρ, S, Q => wE a ρ S fun x S1 => wE b ρ S1 fun y S2 => dCmp S2 o x y fun z => ∃ k, z = .bl k ∧ if k = true then wE c ρ S2 fun u S3 => dCmp S3 o' y u fun z' => ∃ k', z' = .bl k' ∧ Q k' S3 else Q false S2
  | .nil, _, S, Q => Q true S
  | .tv m, ρ, S, Q => wE m ρ S fun x S1 => dTru S1 x fun b => Q b S1
  | _, _, _, _ => False
/-- a slice's bound -/
def wO : M → Rho → Sto → (Option Int → Sto → Prop) → Prop
  | .nil, _, S, Q => Q none S
  | .so m, ρ, S, Q => wE m ρ S fun x S1 => ∃ i, x = .int i ∧ Q (some i) S1
  | _, _, _, _ => False
/-- what is walked: the items, and what must stay while it is walked -/
def wI : M → Rho → Sto → (List D → (Sto → Prop) → Sto → Prop) → Prop
  | .zip a b, ρ, S, Q => wE a ρ S fun x S1 => wE b ρ S1 fun y S2 => match x, y with
      | .tup xs, .tup ys => Q (List.zipWith (fun x y => .tup [x, y]) xs ys) (fun _ => True) S2
      | .lst xs, .lst ys => Q (List.zipWith (fun x y => .tup [x, y]) xs ys) (fun _ => True) S2
      | .tup xs, .lst ys => Q (List.zipWith (fun x y => .tup [x, y]) xs ys) (fun _ => True) S2
      | .lst xs, .tup ys => Q (List.zipWith (fun x y => .tup [x, y]) xs ys) (fun _ => True) S2
      | _, _ => False
  | .enum a, ρ, S, Q => wE a ρ S fun x S1 => match x with
      | .tup xs => Q (enumD 0 xs) (fun _ => True) S1
      | .lst xs => Q (enumD 0 xs) (fun _ => True) S1
      | _ => False
  | .rng a b, ρ, S, Q => wE a ρ S fun x S1 => wE b ρ S1 fun y S2 => ∃ i j, x = .int i ∧ y = .int j ∧ RngOk i j ∧ Q (rangeD i j) (fun _ => True) S2
  | .it m, ρ, S, Q => wE m ρ S fun x S1 => match x with
      | .tup xs => Q xs (fun _ => True) S1
      | .lst xs => Q xs (fun _ => True) S1
      | .scr xs => Q xs (fun _ => True) S1
      | .ref a => ∃ xs, S1 a = some xs ∧ Q xs (fun S2 => S2 a = some xs) S1
      | _ => False
  | _, _, _, _ => False
end
end

/-! ### statements -/
structure ED where
  nx : Rho → Sto → Prop
  rt : D → Sto → Prop
  bk : Rho → Sto → Prop
  ct : Rho → Sto → Prop
def whileN (t : Rho → Sto → (Bool → Sto → Prop) → Prop) (b : ED → Rho → Sto → Prop) (E : ED) : Nat → Rho → Sto → Prop
  | 0, _, _ => False
  | n + 1, ρ, S => t ρ S fun c S1 => if c = true then b { nx := whileN t b E n, ct := whileN t b E n, bk := E.nx, rt := E.rt } ρ S1 else E.nx ρ S1
def forL (bind : D → Rho → (Rho → Prop) → Prop) (b : ED → Rho → Sto → Prop) (stay : Sto → Prop) (E : ED) : List D → Rho → Sto → Prop
  | [], ρ, S => stay S ∧ E.nx ρ S
  | x :: xs, ρ, S => stay S ∧ bind x ρ fun ρ1 => b { nx := forL bind b stay E xs, ct := forL bind b stay E xs, bk := E.nx, rt := E.rt } ρ1 S
section
variable (X : Mod') (G : Fns)
def wC : C → ED → Rho → Sto → Prop
  | .done, E, ρ, S => E.nx ρ S
  | .seq a b, E, ρ, S => wC a { nx := fun ρ1 S1 => wC b E ρ1 S1, rt := E.rt, bk := E.bk, ct := E.ct } ρ S
  | .asg tg e, E, ρ, S => wE X G e ρ S fun d S1 => bindT tg d ρ fun ρ1 => E.nx ρ1 S1
  | .swap i j a b, E, ρ, S => wE X G a ρ S fun d S1 => wE X G b ρ S1 fun e S2 => E.nx ((ρ.set i (some d)).set j (some e)) S2
  | .swap3 i j l a b c, E, ρ, S => wE X G a ρ S fun d S1 => wE X G b ρ S1 fun e S2 => wE X G c ρ S2 fun f S3 => E.nx (((ρ.set i (some d)).set j (some e)).set l (some f)) S3
  | .augv i o e, E, ρ, S => ∃ x, ρ[i]? = some (some x) ∧ wE X G e ρ S fun y S1 => dAug o x y fun z => E.nx (ρ.set i (some z)) S1
  | .augs a i o e, E, ρ, S => wE X G a ρ S fun x S1 => wE X G i ρ S1 fun y S2 => dRef S2 x ∧ dIx S2 x y fun old => wE X G e ρ S2 fun z S3 => dAug o old z fun new => dSet x y new S3 fun S4 => E.nx ρ S4
  | .sets a i e, E, ρ, S => wE X G e ρ S fun z S1 => wE X G a ρ S1 fun x S2 => wE X G i ρ S2 fun y S3 => dSet x y z S3 fun S4 => E.nx ρ S4
  | .dput a i e, E, ρ, S => wE X G e ρ S fun z S1 => wE X G a ρ S1 fun x S2 => wE X G i ρ S2 fun y S3 => dPut x y z S3 fun S4 => E.nx ρ S4
  | .frz i, E, ρ, S => ∃ a xs, ρ[i]? = some (some (.ref a)) ∧ S a = some xs ∧ E.nx (ρ.set i (some (.lst xs))) (S.del a)
  | .ret e, E, ρ, S => wE X G e ρ S E.rt
  | .retN, E, _, S => E.rt .non S
  | .brk, E, ρ, S => E.bk ρ S
  | .cont, E, ρ, S => E.ct ρ S
  | .ex e, E, ρ, S => wE X G e ρ S fun _ S1 => E.nx ρ S1
  | .ite c a b, E, ρ, S => wT X G c ρ S fun t S1 => if t = true then wC a E ρ S1 else wC b E ρ S1
  | .whl c a, E, ρ, S => ∃ n, whileN (fun ρ S k => wT X G c ρ S k) (fun E ρ S => wC a E ρ S) E n ρ S
  | .for tg it a, E, ρ, S => wI X G it ρ S fun xs stay S1 => forL (fun d ρ k => bindT tg d ρ k) (fun E ρ S => wC a E ρ S) stay E xs ρ S1
end
/-- a def -/
structure FnD where
  ps : Nat
  slots : Nat
  body : C
def startD (n : Nat) (ds : List D) : Rho := ds.map some ++ List.replicate (n - ds.length) none
mutual
/-- lists that were changed become lists that nobody changes; others may be forgotten -/
inductive Frz (S S2 : Sto) : D → D → Prop
  | same (d : D) : Frz S S2 d d
  | ref {a : Addr} {xs ys : List D} : S a = some xs → S2 a = none → FrzL S S2 xs ys → Frz S S2 (.ref a) (.lst ys)
  | tup {xs ys : List D} : FrzL S S2 xs ys → Frz S S2 (.tup xs) (.tup ys)
  | lst {xs ys : List D} : FrzL S S2 xs ys → Frz S S2 (.lst xs) (.lst ys)
inductive FrzL (S S2 : Sto) : List D → List D → Prop
  | nil : FrzL S S2 [] []
  | cons {x y : D} {xs ys : List D} : Frz S S2 x y → FrzL S S2 xs ys → FrzL S S2 (x :: xs) (y :: ys)
end
theorem FrzL.refl {S S2 : Sto} : ∀ xs : List D, FrzL S S2 xs xs
  | [] => .nil
  | x :: xs => .cons (.same x) (FrzL.refl xs)
/-- what a def gives back -/
def Give (Q : D → Sto → Prop) : D → Sto → Prop := fun d S1 => ∃ S2 d2, Sub S2 S1 ∧ Frz S1 S2 d d2 ∧ Q d2 S2
theorem Give.same {Q : D → Sto → Prop} {d : D} {S : Sto} (h : Q d S) : Give Q d S := ⟨S, d, .refl _, .same d, h⟩
theorem Give.sub {Q : D → Sto → Prop} {d : D} {S S2 : Sto} (s : Sub S2 S) (h : Q d S2) : Give Q d S := ⟨S2, d, s, .same d, h⟩
def callD (X : Mod') (fs : List FnD) : Nat → Fns
  | 0, _, _, _, _ => False
  | k + 1, f, ds, S, Q => ∃ fd, fs[f]? = some fd ∧ ds.length = fd.ps ∧
      wC X (callD X fs k) fd.body { nx := fun _ S1 => Give Q .non S1, rt := Give Q, bk := fun _ _ => False, ct := fun _ _ => False } (startD fd.slots ds) S
end DL

set_option Elab.async false
set_option linter.all false
set_option maxRecDepth 100000
set_option maxHeartbeats 4000000
/-! DL2: how data stand in the heap. -/
namespace DL
open PySem PySem.Spec PyProof.Rows L2

section
variable {K : PySem.W.Frag} {tb : List Addr} {Z : Addr → Prop}
/-- keys and values by turns, the entries of a dict -/
inductive Mt : List D → List V → List (NestedKey × Addr × Value) → Prop
  | nil : Mt [] [] []
  | cons {d e : D} {p : Addr} {k : NestedKey} {v : V} {u : Value} {ds : List D} {vs : List V} {ts : List (NestedKey × Addr × Value)} : keyOf d = some k → k.depth ≤ 8 → RelV v u → Mt ds vs ts → Mt (d :: e :: ds) (.ref p :: v :: vs) ((k, p, u) :: ts)
/-- a dict stands here -/
def CellD (H : Hp) (a : Addr) (xs : List D) (vs : List V) : Prop := ∃ w ts, H a = some (dctO w a ts) ∧ a ≠ sysModules ∧ (ts.map (·.1)).Nodup ∧ Mt xs vs ts
theorem dct_not {H : Hp} {a : Addr} {w : World} {ts : List (NestedKey × Addr × Value)} (h : H a = some (dctO w a ts)) : ¬ LstH H a := fun ⟨vs, e⟩ => by rw [h] at e; exact nomatch (Option.some.inj e)
theorem DctH.not {H : Hp} {a : Addr} (h : DctH H a) : ¬ LstH H a := let ⟨_, _, e⟩ := h; dct_not e
/-- the lists and dicts that are changed stand -/
structure SRep (K : PySem.W.Frag) (Z : Addr → Prop) (S : Sto) (H : Hp) : Prop where
  at_ : ∀ a xs, S a = some xs → LstH H a → ∃ vs, H a = some (.lst vs) ∧ RepL K Z S H xs vs
  hid : ∀ a, Z a → (∃ o, H a = some (.lst o)) ∧ S a = none
  dt : ∀ a xs, S a = some xs → ¬ LstH H a → ∃ vs, CellD H a xs vs ∧ RepL K Z S H xs vs
/-- the code objects' tables stand -/
def Tabs (tb : List Addr) (H : Hp) : Prop := ∀ P ∈ tb, GxR.TabG H P
/-- what is behind: all that is not changed is as it was -/
structure Ext (S : Sto) (H : Hp) (S' : Sto) (H' : Hp) : Prop where
  keep : ∀ a o, H a = some o → S a = none → (∀ ps, o ≠ .tbl ps) → H' a = some o ∧ S' a = none
  ls : ∀ a, LstH H a → LstH H' a
  ds : ∀ a, DctH H a → DctH H' a
theorem Ext.refl {S : Sto} {H : Hp} : Ext S H S H := ⟨fun _ _ h n _ => ⟨h, n⟩, fun _ h => h, fun _ h => h⟩
theorem Ext.trans {S S1 S2 : Sto} {H H1 H2 : Hp} (a : Ext S H S1 H1) (b : Ext S1 H1 S2 H2) : Ext S H S2 H2 :=
  ⟨fun c o h n t => let ⟨h1, n1⟩ := a.keep c o h n t; b.keep c o h1 n1 t, fun c h => b.ls c (a.ls c h), fun c h => b.ds c (a.ds c h)⟩
/-- what stands at a place that is changed -/
theorem SRep.some_at {S : Sto} {H : Hp} (s : SRep K Z S H) {a : Addr} {xs : List D} (q : S a = some xs) : (∃ vs, H a = some (.lst vs)) ∨ DctH H a := by
  by_cases l : LstH H a
  · exact .inl l
  · obtain ⟨_, ⟨w, ts, h, _⟩, _⟩ := s.dt a xs q l
    exact .inr ⟨w, ts, h⟩
def SNo (S : Sto) (H : Hp) : Prop := ∀ a o, H a = some o → (∀ vs, o ≠ .lst vs) → (∀ φ, o ≠ .ext φ) → S a = none
theorem SRep.no {S : Sto} {H : Hp} (s : SRep K Z S H) {a : Addr} {o : HO} (e : H a = some o) (n : ∀ vs, o ≠ .lst vs) (n' : ∀ φ, o ≠ .ext φ) : S a = none := by
  cases q : S a with
  | none => rfl
  | some xs =>
    rcases s.some_at q with ⟨vs, h⟩ | ⟨w, ts, h⟩
    · rw [e] at h; exact absurd (Option.some.inj h) (n vs)
    · rw [e] at h; exact absurd (Option.some.inj h) (n' _)
theorem SRep.sno {S : Sto} {H : Hp} (s : SRep K Z S H) : SNo S H := fun _ _ e n n' => s.no e n n'
theorem SRep.free {S : Sto} {H : Hp} (s : SRep K Z S H) {a : Addr} (e : H a = none) : S a = none := by
  cases q : S a with
  | none => rfl
  | some xs =>
    rcases s.some_at q with ⟨vs, h⟩ | ⟨w, ts, h⟩ <;> (rw [e] at h; cases h)
theorem sqT_extN {S S' : Sto} {H H' : Hp} (s : SNo S H) (x : Ext S H S' H') {a : Addr} {vs : List V} (h : SqT K H a vs) : SqT K H' a vs := by
  rcases h with (h | ⟨o, h⟩) | h
  · exact .inl (.inl (x.keep a _ h (s _ _ h (fun vs e => by cases e) fun φ e => by cases e) fun ps e => by cases e).1)
  · exact .inl (.inr ⟨o, (x.keep a _ h (s _ _ h (fun vs e => by cases e) fun φ e => by cases e) fun ps e => by cases e).1⟩)
  · exact .inr h
theorem ScrV.extN {S S' : Sto} {H H' : Hp} (s : SNo S H) (x : Ext S H S' H') {a : Addr} {vs : List V} : ScrV K H a vs → ScrV K H' a vs
  | .frz o h => .frz o (x.keep a _ h (s _ _ h (fun vs e => by cases e) fun φ e => by cases e) fun ps e => by cases e).1
  | .txt o its n h1 h2 h3 h4 h5 h6 => .txt o its n h1 h2 h3 h4 h5 h6
mutual
theorem Rep.extN {S S' : Sto} {H H' : Hp} (s : SNo S H) (x : Ext S H S' H') : ∀ {d : D} {v : V}, Rep K Z S H d v → Rep K Z S' H' d v
  | _, _, .non => .non
  | _, _, .bl b => .bl b
  | _, _, .int i => .int i
  | _, _, .str z => .str z
  | _, _, .tup h r => .tup (sqT_extN s x h) (RepL.extN s x r)
  | _, _, .lst h n nz r => let z := x.keep _ _ h n (fun ps e => by cases e); .lst z.1 z.2 nz (RepL.extN s x r)
  | _, _, .scr h r => .scr (h.extN s x) (RepL.extN s x r)
  | _, _, .ref l => .ref (x.ls _ l)
  | _, _, .dct l => .dct (x.ds _ l)
theorem RepL.extN {S S' : Sto} {H H' : Hp} (s : SNo S H) (x : Ext S H S' H') : ∀ {d : List D} {v : List V}, RepL K Z S H d v → RepL K Z S' H' d v
  | _, _, .nil => .nil
  | _, _, .cons h r => .cons (Rep.extN s x h) (RepL.extN s x r)
end
theorem sqT_ext {S S' : Sto} {H H' : Hp} (s : SRep K Z S H) (x : Ext S H S' H') {a : Addr} {vs : List V} (h : SqT K H a vs) : SqT K H' a vs := sqT_extN s.sno x h
theorem ScrV.ext {S S' : Sto} {H H' : Hp} {a : Addr} {vs : List V} (h : ScrV K H a vs) (s : SRep K Z S H) (x : Ext S H S' H') : ScrV K H' a vs := h.extN s.sno x
theorem Rep.ext {S S' : Sto} {H H' : Hp} {d : D} {v : V} (r : Rep K Z S H d v) (s : SRep K Z S H) (x : Ext S H S' H') : Rep K Z S' H' d v := r.extN s.sno x
theorem RepL.ext {S S' : Sto} {H H' : Hp} {d : List D} {v : List V} (r : RepL K Z S H d v) (s : SRep K Z S H) (x : Ext S H S' H') : RepL K Z S' H' d v := r.extN s.sno x
theorem RepL.length {S : Sto} {H : Hp} : ∀ {d : List D} {v : List V}, RepL K Z S H d v → d.length = v.length
  | _, _, .nil => rfl
  | _, _, .cons _ r => by rw [List.length_cons, List.length_cons, RepL.length r]
theorem RepL.get {S : Sto} {H : Hp} : ∀ {ds : List D} {vs : List V} {i : Nat} {d : D}, RepL K Z S H ds vs → ds[i]? = some d → ∃ v, vs[i]? = some v ∧ Rep K Z S H d v
  | _, _, i, _, .nil, e => by simp at e
  | _, _, 0, _, .cons r _, e => by simp at e; subst e; exact ⟨_, rfl, r⟩
  | _, _, i + 1, _, .cons _ t, e => by
    obtain ⟨v, h1, h2⟩ := RepL.get (i := i) t (by simpa using e)
    exact ⟨v, by simpa using h1, h2⟩
theorem RepL.get' {S : Sto} {H : Hp} : ∀ {ds : List D} {vs : List V} {i : Nat} {v : V}, RepL K Z S H ds vs → vs[i]? = some v → ∃ d, ds[i]? = some d ∧ Rep K Z S H d v
  | _, _, i, _, .nil, e => by simp at e
  | _, _, 0, _, .cons r _, e => by simp at e; subst e; exact ⟨_, rfl, r⟩
  | _, _, i + 1, _, .cons _ t, e => by
    obtain ⟨v, h1, h2⟩ := RepL.get' (i := i) t (by simpa using e)
    exact ⟨v, by simpa using h1, h2⟩
theorem RepL.append {S : Sto} {H : Hp} : ∀ {ds es : List D} {vs ws : List V}, RepL K Z S H ds vs → RepL K Z S H es ws → RepL K Z S H (ds ++ es) (vs ++ ws)
  | _, _, _, _, .nil, s => s
  | _, _, _, _, .cons r t, s => .cons r (RepL.append t s)
theorem RepL.take {S : Sto} {H : Hp} : ∀ {ds : List D} {vs : List V} (n : Nat), RepL K Z S H ds vs → RepL K Z S H (ds.take n) (vs.take n)
  | _, _, 0, _ => by simp; exact .nil
  | _, _, _ + 1, .nil => .nil
  | _, _, n + 1, .cons r t => .cons r (RepL.take n t)
theorem RepL.drop {S : Sto} {H : Hp} : ∀ {ds : List D} {vs : List V} (n : Nat), RepL K Z S H ds vs → RepL K Z S H (ds.drop n) (vs.drop n)
  | _, _, 0, r => by simpa using r
  | _, _, _ + 1, .nil => .nil
  | _, _, n + 1, .cons _ t => RepL.drop n t
theorem RepL.reverse {S : Sto} {H : Hp} : ∀ {ds : List D} {vs : List V}, RepL K Z S H ds vs → RepL K Z S H ds.reverse vs.reverse
  | _, _, .nil => .nil
  | _, _, .cons r t => by rw [List.reverse_cons, List.reverse_cons]; exact (RepL.reverse t).append (.cons r .nil)
theorem RepL.set {S : Sto} {H : Hp} {d : D} {v : V} (r : Rep K Z S H d v) : ∀ {ds : List D} {vs : List V} (i : Nat), RepL K Z S H ds vs → RepL K Z S H (ds.set i d) (vs.set i v)
  | _, _, _, .nil => .nil
  | _, _, 0, .cons _ t => .cons r t
  | _, _, i + 1, .cons q t => .cons q (RepL.set r i t)
theorem RepL.dropLast {S : Sto} {H : Hp} {ds : List D} {vs : List V} (r : RepL K Z S H ds vs) : RepL K Z S H ds.dropLast vs.dropLast := by
  rw [List.dropLast_eq_take, List.dropLast_eq_take, r.length]; exact r.take _
theorem RepL.eraseIdx {S : Sto} {H : Hp} : ∀ {ds : List D} {vs : List V}, RepL K Z S H ds vs → ∀ i : Nat, RepL K Z S H (ds.eraseIdx i) (vs.eraseIdx i)
  | _, _, .nil, _ => .nil
  | _, _, .cons _ t, 0 => t
  | _, _, .cons q t, i + 1 => .cons q (RepL.eraseIdx t i)
theorem RepL.snoc {S : Sto} {H : Hp} {ds : List D} {vs : List V} {d : D} {v : V} (r : RepL K Z S H ds vs) (q : Rep K Z S H d v) : RepL K Z S H (ds ++ [d]) (vs ++ [v]) := r.append (.cons q .nil)
theorem RepL.cut {S : Sto} {H : Hp} {ds : List D} {vs : List V} (r : RepL K Z S H ds vs) (lo hi : Option Int) : RepL K Z S H (cutD ds lo hi) (cutV vs lo hi) := by
  unfold cutD cutV; rw [r.length]; exact (r.drop _).take _
theorem RepL.rep {S : Sto} {H : Hp} {ds : List D} {vs : List V} (r : RepL K Z S H ds vs) : ∀ n : Nat, RepL K Z S H (List.replicate n ds).flatten (List.replicate n vs).flatten
  | 0 => .nil
  | n + 1 => by rw [List.replicate_succ, List.replicate_succ, List.flatten_cons, List.flatten_cons]; exact r.append (r.rep n)
theorem RepL.filterMap {S : Sto} {H : Hp} {ds : List D} {vs : List V} (r : RepL K Z S H ds vs) : ∀ p : List Nat, RepL K Z S H (permD p ds) (permD p vs)
  | [] => .nil
  | i :: p => by
    have ih := r.filterMap p
    unfold permD at ih ⊢
    rw [List.filterMap_cons, List.filterMap_cons]
    cases e : ds[i]? with
    | none =>
      have : vs[i]? = none := by
        rw [List.getElem?_eq_none_iff] at e ⊢; rw [← r.length]; exact e
      rw [this]; exact ih
    | some d =>
      obtain ⟨v, h1, h2⟩ := r.get e
      rw [h1]; exact .cons h2 ih
theorem LstH.upd {H : Hp} {p a : Addr} {o : HO} (h : H p = none) (l : LstH H a) : LstH (upd H p o) a := let ⟨vs, e⟩ := l; ⟨vs, by rw [upd_ne (ne_of_none e h)]; exact e⟩
theorem DctH.upd {H : Hp} {p a : Addr} {o : HO} (h : H p = none) (l : DctH H a) : DctH (upd H p o) a := let ⟨w, ts, e⟩ := l; ⟨w, ts, by rw [upd_ne (ne_of_none e h)]; exact e⟩
theorem LstH.ne {H : Hp} {p a : Addr} {o : HO} (q : a ≠ p) (l : LstH (L2.upd H p o) a) : LstH H a := let ⟨vs, e⟩ := l; ⟨vs, by rw [upd_ne q] at e; exact e⟩
theorem CellD.ne {H : Hp} {p a : Addr} {o : HO} {xs : List D} {vs : List V} (q : a ≠ p) (l : CellD H a xs vs) : CellD (L2.upd H p o) a xs vs := let ⟨w, ts, e, r⟩ := l; ⟨w, ts, by rw [upd_ne q]; exact e, r⟩
/-- a new thing is laid -/
theorem Ext.new {S : Sto} {H : Hp} {p : Addr} {o : HO} (h : H p = none) : Ext S H S (upd H p o) := ⟨fun a u e n _ => ⟨by rw [upd_ne (ne_of_none e h)]; exact e, n⟩, fun _ l => l.upd h, fun _ l => l.upd h⟩
theorem SRep.ne {S : Sto} {H : Hp} (s : SRep K Z S H) {p a : Addr} {xs : List D} (h : H p = none) (e : S a = some xs) : a ≠ p := fun z => by
  rw [z, s.free h] at e; cases e
theorem SRep.new {S : Sto} {H : Hp} {p : Addr} {o : HO} (s : SRep K Z S H) (h : H p = none) : SRep K Z S (upd H p o) := ⟨fun a xs e l => by
  have q := s.ne h e
  obtain ⟨vs, h1, r⟩ := s.at_ a xs e (l.ne q)
  exact ⟨vs, by rw [upd_ne q]; exact h1, r.ext s (Ext.new h)⟩, fun a z => by
  obtain ⟨⟨o, e⟩, n⟩ := s.hid a z
  exact ⟨⟨o, by rw [upd_ne (ne_of_none e h)]; exact e⟩, n⟩, fun a xs e l => by
  have q := s.ne h e
  obtain ⟨vs, c, r⟩ := s.dt a xs e fun l' => l (l'.upd h)
  exact ⟨vs, c.ne q, r.ext s (Ext.new h)⟩⟩
theorem SRep.nz {S : Sto} {H : Hp} {p : Addr} (s : SRep K Z S H) (h : H p = none) : ¬ Z p := fun z => by
  obtain ⟨⟨o, e⟩, n⟩ := s.hid p z
  rw [h] at e; cases e
theorem Tabs.new {H : Hp} {p : Addr} {o : HO} (t : Tabs tb H) (h : H p = none) : Tabs tb (upd H p o) := fun P hP => by
  obtain ⟨ps, e, ok⟩ := t P hP
  exact ⟨ps, by rw [upd_ne (ne_of_none e h)]; exact e, ok⟩
/-- one place written -/
theorem SRep.puts {S : Sto} {H : Hp} {p : Addr} {o : HO} {xs : List D} (s : SRep K Z S H) (x : Ext S H (S.put p xs) (upd H p o)) (np : ∀ ws, H p = some (.lst ws) → S p ≠ none)
    (hl : LstH (upd H p o) p → ∃ vs, o = .lst vs ∧ RepL K Z (S.put p xs) (upd H p o) xs vs) (hd : ¬ LstH (upd H p o) p → ∃ vs, CellD (upd H p o) p xs vs ∧ RepL K Z (S.put p xs) (upd H p o) xs vs) : SRep K Z (S.put p xs) (upd H p o) := ⟨fun a ys e l => by
  by_cases q : a = p
  · subst q
    rw [Sto.put_same] at e; cases e
    obtain ⟨vs, eo, r⟩ := hl l
    exact ⟨vs, by rw [upd_same, eo], r⟩
  · rw [Sto.put_ne q] at e
    obtain ⟨ws, h1, r1⟩ := s.at_ a ys e (l.ne q)
    exact ⟨ws, by rw [upd_ne q]; exact h1, r1.ext s x⟩, fun a z => by
  obtain ⟨⟨o, e⟩, n⟩ := s.hid a z
  have q : a ≠ p := by rintro rfl; exact np _ e n
  exact ⟨⟨o, by rw [upd_ne q]; exact e⟩, by rw [Sto.put_ne q]; exact n⟩, fun a ys e l => by
  by_cases q : a = p
  · subst q
    rw [Sto.put_same] at e; cases e
    exact hd l
  · rw [Sto.put_ne q] at e
    obtain ⟨ws, h1, r1⟩ := s.dt a ys e fun l' => l (let ⟨vs, e'⟩ := l'; ⟨vs, by rw [upd_ne q]; exact e'⟩)
    exact ⟨ws, h1.ne q, r1.ext s x⟩⟩
/-- a new list that is changed later -/
theorem Ext.newS {S : Sto} {H : Hp} {p : Addr} {o : HO} {xs : List D} (h : H p = none) : Ext S H (S.put p xs) (upd H p o) :=
  ⟨fun a u e n _ => ⟨by rw [upd_ne (ne_of_none e h)]; exact e, by rw [Sto.put_ne (ne_of_none e h)]; exact n⟩, fun _ l => l.upd h, fun _ l => l.upd h⟩
theorem SRep.newS {S : Sto} {H : Hp} {p : Addr} {xs : List D} {vs : List V} (s : SRep K Z S H) (h : H p = none) (r : RepL K Z S H xs vs) : SRep K Z (S.put p xs) (upd H p (.lst vs)) :=
  s.puts (Ext.newS h) (fun ws e => by rw [h] at e; cases e) (fun _ => ⟨vs, rfl, r.ext s (Ext.newS h)⟩) (fun n => absurd ⟨vs, upd_same⟩ n)
/-- a new dict -/
theorem SRep.newD {S : Sto} {H : Hp} {p : Addr} {w : World} (s : SRep K Z S H) (h : H p = none) (np : p ≠ sysModules) : SRep K Z (S.put p []) (upd H p (dctO w p [])) :=
  s.puts (Ext.newS h) (fun ws e => by rw [h] at e; cases e) (fun l => absurd l (dct_not (ts := []) upd_same)) (fun _ => ⟨[], ⟨w, [], upd_same, np, List.nodup_nil, .nil⟩, .nil⟩)
/-- a changed list -/
theorem Ext.chg {S : Sto} {H : Hp} {p : Addr} {vs us : List V} {xs ys : List D} (hp : H p = some (.lst us)) (h : S p = some ys) : Ext S H (S.put p xs) (upd H p (.lst vs)) :=
  ⟨fun a u e n _ => by
    have q : a ≠ p := by rintro rfl; rw [h] at n; cases n
    exact ⟨by rw [upd_ne q]; exact e, by rw [Sto.put_ne q]; exact n⟩, fun a l => by
    by_cases q : a = p
    · subst q; exact ⟨vs, upd_same⟩
    · obtain ⟨ws, e⟩ := l; exact ⟨ws, by rw [upd_ne q]; exact e⟩, fun a l => by
    obtain ⟨w, ts, e⟩ := l
    have q : a ≠ p := by rintro rfl; rw [hp] at e; exact nomatch (Option.some.inj e)
    exact ⟨w, ts, by rw [upd_ne q]; exact e⟩⟩
theorem SRep.chg {S : Sto} {H : Hp} {p : Addr} {xs ys : List D} {vs us : List V} (s : SRep K Z S H) (hp : H p = some (.lst us)) (h : S p = some ys) (r : RepL K Z S H xs vs) : SRep K Z (S.put p xs) (upd H p (.lst vs)) :=
  s.puts (Ext.chg hp h) (fun ws _ => by rw [h]; exact fun z => nomatch z) (fun _ => ⟨vs, rfl, r.ext s (Ext.chg hp h)⟩) (fun n => absurd ⟨vs, upd_same⟩ n)
theorem Tabs.chgO {S : Sto} {H : Hp} {p : Addr} {ys : List D} {o : HO} (s : SRep K Z S H) (t : Tabs tb H) (h : S p = some ys) : Tabs tb (upd H p o) := fun P hP => by
  obtain ⟨ps, e, ok⟩ := t P hP
  refine ⟨ps, ?_, ok⟩
  rw [upd_ne]; exact e
  rintro rfl
  rw [s.no e (fun _ z => by cases z) (fun _ z => by cases z)] at h; cases h
theorem Tabs.chg {S : Sto} {H : Hp} {p : Addr} {ys : List D} {vs : List V} (s : SRep K Z S H) (t : Tabs tb H) (h : S p = some ys) : Tabs tb (upd H p (.lst vs)) := t.chgO s h
/-- a changed dict -/
theorem Ext.chgD {S : Sto} {H : Hp} {p : Addr} {w : World} {ts : List (NestedKey × Addr × Value)} {xs ys : List D} (hp : DctH H p) (h : S p = some ys) : Ext S H (S.put p xs) (upd H p (dctO w p ts)) :=
  ⟨fun a u e n _ => by
    have q : a ≠ p := by rintro rfl; rw [h] at n; cases n
    exact ⟨by rw [upd_ne q]; exact e, by rw [Sto.put_ne q]; exact n⟩, fun a l => by
    have q : a ≠ p := by rintro rfl; exact hp.not l
    obtain ⟨ws, e⟩ := l; exact ⟨ws, by rw [upd_ne q]; exact e⟩, fun a l => by
    by_cases q : a = p
    · subst q; exact ⟨w, ts, upd_same⟩
    · obtain ⟨w', ts', e⟩ := l
      exact ⟨w', ts', by rw [upd_ne q]; exact e⟩⟩
theorem SRep.chgD {S : Sto} {H : Hp} {p : Addr} {xs ys : List D} {vs : List V} {w : World} {ts : List (NestedKey × Addr × Value)} (s : SRep K Z S H) (hp : DctH H p) (h : S p = some ys) (r : RepL K Z S H xs vs) (np : p ≠ sysModules) (nd : (ts.map (·.1)).Nodup) (m : Mt xs vs ts) :
    SRep K Z (S.put p xs) (upd H p (dctO w p ts)) :=
  s.puts (Ext.chgD hp h) (fun ws _ => by rw [h]; exact fun z => nomatch z) (fun l => absurd l (dct_not (ts := ts) upd_same)) (fun _ => ⟨vs, ⟨w, ts, upd_same, np, nd, m⟩, r.ext s (Ext.chgD hp h)⟩)
/-- forgetting lists that were changed -/
theorem Ext.sub {S S1 S2 : Sto} {H H1 : Hp} (x : Ext S H S1 H1) (h : Sub S2 S1) : Ext S H S2 H1 := ⟨fun a o e n t => by
  obtain ⟨h1, n1⟩ := x.keep a o e n t
  refine ⟨h1, ?_⟩
  cases q : S2 a with
  | none => rfl
  | some xs => (rw [h a xs q] at n1; cases n1), x.ls, x.ds⟩
mutual
theorem Rep.sub {S S2 : Sto} {H : Hp} (h : Sub S2 S) : ∀ {d : D} {v : V}, Rep K Z S H d v → Rep K Z S2 H d v
  | _, _, .non => .non
  | _, _, .bl b => .bl b
  | _, _, .int i => .int i
  | _, _, .str z => .str z
  | _, _, .tup q r => .tup q (RepL.sub h r)
  | _, _, .lst e n nz r => .lst e (by
      rename_i a _ _
      cases q : S2 a with
      | none => rfl
      | some xs => rw [h a xs q] at n; cases n) nz (RepL.sub h r)
  | _, _, .scr q r => .scr q (RepL.sub h r)
  | _, _, .ref l => .ref l
  | _, _, .dct l => .dct l
theorem RepL.sub {S S2 : Sto} {H : Hp} (h : Sub S2 S) : ∀ {d : List D} {v : List V}, RepL K Z S H d v → RepL K Z S2 H d v
  | _, _, .nil => .nil
  | _, _, .cons q r => .cons (Rep.sub h q) (RepL.sub h r)
end
mutual
theorem Rep.frz {S S2 : Sto} {H : Hp} (s : SRep K Z S H) (h : Sub S2 S) : ∀ {d d2 : D} {v : V}, Frz S S2 d d2 → Rep K Z S H d v → Rep K Z S2 H d2 v
  | _, _, _, .same _, r => r.sub h
  | _, _, _, .ref e n f, r => by
    cases r
    rename_i l
    obtain ⟨vs, h1, r1⟩ := s.at_ _ _ e l
    refine .lst h1 n (fun z => ?_) (RepL.frz s h f r1)
    have := (s.hid _ z).2
    rw [e] at this; cases this
  | _, _, _, .tup f, .tup q r => .tup q (RepL.frz s h f r)
  | _, _, _, .lst f, .lst e n nz r => .lst e (by
      rename_i _ _ a _
      cases q : S2 a with
      | none => rfl
      | some xs => rw [h a xs q] at n; cases n) nz (RepL.frz s h f r)
theorem RepL.frz {S S2 : Sto} {H : Hp} (s : SRep K Z S H) (h : Sub S2 S) : ∀ {d d2 : List D} {v : List V}, FrzL S S2 d d2 → RepL K Z S H d v → RepL K Z S2 H d2 v
  | _, _, _, .nil, .nil => .nil
  | _, _, _, .cons f fs, .cons q r => .cons (Rep.frz s h f q) (RepL.frz s h fs r)
end
theorem SRep.sub {S S2 : Sto} {H : Hp} (s : SRep K Z S H) (h : Sub S2 S) : SRep K Z S2 H := ⟨fun a xs e l => by
  obtain ⟨vs, h1, r⟩ := s.at_ a xs (h a xs e) l
  exact ⟨vs, h1, r.sub h⟩, fun a z => by
  obtain ⟨e, n⟩ := s.hid a z
  refine ⟨e, ?_⟩
  cases q : S2 a with
  | none => rfl
  | some xs => (rw [h a xs q] at n; cases n), fun a xs e l => by
  obtain ⟨vs, h1, r⟩ := s.dt a xs (h a xs e) l
  exact ⟨vs, h1, r.sub h⟩⟩

/-! ### the slots -/
structure EnvR (K : PySem.W.Frag) (Z : Addr → Prop) (S : Sto) (H : Hp) (ρ : Rho) (σ : L2.St) : Prop where
  len : σ.length = ρ.length
  at_ : ∀ (i : Nat) (d : D), ρ[i]? = some (some d) → ∃ v, σ[i]? = some (some v) ∧ Rep K Z S H d v
theorem EnvR.ext {S S' : Sto} {H H' : Hp} {ρ : Rho} {σ : L2.St} (e : EnvR K Z S H ρ σ) (s : SRep K Z S H) (x : Ext S H S' H') : EnvR K Z S' H' ρ σ :=
  ⟨e.len, fun i d h => let ⟨v, h1, r⟩ := e.at_ i d h; ⟨v, h1, r.ext s x⟩⟩
theorem EnvR.set {S : Sto} {H : Hp} {ρ : Rho} {σ : L2.St} (e : EnvR K Z S H ρ σ) (i : Nat) {d : D} {v : V} (r : Rep K Z S H d v) : EnvR K Z S H (ρ.set i (some d)) (σ.set i (some v)) := by
  refine ⟨by simp [e.len], fun j c h => ?_⟩
  by_cases q : i = j
  · subst q
    by_cases l : i < ρ.length
    · rw [List.getElem?_set_self l] at h
      cases h
      exact ⟨v, by rw [List.getElem?_set_self (by rw [e.len]; exact l)], r⟩
    · rw [List.getElem?_eq_none (by simpa using l)] at h; cases h
  · rw [List.getElem?_set_ne q] at h
    obtain ⟨w, h1, h2⟩ := e.at_ j c h
    exact ⟨w, by rw [List.getElem?_set_ne q]; exact h1, h2⟩
theorem EnvR.forget {S : Sto} {H : Hp} {ρ : Rho} {σ : L2.St} (e : EnvR K Z S H ρ σ) (i : Nat) : EnvR K Z S H (ρ.set i none) (σ.set i none) := by
  refine ⟨by simp [e.len], fun j c h => ?_⟩
  by_cases q : i = j
  · subst q
    by_cases l : i < ρ.length
    · rw [List.getElem?_set_self l] at h; cases h
    · rw [List.getElem?_eq_none (by simpa using l)] at h; cases h
  · rw [List.getElem?_set_ne q] at h
    obtain ⟨w, h1, h2⟩ := e.at_ j c h
    exact ⟨w, by rw [List.getElem?_set_ne q]; exact h1, h2⟩
theorem EnvR.wipe {S : Sto} {H : Hp} {ρ : Rho} {σ : L2.St} (e : EnvR K Z S H ρ σ) : ∀ vs : List Nat, EnvR K Z S H (wipeD ρ vs) (wipe σ vs)
  | [] => e
  | v :: vs => by unfold wipeD L2.wipe; exact (e.wipe vs).forget v
/-- all together -/
structure Sim (K : PySem.W.Frag) (tb : List Addr) (Z : Addr → Prop) (ρ : Rho) (S : Sto) (σ : L2.St) (H : Hp) : Prop where
  env : EnvR K Z S H ρ σ
  sto : SRep K Z S H
  tab : Tabs tb H
theorem Sim.go {ρ : Rho} {S S' : Sto} {σ : L2.St} {H H' : Hp} (m : Sim K tb Z ρ S σ H) (x : Ext S H S' H') (s : SRep K Z S' H') (t : Tabs tb H') : Sim K tb Z ρ S' σ H' := ⟨m.env.ext m.sto x, s, t⟩

/-! ### what is hidden -/
/-- one more thing hidden -/
def more (Z : Addr → Prop) (L : Addr) : Addr → Prop := fun a => Z a ∨ a = L
mutual
/-- what is hidden may be other things, if none of them stood -/
theorem Rep.zz {Z' : Addr → Prop} {S : Sto} {H : Hp} (h : ∀ a, Z' a → Z a ∨ H a = none) : ∀ {d : D} {v : V}, Rep K Z S H d v → Rep K Z' S H d v
  | _, _, .non => .non
  | _, _, .bl b => .bl b
  | _, _, .int i => .int i
  | _, _, .str z => .str z
  | _, _, .tup q r => .tup q (RepL.zz h r)
  | _, _, .lst e n nz r => .lst e n (fun z => by
      rcases h _ z with z | z
      · exact nz z
      · rw [z] at e; cases e) (RepL.zz h r)
  | _, _, .scr q r => .scr q (RepL.zz h r)
  | _, _, .ref l => .ref l
  | _, _, .dct l => .dct l
theorem RepL.zz {Z' : Addr → Prop} {S : Sto} {H : Hp} (h : ∀ a, Z' a → Z a ∨ H a = none) : ∀ {d : List D} {v : List V}, RepL K Z S H d v → RepL K Z' S H d v
  | _, _, .nil => .nil
  | _, _, .cons q r => .cons (Rep.zz h q) (RepL.zz h r)
end
theorem more_z {H : Hp} {L : Addr} (h : H L = none) : ∀ a, more Z L a → Z a ∨ H a = none := fun a z => by
  rcases z with z | rfl
  · exact .inl z
  · exact .inr h
theorem Rep.more {S : Sto} {H : Hp} {L : Addr} (h : H L = none) {d : D} {v : V} (r : Rep K Z S H d v) : Rep K (DL.more Z L) S H d v := r.zz (more_z h)
theorem RepL.more {S : Sto} {H : Hp} {L : Addr} (h : H L = none) {d : List D} {v : List V} (r : RepL K Z S H d v) : RepL K (DL.more Z L) S H d v := r.zz (more_z h)
theorem Rep.less {S : Sto} {H : Hp} {L : Addr} {d : D} {v : V} (r : Rep K (DL.more Z L) S H d v) : Rep K Z S H d v := r.zz fun a z => .inl (.inl z)
theorem RepL.less {S : Sto} {H : Hp} {L : Addr} {d : List D} {v : List V} (r : RepL K (DL.more Z L) S H d v) : RepL K Z S H d v := r.zz fun a z => .inl (.inl z)
theorem lst_chz {H : Hp} {L a : Addr} {us : List V} (l : LstH H a) : LstH (upd H L (.lst us)) a := by
  by_cases q : a = L
  · subst q; exact ⟨us, upd_same⟩
  · obtain ⟨ws, e⟩ := l; exact ⟨ws, by rw [upd_ne q]; exact e⟩
theorem dct_chz {H : Hp} {L a : Addr} {ws us : List V} (h : H L = some (.lst ws)) (l : DctH H a) : DctH (upd H L (.lst us)) a := by
  obtain ⟨w, ts, e⟩ := l
  have q : a ≠ L := by rintro rfl; rw [h] at e; exact nomatch (Option.some.inj e)
  exact ⟨w, ts, by rw [upd_ne q]; exact e⟩
mutual
/-- what is hidden is changed -/
theorem Rep.chz {S : Sto} {H : Hp} {L : Addr} {ws us : List V} (h : H L = some (.lst ws)) (z : Z L) : ∀ {d : D} {v : V}, Rep K Z S H d v → Rep K Z S (upd H L (.lst us)) d v
  | _, _, .non => .non
  | _, _, .bl b => .bl b
  | _, _, .int i => .int i
  | _, _, .str z => .str z
  | _, _, .tup q r => .tup (by
      rcases q with (q | ⟨o, q⟩) | q
      · exact .inl (.inl (by rw [upd_ne]; exact q; rintro rfl; rw [h] at q; cases q))
      · exact .inl (.inr ⟨o, by rw [upd_ne]; exact q; rintro rfl; rw [h] at q; cases q⟩)
      · exact .inr q) (RepL.chz h z r)
  | _, _, .lst e n nz r => .lst (by rw [upd_ne]; exact e; rintro rfl; exact nz z) n nz (RepL.chz h z r)
  | _, _, .scr q r => .scr (match q with
      | .frz o q => .frz o (by rw [upd_ne]; exact q; rintro rfl; rw [h] at q; cases q)
      | .txt o its n h1 h2 h3 h4 h5 h6 => .txt o its n h1 h2 h3 h4 h5 h6) (RepL.chz h z r)
  | _, _, .ref l => .ref (lst_chz l)
  | _, _, .dct l => .dct (dct_chz h l)
theorem RepL.chz {S : Sto} {H : Hp} {L : Addr} {ws us : List V} (h : H L = some (.lst ws)) (z : Z L) : ∀ {d : List D} {v : List V}, RepL K Z S H d v → RepL K Z S (upd H L (.lst us)) d v
  | _, _, .nil => .nil
  | _, _, .cons q r => .cons (Rep.chz h z q) (RepL.chz h z r)
end
theorem SRep.chz {S : Sto} {H : Hp} {L : Addr} {ws us : List V} (s : SRep K Z S H) (h : H L = some (.lst ws)) (z : Z L) : SRep K Z S (upd H L (.lst us)) := by
  have ne : ∀ a xs, S a = some xs → a ≠ L := fun a xs e q => by rw [q, (s.hid _ z).2] at e; cases e
  refine ⟨fun a xs e l => ?_, fun a z' => ?_, fun a xs e l => ?_⟩
  · obtain ⟨vs, h1, r⟩ := s.at_ a xs e (l.ne (ne a xs e))
    exact ⟨vs, by rw [upd_ne (ne a xs e)]; exact h1, r.chz h z⟩
  · obtain ⟨⟨o, e⟩, n⟩ := s.hid a z'
    refine ⟨?_, n⟩
    by_cases q : a = L
    · subst q; exact ⟨_, upd_same⟩
    · exact ⟨o, by rw [upd_ne q]; exact e⟩
  · obtain ⟨vs, h1, r⟩ := s.dt a xs e fun l' => l (lst_chz l')
    exact ⟨vs, h1.ne (ne a xs e), r.chz h z⟩
theorem SRep.moreNew {S : Sto} {H : Hp} {L : Addr} {ws : List V} (s : SRep K Z S H) (h : H L = none) : SRep K (more Z L) S (upd H L (.lst ws)) := by
  refine ⟨fun a xs e l => ?_, fun a z => ?_, fun a xs e l => ?_⟩
  · have q := s.ne h e
    obtain ⟨vs, h1, r⟩ := s.at_ a xs e (l.ne q)
    exact ⟨vs, by rw [upd_ne q]; exact h1, (r.more h).extN s.sno (Ext.new h)⟩
  · rcases z with z | rfl
    · obtain ⟨⟨o, e⟩, n⟩ := s.hid a z
      exact ⟨⟨o, by rw [upd_ne (ne_of_none e h)]; exact e⟩, n⟩
    · exact ⟨⟨_, upd_same⟩, s.free h⟩
  · have q := s.ne h e
    obtain ⟨vs, h1, r⟩ := s.dt a xs e fun l' => l (l'.upd h)
    exact ⟨vs, h1.ne q, (r.more h).extN s.sno (Ext.new h)⟩
theorem SRep.less {S : Sto} {H : Hp} {L : Addr} (s : SRep K (DL.more Z L) S H) : SRep K Z S H := ⟨fun a xs e l => by
  obtain ⟨vs, h1, r⟩ := s.at_ a xs e l
  exact ⟨vs, h1, r.less⟩, fun a z => s.hid a (.inl z), fun a xs e l => by
  obtain ⟨vs, h1, r⟩ := s.dt a xs e l
  exact ⟨vs, h1, r.less⟩⟩
theorem EnvR.less {S : Sto} {H : Hp} {L : Addr} {ρ : Rho} {σ : L2.St} (e : EnvR K (DL.more Z L) S H ρ σ) : EnvR K Z S H ρ σ := ⟨e.len, fun i d h => let ⟨v, h1, r⟩ := e.at_ i d h; ⟨v, h1, r.less⟩⟩
theorem EnvR.more {S : Sto} {H : Hp} {L : Addr} {ρ : Rho} {σ : L2.St} (h : H L = none) (e : EnvR K Z S H ρ σ) : EnvR K (DL.more Z L) S H ρ σ := ⟨e.len, fun i d h' => let ⟨v, h1, r⟩ := e.at_ i d h'; ⟨v, h1, r.more h⟩⟩
theorem EnvR.chz {S : Sto} {H : Hp} {L : Addr} {ws us : List V} {ρ : Rho} {σ : L2.St} (h : H L = some (.lst ws)) (z : Z L) (e : EnvR K Z S H ρ σ) : EnvR K Z S (upd H L (.lst us)) ρ σ := ⟨e.len, fun i d h' => let ⟨v, h1, r⟩ := e.at_ i d h'; ⟨v, h1, r.chz h z⟩⟩
mutual
/-- the hidden list is one of those that are changed -/
theorem Rep.shown {S : Sto} {H : Hp} {L : Addr} {xs : List D} : ∀ {d : D} {v : V}, Rep K (DL.more Z L) S H d v → Rep K Z (S.put L xs) H d v
  | _, _, .non => .non
  | _, _, .bl b => .bl b
  | _, _, .int i => .int i
  | _, _, .str z => .str z
  | _, _, .tup q r => .tup q (RepL.shown r)
  | _, _, .lst e n nz r => .lst e (by rw [Sto.put_ne (fun q => nz (.inr q))]; exact n) (fun z => nz (.inl z)) (RepL.shown r)
  | _, _, .scr q r => .scr q (RepL.shown r)
  | _, _, .ref l => .ref l
  | _, _, .dct l => .dct l
theorem RepL.shown {S : Sto} {H : Hp} {L : Addr} {xs : List D} : ∀ {d : List D} {v : List V}, RepL K (DL.more Z L) S H d v → RepL K Z (S.put L xs) H d v
  | _, _, .nil => .nil
  | _, _, .cons q r => .cons (Rep.shown q) (RepL.shown r)
end
theorem SRep.shown {S : Sto} {H : Hp} {L : Addr} {xs : List D} {vs : List V} (s : SRep K (DL.more Z L) S H) (nz : ¬ Z L) (e : H L = some (.lst vs)) (r : RepL K (DL.more Z L) S H xs vs) : SRep K Z (S.put L xs) H := ⟨fun a ys h l => by
  by_cases q : a = L
  · subst q
    rw [Sto.put_same] at h; cases h
    exact ⟨vs, e, r.shown⟩
  · rw [Sto.put_ne q] at h
    obtain ⟨ws, h1, r1⟩ := s.at_ a ys h l
    exact ⟨ws, h1, r1.shown⟩, fun a z => by
  obtain ⟨h1, n⟩ := s.hid a (.inl z)
  refine ⟨h1, ?_⟩
  rw [Sto.put_ne]; exact n
  rintro rfl; exact nz z, fun a ys h l => by
  have q : a ≠ L := by rintro rfl; exact l ⟨vs, e⟩
  rw [Sto.put_ne q] at h
  obtain ⟨ws, h1, r1⟩ := s.dt a ys h l
  exact ⟨ws, h1, r1.shown⟩⟩
end
end DL

set_option Elab.async false
set_option linter.all false
set_option maxRecDepth 100000
set_option maxHeartbeats 4000000
/-! DL2M: a tuple once, or no times. -/
namespace DL
open PySem PySem.Spec PyProof.Rows L2
theorem tuple_mul1 (l : Addr) (items : Array Value) (n : Nat) (dd : Option Addr) (sl : Array (Option Value)) (u : Tok) :
    Meets (Builtin.«tuple.__mul__» ⟨[.ref l, .int 1 u], []⟩) (fun _ R s => s.heap.get? l = some { cls := .type "tuple", dict := dd, data := .seq items n, slots := sl } ∧ R (.ok (.ret (.ref l))) s) :=
  .of_wp fun prog w A R s h => by
    obtain ⟨hp, g, d, tk, os⟩ := s
    obtain ⟨hl, h⟩ := h
    have f1 := AutoSeq1.idx_int
    wp_walk using wpAny_loadPart' hl
    repeat (first
      | (refine wpAny_ite_false (decide_eq_false (by decide)) ?_; wp_walk using wpAny_loadPart' hl)
      | (refine wpAny_ite_true (decide_eq_true (by simp)) ?_; wp_walk using wpAny_loadPart' hl))
    exact ⟨_, rfl, h⟩
theorem tuple_mul0 (l : Addr) (items : Array Value) (n : Nat) (dd : Option Addr) (sl : Array (Option Value)) (x : Int) (u : Tok) (c0 : (decide (x < -(2 ^ 63)) || decide (x ≥ 2 ^ 63)) = false) (c1 : (items.isEmpty || x == 1) = false) (c2 : (decide (x ≤ 0) || items.isEmpty) = true) :
    Meets (Builtin.«tuple.__mul__» ⟨[.ref l, .int x u], []⟩) (fun _ R s => s.heap.get? l = some { cls := .type "tuple", dict := dd, data := .seq items n, slots := sl } ∧
      R (.ok (.ret (Value.ref s.heap.objs.size))) { s with heap := s.heap.push { cls := Value.type "tuple", data := Data.seq #[] }, toks := s.toks }) :=
  .of_wp fun prog w A R s h => by
    obtain ⟨hp, g, d, tk, os⟩ := s
    obtain ⟨hl, h⟩ := h
    have f1 := AutoSeq1.idx_int
    wp_walk using wpAny_loadPart' hl
    repeat (first
      | (refine wpAny_ite_false (decide_eq_false (by rw [c0]; exact Bool.false_ne_true)) ?_; wp_walk using wpAny_loadPart' hl)
      | (refine wpAny_ite_false (decide_eq_false (by rw [c1]; exact Bool.false_ne_true)) ?_; wp_walk using wpAny_loadPart' hl)
      | (refine wpAny_ite_true (decide_eq_true (by rw [c2])) ?_; wp_walk using wpAny_loadPart' hl)
      | (refine wpAny_ite_false (decide_eq_false (by decide)) ?_; wp_walk using wpAny_loadPart' hl))
    exact ⟨_, rfl, h⟩
def rRepT' (K : PySem.W.Frag) : R2 := fun x y H Q => ∃ l k xs, x = .ref l ∧ y = .int k ∧ SqT K H l xs ∧ xs ≠ [] ∧ -(2 ^ 63) ≤ k ∧ k ≤ 1 ∧ (k = 1 → Q (.ref l) H) ∧ (k ≤ 0 → ∀ p, H p = none → Q (.ref p) (upd H p (.tup [])))
section
variable {X : Cx}
theorem op_repT' : OpR X (binaryOp .Mult) (rRepT' X.K) := by
  intro pins s σ H x y v u Q I rx ry h
  obtain ⟨l, k, xs, rfl, rfl, hT, hne, h0, h1, q1, q0⟩ := h
  cases rx
  obtain ⟨t, rfl⟩ := ry
  obtain ⟨its, r, ⟨⟨cls, dd, data, sl⟩, ho, hc, n, hd⟩, hs⟩ := I.tuple hT
  simp only at hc hd
  subst hc hd
  have hle : its.length = xs.length := r.length.symm
  have hn : its ≠ [] := fun e => hne (by
    rw [e] at hle
    exact List.eq_nil_of_length_eq_zero hle.symm)
  have hi : its.toArray.isEmpty = false := by
    cases its with
    | nil => exact absurd rfl hn
    | cons a b => rfl
  by_cases hk : k = 1
  · subst hk
    exact wpAny_binaryOp_repeat_ref (T := "tuple") (U := "int") (by decide) ⟨_, ho, rfl⟩ (fun s' => typeIs_int s' 1 t) noFill_tuple_mul F.fills_int_mul F.slot_int_rmul repeat_tuple F.slot_int_index.lookup
      (call_meets F.slot_int_rmul (typeIs_int s 1 t) F.entry_int_rmul (F.args_int_rmul_2 _ _) (int_rmul_tuple 1 t l its.toArray n dd sl)
        ⟨ho, rfl, ⟨_, ho, rfl⟩, call_meets F.slot_tuple_mul ⟨_, ho, rfl⟩ F.entry_tuple_mul (F.args_tuple_mul_2 _ _) (tuple_mul1 l its.toArray n dd sl t) ⟨ho, .ref l, H, I, rfl, q1 rfl⟩⟩)
  · have c0 : (decide (k < -(2 ^ 63)) || decide (k ≥ 2 ^ 63)) = false := by
      rw [decide_eq_false (by omega), decide_eq_false (by omega)] <;> rfl
    have c1 : (its.toArray.isEmpty || k == 1) = false := by
      rw [hi, Bool.false_or]
      exact beq_eq_false_iff_ne.mpr hk
    have c2 : (decide (k ≤ 0) || its.toArray.isEmpty) = true := by
      rw [decide_eq_true (by omega)]; rfl
    refine wpAny_binaryOp_repeat_ref (T := "tuple") (U := "int") (by decide) ⟨_, ho, rfl⟩ (fun s' => typeIs_int s' k t) noFill_tuple_mul F.fills_int_mul F.slot_int_rmul repeat_tuple F.slot_int_index.lookup
      (call_meets F.slot_int_rmul (typeIs_int s k t) F.entry_int_rmul (F.args_int_rmul_2 _ _) (int_rmul_tuple k t l its.toArray n dd sl)
        ⟨ho, rfl, ⟨_, ho, rfl⟩, call_meets F.slot_tuple_mul ⟨_, ho, rfl⟩ F.entry_tuple_mul (F.args_tuple_mul_2 _ _) (tuple_mul0 l its.toArray n dd sl k t c0 c1 c2) ⟨ho, ?_⟩⟩)
    refine ⟨.ref s.heap.objs.size, _, I.laid (t' := s.toks) (o := .tup []) (fun b ob q => Heap.get?_push_of_some _ q) (Nat.le_refl _) ?_, rfl, q0 (by omega) _ (I.hok.fresh (Nat.le_refl _))⟩
    exact ⟨by show 0 ≤ sizeLine; exact Nat.zero_le _, [], .nil, IsTup.new _ _⟩
end
end DL

set_option Elab.async false
set_option linter.all false
set_option maxRecDepth 100000
set_option maxHeartbeats 4000000
/-! DL3: the operations, by values. -/
namespace DL
open PySem PySem.Spec PyProof.Rows L2

theorem LIM_eq : (sizeLine : Nat) = LIM := by rw [sizeLine_eq]; rfl
/-- what follows an operation -/
def Aft (K : PySem.W.Frag) (tb : List Addr) (Z : Addr → Prop) (S : Sto) (H : Hp) (Q : D → Sto → Prop) (Qv : VK) : Prop :=
  ∀ d S' v H', Ext S H S' H' → SRep K Z S' H' → Tabs tb H' → Rep K Z S' H' d v → Q d S' → Qv v H'
section
variable {K : PySem.W.Frag} {tb : List Addr} {Z : Addr → Prop} {S : Sto} {H : Hp} {Q : D → Sto → Prop} {Qv : VK}
theorem Aft.same (k : Aft K tb Z S H Q Qv) (s : SRep K Z S H) (t : Tabs tb H) {d : D} {v : V} (r : Rep K Z S H d v) (q : Q d S) : Qv v H := k d S v H Ext.refl s t r q
theorem Aft.tup (k : Aft K tb Z S H Q Qv) (s : SRep K Z S H) (t : Tabs tb H) {ds : List D} {vs : List V} (r : RepL K Z S H ds vs) (q : Q (.tup ds) S) {p : Addr} (hp : H p = none) : Qv (.ref p) (upd H p (.tup vs)) :=
  k _ S _ _ (Ext.new hp) (s.new hp) (t.new hp) (.tup (SqT.of upd_same) (r.ext s (Ext.new hp))) q
theorem Aft.lst (k : Aft K tb Z S H Q Qv) (s : SRep K Z S H) (t : Tabs tb H) {ds : List D} {vs : List V} (r : RepL K Z S H ds vs) (q : Q (.lst ds) S) {p : Addr} (hp : H p = none) : Qv (.ref p) (upd H p (.lst vs)) :=
  k _ S _ _ (Ext.new hp) (s.new hp) (t.new hp) (.lst upd_same (s.free hp) (s.nz hp) (r.ext s (Ext.new hp))) q
theorem Aft.put (k : Aft K tb Z S H Q Qv) (s : SRep K Z S H) (t : Tabs tb H) {ds : List D} {vs : List V} (r : RepL K Z S H ds vs) (q : ∀ a, S a = none → Q (.ref a) (S.put a ds)) {p : Addr} (hp : H p = none) : Qv (.ref p) (upd H p (.lst vs)) :=
  k _ _ _ _ (Ext.newS hp) (s.newS hp r) (t.new hp) (.ref ⟨_, upd_same⟩) (q p (s.free hp))
end
/-- an operation of two values -/
def Sem2 (X : Cx) (tb : List Addr) (f : Value → Value → Sem Value) (w : D → D → Sto → (D → Sto → Prop) → Prop) : Prop :=
  ∃ r : R2, OpR X f r ∧ ∀ (Z : Addr → Prop) (x y : D) (v u : V) (S : Sto) (H : Hp) (Q : D → Sto → Prop) (Qv : VK), SRep X.K Z S H → Tabs tb H → Rep X.K Z S H x v → Rep X.K Z S H y u → w x y S Q → Aft X.K tb Z S H Q Qv → r v u H Qv
section
variable {X : Cx} {tb : List Addr}
/-- division by _pylong has room -/
def PyRoom (X : Cx) : Prop := ∀ (pins : List (Addr × Obj)) (s : Shared) (σ : L2.St) (H : Hp), Inv X pins σ H s → PySem.PylongRoom (model X.prog X.w) X.A s
theorem op_fdivP (hp : PyRoom X) : OpR X (binaryOp .FloorDiv) (rI (fun _ j => j ≠ 0) fun i j => .int (i.fdiv j)) := by
  intro pins s σ H x y v u Q I rx ry h
  obtain ⟨i, j, rfl, rfl, hc, q⟩ := h
  obtain ⟨t, rfl⟩ := rx
  obtain ⟨t', rfl⟩ := ry
  exact floordiv_int hc ⟨.int _, H, I.tok _, ⟨_, rfl⟩, q⟩ (.inr (hp pins s σ H I))
theorem op_fdivSm : OpR X (binaryOp .FloorDiv) (rI (fun _ j => j ≠ 0 ∧ j.natAbs.log2 < 9000) fun i j => .int (i.fdiv j)) := opI fun _ _ _ _ _ _ _ hc q => floordiv_int hc.1 q (.inl (PyProof.noPylong_of_log2 hc.2))
theorem op_mulG : OpR X (binaryOp .Mult) (rI MulOk fun i j => .int (i * j)) := opI fun _ _ _ _ _ _ _ hc q => mul_int q hc
def BO.op : BO → Operator
  | .add => .Add | .sub => .Sub | .mul => .Mult | .fdiv => .FloorDiv | .fdivS => .FloorDiv | .mod => .Mod | .pow => .Pow
theorem sem_add : Sem2 X tb (binaryOp BO.add.op) (fun x y S Q => dBin .add x y fun z => Q z S) := by
  refine ⟨_, op_add.or (op_catA.or op_cat), fun Z x y v u S H Q Qv s t rx ry w k => ?_⟩
  cases x <;> cases y <;> try exact w.elim
  · cases rx; cases ry
    exact .inl ⟨_, _, rfl, rfl, k.same s t (.int _) w⟩
  · cases rx with
    | tup h r =>
      cases ry with
      | tup h2 r2 =>
        obtain ⟨w1, w⟩ := w
        refine .inr (.inl ⟨_, _, _, _, rfl, rfl, h, h2, by rw [LIM_eq, ← r.length, ← r2.length]; exact w1, fun e => ?_, fun e e2 => ?_, fun _ _ p hp => k.tup s t (r.append r2) w hp⟩)
        · subst e
          cases r
          exact k.same s t (.tup h2 r2) (by simpa using w)
        · subst e2
          cases r2
          exact k.same s t (.tup h r) (by simpa using w)
  · cases rx with
    | lst h n nz r =>
      cases ry with
      | lst h2 n2 nz2 r2 =>
        obtain ⟨w1, w⟩ := w
        exact .inr (.inr ⟨_, _, _, _, rfl, rfl, h, h2, by rw [LIM_eq, ← r.length, ← r2.length]; exact w1, fun p hp => k.lst s t (r.append r2) w hp⟩)
theorem sem_sub : Sem2 X tb (binaryOp BO.sub.op) (fun x y S Q => dBin .sub x y fun z => Q z S) := by
  refine ⟨_, op_sub, fun Z x y v u S H Q Qv s t rx ry w k => ?_⟩
  cases x <;> cases y <;> try exact w.elim
  cases rx; cases ry
  exact ⟨_, _, rfl, rfl, k.same s t (.int _) w⟩
theorem sem_mul : Sem2 X tb (binaryOp BO.mul.op) (fun x y S Q => dBin .mul x y fun z => Q z S) := by
  refine ⟨_, op_mulG.or (op_repT.or (op_rep.or op_repT')), fun Z x y v u S H Q Qv s t rx ry w k => ?_⟩
  cases x <;> cases y <;> try exact w.elim
  · cases rx; cases ry
    exact .inl ⟨_, _, rfl, rfl, w.1, k.same s t (.int _) w.2⟩
  · cases rx with
    | tup h r =>
      cases ry
      rename_i n a vs
      obtain ⟨⟨w1, w2, w3, w4⟩, w⟩ := w
      have hne : vs ≠ [] := fun e => by
        subst e
        cases r
        exact w1 rfl
      by_cases h2 : 2 ≤ n
      · exact .inr (.inl ⟨_, _, _, rfl, rfl, h, hne, h2, w3, by rw [← r.length]; exact w4, fun p hp => k.tup s t (r.rep _) w hp⟩)
      · refine .inr (.inr (.inr ⟨_, _, _, rfl, rfl, h, hne, w2, by omega, fun e => ?_, fun e p hp => k.tup s t .nil ?_ hp⟩))
        · subst e
          exact k.same s t (.tup h r) (by simpa using w)
        · rw [show n.toNat = 0 by omega] at w
          exact w
  · cases rx with
    | lst h n nz r =>
      cases ry
      obtain ⟨⟨w1, w2, w3⟩, w⟩ := w
      exact .inr (.inr (.inl ⟨_, _, _, rfl, rfl, h, w1, w2, by rw [LIM_eq, ← r.length]; exact w3, fun p hp => k.lst s t (r.rep _) w hp⟩))
theorem sem_fdiv (hp : PyRoom X) : Sem2 X tb (binaryOp BO.fdiv.op) (fun x y S Q => dBin .fdiv x y fun z => Q z S) := by
  refine ⟨_, op_fdivP hp, fun Z x y v u S H Q Qv s t rx ry w k => ?_⟩
  cases x <;> cases y <;> try exact w.elim
  cases rx; cases ry
  exact ⟨_, _, rfl, rfl, w.1, k.same s t (.int _) w.2⟩
theorem sem_fdivS : Sem2 X tb (binaryOp BO.fdivS.op) (fun x y S Q => dBin .fdivS x y fun z => Q z S) := by
  refine ⟨_, op_fdivSm, fun Z x y v u S H Q Qv s t rx ry w k => ?_⟩
  cases x <;> cases y <;> try exact w.elim
  cases rx; cases ry
  exact ⟨_, _, rfl, rfl, w.1, k.same s t (.int _) w.2⟩
theorem sem_mod : Sem2 X tb (binaryOp BO.mod.op) (fun x y S Q => dBin .mod x y fun z => Q z S) := by
  refine ⟨_, op_modN, fun Z x y v u S H Q Qv s t rx ry w k => ?_⟩
  cases x <;> cases y <;> try exact w.elim
  cases rx; cases ry
  exact ⟨_, _, rfl, rfl, w.1, k.same s t (.int _) w.2⟩
theorem sem_pow : Sem2 X tb (binaryOp BO.pow.op) (fun x y S Q => dBin .pow x y fun z => Q z S) := by
  refine ⟨_, op_pow, fun Z x y v u S H Q Qv s t rx ry w k => ?_⟩
  cases x <;> cases y <;> try exact w.elim
  cases rx; cases ry
  exact ⟨_, _, rfl, rfl, w.1, k.same s t (.int _) w.2⟩
theorem sem_bin (hp : PyRoom X) : ∀ o : BO, Sem2 X tb (binaryOp o.op) (fun x y S Q => dBin o x y fun z => Q z S)
  | .add => sem_add
  | .sub => sem_sub
  | .mul => sem_mul
  | .fdiv => sem_fdiv hp
  | .fdivS => sem_fdivS
  | .mod => sem_mod
  | .pow => sem_pow
theorem sem_binS (o : BO) (ho : o ≠ .fdiv) : Sem2 X tb (binaryOp o.op) (fun x y S Q => dBin o x y fun z => Q z S) := by
  cases o with
  | fdiv => exact absurd rfl ho
  | fdivS => exact sem_fdivS
  | add => exact sem_add
  | sub => exact sem_sub
  | mul => exact sem_mul
  | mod => exact sem_mod
  | pow => exact sem_pow

/-! ### two lists, one that is changed later -/
theorem lsOf_rep {Z : Addr → Prop} {S : Sto} {H : Hp} {x : D} {v : V} {xs : List D} (s : SRep X.K Z S H) (r : Rep X.K Z S H x v) (h : lsOf S x = some xs) : ∃ a vs, v = .ref a ∧ H a = some (.lst vs) ∧ RepL X.K Z S H xs vs := by
  cases x <;> try cases h
  · cases r with
    | lst h n nz r => exact ⟨_, _, rfl, h, r⟩
  · cases r with
    | ref l =>
      obtain ⟨vs, h1, r⟩ := s.at_ _ _ h l
      exact ⟨_, _, rfl, h1, r⟩
theorem sem_cat : Sem2 X tb (binaryOp BO.add.op) (fun x y S Q => dCat x y S Q) := by
  refine ⟨_, op_add.or (op_catA.or op_cat), fun Z x y v u S H Q Qv s t rx ry ⟨xs, ys, h1, h2, l, w⟩ k => ?_⟩
  obtain ⟨a, vs, rfl, ha, r1⟩ := lsOf_rep s rx h1
  obtain ⟨b, us, rfl, hb, r2⟩ := lsOf_rep s ry h2
  exact .inr (.inr ⟨_, _, _, _, rfl, rfl, ha, hb, by rw [LIM_eq, ← r1.length, ← r2.length]; exact l, fun p hp => k.put s t (r1.append r2) w hp⟩)
theorem sem_rep : Sem2 X tb (binaryOp BO.mul.op) (fun x y S Q => dRep x y S Q) := by
  refine ⟨_, op_mulG.or (op_repT.or (op_rep.or op_repT')), fun Z x y v u S H Q Qv s t rx ry w k => ?_⟩
  cases x <;> cases y <;> try exact w.elim
  cases rx with
  | lst h n nz r =>
    cases ry
    obtain ⟨⟨w1, w2, w3⟩, w⟩ := w
    exact .inr (.inr (.inl ⟨_, _, _, rfl, rfl, h, w1, w2, by rw [LIM_eq, ← r.length]; exact w3, fun p hp => k.put s t (r.rep _) w hp⟩))
/-! ### comparisons -/
mutual
theorem rep_dp {Z : Addr → Prop} {S : Sto} {H : Hp} : ∀ {d : D} {v : V} {p : PyData}, Rep X.K Z S H d v → toPy d = some p → Dp X.K H v p
  | _, _, _, .non, e => by cases e; exact .non
  | _, _, _, .bl b, e => by cases e; exact .bl b
  | _, _, _, .int i, e => by cases e; exact .int i
  | _, _, _, .str z, e => by cases e; exact .str z
  | _, _, _, .tup h r, e => by
    obtain ⟨q, hq, e2⟩ := Option.map_eq_some_iff.mp e
    subst e2
    exact .tup h (repL_dp r hq)
  | _, _, _, .lst h n nz r, e => by
    obtain ⟨q, hq, e2⟩ := Option.map_eq_some_iff.mp e
    subst e2
    exact .lst (.inl (.inl h)) (repL_dp r hq)
  | _, _, _, .scr h r, e => by cases e
  | _, _, _, .ref a, e => by cases e
  | _, _, _, .dct a, e => by cases e
theorem repL_dp {Z : Addr → Prop} {S : Sto} {H : Hp} : ∀ {d : List D} {v : List V} {p : List PyData}, RepL X.K Z S H d v → toPy.toPys d = some p → DpAll X.K H v p
  | _, _, _, .nil, e => by cases e; exact .nil
  | _, _, _, .cons (d := d) (ds := ds) q r, e => by
    unfold toPy.toPys at e
    cases h1 : toPy d with
    | none => rw [h1] at e; cases e
    | some y =>
      cases h2 : toPy.toPys ds with
      | none => rw [h1, h2] at e; cases e
      | some ys =>
        rw [h1, h2] at e
        cases e
        exact .cons (rep_dp q h1) (repL_dp r h2)
end
theorem rep_dpl {Z : Addr → Prop} {S : Sto} {H : Hp} (s : SRep X.K Z S H) {d : D} {v : V} {p : PyData} (r : Rep X.K Z S H d v) (e : toPy (look S d) = some p) : Dp X.K H v p := by
  cases d with
  | ref a =>
    cases hx : S a with
    | none =>
      rw [show look S (.ref a) = .ref a by simp [look, hx]] at e
      cases e
    | some xs =>
      rw [show look S (.ref a) = .lst xs by simp [look, hx]] at e
      exact rep_dp (Rep.frz s Sub.del (.ref hx Sto.del_same (FrzL.refl xs)) r) e
  | _ => exact rep_dp r e
theorem eqv_int (i j : Int) : PyData.eqv (.int i) (.int j) = decide (i = j) := by
  simp [PyData.eqv] <;> rfl
theorem sem_eq (hu : X.A.units + 64 < cLine) : Sem2 X tb (compareOp .Eq) (fun x y S Q => dEq S x y fun b => Q (.bl b) S) := by
  refine ⟨_, op_eq.or (op_eqD hu), fun Z x y v u S H Q Qv s t rx ry w k => ?_⟩
  have gen : (∃ p q, toPy (look S x) = some p ∧ toPy (look S y) = some q ∧ SeqAt.shaped p = true ∧ SeqAt.shaped q = true ∧ Q (.bl (PyData.eqv p q)) S) → (rEq v u H Qv ∨ rEqD X.K v u H Qv) := fun ⟨p, q, h1, h2, h3, h4, h5⟩ =>
    .inr ⟨p, q, rep_dpl s rx h1, rep_dpl s ry h2, h3, h4, k.same s t (.bl _) h5⟩
  cases x <;> cases y <;> first
    | (cases rx; cases ry; refine .inl ⟨rfl, ?_⟩; rename_i a b; rw [show decide (V.int a = V.int b) = decide (a = b) by simp]; exact k.same s t (.bl _) w)
    | (cases rx; cases ry; refine .inl ⟨rfl, ?_⟩; rename_i a b; rw [show decide (V.str a = V.str b) = decide (a = b) by simp]; exact k.same s t (.bl _) w)
    | (cases rx; cases ry; refine .inl ⟨rfl, ?_⟩; rename_i a b; rw [show decide (V.bl a = V.bl b) = decide (a = b) by simp]; exact k.same s t (.bl _) w)
    | exact gen w
theorem sem_ne (hu : X.A.units + 64 < cLine) : Sem2 X tb (compareOp .NotEq) (fun x y S Q => dEq S x y fun b => Q (.bl !b) S) := by
  refine ⟨_, op_ne.or (op_neD hu), fun Z x y v u S H Q Qv s t rx ry w k => ?_⟩
  have gen : (∃ p q, toPy (look S x) = some p ∧ toPy (look S y) = some q ∧ SeqAt.shaped p = true ∧ SeqAt.shaped q = true ∧ Q (.bl (!PyData.eqv p q)) S) → (rNe v u H Qv ∨ rNeD X.K v u H Qv) := fun ⟨p, q, h1, h2, h3, h4, h5⟩ =>
    .inr ⟨p, q, rep_dpl s rx h1, rep_dpl s ry h2, h3, h4, k.same s t (.bl _) h5⟩
  cases x <;> cases y <;> first
    | (cases rx; cases ry; refine .inl ⟨rfl, ?_⟩; rename_i a b; rw [show decide (V.int a = V.int b) = decide (a = b) by simp]; exact k.same s t (.bl _) w)
    | (cases rx; cases ry; refine .inl ⟨rfl, ?_⟩; rename_i a b; rw [show decide (V.str a = V.str b) = decide (a = b) by simp]; exact k.same s t (.bl _) w)
    | (cases rx; cases ry; refine .inl ⟨rfl, ?_⟩; rename_i a b; rw [show decide (V.bl a = V.bl b) = decide (a = b) by simp]; exact k.same s t (.bl _) w)
    | exact gen w
def CO.op : CO → CmpOp
  | .eq => .Eq | .ne => .NotEq | .lt => .Lt | .le => .LtE | .gt => .Gt | .ge => .GtE | .isN => .Is | .notN => .IsNot | .inn => .In | .nin => .NotIn
theorem inV_ints (i : Int) : ∀ ns : List Int, inV (.int i) (ns.map V.int) = decide (i ∈ ns)
  | [] => by simp [inV]
  | n :: ns => by
    have ih := inV_ints i ns
    unfold inV at ih ⊢
    rw [List.map_cons, List.any_cons, ih]
    by_cases e : i = n
    · subst e; simp [eqV]
    · have e2 : ¬ n = i := fun z => e z.symm
      simp [eqV, e, e2]
theorem repInts' {K : PySem.W.Frag} {Z : Addr → Prop} {S : Sto} {H : Hp} : ∀ {ns : List Int} {vs : List V}, RepL K Z S H (ns.map D.int) vs → vs = ns.map V.int
  | [], _, .nil => rfl
  | _ :: _, _, .cons (.int _) r => by rw [repInts' r]; rfl
theorem flat_ints (ns : List Int) : (ns.map V.int).all flatV = true := by rw [List.all_map]; exact List.all_eq_true.mpr fun _ _ => rfl
theorem sem_cmp (hu : X.A.units + 64 < cLine) : ∀ o : CO, Sem2 X tb (compareOp o.op) (fun x y S Q => dCmp S o x y fun z => Q z S)
  | .eq => sem_eq hu
  | .ne => sem_ne hu
  | .lt => by
    refine ⟨_, op_lt, fun Z x y v u S H Q Qv s t rx ry w k => ?_⟩
    cases x <;> cases y <;> try exact w.elim
    cases rx; cases ry
    exact ⟨_, _, rfl, rfl, k.same s t (.bl _) w⟩
  | .le => by
    refine ⟨_, op_le, fun Z x y v u S H Q Qv s t rx ry w k => ?_⟩
    cases x <;> cases y <;> try exact w.elim
    cases rx; cases ry
    exact ⟨_, _, rfl, rfl, k.same s t (.bl _) w⟩
  | .gt => by
    refine ⟨_, op_gt, fun Z x y v u S H Q Qv s t rx ry w k => ?_⟩
    cases x <;> cases y <;> try exact w.elim
    cases rx; cases ry
    exact ⟨_, _, rfl, rfl, k.same s t (.bl _) w⟩
  | .ge => by
    refine ⟨_, op_ge, fun Z x y v u S H Q Qv s t rx ry w k => ?_⟩
    cases x <;> cases y <;> try exact w.elim
    cases rx; cases ry
    exact ⟨_, _, rfl, rfl, k.same s t (.bl _) w⟩
  | .isN => by
    refine ⟨_, op_isN, fun Z x y v u S H Q Qv s t rx ry w k => ?_⟩
    cases y with
    | non =>
      cases ry
      refine ⟨rfl, ?_⟩
      cases x <;> cases rx <;> exact k.same s t (.bl _) w
    | _ => cases x <;> exact w.elim
  | .notN => by
    refine ⟨_, op_notN, fun Z x y v u S H Q Qv s t rx ry w k => ?_⟩
    cases y with
    | non =>
      cases ry
      refine ⟨rfl, ?_⟩
      cases x <;> cases rx <;> exact k.same s t (.bl _) w
    | _ => cases x <;> exact w.elim
  | .inn => by
    refine ⟨_, op_in_seq, fun Z x y v u S H Q Qv s t rx ry w k => ?_⟩
    cases x <;> cases y <;> try exact w.elim
    cases rx
    cases ry with
    | tup h r =>
      obtain ⟨ns, rfl, w⟩ := w
      have e := repInts' r
      subst e
      refine ⟨_, _, rfl, .inr h, rfl, flat_ints ns, ?_⟩
      rw [if_neg (by decide), inV_ints]
      exact k.same s t (.bl _) w
  | .nin => by
    refine ⟨_, op_notIn_seq, fun Z x y v u S H Q Qv s t rx ry w k => ?_⟩
    cases x <;> cases y <;> try exact w.elim
    cases rx
    cases ry with
    | tup h r =>
      obtain ⟨ns, rfl, w⟩ := w
      have e := repInts' r
      subst e
      refine ⟨_, _, rfl, .inr h, rfl, flat_ints ns, ?_⟩
      rw [if_pos rfl, inV_ints]
      exact k.same s t (.bl _) w
end
end DL

set_option Elab.async false
set_option linter.all false
set_option maxRecDepth 100000
set_option maxHeartbeats 4000000
/-! DL4: truth, built-in functions, places, slices, methods of lists. -/
namespace DL
open PySem PySem.Spec PyProof.Rows L2

section
variable {X : Cx} {tb : List Addr} {Z : Addr → Prop}
theorem SRep.sqL {S : Sto} {H : Hp} (s : SRep X.K Z S H) {a : Addr} {xs : List D} (e : S a = some xs) (l : LstH H a) : ∃ vs, H a = some (.lst vs) ∧ SqL X.K H a vs ∧ RepL X.K Z S H xs vs := by
  obtain ⟨vs, h, r⟩ := s.at_ a xs e l
  exact ⟨vs, h, SqL.of h, r⟩
theorem RepL.isEmpty {K : PySem.W.Frag} {Z : Addr → Prop} {S : Sto} {H : Hp} {ds : List D} {vs : List V} (r : RepL K Z S H ds vs) : ds.isEmpty = vs.isEmpty := by cases r <;> rfl
/-- truth -/
theorem tru_sem {x : D} {v : V} {S : Sto} {H : Hp} {k : Bool → Prop} (s : SRep X.K Z S H) (r : Rep X.K Z S H x v) (w : dTru S x k) : ∃ b, TruV X.K v H b ∧ k b := by
  cases r with
  | non => exact ⟨false, rfl, w⟩
  | bl b => exact ⟨b, rfl, w⟩
  | int i => exact ⟨_, rfl, by rw [show (i != 0) = decide (i ≠ 0) by simp [bne, Bool.beq_eq_decide_eq]]; exact w⟩
  | str z => exact ⟨_, ⟨by rw [LIM_eq]; exact w.1, rfl⟩, by rw [show (((z.length : Int)) != 0) = decide ((z.length : Int) ≠ 0) by simp [bne, Bool.beq_eq_decide_eq]]; exact w.2⟩
  | tup h r => exact ⟨_, .inr (.inl ⟨_, h, rfl⟩), by rw [← r.isEmpty]; exact w⟩
  | lst h n nz r => exact ⟨_, .inl ⟨_, SqL.of h, rfl⟩, by rw [← r.isEmpty]; exact w⟩
  | scr h r => exact ⟨_, .inl ⟨_, h.sq, rfl⟩, by rw [← r.isEmpty]; exact w⟩
  | ref l =>
    obtain ⟨xs, e, w⟩ := w
    obtain ⟨vs, h, h2, r⟩ := s.sqL e l
    exact ⟨_, .inl ⟨_, h2, rfl⟩, by rw [← r.isEmpty]; exact w⟩
  | dct l => exact w.elim

/-! ### built-in functions -/
def SemN (X : Cx) (tb : List Addr) (f : Value) (w : List D → Sto → (D → Sto → Prop) → Prop) : Prop :=
  ∃ r : List V → Hp → VK → Prop, CallR X f r ∧ ∀ (Z : Addr → Prop) (ds : List D) (vs : List V) (S : Sto) (H : Hp) (Q : D → Sto → Prop) (Qv : VK), SRep X.K Z S H → Tabs tb H → RepL X.K Z S H ds vs → w ds S Q → Aft X.K tb Z S H Q Qv → r vs H Qv
def BI.val : BI → Value
  | .abs => .builtin "abs" | .len => .builtin "len" | .int => .type "int" | .tuple => .type "tuple" | .list _ => .type "list" | .sum => .builtin "sum" | .max => .builtin "max" | .min => .builtin "min"
def BI.nm : BI → Str
  | .abs => "abs" | .len => "len" | .int => "int" | .tuple => "tuple" | .list _ => "list" | .sum => "sum" | .max => "max" | .min => "min"
theorem sem_len : SemN X tb (.builtin "len") (dBi .len) := by
  refine ⟨_, call_len, fun Z ds vs S H Q Qv s t r w k => ?_⟩
  cases r with
  | nil => exact w.elim
  | cons r r2 =>
    cases r2 with
    | cons _ _ => rename_i d _ _ _ _ _ _ _; cases d <;> exact w.elim
    | nil =>
      cases r with
      | tup h r =>
        refine ⟨_, _, rfl, .inr ⟨_, h, rfl⟩, ?_⟩
        rw [← r.length]; exact k.same s t (.int _) w
      | lst h n nz r =>
        refine ⟨_, _, rfl, .inl ⟨_, SqL.of h, rfl⟩, ?_⟩
        rw [← r.length]; exact k.same s t (.int _) w
      | scr h r =>
        refine ⟨_, _, rfl, .inl ⟨_, h.sq, rfl⟩, ?_⟩
        rw [← r.length]; exact k.same s t (.int _) w
      | str z => exact ⟨_, _, rfl, ⟨by rw [LIM_eq]; exact w.1, rfl⟩, k.same s t (.int _) w.2⟩
      | ref l =>
        obtain ⟨xs, e, w⟩ := w
        obtain ⟨vs, h, h2, r⟩ := s.sqL e l
        refine ⟨_, _, rfl, .inl ⟨_, h2, rfl⟩, ?_⟩
        rw [← r.length]; exact k.same s t (.int _) w
      | _ => exact w.elim
theorem sem_abs : SemN X tb (.builtin "abs") (dBi .abs) := by
  refine ⟨_, call_abs, fun Z ds vs S H Q Qv s t r w k => ?_⟩
  cases r with
  | nil => exact w.elim
  | cons r r2 =>
    cases r2 with
    | cons _ _ => rename_i d _ _ _ _ _ _ _; cases d <;> exact w.elim
    | nil =>
      cases r with
      | int i => exact ⟨_, rfl, k.same s t (.int _) w⟩
      | _ => exact w.elim
theorem sem_int : SemN X tb (.type "int") (dBi .int) := by
  refine ⟨_, call_int1, fun Z ds vs S H Q Qv s t r w k => ?_⟩
  cases r with
  | nil => exact w.elim
  | cons r r2 =>
    cases r2 with
    | cons _ _ => rename_i d _ _ _ _ _ _ _; cases d <;> exact w.elim
    | nil =>
      cases r with
      | int i => exact .inl ⟨_, rfl, k.same s t (.int _) w⟩
      | bl b => exact .inr ⟨_, rfl, k.same s t (.int _) w⟩
      | _ => exact w.elim
theorem call_tup : CallR X (.type "tuple") (fun xs H Q => ∃ x, xs = [x] ∧ kTup X.K x H Q) := by
  intro pins s σ H xs us Q I r h
  obtain ⟨x, rfl, h⟩ := h
  obtain ⟨u, rfl, rx⟩ := vals1 r
  exact rl_tuple pins s σ H x u Q I rx h
theorem sem_tuple : SemN X tb (.type "tuple") (dBi .tuple) := by
  refine ⟨_, call_tup, fun Z ds vs S H Q Qv s t r w k => ?_⟩
  cases r with
  | nil => exact w.elim
  | cons r r2 =>
    cases r2 with
    | cons _ _ => rename_i d _ _ _ _ _ _ _; cases d <;> exact w.elim
    | nil =>
      cases r with
      | tup h r => exact ⟨_, rfl, .inr ⟨_, _, rfl, h, k.same s t (.tup h r) w⟩⟩
      | lst h n nz r => exact ⟨_, rfl, .inl ⟨_, _, rfl, SqL.of h, fun q hq => k.tup s t r w hq⟩⟩
      | ref l =>
        obtain ⟨xs, e, w⟩ := w
        obtain ⟨vs, h, h2, r⟩ := s.sqL e l
        exact ⟨_, rfl, .inl ⟨_, _, rfl, h2, fun q hq => k.tup s t r w hq⟩⟩
      | _ => exact w.elim
theorem sem_list (mu : Bool) : SemN X tb (.type "list") (dBi (.list mu)) := by
  refine ⟨_, call_list_of, fun Z ds vs S H Q Qv s t r w k => ?_⟩
  have fin : ∀ {ds : List D} {vs : List V} {l : Addr}, RepL X.K Z S H ds vs → (if mu = true then ∀ a, S a = none → Q (.ref a) (S.put a ds) else Q (.lst ds) S) → H l = none → Qv (.ref l) (upd H l (.lst vs)) := fun {ds vs l} r w hl => by
    cases mu with
    | true => exact k.put s t r w hl
    | false => exact k.lst s t r w hl
  cases r with
  | nil => exact w.elim
  | cons r r2 =>
    cases r2 with
    | cons _ _ => rename_i d _ _ _ _ _ _ _; cases d <;> exact w.elim
    | nil =>
      cases r with
      | tup h r => exact ⟨_, _, rfl, .inr h, fun l hl => fin r w hl⟩
      | lst h n nz r => exact ⟨_, _, rfl, .inl (SqL.of h), fun l hl => fin r w hl⟩
      | scr h r => exact ⟨_, _, rfl, .inl h.sq, fun l hl => fin r w hl⟩
      | _ => exact w.elim
theorem repInts {K : PySem.W.Frag} {Z : Addr → Prop} {S : Sto} {H : Hp} : ∀ {ns : List Int} {vs : List V}, RepL K Z S H (ns.map D.int) vs → vs = ns.map V.int
  | [], _, .nil => rfl
  | _ :: _, _, .cons (.int _) r => by rw [repInts r]; rfl
theorem sem_sum (hc : X.calm = true) : SemN X tb (.builtin "sum") (dBi .sum) := by
  refine ⟨_, cr_sum hc, fun Z ds vs S H Q Qv s t r w k => ?_⟩
  cases r with
  | nil => exact w.elim
  | cons r r2 =>
    cases r2 with
    | cons _ _ => rename_i d _ _ _ _ _ _ _; cases d <;> exact w.elim
    | nil =>
      cases r with
      | lst h n nz r =>
        obtain ⟨ns, rfl, w⟩ := w
        have e := repInts r
        subst e
        exact ⟨_, ns, rfl, SqL.of h, k.same s t (.int _) w⟩
      | _ => exact w.elim
theorem callR_or {f : Value} {r1 r2 : List V → Hp → VK → Prop} (h1 : CallR X f r1) (h2 : CallR X f r2) : CallR X f (fun xs H Q => r1 xs H Q ∨ r2 xs H Q) := fun pins s σ H xs us Q I v r => r.elim (h1 pins s σ H xs us Q I v) (h2 pins s σ H xs us Q I v)
theorem sem_max (hc : X.calm = true) : SemN X tb (.builtin "max") (dBi .max) := by
  refine ⟨_, callR_or (cr_max hc) (call_max2 hc), fun Z ds vs S H Q Qv s t r w k => ?_⟩
  cases r with
  | nil => exact w.elim
  | cons r r2 =>
    cases r2 with
    | cons r2 r3 =>
      cases r3 with
      | cons _ _ => cases r <;> cases r2 <;> exact w.elim
      | nil =>
        cases r with
        | int i =>
          cases r2 with
          | int j => exact .inr ⟨i, j, rfl, k.same s t (.int _) w⟩
          | _ => exact w.elim
        | lst _ _ _ _ => cases r2 <;> exact w.elim
        | _ => exact w.elim
    | nil =>
      cases r with
      | lst h n nz r =>
        obtain ⟨ns, rfl, w1, w⟩ := w
        have e := repInts r
        subst e
        exact .inl ⟨_, ns, rfl, SqL.of h, w1, fun m h1 h2 => k.same s t (.int _) (w m h1 h2)⟩
      | _ => exact w.elim
theorem sem_min (hc : X.calm = true) : SemN X tb (.builtin "min") (dBi .min) := by
  refine ⟨_, callR_or (cr_min hc) (call_min2 hc), fun Z ds vs S H Q Qv s t r w k => ?_⟩
  cases r with
  | nil => exact w.elim
  | cons r r2 =>
    cases r2 with
    | cons r2 r3 =>
      cases r3 with
      | cons _ _ => cases r <;> cases r2 <;> exact w.elim
      | nil =>
        cases r with
        | int i =>
          cases r2 with
          | int j => exact .inr ⟨i, j, rfl, k.same s t (.int _) w⟩
          | _ => exact w.elim
        | lst _ _ _ _ => cases r2 <;> exact w.elim
        | _ => exact w.elim
    | nil =>
      cases r with
      | lst h n nz r =>
        obtain ⟨ns, rfl, w1, w⟩ := w
        have e := repInts r
        subst e
        exact .inl ⟨_, ns, rfl, SqL.of h, w1, fun m h1 h2 => k.same s t (.int _) (w m h1 h2)⟩
      | _ => exact w.elim
theorem sem_bi (hc : X.calm = true) : ∀ b : BI, SemN X tb b.val (dBi b)
  | .abs => sem_abs
  | .len => sem_len
  | .int => sem_int
  | .tuple => sem_tuple
  | .list mu => sem_list mu
  | .sum => sem_sum hc
  | .max => sem_max hc
  | .min => sem_min hc

/-! ### isinstance -/
def TN.nm : TN → Str
  | .int => "int" | .bool => "bool" | .str => "str" | .tuple => "tuple"
def TN.ty : TN → String
  | .int => "int" | .bool => "bool" | .str => "str" | .tuple => "tuple"
theorem boot_tn : ∀ t : TN, bootBuiltins t.nm = some (.type t.ty)
  | .int => by decide +kernel
  | .bool => by decide +kernel
  | .str => by decide +kernel
  | .tuple => by decide +kernel
theorem boot_bi : ∀ b : BI, bootBuiltins b.nm = some b.val
  | .abs => by decide +kernel
  | .len => by decide +kernel
  | .int => by decide +kernel
  | .tuple => by decide +kernel
  | .list _ => (by decide +kernel : bootBuiltins ("list" : Str) = some (.type "list"))
  | .sum => by decide +kernel
  | .max => by decide +kernel
  | .min => by decide +kernel
theorem kit_non : ∀ t : TN, kitB "NoneType" t.ty = some false := by intro t; cases t <;> decide +kernel
theorem kit_bool : ∀ t : TN, kitB "bool" t.ty = some (decide (t = .int ∨ t = .bool)) := by intro t; cases t <;> decide +kernel
theorem kit_int : ∀ t : TN, kitB "int" t.ty = some (decide (t = .int)) := by intro t; cases t <;> decide +kernel
theorem kit_str : ∀ t : TN, kitB "str" t.ty = some (decide (t = .str)) := by intro t; cases t <;> decide +kernel
theorem kit_tuple : ∀ t : TN, kitB "tuple" t.ty = some (decide (t = .tuple)) := by intro t; cases t <;> decide +kernel
theorem kit_list : ∀ t : TN, kitB "list" t.ty = some false := by intro t; cases t <;> decide +kernel
theorem sqT_ty {H : Hp} {a : Addr} {vs : List V} (h : SqT X.K H a vs) : TyX X.K H (.ref a) (.type "tuple") := by
  rcases h with (h | ⟨o, h⟩) | ⟨o, its, n, h, hc, _⟩
  · exact .base (.tup h)
  · exact .fTuple h
  · exact .kTuple h hc
theorem isi_sem {x : D} {v : V} {S : Sto} {H : Hp} {t : TN} {Q : Bool → Prop} (s : SRep X.K Z S H) (r : Rep X.K Z S H x v) (w : dIsi S x t Q) : ∃ (u : Value) (b : Bool), TyX X.K H v u ∧ PySem.W.kitOne X.K u (.type t.ty) = some b ∧ Q b := by
  cases r with
  | non => exact ⟨_, _, .base .non, kit_ty (kit_non t), w⟩
  | bl b => exact ⟨_, _, .base (.bl b), kit_ty (kit_bool t), w⟩
  | int i => exact ⟨_, _, .base (.int i), kit_ty (kit_int t), w⟩
  | str z => exact ⟨_, _, .base (.str z), kit_ty (kit_str t), w⟩
  | tup h r => exact ⟨_, _, sqT_ty h, kit_ty (kit_tuple t), w⟩
  | lst h n nz r => exact ⟨_, _, .base (.lst h), kit_ty (kit_list t), w⟩
  | scr h r =>
    cases h with
    | frz o h => exact ⟨_, _, .base (.frz h), kit_ty (kit_list t), w⟩
    | txt o its n h hc _ _ _ _ => exact ⟨_, _, .kList h hc, kit_ty (kit_list t), w⟩
  | ref l =>
    obtain ⟨xs, e, w⟩ := w
    obtain ⟨vs, h, h2, r⟩ := s.sqL e l
    exact ⟨_, _, .base (.lst h), kit_ty (kit_list t), w⟩
  | dct l => exact w.elim

/-! ### places and slices -/
theorem atI_rep {S : Sto} {H : Hp} {ds : List D} {vs : List V} {i : Int} {d : D} (r : RepL X.K Z S H ds vs) (e : atI ds i = some d) : ∃ v, atI vs i = some v ∧ Rep X.K Z S H d v := by
  unfold atI at e ⊢
  rw [r.length] at e
  cases h : ixN vs.length i with
  | none => rw [h] at e; cases e
  | some j => rw [h] at e; exact r.get e
theorem ix_sem : ∃ r : R2, IxR X r ∧ ∀ (Z : Addr → Prop) (x i : D) (v u : V) (S : Sto) (H : Hp) (Q : D → Sto → Prop) (Qv : VK), SRep X.K Z S H → Tabs tb H → Rep X.K Z S H x v → Rep X.K Z S H i u → (dIx S x i fun z => Q z S) → Aft X.K tb Z S H Q Qv → r v u H Qv := by
  refine ⟨_, ix_list.or ix_tup, fun Z x i v u S H Q Qv s t rx ri w k => ?_⟩
  cases rx with
  | tup h r =>
    cases ri <;> try exact w.elim
    obtain ⟨d, e, w⟩ := w
    obtain ⟨z, e2, r2⟩ := atI_rep r e
    exact .inr ⟨_, _, _, _, rfl, rfl, h, e2, k.same s t r2 w⟩
  | lst h n nz r =>
    cases ri <;> try exact w.elim
    obtain ⟨d, e, w⟩ := w
    obtain ⟨z, e2, r2⟩ := atI_rep r e
    exact .inl ⟨_, _, _, _, rfl, rfl, SqL.of h, e2, k.same s t r2 w⟩
  | scr h r =>
    cases ri <;> try exact w.elim
    obtain ⟨d, e, w⟩ := w
    obtain ⟨z, e2, r2⟩ := atI_rep r e
    exact .inl ⟨_, _, _, _, rfl, rfl, h.sq, e2, k.same s t r2 w⟩
  | ref l =>
    cases ri <;> try exact w.elim
    obtain ⟨xs, d, e0, e, w⟩ := w
    obtain ⟨vs, h, h2, r⟩ := s.sqL e0 l
    obtain ⟨z, e2, r2⟩ := atI_rep r e
    exact .inl ⟨_, _, _, _, rfl, rfl, h2, e2, k.same s t r2 w⟩
  | _ => cases ri <;> exact w.elim
/-- the same, read alone -/
theorem get_list : PGet X (rIxL X.K) := by
  intro pins s σ H x y v u Q I rx ry h
  obtain ⟨p, xs, i, z, rfl, rfl, hq, he, q⟩ := h
  cases rx
  obtain ⟨t, rfl⟩ := ry
  obtain ⟨its, r, pl, hz⟩ := I.list hq
  obtain ⟨j, h1, h2, h3, h4, h5⟩ := atI_get he
  obtain ⟨w, ew, rw'⟩ := r.get h2
  have hl := r.length
  have hn := line63
  have fin : EP X pins σ Q w s := ⟨z, H, I, rw', q⟩
  by_cases h0 : 0 ≤ i
  · have hj : i.toNat = j := by
      rw [seqIndex_of h0 h5] at h1
      exact Option.some.inj h1
    exact wpAny_getItem_list pl.isList h0 (by omega) (by rw [hj]; simpa using ew) fin
  · have hj : (i + (its.toArray.size : Int)).toNat = j := by
      rw [seqIndex_neg (by omega) h4] at h1
      rw [List.size_toArray, ← hl]
      exact Option.some.inj h1
    exact wpAny_getItem_list_neg pl.isList (by omega) (by rw [List.size_toArray] <;> omega) (by omega) (by rw [hj]; simpa using ew) fin
theorem pget_sem : ∃ r : V → V → Hp → VK → Prop, PGet X r ∧ ∀ (Z : Addr → Prop) (x i : D) (v u : V) (S : Sto) (H : Hp) (Q : D → Sto → Prop) (Qv : VK), SRep X.K Z S H → Tabs tb H → Rep X.K Z S H x v → Rep X.K Z S H i u → (dIx S x i fun z => Q z S) → Aft X.K tb Z S H Q Qv → (∃ a, x = .ref a) → r v u H Qv := by
  refine ⟨_, get_list, fun Z x i v u S H Q Qv s t rx ri w k ⟨a, ea⟩ => ?_⟩
  subst ea
  cases rx
  rename_i l
  cases ri <;> try exact w.elim
  obtain ⟨xs, d, e0, e, w⟩ := w
  obtain ⟨vs, h, h2, r⟩ := s.sqL e0 l
  obtain ⟨z, e2, r2⟩ := atI_rep r e
  exact ⟨_, _, _, _, rfl, rfl, h2, e2, k.same s t r2 w⟩
theorem sl_sem : ∃ r : V → Option Int → Option Int → Hp → VK → Prop, SlR X r ∧ ∀ (Z : Addr → Prop) (x : D) (lo hi : Option Int) (v : V) (S : Sto) (H : Hp) (Q : D → Sto → Prop) (Qv : VK), SRep X.K Z S H → Tabs tb H → Rep X.K Z S H x v → (dSl S x lo hi fun z => Q z S) → Aft X.K tb Z S H Q Qv → r v lo hi H Qv := by
  refine ⟨_, sl_list.or sl_tupA, fun Z x lo hi v S H Q Qv s t rx w k => ?_⟩
  cases rx with
  | @tup a vs ds h r =>
    have w : Q (.tup (cutD ds lo hi)) S := w
    refine .inr ⟨_, _, rfl, h, fun e => ?_, fun _ p hp => k.tup s t (r.cut lo hi) w hp⟩
    have e1 : cutD ds lo hi = ds := by
      unfold cutD
      rw [r.length, e.1, e.2, Nat.sub_zero, List.drop_zero, ← r.length, List.take_length]
    rw [e1] at w
    exact k.same s t (.tup h r) w
  | lst h n nz r => exact .inl ⟨_, _, rfl, SqL.of h, fun p hp => k.lst s t (r.cut lo hi) w hp⟩
  | scr h r => exact .inl ⟨_, _, rfl, h.sq, fun p hp => k.lst s t (r.cut lo hi) w hp⟩
  | ref l =>
    obtain ⟨xs, e0, w⟩ := w
    obtain ⟨vs, h, h2, r⟩ := s.sqL e0 l
    exact .inl ⟨_, _, rfl, h2, fun p hp => k.lst s t (r.cut lo hi) w hp⟩
  | _ => exact w.elim

/-! ### methods of lists, stores -/
def LM.id : LM → String
  | .append => "list.append" | .pop => "list.pop" | .reverse => "list.reverse"
def LM.nm : LM → Str
  | .append => "append" | .pop => "pop" | .reverse => "reverse"
def SemM (X : Cx) (tb : List Addr) (m : LM) : Prop :=
  ∃ r : V → List V → Hp → VK → Prop, MtR X m.id r ∧ ∀ (Z : Addr → Prop) (x : D) (v : V) (ds : List D) (vs : List V) (S : Sto) (H : Hp) (Q : D → Sto → Prop) (Qv : VK), SRep X.K Z S H → Tabs tb H → Rep X.K Z S H x v → RepL X.K Z S H ds vs → dMeth m x ds S Q → Aft X.K tb Z S H Q Qv → r v vs H Qv
theorem sem_meth : ∀ m : LM, SemM X tb m
  | .append => by
    refine ⟨_, mt_append, fun Z x v ds vs S H Q Qv s t rx r w k => ?_⟩
    cases rx <;> try exact w.elim
    rename_i l
    cases r with
    | nil => exact w.elim
    | cons r1 r2 =>
      cases r2 with
      | cons _ _ => exact w.elim
      | nil =>
        obtain ⟨xs, e, hl, w⟩ := w
        obtain ⟨ws, h, h2, r⟩ := s.sqL e l
        exact ⟨_, _, _, rfl, rfl, h, by rw [LIM_eq, ← r.length]; exact hl, k _ _ _ _ (Ext.chg h e) (s.chg h e (r.snoc r1)) (t.chg s e) .non w⟩
  | .pop => by
    refine ⟨fun x vs H Q => rPop x vs H Q ∨ rPopAt x vs H Q, fun pins s σ H x v vs us Q I rx rv h => h.elim (fun h => mt_pop pins s σ H x v vs us Q I rx rv h) fun h => mt_popAt pins s σ H x v vs us Q I rx rv h, fun Z x v ds vs S H Q Qv s t rx r w k => ?_⟩
    cases rx <;> try exact w.elim
    rename_i l
    cases r with
    | nil =>
      obtain ⟨xs, d, e, hl, w⟩ := w
      obtain ⟨ws, h, h2, r⟩ := s.sqL e l
      obtain ⟨z, hz, rz⟩ := r.get hl
      exact .inl ⟨_, _, _, rfl, rfl, h, by rw [← r.length]; exact hz, k _ _ _ _ (Ext.chg h e) (s.chg h e r.dropLast) (t.chg s e) (rz.ext s (Ext.chg h e)) w⟩
    | cons r1 r2 =>
      cases r2 with
      | cons _ _ => cases r1 <;> exact w.elim
      | nil =>
        cases r1 <;> try exact w.elim
        obtain ⟨xs, d, j, e, h3, hj, hl, w⟩ := w
        obtain ⟨ws, h, h2, r⟩ := s.sqL e l
        obtain ⟨z, hz, rz⟩ := r.get hl
        exact .inr ⟨_, _, _, _, _, rfl, rfl, h, h3.1, h3.2, by rw [← r.length]; exact hj, hz, k _ _ _ _ (Ext.chg h e) (s.chg h e (r.eraseIdx j)) (t.chg s e) (rz.ext s (Ext.chg h e)) w⟩
  | .reverse => by
    refine ⟨_, mt_reverse, fun Z x v ds vs S H Q Qv s t rx r w k => ?_⟩
    cases rx <;> try exact w.elim
    rename_i l
    cases r with
    | cons _ _ => exact w.elim
    | nil =>
      obtain ⟨xs, e, w⟩ := w
      obtain ⟨ws, h, h2, r⟩ := s.sqL e l
      exact ⟨_, _, rfl, rfl, h, k _ _ _ _ (Ext.chg h e) (s.chg h e r.reverse) (t.chg s e) .non w⟩
theorem lm_slot : ∀ m : LM, Slot "list" m.nm m.id
  | .append => PySem.F.slot_list_append
  | .pop => PySem.F.slot_list_pop
  | .reverse => PySem.F.slot_list_reverse
theorem lm_type : ∀ m : LM, typeOf (.builtin m.id) = pure (.type "method_descriptor")
  | .append => PySem.F.type_list_append
  | .pop => PySem.F.type_list_pop
  | .reverse => PySem.F.type_list_reverse
/-- what follows a store -/
theorem set_sem : ∃ r : TSet, PSet X r ∧ ∀ (Z : Addr → Prop) (x i d : D) (v u z : V) (S : Sto) (H : Hp) (Q : Sto → Prop) (Qv : Hp → Prop), SRep X.K Z S H → Tabs tb H → Rep X.K Z S H x v → Rep X.K Z S H i u → Rep X.K Z S H d z → dSet x i d S Q →
    (∀ S' H', Ext S H S' H' → SRep X.K Z S' H' → Tabs tb H' → Q S' → Qv H') → r v u z H Qv := by
  refine ⟨_, set_list, fun Z x i d v u z S H Q Qv s t rx ri rd w k => ?_⟩
  cases rx <;> try exact w.elim
  rename_i l
  cases ri <;> try exact w.elim
  obtain ⟨xs, j, e, hj, w⟩ := w
  obtain ⟨ws, h, h2, r⟩ := s.sqL e l
  exact ⟨_, _, _, _, rfl, rfl, h, by rw [← r.length]; exact hj, k _ _ (Ext.chg h e) (s.chg h e (r.set rd j)) (t.chg s e) w⟩
/-- op= of ints -/
theorem aug_sem (hp : PyRoom X) : ∀ o : BO, ∃ r : TIp, PIp X o.op r ∧ ∀ (Z : Addr → Prop) (x y : D) (v u : V) (S : Sto) (H : Hp) (Q : D → Sto → Prop) (Qv : VK), SRep X.K Z S H → Tabs tb H → Rep X.K Z S H x v → Rep X.K Z S H y u → (dAug o x y fun z => Q z S) → Aft X.K tb Z S H Q Qv → r v u H Qv
  | .add => ⟨_, ip_add, fun Z x y v u S H Q Qv s t rx ry w k => by
    cases rx <;> try exact w.elim
    rename_i l
    cases ry <;> try exact w.elim
    exact ⟨_, _, rfl, rfl, k.same s t (.int _) w⟩⟩
  | .sub => ⟨_, ip_sub, fun Z x y v u S H Q Qv s t rx ry w k => by
    cases rx <;> try exact w.elim
    rename_i l
    cases ry <;> try exact w.elim
    exact ⟨_, _, rfl, rfl, k.same s t (.int _) w⟩⟩
  | .mul => ⟨fun x y H Q => ∃ i j, x = .int i ∧ y = .int j ∧ MulOk i j ∧ Q (.int (i * j)) H, fun pins s σ H x y v u Q I r1 r2 h => by
    obtain ⟨i, j, rfl, rfl, hm, q⟩ := h
    obtain ⟨t, rfl⟩ := r1
    obtain ⟨t', rfl⟩ := r2
    exact imul_int ⟨.int _, H, I.tok _, ⟨_, rfl⟩, q⟩ hm, fun Z x y v u S H Q Qv s t rx ry w k => by
    cases rx <;> try exact w.elim
    rename_i l
    cases ry <;> try exact w.elim
    exact ⟨_, _, rfl, rfl, w.1, k.same s t (.int _) w.2⟩⟩
  | .fdiv => ⟨fun x y H Q => ∃ i j, x = .int i ∧ y = .int j ∧ j ≠ 0 ∧ Q (.int (i.fdiv j)) H, fun pins s σ H x y v u Q I r1 r2 h => by
    obtain ⟨i, j, rfl, rfl, hm, q⟩ := h
    obtain ⟨t, rfl⟩ := r1
    obtain ⟨t', rfl⟩ := r2
    exact ifloordiv_int hm ⟨.int _, H, I.tok _, ⟨_, rfl⟩, q⟩ (.inr (hp pins s σ H I)), fun Z x y v u S H Q Qv s t rx ry w k => by
    cases rx <;> try exact w.elim
    rename_i l
    cases ry <;> try exact w.elim
    exact ⟨_, _, rfl, rfl, w.1, k.same s t (.int _) w.2⟩⟩
  | .fdivS => ⟨fun x y H Q => ∃ i j, x = .int i ∧ y = .int j ∧ (j ≠ 0 ∧ j.natAbs.log2 < 9000) ∧ Q (.int (i.fdiv j)) H, fun pins s σ H x y v u Q I r1 r2 h => by
    obtain ⟨i, j, rfl, rfl, hm, q⟩ := h
    obtain ⟨t, rfl⟩ := r1
    obtain ⟨t', rfl⟩ := r2
    exact ifloordiv_int hm.1 ⟨.int _, H, I.tok _, ⟨_, rfl⟩, q⟩ (.inl (PyProof.noPylong_of_log2 hm.2)), fun Z x y v u S H Q Qv s t rx ry w k => by
    cases rx <;> try exact w.elim
    rename_i l
    cases ry <;> try exact w.elim
    exact ⟨_, _, rfl, rfl, w.1, k.same s t (.int _) w.2⟩⟩
  | .mod => ⟨fun x y H Q => ∃ i j, x = .int i ∧ y = .int j ∧ j ≠ 0 ∧ Q (.int (i.fmod j)) H, fun pins s σ H x y v u Q I r1 r2 h => by
    obtain ⟨i, j, rfl, rfl, hm, q⟩ := h
    obtain ⟨t, rfl⟩ := r1
    obtain ⟨t', rfl⟩ := r2
    exact imod_int hm ⟨.int _, H, I.tok _, ⟨_, rfl⟩, q⟩, fun Z x y v u S H Q Qv s t rx ry w k => by
    cases rx <;> try exact w.elim
    rename_i l
    cases ry <;> try exact w.elim
    exact ⟨_, _, rfl, rfl, w.1, k.same s t (.int _) w.2⟩⟩
  | .pow => ⟨fun _ _ _ _ => False, fun _ _ _ _ _ _ _ _ _ _ _ _ h => h.elim, fun Z x y v u S H Q Qv s t rx ry w k => by
    exact w.elim⟩
end
end DL

set_option Elab.async false
set_option linter.all false
set_option maxRecDepth 100000
set_option maxHeartbeats 4000000
/-! DL5: expressions, tests, walked things: from the asking over data to the reading over the heap. -/
namespace DL
open PySem PySem.Spec PyProof.Rows L2 RZ

section
variable (K : PySem.W.Frag) (tb : List Addr)
/-- what is asked over data, as a reading -/
def tD (w : Rho → Sto → (D → Sto → Prop) → Prop) : TE := fun σ H Qv => ∃ Z ρ S Q, Sim K tb Z ρ S σ H ∧ w ρ S Q ∧ Aft K tb Z S H Q Qv
def tDL (w : Rho → Sto → (List D → Sto → Prop) → Prop) : TA := fun σ H Qv => ∃ Z ρ S Q, Sim K tb Z ρ S σ H ∧ w ρ S Q ∧ ∀ ds S' vs H', Ext S H S' H' → SRep K Z S' H' → Tabs tb H' → RepL K Z S' H' ds vs → Q ds S' → Qv vs H'
def tDT (w : Rho → Sto → (Bool → Sto → Prop) → Prop) : TT := fun σ H Qv => ∃ Z ρ S Q, Sim K tb Z ρ S σ H ∧ w ρ S Q ∧ ∀ b S' H', Ext S H S' H' → SRep K Z S' H' → Tabs tb H' → Q b S' → Qv b H'
def tDO (w : Rho → Sto → (Option Int → Sto → Prop) → Prop) : TO := fun σ H Qv => ∃ Z ρ S Q, Sim K tb Z ρ S σ H ∧ w ρ S Q ∧ ∀ o S' H', Ext S H S' H' → SRep K Z S' H' → Tabs tb H' → Q o S' → Qv o H'
/-- an iterator that hands out these data as long as what must stay stays -/
def ItOk (Z : Addr → Prop) (S₀ : Sto) (H₀ : Hp) (J : It) (xs : List D) (stay : Sto → Prop) : Prop :=
  ∀ (Z' : Addr → Prop), (∀ a, Z' a → Z a ∨ H₀ a = none) → ∀ (i : Nat) (S : Sto) (H : Hp), Ext S₀ H₀ S H → SRep K Z' S H → Tabs tb H → stay S →
    (∀ d, xs[i]? = some d → J.go i H ∧ ∀ x H2, J.yld i H x H2 → Ext S H S H2 ∧ SRep K Z' S H2 ∧ Tabs tb H2 ∧ Rep K Z' S H2 d x) ∧ (xs.length ≤ i → J.stop i H)
def tDI (w : Rho → Sto → (List D → (Sto → Prop) → Sto → Prop) → Prop) : TI := fun σ H R => ∃ Z ρ S Q, Sim K tb Z ρ S σ H ∧ w ρ S Q ∧ ∀ xs stay S' J H', Ext S H S' H' → SRep K Z S' H' → Tabs tb H' → ItOk K tb Z S' H' J xs stay → Q xs stay S' → R J H'
end
theorem PE.weak {X : Cx} {e : Expr} {t t' : TE} (h : PE X e t) (i : ∀ σ H Q, t' σ H Q → t σ H Q) : PE X e t' := ⟨fun p s σ H Q I w => h.run p s σ H Q I (i _ _ _ w)⟩
theorem PT.weak {X : Cx} {e : Expr} {t t' : TT} (h : PT X e t) (i : ∀ σ H Q, t' σ H Q → t σ H Q) : PT X e t' := ⟨fun p s σ H Q I w => h.run p s σ H Q I (i _ _ _ w)⟩
theorem PW.weak {X : Cx} {e : Expr} {t t' : TT} (h : PW X e t) (i : ∀ σ H Q, t' σ H Q → t σ H Q) : PW X e t' := ⟨fun wh p s σ H Q I w => h.run wh p s σ H Q I (i _ _ _ w)⟩
theorem PA.weak {X : Cx} {e : List Expr} {t t' : TA} (h : PA X e t) (i : ∀ σ H Q, t' σ H Q → t σ H Q) : PA X e t' := ⟨fun q p s σ H Q I w => h.run q p s σ H Q I (i _ _ _ w)⟩
theorem PK.weak {X : Cx} {e : List Keyword} {t t' : TA} (h : PK X e t) (i : ∀ σ H Q, t' σ H Q → t σ H Q) : PK X e t' := ⟨fun q p s σ H Q I w => h.run q p s σ H Q I (i _ _ _ w)⟩
theorem PO.weak {X : Cx} {e : Option Expr} {t t' : TO} (h : PO X e t) (i : ∀ σ H Q, t' σ H Q → t σ H Q) : PO X e t' := ⟨fun p s σ H Q I w => h.run p s σ H Q I (i _ _ _ w)⟩
theorem PI.weak {X : Cx} {tg e : Expr} {t t' : TI} (h : PI X tg e t) (i : ∀ σ H R, t' σ H R → t σ H R) : PI X tg e t' := ⟨fun p s σ H R I w => h.run p s σ H R I (i _ _ _ w)⟩
theorem PS.weak {X : Cx} {e : Stmt} {t t' : TS} (h : PS X e t) (i : ∀ D σ H, t' D σ H → t D σ H) : PS X e t' := ⟨fun p s σ H D I w => h.run p s σ H D I (i _ _ _ w)⟩
theorem PSs.weak {X : Cx} {e : List Stmt} {t t' : TS} (h : PSs X e t) (i : ∀ D σ H, t' D σ H → t D σ H) : PSs X e t' := ⟨fun p s σ H D I w => h.run p s σ H D I (i _ _ _ w)⟩

section
variable {X : Cx} {tb : List Addr} {X' : Mod'} {G : Fns}
abbrev DE (X : Cx) (tb : List Addr) (X' : Mod') (G : Fns) (e : Expr) (m : M) : Prop := PE X e (tD X.K tb (wE X' G m))
abbrev DA (X : Cx) (tb : List Addr) (X' : Mod') (G : Fns) (e : List Expr) (m : M) : Prop := PA X e (tDL X.K tb (wL X' G m))
abbrev DK (X : Cx) (tb : List Addr) (X' : Mod') (G : Fns) (e : List Keyword) (m : M) : Prop := PK X e (tDL X.K tb (wL X' G m))
abbrev DT (X : Cx) (tb : List Addr) (X' : Mod') (G : Fns) (e : Expr) (m : M) : Prop := PT X e (tDT X.K tb (wT X' G m))
abbrev DO (X : Cx) (tb : List Addr) (X' : Mod') (G : Fns) (e : Option Expr) (m : M) : Prop := PO X e (tDO X.K tb (wO X' G m))
abbrev DI (X : Cx) (tb : List Addr) (X' : Mod') (G : Fns) (tg e : Expr) (m : M) : Prop := PI X tg e (tDI X.K tb (wI X' G m))
variable {a b c : Expr} {ma mb mc : M} {pos : Pos}

theorem de_v {i : Nat} {x : Str} (hN : X.N[i]? = some x) (hv : Vis X.env.scope x) (hd : (x == ("__debug__" : Str)) = false) (hcd : (x == ("__classdict__" : Str)) = false) : DE X tb X' G (.Name x pos) (.v i) :=
  PE.weak (pe_var hN hv hd hcd) fun σ H Qv ⟨Z, ρ, S, Q, m, ⟨d, e, w⟩, k⟩ => by
    obtain ⟨v, e1, r⟩ := m.env.at_ i d e
    exact ⟨v, e1, k.same m.sto m.tab r w⟩
theorem de_g {i : Nat} {x : Str} {d : D} {v : V} {u : Value} (hg : Gl X x) (hm : X.mg x = some u) (r : RelV v u) (hd : (x == ("__debug__" : Str)) = false) (hc : X'.consts[i]? = some d) (hr : ∀ Z S H, Rep X.K Z S H d v) : DE X tb X' G (.Name x pos) (.g i) :=
  PE.weak (pe_glob hg hm r hd) fun σ H Qv ⟨Z, ρ, S, Q, m, ⟨d', e, w⟩, k⟩ => by
    rw [hc] at e; cases e
    exact k.same m.sto m.tab (hr Z S H) w
theorem de_int {i : Int} {j : Nat} : DE X tb X' G (.Constant (.int i) j pos) (.c (.int i)) := PE.weak pe_int fun σ H Qv ⟨Z, ρ, S, Q, m, w, k⟩ => k.same m.sto m.tab (.int i) w
theorem de_bl {i : Bool} {j : Nat} : DE X tb X' G (.Constant (.bool i) j pos) (.c (.bl i)) := PE.weak pe_bl fun σ H Qv ⟨Z, ρ, S, Q, m, w, k⟩ => k.same m.sto m.tab (.bl i) w
theorem de_non {j : Nat} : DE X tb X' G (.Constant .none j pos) (.c .non) := PE.weak pe_non fun σ H Qv ⟨Z, ρ, S, Q, m, w, k⟩ => k.same m.sto m.tab .non w
theorem de_str {x : Str} {j : Nat} : DE X tb X' G (.Constant (.str x) j pos) (.c (.str x)) := PE.weak pe_str fun σ H Qv ⟨Z, ρ, S, Q, m, w, k⟩ => k.same m.sto m.tab (.str x) w
theorem da_nil : DA X tb X' G [] .nil := PA.weak pa_nil fun σ H Qv ⟨Z, ρ, S, Q, m, w, k⟩ => k [] S [] H Ext.refl m.sto m.tab .nil w
theorem da_cons {es : List Expr} (ha : DE X tb X' G a ma) (hb : DA X tb X' G es mb) (hs : starEach (a :: es) X.env = (false, eval a X.env) :: starEach es X.env) : DA X tb X' G (a :: es) (.cons ma mb) :=
  PA.weak (pa_cons ha hb hs) fun σ H Qv ⟨Z, ρ, S, Q, m, w, k⟩ =>
    ⟨Z, ρ, S, _, m, w, fun d S1 v H1 x1 s1 t1 r1 w1 => ⟨Z, ρ, S1, _, m.go x1 s1 t1, w1, fun ds S2 vs H2 x2 s2 t2 r2 w2 => k _ _ _ _ (x1.trans x2) s2 t2 (.cons (r1.ext s1 x2) r2) w2⟩⟩
theorem dk_nil : DK X tb X' G [] .nil := PK.weak pk_nil fun σ H Qv ⟨Z, ρ, S, Q, m, w, k⟩ => k [] S [] H Ext.refl m.sto m.tab .nil w
theorem dk_cons {es : List Keyword} {nm : Option Str} {kpos : Pos} (ha : DE X tb X' G a ma) (hb : DK X tb X' G es mb) : DK X tb X' G (⟨nm, a, kpos⟩ :: es) (.cons ma mb) :=
  PK.weak (pk_cons ha hb) fun σ H Qv ⟨Z, ρ, S, Q, m, w, k⟩ =>
    ⟨Z, ρ, S, _, m, w, fun d S1 v H1 x1 s1 t1 r1 w1 => ⟨Z, ρ, S1, _, m.go x1 s1 t1, w1, fun ds S2 vs H2 x2 s2 t2 r2 w2 => k _ _ _ _ (x1.trans x2) s2 t2 (.cons (r1.ext s1 x2) r2) w2⟩⟩
theorem de_tup {es : List Expr} {j : Nat} (ha : DA X tb X' G es ma) : DE X tb X' G (.Tuple es j pos) (.tup ma) :=
  PE.weak (pe_tup ha) fun σ H Qv ⟨Z, ρ, S, Q, m, w, k⟩ =>
    ⟨Z, ρ, S, _, m, w, fun ds S1 vs H1 x1 s1 t1 r1 w1 => ⟨by rw [LIM_eq, ← r1.length]; exact w1.1, fun p hp =>
      k _ _ _ _ (x1.trans (Ext.new hp)) (s1.new hp) (t1.new hp) (.tup (SqT.of upd_same) (r1.ext s1 (Ext.new hp))) w1.2⟩⟩
theorem de_lst {es : List Expr} {mu : Bool} (ha : DA X tb X' G es ma) : DE X tb X' G (.List es pos) (.lst mu ma) :=
  PE.weak (pe_lst ha) fun σ H Qv ⟨Z, ρ, S, Q, m, w, k⟩ =>
    ⟨Z, ρ, S, _, m, w, fun ds S1 vs H1 x1 s1 t1 r1 w1 => ⟨by rw [LIM_eq, ← r1.length]; exact w1.1, fun p hp => by
      have w2 := w1.2
      cases mu with
      | true => exact k _ _ _ _ (x1.trans (Ext.newS hp)) (s1.newS hp r1) (t1.new hp) (.ref ⟨_, upd_same⟩) (w2 p (s1.free hp))
      | false => exact k _ _ _ _ (x1.trans (Ext.new hp)) (s1.new hp) (t1.new hp) (.lst upd_same (s1.free hp) (s1.nz hp) (r1.ext s1 (Ext.new hp))) w2⟩⟩
theorem Aft.ext {K : PySem.W.Frag} {Z : Addr → Prop} {S S1 : Sto} {H H1 : Hp} {Q : D → Sto → Prop} {Qv : VK} (k : Aft K tb Z S H Q Qv) (x : Ext S H S1 H1) : Aft K tb Z S1 H1 Q Qv := fun d S' v H' x' s t r q => k d S' v H' (x.trans x') s t r q
theorem de_bin (hp : PyRoom X) {o : BO} (ha : DE X tb X' G a ma) (hb : DE X tb X' G b mb) : DE X tb X' G (.BinOp a o.op b pos) (.bin o ma mb) := by
  obtain ⟨r, hr, hs⟩ := sem_bin (tb := tb) hp o
  exact PE.weak (pe_op hr ha hb) fun σ H Qv ⟨Z, ρ, S, Q, m, w, k⟩ =>
    ⟨Z, ρ, S, _, m, w, fun d S1 v H1 x1 s1 t1 r1 w1 => ⟨Z, ρ, S1, _, m.go x1 s1 t1, w1, fun d2 S2 v2 H2 x2 s2 t2 r2 w2 => hs Z d d2 v v2 S2 H2 Q Qv s2 t2 (r1.ext s1 x2) r2 w2 (k.ext (x1.trans x2))⟩⟩
theorem de_cat (ha : DE X tb X' G a ma) (hb : DE X tb X' G b mb) : DE X tb X' G (.BinOp a .Add b pos) (.cat ma mb) := by
  obtain ⟨r, hr, hs⟩ := sem_cat (X := X) (tb := tb)
  exact PE.weak (pe_op hr ha hb) fun σ H Qv ⟨Z, ρ, S, Q, m, w, k⟩ =>
    ⟨Z, ρ, S, _, m, w, fun d S1 v H1 x1 s1 t1 r1 w1 => ⟨Z, ρ, S1, _, m.go x1 s1 t1, w1, fun d2 S2 v2 H2 x2 s2 t2 r2 w2 => hs Z d d2 v v2 S2 H2 Q Qv s2 t2 (r1.ext s1 x2) r2 w2 (k.ext (x1.trans x2))⟩⟩
theorem de_rep (ha : DE X tb X' G a ma) (hb : DE X tb X' G b mb) : DE X tb X' G (.BinOp a .Mult b pos) (.rep ma mb) := by
  obtain ⟨r, hr, hs⟩ := sem_rep (X := X) (tb := tb)
  exact PE.weak (pe_op hr ha hb) fun σ H Qv ⟨Z, ρ, S, Q, m, w, k⟩ =>
    ⟨Z, ρ, S, _, m, w, fun d S1 v H1 x1 s1 t1 r1 w1 => ⟨Z, ρ, S1, _, m.go x1 s1 t1, w1, fun d2 S2 v2 H2 x2 s2 t2 r2 w2 => hs Z d d2 v v2 S2 H2 Q Qv s2 t2 (r1.ext s1 x2) r2 w2 (k.ext (x1.trans x2))⟩⟩
/-- .. where no large division is made -/
theorem de_binS {o : BO} (ho : o ≠ .fdiv) (ha : DE X tb X' G a ma) (hb : DE X tb X' G b mb) : DE X tb X' G (.BinOp a o.op b pos) (.bin o ma mb) := by
  obtain ⟨r, hr, hs⟩ := sem_binS (X := X) (tb := tb) o ho
  exact PE.weak (pe_op hr ha hb) fun σ H Qv ⟨Z, ρ, S, Q, m, w, k⟩ =>
    ⟨Z, ρ, S, _, m, w, fun d S1 v H1 x1 s1 t1 r1 w1 => ⟨Z, ρ, S1, _, m.go x1 s1 t1, w1, fun d2 S2 v2 H2 x2 s2 t2 r2 w2 => hs Z d d2 v v2 S2 H2 Q Qv s2 t2 (r1.ext s1 x2) r2 w2 (k.ext (x1.trans x2))⟩⟩
theorem de_neg (ha : DE X tb X' G a ma) : DE X tb X' G (.UnaryOp .USub a pos) (.neg ma) :=
  PE.weak (pe_un un_neg ha) fun σ H Qv ⟨Z, ρ, S, Q, m, w, k⟩ =>
    ⟨Z, ρ, S, _, m, w, fun d S1 v H1 x1 s1 t1 r1 w1 => by
      obtain ⟨i, rfl, w2⟩ := w1
      cases r1
      exact ⟨i, rfl, (k.ext x1).same s1 t1 (.int _) w2⟩⟩
theorem de_not (ha : DE X tb X' G a ma) : DE X tb X' G (.UnaryOp .Not a pos) (.not ma) :=
  PE.weak (pe_notT ha) fun σ H Qv ⟨Z, ρ, S, Q, m, w, k⟩ =>
    ⟨Z, ρ, S, _, m, w, fun d S1 v H1 x1 s1 t1 r1 w1 => by
      obtain ⟨b, h1, h2⟩ := tru_sem (X := X) s1 r1 w1
      exact ⟨b, h1, (k.ext x1).same s1 t1 (.bl _) h2⟩⟩
theorem de_cmp (hu : X.A.units + 64 < cLine) {o : CO} (hm : behindInMarks o.op b = false) (ha : DE X tb X' G a ma) (hb : DE X tb X' G b mb) : DE X tb X' G (.Compare a [o.op] [b] pos) (.cmp o ma mb) := by
  obtain ⟨r, hr, hs⟩ := sem_cmp (X := X) (tb := tb) hu o
  exact PE.weak (pe_cmpR hr ha hb hm) fun σ H Qv ⟨Z, ρ, S, Q, m, w, k⟩ =>
    ⟨Z, ρ, S, _, m, w, fun d S1 v H1 x1 s1 t1 r1 w1 => ⟨Z, ρ, S1, _, m.go x1 s1 t1, w1, fun d2 S2 v2 H2 x2 s2 t2 r2 w2 => hs Z d d2 v v2 S2 H2 Q Qv s2 t2 (r1.ext s1 x2) r2 w2 (k.ext (x1.trans x2))⟩⟩
theorem dt_cmp (hu : X.A.units + 64 < cLine) {o : CO} (hm : behindInMarks o.op b = false) (ha : DE X tb X' G a ma) (hb : DE X tb X' G b mb) : DT X tb X' G (.Compare a [o.op] [b] pos) (.cmp o ma mb) := by
  obtain ⟨r, hr, hs⟩ := sem_cmp (X := X) (tb := tb) hu o
  exact PT.weak (pt_cmpR hr ha hb hm) fun σ H Qv ⟨Z, ρ, S, Q, m, w, k⟩ =>
    ⟨Z, ρ, S, _, m, w, fun d S1 v H1 x1 s1 t1 r1 w1 => ⟨Z, ρ, S1, _, m.go x1 s1 t1, w1, fun d2 S2 v2 H2 x2 s2 t2 r2 w2 => hs Z d d2 v v2 S2 H2 (fun z S3 => ∃ k, z = .bl k ∧ Q k S3) _ s2 t2 (r1.ext s1 x2) r2 w2 fun d3 S3 v3 H3 x3 s3 t3 r3 ⟨k', e, q⟩ => by
      subst e
      cases r3
      exact ⟨k', rfl, k k' S3 H3 ((x1.trans x2).trans x3) s3 t3 q⟩⟩⟩
theorem dEq_mono {S : Sto} {x y : D} {P P' : Bool → Prop} (f : ∀ b, P b → P' b) (h : dEq S x y P) : dEq S x y P' := by
  unfold dEq at h ⊢
  split at h
  · exact f _ h
  · exact f _ h
  · exact f _ h
  · obtain ⟨p, q, h1, h2, h3, h4, h5⟩ := h
    exact ⟨p, q, h1, h2, h3, h4, f _ h5⟩
theorem dCmp_mono {S : Sto} {o : CO} {x y : D} {P P' : D → Prop} (f : ∀ z, P z → P' z) (h : dCmp S o x y P) : dCmp S o x y P' := by
  unfold dCmp at h ⊢
  split at h
  · exact dEq_mono (fun _ => f _) h
  · exact dEq_mono (fun _ => f _) h
  · exact f _ h
  · exact f _ h
  · exact f _ h
  · exact f _ h
  · exact f _ h
  · exact f _ h
  · obtain ⟨ns, e, q⟩ := h; exact ⟨ns, e, f _ q⟩
  · obtain ⟨ns, e, q⟩ := h; exact ⟨ns, e, f _ q⟩
  · exact h.elim
theorem de_chain (hu : X.A.units + 64 < cLine) {o o' : CO} (hm : behindInMarks o'.op c = false) (ha : DE X tb X' G a ma) (hb : DE X tb X' G b mb) (hc : DE X tb X' G c mc) : DE X tb X' G (.Compare a [o.op, o'.op] [b, c] pos) (.chain o o' ma mb mc) := by
  obtain ⟨r, hr, hs⟩ := sem_cmp (X := X) (tb := tb) hu o
  obtain ⟨r', hr', hs'⟩ := sem_cmp (X := X) (tb := tb) hu o'
  exact PE.weak (pe_chain hr hr' ha hb hc hm) fun σ H Qv ⟨Z, ρ, S, Q, m, w, k⟩ =>
    ⟨Z, ρ, S, _, m, w, fun d S1 v H1 x1 s1 t1 r1 w1 => ⟨Z, ρ, S1, _, m.go x1 s1 t1, w1, fun d2 S2 v2 H2 x2 s2 t2 r2 w2 =>
      hs Z d d2 v v2 S2 H2 (fun z S3 => S3 = S2 ∧ ∃ k, z = .bl k ∧ if k = true then wE X' G mc ρ S2 fun u S3 => dCmp S3 o' d2 u fun z' => Q z' S3 else Q (.bl false) S2) _ s2 t2 (r1.ext s1 x2) r2 (dCmp_mono (fun z h => ⟨rfl, h⟩) w2) fun d3 S3 v3 H3 x3 s3 t3 r3 ⟨es, k', e, q⟩ => by
        subst e
        subst es
        cases r3
        refine ⟨k', rfl, ?_⟩
        cases k' with
        | true => exact ⟨Z, ρ, S3, _, (m.go x1 s1 t1).go (x2.trans x3) s3 t3, q, fun d4 S4 v4 H4 x4 s4 t4 r4 w4 => hs' Z d2 d4 v2 v4 S4 H4 Q Qv s4 t4 (r2.ext s2 (x3.trans x4)) r4 w4 (k.ext (((x1.trans x2).trans x3).trans x4))⟩
        | false => exact (k.ext ((x1.trans x2).trans x3)).same s3 t3 (.bl _) q⟩⟩

theorem dt_chain (hu : X.A.units + 64 < cLine) {o o' : CO} (hm : behindInMarks o'.op c = false) (ha : DE X tb X' G a ma) (hb : DE X tb X' G b mb) (hc : DE X tb X' G c mc) : DT X tb X' G (.Compare a [o.op, o'.op] [b, c] pos) (.chain o o' ma mb mc) := by
  obtain ⟨r, hr, hs⟩ := sem_cmp (X := X) (tb := tb) hu o
  obtain ⟨r', hr', hs'⟩ := sem_cmp (X := X) (tb := tb) hu o'
  exact PT.weak (pt_chain hr hr' ha hb hc hm) fun σ H Qv ⟨Z, ρ, S, Q, m, w, k⟩ =>
    ⟨Z, ρ, S, _, m, w, fun d S1 v H1 x1 s1 t1 r1 w1 => ⟨Z, ρ, S1, _, m.go x1 s1 t1, w1, fun d2 S2 v2 H2 x2 s2 t2 r2 w2 =>
      hs Z d d2 v v2 S2 H2 (fun z S3 => S3 = S2 ∧ ∃ k, z = .bl k ∧ if k = true then wE X' G mc ρ S2 fun u S3 => dCmp S3 o' d2 u fun z' => ∃ k', z' = .bl k' ∧ Q k' S3 else Q false S2) _ s2 t2 (r1.ext s1 x2) r2 (dCmp_mono (fun z h => ⟨rfl, h⟩) w2) fun d3 S3 v3 H3 x3 s3 t3 r3 ⟨es, k', e, q⟩ => by
        subst e
        subst es
        cases r3
        refine ⟨k', rfl, ?_⟩
        cases k' with
        | true => exact ⟨Z, ρ, S3, _, (m.go x1 s1 t1).go (x2.trans x3) s3 t3, q, fun d4 S4 v4 H4 x4 s4 t4 r4 w4 => hs' Z d2 d4 v2 v4 S4 H4 (fun z S5 => ∃ k', z = .bl k' ∧ Q k' S5) _ s4 t4 (r2.ext s2 (x3.trans x4)) r4 w4 fun d5 S5 v5 H5 x5 s5 t5 r5 ⟨k5, e5, q5⟩ => by
            subst e5
            cases r5
            exact ⟨k5, rfl, k k5 S5 H5 ((((x1.trans x2).trans x3).trans x4).trans x5) s5 t5 q5⟩⟩
        | false => exact ⟨false, rfl, k false S3 H3 ((x1.trans x2).trans x3) s3 t3 q⟩⟩⟩
/-! ### and, or, not, if -/
variable {rest : List Expr}
theorem de_one {op : BoolOp} (ha : DE X tb X' G a ma) : DE X tb X' G (.BoolOp op [a] pos) ma := pe_one ha
theorem de_and (ha : DE X tb X' G a ma) (hb : DE X tb X' G (.BoolOp .And (b :: rest) pos) mb) : DE X tb X' G (.BoolOp .And (a :: b :: rest) pos) (.and ma mb) :=
  PE.weak (pe_and ha hb) fun σ H Qv ⟨Z, ρ, S, Q, m, w, k⟩ =>
    ⟨Z, ρ, S, _, m, w, fun d S1 v H1 x1 s1 t1 r1 ⟨c, e, w1⟩ => by
      subst e
      cases r1
      refine ⟨c, rfl, ?_⟩
      cases c with
      | true => exact ⟨Z, ρ, S1, Q, m.go x1 s1 t1, w1, k.ext x1⟩
      | false => exact (k.ext x1).same s1 t1 (.bl _) w1⟩
theorem de_or (ha : DE X tb X' G a ma) (hb : DE X tb X' G (.BoolOp .Or (b :: rest) pos) mb) : DE X tb X' G (.BoolOp .Or (a :: b :: rest) pos) (.or ma mb) :=
  PE.weak (pe_or ha hb) fun σ H Qv ⟨Z, ρ, S, Q, m, w, k⟩ =>
    ⟨Z, ρ, S, _, m, w, fun d S1 v H1 x1 s1 t1 r1 ⟨c, e, w1⟩ => by
      subst e
      cases r1
      refine ⟨c, rfl, ?_⟩
      cases c with
      | false => exact ⟨Z, ρ, S1, Q, m.go x1 s1 t1, w1, k.ext x1⟩
      | true => exact (k.ext x1).same s1 t1 (.bl _) w1⟩
abbrev DW (X : Cx) (tb : List Addr) (X' : Mod') (G : Fns) (e : Expr) (m : M) : Prop := PW X e (tDT X.K tb (wT X' G m))
theorem dw_and1 (ha : DT X tb X' G a ma) : DW X tb X' G (.BoolOp .And [a] pos) ma := pw_and1 ha
theorem dw_or1 (ha : DT X tb X' G a ma) : DW X tb X' G (.BoolOp .Or [a] pos) ma := pw_or1 ha
theorem dw_and (ha : DT X tb X' G a ma) (hb : DW X tb X' G (.BoolOp .And (b :: rest) pos) mb) : DW X tb X' G (.BoolOp .And (a :: b :: rest) pos) (.and ma mb) :=
  PW.weak (pw_and ha hb) fun σ H Qv ⟨Z, ρ, S, Q, m, w, k⟩ =>
    ⟨Z, ρ, S, _, m, w, fun c S1 H1 x1 s1 t1 w1 => by
      cases c with
      | true => exact ⟨Z, ρ, S1, Q, m.go x1 s1 t1, w1, fun b S2 H2 x2 s2 t2 q => k b S2 H2 (x1.trans x2) s2 t2 q⟩
      | false => exact k false S1 H1 x1 s1 t1 w1⟩
theorem dw_or (ha : DT X tb X' G a ma) (hb : DW X tb X' G (.BoolOp .Or (b :: rest) pos) mb) : DW X tb X' G (.BoolOp .Or (a :: b :: rest) pos) (.or ma mb) :=
  PW.weak (pw_or ha hb) fun σ H Qv ⟨Z, ρ, S, Q, m, w, k⟩ =>
    ⟨Z, ρ, S, _, m, w, fun c S1 H1 x1 s1 t1 w1 => by
      cases c with
      | false => exact ⟨Z, ρ, S1, Q, m.go x1 s1 t1, w1, fun b S2 H2 x2 s2 t2 q => k b S2 H2 (x1.trans x2) s2 t2 q⟩
      | true => exact k true S1 H1 x1 s1 t1 w1⟩
theorem dt_not (ha : DT X tb X' G a ma) : DT X tb X' G (.UnaryOp .Not a pos) (.not ma) :=
  PT.weak (pt_not ha) fun σ H Qv ⟨Z, ρ, S, Q, m, w, k⟩ => ⟨Z, ρ, S, _, m, w, fun c S1 H1 x1 s1 t1 w1 => k _ S1 H1 x1 s1 t1 w1⟩
theorem dt_tv (ha : DE X tb X' G a ma) (he : ∀ whole, isTrue a X.env whole = (do let v ← whole; standAt a.pos; holding [v] (truthy v))) : DT X tb X' G a (.tv ma) :=
  PT.weak (pt_truth ha he) fun σ H Qv ⟨Z, ρ, S, Q, m, w, k⟩ => ⟨Z, ρ, S, _, m, w, fun d S1 v H1 x1 s1 t1 r1 w1 => by
    obtain ⟨b, h1, h2⟩ := tru_sem (X := X) s1 r1 w1
    exact ⟨b, h1, k b S1 H1 x1 s1 t1 h2⟩⟩
theorem de_ite (hc : DT X tb X' G c mc) (ha : DE X tb X' G a ma) (hb : DE X tb X' G b mb) : DE X tb X' G (.IfExp c a b pos) (.ite mc ma mb) :=
  PE.weak (pe_ifExp hc ha hb) fun σ H Qv ⟨Z, ρ, S, Q, m, w, k⟩ => ⟨Z, ρ, S, _, m, w, fun c S1 H1 x1 s1 t1 w1 => by
    cases c with
    | true => exact ⟨Z, ρ, S1, Q, m.go x1 s1 t1, w1, k.ext x1⟩
    | false => exact ⟨Z, ρ, S1, Q, m.go x1 s1 t1, w1, k.ext x1⟩⟩

/-! ### calls -/
/-- what a def promises -/
def spD (K : PySem.W.Frag) (tb : List Addr) (G : Fns) (f : Nat) : Sp := fun vs H Qv _ => ∃ Z ds S Q, RepL K Z S H ds vs ∧ SRep K Z S H ∧ Tabs tb H ∧ G f ds S Q ∧ Aft K tb Z S H Q Qv
theorem call_spD {Z : Addr → Prop} {σ : L2.St} {w : Rho → Sto → (List D → Sto → Prop) → Prop} {H : Hp} {f : Nat} {ρ : Rho} {S : Sto} {Q : D → Sto → Prop} {Qv : VK} (m : Sim X.K tb Z ρ S σ H) (w : wL X' G ma ρ S fun ds S1 => G f ds S1 Q) (k : Aft X.K tb Z S H Q Qv) :
    tDL X.K tb (wL X' G ma) σ H fun vs H1 => spD X.K tb G f (vs ++ []) H1 Qv E0 :=
  ⟨Z, ρ, S, _, m, w, fun ds S1 vs H1 x1 s1 t1 r1 w1 => ⟨Z, ds, S1, Q, by rw [List.append_nil]; exact r1, s1, t1, w1, k.ext x1⟩⟩
theorem de_call {lev f : Nat} {fa : Addr} {fd : FuncData} {ps : List Str} {x : Str} {p : Pos} {es : List Expr} (F : FnOk X.prog X.w X.K X.mg X.base CX0 lev fa fd ps (spD X.K tb G f)) (hr : Room lev X.A) (hg : Gl X x) (hm : X.mg x = some (.ref fa)) (hk : PySem.W.keepIn X.K (.ref fa) = true)
    (hb : Binds X.K fd ps []) (ha : DA X tb X' G (a :: es) ma) (hdb : (x == ("__debug__" : Str)) = false) (he : starEach (a :: es) X.env = (false, eval a X.env) :: starEach es X.env) (hpl : (backTo pos (starEach es X.env)).any (·.1) = false) :
    DE X tb X' G (.Call (.Name x p) (a :: es) [] pos) (.call f ma) :=
  PE.weak (pe_call F hr hg hm hk hb .nil pass0 ha hdb he hpl) fun σ H Qv ⟨Z, ρ, S, Q, m, w, k⟩ =>
    ⟨Z, ρ, S, _, m, w, fun ds S1 vs H1 x1 s1 t1 r1 w1 => ⟨Z, ds, S1, Q, by rw [List.append_nil]; exact r1, s1, t1, w1, k.ext x1⟩⟩
theorem de_call0 {lev f : Nat} {fa : Addr} {fd : FuncData} {ps : List Str} {x : Str} {p : Pos} (F : FnOk X.prog X.w X.K X.mg X.base CX0 lev fa fd ps (spD X.K tb G f)) (hr : Room lev X.A) (hg : Gl X x) (hm : X.mg x = some (.ref fa)) (hk : PySem.W.keepIn X.K (.ref fa) = true)
    (hb : Binds X.K fd ps []) (hdb : (x == ("__debug__" : Str)) = false) : DE X tb X' G (.Call (.Name x p) [] [] pos) (.call f .nil) :=
  PE.weak (pe_call0 F hr hg hm hk hb .nil pass0 hdb) fun σ H Qv ⟨Z, ρ, S, Q, m, w, k⟩ => ⟨Z, [], S, Q, .nil, m.sto, m.tab, w, k⟩
theorem RepL.arr {K : PySem.W.Frag} {Z : Addr → Prop} {S : Sto} {H : Hp} {ds es : List D} {vs zs : List V} (r : RepL K Z S H ds vs) (r2 : RepL K Z S H es zs) (n m : Nat) (p : List Nat) : RepL K Z S H (arr n m p ds es) (arr n m p vs zs) := by
  unfold DL.arr
  rw [r.length, r2.length]
  split
  · exact (r.append r2).filterMap p
  · exact .nil
theorem de_callK {lev f kp n m : Nat} {pr : List Nat} {fa : Addr} {fd : FuncData} {ps ks : List Str} {x : Str} {p : Pos} {es : List Expr} {kws : List Keyword} {mk : M} (F : FnOk X.prog X.w X.K X.mg X.base CX0 lev fa fd ps (spD X.K tb G f)) (hr : Room lev X.A) (hg : Gl X x) (hm : X.mg x = some (.ref fa)) (hk : PySem.W.keepIn X.K (.ref fa) = true)
    (hb : KBinds X.K fd ps ks (arr n m pr) (arr n m pr)) (hkp : X'.kps[kp]? = some (n, m, pr)) (ha : DA X tb X' G (a :: es) ma) (hkw : DK X tb X' G kws mk) (hall : (backToKw pos (keywordEach kws X.env)).all (·.1.isSome) = true) (hks : (backToKw pos (keywordEach kws X.env)).filterMap (·.1) = ks)
    (hdb : (x == ("__debug__" : Str)) = false) (he : starEach (a :: es) X.env = (false, eval a X.env) :: starEach es X.env)
    (hpl : ((backTo pos (starEach (a :: es) X.env)).any (·.1) || (backToKw pos (keywordEach kws X.env)).any (·.1.isNone)) = false) :
    DE X tb X' G (.Call (.Name x p) (a :: es) kws pos) (.callK f ma mk kp) :=
  PE.weak (pe_callK F hr hg hm hk hb pass0 ha hkw hall hks hdb he hpl) fun σ H Qv ⟨Z, ρ, S, Q, m, w, k⟩ =>
    ⟨Z, ρ, S, _, m, w, fun ds S1 vs H1 x1 s1 t1 r1 w1 => ⟨Z, ρ, S1, _, m.go x1 s1 t1, w1, fun es S2 zs H2 x2 s2 t2 r2 w2 => by
      obtain ⟨n', m', p', e, w2⟩ := w2
      rw [hkp] at e; cases e
      exact ⟨Z, _, S2, Q, (r1.ext s1 x2).arr r2 _ _ _, s2, t2, w2, k.ext (x1.trans x2)⟩⟩⟩
theorem de_callK0 {lev f kp n m : Nat} {pr : List Nat} {fa : Addr} {fd : FuncData} {ps ks : List Str} {x : Str} {p : Pos} {kws : List Keyword} {mk : M} (F : FnOk X.prog X.w X.K X.mg X.base CX0 lev fa fd ps (spD X.K tb G f)) (hr : Room lev X.A) (hg : Gl X x) (hm : X.mg x = some (.ref fa)) (hk : PySem.W.keepIn X.K (.ref fa) = true)
    (hb : KBinds X.K fd ps ks (arr n m pr) (arr n m pr)) (hkp : X'.kps[kp]? = some (n, m, pr)) (hkw : DK X tb X' G kws mk) (hall : (backToKw pos (keywordEach kws X.env)).all (·.1.isSome) = true) (hks : (backToKw pos (keywordEach kws X.env)).filterMap (·.1) = ks)
    (hdb : (x == ("__debug__" : Str)) = false)
    (hpl : ((backTo pos (starEach [] X.env)).any (·.1) || (backToKw pos (keywordEach kws X.env)).any (·.1.isNone)) = false) :
    DE X tb X' G (.Call (.Name x p) [] kws pos) (.callK f .nil mk kp) := by
  refine ⟨fun pins s σ H Qv I ⟨Z, ρ, S, Q, m, w, k⟩ => ?_⟩
  refine wpAny_Call_Name_kw (ld_glob I hg hm ?_ hdb)
  refine PySem.W.callWith_KW0 (h₀ := X.base) I.ok.mod.kin hk hall ?_ hpl
  have go : tDL X.K tb (wL X' G mk) σ H fun zs H1 => spD X.K tb G f (arr n _ pr [] zs) H1 Qv E0 :=
    ⟨Z, ρ, S, _, m, w, fun es S2 zs H2 x2 s2 t2 r2 w2 => by
      obtain ⟨n', m', p', e, w2⟩ := w2
      rw [hkp] at e; cases e
      exact ⟨Z, _, S2, Q, (RepL.nil).arr r2 _ _ _, s2, t2, w2, k.ext x2⟩⟩
  refine thn (hkw.run pos pins s σ H _ I go) fun ws s2 ⟨zs, H2, I2, rz, q2⟩ => ⟨I2.kIn, ?_⟩
  rw [hks]
  exact run_fnk (us := []) (vs := []) F hr hb pass0 I2 .nil rz q2
theorem bi_name : ∀ b : BI, b.nm ≠ "__name__" ∧ (b.nm == ("__debug__" : Str)) = false
  | .abs => ⟨by decide +kernel, by decide +kernel⟩
  | .len => ⟨by decide +kernel, by decide +kernel⟩
  | .int => ⟨by decide +kernel, by decide +kernel⟩
  | .tuple => ⟨by decide +kernel, by decide +kernel⟩
  | .list _ => ⟨(by decide +kernel : ("list" : Str) ≠ "__name__"), (by decide +kernel : (("list" : Str) == ("__debug__" : Str)) = false)⟩
  | .sum => ⟨by decide +kernel, by decide +kernel⟩
  | .max => ⟨by decide +kernel, by decide +kernel⟩
  | .min => ⟨by decide +kernel, by decide +kernel⟩
theorem de_bi {b : BI} {p : Pos} {es : List Expr} (hc : X.calm = true) (hg : Gl X b.nm) (hm : X.mg b.nm = none) (ha : DA X tb X' G (a :: es) ma) (he : starEach (a :: es) X.env = (false, eval a X.env) :: starEach es X.env) (hpl : (backTo pos (starEach es X.env)).any (·.1) = false) :
    DE X tb X' G (.Call (.Name b.nm p) (a :: es) [] pos) (.bi b ma) := by
  obtain ⟨r, hr, hs⟩ := sem_bi (X := X) (tb := tb) hc b
  have fin : ∀ σ H Qv, tD X.K tb (wE X' G (.bi b ma)) σ H Qv → tCB r (tDL X.K tb (wL X' G ma)) σ H Qv := fun σ H Qv ⟨Z, ρ, S, Q, m, w, k⟩ =>
    ⟨Z, ρ, S, _, m, w, fun ds S1 vs H1 x1 s1 t1 r1 w1 => hs Z ds vs S1 H1 Q Qv s1 t1 r1 w1 (k.ext x1)⟩
  have hv := boot_bi b
  have h2 := bi_name b
  cases b with
  | abs => exact PE.weak (pe_callB hr hg hm hv ha h2.1 h2.2 he hpl) fin
  | len => exact PE.weak (pe_callB hr hg hm hv ha h2.1 h2.2 he hpl) fin
  | int => exact PE.weak (pe_callTy hr hg hm hv ha h2.1 h2.2 he hpl) fin
  | tuple => exact PE.weak (pe_callTy hr hg hm hv ha h2.1 h2.2 he hpl) fin
  | list mu => exact PE.weak (pe_callTy hr hg hm hv ha h2.1 h2.2 he hpl) fin
  | sum => exact PE.weak (pe_callB hr hg hm hv ha h2.1 h2.2 he hpl) fin
  | max => exact PE.weak (pe_callB hr hg hm hv ha h2.1 h2.2 he hpl) fin
  | min => exact PE.weak (pe_callB hr hg hm hv ha h2.1 h2.2 he hpl) fin
theorem tn_name (b : TN) : b.nm ≠ "__name__" ∧ (b.nm == ("__debug__" : Str)) = false := by cases b <;> exact ⟨by decide +kernel, by decide +kernel⟩
theorem boot_isi : bootBuiltins ("isinstance" : Str) = some (.builtin "isinstance") := by decide +kernel
theorem de_isi {t : TN} {p p2 : Pos} (hg : Gl X "isinstance") (hm : X.mg "isinstance" = none) (hg2 : Gl X t.nm) (hm2 : X.mg t.nm = none) (ha : DE X tb X' G a ma) (he : starEach (a :: [.Name t.nm p2]) X.env = (false, eval a X.env) :: starEach [.Name t.nm p2] X.env) :
    DE X tb X' G (.Call (.Name "isinstance" p) [a, .Name t.nm p2] [] pos) (.isi ma t) :=
  PE.weak (pe_callB (call_isi (X := X)) hg hm boot_isi (pa_cons ha (pa_cons (pe_bltn hg2 hm2 (boot_tn t) (v := .ty t.ty) rfl (tn_name t).1 (tn_name t).2) pa_nil (by rfl)) he) (by decide +kernel) (by decide +kernel) he (by rfl)) fun σ H Qv ⟨Z, ρ, S, Q, m, w, k⟩ =>
    ⟨Z, ρ, S, _, m, w, fun d S1 v H1 x1 s1 t1 r1 w1 => by
      obtain ⟨u, b, h1, h2, h3⟩ := isi_sem (X := X) s1 r1 w1
      exact ⟨v, .ty t.ty, u, .type t.ty, b, rfl, .ty t.ty, h1, h2, (k.ext x1).same s1 t1 (.bl _) h3⟩⟩

/-! ### places, slices, methods -/
theorem de_ix (ha : DE X tb X' G a ma) (hb : DE X tb X' G b mb) (hs : PlainIx b) : DE X tb X' G (.Subscript a b pos) (.ix ma mb) := by
  obtain ⟨r, hr, hsm⟩ := ix_sem (X := X) (tb := tb)
  exact PE.weak (pe_ix hr ha hb hs) fun σ H Qv ⟨Z, ρ, S, Q, m, w, k⟩ =>
    ⟨Z, ρ, S, _, m, w, fun d S1 v H1 x1 s1 t1 r1 w1 => ⟨Z, ρ, S1, _, m.go x1 s1 t1, w1, fun d2 S2 v2 H2 x2 s2 t2 r2 w2 => hsm Z d d2 v v2 S2 H2 Q Qv s2 t2 (r1.ext s1 x2) r2 w2 (k.ext (x1.trans x2))⟩⟩
theorem do_none : DO X tb X' G none .nil := PO.weak po_none fun σ H Qv ⟨Z, ρ, S, Q, m, w, k⟩ => k none S H Ext.refl m.sto m.tab w
theorem do_some (ha : DE X tb X' G a ma) : DO X tb X' G (some a) (.so ma) := PO.weak (po_some ha) fun σ H Qv ⟨Z, ρ, S, Q, m, w, k⟩ =>
  ⟨Z, ρ, S, _, m, w, fun d S1 v H1 x1 s1 t1 r1 w1 => by
    obtain ⟨i, e, w1⟩ := w1
    subst e
    cases r1
    exact ⟨i, rfl, k _ S1 H1 x1 s1 t1 w1⟩⟩
theorem de_sl {lo hi : Option Expr} {p2 : Pos} (ha : DE X tb X' G a ma) (hl : DO X tb X' G lo mb) (hh : DO X tb X' G hi mc) : DE X tb X' G (.Subscript a (.Slice lo hi none p2) pos) (.sl ma mb mc) := by
  obtain ⟨r, hr, hsm⟩ := sl_sem (X := X) (tb := tb)
  exact PE.weak (pe_slice hr ha hl hh) fun σ H Qv ⟨Z, ρ, S, Q, m, w, k⟩ =>
    ⟨Z, ρ, S, _, m, w, fun d S1 v H1 x1 s1 t1 r1 w1 => ⟨Z, ρ, S1, _, m.go x1 s1 t1, w1, fun l S2 H2 x2 s2 t2 w2 => ⟨Z, ρ, S2, _, (m.go x1 s1 t1).go x2 s2 t2, w2, fun h S3 H3 x3 s3 t3 w3 =>
      hsm Z d l h v S3 H3 Q Qv s3 t3 ((r1.ext s1 x2).ext s2 x3) w3 (k.ext ((x1.trans x2).trans x3))⟩⟩⟩
theorem ref_ty {Z : Addr → Prop} {x : D} {v : V} {S : Sto} {H : Hp} (s : SRep X.K Z S H) (r : Rep X.K Z S H x v) (w : dRef S x) : tyV X.K "list" v H := by
  cases r <;> first | exact w.elim | skip
  rename_i l
  obtain ⟨xs, e⟩ := w
  obtain ⟨vs, h, h2, _⟩ := s.sqL e l
  exact .inl ⟨rfl, _, h2⟩
theorem de_meth {lm : LM} {apos : Pos} {es : List Expr} (ho : DE X tb X' G c mc) (ha : DA X tb X' G (a :: es) ma) (hbase : attributeBase c lm.nm X.env (eval c X.env) = eval c X.env)
    (hfew : ((backTo pos (starEach (a :: es) X.env)).all (fun x => !x.1) && (backToKw pos (keywordEach [] X.env)).all (fun x => x.1.isSome)
      && decide ((a :: es).length + ([] : List Keyword).length + (if ([] : List Keyword).isEmpty then 0 else 1) < 30)) = true)
    (hline : (apos.endLine == pos.line) = true) (hs : starEach (a :: es) X.env = (false, eval a X.env) :: starEach es X.env) (hplain : (backTo pos (starEach es X.env)).any (·.1) = false) :
    DE X tb X' G (.Call (.Attribute c lm.nm apos) (a :: es) [] pos) (.meth lm mc ma) := by
  obtain ⟨r, hr, hsm⟩ := sem_meth (X := X) (tb := tb) lm
  exact PE.weak (pe_bm PySem.F.plainAttrs_list (lm_slot lm) (lm_type lm) hr ho ha hbase hfew hline hs hplain) fun σ H Qv ⟨Z, ρ, S, Q, m, w, k⟩ =>
    ⟨Z, ρ, S, _, m, w, fun d S1 v H1 x1 s1 t1 r1 w1 => ⟨ref_ty s1 r1 w1.1, Z, ρ, S1, _, m.go x1 s1 t1, w1.2, fun ds S2 vs H2 x2 s2 t2 r2 w2 => hsm Z d v ds vs S2 H2 Q Qv s2 t2 (r1.ext s1 x2) r2 w2 (k.ext (x1.trans x2))⟩⟩
theorem de_meth0 {lm : LM} {apos : Pos} (ho : DE X tb X' G c mc) (hbase : attributeBase c lm.nm X.env (eval c X.env) = eval c X.env) (hline : (apos.endLine == pos.line) = true) :
    DE X tb X' G (.Call (.Attribute c lm.nm apos) [] [] pos) (.meth lm mc .nil) := by
  obtain ⟨r, hr, hsm⟩ := sem_meth (X := X) (tb := tb) lm
  exact PE.weak (pe_bm0 PySem.F.plainAttrs_list (lm_slot lm) (lm_type lm) hr ho hbase hline) fun σ H Qv ⟨Z, ρ, S, Q, m, w, k⟩ =>
    ⟨Z, ρ, S, _, m, w, fun d S1 v H1 x1 s1 t1 r1 w1 => ⟨ref_ty s1 r1 w1.1, hsm Z d v [] [] S1 H1 Q Qv s1 t1 r1 .nil w1.2 (k.ext x1)⟩⟩

/-! ### what is walked -/
variable {tg : Expr}
theorem itOk_tup {K : PySem.W.Frag} {tb : List Addr} {Z : Addr → Prop} {S₀ : Sto} {H₀ : Hp} {a : Addr} {vs : List V} {xs : List D} (h : SqT K H₀ a vs) (s0 : SRep K Z S₀ H₀) (r : RepL K Z S₀ H₀ xs vs) (inj : ∀ {H ys}, SqT K H a vs → SqT K H a ys → True) : ItOk K tb Z S₀ H₀ (Itt K a) xs (fun _ => True) := by
  intro Z' hz i S H x s t _
  have h1 := sqT_ext s0 x h
  have r1 := (r.zz hz).extN s0.sno x
  refine ⟨fun d e => ?_, fun e => ⟨vs, h1, by rw [← r1.length]; exact e⟩⟩
  obtain ⟨v, hv, rv⟩ := r1.get e
  refine ⟨⟨vs, v, h1, hv⟩, fun y H2 hy => ?_⟩
  obtain ⟨e2, hy⟩ := hy
  subst e2
  have := hy vs h1
  rw [hv] at this
  cases this
  exact ⟨Ext.refl, s, t, rv⟩
theorem itOk_lst {K : PySem.W.Frag} {tb : List Addr} {Z : Addr → Prop} {S₀ : Sto} {H₀ : Hp} {a : Addr} {xs : List D} (stay : Sto → Prop) (h : ∀ (Z' : Addr → Prop), (∀ a, Z' a → Z a ∨ H₀ a = none) → ∀ S H, Ext S₀ H₀ S H → SRep K Z' S H → stay S → ∃ vs, SqL K H a vs ∧ RepL K Z' S H xs vs) : ItOk K tb Z S₀ H₀ (Itl K a) xs stay := by
  intro Z' hz i S H x s t st
  obtain ⟨vs, h1, r1⟩ := h Z' hz S H x s st
  refine ⟨fun d e => ?_, fun e => ⟨vs, h1, by rw [← r1.length]; exact e⟩⟩
  obtain ⟨v, hv, rv⟩ := r1.get e
  refine ⟨⟨vs, v, h1, hv⟩, fun y H2 hy => ?_⟩
  obtain ⟨e2, hy⟩ := hy
  subst e2
  have := hy vs h1
  rw [hv] at this
  cases this
  exact ⟨Ext.refl, s, t, rv⟩
/-- anything that is a tuple or a list -/
theorem pi_seq {l : Expr} {tl : TE} (hl : PE X l tl) : PI X tg l (fun σ H R => tl σ H fun x H1 => ∃ a, x = .ref a ∧ (((∃ xs, SqT X.K H1 a xs) ∧ R (Itt X.K a) H1) ∨ ((∃ xs, SqL X.K H1 a xs) ∧ R (Itl X.K a) H1))) := by
  refine ⟨fun pins s σ H R I h => ?_⟩
  refine thn (hl.run pins s σ H _ I h) fun v s1 ⟨x, H1, I1, r1, q1⟩ => ?_
  obtain ⟨a, e, q⟩ := q1
  subst e
  cases r1
  rcases q with ⟨⟨xs, hq⟩, q⟩ | ⟨⟨xs, hq⟩, q⟩
  · obtain ⟨its, rv, p, hz⟩ := I1.tuple hq
    refine wpAny_pyIter_tuple (show s1.heap.IsTuple a its.toArray from p) ?_
    refine ⟨s1.heap.objs.size, [s1.heap.objs.size], _, _, H1, rfl, I1.kept (t' := s1.toks) fun b o e => Heap.get?_push_of_some _ e, turn_tuple a _, ⟨_, Heap.get?_push_size _ rfl, rfl, rfl⟩, fun b hb => ?_, q⟩
    have e : b = s1.heap.objs.size := by simpa using hb
    subst e
    exact I1.fpOk (Nat.le_refl _) (I1.hok.fresh (Nat.le_refl _))
  · obtain ⟨its, rv, p, hz⟩ := I1.list hq
    refine wpAny_pyIter_list p.isList ?_
    refine ⟨s1.heap.objs.size, [s1.heap.objs.size], _, _, H1, rfl, I1.kept (t' := s1.toks) fun b o e => Heap.get?_push_of_some _ e, turn_list a _, ⟨_, Heap.get?_push_size _ rfl, rfl, rfl⟩, fun b hb => ?_, q⟩
    have e : b = s1.heap.objs.size := by simpa using hb
    subst e
    exact I1.fpOk (Nat.le_refl _) (I1.hok.fresh (Nat.le_refl _))
theorem di_it (ha : DE X tb X' G a ma) : DI X tb X' G tg a (.it ma) :=
  PI.weak (pi_seq ha) fun σ H R ⟨Z, ρ, S, Q, m, w, k⟩ => ⟨Z, ρ, S, _, m, w, fun d S1 v H1 x1 s1 t1 r1 w1 => by
    cases r1 with
    | @tup p vs ds h r =>
      have w1 : Q ds (fun _ => True) S1 := w1
      exact ⟨p, rfl, .inl ⟨⟨_, h⟩, k _ _ S1 _ H1 x1 s1 t1 (itOk_tup h s1 r fun _ _ => trivial) w1⟩⟩
    | @lst p vs ds h n nz r =>
      have w1 : Q ds (fun _ => True) S1 := w1
      refine ⟨p, rfl, .inr ⟨⟨_, SqL.of h⟩, k _ _ S1 _ H1 x1 s1 t1 (itOk_lst _ fun Z' hz S H x s _ => ⟨vs, ?_, (r.zz hz).extN s1.sno x⟩) w1⟩⟩
      exact SqL.of (x.keep _ _ h n fun ps e => by cases e).1
    | @scr p vs ds h r =>
      have w1 : Q ds (fun _ => True) S1 := w1
      exact ⟨p, rfl, .inr ⟨⟨_, h.sq⟩, k _ _ S1 _ H1 x1 s1 t1 (itOk_lst _ fun Z' hz S H x s _ => ⟨vs, (h.ext s1 x).sq, (r.zz hz).extN s1.sno x⟩) w1⟩⟩
    | @ref p l =>
      obtain ⟨xs, e, w1⟩ := w1
      obtain ⟨vs, h, h2, r⟩ := s1.sqL e l
      exact ⟨p, rfl, .inr ⟨⟨_, h2⟩, k _ _ S1 _ H1 x1 s1 t1 (itOk_lst _ fun Z' hz S H x s st => by
        obtain ⟨ws, h3, h4, r3⟩ := s.sqL st (x.ls _ l)
        exact ⟨ws, h4, r3⟩) w1⟩⟩
    | _ => exact w1.elim⟩
theorem zip_get {xs ys : List D} {i : Nat} {d : D} (e : (List.zipWith (fun x y => D.tup [x, y]) xs ys)[i]? = some d) : ∃ x y, xs[i]? = some x ∧ ys[i]? = some y ∧ d = .tup [x, y] := by
  rw [List.getElem?_zipWith] at e
  cases h1 : xs[i]? with
  | none => rw [h1] at e; cases e
  | some x =>
    cases h2 : ys[i]? with
    | none => rw [h1, h2] at e; cases e
    | some y => rw [h1, h2] at e; cases e; exact ⟨x, y, rfl, rfl, rfl⟩
theorem zip_end {xs ys : List D} {i : Nat} (e : (List.zipWith (fun x y => D.tup [x, y]) xs ys).length ≤ i) : xs.length ≤ i ∨ ys.length ≤ i := by
  rw [List.length_zipWith] at e
  omega
theorem pair_new {K : PySem.W.Frag} {Z : Addr → Prop} {S : Sto} {H : Hp} {T : Addr} {x y : D} {v u : V} (s : SRep K Z S H) (t : Tabs tb H) (hT : H T = none) (rx : Rep K Z S H x v) (ry : Rep K Z S H y u) :
    Ext S H S (upd H T (.tup [v, u])) ∧ SRep K Z S (upd H T (.tup [v, u])) ∧ Tabs tb (upd H T (.tup [v, u])) ∧ Rep K Z S (upd H T (.tup [v, u])) (.tup [x, y]) (.ref T) :=
  ⟨Ext.new hT, s.new hT, t.new hT, .tup (SqT.of upd_same) (.cons (rx.ext s (Ext.new hT)) (.cons (ry.ext s (Ext.new hT)) .nil))⟩
theorem itOk_rng {K : PySem.W.Frag} {Z : Addr → Prop} {S₀ : Sto} {H₀ : Hp} {i j : Int} : ItOk K tb Z S₀ H₀ (Itr i (j - i).toNat) (rangeD i j) (fun _ => True) := by
  intro Z' hz n S H x s t _
  unfold rangeD
  refine ⟨fun d e => ?_, fun e => ?_⟩
  · rw [List.getElem?_map] at e
    cases h : (List.range (j - i).toNat)[n]? with
    | none => rw [h] at e; cases e
    | some q =>
      rw [h] at e
      obtain ⟨h1, h2⟩ := List.getElem?_eq_some_iff.mp h
      rw [List.getElem_range] at h2
      subst h2
      cases e
      refine ⟨(show n < (j - i).toNat by rw [List.length_range] at h1; exact h1), fun y H2 hy => ?_⟩
      obtain ⟨rfl, rfl⟩ := hy
      exact ⟨Ext.refl, s, t, .int _⟩
  · rw [List.length_map, List.length_range] at e
    exact e
theorem di_rng1 {p : Pos} (hg : Gl X "range") (hm : X.mg "range" = none) (ha : DE X tb X' G a ma) (hs : starEach [a] X.env = [(false, eval a X.env)]) : DI X tb X' G tg (.Call (.Name "range" p) [a] [] pos) (.rng (.c (.int 0)) ma) :=
  PI.weak (pi_range1 hg hm (pa_cons ha pa_nil (by rw [hs]; rfl)) hs) fun σ H R ⟨Z, ρ, S, Q, m, w, k⟩ =>
    ⟨Z, ρ, S, _, m, w, fun d S1 v H1 x1 s1 t1 r1 w1 => by
      obtain ⟨i, j, e1, e2, ok, w1⟩ := w1
      cases e1
      subst e2
      cases r1
      refine ⟨j, rfl, ok.2.2.1, ok.2.2.2, ?_⟩
      have h := k _ _ S1 _ H1 x1 s1 t1 (itOk_rng (i := 0) (j := j)) w1
      rw [Int.sub_zero] at h
      exact h⟩
theorem di_rng2 {p : Pos} (hg : Gl X "range") (hm : X.mg "range" = none) (ha : DE X tb X' G a ma) (hb : DE X tb X' G b mb) (h1 : starEach [a, b] X.env = [(false, eval a X.env), (false, eval b X.env)]) (h2 : starEach [b] X.env = [(false, eval b X.env)]) :
    DI X tb X' G tg (.Call (.Name "range" p) [a, b] [] pos) (.rng ma mb) :=
  PI.weak (pi_range2 hg hm (pa_cons ha (pa_cons hb pa_nil (by rw [h2]; rfl)) (by rw [h1, h2])) h1 h2) fun σ H R ⟨Z, ρ, S, Q, m, w, k⟩ =>
    ⟨Z, ρ, S, _, m, w, fun d S1 v H1 x1 s1 t1 r1 w1 => ⟨Z, ρ, S1, _, m.go x1 s1 t1, w1, fun d2 S2 v2 H2 x2 s2 t2 r2 w2 => by
      obtain ⟨i, j, e1, e2, ok, w2⟩ := w2
      subst e1
      subst e2
      cases r1
      cases r2
      exact ⟨i, j, rfl, ok, k _ _ S2 _ H2 (x1.trans x2) s2 t2 (itOk_rng (i := i) (j := j)) w2⟩⟩⟩
end
end DL

set_option Elab.async false
set_option linter.all false
set_option maxRecDepth 100000
set_option maxHeartbeats 4000000
/-! DL6: comprehensions, targets, statements. -/
namespace DL
open PySem PySem.Spec PyProof.Rows L2 RZ

section
variable {X : Cx} {tb : List Addr} {X' : Mod'} {G : Fns} {pos : Pos}
/-! ### targets -/
mutual
theorem bindT_mono : ∀ {t : TT'} {d : D} {ρ : Rho} {k k' : Rho → Prop}, (∀ ρ', k ρ' → k' ρ') → bindT t d ρ k → bindT t d ρ k'
  | .n i, _, _, _, _, f, w => f _ w
  | .t a, .tup xs, _, _, _, f, w => bindTs_mono (t := a) f w
  | .t _, .non, _, _, _, _, w => w.elim
  | .t _, .bl _, _, _, _, _, w => w.elim
  | .t _, .int _, _, _, _, _, w => w.elim
  | .t _, .str _, _, _, _, _, w => w.elim
  | .t _, .lst _, _, _, _, _, w => w.elim
  | .t _, .scr _, _, _, _, _, w => w.elim
  | .t _, .ref _, _, _, _, _, w => w.elim
  | .t _, .dct _, _, _, _, _, w => w.elim
  | .nil, d, _, _, _, _, w => by cases d <;> exact w.elim
  | .cons _ _, d, _, _, _, _, w => by cases d <;> exact w.elim
theorem bindTs_mono : ∀ {t : TT'} {ds : List D} {ρ : Rho} {k k' : Rho → Prop}, (∀ ρ', k ρ' → k' ρ') → bindT.bindTs t ds ρ k → bindT.bindTs t ds ρ k'
  | .nil, [], _, _, _, f, w => f _ w
  | .nil, _ :: _, _, _, _, _, w => w.elim
  | .cons a b, [], _, _, _, _, w => w.elim
  | .cons a b, d :: ds, ρ, k, k', f, w => bindT_mono (t := a) (fun ρ' h => bindTs_mono (t := b) f h) w
  | .n _, [], _, _, _, _, w => w.elim
  | .n _, _ :: _, _, _, _, _, w => w.elim
  | .t _, [], _, _, _, _, w => w.elim
  | .t _, _ :: _, _, _, _, _, w => w.elim
end
mutual
theorem bindT_const : ∀ (t : TT') (d : D) (ρ : Rho) (P : Prop), (bindT t d ρ fun _ => P) → P
  | .n i, _, _, _, w => w
  | .t a, .tup xs, ρ, P, w => bindTs_const a xs ρ P w
  | .t _, .non, _, _, w => w.elim
  | .t _, .bl _, _, _, w => w.elim
  | .t _, .int _, _, _, w => w.elim
  | .t _, .str _, _, _, w => w.elim
  | .t _, .lst _, _, _, w => w.elim
  | .t _, .scr _, _, _, w => w.elim
  | .t _, .ref _, _, _, w => w.elim
  | .t _, .dct _, _, _, w => w.elim
  | .nil, d, _, _, w => by cases d <;> exact w.elim
  | .cons _ _, d, _, _, w => by cases d <;> exact w.elim
theorem bindTs_const : ∀ (t : TT') (ds : List D) (ρ : Rho) (P : Prop), (bindT.bindTs t ds ρ fun _ => P) → P
  | .nil, [], _, _, w => w
  | .nil, _ :: _, _, _, w => w.elim
  | .cons a b, [], _, _, w => w.elim
  | .cons a b, d :: ds, ρ, P, w => bindT_const a d ρ P (bindT_mono (fun ρ' h => bindTs_const b ds ρ' P h) w)
  | .n _, [], _, _, w => w.elim
  | .n _, _ :: _, _, _, w => w.elim
  | .t _, [], _, _, w => w.elim
  | .t _, _ :: _, _, _, w => w.elim
end
/-- how many a row of targets takes -/
def tlen : TT' → Nat
  | .cons _ b => tlen b + 1
  | _ => 0
theorem bindTs_tlen : ∀ {t : TT'} {ds : List D} {ρ : Rho} {k : Rho → Prop}, bindT.bindTs t ds ρ k → ds.length = tlen t
  | .nil, [], _, _, _ => rfl
  | .nil, _ :: _, _, _, w => w.elim
  | .cons a b, [], _, _, w => w.elim
  | .cons a b, d :: ds, ρ, k, w => by
    have w : bindT a d ρ fun ρ' => bindT.bindTs b ds ρ' k := w
    have : ds.length = tlen b := bindT_const a d ρ _ (bindT_mono (fun ρ' h => bindTs_tlen h) w)
    show ds.length + 1 = tlen b + 1
    rw [this]
  | .n _, [], _, _, w => w.elim
  | .n _, _ :: _, _, _, w => w.elim
  | .t _, [], _, _, w => w.elim
  | .t _, _ :: _, _, _, w => w.elim
/-- the slots that a target stores into -/
def slots : TT' → List Nat
  | .n i => [i]
  | .t a => slots a
  | .nil => []
  | .cons a b => slots a ++ slots b
mutual
/-- a target's reading -/
def gOf (K : PySem.W.Frag) : TT' → TG
  | .n i => gName i
  | .t a => gTup K (tlen a) (gsOf K a)
  | _ => fun _ _ _ _ => False
def gsOf (K : PySem.W.Frag) : TT' → TGs
  | .nil => gNil
  | .cons a b => gCons (gOf K a) (gsOf K b)
  | _ => fun _ _ _ _ => False
end
theorem wipe_back {σ : L2.St} {i : Nat} {v : Option V} : ∀ {vs : List Nat}, i ∈ vs → wipe (σ.set i v) vs = wipe σ vs
  | [], h => by cases h
  | j :: vs, h => by
    unfold wipe
    by_cases q : i = j
    · subst q
      by_cases hm : i ∈ vs
      · rw [wipe_back hm]
      · have : ∀ ws : List Nat, i ∉ ws → wipe (σ.set i v) ws = (wipe σ ws).set i v := by
          intro ws
          induction ws with
          | nil => intro _; rfl
          | cons u us ih =>
            intro hn
            simp only [List.mem_cons, not_or] at hn
            unfold wipe
            rw [ih hn.2, List.set_comm _ _ hn.1]
        rw [this vs hm, List.set_set]
    · rcases List.mem_cons.mp h with h | h
      · exact absurd h q
      · rw [wipe_back h]
def OnlyAt (t : TT') (σ σ' : L2.St) : Prop := ∀ own : List Nat, (∀ i ∈ slots t, i ∈ own) → wipe σ' own = wipe σ own
section
variable {K : PySem.W.Frag} {Z : Addr → Prop} {S : Sto} {H : Hp}
mutual
theorem gOf_sem : ∀ {t : TT'} {d : D} {v : V} {ρ : Rho} {σ : L2.St} {k : Rho → Prop} {Q : L2.St → Hp → Prop}, EnvR K Z S H ρ σ → Rep K Z S H d v → bindT t d ρ k → (∀ ρ' σ', EnvR K Z S H ρ' σ' → OnlyAt t σ σ' → k ρ' → Q σ' H) → gOf K t v σ H Q
  | .n i, d, v, ρ, σ, k, Q, e, r, w, f => f _ _ (e.set i r) (fun own h => wipe_back (h i (List.mem_singleton.mpr rfl))) w
  | .t a, d, v, ρ, σ, k, Q, e, r, w, f => by
    cases r with
    | @tup p vs ds h r =>
      have w : bindT.bindTs a ds ρ k := w
      exact ⟨p, vs, rfl, h, by rw [← r.length]; exact bindTs_tlen w, gsOf_sem (t := a) e r w f⟩
    | _ => exact w.elim
  | .nil, d, _, _, _, _, _, _, _, w, _ => by cases d <;> exact w.elim
  | .cons _ _, d, _, _, _, _, _, _, _, w, _ => by cases d <;> exact w.elim
theorem gsOf_sem : ∀ {t : TT'} {ds : List D} {vs : List V} {ρ : Rho} {σ : L2.St} {k : Rho → Prop} {Q : L2.St → Hp → Prop}, EnvR K Z S H ρ σ → RepL K Z S H ds vs → bindT.bindTs t ds ρ k → (∀ ρ' σ', EnvR K Z S H ρ' σ' → OnlyAt t σ σ' → k ρ' → Q σ' H) → gsOf K t vs σ H Q
  | .nil, ds, vs, ρ, σ, k, Q, e, r, w, f => by
    cases r with
    | nil => exact ⟨rfl, f ρ σ e (fun _ _ => rfl) w⟩
    | cons _ _ => exact w.elim
  | .cons a b, ds, vs, ρ, σ, k, Q, e, r, w, f => by
    cases r with
    | nil => exact w.elim
    | cons r rr =>
      exact ⟨_, _, rfl, gOf_sem (t := a) e r w fun ρ' σ' e' o' w' => gsOf_sem (t := b) e' rr w' fun ρ2 σ2 e2 o2 w2 => f ρ2 σ2 e2 (fun own h => (o2 own fun i hi => h i (List.mem_append_right _ hi)).trans (o' own fun i hi => h i (List.mem_append_left _ hi))) w2⟩
  | .n _, ds, _, _, _, _, _, _, _, w, _ => by cases ds <;> exact w.elim
  | .t _, ds, _, _, _, _, _, _, _, w, _ => by cases ds <;> exact w.elim
end
end
abbrev DG (X : Cx) (tg : Expr) (t : TT') : Prop := PG X tg (gOf X.K t)
abbrev DGs (X : Cx) (tg : List Expr) (t : TT') : Prop := PGs X tg (gsOf X.K t)
theorem dg_name {i : Nat} {x : Str} (hN : X.N.Nodup) (hi : X.N[i]? = some x) (hx : Loc X.env.scope x) (hf : X.fn x = true ∨ X.env.scope.names.lookup x = some .local) : DG X (.Name x pos) (.n i) := pg_name hN hi hx hf
theorem dgs_nil : DGs X [] .nil := pgs_nil
theorem dgs_cons {a : Expr} {es : List Expr} {t u : TT'} (h1 : DG X a t) (h2 : DGs X es u) (hs : (assignEach (a :: es) X.env).map (·.2) = assign a X.env :: (assignEach es X.env).map (·.2)) : DGs X (a :: es) (.cons t u) := pgs_cons h1 h2 hs
theorem dg_tup (hc : X.calm = true) {es : List Expr} {j : Nat} {t : TT'} (h : DGs X es t) (hn : (assignEach es X.env).length = tlen t) (hst : (assignEach es X.env).findIdx? (·.1) = none) : DG X (.Tuple es j pos) (.t t) := pg_tup hc h hn hst

/-! ### comprehensions -/
theorem Ext.hid {S S' : Sto} {H H' : Hp} {L : Addr} {o : HO} (x : Ext S H S' H') (h : H L = none) : Ext S H S' (upd H' L o) := ⟨fun a u e n t => by
  obtain ⟨h1, n1⟩ := x.keep a u e n t
  exact ⟨by rw [upd_ne (ne_of_none e h)]; exact h1, n1⟩, fun a l => by
  obtain ⟨vs, e⟩ := x.ls a l
  have q : a ≠ L := by rintro rfl; obtain ⟨_, e'⟩ := l; rw [h] at e'; cases e'
  exact ⟨vs, by rw [upd_ne q]; exact e⟩, fun a l => by
  obtain ⟨w, ts, e⟩ := x.ds a l
  have q : a ≠ L := by rintro rfl; obtain ⟨_, _, e'⟩ := l; rw [h] at e'; cases e'
  exact ⟨w, ts, by rw [upd_ne q]; exact e⟩⟩
theorem Tabs.hid {H : Hp} {L : Addr} {ws us : List V} (t : Tabs tb H) (h : H L = some (.lst ws)) : Tabs tb (upd H L (.lst us)) := fun P hP => by
  obtain ⟨ps, e, ok⟩ := t P hP
  refine ⟨ps, ?_, ok⟩
  rw [upd_ne]; exact e
  rintro rfl; rw [h] at e; cases e
theorem wipe_wipe (σ : L2.St) : ∀ vs ws : List Nat, (∀ i ∈ ws, i ∈ vs) → wipe (wipe σ ws) vs = wipe σ vs
  | vs, [], _ => rfl
  | vs, w :: ws, h => by
    show wipe ((wipe σ ws).set w none) vs = _
    rw [wipe_back (h w List.mem_cons_self), wipe_wipe σ vs ws fun i hi => h i (List.mem_cons_of_mem _ hi)]
theorem PTs.weak {X : Cx} {e : List Expr} {t t' : TT} (h : PTs X e t) (i : ∀ σ H Q, t' σ H Q → t σ H Q) : PTs X e t' := ⟨fun p s σ H Q I w => h.run p s σ H Q I (i _ _ _ w)⟩
theorem dts_nil : PTs X [] (tDT X.K tb (wT X' G .nil)) := PTs.weak pts_nil fun σ H Qv ⟨Z, ρ, S, Q, m, w, k⟩ => k true S H Ext.refl m.sto m.tab w
theorem dts_one {c : Expr} {mc : M} (h : DT X tb X' G c mc) : PTs X [c] (tDT X.K tb (wT X' G mc)) := pts_one h
theorem getElem?_range' {α : Type} {xs : List α} {i : Nat} (h : i < xs.length) : ∃ d, xs[i]? = some d ∧ xs.drop i = d :: xs.drop (i + 1) := ⟨xs[i], List.getElem?_eq_getElem h, List.drop_eq_getElem_cons h⟩
/-- what is asked over data is what the reading asks -/
theorem lc_read {K : PySem.W.Frag} {mu : Bool} {own : List (Str × Nat)} {t : TT'} {me mi mc : M} (hsl : ∀ i ∈ slots t, i ∈ own.map (·.2)) {σ : L2.St} {H : Hp} {Qv : VK}
    (h : tD K tb (wE X' G (.lc mu (own.map (·.2)) t me mi mc)) σ H Qv) : tLc (tDI K tb (wI X' G mi)) (gOf K t) (tDT K tb (wT X' G mc)) (tD K tb (wE X' G me)) (own.map (·.2)) σ H Qv := by
  obtain ⟨Z, ρ, S, Q, m, w, k⟩ := h
  refine ⟨Z, ρ, S, _, m, w, fun xs stay S1 J H1 x1 s1 t1 itok w1 => ?_⟩
  intro L hL
  have m1 := m.go x1 s1 t1
  -- W: the turn, what is left; the list so far
  refine ⟨fun i n H' => n = xs.length - i ∧ i ≤ xs.length ∧ ∃ (S' : Sto) (acc : List D) (vs : List V), Ext S1 H1 S' H' ∧ SRep K (more Z L) S' H' ∧ Tabs tb H' ∧ H' L = some (.lst vs) ∧ RepL K (more Z L) S' H' acc vs ∧ EnvR K (more Z L) S' H' (wipeD ρ (own.map (·.2))) (wipe σ (own.map (·.2))) ∧
    compL (fun d k => bindT t d (wipeD ρ (own.map (·.2))) k) (fun ρ' S' k => wT X' G mc ρ' S' k) (fun ρ' S' k => wE X' G me ρ' S' k) stay (fun acc S' => if mu = true then ∀ p, S' p = none → Q (.ref p) (S'.put p acc) else Q (.lst acc) S') (xs.drop i) acc S',
    ⟨xs.length, rfl, Nat.zero_le _, S1, [], [], (Ext.refl.hid hL), s1.moreNew hL, t1.new hL, upd_same, .nil, ?_, w1⟩, ?_⟩
  · have e := (m1.env.more hL).wipe (own.map (·.2))
    exact ⟨e.len, fun i d h => let ⟨v, h1, r⟩ := e.at_ i d h; ⟨v, h1, r.extN s1.sno (Ext.new hL)⟩⟩
  rintro i n H' ⟨rfl, hi', S', acc, vs, x', s', t', eL, r', e', w'⟩
  have st' : stay S' := by
    cases h : xs.drop i with
    | nil => rw [h] at w'; exact w'.1
    | cons _ _ => rw [h] at w'; exact w'.1
  have ok' := itok (more Z L) (more_z hL) i S' H' x' s' t' st'
  have nL := (s'.hid L (.inr rfl)).2
  by_cases hlt : i < xs.length
  · obtain ⟨d, hd, hdrop⟩ := getElem?_range' hlt
    rw [hdrop] at w'
    obtain ⟨_, hlen, w'⟩ := w'
    obtain ⟨hgo, hyld⟩ := ok'.1 d hd
    refine .inr ⟨hgo, fun H2 => i + 1 ≤ xs.length ∧ ∃ (S' : Sto) (acc : List D) (vs : List V), Ext S1 H1 S' H2 ∧ SRep K (more Z L) S' H2 ∧ Tabs tb H2 ∧ H2 L = some (.lst vs) ∧ RepL K (more Z L) S' H2 acc vs ∧ EnvR K (more Z L) S' H2 (wipeD ρ (own.map (·.2))) (wipe σ (own.map (·.2))) ∧
      compL (fun d k => bindT t d (wipeD ρ (own.map (·.2))) k) (fun ρ' S' k => wT X' G mc ρ' S' k) (fun ρ' S' k => wE X' G me ρ' S' k) stay (fun acc S' => if mu = true then ∀ p, S' p = none → Q (.ref p) (S'.put p acc) else Q (.lst acc) S') (xs.drop (i + 1)) acc S',
      fun H2 h => ⟨xs.length - (i + 1), by omega, rfl, h⟩, fun x H2 hy => ?_⟩
    obtain ⟨x2, s2, t2, r2⟩ := hyld x H2 hy
    refine gOf_sem (e'.ext s' x2) r2 w' fun ρ3 σ3 e3 o3 w3 => ⟨(o3 _ hsl).trans (wipe_wipe σ _ _ fun _ h => h), ?_⟩
    have keepL : ∀ {H3 : Hp} {S3 : Sto}, Ext S' H' S3 H3 → H3 L = some (.lst vs) := fun {H3 S3} x3 => (x3.keep L _ eL nL fun ps e => by cases e).1
    refine ⟨more Z L, ρ3, S', _, ⟨e3, s2, t2⟩, w3, fun b S4 H4 x4 s4 t4 w4 => ?_⟩
    cases b with
    | false =>
      exact ⟨hlt, S4, acc, vs, (x'.trans x2).trans x4, s4, t4, keepL (x2.trans x4), (r'.ext s' x2).ext s2 x4, (e'.ext s' x2).ext s2 x4, w4⟩
    | true =>
      refine ⟨more Z L, ρ3, S4, _, ⟨e3.ext s2 x4, s4, t4⟩, w4, fun d5 S5 v5 H5 x5 s5 t5 r5 w5 => ?_⟩
      have eL5 := keepL ((x2.trans x4).trans x5)
      have rv : RepL K (more Z L) S5 H5 acc vs := ((r'.ext s' x2).ext s2 x4).ext s4 x5
      refine ⟨vs, eL5, by rw [LIM_eq, ← rv.length]; exact hlen, hlt, S5, acc ++ [d5], vs ++ [v5], (((x'.trans x2).trans x4).trans x5).hid hL, s5.chz eL5 (.inr rfl), t5.hid eL5, upd_same, (rv.snoc r5).chz eL5 (.inr rfl), (((e'.ext s' x2).ext s2 x4).ext s4 x5).chz eL5 (.inr rfl), w5⟩
  · have hn : xs.drop i = [] := List.drop_eq_nil_of_le (Nat.le_of_not_lt hlt)
    rw [hn] at w'
    refine .inl ⟨ok'.2 (Nat.le_of_not_lt hlt), ?_⟩
    have w2 := w'.2
    have s0' := s'.less
    have nzL : ¬ Z L := fun z => by
      obtain ⟨⟨o, e⟩, _⟩ := s1.hid L z
      rw [hL] at e; cases e
    cases mu with
    | true =>
      have w2 : Q (.ref L) (S'.put L acc) := w2 L nL
      have xp : Ext S1 H1 (S'.put L acc) H' := ⟨fun a o e n tt => by
        obtain ⟨h1, n1⟩ := x'.keep a o e n tt
        exact ⟨h1, by rw [Sto.put_ne (ne_of_none e hL)]; exact n1⟩, x'.ls, x'.ds⟩
      exact k _ _ _ _ (x1.trans xp) (s'.shown nzL eL r') t' (.ref ⟨_, eL⟩) w2
    | false =>
      exact k _ _ _ _ (x1.trans x') s0' t' (.lst eL nL nzL r'.less) w2
/-- one clause -/
theorem de_lc {mu : Bool} {elt tg iter : Expr} {ifs : List Expr} {scope : Scope} {own : List (Str × Nat)} {t : TT'} {me mi mc : M} (hc : X.calm = true) (hN : X.N.Nodup) (hi : DI X tb X' G tg iter mi) (ok : BlkOk X.N X.env.scope scope own)
    (hg : ∀ (s : Shared) (H : Hp) (C : Addr) (cl : List (Str × Addr)) (fp : List Addr), DG (X.blk s H scope (compEnvC scope cl C X.env) fp) tg t) (hsl : ∀ i ∈ slots t, i ∈ own.map (·.2))
    (ht : ∀ (s : Shared) (H : Hp) (C : Addr) (cl : List (Str × Addr)) (fp : List Addr), PTs (X.blk s H scope (compEnvC scope cl C X.env) fp) ifs (tDT X.K tb (wT X' G mc)))
    (he : ∀ (s : Shared) (H : Hp) (C : Addr) (cl : List (Str × Addr)) (fp : List Addr), DE (X.blk s H scope (compEnvC scope cl C X.env) fp) tb X' G elt me) (hs : ∀ x, foldedSetIterable iter X.env x = pure x) :
    DE X tb X' G (.ListComp elt [⟨tg, iter, ifs, 0⟩] scope pos) (.lc mu (own.map (·.2)) t me mi mc) := by
  have hg' : ∀ (s : Shared) (H : Hp) (C : Addr) (cl : List (Str × Addr)) (fp : List Addr), PG (X.blk s H scope (compEnvC scope cl C X.env) fp) tg (gOf X.K t) := hg
  have he' : ∀ (s : Shared) (H : Hp) (C : Addr) (cl : List (Str × Addr)) (fp : List Addr), PE (X.blk s H scope (compEnvC scope cl C X.env) fp) elt (tD X.K tb (wE X' G me)) := he
  exact PE.weak (pe_lc hc hN hi ok hg' ht he' hs) fun σ H Qv h => lc_read hsl h

/-! ### statements -/
structure EndsR (K : PySem.W.Frag) (tb : List Addr) (Z : Addr → Prop) (S : Sto) (H : Hp) (E : ED) (Dv : Ends) : Prop where
  nx : ∀ ρ' S' σ' H', Ext S H S' H' → Sim K tb Z ρ' S' σ' H' → E.nx ρ' S' → Dv.nx σ' H'
  rt : Aft K tb Z S H E.rt Dv.rt
  bk : ∀ ρ' S' σ' H', Ext S H S' H' → Sim K tb Z ρ' S' σ' H' → E.bk ρ' S' → Dv.bk σ' H'
  ct : ∀ ρ' S' σ' H', Ext S H S' H' → Sim K tb Z ρ' S' σ' H' → E.ct ρ' S' → Dv.ct σ' H'
theorem EndsR.ext {K : PySem.W.Frag} {Z : Addr → Prop} {S S1 : Sto} {H H1 : Hp} {E : ED} {Dv : Ends} (k : EndsR K tb Z S H E Dv) (x : Ext S H S1 H1) : EndsR K tb Z S1 H1 E Dv :=
  ⟨fun ρ' S' σ' H' x' m q => k.nx ρ' S' σ' H' (x.trans x') m q, k.rt.ext x, fun ρ' S' σ' H' x' m q => k.bk ρ' S' σ' H' (x.trans x') m q, fun ρ' S' σ' H' x' m q => k.ct ρ' S' σ' H' (x.trans x') m q⟩
def tDS (K : PySem.W.Frag) (tb : List Addr) (w : ED → Rho → Sto → Prop) : TS := fun Dv σ H => ∃ Z ρ S E, Sim K tb Z ρ S σ H ∧ w E ρ S ∧ EndsR K tb Z S H E Dv
abbrev DS (X : Cx) (tb : List Addr) (X' : Mod') (G : Fns) (st : Stmt) (c : C) : Prop := PS X st (tDS X.K tb (wC X' G c))
abbrev DSs (X : Cx) (tb : List Addr) (X' : Mod') (G : Fns) (st : List Stmt) (c : C) : Prop := PSs X st (tDS X.K tb (wC X' G c))
variable {st : Stmt} {sts : List Stmt} {ca cb : C} {a b c e : Expr} {ma mb mc me : M}
theorem dss_nil : DSs X tb X' G [] .done := PSs.weak pss_nil fun Dv σ H ⟨Z, ρ, S, E, m, w, k⟩ => k.nx ρ S σ H Ext.refl m w
theorem dss_cons (h1 : DS X tb X' G st ca) (h2 : DSs X tb X' G sts cb) : DSs X tb X' G (st :: sts) (.seq ca cb) :=
  PSs.weak (pss_cons h1 h2) fun Dv σ H ⟨Z, ρ, S, E, m, w, k⟩ => ⟨Z, ρ, S, _, m, w, ⟨fun ρ' S' σ' H' x' m' q => ⟨Z, ρ', S', E, m', q, k.ext x'⟩, k.rt, k.bk, k.ct⟩⟩
theorem dss_frz {i : Nat} {sts : List Stmt} {c : C} (h : DSs X tb X' G sts c) : DSs X tb X' G sts (.seq (.frz i) c) := PSs.weak h fun Dv σ H ⟨Z, ρ, S, E, m, w, k⟩ => by
  obtain ⟨a, xs, e, ea, w⟩ := w
  have sb : Sub (S.del a) S := Sub.del
  have xt : Ext S H (S.del a) H := Ext.refl.sub sb
  have s2 := m.sto.sub sb
  obtain ⟨v, hv, rv⟩ := m.env.at_ i _ e
  have r : Rep X.K Z (S.del a) H (.lst xs) v := Rep.frz m.sto sb (.ref ea Sto.del_same (FrzL.refl xs)) rv
  cases rv
  refine ⟨Z, _, S.del a, _, ⟨?_, s2, m.tab⟩, w, k.ext xt⟩
  have e2 := (m.env.ext m.sto xt).set i r
  rw [show σ.set i (some (V.ref a)) = σ from List.ext_getElem? fun j => by
    by_cases q : j = i
    · subst q
      rw [List.getElem?_set, hv, if_pos rfl, if_pos (List.getElem?_eq_some_iff.mp hv).1]
    · rw [List.getElem?_set_ne (fun z => q z.symm)]] at e2
  exact e2
theorem ds_pass : DS X tb X' G (.Pass pos) .done := PS.weak ps_pass fun Dv σ H ⟨Z, ρ, S, E, m, w, k⟩ => k.nx ρ S σ H Ext.refl m w
theorem ds_brk : DS X tb X' G (.Break pos) .brk := PS.weak ps_break fun Dv σ H ⟨Z, ρ, S, E, m, w, k⟩ => k.bk ρ S σ H Ext.refl m w
theorem ds_cont : DS X tb X' G (.Continue pos) .cont := PS.weak ps_continue fun Dv σ H ⟨Z, ρ, S, E, m, w, k⟩ => k.ct ρ S σ H Ext.refl m w
theorem ds_ret (h : DE X tb X' G e me) : DS X tb X' G (.Return (some e) pos) (.ret me) := PS.weak (ps_ret h) fun Dv σ H ⟨Z, ρ, S, E, m, w, k⟩ => ⟨Z, ρ, S, E.rt, m, w, k.rt⟩
theorem ds_retN : DS X tb X' G (.Return none pos) .retN := PS.weak ps_retN fun Dv σ H ⟨Z, ρ, S, E, m, w, k⟩ => k.rt _ S _ H Ext.refl m.sto m.tab .non w
theorem ds_ex (h : DE X tb X' G e me) (hs : swapsWith e none pos.line X.env = pure false) : DS X tb X' G (.Expr e pos) (.ex me) :=
  PS.weak (ps_expr h hs) fun Dv σ H ⟨Z, ρ, S, E, m, w, k⟩ => ⟨Z, ρ, S, _, m, w, fun d S1 v H1 x1 s1 t1 r1 w1 => k.nx ρ S1 σ H1 x1 (m.go x1 s1 t1) w1⟩
theorem ds_if {as bs : List Stmt} (hc : DT X tb X' G c mc) (ha : DSs X tb X' G as ca) (hb : DSs X tb X' G bs cb) : DS X tb X' G (.If c as bs pos) (.ite mc ca cb) :=
  PS.weak (ps_if hc ha hb) fun Dv σ H ⟨Z, ρ, S, E, m, w, k⟩ => ⟨Z, ρ, S, _, m, w, fun t S1 H1 x1 s1 t1 w1 => by
    cases t with
    | true => exact ⟨Z, ρ, S1, E, m.go x1 s1 t1, w1, k.ext x1⟩
    | false => exact ⟨Z, ρ, S1, E, m.go x1 s1 t1, w1, k.ext x1⟩⟩
theorem asg_core {K : PySem.W.Frag} {t : TT'} {σ : L2.St} {H : Hp} {Dv : Ends} (h : tDS K tb (wC X' G (.asg t me)) Dv σ H) : tAsg (tD K tb (wE X' G me)) (gOf K t) Dv σ H := by
  obtain ⟨Z, ρ, S, E, m, w, k⟩ := h
  exact ⟨Z, ρ, S, _, m, w, fun d S1 v H1 x1 s1 t1 r1 w1 => gOf_sem (m.go x1 s1 t1).env r1 w1 fun ρ' σ' e' _ w' => k.nx ρ' S1 σ' H1 x1 ⟨e', s1, t1⟩ w'⟩
theorem ds_asg {tg : Expr} {t : TT'} (he : DE X tb X' G e me) (hg : DG X tg t) (hs : swapsWithSole [tg] e pos.line X.env = pure false) (hw : swappedStores [tg] e X.env = pure none)
    (h1 : (assignEach [tg] X.env).map (·.2) = [assign tg X.env]) : DS X tb X' G (.Assign [tg] e pos) (.asg t me) := PS.weak (ps_asg he hg hs hw h1) fun Dv σ H h => asg_core h
theorem ds_set {i : Nat} {x : Str} {pos' : Pos} (hN : X.N.Nodup) (hi : X.N[i]? = some x) (hx : Loc X.env.scope x) (he : DE X tb X' G e me) (hs : swapsWith e (some (.Name x pos')) pos.line X.env = pure false) (hf : X.fn x = true ∨ X.env.scope.names.lookup x = some .local) :
    DS X tb X' G (.Assign [.Name x pos'] e pos) (.asg (.n i) me) := PS.weak (ps_set hN hi hx he hs hf) fun Dv σ H h => asg_core h
/-- name = [..] where the model stores it on its own road -/
theorem ds_setLc {mu : Bool} {i : Nat} {y : Str} {py : Pos} {elt tg iter : Expr} {ifs : List Expr} {scope : Scope} {own : List (Str × Nat)} {spos : Pos} {t : TT'} {mi : M} (hc : X.calm = true) (hN : X.N.Nodup) (hy : X.N[i]? = some y) (hyl : X.env.scope.names.lookup y = some .local)
    (hsw : swapsWith (.ListComp elt [⟨tg, iter, ifs, 0⟩] scope pos) (some (.Name y py)) spos.line X.env = pure true) (hi : DI X tb X' G tg iter mi) (ok : BlkOk X.N X.env.scope scope own)
    (hg : ∀ (s : Shared) (H : Hp) (C : Addr) (cl : List (Str × Addr)) (fp : List Addr), DG (X.blk s H scope (compEnvC scope cl C X.env) fp) tg t) (hsl : ∀ i ∈ slots t, i ∈ own.map (·.2))
    (ht : ∀ (s : Shared) (H : Hp) (C : Addr) (cl : List (Str × Addr)) (fp : List Addr), PTs (X.blk s H scope (compEnvC scope cl C X.env) fp) ifs (tDT X.K tb (wT X' G mc)))
    (he : ∀ (s : Shared) (H : Hp) (C : Addr) (cl : List (Str × Addr)) (fp : List Addr), DE (X.blk s H scope (compEnvC scope cl C X.env) fp) tb X' G elt me) (hs : ∀ x, foldedSetIterable iter X.env x = pure x) :
    DS X tb X' G (.Assign [.Name y py] (.ListComp elt [⟨tg, iter, ifs, 0⟩] scope pos) spos) (.asg (.n i) (.lc mu (own.map (·.2)) t me mi mc)) := by
  have hg' : ∀ (s : Shared) (H : Hp) (C : Addr) (cl : List (Str × Addr)) (fp : List Addr), PG (X.blk s H scope (compEnvC scope cl C X.env) fp) tg (gOf X.K t) := hg
  have he' : ∀ (s : Shared) (H : Hp) (C : Addr) (cl : List (Str × Addr)) (fp : List Addr), PE (X.blk s H scope (compEnvC scope cl C X.env) fp) elt (tD X.K tb (wE X' G me)) := he
  exact PS.weak (ps_setLc hc hN hy hyl hsw hi ok hg' ht he' hs) fun Dv σ H h => lc_read hsl (asg_core (t := .n i) h)
theorem ds_swap {i j : Nat} {x y : Str} {px py pt : Pos} {kt k2 pt2} (hc : X.calm = true) (hN : X.N.Nodup) (hi : X.N[i]? = some x) (hj : X.N[j]? = some y) (hij : i ≠ j)
    (hx : X.env.scope.names.lookup x = some .local) (hy : X.env.scope.names.lookup y = some .local) (ha : DE X tb X' G a ma) (hb : DE X tb X' G b mb)
    (h1 : starEach [a, b] X.env = (false, eval a X.env) :: starEach [b] X.env) (h2 : starEach [b] X.env = (false, eval b X.env) :: starEach [] X.env)
    (hw : swappedStores [.Tuple [.Name x px, .Name y py] kt pt] (.Tuple [a, b] k2 pt2) X.env = pure (some [x, y])) :
    DS X tb X' G (.Assign [.Tuple [.Name x px, .Name y py] kt pt] (.Tuple [a, b] k2 pt2) pos) (.swap i j ma mb) :=
  PS.weak (ps_par hc hN hi hj hij hx hy (pa_cons ha (pa_cons hb pa_nil h2) h1) hw rfl) fun Dv σ H ⟨Z, ρ, S, E, m, w, k⟩ =>
    ⟨Z, ρ, S, _, m, w, fun d S1 v H1 x1 s1 t1 r1 w1 => ⟨Z, ρ, S1, _, m.go x1 s1 t1, w1, fun d2 S2 v2 H2 x2 s2 t2 r2 w2 =>
      ⟨v, v2, rfl, k.nx _ S2 _ H2 (x1.trans x2) ⟨(((m.go x1 s1 t1).env.ext s1 x2).set i (r1.ext s1 x2)).set j r2, s2, t2⟩ w2⟩⟩⟩
theorem ds_swap3 {i j l : Nat} {x y z : Str} {px py pz pt : Pos} {kt k2 pt2} (hc : X.calm = true) (hN : X.N.Nodup) (hi : X.N[i]? = some x) (hj : X.N[j]? = some y) (hl : X.N[l]? = some z) (hij : i ≠ j) (hil : i ≠ l) (hjl : j ≠ l)
    (hx : X.env.scope.names.lookup x = some .local) (hy : X.env.scope.names.lookup y = some .local) (hz : X.env.scope.names.lookup z = some .local) (ha : DE X tb X' G a ma) (hb : DE X tb X' G b mb) (hcc : DE X tb X' G c mc)
    (h1 : starEach [a, b, c] X.env = (false, eval a X.env) :: starEach [b, c] X.env) (h2 : starEach [b, c] X.env = (false, eval b X.env) :: starEach [c] X.env) (h3 : starEach [c] X.env = (false, eval c X.env) :: starEach [] X.env)
    (hw : swappedStores [.Tuple [.Name x px, .Name y py, .Name z pz] kt pt] (.Tuple [a, b, c] k2 pt2) X.env = pure (some [x, y, z])) :
    DS X tb X' G (.Assign [.Tuple [.Name x px, .Name y py, .Name z pz] kt pt] (.Tuple [a, b, c] k2 pt2) pos) (.swap3 i j l ma mb mc) :=
  PS.weak (ps_par3 hc hN hi hj hl hij hil hjl hx hy hz (pa_cons ha (pa_cons hb (pa_cons hcc pa_nil h3) h2) h1) hw rfl) fun Dv σ H ⟨Z, ρ, S, E, m, w, k⟩ =>
    ⟨Z, ρ, S, _, m, w, fun d S1 v H1 x1 s1 t1 r1 w1 => ⟨Z, ρ, S1, _, m.go x1 s1 t1, w1, fun d2 S2 v2 H2 x2 s2 t2 r2 w2 => ⟨Z, ρ, S2, _, (m.go x1 s1 t1).go x2 s2 t2, w2, fun d3 S3 v3 H3 x3 s3 t3 r3 w3 =>
      ⟨v, v2, v3, rfl, k.nx _ S3 _ H3 ((x1.trans x2).trans x3) ⟨((((((m.go x1 s1 t1).go x2 s2 t2).env.ext s2 x3).set i ((r1.ext s1 x2).ext s2 x3)).set j (r2.ext s2 x3)).set l r3), s3, t3⟩ w3⟩⟩⟩⟩
theorem ds_augv (hp : PyRoom X) {i : Nat} {x : Str} {o : BO} {pos' : Pos} (hN : X.N.Nodup) (hi : X.N[i]? = some x) (hx : Loc X.env.scope x) (he : DE X tb X' G e me) (hf : X.fn x = true ∨ X.env.scope.names.lookup x = some .local) :
    DS X tb X' G (.AugAssign (.Name x pos') o.op e pos) (.augv i o me) := by
  obtain ⟨r, hr, hsm⟩ := aug_sem (X := X) (tb := tb) hp o
  exact PS.weak (ps_aug hN hi hx he hr hf) fun Dv σ H ⟨Z, ρ, S, E, m, ⟨d, hd, w⟩, k⟩ => by
    obtain ⟨v, hv, rv⟩ := m.env.at_ i d hd
    exact ⟨v, hv, Z, ρ, S, _, m, w, fun d1 S1 v1 H1 x1 s1 t1 r1 w1 => hsm Z d d1 v v1 S1 H1 (fun z S2 => E.nx (ρ.set i (some z)) S2) _ s1 t1 (rv.ext m.sto x1) r1 w1 fun d2 S2 v2 H2 x2 s2 t2 r2 w2 =>
      k.nx _ S2 _ H2 (x1.trans x2) ⟨(((m.go x1 s1 t1).env.ext s1 x2).set i r2), s2, t2⟩ w2⟩
theorem dAug_mono {o : BO} {x y : D} {P P' : D → Prop} (f : ∀ z, P z → P' z) (h : dAug o x y P) : dAug o x y P' := by
  cases o <;> cases x <;> cases y <;> first | exact h.elim | exact f _ h | exact ⟨h.1, f _ h.2⟩
theorem dIx_mono {S : Sto} {x y : D} {P P' : D → Prop} (f : ∀ z, P z → P' z) (h : dIx S x y P) : dIx S x y P' := by
  cases x <;> cases y <;> first
    | exact h.elim
    | exact (let ⟨d, e, q⟩ := h; ⟨d, e, f _ q⟩)
    | exact (let ⟨xs, d, e0, e, q⟩ := h; ⟨xs, d, e0, e, f _ q⟩)
theorem ds_augs (hp : PyRoom X) {o : BO} {tpos : Pos} (ha : DE X tb X' G a ma) (hb : DE X tb X' G b mb) (he : DE X tb X' G e me)
    (hst : ∀ ov iv new, augStore b ov iv new = (do holding [new, ov, iv] (setItem ov iv new); release [new, ov, iv] []; pure .next)) : DS X tb X' G (.AugAssign (.Subscript a b tpos) o.op e pos) (.augs ma mb o me) := by
  obtain ⟨r, hr, hsm⟩ := aug_sem (X := X) (tb := tb) hp o
  obtain ⟨rg, hg, hgm⟩ := pget_sem (X := X) (tb := tb)
  obtain ⟨rs, hs, hsem⟩ := set_sem (X := X) (tb := tb)
  exact PS.weak (ps_augS ha hb hg he hr hs hst) fun Dv σ H ⟨Z, ρ, S, E, m, w, k⟩ =>
    ⟨Z, ρ, S, _, m, w, fun d1 S1 v1 H1 x1 s1 t1 r1 w1 => ⟨Z, ρ, S1, _, m.go x1 s1 t1, w1, fun d2 S2 v2 H2 x2 s2 t2 r2 ⟨w2a, w2⟩ =>
      hgm Z d1 d2 v1 v2 S2 H2 (fun old S3 => S3 = S2 ∧ wE X' G me ρ S2 fun z S3 => dAug o old z fun new => dSet d1 d2 new S3 fun S4 => E.nx ρ S4) _ s2 t2 (r1.ext s1 x2) r2 (dIx_mono (fun z h => ⟨rfl, h⟩) w2)
        (fun d3 S3 v3 H3 x3 s3 t3 r3 ⟨es, w3⟩ => by
          subst es
          exact ⟨Z, ρ, S3, _, (m.go x1 s1 t1).go (x2.trans x3) s3 t3, w3, fun d4 S4 v4 H4 x4 s4 t4 r4 w4 =>
            hsm Z d3 d4 v3 v4 S4 H4 (fun new S5 => S5 = S4 ∧ dSet d1 d2 new S4 fun S6 => E.nx ρ S6) _ s4 t4 (r3.ext s3 x4) r4 (dAug_mono (fun z h => ⟨rfl, h⟩) w4) fun d5 S5 v5 H5 x5 s5 t5 r5 ⟨es, w5⟩ => by
              subst es
              exact hsem Z d1 d2 d5 v1 v2 v5 S5 H5 (fun S6 => E.nx ρ S6) _ s5 t5 ((r1.ext s1 x2).ext s2 ((x3.trans x4).trans x5)) (r2.ext s2 ((x3.trans x4).trans x5)) r5 w5 fun S6 H6 x6 s6 t6 w6 =>
                k.nx ρ S6 σ H6 ((((x1.trans x2).trans (x3.trans x4)).trans x5).trans x6) ((m.go x1 s1 t1).go ((((x2.trans x3).trans x4).trans x5).trans x6) s6 t6) w6⟩)
        (by cases d1 <;> first | exact w2a.elim | exact ⟨_, rfl⟩)⟩⟩
theorem ds_sets {spos : Pos} (ha : DE X tb X' G a ma) (hb : DE X tb X' G b mb) (he : DE X tb X' G e me) (hs1 : swapsWithSole [.Subscript a b spos] e pos.line X.env = pure false) (hw : swappedStores [.Subscript a b spos] e X.env = pure none)
    (hasg : ∀ v, assign (.Subscript a b spos) X.env v = (do
      let ov ← holding [v] (eval a X.env)
      let iv ← holding [v, ov] (eval b X.env)
      standAt spos
      holding [v, ov, iv] (setItem ov iv v)
      release [v, ov, iv] [])) : DS X tb X' G (.Assign [.Subscript a b spos] e pos) (.sets ma mb me) := by
  obtain ⟨rs, hs, hsem⟩ := set_sem (X := X) (tb := tb)
  exact PS.weak (ps_asg he (pg_sub ha hb hs hasg) hs1 hw rfl) fun Dv σ H ⟨Z, ρ, S, E, m, w, k⟩ =>
    ⟨Z, ρ, S, _, m, w, fun d1 S1 v1 H1 x1 s1 t1 r1 w1 => ⟨Z, ρ, S1, _, m.go x1 s1 t1, w1, fun d2 S2 v2 H2 x2 s2 t2 r2 w2 => ⟨Z, ρ, S2, _, (m.go x1 s1 t1).go x2 s2 t2, w2, fun d3 S3 v3 H3 x3 s3 t3 r3 w3 =>
      hsem Z d2 d3 d1 v2 v3 v1 S3 H3 (fun S4 => E.nx ρ S4) _ s3 t3 (r2.ext s2 x3) r3 ((r1.ext s1 x2).ext s2 x3) w3 fun S4 H4 x4 s4 t4 w4 =>
        k.nx ρ S4 σ H4 (((x1.trans x2).trans x3).trans x4) (((m.go x1 s1 t1).go (x2.trans x3) s3 t3).go x4 s4 t4) w4⟩⟩⟩
/-! ### loops -/
theorem ds_while {body : List Stmt} (hp : PassesOwn (model X.prog X.w) X.A X.env X.xe) (hc : DT X tb X' G c mc) (hb : DSs X tb X' G body ca) : DS X tb X' G (.While c body [] pos) (.whl mc ca) :=
  PS.weak (ps_while hp hc hb) fun Dv σ H ⟨Z, ρ, S, E, m, ⟨n, w⟩, k⟩ => by
    let P : Nat → L2.St → Hp → Prop := fun n σ' H' => ∃ ρ' S', Ext S H S' H' ∧ Sim X.K tb Z ρ' S' σ' H' ∧ whileN (fun ρ S k => wT X' G mc ρ S k) (fun E ρ S => wC X' G ca E ρ S) E n ρ' S'
    refine ⟨P, ⟨n, ρ, S, Ext.refl, m, w⟩, fun n σ1 H1 ⟨ρ1, S1, x1, m1, w1⟩ => ?_⟩
    cases n with
    | zero => exact w1.elim
    | succ n =>
      refine ⟨Z, ρ1, S1, _, m1, w1, fun b S2 H2 x2 s2 t2 w2 => ?_⟩
      cases b with
      | false => exact k.nx ρ1 S2 σ1 H2 (x1.trans x2) (m1.go x2 s2 t2) w2
      | true =>
        have again : ∀ ρ' S' σ' H', Ext S2 H2 S' H' → Sim X.K tb Z ρ' S' σ' H' → whileN (fun ρ S k => wT X' G mc ρ S k) (fun E ρ S => wC X' G ca E ρ S) E n ρ' S' → P n σ' H' := fun ρ' S' σ' H' x' m' q => ⟨ρ', S', (x1.trans x2).trans x', m', q⟩
        exact ⟨P n, fun σ' H' q => ⟨n, Nat.lt_succ_self n, q⟩, Z, ρ1, S2, _, m1.go x2 s2 t2, w2, ⟨again, (k.ext (x1.trans x2)).rt, (k.ext (x1.trans x2)).nx, again⟩⟩
theorem ds_for {tg iter : Expr} {body : List Stmt} {t : TT'} {mi : M} (hp : PassesOwn (model X.prog X.w) X.A X.env X.xe) (hc : X.calm = true) (hi : DI X tb X' G tg iter mi) (hg : DG X tg t) (hb : DSs X tb X' G body ca) (hs : ∀ x, foldedSetIterable iter X.env x = pure x) :
    DS X tb X' G (.For tg iter body [] pos) (.for t mi ca) :=
  PS.weak (ps_for hp hc hi hg hb hs) fun Dv σ H ⟨Z, ρ, S, E, m, w, k⟩ => ⟨Z, ρ, S, _, m, w, fun xs stay S0 J H0 x0 s0 t0 itok w0 => by
    have itok := itok Z (fun _ z => .inl z)
    let P : Nat → Nat → L2.St → Hp → Prop := fun i n σ' H' => n = xs.length - i ∧ i ≤ xs.length ∧ ∃ ρ' S', Ext S0 H0 S' H' ∧ Sim X.K tb Z ρ' S' σ' H' ∧ forL (fun d ρ k => bindT t d ρ k) (fun E ρ S => wC X' G ca E ρ S) stay E (xs.drop i) ρ' S'
    refine ⟨P, ⟨xs.length, rfl, Nat.zero_le _, ρ, S0, Ext.refl, m.go x0 s0 t0, w0⟩, fun i n σ1 H1 ⟨en, hi', ρ1, S1, x1, m1, w1⟩ => ?_⟩
    subst en
    have st' : stay S1 := by
      cases h : xs.drop i with
      | nil => rw [h] at w1; exact w1.1
      | cons _ _ => rw [h] at w1; exact w1.1
    have ok' := itok i S1 H1 x1 m1.sto m1.tab st'
    by_cases hlt : i < xs.length
    · obtain ⟨d, hd, hdrop⟩ := getElem?_range' hlt
      rw [hdrop] at w1
      obtain ⟨hgo, hyld⟩ := ok'.1 d hd
      let P' : L2.St → Hp → Prop := fun σ' H' => i + 1 ≤ xs.length ∧ ∃ ρ' S', Ext S0 H0 S' H' ∧ Sim X.K tb Z ρ' S' σ' H' ∧ forL (fun d ρ k => bindT t d ρ k) (fun E ρ S => wC X' G ca E ρ S) stay E (xs.drop (i + 1)) ρ' S'
      refine .inr ⟨hgo, P', fun σ' H' q => ⟨xs.length - (i + 1), by omega, rfl, q⟩, fun x H2 hy => ?_⟩
      obtain ⟨x2, s2, t2, r2⟩ := hyld x H2 hy
      refine gOf_sem (m1.env.ext m1.sto x2) r2 w1.2 fun ρ3 σ3 e3 _ w3 => ?_
      have again : ∀ ρ' S' σ' H', Ext S1 H2 S' H' → Sim X.K tb Z ρ' S' σ' H' → forL (fun d ρ k => bindT t d ρ k) (fun E ρ S => wC X' G ca E ρ S) stay E (xs.drop (i + 1)) ρ' S' → P' σ' H' := fun ρ' S' σ' H' x' m' q => ⟨hlt, ρ', S', (x1.trans x2).trans x', m', q⟩
      have k2 := k.ext (x0.trans (x1.trans x2))
      exact ⟨Z, ρ3, S1, _, ⟨e3, s2, t2⟩, w3, ⟨again, k2.rt, k2.nx, again⟩⟩
    · have hn : xs.drop i = [] := List.drop_eq_nil_of_le (Nat.le_of_not_lt hlt)
      rw [hn] at w1
      exact .inl ⟨ok'.2 (Nat.le_of_not_lt hlt), k.nx ρ1 S1 σ1 H1 (x0.trans x1) m1 w1.2⟩⟩
end
end DL

set_option Elab.async false
set_option linter.all false
set_option maxRecDepth 100000
set_option maxHeartbeats 4000000
/-! DL6E: enumerate. -/
namespace DL
open PySem PySem.Spec PyProof.Rows L2 RZ
section
variable {prog : Program} {w : World} {A : Around} {E : Value → Shared → Prop} {s : Shared}
theorem enum_endT {e it l : Addr} {i : Nat} {items : Array Value} {old : Value} {Q : Option Value → Shared → Prop} (hh : A.handled = none)
    (he : IsEnum s.heap e it i old) (hit : s.heap.IsTupleIter it l i) (hl : s.heap.IsTuple l items) (hx : items[i]? = none)
    (hQ : ∀ h', Heap.ExtBut it s.heap h' → Q none { s with heap := h' }) : wpAny (model prog w) A (pyNext (.ref e)) Q E s := by
  have hT : s.TypeIs (.ref e) "enumerate" := ⟨_, he, rfl⟩
  unfold pyNext
  refine wpAny_bind (wpAny_attempt (wpAny_callSpecial?_slot (name := Str.ofString "__next__") hT F.slot_enumerate_next
    (wpAny_call_entry F.slot_enumerate_next hT F.entry_enumerate_next ?_ (F.args_enumerate_next_1 _))))
  show wpAny _ _ (field (.ref e) 2 >>= _) _ _ _
  refine wpAny_bind (wpAny_field he rfl (x := .ref it) rfl ?_)
  refine wpAny_bind (wpAny_nextOf_tuple_end hh hit hl hx fun h' x he' hx' => ?_)
  obtain ⟨o, ho, hc⟩ := hx'
  refine wpAny_bind (wpAny_isInstance (T := "StopIteration") (b := true) ⟨o, ho, hc⟩ isSubtype_stop ?_)
  exact wpAny_pure (hQ _ he')
set_option maxHeartbeats 8000000 in
theorem enum_new1 {v : Value} {o : Obj} {H : Heap → Prop} (B : Begins v o H) :
    Meets (Builtin.«enumerate.__new__» ⟨[.type "enumerate", v], []⟩) (fun _ R s => H s.heap ∧
      R (.ok (.ret (.ref (s.heap.push o).objs.size))) { s with heap := (s.heap.push o).push { cls := .type "enumerate", data := .fields #[.none, .bool false, .ref s.heap.objs.size, rawInt 0, .none, .none] } }) :=
  .of_wp fun prog w A R s h => by
    obtain ⟨hp, g, d, tk, os⟩ := s; obtain ⟨h1, h⟩ := h
    have hsub := sub_enumerate
    have q1 : ∀ {A' : Around} {E : Value → Shared → Prop} {Q : Value → Shared → Prop}, Q (.ref hp.objs.size) ⟨hp.push o, g, d, tk, os⟩ → wpAny (model prog w) A' (pyIter v) Q E ⟨hp, g, d, tk, os⟩ :=
      fun q => B.iter prog w _ _ ⟨hp, g, d, tk, os⟩ _ h1 q
    wp_walk using q1
    refine wpAny_stack_any fun st => wpAny_pure ?_
    split
    · rename_i c _ _ _ _ _
      cases (c == Value.type "enumerate")
      · wp_walk using q1
        exact ⟨_, rfl, h⟩
      · wp_walk using q1
        exact ⟨_, rfl, h⟩
    · wp_walk using q1
      exact ⟨_, rfl, h⟩
theorem call_enumT {l : Addr} {items : Array Value} {Q : Value → Shared → Prop} (hL : s.heap.IsTuple l items)
    (h : ∀ h', IsEnum h' (s.heap.objs.size + 1) s.heap.objs.size 0 .none → h'.IsTupleIter s.heap.objs.size l 0 → h'.objs.size = s.heap.objs.size + 2 →
      (∀ b o, s.heap.get? b = some o → h'.get? b = some o) → Q (.ref (s.heap.objs.size + 1)) { s with heap := h' }) :
    wpAny (model prog w) A (call (.type "enumerate") [.ref l]) Q E s := by
  refine callType_new F.called_enumerate (by decide) (F.typeCall_enumerate_1 _) (F.newCall_enumerate_1 _) (fun obj => F.args_object_init_2 obj _) F.entry_enumerate_new
    (enum_new1 (begins_tuple l items)) ⟨hL, ?_⟩
  have hz : (s.heap.push { cls := .type "tuple_iterator", data := .fields #[.ref l, .int 0 0] }).objs.size = s.heap.objs.size + 1 := Heap.size_push ..
  show _ ∧ _
  rw [hz]
  have he : IsEnum ((s.heap.push { cls := .type "tuple_iterator", data := .fields #[.ref l, .int 0 0] }).push
      { cls := .type "enumerate", data := .fields #[.none, .bool false, .ref s.heap.objs.size, rawInt 0, .none, .none] }) (s.heap.objs.size + 1) s.heap.objs.size 0 .none := by
    have := Heap.get?_push_size (s.heap.push { cls := .type "tuple_iterator", data := .fields #[.ref l, .int 0 0] })
      (o := { cls := .type "enumerate", data := .fields #[.none, .bool false, .ref s.heap.objs.size, rawInt 0, .none, .none] }) rfl
    rw [hz] at this; exact this
  refine ⟨⟨_, he, rfl⟩, h _ he ⟨_, Heap.get?_push_of_some _ (Heap.get?_push_size _ rfl), rfl, rfl⟩ (by rw [Heap.size_push, hz]) fun b o x => Heap.get?_push_of_some _ (Heap.get?_push_of_some _ x)⟩
end
/-- the tuple at a, each item in a new pair -/
def IteT (K : PySem.W.Frag) (a : Addr) : It :=
  ⟨fun i H => ∃ (xs : List V) (x : V), SqT K H a xs ∧ xs[i]? = some x, fun i H v H' => ∃ T x, v = .ref T ∧ H T = none ∧ H' = upd H T (.tup [.int (i : Nat), x]) ∧ ∀ xs, SqT K H a xs → xs[i]? = some x, fun i H => ∃ xs : List V, SqT K H a xs ∧ xs.length ≤ i⟩
theorem turn_enumT {P : Program} {w : World} {K : PySem.W.Frag} {elts : List Expr} {kk : Nat} {tpos : Pos} (a e it : Addr) :
    Turn P w K (.Tuple elts kk tpos) (IteT K a) [e, it] e (fun i h => (∃ old, IsEnum h e it ((i : Nat) : Int) old) ∧ h.IsTupleIter it a i ∧ e ≠ it ∧ e ≠ a ∧ a ≠ it) where
  mem := by simp
  obj := fun i h st b hb => by
    obtain ⟨⟨old, he⟩, ⟨o, ho, hc, hd⟩, _⟩ := st
    have e' : b = e ∨ b = it := by simpa using hb
    rcases e' with z | z
    · rw [z]; exact ⟨_, he, fun v q => nomatch q⟩
    · rw [z]; exact ⟨o, ho, fun v q => by rw [hd] at q; cases q⟩
  keep := fun i h h' st k => let ⟨⟨old, he⟩, hi, hne⟩ := st; ⟨⟨old, k e (by simp) _ he⟩, hi.at fun o q => k it (by simp) o q, hne⟩
  item := by
    intro X hP hw hK hc i pins s σ H E I hf st hg
    subst hP hw hK
    obtain ⟨⟨old, he⟩, hit, hne, hea, hai⟩ := st
    obtain ⟨xs, x, hq, hx⟩ := hg
    obtain ⟨its, rv, p, hz⟩ := I.tuple hq
    obtain ⟨u, hu, ru⟩ := rv.get hx
    have hel : e < s.heap.objs.size := Heap.lt_size he
    have hil : it < s.heap.objs.size := by obtain ⟨_, q, _⟩ := hit; exact Heap.lt_size q
    have hlt : i < its.toArray.size := by
      obtain ⟨h, _⟩ := List.getElem?_eq_some_iff.mp hu
      simpa using h
    refine wpAny_pyNext_enum_itemD (Draws.tuple (A := X.A.in1) (show X.A.in1.handled = none from I.ok.hd hc) it a hai its.toArray) he ⟨hit, p⟩ hlt hne (fun z => (List.mem_cons.mp z).elim hne fun z => hea (List.mem_singleton.mp z)) fun x' h' tk hx' ho st' hT hsz hk => ?_
    have hxu : x' = u := by
      have q : its.toArray[i]? = some u := by simpa using hu
      rw [q] at hx'
      exact (Option.some.inj hx').symm
    subst hxu
    obtain ⟨hit', _⟩ := st'
    refine ⟨_, rfl, wpAny_letOwnedTupleGo_enum (s := { s with heap := h', toks := tk + 1 }) ho fun h'' he' sb => ?_⟩
    have hT2 : h''.get? s.heap.objs.size = some { cls := .type "tuple", data := .seq #[.int i tk, x'] } := (sb.2 _ (Nat.ne_of_gt hel)).trans hT
    have new : ObjOk X.prog X.w (upd H s.heap.objs.size (.tup [.int (i : Nat), x])) h'' s.heap.objs.size (.tup [.int (i : Nat), x]) :=
      ⟨by show 2 ≤ sizeLine; decide, [.int i tk, x'], .cons ⟨_, rfl⟩ (.cons ru .nil), ⟨_, hT2, rfl, _, rfl⟩⟩
    have I1 : Inv X pins σ (upd H s.heap.objs.size (.tup [.int (i : Nat), x])) { s with heap := h'', toks := tk + 1 } :=
      I.turnedNew (ch := [e, it]) (fun b ob hb q => (sb.2 b (fun z => hb (by simp [z]))).trans (hk b ob (fun z => hb (by simp [z])) (fun z => hb (by simp [z])) q)) hf (Nat.le_refl _) new
    refine ⟨.ref s.heap.objs.size, _, I1, rfl, ⟨_, x, rfl, I.hok.fresh (Nat.le_refl _), rfl, fun ys hy => by rw [I.tuple_inj hy hq]; exact hx⟩, ⟨⟨x', ?_⟩, hit'.at fun o q => (sb.2 it (Ne.symm hne)).trans q, hne, hea, hai⟩, fun b hb => ?_⟩
    · have e1 : ((i + 1 : Nat) : Int) = (i : Int) + 1 := by omega
      rw [e1]; exact he'
    · have hb' : b < s.heap.objs.size := by
        have e' : b = e ∨ b = it := by simpa using hb
        rcases e' with z | z
        · rw [z]; exact hel
        · rw [z]; exact hil
      rw [upd_ne (Nat.ne_of_lt hb')]
      exact (hf b hb).1
  done := by
    intro X hP hw hK hc i pins s σ H E I hf st hg
    subst hP hw hK
    obtain ⟨⟨old, he⟩, hit, hne, hea, hai⟩ := st
    obtain ⟨xs, hq, hx⟩ := hg
    obtain ⟨its, rv, p, hz⟩ := I.tuple hq
    obtain ⟨f0, f1, f2, f3, f4, f5⟩ := hf it (by simp)
    have hl := rv.length
    exact enum_endT (I.ok.hd hc) he hit p (by simp; omega) fun h' eb => ⟨rfl, I.turned (t' := s.toks) (fun b o hb q => eb b o hb q) f0 f1 f3 f4 f5⟩
  self := fun A i s Q E st h => let ⟨⟨_, he⟩, _⟩ := st; wpAny_pyIter_enum he h
def iEnumA (K : PySem.W.Frag) (ta : TA) : TI := fun σ H R => ta σ H fun vs H1 => ∃ a xs, vs = [.ref a] ∧ ((SqL K H1 a xs ∧ R (Ite K a) H1) ∨ (SqT K H1 a xs ∧ R (IteT K a) H1))
theorem pi_enumA {X : Cx} {e : Expr} {ta : TA} {p pos tpos : Pos} {elts : List Expr} {kk : Nat} (hg : Gl X "enumerate") (hm : X.mg "enumerate" = none) (ha : PA X [e] ta) (hs : starEach [e] X.env = [(false, eval e X.env)]) :
    PI X (.Tuple elts kk tpos) (.Call (.Name "enumerate" p) [e] [] pos) (iEnumA X.K ta) := by
  refine ⟨fun pins s σ H R I h => ?_⟩
  refine Call_ (ld_blt I hg hm boot_enumerate (PyProof.Rows.callWith_type1 (thn (ha.run pos pins s σ H _ I h) fun us s1 ⟨vs, H1, I1, r1, q1⟩ => ?_) hs rfl))
  obtain ⟨a, xs, ex, q⟩ := q1
  subst ex
  cases r1 with
  | cons r rr =>
    cases rr
    cases r
    have fpo : ∀ {h' : Heap}, Inv X pins σ H1 { s1 with heap := h' } → True := fun _ => trivial
    rcases q with ⟨hq, q⟩ | ⟨hq, q⟩
    · obtain ⟨its, rv, p', hz⟩ := I1.list hq
      refine call_enumerate_list p'.isList fun h' he hit hsz hk => wpAny_pyIter_enum he ?_
      have I2 : Inv X pins σ H1 { s1 with heap := h' } := I1.kept (t' := s1.toks) hk
      refine ⟨s1.heap.objs.size + 1, [s1.heap.objs.size + 1, s1.heap.objs.size], _, _, H1, rfl, I2, turn_enum a (s1.heap.objs.size + 1) s1.heap.objs.size, ⟨⟨.none, he⟩, hit, Nat.succ_ne_self _⟩, fun b hb => ?_, q⟩
      have e' : b = s1.heap.objs.size + 1 ∨ b = s1.heap.objs.size := by simpa using hb
      have hle : s1.heap.objs.size ≤ b := by
        rcases e' with z | z
        · rw [z]; exact Nat.le_add_right _ _
        · rw [z]; exact Nat.le_refl _
      exact I1.fpOk hle (I1.hok.fresh hle)
    · obtain ⟨its, rv, p', hz⟩ := I1.tuple hq
      have hal : a < s1.heap.objs.size := by obtain ⟨o, q, _⟩ := id p'; exact Heap.lt_size q
      refine call_enumT p' fun h' he hit hsz hk => wpAny_pyIter_enum he ?_
      have I2 : Inv X pins σ H1 { s1 with heap := h' } := I1.kept (t' := s1.toks) hk
      refine ⟨s1.heap.objs.size + 1, [s1.heap.objs.size + 1, s1.heap.objs.size], _, _, H1, rfl, I2, turn_enumT a (s1.heap.objs.size + 1) s1.heap.objs.size, ⟨⟨.none, he⟩, hit, Nat.succ_ne_self _, fun z => ?_, fun z => ?_⟩, fun b hb => ?_, q⟩
      · have z : s1.heap.objs.size + 1 = a := z
        exact Nat.lt_asymm hal (z ▸ Nat.lt_succ_self _)
      · exact Nat.ne_of_lt hal z
      have e' : b = s1.heap.objs.size + 1 ∨ b = s1.heap.objs.size := by simpa using hb
      have hle : s1.heap.objs.size ≤ b := by
        rcases e' with z | z
        · rw [z]; exact Nat.le_add_right _ _
        · rw [z]; exact Nat.le_refl _
      exact I1.fpOk hle (I1.hok.fresh hle)
theorem enumD_get : ∀ {xs : List D} {n i : Nat} {d : D}, (enumD n xs)[i]? = some d → ∃ x, xs[i]? = some x ∧ d = .tup [.int ((n + i : Nat) : Int), x]
  | [], _, _, _, e => by cases e
  | x :: xs, n, 0, d, e => by cases e; exact ⟨x, rfl, rfl⟩
  | x :: xs, n, i + 1, d, e => by
    obtain ⟨y, h1, h2⟩ := enumD_get (n := n + 1) (show (enumD (n + 1) xs)[i]? = some d from e)
    exact ⟨y, h1, by rw [h2, show n + 1 + i = n + (i + 1) by omega]⟩
theorem enumD_len : ∀ {xs : List D} {n : Nat}, (enumD n xs).length = xs.length
  | [], _ => rfl
  | x :: xs, n => by show (enumD (n + 1) xs).length + 1 = _; rw [enumD_len]; rfl
section
variable {X : Cx} {tb : List Addr} {X' : Mod'} {G : Fns} {a : Expr} {ma : M} {pos : Pos}
theorem itOk_enumT {K : PySem.W.Frag} {Z : Addr → Prop} {S₀ : Sto} {H₀ : Hp} {a : Addr} {vs : List V} {xs : List D} (h : SqT K H₀ a vs) (s0 : SRep K Z S₀ H₀) (r : RepL K Z S₀ H₀ xs vs) : ItOk K tb Z S₀ H₀ (IteT K a) (enumD 0 xs) (fun _ => True) := by
  intro Z' hz i S H x s t _
  have h1 := sqT_ext s0 x h
  have r1 := (r.zz hz).extN s0.sno x
  refine ⟨fun d e => ?_, fun e => ⟨vs, h1, by rw [← r1.length]; rw [enumD_len] at e; exact e⟩⟩
  obtain ⟨dx, ex, rfl⟩ := enumD_get e
  rw [Nat.zero_add]
  obtain ⟨v, hv, rv⟩ := r1.get ex
  refine ⟨⟨vs, v, h1, hv⟩, fun y H2 hy => ?_⟩
  obtain ⟨T, x', rfl, hT, rfl, hx'⟩ := hy
  have e1 := hx' vs h1
  rw [hv] at e1; cases e1
  exact pair_new s t hT (.int _) rv
theorem itOk_enumL {K : PySem.W.Frag} {Z : Addr → Prop} {S₀ : Sto} {H₀ : Hp} {a : Addr} {vs : List V} {xs : List D} (h : H₀ a = some (.lst vs)) (n : S₀ a = none) (s0 : SRep K Z S₀ H₀) (r : RepL K Z S₀ H₀ xs vs) : ItOk K tb Z S₀ H₀ (Ite K a) (enumD 0 xs) (fun _ => True) := by
  intro Z' hz i S H x s t _
  have h1 : SqL K H a vs := SqL.of (x.keep _ _ h n fun ps e => by cases e).1
  have r1 := (r.zz hz).extN s0.sno x
  refine ⟨fun d e => ?_, fun e => ⟨vs, h1, by rw [← r1.length]; rw [enumD_len] at e; exact e⟩⟩
  obtain ⟨dx, ex, rfl⟩ := enumD_get e
  rw [Nat.zero_add]
  obtain ⟨v, hv, rv⟩ := r1.get ex
  refine ⟨⟨vs, v, h1, hv⟩, fun y H2 hy => ?_⟩
  obtain ⟨T, x', rfl, hT, rfl, hx'⟩ := hy
  have e1 := hx' vs h1
  rw [hv] at e1; cases e1
  exact pair_new s t hT (.int _) rv
theorem di_enum {elts : List Expr} {kk : Nat} {tpos p : Pos} (hg : Gl X "enumerate") (hm : X.mg "enumerate" = none) (ha : DE X tb X' G a ma)
    (h1 : starEach [a] X.env = (false, eval a X.env) :: starEach [] X.env) :
    DI X tb X' G (.Tuple elts kk tpos) (.Call (.Name "enumerate" p) [a] [] pos) (.enum ma) :=
  PI.weak (pi_enumA hg hm (pa_cons ha pa_nil h1) h1) fun σ H R ⟨Z, ρ, S, Q, m, w, k⟩ =>
    ⟨Z, ρ, S, _, m, w, fun d S1 v H1 x1 s1 t1 r1 w1 => by
      cases r1 with
      | @tup p vs ds h r =>
        have w1 : Q (enumD 0 ds) (fun _ => True) S1 := w1
        exact ⟨p, vs, rfl, .inr ⟨h, k _ _ S1 _ H1 x1 s1 t1 (itOk_enumT h s1 r) w1⟩⟩
      | @lst p vs ds h n nz r =>
        have w1 : Q (enumD 0 ds) (fun _ => True) S1 := w1
        exact ⟨p, vs, rfl, .inl ⟨SqL.of h, k _ _ S1 _ H1 x1 s1 t1 (itOk_enumL h n s1 r) w1⟩⟩
      | _ => exact w1.elim⟩
end
end DL

set_option Elab.async false
set_option linter.all false
set_option maxRecDepth 100000
set_option maxHeartbeats 4000000
/-! DL6Z: zip of a tuple and a list. -/
namespace DL
open PySem PySem.Spec PyProof.Rows L2 RZ
/-- what is walked by an iterator of its own kind -/
structure Src (K : PySem.W.Frag) (sq : Hp → Addr → List V → Prop) (itr : Heap → Addr → Addr → Nat → Prop) (mk : Addr → Obj) (there : Heap → Addr → List Value → Prop) : Prop where
  obj : ∀ h it a i, itr h it a i → ∃ o, h.get? it = some o ∧ ∀ v, o.data ≠ .cell v
  at_ : ∀ h h' it a i, itr h it a i → (∀ o, h.get? it = some o → h'.get? it = some o) → itr h' it a i
  made : ∀ h it a, h.get? it = some (mk a) → itr h it a 0
  get : ∀ (X : Cx) (pins : List (Addr × Obj)) (σ : L2.St) (H : Hp) (s : Shared) (a : Addr) (xs : List V), X.K = K → Inv X pins σ H s → sq H a xs → ∃ its, Vals xs its ∧ there s.heap a its
  inj : ∀ (X : Cx) (pins : List (Addr × Obj)) (σ : L2.St) (H : Hp) (s : Shared) (a : Addr) (xs ys : List V), X.K = K → Inv X pins σ H s → sq H a xs → sq H a ys → xs = ys
  lt : ∀ h a its, there h a its → a < h.objs.size
  begins : ∀ a its, Begins (.ref a) (mk a) fun h => there h a its
  draws : ∀ (prog : Program) (w : World) (A : Around) (it a : Addr) (its : List Value), A.handled = none → a ≠ it → Draws prog w A it [it, a] its.length (fun i v => its[i]? = some v) (fun i h => itr h it a i ∧ there h a its)
  ends : ∀ (prog : Program) (w : World) (A : Around) (it a : Addr) (its : List Value) (n : Nat), A.handled = none → a ≠ it → its.length ≤ n → Draws prog w A it [it, a] n (fun _ _ => False) (fun i h => i = n ∧ itr h it a n ∧ there h a its)
theorem srcT {K : PySem.W.Frag} : Src K (SqT K) (fun h it a i => h.IsTupleIter it a i) (fun a => { cls := .type "tuple_iterator", data := .fields #[.ref a, .int 0 0] }) (fun h a its => h.IsTuple a its.toArray) where
  obj := fun h it a i st => let ⟨o, e, _, d⟩ := st; ⟨o, e, fun v q => by rw [d] at q; cases q⟩
  at_ := fun h h' it a i st k => st.at fun o q => k o q
  made := fun h it a e => ⟨_, e, rfl, rfl⟩
  get := fun X pins σ H s a xs hK I hq => by
    subst hK
    obtain ⟨its, rv, p, _⟩ := I.tuple hq
    exact ⟨its, rv, p⟩
  inj := fun X pins σ H s a xs ys hK I h1 h2 => by subst hK; exact I.tuple_inj h1 h2
  lt := fun h a its p => by obtain ⟨o, q, _⟩ := id p; exact Heap.lt_size q
  begins := fun a its => begins_tuple a its.toArray
  draws := fun prog w A it a its hh hne => by
    have D := Draws.tuple (prog := prog) (w := w) (A := A) hh it a hne its.toArray
    rw [List.size_toArray] at D
    exact ⟨D.live, D.frame, fun i s Q E hi st hQ => D.item i s Q E hi st fun x h' tk hx => hQ x h' tk (by simpa using hx), D.done⟩
  ends := fun prog w A it a its n hh hne hl => by
    refine ⟨fun i h st => let ⟨o, e, _⟩ := st.2.1; ⟨o, e⟩, fun i h h' st hk => ⟨st.1, st.2.1.at fun o e => hk it (by simp) o e, st.2.2.at fun o e => hk a (by simp) o e⟩, fun i s Q E hi st => absurd st.1 (Nat.ne_of_lt hi), fun s Q E st hE => ?_⟩
    exact wpAny_nextOf_tuple_end hh st.2.1 st.2.2 (by simpa using hl) hE
theorem srcL {K : PySem.W.Frag} : Src K (SqL K) (fun h it a i => h.IsListIter it a i) (fun a => { cls := .type "list_iterator", data := .fields #[.ref a, .int 0 0] }) (fun h a its => h.IsList a its.toArray) where
  obj := fun h it a i st => let ⟨o, e, _, d⟩ := st; ⟨o, e, fun v q => by rw [d] at q; cases q⟩
  at_ := fun h h' it a i st k => st.at fun o q => k o q
  made := fun h it a e => ⟨_, e, rfl, rfl⟩
  get := fun X pins σ H s a xs hK I hq => by
    subst hK
    obtain ⟨its, rv, p, _⟩ := I.list hq
    exact ⟨its, rv, p.isList⟩
  inj := fun X pins σ H s a xs ys hK I h1 h2 => by subst hK; exact I.list_inj h1 h2
  lt := fun h a its p => by obtain ⟨o, q, _⟩ := id p; exact Heap.lt_size q
  begins := fun a its => begins_list a its.toArray
  draws := fun prog w A it a its hh hne => by
    have D := Draws.list (prog := prog) (w := w) (A := A) hh it a hne its.toArray
    rw [List.size_toArray] at D
    exact ⟨D.live, D.frame, fun i s Q E hi st hQ => D.item i s Q E hi st fun x h' tk hx => hQ x h' tk (by simpa using hx), D.done⟩
  ends := fun prog w A it a its n hh hne hl => by
    refine ⟨fun i h st => let ⟨o, e, _⟩ := st.2.1; ⟨o, e⟩, fun i h h' st hk => ⟨st.1, st.2.1.at fun o e => hk it (by simp) o e, st.2.2.at fun o e => hk a (by simp) o e⟩, fun i s Q E hi st => absurd st.1 (Nat.ne_of_lt hi), fun s Q E st hE => ?_⟩
    exact wpAny_nextOf_list_end hh st.2.1 st.2.2 (by simpa using hl) hE
/-- two sources side by side -/
def ItzG (s1 s2 : Hp → Addr → List V → Prop) (a b : Addr) : It :=
  ⟨fun i H => ∃ (xs ys : List V) (x y : V), s1 H a xs ∧ s2 H b ys ∧ xs[i]? = some x ∧ ys[i]? = some y,
    fun i H v H' => ∃ T x y, v = .ref T ∧ H T = none ∧ H' = upd H T (.tup [x, y]) ∧ (∀ xs, s1 H a xs → xs[i]? = some x) ∧ ∀ ys, s2 H b ys → ys[i]? = some y,
    fun i H => ∃ xs ys : List V, s1 H a xs ∧ s2 H b ys ∧ (xs.length ≤ i ∨ ys.length ≤ i)⟩
section
variable {K : PySem.W.Frag} {q1 q2 : Hp → Addr → List V → Prop} {r1 r2 : Heap → Addr → Addr → Nat → Prop} {m1 m2 : Addr → Obj} {e1 e2 : Heap → Addr → List Value → Prop}
theorem turn_zipG {P : Program} {w : World} {elts : List Expr} {kk : Nat} {tpos : Pos} {a b z TI TO i1 i2 : Addr} (s1 : Src K q1 r1 m1 e1) (s2 : Src K q2 r2 m2 e2) (D : ZipSep2 z TI TO i1 i2 [i1, a] [i2, b]) :
    Turn P w K (.Tuple elts kk tpos) (ItzG q1 q2 a b) [z, TI, TO, i1, i2] z (fun i h => IsZip h z TI TO .none ∧ IsTupOf2 h TI (.ref i1) (.ref i2) ∧ (∃ x y, IsTupOf2 h TO x y) ∧ r1 h i1 a i ∧ r2 h i2 b i ∧ a ≠ i1 ∧ b ≠ i2) where
  mem := by simp
  obj := fun i h st c hc => by
    obtain ⟨hz, hTI, ⟨x, y, hTO⟩, t1, t2, _⟩ := st
    have e' : c = z ∨ c = TI ∨ c = TO ∨ c = i1 ∨ c = i2 := by simpa using hc
    rcases e' with q | q | q | q | q
    · rw [q]; exact ⟨_, hz, fun v q => nomatch q⟩
    · rw [q]; exact ⟨_, hTI, fun v q => nomatch q⟩
    · rw [q]; exact ⟨_, hTO, fun v q => nomatch q⟩
    · rw [q]; exact s1.obj _ _ _ _ t1
    · rw [q]; exact s2.obj _ _ _ _ t2
  keep := fun i h h' st k => by
    obtain ⟨hz, hTI, ⟨x, y, hTO⟩, h1, h2, nn⟩ := st
    exact ⟨k z (by simp) _ hz, k TI (by simp) _ hTI, ⟨x, y, k TO (by simp) _ hTO⟩, s1.at_ _ _ _ _ _ h1 fun o q => k i1 (by simp) o q, s2.at_ _ _ _ _ _ h2 fun o q => k i2 (by simp) o q, nn⟩
  item := by
    intro X hP hw hK hc i pins s σ H E I hf st hg
    subst hP hw
    obtain ⟨hz, hTI, ⟨x0, y0, hTO⟩, t1, t2, n1, n2⟩ := st
    obtain ⟨xs, ys, x, y, hqx, hqy, hx, hy⟩ := hg
    obtain ⟨its, rv, p⟩ := s1.get X pins σ H s a xs hK I hqx
    obtain ⟨its2, rv2, p2⟩ := s2.get X pins σ H s b ys hK I hqy
    obtain ⟨u, hu, ru⟩ := rv.get hx
    obtain ⟨u2, hu2, ru2⟩ := rv2.get hy
    have hzl : z < s.heap.objs.size := Heap.lt_size hz
    have hh : X.A.in1.handled = none := I.ok.hd hc
    refine wpAny_pyNext_zipD2_item D (s1.draws X.prog X.w X.A.in1 i1 a its hh n1) (s2.draws X.prog X.w X.A.in1 i2 b its2 hh n2) hz hTI hTO ⟨t1, p⟩ ⟨t2, p2⟩ (List.getElem?_eq_some_iff.mp hu).1 (List.getElem?_eq_some_iff.mp hu2).1 fun x1 x2 h' tk hx1 hx2 z' TO' st1' st2' hT hsz hk => ?_
    rw [hu] at hx1
    rw [hu2] at hx2
    cases hx1
    cases hx2
    refine ⟨_, rfl, wpAny_letOwnedTupleGo_zip (s := { s with heap := h', toks := tk }) z' fun h'' z'' sb => ?_⟩
    have hT2 : h''.get? s.heap.objs.size = some { cls := .type "tuple", data := .seq #[u, u2] } := (sb.2 _ (Nat.ne_of_gt hzl)).trans hT
    have new : ObjOk X.prog X.w (upd H s.heap.objs.size (.tup [x, y])) h'' s.heap.objs.size (.tup [x, y]) :=
      ⟨by show 2 ≤ sizeLine; decide, [u, u2], .cons ru (.cons ru2 .nil), ⟨_, hT2, rfl, _, rfl⟩⟩
    have I1 : Inv X pins σ (upd H s.heap.objs.size (.tup [x, y])) { s with heap := h'', toks := tk } :=
      I.turnedNew (t' := tk) (ch := [z, TI, TO, i1, i2]) (fun c o hb q => (sb.2 c (fun q' => hb (by simp [q']))).trans (hk c o (fun q' => hb (by simp [q'])) (fun q' => hb (by simp [q'])) (fun q' => hb (by simp [q'])) (fun q' => hb (by simp [q'])) q)) hf (Nat.le_refl _) new
    refine ⟨.ref s.heap.objs.size, _, I1, rfl, ⟨_, x, y, rfl, I.hok.fresh (Nat.le_refl _), rfl, fun l hl => by rw [s1.inj X pins σ H s a l xs hK I hl hqx]; exact hx, fun l hl => by rw [s2.inj X pins σ H s b l ys hK I hl hqy]; exact hy⟩, ⟨z'', ?_, ⟨u, u2, ?_⟩, ?_, ?_, n1, n2⟩, fun c hcm => ?_⟩
    · exact (sb.2 _ D.TIz).trans (hk _ _ D.TIz D.TITO D.TIi1 D.TIi2 hTI)
    · exact (sb.2 _ D.TOz).trans TO'
    · exact s1.at_ _ _ _ _ _ st1'.1 fun o q => (sb.2 _ D.zi1.symm).trans q
    · exact s2.at_ _ _ _ _ _ st2'.1 fun o q => (sb.2 _ D.zi2.symm).trans q
    · have hlt : c < s.heap.objs.size := by
        have e' : c = z ∨ c = TI ∨ c = TO ∨ c = i1 ∨ c = i2 := by simpa using hcm
        rcases e' with q | q | q | q | q
        · rw [q]; exact hzl
        · rw [q]; exact Heap.lt_size hTI
        · rw [q]; exact Heap.lt_size hTO
        · rw [q]; obtain ⟨_, e1, _⟩ := s1.obj _ _ _ _ t1; exact Heap.lt_size e1
        · rw [q]; obtain ⟨_, e2, _⟩ := s2.obj _ _ _ _ t2; exact Heap.lt_size e2
      rw [upd_ne (Nat.ne_of_lt hlt)]
      exact (hf c hcm).1
  done := by
    intro X hP hw hK hc i pins s σ H E I hf st hg
    subst hP hw
    obtain ⟨hz, hTI, ⟨x0, y0, hTO⟩, t1, t2, n1, n2⟩ := st
    obtain ⟨xs, ys, hqx, hqy, hend⟩ := hg
    obtain ⟨its, rv, p⟩ := s1.get X pins σ H s a xs hK I hqx
    obtain ⟨its2, rv2, p2⟩ := s2.get X pins σ H s b ys hK I hqy
    have l1 := rv.length
    have l2 := rv2.length
    have hh : X.A.in1.handled = none := I.ok.hd hc
    have fin : ∀ (h' : Heap) (tk : Tok), (∀ c o, c ≠ z → c ≠ TO → c ≠ i1 → c ≠ i2 → s.heap.get? c = some o → h'.get? c = some o) → Inv X pins σ H { s with heap := h', toks := tk } := fun h' tk hk =>
      I.turnedL (t' := tk) (ch := [z, TI, TO, i1, i2]) (fun c o hb q => hk c o (fun q' => hb (by simp [q'])) (fun q' => hb (by simp [q'])) (fun q' => hb (by simp [q'])) (fun q' => hb (by simp [q'])) q) hf
    by_cases g1 : its.length ≤ i
    · have D1 := s1.ends X.prog X.w X.A.in1 i1 a its i hh n1 g1
      by_cases g2 : its2.length ≤ i
      · exact wpAny_pyNext_zipD2_end D D1 (s2.ends X.prog X.w X.A.in1 i2 b its2 i hh n2 g2) hz hTI hTO ⟨rfl, t1, p⟩ ⟨rfl, t2, p2⟩ (Nat.le_refl _) (Nat.le_refl _) (.inl rfl) fun h' tk hk => ⟨rfl, fin h' tk hk⟩
      · exact wpAny_pyNext_zipD2_end D D1 (s2.draws X.prog X.w X.A.in1 i2 b its2 hh n2) hz hTI hTO ⟨rfl, t1, p⟩ ⟨t2, p2⟩ (Nat.le_refl _) (by omega) (.inl rfl) fun h' tk hk => ⟨rfl, fin h' tk hk⟩
    · have g2 : its2.length ≤ i := by rcases hend with q | q <;> omega
      exact wpAny_pyNext_zipD2_end D (s1.draws X.prog X.w X.A.in1 i1 a its hh n1) (s2.ends X.prog X.w X.A.in1 i2 b its2 i hh n2 g2) hz hTI hTO ⟨t1, p⟩ ⟨rfl, t2, p2⟩ (by omega) (Nat.le_refl _) (.inr rfl) fun h' tk hk => ⟨rfl, fin h' tk hk⟩
  self := fun A i s Q E st h => wpAny_pyIter_zip st.1 h
theorem zip_call {X : Cx} {pins : List (Addr × Obj)} {σ : L2.St} {H : Hp} {s : Shared} {elts : List Expr} {kk : Nat} {tpos : Pos} {a b : Addr} {xs ys : List V} {R : It → Hp → Prop} {E : Value → Shared → Prop} (s1 : Src X.K q1 r1 m1 e1) (s2 : Src X.K q2 r2 m2 e2) (I : Inv X pins σ H s) (hqx : q1 H a xs) (hqy : q2 H b ys)
    (q : R (ItzG q1 q2 a b) H) : wpAny (model X.prog X.w) X.A (call (.type "zip") [.ref a, .ref b]) (fun v s' => wpAny (model X.prog X.w) X.A (pyIter v) (fun u s2 => ∃ it fp tn J H1, u = .ref it ∧ Inv X pins σ H1 s2 ∧ Turn X.prog X.w X.K (.Tuple elts kk tpos) J fp it tn ∧ tn 0 s2.heap ∧ (∀ c ∈ fp, FpOk X pins H1 c) ∧ R J H1) E s') E s := by
  obtain ⟨its, rv, p1⟩ := s1.get X pins σ H s a xs rfl I hqx
  obtain ⟨its2, rv2, p2⟩ := s2.get X pins σ H s b ys rfl I hqy
  have la := s1.lt _ _ _ p1
  have lb := s2.lt _ _ _ p2
  refine zip_begins2 (s1.begins a its) (s2.begins b its2) p1 p2 fun h' hz hTI hTO h1 h2 hsz hk => wpAny_pyIter_zip hz ?_
  have I2 : Inv X pins σ H { s with heap := h' } := I.kept (t' := s.toks) hk
  refine ⟨s.heap.objs.size + 4, [s.heap.objs.size + 4, s.heap.objs.size + 2, s.heap.objs.size + 3, s.heap.objs.size, s.heap.objs.size + 1], _, _, H, rfl, I2,
    turn_zipG s1 s2 (zip_sep2 (N := s.heap.objs.size) (fp1 := [a]) (fp2 := [b]) (fun c hc => by rw [List.mem_singleton.mp hc]; exact la) (fun c hc => by rw [List.mem_singleton.mp hc]; exact lb)),
    ⟨hz, hTI, ⟨_, _, hTO⟩, s1.made _ _ _ h1, s2.made _ _ _ h2, Nat.ne_of_lt la, Nat.ne_of_lt (Nat.lt_trans lb (Nat.lt_succ_self _))⟩, fun c hcm => ?_, q⟩
  have e' : c = s.heap.objs.size + 4 ∨ c = s.heap.objs.size + 2 ∨ c = s.heap.objs.size + 3 ∨ c = s.heap.objs.size ∨ c = s.heap.objs.size + 1 := by simpa using hcm
  have hle : s.heap.objs.size ≤ c := by
    rcases e' with z | z | z | z | z
    · rw [z]; exact Nat.le_add_right _ _
    · rw [z]; exact Nat.le_add_right _ _
    · rw [z]; exact Nat.le_add_right _ _
    · rw [z]; exact Nat.le_refl _
    · rw [z]; exact Nat.le_add_right _ _
  exact I.fpOk hle (I.hok.fresh hle)
end
/-- any of the four -/
def iZipG (K : PySem.W.Frag) (ta : TA) : TI := fun σ H R => ta σ H fun vs H1 => ∃ a b xs ys, vs = [.ref a, .ref b] ∧
  ((SqL K H1 a xs ∧ SqL K H1 b ys ∧ R (ItzG (SqL K) (SqL K) a b) H1) ∨ (SqT K H1 a xs ∧ SqT K H1 b ys ∧ R (ItzG (SqT K) (SqT K) a b) H1) ∨ (SqT K H1 a xs ∧ SqL K H1 b ys ∧ R (ItzG (SqT K) (SqL K) a b) H1) ∨ (SqL K H1 a xs ∧ SqT K H1 b ys ∧ R (ItzG (SqL K) (SqT K) a b) H1))
theorem pi_zipG {X : Cx} {e e2 : Expr} {ta : TA} {p pos tpos : Pos} {elts : List Expr} {kk : Nat} (hg : Gl X "zip") (hm : X.mg "zip" = none) (ha : PA X [e, e2] ta)
    (hs : starEach [e, e2] X.env = (false, eval e X.env) :: starEach [e2] X.env) (hpl : (backTo pos (starEach [e2] X.env)).any (·.1) = false) :
    PI X (.Tuple elts kk tpos) (.Call (.Name "zip" p) [e, e2] [] pos) (iZipG X.K ta) := by
  refine ⟨fun pins s σ H R I h => ?_⟩
  refine Call_ (ld_blt I hg hm PyProof.Rows.boot_zip (PyProof.Rows.callWith_type1 (thn (ha.run pos pins s σ H _ I h) fun us s1 ⟨vs, H1, I1, r1, q1⟩ => ?_) hs hpl))
  obtain ⟨a, b, xs, ys, ex, q1⟩ := q1
  subst ex
  cases r1 with
  | cons r rr =>
    cases rr with
    | cons r' rr =>
      cases rr
      cases r
      cases r'
      rcases q1 with ⟨h1, h2, q⟩ | ⟨h1, h2, q⟩ | ⟨h1, h2, q⟩ | ⟨h1, h2, q⟩
      · exact zip_call srcL srcL I1 h1 h2 q
      · exact zip_call srcT srcT I1 h1 h2 q
      · exact zip_call srcT srcL I1 h1 h2 q
      · exact zip_call srcL srcT I1 h1 h2 q
section
variable {X : Cx} {tb : List Addr} {X' : Mod'} {G : Fns} {a b : Expr} {ma mb : M} {pos : Pos}
/-- a source whose data stay -/
def Stays (K : PySem.W.Frag) (sq : Hp → Addr → List V → Prop) (Z : Addr → Prop) (S₀ : Sto) (H₀ : Hp) (a : Addr) (xs : List D) : Prop := ∀ (Z' : Addr → Prop), (∀ a, Z' a → Z a ∨ H₀ a = none) → ∀ S H, Ext S₀ H₀ S H → SRep K Z' S H → ∃ vs, sq H a vs ∧ RepL K Z' S H xs vs
theorem stays_tup {K : PySem.W.Frag} {Z : Addr → Prop} {S₀ : Sto} {H₀ : Hp} {a : Addr} {vs : List V} {xs : List D} (h : SqT K H₀ a vs) (s0 : SRep K Z S₀ H₀) (r : RepL K Z S₀ H₀ xs vs) : Stays K (SqT K) Z S₀ H₀ a xs := fun Z' hz S H x s => ⟨vs, sqT_ext s0 x h, (r.zz hz).extN s0.sno x⟩
theorem stays_lst {K : PySem.W.Frag} {Z : Addr → Prop} {S₀ : Sto} {H₀ : Hp} {a : Addr} {vs : List V} {xs : List D} (h : H₀ a = some (.lst vs)) (n : S₀ a = none) (s0 : SRep K Z S₀ H₀) (r : RepL K Z S₀ H₀ xs vs) : Stays K (SqL K) Z S₀ H₀ a xs := fun Z' hz S H x s => ⟨vs, SqL.of (x.keep _ _ h n fun ps e => by cases e).1, (r.zz hz).extN s0.sno x⟩
theorem itOk_zipG {K : PySem.W.Frag} {q1 q2 : Hp → Addr → List V → Prop} {Z : Addr → Prop} {S₀ : Sto} {H₀ : Hp} {a b : Addr} {xs ys : List D} (h1 : Stays K q1 Z S₀ H₀ a xs) (h2 : Stays K q2 Z S₀ H₀ b ys) : ItOk K tb Z S₀ H₀ (ItzG q1 q2 a b) (List.zipWith (fun x y => .tup [x, y]) xs ys) (fun _ => True) := by
  intro Z' hz i S H x s t _
  obtain ⟨vs, g1, r1⟩ := h1 Z' hz S H x s
  obtain ⟨us, g2, r2⟩ := h2 Z' hz S H x s
  refine ⟨fun d e => ?_, fun e => ⟨vs, us, g1, g2, by rw [← r1.length, ← r2.length]; exact zip_end e⟩⟩
  obtain ⟨dx, dy, ex, ey, rfl⟩ := zip_get e
  obtain ⟨v, hv, rv⟩ := r1.get ex
  obtain ⟨u, hu, ru⟩ := r2.get ey
  refine ⟨⟨vs, us, v, u, g1, g2, hv, hu⟩, fun y H2 hy => ?_⟩
  obtain ⟨T, x', y', rfl, hT, rfl, hx', hy'⟩ := hy
  have e1 := hx' vs g1
  have e2 := hy' us g2
  rw [hv] at e1; cases e1
  rw [hu] at e2; cases e2
  exact pair_new s t hT rv ru
theorem di_zipG {elts : List Expr} {kk : Nat} {tpos p : Pos} (hg : Gl X "zip") (hm : X.mg "zip" = none) (ha : DE X tb X' G a ma) (hb : DE X tb X' G b mb)
    (h1 : starEach [a, b] X.env = (false, eval a X.env) :: starEach [b] X.env) (h2 : starEach [b] X.env = (false, eval b X.env) :: starEach [] X.env) :
    DI X tb X' G (.Tuple elts kk tpos) (.Call (.Name "zip" p) [a, b] [] pos) (.zip ma mb) :=
  PI.weak (pi_zipG hg hm (pa_cons ha (pa_cons hb pa_nil h2) h1) h1 (by rw [h2]; rfl)) fun σ H R ⟨Z, ρ, S, Q, m, w, k⟩ =>
    ⟨Z, ρ, S, _, m, w, fun d S1 v H1 x1 s1 t1 r1 w1 => ⟨Z, ρ, S1, _, m.go x1 s1 t1, w1, fun d2 S2 v2 H2 x2 s2 t2 r2 w2 => by
      have r1' := r1.ext s1 x2
      cases r1' with
      | @tup p vs ds h r =>
        cases r2 with
        | @tup p2 vs2 ds2 h2 r2 =>
          have w2 : Q (List.zipWith (fun x y => .tup [x, y]) ds ds2) (fun _ => True) S2 := w2
          exact ⟨p, p2, vs, vs2, rfl, .inr (.inl ⟨h, h2, k _ _ S2 _ H2 (x1.trans x2) s2 t2 (itOk_zipG (stays_tup h s2 r) (stays_tup h2 s2 r2)) w2⟩)⟩
        | @lst p2 vs2 ds2 h2 n2 nz2 r2 =>
          have w2 : Q (List.zipWith (fun x y => .tup [x, y]) ds ds2) (fun _ => True) S2 := w2
          exact ⟨p, p2, vs, vs2, rfl, .inr (.inr (.inl ⟨h, SqL.of h2, k _ _ S2 _ H2 (x1.trans x2) s2 t2 (itOk_zipG (stays_tup h s2 r) (stays_lst h2 n2 s2 r2)) w2⟩))⟩
        | _ => exact w2.elim
      | @lst p vs ds h n nz r =>
        cases r2 with
        | @tup p2 vs2 ds2 h2 r2 =>
          have w2 : Q (List.zipWith (fun x y => .tup [x, y]) ds ds2) (fun _ => True) S2 := w2
          exact ⟨p, p2, vs, vs2, rfl, .inr (.inr (.inr ⟨SqL.of h, h2, k _ _ S2 _ H2 (x1.trans x2) s2 t2 (itOk_zipG (stays_lst h n s2 r) (stays_tup h2 s2 r2)) w2⟩))⟩
        | @lst p2 vs2 ds2 h2 n2 nz2 r2 =>
          have w2 : Q (List.zipWith (fun x y => .tup [x, y]) ds ds2) (fun _ => True) S2 := w2
          exact ⟨p, p2, vs, vs2, rfl, .inl ⟨SqL.of h, SqL.of h2, k _ _ S2 _ H2 (x1.trans x2) s2 t2 (itOk_zipG (stays_lst h n s2 r) (stays_lst h2 n2 s2 r2)) w2⟩⟩
        | _ => exact w2.elim
      | _ => cases r2 <;> exact w2.elim⟩⟩
end
end DL

set_option Elab.async false
set_option linter.all false
set_option maxRecDepth 100000
set_option maxHeartbeats 4000000
/-! DL7: from the text to the small language. -/
namespace DL
open PySem PySem.Spec PyProof.Rows L2 RZ

structure Tab where
  fns : List (Str × Nat)
  consts : List (Str × Nat)
  kws : List (Nat × Nat × List Str × List Nat)
  mus : List (Nat × Nat)
  fzs : List (Nat × Nat)
def lkS {α : Type} (x : Str) : List (Str × α) → Option α
  | [] => none
  | (y, a) :: r => if x = y then some a else lkS x r
def ixS (x : Str) : List Str → Option Nat
  | [] => none
  | y :: r => if x = y then some 0 else (ixS x r).map (· + 1)
def visB (sc : Scope) (x : Str) : Bool := match sc.names.lookup x with
  | some .local => true | some .cell => true | some .free => true | _ => false
def locB (sc : Scope) (x : Str) : Bool := match sc.names.lookup x with
  | some .local => true | some .cell => true | _ => false
def lclB (sc : Scope) (x : Str) : Bool := match sc.names.lookup x with
  | some .local => true | _ => false
def glB (sc : Scope) (x : Str) : Bool := match sc.names.lookup x with
  | some .globalImplicit => true | _ => false
def okN (x : Str) : Bool := !(x == ("__debug__" : Str)) && !(x == ("__classdict__" : Str))
def boOf (big : Bool) : Operator → Option BO
  | .Add => some .add | .Sub => some .sub | .Mult => some .mul | .FloorDiv => some (if big then .fdiv else .fdivS) | .Mod => some .mod | .Pow => some .pow | _ => none
def coOf : CmpOp → Option CO
  | .Eq => some .eq | .NotEq => some .ne | .Lt => some .lt | .LtE => some .le | .Gt => some .gt | .GtE => some .ge | .Is => some .isN | .IsNot => some .notN | .In => some .inn | .NotIn => some .nin
def bis : List (Str × BI) := [("len", .len), ("tuple", .tuple), ("abs", .abs), ("int", .int), ("list", .list false), ("sum", .sum), ("max", .max), ("min", .min)]
def bis2 : List (Str × BI) := [("max", .max), ("min", .min)]
def tns : List (Str × TN) := [("int", .int), ("bool", .bool), ("str", .str), ("tuple", .tuple)]
def lms : List (Str × LM) := [("append", .append), ("pop", .pop), ("reverse", .reverse)]
/-- the built-in names that must not be the module's -/
def bnames : List Str := ["len", "tuple", "abs", "int", "list", "bool", "str", "isinstance", "zip", "range", "all", "any", "enumerate", "sorted", "min", "max", "sum"]
def trL (f : Expr → Option M) : List Expr → Option M
  | [] => some .nil
  | e :: es => (f e).bind fun m => (trL f es).bind fun r => some (.cons m r)
def trK (f : Expr → Option M) : List Keyword → Option M
  | [] => some .nil
  | ⟨some _, e, _⟩ :: es => (f e).bind fun m => (trK f es).bind fun r => some (.cons m r)
  | ⟨none, _, _⟩ :: _ => none
def kwNames (ks : List Keyword) : List Str := ks.filterMap (·.arg)
def fold2 (g : M → M → M) (f : Expr → Option M) : List Expr → Option M
  | [] => none
  | [e] => f e
  | e :: es => (f e).bind fun m => (fold2 g f es).bind fun r => some (g m r)
/-- a target; sc: the scope as it is written -/
def trG (N : List Str) (sc : Scope) : Nat → Expr → Option TT'
  | 0, _ => none
  | n + 1, .Name x _ => if locB sc x then (ixS x N).map .n else none
  | n + 1, .Tuple es _ _ => (go (trG N sc n) es).map .t
  | _, _ => none
where go (f : Expr → Option TT') : List Expr → Option TT'
  | [] => some .nil
  | e :: es => (f e).bind fun m => (go f es).bind fun r => some (.cons m r)
def ownOf (N : List Str) (scope : Scope) : List (Str × Nat) := scope.names.filterMap fun y => match y.2 with
  | .local => (ixS y.1 N).map fun i => (y.1, i)
  | .cell => (ixS y.1 N).map fun i => (y.1, i)
  | _ => none
def kwIx (f n : Nat) (ks : List Str) : List (Nat × Nat × List Str × List Nat) → Nat → Option Nat
  | [], _ => none
  | (f', n', ks', _) :: r, i => if f' = f ∧ n' = n ∧ ks' = ks then some i else kwIx f n ks r (i + 1)
/-- the def's table of code objects is known -/
def gxB (N : List Str) : Bool := N.any fun x => decide (x = ("<gx>" : Str))
/-- the names of a generator expression's frame -/
def genC (N : List Str) (sc scope : Scope) (own : List (Str × Nat)) : Bool := blkC N sc scope own && (!scope.isCoroutine && ((scope.names.all fun y => match y.2 with | .cell => false | _ => true) && decide (scope.names.lookup (".0" : Str) = some NameKind.local)))
/-- range(b) -/
def rngArg : Expr → Option (Expr × Pos)
  | .Call (.Name f p2) [b] [] _ => if f = "range" then some (b, p2) else none
  | _ => none
def isLst : Expr → Bool
  | .List .. => true
  | _ => false
/-- what a method may stand at -/
def isBase : Expr → Bool
  | .Name .. => true
  | .Subscript .. => true
  | _ => false
/-- a test of its own kind -/
def testy : Expr → Bool
  | .UnaryOp .Not _ _ => true
  | .BoolOp .. => true
  | .Compare .. => true
  | .IfExp .. => true
  | _ => false
theorem isTrue_of {e : Expr} (h : testy e = false) : ∀ env whole, isTrue e env whole = (do let v ← whole; standAt e.pos; holding [v] (truthy v)) := by
  intro env whole
  cases e <;> first
    | rfl
    | (cases h; done)
    | (rename_i op b pos; cases op <;> first | rfl | (cases h; done))
section
variable (T : Tab) (N : List Str)
def muAt (p : Pos) : Bool := T.mus.any fun q => q.1 == p.line && q.2 == p.col
mutual
def trE : Nat → Bool → Scope → Expr → Option M
  | 0, _, _, _ => none
  | n + 1, big, sc, e => match e with
    | .Name x _ => if okN x then (if visB sc x then (ixS x N).map .v else if glB sc x then (lkS x T.consts).map .g else none) else none
    | .Constant (.int i) _ _ => some (.c (.int i))
    | .Constant (.bool b) _ _ => some (.c (.bl b))
    | .Constant .none _ _ => some (.c .non)
    | .Constant (.str x) _ _ => some (.c (.str x))
    | .Tuple es _ _ => (trL (trE n big sc) es).map .tup
    | .Dict [] [] _ => some .dnew
    | .List es pos => (trL (trE n big sc) es).map (.lst (muAt T pos))
    | .BinOp a o b pos => if o = .Add ∧ muAt T pos = true then (trE n big sc a).bind fun x => (trE n big sc b).bind fun y => some (.cat x y)
        else if o = .Mult ∧ muAt T pos = true then (match a with | .List es _ => (trL (trE n big sc) es).bind fun x => (trE n big sc b).bind fun y => some (.rep (.lst false x) y) | _ => none)
        else (boOf big o).bind fun o' => (trE n big sc a).bind fun x => (trE n big sc b).bind fun y => some (.bin o' x y)
    | .UnaryOp .USub a _ => (trE n big sc a).map .neg
    | .UnaryOp .Not a _ => (trE n big sc a).map .not
    | .Compare a [o] [b] _ => (coOf o).bind fun o' => (trE n big sc a).bind fun x => (trE n big sc b).bind fun y => some (.cmp o' x y)
    | .Compare a [o, o2] [b, c] _ => (coOf o).bind fun o' => (coOf o2).bind fun o2' => (trE n big sc a).bind fun x => (trE n big sc b).bind fun y => (trE n big sc c).bind fun z => some (.chain o' o2' x y z)
    | .BoolOp .And es _ => fold2 .and (trE n big sc) es
    | .BoolOp .Or es _ => fold2 .or (trE n big sc) es
    | .IfExp c a b _ => (trT n big sc c).bind fun x => (trE n big sc a).bind fun y => (trE n big sc b).bind fun z => some (.ite x y z)
    | .Subscript a (.Slice lo hi none _) _ => (trE n big sc a).bind fun x => (trO n big sc lo).bind fun l => (trO n big sc hi).bind fun h => some (.sl x l h)
    | .Subscript a i _ => (trE n big sc a).bind fun x => (trE n big sc i).bind fun y => some (if muAt T i.pos then .dget x y else .ix x y)
    | .ListComp elt [⟨tg, it, ifs, 0⟩] scope pos =>
      if blkC N sc scope (ownOf N scope) then
        (trI n big sc tg it).bind fun mi => (trG N scope 8 tg).bind fun t => if (slots t).all (fun i => (ownOf N scope).any fun p => p.2 == i) then
          (trIf n big (relS scope sc) ifs).bind fun mc => (trE n big (relS scope sc) elt).bind fun me => some (.lc (muAt T pos) ((ownOf N scope).map (·.2)) t me mi mc)
        else none
      else none
    | .Call (.Name f _) [.GeneratorExp elt [⟨tg, it, ifs, 0⟩] scope _] [] _ =>
      if f = "tuple" ∧ (big = true ∧ gxB N = true) ∧ (glB sc f = true ∧ genC N sc scope (ownOf N scope) = true) ∧ isLst it = false then
        (trI n big sc tg it).bind fun mi => (trG N scope 8 tg).bind fun t => if (slots t).all (fun i => (ownOf N scope).any fun p => p.2 == i) then
          (trIf n false scope ifs).bind fun mc => (trE n false scope elt).bind fun me => some (.bi .tuple (.cons (.lc false ((ownOf N scope).map (·.2)) t me mi mc) .nil))
        else none
      else if (f = "all" ∨ f = "any") ∧ (big = true ∧ gxB N = true) ∧ (glB sc f = true ∧ genC N sc scope (ownOf N scope) = true) ∧ isLst it = false then
        (trI n big sc tg it).bind fun mi => (trG N scope 8 tg).bind fun t => if (slots t).all (fun i => (ownOf N scope).any fun p => p.2 == i) then
          (trIf n false scope ifs).bind fun mc => (trE n false scope elt).bind fun me => some (.gall (f == ("any" : Str)) ((ownOf N scope).map (·.2)) t me mi mc)
        else none
      else if f = "sum" ∧ (big = true ∧ gxB N = true) ∧ (glB sc f = true ∧ genC N sc scope (ownOf N scope) = true) ∧ isLst it = false then
        (trI n big sc tg it).bind fun mi => (trG N scope 8 tg).bind fun t => if (slots t).all (fun i => (ownOf N scope).any fun p => p.2 == i) then
          (trIf n false scope ifs).bind fun mc => (trE n false scope elt).bind fun me => some (.gsum ((ownOf N scope).map (·.2)) t me mi mc)
        else none
      else none
    | .Call (.Name f _) args kws pos => if okN f && glB sc f then
        match lkS f T.fns with
        | some i => (match kws with
          | [] => (trL (trE n big sc) args).map (.call i)
          | kws => (kwIx i args.length (kwNames kws) T.kws 0).bind fun kp => (trL (trE n big sc) args).bind fun a => (trK (trE n big sc) kws).bind fun k => some (.callK i a k kp))
        | none => (match kws, args with
          | [], [a, b] => if f = "isinstance" then (match b with | .Name t _ => (if glB sc t then (lkS t tns).bind fun t' => (trE n big sc a).map fun x => .isi x t' else none) | _ => none)
              else (lkS f bis2).bind fun bi => (trE n big sc a).bind fun x => (trE n big sc b).bind fun y => some (.bi bi (.cons x (.cons y .nil)))
          | [], [a] => if f = "sorted" then (trE n big sc a).map .dsort
              else if f = "list" ∧ muAt T a.pos = true then (trE n big sc a).map .dlist
              else if f = "tuple" ∧ (rngArg a).isSome = true then (rngArg a).bind fun y => if glB sc "range" then (trE n big sc y.1).map .trng else none
              else (lkS f bis).bind fun b => (trE n big sc a).map fun x => .bi (match b with | .list _ => .list (muAt T pos) | b => b) (.cons x .nil)
          | _, _ => none)
      else none
    | .Call (.Attribute o m apos) args [] pos => if isBase o && (apos.endLine == pos.line && decide (args.length < 28)) then
        if m = "get" then (match args with | [b, c] => (trE n big sc o).bind fun x => (trE n big sc b).bind fun y => (trE n big sc c).bind fun z => some (.dgeto x y z) | _ => none)
        else (lkS m lms).bind fun m' => (trE n big sc o).bind fun x => (trL (trE n big sc) args).map fun a => .meth m' x a
      else none
    | _ => none
def trT : Nat → Bool → Scope → Expr → Option M
  | 0, _, _, _ => none
  | n + 1, big, sc, e => match e with
    | .UnaryOp .Not a _ => (trT n big sc a).map .not
    | .BoolOp .And es _ => fold2 .and (trT n big sc) es
    | .BoolOp .Or es _ => fold2 .or (trT n big sc) es
    | .Compare a [o] [b] _ => (coOf o).bind fun o' => (trE n big sc a).bind fun x => (trE n big sc b).bind fun y => some (.cmp o' x y)
    | .Compare a [o, o2] [b, c] _ => (coOf o).bind fun o' => (coOf o2).bind fun o2' => (trE n big sc a).bind fun x => (trE n big sc b).bind fun y => (trE n big sc c).bind fun z => some (.chain o' o2' x y z)
    | e => if testy e then none else (trE n big sc e).map .tv
def trO : Nat → Bool → Scope → Option Expr → Option M
  | 0, _, _, _ => none
  | _ + 1, _, _, none => some .nil
  | n + 1, big, sc, some e => (trE n big sc e).map .so
def trIf : Nat → Bool → Scope → List Expr → Option M
  | 0, _, _, _ => none
  | _ + 1, _, _, [] => some .nil
  | n + 1, big, sc, [c] => trT n big sc c
  | _ + 1, _, _, _ => none
def trI : Nat → Bool → Scope → Expr → Expr → Option M
  | 0, _, _, _, _ => none
  | n + 1, big, sc, tg, e => match e with
    | .Call (.Name f _) [a] [] _ => if f = "range" then (if glB sc f then (trE n big sc a).map fun x => .rng (.c (.int 0)) x else none)
        else if f = "enumerate" then (match tg with | .Tuple .. => (if glB sc f then (trE n big sc a).map .enum else none) | _ => none)
        else (trE n big sc e).map .it
    | .Call (.Name f _) [a, b] [] _ => if f = "range" then (if glB sc f then (trE n big sc a).bind fun x => (trE n big sc b).bind fun y => some (.rng x y) else none)
        else if f = "zip" then (match tg with | .Tuple .. => (if glB sc f then (trE n big sc a).bind fun x => (trE n big sc b).bind fun y => some (.zip x y) else none) | _ => none)
        else (trE n big sc e).map .it
    | e => (trE n big sc e).map .it
end
end
end DL

set_option Elab.async false
set_option linter.all false
set_option maxRecDepth 100000
set_option maxHeartbeats 4000000
/-! DL14: generator expressions: the frame of one. -/
namespace DL
open PySem PySem.Spec PyProof.Rows L2 RZ

/-- the names of a generator expression's frame: its own (with their places in N), or captured -/
structure GenOk (N : List Str) (sc scope : Scope) (own : List (Str × Nat)) : Prop where
  kind : scope.kind = .function
  co : scope.isCoroutine = false
  cell : ∀ y ∈ scope.names, y.2 ≠ .cell
  dot : scope.names.lookup (".0" : Str) = some NameKind.local
  uniq : ∀ y ∈ scope.names, scope.names.lookup y.1 = some y.2
  ix : ∀ p ∈ own, N[p.2]? = some p.1
  own : ∀ y ∈ scope.names, y.2 = .local → y.1 ∈ own.map (·.1) ∨ y.1 ∉ N
  free : ∀ y ∈ scope.names, y.2 = .free → sc.names.lookup y.1 = some .cell ∨ sc.names.lookup y.1 = some .free
/-- the context of a generator expression's frame; s: the state ahead of it -/
abbrev gblk (X : Cx) (A : Around) (s : Shared) (H : Hp) (genv : Env) (fp : List Addr) (pn : List (Addr × Obj)) : Cx :=
  { X with A := A, s_0 := s, H_0 := H, env := genv, outer := X.stack, stack := genv :: X.stack, ex := fp, fn := fun _ => false, pn := pn, xe := fun _ _ => False }
section
variable {X : Cx} {pins : List (Addr × Obj)} {σ : L2.St} {H : Hp} {s s5 : Shared} {A : Around} {scope : Scope} {own : List (Str × Nat)} {fp : List Addr} {m0 : Str → Option Value} {code : Value}
theorem gen_clo (I : Inv X pins σ H s) (ok : GenOk X.N X.env.scope scope own) : ∀ y ∈ scope.names, y.2 = .free → ∃ c, X.env.cells.lookup y.1 = some c := fun y hy e =>
  (ok.free y hy e).elim (fun k => I.ok.has _ (.inl k)) (fun k => I.ok.has _ (.inr k))
theorem gen_cells (I : Inv X pins σ H s) (ok : GenOk X.N X.env.scope scope own) {y : Str} {c : Addr} (e : (cloFrom X.env.cells scope.names []).lookup y = some c) : X.env.cells.lookup y = some c ∧ scope.names.lookup y = some .free := by
  rcases cloFrom_mem (PySem.mem_of_lookup e) with z | ⟨z1, z2⟩
  · cases z
  · obtain ⟨d, hd⟩ := gen_clo I ok _ z1 rfl
    have hd : X.env.cells.lookup y = some d := hd
    rw [hd] at z2
    have : c = d := by simpa using z2
    subst this
    exact ⟨hd, ok.uniq _ z1⟩
theorem gen_has (I : Inv X pins σ H s) (ok : GenOk X.N X.env.scope scope own) {y : Str} (e : scope.names.lookup y = some .free) : ∃ c, (cloFrom X.env.cells scope.names []).lookup y = some c ∧ X.env.cells.lookup y = some c := by
  obtain ⟨c, q⟩ := mem_lookup (cloFrom_has (cells := X.env.cells) (acc := []) (PySem.mem_of_lookup e))
  exact ⟨c, q, (gen_cells I ok q).1⟩
/-- the frame as it begins -/
theorem gen_start (I : Inv X pins σ H s) (ok : GenOk X.N X.env.scope scope own) (hN : X.N.Nodup) (hfp : ∀ b ∈ fp, FpOk X pins H b ∧ b < s.heap.objs.size) (hA : A.handled = none)
    (hF : A.frames = some (genEnv scope (cloFrom X.env.cells scope.names []) s.heap.objs.size code builtinsNs X.env :: X.stack)) (ns : s5.heap.Ns s.heap.objs.size m0) (kp : ∀ b o, s.heap.get? b = some o → s5.heap.get? b = some o) (os : s5.os = s.os) (bare : AllBare s5.gens) {pn cp : List (Addr × Obj)} (hp : ∀ p ∈ pn ++ cp, s5.heap.get? p.1 = some p.2 ∧ s.heap.objs.size < p.1 ∧ ∀ v, p.2.data ≠ .cell v) :
    Inv (gblk X A s H (genEnv scope (cloFrom X.env.cells scope.names []) s.heap.objs.size code builtinsNs X.env) fp pn) cp (wipe σ (own.map (·.2))) H s5 := by
  have notC : ∀ y, scope.names.lookup y ≠ some .cell := fun y z => ok.cell _ (PySem.mem_of_lookup z) rfl
  have fpOut : ∀ b ∈ fp, ∀ y c, (cloFrom X.env.cells scope.names []).lookup y = some c → c ≠ b := fun b hb y c e => (hfp b hb).1.2.2.2.2.1 y c (gen_cells I ok e).1
  have okG : (gblk X A s H (genEnv scope (cloFrom X.env.cells scope.names []) s.heap.objs.size code builtinsNs X.env) fp pn).Ok := by
    refine ⟨I.ok.mod, ok.kind, I.ok.glob, rfl, Nat.le_refl _, fun y z c e1 e2 => ?_, fun y hy => ?_, fun y c z _ => absurd z Bool.false_ne_true, fun _ => hA, hF, .inr ⟨rfl, rfl⟩, fun b hb => ⟨Nat.ne_of_lt (hfp b hb).2, fun y c e => fpOut b hb y c e⟩, I.bs, Nat.le_trans I.ok.bsz I.sz, fun b o e hb => ?_, fun b hb z => ?_, I.stack, I.stkFree⟩
    · exact I.ok.inj y z c (gen_cells I ok e1).1 (gen_cells I ok e2).1
    · rcases hy with hy | hy
      · exact absurd hy (notC y)
      · obtain ⟨c, e, _⟩ := gen_has I ok hy
        exact ⟨c, e⟩
    · rcases (hfp b hb).1.2.2.2.1 with z | z
      · exact I.ok.noex b o e z
      · exact absurd (Nat.lt_of_lt_of_le (Heap.lt_size e) (Nat.le_trans I.ok.bsz z)) (Nat.lt_irrefl _)
    · rcases List.mem_cons.mp (I.stkSub b z) with z | z
      · exact (hfp b hb).1.2.1 z
      · exact (hfp b hb).1.2.2.1 z
  refine ⟨okG, os, bare, Un.kept kp, ⟨m0, ns, fun i y v e1 e2 e3 => ?_⟩, fun y c e => ?_, I.hok.fresh (Nat.le_refl _), fun y c e => I.freeC y c (gen_cells I ok e).1, fun p hq => ?_, I.hok.kept kp, by rw [wipe_length]; exact I.len⟩
  · obtain ⟨e2, hne⟩ := wipe_some e2
    have e1 : X.N[i]? = some y := e1
    have fr : scope.names.lookup y = some .free := by
      rcases e3 with z | z | z
      · exfalso
        have z : scope.names.lookup y = some .local := z
        rcases ok.own _ (PySem.mem_of_lookup z) rfl with q | q
        · obtain ⟨p, hp, hpy⟩ := List.mem_map.mp q
          have e := ok.ix p hp
          rw [show p.1 = y from hpy] at e
          exact hne (List.mem_map.mpr ⟨p, hp, nodup_ix hN e e1⟩)
        · exact q (List.mem_of_getElem? e1)
      · exact absurd z (notC y)
      · exact z
    obtain ⟨m, hn, hl⟩ := I.loc
    have hcf := ok.free _ (PySem.mem_of_lookup fr) rfl
    obtain ⟨u, r, q⟩ := hl i y v e1 e2 (hcf.elim (fun k => .inr (.inl k)) (fun k => .inr (.inr k)))
    obtain ⟨c, h1, h2⟩ := gen_has I ok fr
    refine ⟨u, r, .inr ⟨.inr fr, c, h1, ?_⟩⟩
    rcases q with ⟨k, _⟩ | ⟨_, c', e', z⟩
    · have k : X.env.scope.names.lookup y = some .local := k
      rcases hcf with k' | k' <;> rw [show X.env.scope.names.lookup y = _ from k'] at k <;> cases k
    · rw [h2] at e'
      cases e'
      exact z.keeps kp
  · obtain ⟨v, z⟩ := I.cell y c (gen_cells I ok e).1
    exact ⟨v, z.keeps kp⟩
  · obtain ⟨h1, h2, h3⟩ := hp p hq
    refine ⟨h1, I.hok.fresh (Nat.le_of_lt h2), Nat.ne_of_gt h2, fun z => ?_, h3⟩
    rcases List.mem_cons.mp (I.stkSub p.1 z) with q | q
    · rw [q] at h2
      exact absurd (Nat.lt_trans h2 I.lt) (Nat.lt_irrefl _)
    · exact I.nofs (Nat.le_of_lt h2) q
end

/-! ### between two items -/
/-- the consumer's own objects go from cp to cp'; all else is kept -/
structure Sleep (cp cp' : List (Addr × Obj)) (s s' : Shared) : Prop where
  os : s'.os = s.os
  bare : AllBare s'.gens
  adr : cp'.map (·.1) = cp.map (·.1)
  keep : ∀ b o, b ∉ cp.map (·.1) → s.heap.get? b = some o → s'.heap.get? b = some o
  own : ∀ p ∈ cp', s'.heap.get? p.1 = some p.2 ∧ ∀ v, p.2.data ≠ .cell v
/-- the consumer's objects stand apart -/
def Apt (X : Cx) (fp : List Addr) (cp : List (Addr × Obj)) : Prop :=
  (∀ b ∈ cp.map (·.1), X.s_0.heap.objs.size ≤ b ∧ b ≠ X.env.locals ∧ (∀ x c, X.env.cells.lookup x = some c → c ≠ b) ∧ b ∉ fp ∧ ∀ p ∈ X.pn, p.1 ≠ b)
section
variable {X : Cx} {cp cp' : List (Addr × Obj)} {σ : L2.St} {H : Hp} {s s' : Shared} {fp : List Addr}
theorem wake (I : Inv X cp σ H s) (ap : Apt X fp cp) (z : Sleep cp cp' s s') : Inv X cp' σ H s' := by
  have I0 : Inv X [] σ H s := I.pins_of fun p hp => by simp at hp
  have inC : ∀ b ∈ cp.map (·.1), H b = none ∧ b ∉ X.fs := fun b hb => by
    obtain ⟨p, hp, rfl⟩ := List.mem_map.mp hb
    obtain ⟨_, h2, _, h4, _⟩ := I.pin p (List.mem_append_right _ hp)
    exact ⟨h2, h4⟩
  have nt : ∀ b u, H b = some u → b ∉ cp.map (·.1) := fun b u q hb => by rw [(inC b hb).1] at q; cases q
  have nL : X.env.locals ∉ cp.map (·.1) := fun hb => (ap _ hb).2.1 rfl
  obtain ⟨z1, z2, z3, z4, z5⟩ := z
  obtain ⟨hh, g, d, t, o⟩ := s'
  obtain rfl : o = s.os := z1
  have there : ∀ b ob, s.heap.get? b = some ob → ∃ o', hh.get? b = some o' := fun b ob q => by
    by_cases hb : b ∈ cp.map (·.1)
    · rw [← z3] at hb
      obtain ⟨p, hp, rfl⟩ := List.mem_map.mp hb
      exact ⟨_, (z5 p hp).1⟩
    · exact ⟨_, z4 b ob hb q⟩
  have J : Inv X [] σ H { s with heap := hh, gens := g, drawn := d, toks := t } := by
    refine I0.step (g' := g) (t' := t) (d' := d) (ch := cp.map (·.1)) (fun b hb => ?_) (fun b ob _ _ hc q _ => z4 b ob hc q) (fun b ob _ _ hc q _ => ⟨ob.slots, z4 b ob hc q⟩) (fun _ _ _ _ n => n) (fun b ob _ q => there b ob q)
      (fun _ _ q => q) (fun _ _ _ q => q) (fun b ps q => ⟨#[], by rw [q]; simp⟩) (fun m hm => ?_) (fun b u q => ?_) z2
    · obtain ⟨a1, a2, a3, _, a5⟩ := ap b hb
      exact ⟨.inr a1, a2, a3, fun p hp => a5 p (by simpa using hp)⟩
    · obtain ⟨ob, es, ep, ho, r⟩ := hm
      exact ⟨ob, es, ep, z4 _ ob nL ho, r⟩
    · refine (I0.hok b u q).stay (fun c v hc y => z4 c v ?_ y) (fun _ y => y) fun _ _ y => y
      rcases hc with y | y
      · rw [y]; exact nt b u q
      · exact nt c _ y
  refine J.pins_of fun p hp => ?_
  have hb : p.1 ∈ cp.map (·.1) := by rw [← z3]; exact List.mem_map_of_mem hp
  exact ⟨(z5 p hp).1, (inC _ hb).1, (ap _ hb).2.1, (inC _ hb).2, (z5 p hp).2⟩
end

/-! ### the running of it -/
/-- an item is handed out: the rest may go on once the consumer has done its part -/
def GYk (Y : Cx) (fp ca : List Addr) (σw : L2.St) (W : Nat → Nat → List (Addr × Obj) → Hp → Prop) (Cs : Nat → Nat → List (Addr × Obj) → V → Hp → Prop) : Protocol := fun _ s₀ v s kap =>
  ∃ i m y H cp, RelV y v ∧ Inv Y cp σw H s ∧ cp.map (·.1) = ca ∧ (∀ p ∈ cp, s₀.heap.get? p.1 = some p.2) ∧ Cs i m cp y H ∧ ∀ s' cp' m', Sleep cp cp' s s' → m' < m → W (i + 1) m' cp' H → kap (.send .none) s'
/-- the end -/
def GFk (Y : Cx) (ca : List Addr) (σw : L2.St) (Fn : List (Addr × Obj) → Hp → Prop) (_ : Nat) (s₀ s : Shared) : Prop :=
  ∃ H cp, Inv Y cp σw H s ∧ cp.map (·.1) = ca ∧ (∀ p ∈ cp, s₀.heap.get? p.1 = some p.2) ∧ Fn cp H
def GRk (Y : Cx) (ca : List Addr) (σw : L2.St) (Fn : List (Addr × Obj) → Hp → Prop) : GenEnd := fun n s₀ r s =>
  ((r = .ok (.ret .none) ∨ r = .ok .next) ∧ GFk Y ca σw Fn n s₀ s) ∨ ∃ e, r = .error e ∧ False
section
variable {Y : Cx} {Aw : Around} {elt tg iter : Expr} {ifs : List Expr} {scope : Scope} {pos : Pos} {it : Addr} {fp ca : List Addr} {tn : Nat → Heap → Prop} {J : It} {g : TG} {tt : TT} {te : TE} {vs : List Nat} {σ : L2.St}
  {W : Nat → Nat → List (Addr × Obj) → Hp → Prop} {Cs : Nat → Nat → List (Addr × Obj) → V → Hp → Prop} {Fn : List (Addr × Obj) → Hp → Prop}
theorem gen_loop (hover : Aw.over (.compLoop (.GeneratorExp elt [⟨tg, iter, ifs, 0⟩] scope pos) 0 (.ref it) .none Y.env) [] = Y.A) (hc : Y.calm = true) (hco : Y.env.scope.isCoroutine = false) (hxe : Y.xe = fun _ _ => False)
    (T : Turn Y.prog Y.w Y.K tg J fp it tn) (hfx : ∀ b ∈ fp, b ∈ Y.ex) (hpn : ∀ p ∈ Y.pn, p.1 ∉ fp) (pg : PG Y tg g) (pt : PTs Y ifs tt) (pe : PE Y elt te)
    (apt : ∀ cp : List (Addr × Obj), cp.map (·.1) = ca → Apt Y fp cp)
    (turn : ∀ i m cp H, W i m cp H → (J.stop i H ∧ Fn cp H) ∨ (J.go i H ∧ ∃ Nx : Hp → Prop, (∀ H', Nx H' → ∃ m', m' < m ∧ W (i + 1) m' cp H') ∧ ∀ x H', J.yld i H x H' → g x (wipe σ vs) H' fun σ2 H2 => wipe σ2 vs = wipe σ vs ∧ tt σ2 H2 fun b H3 =>
      if b = true then te σ2 H3 fun y H4 => Cs i m cp y H4 else Nx H3)) :
    ∀ (m n i : Nat) (H : Hp) (s s₀ : Shared) (cp : List (Addr × Obj)), m < n → Inv Y cp (wipe σ vs) H s → cp.map (·.1) = ca → tn i s.heap → (∀ b ∈ fp, H b = none) → W i m cp H → (∀ p ∈ cp, s₀.heap.get? p.1 = some p.2) →
      Seg (model Y.prog Y.w) Aw (GRk Y ca (wipe σ vs) Fn) (GYk Y fp ca (wipe σ vs) W Cs) n s₀ (.compLoop (.GeneratorExp elt [⟨tg, iter, ifs, 0⟩] scope pos) 0 (.ref it) .none Y.env)
        ((model Y.prog Y.w).den (.compLoop (.GeneratorExp elt [⟨tg, iter, ifs, 0⟩] scope pos) 0 (.ref it) .none Y.env)) [] s := by
  intro m
  induction m using Nat.strongRecOn with
  | ind m ih =>
    intro n i H s s₀ cp hmn I hca st nfp w hs0
    have ap := apt cp hca
    have stat : ∀ {pins : List (Addr × Obj)} {σ' : L2.St} {H' : Hp} {s' : Shared}, Inv Y pins σ' H' s' → (∀ p ∈ pins, p.1 ∉ fp) → (∀ b ∈ fp, H' b = none) → ∀ b ∈ fp, FpOk Y pins H' b := fun {pins σ' H' s'} I' hp hn b hb =>
      ⟨hn b hb, (I'.ok.exf b (hfx b hb)).1, I'.ok.exfs b (hfx b hb), .inl (hfx b hb), fun x c e => (I'.ok.exf b (hfx b hb)).2 x c e, fun p hq => by
        rcases List.mem_append.mp hq with q | q
        · exact fun z => hpn p q (z ▸ hb)
        · exact fun z => hp p q (z ▸ hb)⟩
    have cpf : ∀ p ∈ cp, p.1 ∉ fp := fun p hp => (ap p.1 (List.mem_map_of_mem hp)).2.2.2.1
    show Seg _ Aw _ _ _ s₀ _ ((compTurn (.GeneratorExp elt [⟨tg, iter, ifs, 0⟩] scope pos) 0 (.ref it) .none Y.env).onRaise (leaving Y.env)) [] s
    rw [compTurn_gen, Sem.onRaise_eq_wrap]
    refine seg_bind_wrap (wpAny_standAt ?_)
    rcases turn i m cp H w with ⟨stop, q⟩ | ⟨go, Nx, hNx, step⟩
    · refine seg_bind_wrap ?_
      rw [hover]
      refine thnF (T.done Y rfl rfl rfl hc i cp s _ H (fun _ _ => False) I (stat I cpf nfp) st stop) fun r s6 ⟨hr, I6⟩ => ?_
      subst hr
      exact seg_end (.ok .next) (.inl ⟨.inr rfl, H, cp, I6, hca, hs0, q⟩)
    · refine seg_bind_wrap ?_
      rw [hover]
      refine thnF (T.item Y rfl rfl rfl hc i cp s _ H (fun _ _ => False) I (stat I cpf nfp) st go) fun r s6 ⟨u, hr, h6⟩ => ?_
      subst hr
      refine seg_bind_wrap ?_
      rw [hover]
      refine thnF h6 fun _ s7 ⟨x, H7, I7, r7, y7, st7, n7⟩ => ?_
      have I7' := I7.pinned (stat I7 cpf n7) (T.obj _ _ st7)
      refine seg_bind_wrap ?_
      rw [hover]
      have pgr := pg.run _ s7 _ H7 x u _ I7' r7 (step x H7 y7)
      rw [hxe] at pgr
      refine thnF pgr fun _ s8 ⟨σ8, H8, I8, hw8, q8⟩ => ?_
      refine seg_bind_wrap ?_
      rw [hover]
      have ptr := pt.run _ s8 σ8 H8 _ I8 q8
      rw [hxe] at ptr
      refine thnF ptr fun b s9 ⟨H9, I9, q9⟩ => ?_
      have back : ∀ {s' : Shared} {H' : Hp}, Inv Y (cp ++ pinsAt fp s7.heap) σ8 H' s' → Inv Y cp (wipe σ vs) H' s' ∧ tn (i + 1) s'.heap ∧ ∀ b ∈ fp, H' b = none := fun {s' H'} I' => by
        have pin' : ∀ b ∈ fp, ∀ o, s7.heap.get? b = some o → s'.heap.get? b = some o ∧ H' b = none := fun b hb o e =>
          let z := I'.pin (b, o) (List.mem_append_right _ (List.mem_append_right _ (mem_pinsAt hb e)))
          ⟨z.1, z.2.1⟩
        have hl : (wipe σ vs).length = σ8.length := by rw [← hw8, wipe_length]
        refine ⟨(I'.unpinned (pins := cp)).weak hl (fun j v e => ?_), T.keep _ _ _ st7 fun b hb o e => (pin' b hb o e).1, fun b hb => ?_⟩
        · rw [← hw8] at e
          exact (wipe_some e).1
        · obtain ⟨o, e, _⟩ := T.obj _ _ st7 b hb
          exact (pin' b hb o e).2
      cases b with
      | false =>
        simp only [Bool.false_eq_true, if_false] at q9 ⊢
        obtain ⟨J1, J2, J3⟩ := back I9
        obtain ⟨m', hm', w'⟩ := hNx _ q9
        exact seg_again rfl (ih m' hm' n (i + 1) H9 s9 s₀ cp (Nat.lt_trans hm' hmn) J1 hca J2 J3 w' hs0)
      | true =>
        simp only [if_true] at q9 ⊢
        have hy : ∀ v, yieldOut Y.env v = yieldValue v := fun v => by simp only [yieldOut, hco, Bool.false_eq_true, if_false]
        simp only [hy]
        rw [Sem.bind_eq_wrap', Sem.bind_eq_wrap', Sem.wrap_wrap, Sem.wrap_wrap]
        refine seg_wrap ?_
        rw [hover]
        have per := pe.run _ s9 σ8 H9 _ I9 q9
        rw [hxe] at per
        refine thnF per fun z s10 ⟨yv, H10, I10, r10, c10⟩ => ?_
        obtain ⟨J1, J2, J3⟩ := back I10
        cases n with
        | zero => omega
        | succ n =>
          refine seg_at (seg_yield rfl rfl rfl ⟨i, m, yv, H10, cp, r10, J1, hca, hs0, c10, fun s' cp' m' sl hm' w' => ?_⟩)
          refine seg_again rfl (ih m' hm' n (i + 1) H10 s' s' cp' (by omega) (wake J1 ap sl) (sl.adr.trans hca) (T.keep _ _ _ J2 fun b hb o e => sl.keep b o (fun z => ?_) e) J3 w' fun p hp => (sl.own p hp).1)
          exact (ap b z).2.2.2.1 hb
theorem gen_begin (hover : Aw.over (.compStart (.GeneratorExp elt [⟨tg, iter, ifs, 0⟩] scope pos) 0 (.ref it) .none Y.env) [] = Y.A) (T : Turn Y.prog Y.w Y.K tg J fp it tn) {n : Nat} {s s₀ : Shared} {i : Nat} (st : tn i s.heap) {R : GenEnd} {P : Protocol}
    (loop : Seg (model Y.prog Y.w) Aw R P n s₀ (.compLoop (.GeneratorExp elt [⟨tg, iter, ifs, 0⟩] scope pos) 0 (.ref it) .none Y.env) ((model Y.prog Y.w).den (.compLoop (.GeneratorExp elt [⟨tg, iter, ifs, 0⟩] scope pos) 0 (.ref it) .none Y.env)) [] s) :
    Seg (model Y.prog Y.w) Aw R P n s₀ (.compStart (.GeneratorExp elt [⟨tg, iter, ifs, 0⟩] scope pos) 0 (.ref it) .none Y.env) ((model Y.prog Y.w).den (.compStart (.GeneratorExp elt [⟨tg, iter, ifs, 0⟩] scope pos) 0 (.ref it) .none Y.env)) [] s := by
  show Seg _ Aw _ _ _ s₀ _ ((compStart (.GeneratorExp elt [⟨tg, iter, ifs, 0⟩] scope pos) 0 (.ref it) .none Y.env).onRaise (leaving Y.env)) [] s
  unfold compStart
  rw [Sem.onRaise_eq_wrap]
  show Seg _ Aw _ _ _ s₀ _ ((ask >>= _).wrap _ _ _ _) [] s
  refine seg_bind_wrap (wpAny_askSetting ?_)
  split
  · exact seg_again rfl loop
  · refine seg_bind_wrap (wpAny_rule ?_)
    show Seg _ Aw _ _ _ s₀ _ ((standAt iter.pos >>= _).wrap _ _ _ _) [] s
    exact seg_bind_wrap (wpAny_standAt (seg_bind_wrap (T.self _ i s _ _ st (seg_again rfl loop))))
theorem over_start {A : Around} {env : Env} : A.over (.compStart (.GeneratorExp elt [⟨tg, iter, ifs, 0⟩] scope pos) 0 (.ref it) .none env) [] = A.deeper env := by
  first
    | rfl
    | (obtain ⟨hd, d, fr, gs, u⟩ := A; simp [Around.over, Around.deeper, marksOver, frameCount, unitsOf, envsOf, guardsOf, pushEnvs, pushGuards, Code.envs, Code.env?, Code.isFrame, Code.guards, Code.isGuard, Code.weight, Code.frames, Code.isCreation, Code.isCaller, Code.cUnits])
theorem over_turn {A : Around} {env : Env} : A.over (.compLoop (.GeneratorExp elt [⟨tg, iter, ifs, 0⟩] scope pos) 0 (.ref it) .none env) [] = A.deeper env := by
  first
    | rfl
    | (obtain ⟨hd, d, fr, gs, u⟩ := A; simp [Around.over, Around.deeper, marksOver, frameCount, unitsOf, envsOf, guardsOf, pushEnvs, pushGuards, Code.envs, Code.env?, Code.isFrame, Code.guards, Code.isGuard, Code.weight, Code.frames, Code.isCreation, Code.isCaller, Code.cUnits])
end
end DL

set_option Elab.async false
set_option linter.all false
set_option maxRecDepth 100000
set_option maxHeartbeats 4000000
/-! DL15: generator expressions are made and consumed. -/
namespace DL
open PySem PySem.Spec PyProof.Rows L2 RZ

/-- a generator that has not begun: what it does when it is woken; H: what is held -/
structure GMk (X : Cx) (pins : List (Addr × Obj)) (σ : L2.St) (H : Hp) (tg elt : Expr) (ifs : List Expr) (scope : Scope) (own : List (Str × Nat)) (J : It) (a : Addr) (g : Nat) (genv : Env) (fp : List Addr) (sc : Shared) (go : Obj) (c : Code) (s' : Shared) : Prop where
  env : ∃ C code, genv = genEnv scope (cloFrom X.env.cells scope.names []) C code builtinsNs X.env
  inv : Inv X pins σ H sc
  fpok : ∀ b ∈ fp, FpOk X pins H b
  size : sc.heap.objs.size < a ∧ a < s'.heap.objs.size
  gen : ∀ h : Heap, h.get? a = some go → h.IsGen a g
  obj : s'.heap.get? a = some go
  gens : s'.gens[g]? = some (.fresh c)
  kept : ∀ b o, sc.heap.get? b = some o → s'.heap.get? b = some o
  os : s'.os = sc.os
  bare : AllBare s'.gens
  run : ∀ (Aw : Around) (cp : List (Addr × Obj)) (s2 : Shared), Aw.handled = none → Aw.frames = some X.stack → (∀ p ∈ cp, s'.heap.objs.size ≤ p.1 ∧ s2.heap.get? p.1 = some p.2 ∧ ∀ v, p.2.data ≠ .cell v) → (∀ b o, s'.heap.get? b = some o → s2.heap.get? b = some o) → s2.os = s'.os → AllBare s2.gens →
    ∀ (gt : TG) (tt : TT) (te : TE), PG (gblk X (Aw.deeper genv) sc H genv fp [(a, go)]) tg gt → PTs (gblk X (Aw.deeper genv) sc H genv fp [(a, go)]) ifs tt → PE (gblk X (Aw.deeper genv) sc H genv fp [(a, go)]) elt te →
    ∀ (W : Nat → Nat → List (Addr × Obj) → Hp → Prop) (Cs : Nat → Nat → List (Addr × Obj) → V → Hp → Prop) (Fn : List (Addr × Obj) → Hp → Prop) (m : Nat),
      (∀ i m cp H, W i m cp H → (J.stop i H ∧ Fn cp H) ∨ (J.go i H ∧ ∃ Nx : Hp → Prop, (∀ H', Nx H' → ∃ m', m' < m ∧ W (i + 1) m' cp H') ∧ ∀ x H', J.yld i H x H' → gt x (wipe σ (own.map (·.2))) H' fun σ2 H2 => wipe σ2 (own.map (·.2)) = wipe σ (own.map (·.2)) ∧ tt σ2 H2 fun b H3 =>
        if b = true then te σ2 H3 fun y H4 => Cs i m cp y H4 else Nx H3)) → W 0 m cp H →
      Seg (model X.prog X.w) Aw (GRk (gblk X (Aw.deeper genv) sc H genv fp [(a, go)]) (cp.map (·.1)) (wipe σ (own.map (·.2))) Fn) (GYk (gblk X (Aw.deeper genv) sc H genv fp [(a, go)]) fp (cp.map (·.1)) (wipe σ (own.map (·.2))) W Cs) (m + 1) s2 c ((model X.prog X.w).den c) [] s2
section
variable {X : Cx} {pins : List (Addr × Obj)} {σ : L2.St} {H : Hp} {s : Shared} {tg elt iter : Expr} {ifs : List Expr} {scope : Scope} {own : List (Str × Nat)} {pos : Pos}
/-- back in the def's own context -/
theorem GMk.leave {J : It} {a : Addr} {g : Nat} {genv : Env} {fp : List Addr} {sc : Shared} {go : Obj} {c : Code} {s' : Shared} (G : GMk X pins σ H tg elt ifs scope own J a g genv fp sc go c s') {A : Around} {cp : List (Addr × Obj)} {σ' : L2.St} {H' : Hp} {s2 : Shared}
    (I : Inv (gblk X A sc H genv fp [(a, go)]) cp σ' H' s2) : Inv X pins σ H' s2 :=
  G.inv.call' (ch := fp) I.os I.base I.hok I.bare fun b hb => ⟨(G.fpok b hb).2.2.2.1, (G.fpok b hb).2.1, (G.fpok b hb).2.2.2.2.1, (G.fpok b hb).2.2.2.2.2⟩
theorem gen_make {wi : TI} {k : Nat} {cA P : Addr} {Q' : Value → Shared → Prop} {R : It → Hp → Prop} (hr : Room k X.A) (TB : GxR.TabB X.base X.mg cA P) (hcode : X.env.code = .ref cA) (ok : GenOk X.N X.env.scope scope own) (hN : X.N.Nodup) (hc : X.calm = true)
    (hi : PI X tg iter wi) (hs : ∀ v, genFold iter X.env v = pure v) (I : Inv X pins σ H s) (h : wi σ H fun J H1 => GxR.TabG H1 P ∧ R J H1)
    (hQ : ∀ J H1 H2 a g genv fp sc go c s', R J H1 → GxR.Tabbed P H1 H2 → GMk X pins σ H2 tg elt ifs scope own J a g genv fp sc go c s' → Q' (.ref a) s') :
    wpAny (model X.prog X.w) X.A (eval (.GeneratorExp elt [⟨tg, iter, ifs, 0⟩] scope pos) X.env) Q' X.xe s := by
  refine wpAny_GeneratorExp_make ok.co (closure_ok (gen_clo I ok)) ok.cell ok.dot ok.kind (by have := hr.dp; omega) ?_ hs
  refine thn (hi.run pins s σ H _ I h) fun xv s1 hx => thn hx fun itv s2 h2 => ?_
  obtain ⟨it, fp, tn, J, H1, rfl, I1, T, st, hf, ⟨ps, hP, ht⟩, q⟩ := h2
  refine ⟨I1.nolimit, ?_⟩
  have hPs : s2.heap.get? P = some { cls := .none, data := .fields ps } := I1.hok P _ hP
  have fpP : ∀ b ∈ fp, b ≠ P := fun b hb z => by
    have := (hf b hb).1
    rw [z, hP] at this
    cases this
  have cd : PySem.W.CodeHd s2.heap cA P := TB.code.keeps fun b u e => I1.bk b u e
  have rest : ∀ (code : Value) (h3 : Heap) (tk : Nat) (more : Array Value), Heap.ExtBut P s2.heap h3 → s2.heap.objs.size ≤ h3.objs.size → h3.get? P = some { cls := .none, data := .fields (ps ++ more) } → TriplesOk (ps ++ more).toList →
      wpAny (model X.prog X.w) X.A (builtinsFor X.env.globals X.env.builtins) (fun bi s₄ => ∀ h', h'.Ns s₄.heap.objs.size (fun y => if y = ".0" then some (.ref it) else none) → Heap.SameBut s₄.heap.objs.size (s₄.heap.push { cls := .type "frame", data := .dict #[] }) h' →
        Q' (.ref h'.objs.size) { s₄ with
          gens := s₄.gens.push (.fresh (.compStart (.GeneratorExp elt [⟨tg, iter, ifs, 0⟩] scope pos) 0 (.ref it) .none (genEnv scope (cloFrom X.env.cells scope.names []) s₄.heap.objs.size code bi X.env))),
          toks := s₄.toks + 1 + 1 + 1,
          heap := h'.push { cls := .type "generator", data := .fields #[.int s₄.gens.size 0, .str "<genexpr>" (s₄.toks + 1), .str (X.env.qual ++ "<genexpr>") (s₄.toks + 1 + 1)] } }) X.xe { s2 with heap := h3, toks := tk } := by
    intro code h3 tk more hx hsz hP3 ht3
    obtain ⟨bm, ob, e1, e2, e3, e4, e5, e6, e7, e8⟩ := TB.bm
    have keep3 : ∀ b u, b ≠ P → s2.heap.get? b = some u → h3.get? b = some u := fun b u hb e => hx b u hb e
    have I3 : Inv X pins σ (upd H1 P (.tbl (ps ++ more))) { s2 with heap := h3, toks := tk } := GxR.inv_tab (g' := s2.gens) (d' := s2.drawn) (t' := tk) I1 hP keep3 hP3 I1.bare
    refine wpAny_builtinsFor (m := X.mg) (by rw [I1.ok.glob]; exact (I1.mod.glob.keeps I1.bk).extBut hx TB.gP) e1 e2 (keep3 _ _ e4 (I1.bk _ _ e5)) e6 e7 e8 ?_
    intro h' hns hsb
    have sz' : h'.objs.size = h3.objs.size + 1 := by rw [hsb.1, Heap.size_push]
    have lt3 : ∀ b o, h3.get? b = some o → b ≠ h3.objs.size := fun b o e => Nat.ne_of_lt (Heap.lt_size e)
    have k4 : ∀ b o, h3.get? b = some o → h'.get? b = some o := fun b o e => (hsb.2 b (lt3 b o e)).trans (Heap.get?_push_of_some _ e)
    have fpl : ∀ b ∈ fp, b < s2.heap.objs.size := fun b hb => by
      obtain ⟨o, e, _⟩ := T.obj _ _ st b hb
      exact Heap.lt_size e
    have fp2 : ∀ b ∈ fp, FpOk X pins (upd H1 P (.tbl (ps ++ more))) b := fun b hb => ⟨by rw [upd_ne (fpP b hb)]; exact (hf b hb).1, (hf b hb).2⟩
    refine hQ J H1 (upd H1 P (.tbl (ps ++ more))) h'.objs.size s2.gens.size (genEnv scope (cloFrom X.env.cells scope.names []) h3.objs.size code builtinsNs X.env) fp { s2 with heap := h3, toks := tk }
      { cls := .type "generator", data := .fields #[.int s2.gens.size 0, .str "<genexpr>" (tk + 1), .str (X.env.qual ++ "<genexpr>") (tk + 1 + 1)] } _ _ q ⟨⟨_, upd_same, ht3⟩, fun b hb => upd_ne hb⟩
      ⟨⟨_, code, rfl⟩, I3, fp2, ⟨by show h3.objs.size < _; omega, by show _ < (h'.push _).objs.size; rw [Heap.size_push]; exact Nat.lt_succ_self _⟩, fun h e => ⟨_, _, _, e, rfl, rfl, rfl⟩, Heap.get?_push_size _ rfl, Array.getElem?_push_size .., fun b o e => Heap.get?_push_of_some _ (k4 b o e), rfl, AllBare.push I1.bare rfl, ?_⟩
    intro Aw cp s9 hh hfr hcp hk hos hba gt tt te pg pt pe W Cs Fn m turn w0
    have ce : ∀ b ∈ cp.map (·.1), h'.objs.size + 1 ≤ b := fun b hb => by
      obtain ⟨p, hp, rfl⟩ := List.mem_map.mp hb
      have z : (h'.push _).objs.size ≤ p.1 := (hcp p hp).1
      rw [Heap.size_push] at z
      exact z
    have IY := gen_start (A := Aw.deeper (genEnv scope (cloFrom X.env.cells scope.names []) h3.objs.size code builtinsNs X.env)) (own := own) (fp := fp) (code := code) (s5 := s9) (m0 := fun y => if y = ".0" then some (.ref it) else none)
      (pn := [(h'.objs.size, { cls := .type "generator", data := .fields #[.int s2.gens.size 0, .str "<genexpr>" (tk + 1), .str (X.env.qual ++ "<genexpr>") (tk + 1 + 1)] })]) (cp := cp)
      I3 ok hN (fun b hb => ⟨fp2 b hb, Nat.lt_of_lt_of_le (fpl b hb) hsz⟩) hh (Around.frames_deeper hfr) ((hns.keeps fun b o e => Heap.get?_push_of_some _ e).keeps hk) (fun b o e => hk b o (Heap.get?_push_of_some _ (k4 b o e))) hos hba (fun p hp => by
        rcases List.mem_append.mp hp with z | z
        · rw [List.mem_singleton.mp z]
          exact ⟨hk _ _ (Heap.get?_push_size _ rfl), by show h3.objs.size < _; omega, fun v q => by cases q⟩
        · have := ce p.1 (List.mem_map_of_mem z)
          exact ⟨(hcp p z).2.1, by show h3.objs.size < _; omega, (hcp p z).2.2⟩)
    have st9 : tn 0 s9.heap := T.keep _ _ _ st fun b hb o e => hk b o (Heap.get?_push_of_some _ (k4 b o (keep3 b o (fpP b hb) e)))
    refine gen_begin (Y := gblk X _ _ _ _ fp _) over_start T st9 (gen_loop (Y := gblk X _ _ _ _ fp _) over_turn hc ok.co rfl T (fun b hb => hb) (fun p hp => ?_) pg pt pe (fun cp' e' => ?_) turn m (m + 1) 0 _ s9 s9 cp (Nat.lt_succ_self _) IY rfl st9 (fun b hb => (fp2 b hb).1) w0 fun p hp => (hcp p hp).2.1)
    · rw [List.mem_singleton.mp hp]
      intro z
      have := fpl _ z
      have z2 : h'.objs.size < s2.heap.objs.size := this
      omega
    · intro b hb
      rw [e'] at hb
      have zb := ce b hb
      refine ⟨by show h3.objs.size ≤ b; omega, by show b ≠ h3.objs.size; omega, fun x c e z => ?_, fun z => ?_, fun p hp z => ?_⟩
      · obtain ⟨v, o, ho, _⟩ := I3.cell x c (gen_cells I3 ok e).1
        have q : c < h3.objs.size := Heap.lt_size ho
        rw [z] at q
        exact absurd (Nat.lt_of_lt_of_le q (Nat.le_trans (Nat.le_of_lt (by omega : h3.objs.size < h'.objs.size + 1)) zb)) (Nat.lt_irrefl _)
      · have q : b < s2.heap.objs.size := fpl b z
        omega
      · rw [List.mem_singleton.mp hp] at z
        have z : h'.objs.size = b := z
        omega
  cases hf2 : codeAmong pos ps.toList with
  | none =>
    refine wpAny_genexprCodeX hcode (cd.code hPs ht) (cd.tab hPs) hf2 fun c' h' tk hx hge hlt hco' _ htab' _ => ?_
    obtain ⟨o1, vs, f1, tf, fl, tg', inF, tx, tt', op, _, _, _, _, _, _, _, _, _, htr, _⟩ := hco'
    exact rest _ h' tk _ hx (Nat.le_trans hge (Nat.le_of_lt hlt)) htab'.2 htr
  | some cv =>
    refine wpAny_genexprCode_hit hcode (cd.code hPs ht) hf2 ?_
    exact rest cv s2.heap s2.toks #[] (Heap.ExtBut.refl _ _) (Nat.le_refl _) (by simpa using hPs) (by simpa using ht)
end
end DL

set_option Elab.async false
set_option linter.all false
set_option maxRecDepth 100000
set_option maxHeartbeats 4000000
/-! DL16: what a generator hands out is put into a list, a tuple. -/
namespace DL
open PySem PySem.Spec PyProof.Rows L2 RZ GenW

section
variable {X : Cx} {pins : List (Addr × Obj)} {σ : L2.St} {H : Hp} {tg elt : Expr} {ifs : List Expr} {scope : Scope} {own : List (Str × Nat)} {J : It} {a : Addr} {g : Nat} {genv : Env} {fp : List Addr} {sc : Shared} {go : Obj} {c : Code} {s' : Shared}
/-- the list is being filled -/
def Wl (S : Addr) (Φ : Nat → Nat → List V → Hp → Prop) : Nat → Nat → List (Addr × Obj) → Hp → Prop := fun i m cp H => ∃ acc n ys, cp = [(S, lstObj acc n)] ∧ Vals ys acc.toList ∧ Φ i m ys H
def Cl' (S : Addr) (Φ : Nat → Nat → List V → Hp → Prop) : Nat → Nat → List (Addr × Obj) → V → Hp → Prop := fun i m cp y H => ∃ acc n ys m', cp = [(S, lstObj acc n)] ∧ Vals ys acc.toList ∧ ys.length < sizeLine ∧ m' < m ∧ Φ (i + 1) m' (ys ++ [y]) H
def Fl (S : Addr) (Fin : List V → Hp → Prop) : List (Addr × Obj) → Hp → Prop := fun cp H => ∃ acc n ys, cp = [(S, lstObj acc n)] ∧ Vals ys acc.toList ∧ ys.length ≤ sizeLine ∧ Fin ys H
theorem fill (G : GMk X pins σ H tg elt ifs scope own J a g genv fp sc go c s') {B A : Around} {S : Addr} {res : Value} {Φ : Nat → Nat → List V → Hp → Prop} {Fin : List V → Hp → Prop} {R : Result → Shared → Prop} (hh : A.handled = none) (hd : A.depth < recursionLimit) (hSa : S ≠ a) (hSc : S ≠ cStatics)
    (hend : ∀ s2 acc n H' ys, s2.heap.get? S = some (lstObj acc n) → Vals ys acc.toList → ys.length ≤ sizeLine → Inv X pins σ H' s2 → H' S = none → Fin ys H' → R (.ok (.ret res)) s2) :
    ∀ (m : Nat) (s : Shared), s.heap.IsGen a g → s.heap.NoLimit →
      (∃ gs, s.gens[g]? = some gs ∧ gs.Goes (model X.prog X.w) A.in1.in1 (GRk (gblk X B sc H genv fp [(a, go)]) [S] (wipe σ (own.map (·.2))) (Fl S Fin)) (GYk (gblk X B sc H genv fp [(a, go)]) fp [S] (wipe σ (own.map (·.2))) (Wl S Φ) (Cl' S Φ)) m (.send .none) (s.setGen g .running)) →
      codeAny (model X.prog X.w) A (.builtin "list.extend.loop" ⟨[.ref S, .ref a, res], []⟩) R s := by
  -- the consumer's part
  have push : ∀ {s₁ : Shared} {H2 : Hp} {acc : Array Value} {n : Nat} {v : Value} {gn : Array GenState}, Inv (gblk X B sc H genv fp [(a, go)]) [(S, lstObj acc n)] (wipe σ (own.map (·.2))) H2 s₁ → AllBare gn →
      ∃ n', Sleep [(S, lstObj acc n)] [(S, lstObj (acc.push v) n')] s₁ { s₁ with gens := gn, heap := s₁.heap.update S (Obj.mapSeq (·.push v)) } := fun {s₁ H2 acc n v gn} I2 hb => by
    have hS := (I2.pin (S, lstObj acc n) (List.mem_append_right _ List.mem_cons_self)).1
    obtain ⟨n', e'⟩ : ∃ n', (s₁.heap.update S (Obj.mapSeq (·.push v))).get? S = some (lstObj (acc.push v) n') := ⟨_, Heap.get?_update_self _ hS rfl⟩
    refine ⟨n', ⟨rfl, hb, rfl, fun b o hb e => (Heap.get?_update_other _ _ (fun z => hb (by rw [← z]; exact List.mem_cons_self))).trans e, fun p hp => ?_⟩⟩
    rw [List.mem_singleton.mp hp]
    exact ⟨e', fun v z => by cases z⟩
  have ends : ∀ {s₀ s₁ : Shared} {m : Nat} {h' : Heap}, GFk (gblk X B sc H genv fp [(a, go)]) [S] (wipe σ (own.map (·.2))) (Fl S Fin) m s₀ s₁ → (∀ b o, s₁.heap.get? b = some o → h'.get? b = some o) → R (.ok (.ret res)) { s₁.setGen g .finished with heap := h' } := fun {s₀ s₁ m h'} hp hk => by
    obtain ⟨H2, cp, I2, hca, hs0, acc, n, ys, rfl, rys, hl, fin⟩ := hp
    obtain ⟨p1, p2, _⟩ := I2.pin (S, lstObj acc n) (List.mem_append_right _ List.mem_cons_self)
    have I3 := G.leave I2
    refine hend _ acc n H2 ys (hk _ _ p1) rys hl ?_ p2 fin
    exact I3.call' (ch := []) rfl (Un.kept hk) (I3.hok.kept hk) (allBare_setGen I3.bare rfl) fun b z => by simp at z
  intro m
  induction m with
  | zero =>
    intro s hg hl ⟨gs, hgs, hgo⟩
    refine codeAny_builtin F.entry_extend_loop ?_
    rw [Around.under_plainId F.plain_extend_loop _]
    show wpAny _ A.in1 (pyNext (.ref a) >>= _) _ _ s
    refine wpAny_bind (next_genG (A := A.in1) hh hl hd hg hgs hgo (fun v s₁ gs' hbare hv => ?_) (fun s₁ hp h' hk => ?_) fun e s₁ he => he.elim)
    · obtain ⟨i, mm, y, H2, cp, r, I2, hca, hs0, ⟨acc, n, ys, m', rfl, rys, hlen, hm', ph⟩, hk⟩ := hv
      obtain ⟨n', sl⟩ := push (v := v) I2 I2.bare
      exact False.elim (hk _ _ m' sl hm' ⟨_, _, _, rfl, by rw [Array.toList_push]; exact rys.append (.cons r .nil), ph⟩)
    · exact wpAny_pure (ends hp hk)
  | succ m ih =>
    intro s hg hl ⟨gs, hgs, hgo⟩
    have hgl : g < s.gens.size := (Array.getElem?_eq_some_iff.mp hgs).1
    refine codeAny_builtin F.entry_extend_loop ?_
    rw [Around.under_plainId F.plain_extend_loop _]
    show wpAny _ A.in1 (pyNext (.ref a) >>= _) _ _ s
    refine wpAny_bind (wpAny_gsz (n := g + 1) hgl (next_genG (A := A.in1) hh hl hd hg hgs hgo (fun v s₁ gs' hbare hv => ?_) (fun s₁ hp h' hk => ?_) fun e s₁ he => he.elim))
    · intro hsz
      obtain ⟨i, mm, y, H2, cp, r, I2, hca, hs0, ⟨acc, n, ys, m', rfl, rys, hlen, hm', ph⟩, hk⟩ := hv
      have hS := (I2.pin (S, lstObj acc n) (List.mem_append_right _ List.mem_cons_self)).1
      have hA := (I2.pin (a, go) (List.mem_append_left _ List.mem_cons_self)).1
      have hacc : acc.size < sizeLine := by
        have := rys.length
        have e : acc.toList.length = acc.size := by simp
        omega
      have keep3 : ∀ b o, b ≠ S → s₁.heap.get? b = some o → (s₁.heap.update S (Obj.mapSeq (·.push v))).get? b = some o := fun b o hb e => (Heap.get?_update_other _ _ (Ne.symm hb)).trans e
      have hsz1 : g < s₁.gens.size := by
        have q : (s₁.setGen g gs').gens.size = s₁.gens.size := setGen_size _ _ _
        have hsz' : g + 1 ≤ (s₁.setGen g gs').gens.size := hsz
        omega
      show wpAny _ A.in1 (updateSeq S (·.push v) >>= _) _ _ _
      refine wpAny_bind ?_
      refine wpAny_updateSeq hS rfl (wpAny_pure ⟨plainId_quiet F.plain_extend_loop _, ?_⟩) (Nat.le_of_lt hacc) (by show (acc.push v).size ≤ sizeLine + 1; rw [Array.size_push]; omega)
      refine ih { s₁.setGen g gs' with heap := s₁.heap.update S (Obj.mapSeq (·.push v)) } (G.gen _ (keep3 a go (Ne.symm hSa) hA)) ?_ ⟨gs', setGen_at hsz1, ?_⟩
      · obtain ⟨mc, hns, hnn⟩ := I2.nolimit
        exact ⟨mc, hns.at' fun o e => keep3 _ o (Ne.symm hSc) e, hnn⟩
      · obtain ⟨n', sl⟩ := push (v := v) (gn := ({ s₁.setGen g gs' with heap := s₁.heap.update S (Obj.mapSeq (·.push v)) } : Shared).setGen g .running |>.gens) I2 (allBare_setGen (s := { s₁.setGen g gs' with heap := _ }) (allBare_setGen I2.bare hbare) rfl)
        exact hk _ _ m' sl hm' ⟨_, _, _, rfl, by rw [Array.toList_push]; exact rys.append (.cons r .nil), ph⟩
    · intro hsz
      exact wpAny_pure (ends hp hk)
/-- what is asked of the generator's parts -/
def Parts (X : Cx) (k : Nat) (sc : Shared) (H : Hp) (genv : Env) (fp : List Addr) (a : Addr) (go : Obj) (tg elt : Expr) (ifs : List Expr) (gt : TG) (tt : TT) (te : TE) : Prop :=
  ∀ Aw : Around, Room k Aw → Aw.frames = some X.stack → PG (gblk X (Aw.deeper genv) sc H genv fp [(a, go)]) tg gt ∧ PTs (gblk X (Aw.deeper genv) sc H genv fp [(a, go)]) ifs tt ∧ PE (gblk X (Aw.deeper genv) sc H genv fp [(a, go)]) elt te
def TurnL (J : It) (S : Addr) (σw : L2.St) (vs : List Nat) (gt : TG) (tt : TT) (te : TE) (Φ : Nat → Nat → List V → Hp → Prop) (Fin : List V → Hp → Prop) : Prop :=
  ∀ i m cp H, Wl S Φ i m cp H → (J.stop i H ∧ Fl S Fin cp H) ∨ (J.go i H ∧ ∃ Nx : Hp → Prop, (∀ H', Nx H' → ∃ m', m' < m ∧ Wl S Φ (i + 1) m' cp H') ∧ ∀ x H', J.yld i H x H' → gt x σw H' fun σ2 H2 => wipe σ2 vs = σw ∧ tt σ2 H2 fun b H3 =>
    if b = true then te σ2 H3 fun y H4 => Cl' S Φ i m cp y H4 else Nx H3)
theorem collectG {k : Nat} (G : GMk X pins σ H tg elt ifs scope own J a g genv fp sc go c s') {A : Around} {gt : TG} {tt : TT} {te : TE} {Φ : Nat → Nat → List V → Hp → Prop} {Fin : List V → Hp → Prop} {m : Nat} {Q : List Value → Shared → Prop} {E : Value → Shared → Prop}
    (hr : Room (k + 3) A) (hfr : A.frames = some X.stack) (pp : Parts X k sc H genv fp a go tg elt ifs gt tt te)
    (turn : ∀ S, H S = none → TurnL J S (wipe σ (own.map (·.2))) (own.map (·.2)) gt tt te Φ Fin) (w0 : Φ 0 m [] H)
    (hend : ∀ s2 ys acc H', Inv X pins σ H' s2 → Vals ys acc → ys.length ≤ sizeLine → Fin ys H' → Q acc s2) : wpAny (model X.prog X.w) A (collect (.ref a)) Q E s' := by
  have hg : s'.heap.IsGen a g := G.gen _ G.obj
  have lim : s'.heap.NoLimit := G.inv.nolimit.keeps G.kept
  have hSI : s'.heap.objs.size ≠ a := Nat.ne_of_gt G.size.2
  have hSc : s'.heap.objs.size ≠ cStatics := Nat.ne_of_gt (let ⟨_, hns, _⟩ := lim; hns.lt)
  unfold collect
  refine wpAny_bind (wpAny_runValue (codeAny_builtin F.entry_proto_collect ?_))
  rw [Around.under_plainId F.plain_proto_collect _]
  show wpAny _ A.in1 (newList [] >>= fun l => again (.builtin "list.__iadd__" ⟨[l, .ref a], []⟩)) _ _ s'
  refine wpAny_bind (wpAny_newObj_type ?_)
  refine wpAny_pure ⟨plainId_quiet F.plain_list_iadd _, codeAny_builtin F.entry_list_iadd ?_⟩
  rw [Around.under_plainId F.plain_list_iadd _]
  have push1 : ∀ b o, s'.heap.get? b = some o → (s'.heap.push { cls := .type "list", data := .seq ([] : List Value).toArray }).get? b = some o := fun b o e => Heap.get?_push_of_some _ e
  have gen1 : (s'.heap.push { cls := .type "list", data := .seq ([] : List Value).toArray }).IsGen a g := G.gen _ (push1 a go G.obj)
  show wpAny _ A.in1 (Builtin.List.listExtendWith (.ref s'.heap.objs.size) (.ref a) (.ref s'.heap.objs.size)) _ _ _
  unfold Builtin.List.listExtendWith
  refine wpAny_bind (wpAny_typeOf (Heap.IsGen.typeIs (s := { s' with heap := _ }) gen1) ?_)
  have e1 : Builtin.List.listSameRef (.ref s'.heap.objs.size) (.ref a) = false := by simp [Builtin.List.listSameRef, hSI]
  have e2 : (Value.type "generator" == Value.type "list") = false := by decide
  have e3 : (Value.type "generator" == Value.type "tuple") = false := by decide
  simp only [e1, e2, e3, Bool.or_false, Bool.false_eq_true, if_false]
  refine wpAny_bind (wpAny_pyIter_gen (s := { s' with heap := _ }) gen1 ?_)
  refine wpAny_bind (wpAny_holding ?_)
  unfold Builtin.List.listLengthHint
  refine wpAny_bind (wpAny_specialOf (Heap.IsGen.typeIs (s := { s' with heap := _ }) gen1) F.gen_no_len ?_)
  show wpAny _ A.in1 (specialOf (Value.ref a) (Str.ofString "__length_hint__") >>= _) _ _ _
  refine wpAny_bind (wpAny_specialOf (Heap.IsGen.typeIs (s := { s' with heap := _ }) gen1) F.gen_no_hint ?_)
  refine wpAny_pure ?_
  show wpAny _ A.in1 (rule "list.extend.makes-room" >>= fun _ => Builtin.List.listTouch (.ref s'.heap.objs.size) >>= fun _ =>
    again (.builtin "list.extend.loop" ⟨[.ref s'.heap.objs.size, .ref a, .ref s'.heap.objs.size], []⟩)) _ _ _
  refine wpAny_bind (wpAny_rule ?_)
  have hS1 : (s'.heap.push { cls := .type "list", data := .seq ([] : List Value).toArray }).get? s'.heap.objs.size = some { cls := .type "list", data := .seq ([] : List Value).toArray } := Heap.get?_push_size _ rfl
  refine wpAny_bind ?_
  show wpAny _ A.in1 (updateSeq s'.heap.objs.size (·.push .none) >>= fun _ => updateSeq s'.heap.objs.size (·.pop)) _ _ _
  refine wpAny_bind (wpAny_updateSeq hS1 rfl ?_)
  have hS2 := Heap.get?_update_self (Obj.mapSeq (·.push Value.none)) hS1 rfl
  refine wpAny_updateSeq hS2 rfl ?_
  have hS3 := Heap.get?_update_self (Obj.mapSeq (·.pop)) hS2 rfl
  have kp : ∀ b o, s'.heap.get? b = some o → (((s'.heap.push { cls := .type "list", data := .seq ([] : List Value).toArray }).update s'.heap.objs.size (Obj.mapSeq (·.push Value.none))).update s'.heap.objs.size (Obj.mapSeq (·.pop))).get? b = some o :=
    fun b o e => (Heap.get?_update_other _ _ (Nat.ne_of_gt (Heap.lt_size e))).trans ((Heap.get?_update_other _ _ (Nat.ne_of_gt (Heap.lt_size e))).trans (push1 b o e))
  have hS4 : ∃ n0, (((s'.heap.push { cls := .type "list", data := .seq ([] : List Value).toArray }).update s'.heap.objs.size (Obj.mapSeq (·.push Value.none))).update s'.heap.objs.size (Obj.mapSeq (·.pop))).get? s'.heap.objs.size = some (lstObj #[] n0) := ⟨_, hS3⟩
  obtain ⟨n0, hS5⟩ := hS4
  have hdp : A.depth < recursionLimit := by have := hr.dp; omega
  have hSn : H s'.heap.objs.size = none := G.inv.hok.fresh (Nat.le_of_lt (Nat.lt_trans G.size.1 G.size.2))
  refine wpAny_pure ⟨plainId_quiet F.plain_extend_loop _, ?_⟩
  refine fill (A := A) (B := A.in1.in1.deeper genv) (S := s'.heap.objs.size) (Φ := Φ) (Fin := Fin) G hr.hd hdp hSI hSc (fun s2 acc n H' ys q1 q2 q3 q4 q5 q6 => ?_) (m + 1) _ (G.gen _ (kp a go G.obj)) (lim.keeps kp) ⟨_, G.gens, rfl, ?_⟩
  · show wpAny _ A (load s'.heap.objs.size >>= _) _ _ s2
    refine wpAny_bind (wpAny_load q1 ?_)
    exact wpAny_pure (hend s2 ys acc.toList H' q4 q2 q3 q6)
  · have hrw : Room k A.in1.in1 := (hr.in1.in1).mono (Nat.le_succ _)
    obtain ⟨pg, pt, pe⟩ := pp A.in1.in1 hrw hfr
    refine G.run A.in1.in1 [(s'.heap.objs.size, lstObj #[] n0)] _ hr.hd hfr ?_ ?_ ?_ ?_ gt tt te pg pt pe _ _ _ m (turn _ hSn) ⟨#[], n0, [], rfl, .nil, w0⟩
    · intro p hp
      rw [List.mem_singleton.mp hp]
      exact ⟨Nat.le_refl _, hS5, fun v z => by cases z⟩
    · exact kp
    · rfl
    · exact allBare_setGen (s := { s' with heap := _ }) G.bare rfl
theorem tupleG {k : Nat} (G : GMk X pins σ H tg elt ifs scope own J a g genv fp sc go c s') {A : Around} {gt : TG} {tt : TT} {te : TE} {Φ : Nat → Nat → List V → Hp → Prop} {Fin : List V → Hp → Prop} {m : Nat} {Q : Value → Shared → Prop} {E : Value → Shared → Prop}
    (hr : Room (k + 5) A) (hfr : A.frames = some X.stack) (pp : Parts X k sc H genv fp a go tg elt ifs gt tt te)
    (turn : ∀ S, H S = none → TurnL J S (wipe σ (own.map (·.2))) (own.map (·.2)) gt tt te Φ Fin) (w0 : Φ 0 m [] H)
    (hend : ∀ p s2 ys H', H' p = none → Inv X pins σ (upd H' p (.tup ys)) s2 → Fin ys H' → Q (.ref p) s2) : wpAny (model X.prog X.w) A (call (.type "tuple") [.ref a]) Q E s' := by
  have hg : s'.heap.IsGen a g := G.gen _ G.obj
  have code : codeAny (model X.prog X.w) A.in1 (.call (.builtin "tuple.__new__") ⟨[.type "tuple", .ref a], []⟩) (wants (fun obj s₁ => s₁.TypeIs obj "tuple" ∧ Q obj s₁) E) s' := by
    refine codeAny_of_tree ?_
    show wpAny _ A.in1.in1 (do checkBuiltinCall "tuple.__new__" ⟨[.type "tuple", .ref a], []⟩; again (.builtin "tuple.__new__" ⟨[.type "tuple", .ref a], []⟩)) _ _ s'
    refine wpAny_bind (wpAny_of_eq (F.newCall_tuple_1 _) (wpAny_pure ⟨plainId_quiet F.plain_tuple_new _, codeAny_builtin F.entry_tuple_new ?_⟩))
    rw [Around.under_plainId F.plain_tuple_new _]
    have hsub := sub_tuple_self
    have hinit := init_tuple_lookup
    have hmh := madeHere_tuple
    have hTI : s'.TypeIs (.ref a) "generator" := hg.typeIs
    wp_walk using wpAny_typeOf hTI, collectG (A := A.in1.in1) G (hr.in1.in1) hfr pp turn w0
    intro s2 ys acc H' I2 rys hl fin
    have hlen : acc.length ≤ sizeLine := by rw [← rys.length]; exact hl
    show wpAny _ _ (Builtin.Tuple.tupleExact acc.toArray >>= fun v => ret v) _ _ _
    unfold Builtin.Tuple.tupleExact
    refine wpAny_bind (wpAny_newObj_type ?_ (by show acc.toArray.size ≤ sizeLine; rw [List.size_toArray]; exact hlen))
    refine wpAny_pure ?_
    refine ⟨⟨_, Heap.get?_push_size _ rfl, rfl⟩, hend s2.heap.objs.size _ ys H' (I2.hok.fresh (Nat.le_refl _)) (I2.laid (t' := s2.toks) (fun b o e => Heap.get?_push_of_some _ e) (Nat.le_refl _) ⟨hl, acc, rys, ?_⟩) fin⟩
    exact IsTup.new _ _
  refine callType_codes (Q₁ := fun obj s₁ => s₁.TypeIs obj "tuple" ∧ Q obj s₁) F.called_tuple (F.typeCall_tuple_1 _) F.entry_object_init code fun obj s₁ h₁ => ?_
  exact ⟨h₁.1, F.args_object_init_2 obj _, object_init_meets F.called_tuple.init.lookup F.called_tuple.made (by decide) X.prog X.w A.in1 _ s₁ ⟨h₁.1, rfl, h₁.2⟩⟩
end
end DL

set_option Elab.async false
set_option linter.all false
set_option maxRecDepth 100000
set_option maxHeartbeats 4000000
/-! DL17: tuple(.. for ..). -/
namespace DL
open PySem PySem.Spec PyProof.Rows L2 RZ GenW

section
variable {K : PySem.W.Frag} {tb : List Addr} {Z : Addr → Prop} {S : Sto} {H1 H2 : Hp} {P : Addr}
/-- a table has grown -/
theorem tabbed_ne (t : GxR.Tabbed P H1 H2) (h : GxR.TabG H1 P) {a : Addr} {o : HO} (e : H1 a = some o) (n : ∀ ps, o ≠ .tbl ps) : H2 a = H1 a := t.2 a fun z => by
  obtain ⟨ps, hP, _⟩ := h
  rw [z, hP] at e
  exact n _ (Option.some.inj e).symm
theorem tabbed_ext (t : GxR.Tabbed P H1 H2) (h : GxR.TabG H1 P) : Ext S H1 S H2 := ⟨fun a o e n nt => by
  refine ⟨?_, n⟩
  rw [t.2 a fun z => ?_]
  · exact e
  · obtain ⟨ps, hP, _⟩ := h
    rw [z, hP] at e
    cases e
    exact nt _ rfl, fun a l => let ⟨vs, e⟩ := l; ⟨vs, by rw [tabbed_ne t h e fun _ z => by cases z]; exact e⟩, fun a l => let ⟨w, ts, e⟩ := l; ⟨w, ts, by rw [tabbed_ne t h e fun _ z => by cases z]; exact e⟩⟩
theorem tabbed_srep (t : GxR.Tabbed P H1 H2) (h : GxR.TabG H1 P) (s : SRep K Z S H1) : SRep K Z S H2 := by
  obtain ⟨ps, hP, _⟩ := id h
  have ne : ∀ a vs, H1 a = some (.lst vs) → a ≠ P := fun a vs e z => by rw [z, hP] at e; cases e
  have bk : ∀ a xs, S a = some xs → H2 a = H1 a := fun a xs e => by
    rcases s.some_at e with ⟨vs, e1⟩ | ⟨w, ts, e1⟩ <;> exact tabbed_ne t h e1 fun _ z => by cases z
  refine ⟨fun a xs e l => ?_, fun a z => ?_, fun a xs e l => ?_⟩
  · obtain ⟨us, eu⟩ := l
    rw [bk a xs e] at eu
    obtain ⟨vs, e1, r⟩ := s.at_ a xs e ⟨us, eu⟩
    exact ⟨vs, by rw [t.2 a (ne a vs e1)]; exact e1, r.ext s (tabbed_ext t h)⟩
  · obtain ⟨⟨o, e⟩, n⟩ := s.hid a z
    exact ⟨⟨o, by rw [t.2 a (ne a o e)]; exact e⟩, n⟩
  · obtain ⟨vs, ⟨w, ts, e1, rr⟩, r⟩ := s.dt a xs e fun l' => l (by obtain ⟨us, eu⟩ := l'; exact ⟨us, by rw [bk a xs e]; exact eu⟩)
    exact ⟨vs, ⟨w, ts, by rw [bk a xs e]; exact e1, rr⟩, r.ext s (tabbed_ext t h)⟩
theorem tabbed_tabs (t : GxR.Tabbed P H1 H2) (ts : Tabs tb H1) : Tabs tb H2 := fun P' hP => by
  by_cases e : P' = P
  · rw [e]; exact t.1
  · obtain ⟨ps, h1, h2⟩ := ts P' hP
    exact ⟨ps, by rw [t.2 P' e]; exact h1, h2⟩
end
section
variable {X : Cx} {tb : List Addr} {X' : Mod'} {G : Fns} {elt tg iter : Expr} {ifs : List Expr} {scope : Scope} {own : List (Str × Nat)} {t : TT'} {me mi mc : M} {p pos gpos : Pos}
/-- tuple(elt for tg in iter if ..) -/
theorem de_gtup {k : Nat} {cA P : Addr} (hr : Room (k + 5) X.A) (TB : GxR.TabB X.base X.mg cA P) (hP : P ∈ tb) (hcode : X.env.code = .ref cA) (ok : GenOk X.N X.env.scope scope own) (hN : X.N.Nodup) (hc : X.calm = true) (hi : DI X tb X' G tg iter mi)
    (hs : ∀ v, genFold iter X.env v = pure v) (hsl : ∀ i ∈ slots t, i ∈ own.map (·.2)) (hg : Gl X "tuple") (hm : X.mg "tuple" = none)
    (pp : ∀ (Aw : Around) (sc : Shared) (H : Hp) (C : Addr) (code : Value) (fp : List Addr) (pn : List (Addr × Obj)), Room k Aw → Aw.frames = some X.stack →
      DG (gblk X (Aw.deeper (genEnv scope (cloFrom X.env.cells scope.names []) C code builtinsNs X.env)) sc H (genEnv scope (cloFrom X.env.cells scope.names []) C code builtinsNs X.env) fp pn) tg t ∧
      PTs (gblk X (Aw.deeper (genEnv scope (cloFrom X.env.cells scope.names []) C code builtinsNs X.env)) sc H (genEnv scope (cloFrom X.env.cells scope.names []) C code builtinsNs X.env) fp pn) ifs (tDT X.K tb (wT X' G mc)) ∧
      DE (gblk X (Aw.deeper (genEnv scope (cloFrom X.env.cells scope.names []) C code builtinsNs X.env)) sc H (genEnv scope (cloFrom X.env.cells scope.names []) C code builtinsNs X.env) fp pn) tb X' G elt me)
    (he : starEach [.GeneratorExp elt [⟨tg, iter, ifs, 0⟩] scope gpos] X.env = (false, eval (.GeneratorExp elt [⟨tg, iter, ifs, 0⟩] scope gpos) X.env) :: starEach [] X.env := by rfl) :
    DE X tb X' G (.Call (.Name "tuple" p) [.GeneratorExp elt [⟨tg, iter, ifs, 0⟩] scope gpos] [] pos) (.bi .tuple (.cons (.lc false (own.map (·.2)) t me mi mc) .nil)) := by
  refine ⟨fun pins s σ H Qv I ⟨Z, ρ, S, Q, m, w, kk⟩ => ?_⟩
  refine wpAny_Call_Name_kw (ld_blt I hg hm (boot_bi .tuple) ?_ (by decide +kernel) (by decide +kernel))
  refine PyProof.Rows.callWith_type1 ?_ he rfl
  rw [he]
  show wpAny _ _ (spliced ((false, eval (.GeneratorExp elt [⟨tg, iter, ifs, 0⟩] scope gpos) X.env) :: backTo pos (starEach [] X.env))) _ _ s
  have w : wI X' G mi ρ S fun xs stay S1 => compL (fun d k => bindT t d (wipeD ρ (own.map (·.2))) k) (fun ρ' S' k => wT X' G mc ρ' S' k) (fun ρ' S' k => wE X' G me ρ' S' k) stay (fun acc S' => Q (.tup acc) S') xs [] S1 := w
  refine Calls.spliced_cons (gen_make (own := own) (R := fun J H1 => ∃ xs stay S1, Ext S H S1 H1 ∧ SRep X.K Z S1 H1 ∧ Tabs tb H1 ∧ ItOk X.K tb Z S1 H1 J xs stay ∧
      compL (fun d k => bindT t d (wipeD ρ (own.map (·.2))) k) (fun ρ' S' k => wT X' G mc ρ' S' k) (fun ρ' S' k => wE X' G me ρ' S' k) stay (fun acc S' => Q (.tup acc) S') xs [] S1) (hr.mono (Nat.le_add_right _ _)) TB hcode ok hN hc hi hs I
    ⟨Z, ρ, S, _, m, w, fun xs stay S1 J H1 x1 s1 t1 it1 w1 => ⟨t1 P hP, xs, stay, S1, x1, s1, t1, it1, w1⟩⟩ fun J H1 H2 a g genv fp sc go c s' hR hT GM => ?_)
  obtain ⟨xs, stay, S1, x1, s1, t1, it1, w1⟩ := hR
  have tg1 := t1 P hP
  have x2 : Ext S1 H1 S1 H2 := tabbed_ext hT tg1
  have s2 := tabbed_srep hT tg1 s1
  have t2 := tabbed_tabs hT t1
  have m1 := m.go (x1.trans x2) s2 t2
  refine Calls.spliced_nil ?_
  obtain ⟨C, code, rfl⟩ := GM.env
  refine tupleG (k := k) (gt := gOf X.K t) (tt := tDT X.K tb (wT X' G mc)) (te := tD X.K tb (wE X' G me)) (m := xs.length)
    (Φ := fun i n ys H' => n = xs.length - i ∧ i ≤ xs.length ∧ ∃ (S' : Sto) (acc : List D), acc.length ≤ LIM ∧ Ext S1 H2 S' H' ∧ SRep X.K Z S' H' ∧ Tabs tb H' ∧ RepL X.K Z S' H' acc ys ∧ EnvR X.K Z S' H' (wipeD ρ (own.map (·.2))) (wipe σ (own.map (·.2))) ∧
      compL (fun d k => bindT t d (wipeD ρ (own.map (·.2))) k) (fun ρ' S' k => wT X' G mc ρ' S' k) (fun ρ' S' k => wE X' G me ρ' S' k) stay (fun acc S' => Q (.tup acc) S') (xs.drop i) acc S')
    (Fin := fun ys H' => ∃ (S' : Sto) (acc : List D), Ext S1 H2 S' H' ∧ SRep X.K Z S' H' ∧ Tabs tb H' ∧ RepL X.K Z S' H' acc ys ∧ Q (.tup acc) S') GM hr I.ok.frames (fun Aw hw hf => pp Aw sc H2 C code fp [(a, go)] hw hf) ?_ ?_ ?_
  · rintro L hL i n cp H' ⟨acc0, n0, ys, rfl, rys, rfl, hi', S', acc, hle, x', s', t', r', e', w'⟩
    have st' : stay S' := by
      cases h : xs.drop i with
      | nil => rw [h] at w'; exact w'.1
      | cons _ _ => rw [h] at w'; exact w'.1
    have ok' := it1 Z (fun _ z => .inl z) i S' H' (x2.trans x') s' t' st'
    by_cases hlt : i < xs.length
    · obtain ⟨d, hd, hdrop⟩ := getElem?_range' hlt
      rw [hdrop] at w'
      obtain ⟨_, hlen, w'⟩ := w'
      obtain ⟨hgo, hyld⟩ := ok'.1 d hd
      refine .inr ⟨hgo, fun H5 => ∃ (S5 : Sto), Ext S1 H2 S5 H5 ∧ SRep X.K Z S5 H5 ∧ Tabs tb H5 ∧ RepL X.K Z S5 H5 acc ys ∧ EnvR X.K Z S5 H5 (wipeD ρ (own.map (·.2))) (wipe σ (own.map (·.2))) ∧
        compL (fun d k => bindT t d (wipeD ρ (own.map (·.2))) k) (fun ρ' S' k => wT X' G mc ρ' S' k) (fun ρ' S' k => wE X' G me ρ' S' k) stay (fun acc S' => Q (.tup acc) S') (xs.drop (i + 1)) acc S5,
        fun H5 ⟨S5, y1, y2, y3, y4, y5, y6⟩ => ⟨xs.length - (i + 1), by omega, acc0, n0, ys, rfl, rys, rfl, hlt, S5, acc, hle, y1, y2, y3, y4, y5, y6⟩, fun x H3 hy => ?_⟩
      obtain ⟨x3, s3, t3, r3⟩ := hyld x H3 hy
      refine gOf_sem (e'.ext s' x3) r3 w' fun ρ3 σ3 e3 o3 w3 => ⟨(o3 _ hsl).trans (wipe_wipe σ _ _ fun _ h => h), ?_⟩
      refine ⟨Z, ρ3, S', _, ⟨e3, s3, t3⟩, w3, fun b S4 H4 x4 s4 t4 w4 => ?_⟩
      cases b with
      | false => exact ⟨S4, (x'.trans x3).trans x4, s4, t4, (r'.ext s' x3).ext s3 x4, (e'.ext s' x3).ext s3 x4, w4⟩
      | true =>
        refine ⟨Z, ρ3, S4, _, ⟨e3.ext s3 x4, s4, t4⟩, w4, fun d5 S5 v5 H5 x5 s5 t5 r5 w5 => ?_⟩
        refine ⟨acc0, n0, ys, xs.length - (i + 1), rfl, rys, by rw [LIM_eq, ← r'.length]; exact hlen, by omega, rfl, hlt, S5, acc ++ [d5], by rw [List.length_append]; exact hlen, ((x'.trans x3).trans x4).trans x5, s5, t5, (((r'.ext s' x3).ext s3 x4).ext s4 x5).snoc r5, ((e'.ext s' x3).ext s3 x4).ext s4 x5, w5⟩
    · have hn : xs.drop i = [] := List.drop_eq_nil_of_le (Nat.le_of_not_lt hlt)
      rw [hn] at w'
      exact .inl ⟨ok'.2 (Nat.le_of_not_lt hlt), acc0, n0, ys, rfl, rys, by rw [LIM_eq, ← r'.length]; exact hle, S', acc, x', s', t', r', w'.2⟩
  · exact ⟨rfl, Nat.zero_le _, S1, [], Nat.zero_le _, Ext.refl, s2, t2, .nil, m1.env.wipe _, w1⟩
  · rintro p s3 ys H' hp I3 ⟨S', acc, x', s', t', r', q⟩
    exact ⟨.ref p, _, I3, rfl, (kk.ext (x1.trans (x2.trans x'))).tup s' t' r' q hp⟩
end
end DL

set_option Elab.async false
set_option linter.all false
set_option maxRecDepth 100000
set_option maxHeartbeats 4000000
/-! DL18: all(.. for ..), any(.. for ..). -/
namespace DL
open PySem PySem.Spec PyProof.Rows L2 RZ GenW

section
variable {X : Cx} {pins : List (Addr × Obj)} {σ : L2.St} {H : Hp} {tg elt : Expr} {ifs : List Expr} {scope : Scope} {own : List (Str × Nat)} {J : It} {a : Addr} {g : Nat} {genv : Env} {fp : List Addr} {sc : Shared} {go : Obj} {c : Code} {s' : Shared}
/-- a bool, or a number, as truth -/
def vTv : V → Bool → Prop
  | .bl b, c => c = b
  | .int i, c => c = (i != 0)
  | _, _ => False
theorem truthy_tv {A : Around} {y : V} {v : Value} {b : Bool} {s : Shared} {Q : Bool → Shared → Prop} {E : Value → Shared → Prop} (r : RelV y v) (t : vTv y b) (h : Q b s) : wpAny (model X.prog X.w) A (truthy v) Q E s := by
  cases y <;> try exact t.elim
  · obtain rfl : v = _ := r
    obtain rfl := t
    exact wpAny_truthy_bool h
  · obtain ⟨u, rfl⟩ := r
    obtain rfl := t
    exact PySem.P.truthy_int h
def Wa (Φ : Nat → Nat → Hp → Prop) : Nat → Nat → List (Addr × Obj) → Hp → Prop := fun i m cp H => cp = [] ∧ Φ i m H
/-- y tells whether it goes on -/
def Ca (end_ : Bool) (Φ : Nat → Nat → Hp → Prop) (St : Hp → Prop) : Nat → Nat → List (Addr × Obj) → V → Hp → Prop := fun i m cp y H => cp = [] ∧ ∃ b, vTv y b ∧ if b = end_ then St H else ∃ m', m' < m ∧ Φ (i + 1) m' H
def Fa (Fin : Hp → Prop) : List (Addr × Obj) → Hp → Prop := fun cp H => cp = [] ∧ Fin H
theorem allG (G : GMk X pins σ H tg elt ifs scope own J a g genv fp sc go c s') {B A : Around} {Φ : Nat → Nat → Hp → Prop} {Fin St : Hp → Prop} {R : Result → Shared → Prop} (hh : A.handled = none) (hd : A.depth < recursionLimit)
    (hend : ∀ s2 H', Inv X pins σ H' s2 → Fin H' → R (.ok (.ret (.bool true))) s2) (hstop : ∀ s2 H', Inv X pins σ H' s2 → St H' → R (.ok (.ret (.bool false))) s2) :
    ∀ (m : Nat) (s : Shared), s.heap.IsGen a g → s.heap.NoLimit →
      (∃ gs, s.gens[g]? = some gs ∧ gs.Goes (model X.prog X.w) A.in1.in1 (GRk (gblk X B sc H genv fp [(a, go)]) [] (wipe σ (own.map (·.2))) (Fa Fin)) (GYk (gblk X B sc H genv fp [(a, go)]) fp [] (wipe σ (own.map (·.2))) (Wa Φ) (Ca false Φ St)) m (.send .none) (s.setGen g .running)) →
      codeAny (model X.prog X.w) A (.builtin "all.loop" ⟨[.ref a], []⟩) R s := by
  have ends : ∀ {s₀ s₁ : Shared} {m : Nat} {h' : Heap}, GFk (gblk X B sc H genv fp [(a, go)]) [] (wipe σ (own.map (·.2))) (Fa Fin) m s₀ s₁ → (∀ b o, s₁.heap.get? b = some o → h'.get? b = some o) → R (.ok (.ret (.bool true))) { s₁.setGen g .finished with heap := h' } := fun {s₀ s₁ m h'} hp hk => by
    obtain ⟨H2, cp, I2, hca, hs0, rfl, fin⟩ := hp
    have I3 := G.leave I2
    refine hend _ H2 ?_ fin
    exact I3.call' (ch := []) rfl (Un.kept hk) (I3.hok.kept hk) (allBare_setGen I3.bare rfl) fun b z => by simp at z
  have stops : ∀ {s₁ : Shared} {H2 : Hp} {gs' : GenState}, Inv (gblk X B sc H genv fp [(a, go)]) [] (wipe σ (own.map (·.2))) H2 s₁ → gs'.bare = true → St H2 → R (.ok (.ret (.bool false))) (s₁.setGen g gs') := fun {s₁ H2 gs'} I2 hb q => by
    have I3 := G.leave I2
    refine hstop _ H2 ?_ q
    exact I3.call' (ch := []) rfl (Un.kept fun b o e => e) (I3.hok.kept fun b o e => e) (allBare_setGen I3.bare hb) fun b z => by simp at z
  intro m
  induction m with
  | zero =>
    intro s hg hl ⟨gs, hgs, hgo⟩
    refine codeAny_builtin F.entry_all_loop ?_
    rw [Around.under_plainId F.plain_all_loop _]
    show wpAny _ A.in1 (pyNext (.ref a) >>= _) _ _ s
    refine wpAny_bind (next_genG (A := A.in1) hh hl hd hg hgs hgo (fun v s₁ gs' hbare hv => ?_) (fun s₁ hp h' hk => ?_) fun e s₁ he => he.elim)
    · obtain ⟨i, mm, y, H2, cp, r, I2, hca, hs0, ⟨rfl, b, tv, ph⟩, hk⟩ := hv
      refine wpAny_bind (wpAny_holding (truthy_tv (X := X) r tv ?_))
      refine wpAny_bind (wpAny_letGo ?_)
      cases b with
      | true =>
        simp only [Bool.true_eq_false, if_false] at ph
        obtain ⟨m', hm', ph⟩ := ph
        have sl : Sleep [] [] s₁ s₁ := ⟨rfl, I2.bare, rfl, fun b o _ e => e, fun p hp => by simp at hp⟩
        exact False.elim (hk _ _ m' sl hm' ⟨rfl, ph⟩)
      | false =>
        simp only [if_true] at ph
        simp only [Bool.false_eq_true, if_false]
        exact wpAny_bind (wpAny_rule (wpAny_pure (stops I2 hbare ph)))
    · exact wpAny_bind (wpAny_rule (wpAny_pure (ends hp hk)))
  | succ m ih =>
    intro s hg hl ⟨gs, hgs, hgo⟩
    have hgl : g < s.gens.size := (Array.getElem?_eq_some_iff.mp hgs).1
    refine codeAny_builtin F.entry_all_loop ?_
    rw [Around.under_plainId F.plain_all_loop _]
    show wpAny _ A.in1 (pyNext (.ref a) >>= _) _ _ s
    refine wpAny_bind (wpAny_gsz (n := g + 1) hgl (next_genG (A := A.in1) hh hl hd hg hgs hgo (fun v s₁ gs' hbare hv => ?_) (fun s₁ hp h' hk => ?_) fun e s₁ he => he.elim))
    · intro hsz
      obtain ⟨i, mm, y, H2, cp, r, I2, hca, hs0, ⟨rfl, b, tv, ph⟩, hk⟩ := hv
      refine wpAny_bind (wpAny_holding (truthy_tv (X := X) r tv ?_))
      refine wpAny_bind (wpAny_letGo ?_)
      cases b with
      | true =>
        simp only [Bool.true_eq_false, if_false] at ph
        obtain ⟨m', hm', ph⟩ := ph
        have hsz1 : g < s₁.gens.size := by
          have q : (s₁.setGen g gs').gens.size = s₁.gens.size := setGen_size _ _ _
          have hsz' : g + 1 ≤ (s₁.setGen g gs').gens.size := hsz
          omega
        have hA := (I2.pin (a, go) (List.mem_append_left _ List.mem_cons_self)).1
        have sl : Sleep [] [] s₁ ((s₁.setGen g gs').setGen g .running) := ⟨rfl, allBare_setGen (allBare_setGen I2.bare hbare) rfl, rfl, fun b o _ e => e, fun p hp => by simp at hp⟩
        simp only [if_true]
        exact wpAny_pure ⟨plainId_quiet F.plain_all_loop _, ih (s₁.setGen g gs') (G.gen _ hA) I2.nolimit ⟨gs', setGen_at hsz1, hk _ _ m' sl hm' ⟨rfl, ph⟩⟩⟩
      | false =>
        simp only [if_true] at ph
        simp only [Bool.false_eq_true, if_false]
        exact wpAny_bind (wpAny_rule (wpAny_pure (stops I2 hbare ph)))
    · intro hsz
      exact wpAny_bind (wpAny_rule (wpAny_pure (ends hp hk)))
theorem anyG (G : GMk X pins σ H tg elt ifs scope own J a g genv fp sc go c s') {B A : Around} {Φ : Nat → Nat → Hp → Prop} {Fin St : Hp → Prop} {R : Result → Shared → Prop} (hh : A.handled = none) (hd : A.depth < recursionLimit)
    (hend : ∀ s2 H', Inv X pins σ H' s2 → Fin H' → R (.ok (.ret (.bool false))) s2) (hstop : ∀ s2 H', Inv X pins σ H' s2 → St H' → R (.ok (.ret (.bool true))) s2) :
    ∀ (m : Nat) (s : Shared), s.heap.IsGen a g → s.heap.NoLimit →
      (∃ gs, s.gens[g]? = some gs ∧ gs.Goes (model X.prog X.w) A.in1.in1 (GRk (gblk X B sc H genv fp [(a, go)]) [] (wipe σ (own.map (·.2))) (Fa Fin)) (GYk (gblk X B sc H genv fp [(a, go)]) fp [] (wipe σ (own.map (·.2))) (Wa Φ) (Ca true Φ St)) m (.send .none) (s.setGen g .running)) →
      codeAny (model X.prog X.w) A (.builtin "any.loop" ⟨[.ref a], []⟩) R s := by
  have ends : ∀ {s₀ s₁ : Shared} {m : Nat} {h' : Heap}, GFk (gblk X B sc H genv fp [(a, go)]) [] (wipe σ (own.map (·.2))) (Fa Fin) m s₀ s₁ → (∀ b o, s₁.heap.get? b = some o → h'.get? b = some o) → R (.ok (.ret (.bool false))) { s₁.setGen g .finished with heap := h' } := fun {s₀ s₁ m h'} hp hk => by
    obtain ⟨H2, cp, I2, hca, hs0, rfl, fin⟩ := hp
    have I3 := G.leave I2
    refine hend _ H2 ?_ fin
    exact I3.call' (ch := []) rfl (Un.kept hk) (I3.hok.kept hk) (allBare_setGen I3.bare rfl) fun b z => by simp at z
  have stops : ∀ {s₁ : Shared} {H2 : Hp} {gs' : GenState}, Inv (gblk X B sc H genv fp [(a, go)]) [] (wipe σ (own.map (·.2))) H2 s₁ → gs'.bare = true → St H2 → R (.ok (.ret (.bool true))) (s₁.setGen g gs') := fun {s₁ H2 gs'} I2 hb q => by
    have I3 := G.leave I2
    refine hstop _ H2 ?_ q
    exact I3.call' (ch := []) rfl (Un.kept fun b o e => e) (I3.hok.kept fun b o e => e) (allBare_setGen I3.bare hb) fun b z => by simp at z
  intro m
  induction m with
  | zero =>
    intro s hg hl ⟨gs, hgs, hgo⟩
    refine codeAny_builtin F.entry_any_loop ?_
    rw [Around.under_plainId F.plain_any_loop _]
    show wpAny _ A.in1 (pyNext (.ref a) >>= _) _ _ s
    refine wpAny_bind (next_genG (A := A.in1) hh hl hd hg hgs hgo (fun v s₁ gs' hbare hv => ?_) (fun s₁ hp h' hk => ?_) fun e s₁ he => he.elim)
    · obtain ⟨i, mm, y, H2, cp, r, I2, hca, hs0, ⟨rfl, b, tv, ph⟩, hk⟩ := hv
      refine wpAny_bind (wpAny_holding (truthy_tv (X := X) r tv ?_))
      refine wpAny_bind (wpAny_letGo ?_)
      cases b with
      | false =>
        simp only [Bool.false_eq_true, if_false] at ph
        obtain ⟨m', hm', ph⟩ := ph
        have sl : Sleep [] [] s₁ s₁ := ⟨rfl, I2.bare, rfl, fun b o _ e => e, fun p hp => by simp at hp⟩
        exact False.elim (hk _ _ m' sl hm' ⟨rfl, ph⟩)
      | true =>
        simp only [if_true] at ph
        simp only [if_true]
        exact wpAny_bind (wpAny_rule (wpAny_pure (stops I2 hbare ph)))
    · exact wpAny_bind (wpAny_rule (wpAny_pure (ends hp hk)))
  | succ m ih =>
    intro s hg hl ⟨gs, hgs, hgo⟩
    have hgl : g < s.gens.size := (Array.getElem?_eq_some_iff.mp hgs).1
    refine codeAny_builtin F.entry_any_loop ?_
    rw [Around.under_plainId F.plain_any_loop _]
    show wpAny _ A.in1 (pyNext (.ref a) >>= _) _ _ s
    refine wpAny_bind (wpAny_gsz (n := g + 1) hgl (next_genG (A := A.in1) hh hl hd hg hgs hgo (fun v s₁ gs' hbare hv => ?_) (fun s₁ hp h' hk => ?_) fun e s₁ he => he.elim))
    · intro hsz
      obtain ⟨i, mm, y, H2, cp, r, I2, hca, hs0, ⟨rfl, b, tv, ph⟩, hk⟩ := hv
      refine wpAny_bind (wpAny_holding (truthy_tv (X := X) r tv ?_))
      refine wpAny_bind (wpAny_letGo ?_)
      cases b with
      | false =>
        simp only [Bool.false_eq_true, if_false] at ph
        obtain ⟨m', hm', ph⟩ := ph
        have hsz1 : g < s₁.gens.size := by
          have q : (s₁.setGen g gs').gens.size = s₁.gens.size := setGen_size _ _ _
          have hsz' : g + 1 ≤ (s₁.setGen g gs').gens.size := hsz
          omega
        have hA := (I2.pin (a, go) (List.mem_append_left _ List.mem_cons_self)).1
        have sl : Sleep [] [] s₁ ((s₁.setGen g gs').setGen g .running) := ⟨rfl, allBare_setGen (allBare_setGen I2.bare hbare) rfl, rfl, fun b o _ e => e, fun p hp => by simp at hp⟩
        simp only [Bool.false_eq_true, if_false]
        exact wpAny_pure ⟨plainId_quiet F.plain_any_loop _, ih (s₁.setGen g gs') (G.gen _ hA) I2.nolimit ⟨gs', setGen_at hsz1, hk _ _ m' sl hm' ⟨rfl, ph⟩⟩⟩
      | true =>
        simp only [if_true] at ph
        simp only [if_true]
        exact wpAny_bind (wpAny_rule (wpAny_pure (stops I2 hbare ph)))
    · intro hsz
      exact wpAny_bind (wpAny_rule (wpAny_pure (ends hp hk)))
def TurnA (end_ : Bool) (J : It) (σw : L2.St) (vs : List Nat) (gt : TG) (tt : TT) (te : TE) (Φ : Nat → Nat → Hp → Prop) (Fin St : Hp → Prop) : Prop :=
  ∀ i m cp H, Wa Φ i m cp H → (J.stop i H ∧ Fa Fin cp H) ∨ (J.go i H ∧ ∃ Nx : Hp → Prop, (∀ H', Nx H' → ∃ m', m' < m ∧ Wa Φ (i + 1) m' cp H') ∧ ∀ x H', J.yld i H x H' → gt x σw H' fun σ2 H2 => wipe σ2 vs = σw ∧ tt σ2 H2 fun b H3 =>
    if b = true then te σ2 H3 fun y H4 => Ca end_ Φ St i m cp y H4 else Nx H3)
theorem allC {k : Nat} (G : GMk X pins σ H tg elt ifs scope own J a g genv fp sc go c s') {A : Around} {gt : TG} {tt : TT} {te : TE} {Φ : Nat → Nat → Hp → Prop} {Fin St : Hp → Prop} {m : Nat} {Q : Value → Shared → Prop} {E : Value → Shared → Prop}
    (hr : Room (k + 3) A) (hfr : A.frames = some X.stack) (pp : Parts X k sc H genv fp a go tg elt ifs gt tt te)
    (turn : TurnA false J (wipe σ (own.map (·.2))) (own.map (·.2)) gt tt te Φ Fin St) (w0 : Φ 0 m H)
    (hend : ∀ s2 H', Inv X pins σ H' s2 → Fin H' → Q (.bool true) s2) (hstop : ∀ s2 H', Inv X pins σ H' s2 → St H' → Q (.bool false) s2) : wpAny (model X.prog X.w) A (call (.builtin "all") [.ref a]) Q E s' := by
  have hdp : A.depth < recursionLimit := by have := hr.dp; omega
  refine call_function_tree F.kind_all F.plain_all F.entry_all (F.args_all1 _) ?_
  unfold Builtin.«all»
  refine wpAny_bind (m := oneArg "all" _) (wpAny_pure ?_)
  have gen1 : s'.heap.IsGen a g := G.gen _ G.obj
  refine wpAny_bind (wpAny_pyIter_gen gen1 ?_)
  refine wpAny_pure ⟨plainId_quiet F.plain_all_loop _, ?_⟩
  refine allG (A := A) (B := A.in1.in1.deeper genv) (Φ := Φ) (Fin := Fin) (St := St) G hr.hd hdp (fun s2 H' I f => ?_) (fun s2 H' I f => ?_) (m + 1) _ gen1 (G.inv.nolimit.keeps G.kept) ⟨_, G.gens, rfl, ?_⟩
  · exact hend s2 H' I f
  · exact hstop s2 H' I f
  · have hrw : Room k A.in1.in1 := (hr.in1.in1).mono (Nat.le_succ _)
    obtain ⟨pg, pt, pe⟩ := pp A.in1.in1 hrw hfr
    exact G.run A.in1.in1 [] (s'.setGen g .running) hr.hd hfr (fun p hp => by simp at hp) (fun b o e => e) rfl (allBare_setGen G.bare rfl) gt tt te pg pt pe _ _ _ m turn ⟨rfl, w0⟩
theorem anyC {k : Nat} (G : GMk X pins σ H tg elt ifs scope own J a g genv fp sc go c s') {A : Around} {gt : TG} {tt : TT} {te : TE} {Φ : Nat → Nat → Hp → Prop} {Fin St : Hp → Prop} {m : Nat} {Q : Value → Shared → Prop} {E : Value → Shared → Prop}
    (hr : Room (k + 3) A) (hfr : A.frames = some X.stack) (pp : Parts X k sc H genv fp a go tg elt ifs gt tt te)
    (turn : TurnA true J (wipe σ (own.map (·.2))) (own.map (·.2)) gt tt te Φ Fin St) (w0 : Φ 0 m H)
    (hend : ∀ s2 H', Inv X pins σ H' s2 → Fin H' → Q (.bool false) s2) (hstop : ∀ s2 H', Inv X pins σ H' s2 → St H' → Q (.bool true) s2) : wpAny (model X.prog X.w) A (call (.builtin "any") [.ref a]) Q E s' := by
  have hdp : A.depth < recursionLimit := by have := hr.dp; omega
  refine call_function_tree F.kind_any F.plain_any F.entry_any (F.args_any1 _) ?_
  unfold Builtin.«any»
  refine wpAny_bind (m := oneArg "any" _) (wpAny_pure ?_)
  have gen1 : s'.heap.IsGen a g := G.gen _ G.obj
  refine wpAny_bind (wpAny_pyIter_gen gen1 ?_)
  refine wpAny_pure ⟨plainId_quiet F.plain_any_loop _, ?_⟩
  refine anyG (A := A) (B := A.in1.in1.deeper genv) (Φ := Φ) (Fin := Fin) (St := St) G hr.hd hdp (fun s2 H' I f => ?_) (fun s2 H' I f => ?_) (m + 1) _ gen1 (G.inv.nolimit.keeps G.kept) ⟨_, G.gens, rfl, ?_⟩
  · exact hend s2 H' I f
  · exact hstop s2 H' I f
  · have hrw : Room k A.in1.in1 := (hr.in1.in1).mono (Nat.le_succ _)
    obtain ⟨pg, pt, pe⟩ := pp A.in1.in1 hrw hfr
    exact G.run A.in1.in1 [] (s'.setGen g .running) hr.hd hfr (fun p hp => by simp at hp) (fun b o e => e) rfl (allBare_setGen G.bare rfl) gt tt te pg pt pe _ _ _ m turn ⟨rfl, w0⟩
end
end DL

set_option Elab.async false
set_option linter.all false
set_option maxRecDepth 100000
set_option maxHeartbeats 4000000
/-! DL19: all(.. for ..), any(.. for ..), over data. -/
namespace DL
open PySem PySem.Spec PyProof.Rows L2 RZ GenW
section
variable {X : Cx} {tb : List Addr} {X' : Mod'} {G : Fns} {elt tg iter : Expr} {ifs : List Expr} {scope : Scope} {own : List (Str × Nat)} {t : TT'} {me mi mc : M} {p pos gpos : Pos}
theorem boot_all' : bootBuiltins "all" = some (.builtin "all") := by decide +kernel
theorem boot_any' : bootBuiltins "any" = some (.builtin "any") := by decide +kernel
theorem vTv_of {Z : Addr → Prop} {S : Sto} {H : Hp} {d : D} {v : V} {c : Bool} (r : Rep X.K Z S H d v) (t : dTv d c) : vTv v c := by
  cases r <;> try exact t.elim
  · exact t
  · exact t.trans (by simp [bne, Bool.beq_eq_decide_eq])
/-- all(elt for tg in iter if ..) -/
theorem de_gall {k : Nat} {cA P : Addr} (hr : Room (k + 5) X.A) (TB : GxR.TabB X.base X.mg cA P) (hP : P ∈ tb) (hcode : X.env.code = .ref cA) (ok : GenOk X.N X.env.scope scope own) (hN : X.N.Nodup) (hc : X.calm = true) (hi : DI X tb X' G tg iter mi)
    (hs : ∀ v, genFold iter X.env v = pure v) (hsl : ∀ i ∈ slots t, i ∈ own.map (·.2)) (hg : Gl X "all") (hm : X.mg "all" = none)
    (pp : ∀ (Aw : Around) (sc : Shared) (H : Hp) (C : Addr) (code : Value) (fp : List Addr) (pn : List (Addr × Obj)), Room k Aw → Aw.frames = some X.stack →
      DG (gblk X (Aw.deeper (genEnv scope (cloFrom X.env.cells scope.names []) C code builtinsNs X.env)) sc H (genEnv scope (cloFrom X.env.cells scope.names []) C code builtinsNs X.env) fp pn) tg t ∧
      PTs (gblk X (Aw.deeper (genEnv scope (cloFrom X.env.cells scope.names []) C code builtinsNs X.env)) sc H (genEnv scope (cloFrom X.env.cells scope.names []) C code builtinsNs X.env) fp pn) ifs (tDT X.K tb (wT X' G mc)) ∧
      DE (gblk X (Aw.deeper (genEnv scope (cloFrom X.env.cells scope.names []) C code builtinsNs X.env)) sc H (genEnv scope (cloFrom X.env.cells scope.names []) C code builtinsNs X.env) fp pn) tb X' G elt me)
    (he : starEach [.GeneratorExp elt [⟨tg, iter, ifs, 0⟩] scope gpos] X.env = (false, eval (.GeneratorExp elt [⟨tg, iter, ifs, 0⟩] scope gpos) X.env) :: starEach [] X.env := by rfl) :
    DE X tb X' G (.Call (.Name "all" p) [.GeneratorExp elt [⟨tg, iter, ifs, 0⟩] scope gpos] [] pos) (.gall false (own.map (·.2)) t me mi mc) := by
  refine ⟨fun pins s σ H Qv I ⟨Z, ρ, S, Q, m, w, kk⟩ => ?_⟩
  refine wpAny_Call_Name_kw (ld_blt I hg hm boot_all' ?_ (by decide +kernel) (by decide +kernel))
  refine PyProof.Rows.callWith_builtin1 ?_ he rfl
  rw [he]
  show wpAny _ _ (spliced ((false, eval (.GeneratorExp elt [⟨tg, iter, ifs, 0⟩] scope gpos) X.env) :: backTo pos (starEach [] X.env))) _ _ s
  have w : wI X' G mi ρ S fun xs stay S1 => allL false (fun d k => bindT t d (wipeD ρ (own.map (·.2))) k) (fun ρ' S' k => wT X' G mc ρ' S' k) (fun ρ' S' k => wE X' G me ρ' S' k) stay (fun b S' => Q (.bl b) S') xs S1 := w
  refine Calls.spliced_cons (gen_make (own := own) (R := fun J H1 => ∃ xs stay S1, Ext S H S1 H1 ∧ SRep X.K Z S1 H1 ∧ Tabs tb H1 ∧ ItOk X.K tb Z S1 H1 J xs stay ∧
      allL false (fun d k => bindT t d (wipeD ρ (own.map (·.2))) k) (fun ρ' S' k => wT X' G mc ρ' S' k) (fun ρ' S' k => wE X' G me ρ' S' k) stay (fun b S' => Q (.bl b) S') xs S1) (hr.mono (Nat.le_add_right _ _)) TB hcode ok hN hc hi hs I
    ⟨Z, ρ, S, _, m, w, fun xs stay S1 J H1 x1 s1 t1 it1 w1 => ⟨t1 P hP, xs, stay, S1, x1, s1, t1, it1, w1⟩⟩ fun J H1 H2 a g genv fp sc go c s' hR hT GM => ?_)
  obtain ⟨xs, stay, S1, x1, s1, t1, it1, w1⟩ := hR
  have tg1 := t1 P hP
  have x2 : Ext S1 H1 S1 H2 := tabbed_ext hT tg1
  have s2 := tabbed_srep hT tg1 s1
  have t2 := tabbed_tabs hT t1
  have m1 := m.go (x1.trans x2) s2 t2
  refine Calls.spliced_nil ?_
  obtain ⟨C, code, rfl⟩ := GM.env
  refine allC (k := k) (gt := gOf X.K t) (tt := tDT X.K tb (wT X' G mc)) (te := tD X.K tb (wE X' G me)) (m := xs.length)
    (Φ := fun i n H' => n = xs.length - i ∧ i ≤ xs.length ∧ ∃ (S' : Sto), Ext S1 H2 S' H' ∧ SRep X.K Z S' H' ∧ Tabs tb H' ∧ EnvR X.K Z S' H' (wipeD ρ (own.map (·.2))) (wipe σ (own.map (·.2))) ∧
      allL false (fun d k => bindT t d (wipeD ρ (own.map (·.2))) k) (fun ρ' S' k => wT X' G mc ρ' S' k) (fun ρ' S' k => wE X' G me ρ' S' k) stay (fun b S' => Q (.bl b) S') (xs.drop i) S')
    (Fin := fun H' => ∃ (S' : Sto), Ext S1 H2 S' H' ∧ SRep X.K Z S' H' ∧ Tabs tb H' ∧ Q (.bl true) S')
    (St := fun H' => ∃ (S' : Sto), Ext S1 H2 S' H' ∧ SRep X.K Z S' H' ∧ Tabs tb H' ∧ Q (.bl false) S') GM (hr.mono (by omega)) I.ok.frames (fun Aw hw hf => pp Aw sc H2 C code fp [(a, go)] hw hf) ?_ ?_ ?_ ?_
  · rintro i n cp H' ⟨rfl, rfl, hi', S', x', s', t', e', w'⟩
    have st' : stay S' := by
      cases h : xs.drop i with
      | nil => rw [h] at w'; exact w'.1
      | cons _ _ => rw [h] at w'; exact w'.1
    have ok' := it1 Z (fun _ z => .inl z) i S' H' (x2.trans x') s' t' st'
    by_cases hlt : i < xs.length
    · obtain ⟨d, hd, hdrop⟩ := getElem?_range' hlt
      rw [hdrop] at w'
      obtain ⟨_, w'⟩ := w'
      obtain ⟨hgo, hyld⟩ := ok'.1 d hd
      refine .inr ⟨hgo, fun H5 => ∃ (S5 : Sto), Ext S1 H2 S5 H5 ∧ SRep X.K Z S5 H5 ∧ Tabs tb H5 ∧ EnvR X.K Z S5 H5 (wipeD ρ (own.map (·.2))) (wipe σ (own.map (·.2))) ∧
        allL false (fun d k => bindT t d (wipeD ρ (own.map (·.2))) k) (fun ρ' S' k => wT X' G mc ρ' S' k) (fun ρ' S' k => wE X' G me ρ' S' k) stay (fun b S' => Q (.bl b) S') (xs.drop (i + 1)) S5,
        fun H5 ⟨S5, y1, y2, y3, y5, y6⟩ => ⟨xs.length - (i + 1), by omega, rfl, rfl, hlt, S5, y1, y2, y3, y5, y6⟩, fun x H3 hy => ?_⟩
      obtain ⟨x3, s3, t3, r3⟩ := hyld x H3 hy
      refine gOf_sem (e'.ext s' x3) r3 w' fun ρ3 σ3 e3 o3 w3 => ⟨(o3 _ hsl).trans (wipe_wipe σ _ _ fun _ h => h), ?_⟩
      refine ⟨Z, ρ3, S', _, ⟨e3, s3, t3⟩, w3, fun b S4 H4 x4 s4 t4 w4 => ?_⟩
      cases b with
      | false => exact ⟨S4, (x'.trans x3).trans x4, s4, t4, (e'.ext s' x3).ext s3 x4, w4⟩
      | true =>
        refine ⟨Z, ρ3, S4, _, ⟨e3.ext s3 x4, s4, t4⟩, w4, fun d5 S5 v5 H5 x5 s5 t5 r5 w5 => ?_⟩
        obtain ⟨c5, tv, w5⟩ := w5
        refine ⟨rfl, c5, vTv_of r5 tv, ?_⟩
        have x6 := ((x'.trans x3).trans x4).trans x5
        cases c5 with
        | false => exact ⟨S5, x6, s5, t5, w5⟩
        | true => exact ⟨xs.length - (i + 1), by omega, rfl, hlt, S5, x6, s5, t5, ((e'.ext s' x3).ext s3 x4).ext s4 x5, w5⟩
    · have hn : xs.drop i = [] := List.drop_eq_nil_of_le (Nat.le_of_not_lt hlt)
      rw [hn] at w'
      exact .inl ⟨ok'.2 (Nat.le_of_not_lt hlt), rfl, S', x', s', t', w'.2⟩
  · exact ⟨rfl, Nat.zero_le _, S1, Ext.refl, s2, t2, m1.env.wipe _, w1⟩
  · rintro s3 H' I3 ⟨S', x', s', t', q⟩
    exact ⟨.bl true, H', I3, rfl, kk _ S' _ H' (x1.trans (x2.trans x')) s' t' (.bl true) q⟩
  · rintro s3 H' I3 ⟨S', x', s', t', q⟩
    exact ⟨.bl false, H', I3, rfl, kk _ S' _ H' (x1.trans (x2.trans x')) s' t' (.bl false) q⟩
/-- any(elt for tg in iter if ..) -/
theorem de_gany {k : Nat} {cA P : Addr} (hr : Room (k + 5) X.A) (TB : GxR.TabB X.base X.mg cA P) (hP : P ∈ tb) (hcode : X.env.code = .ref cA) (ok : GenOk X.N X.env.scope scope own) (hN : X.N.Nodup) (hc : X.calm = true) (hi : DI X tb X' G tg iter mi)
    (hs : ∀ v, genFold iter X.env v = pure v) (hsl : ∀ i ∈ slots t, i ∈ own.map (·.2)) (hg : Gl X "any") (hm : X.mg "any" = none)
    (pp : ∀ (Aw : Around) (sc : Shared) (H : Hp) (C : Addr) (code : Value) (fp : List Addr) (pn : List (Addr × Obj)), Room k Aw → Aw.frames = some X.stack →
      DG (gblk X (Aw.deeper (genEnv scope (cloFrom X.env.cells scope.names []) C code builtinsNs X.env)) sc H (genEnv scope (cloFrom X.env.cells scope.names []) C code builtinsNs X.env) fp pn) tg t ∧
      PTs (gblk X (Aw.deeper (genEnv scope (cloFrom X.env.cells scope.names []) C code builtinsNs X.env)) sc H (genEnv scope (cloFrom X.env.cells scope.names []) C code builtinsNs X.env) fp pn) ifs (tDT X.K tb (wT X' G mc)) ∧
      DE (gblk X (Aw.deeper (genEnv scope (cloFrom X.env.cells scope.names []) C code builtinsNs X.env)) sc H (genEnv scope (cloFrom X.env.cells scope.names []) C code builtinsNs X.env) fp pn) tb X' G elt me)
    (he : starEach [.GeneratorExp elt [⟨tg, iter, ifs, 0⟩] scope gpos] X.env = (false, eval (.GeneratorExp elt [⟨tg, iter, ifs, 0⟩] scope gpos) X.env) :: starEach [] X.env := by rfl) :
    DE X tb X' G (.Call (.Name "any" p) [.GeneratorExp elt [⟨tg, iter, ifs, 0⟩] scope gpos] [] pos) (.gall true (own.map (·.2)) t me mi mc) := by
  refine ⟨fun pins s σ H Qv I ⟨Z, ρ, S, Q, m, w, kk⟩ => ?_⟩
  refine wpAny_Call_Name_kw (ld_blt I hg hm boot_any' ?_ (by decide +kernel) (by decide +kernel))
  refine PyProof.Rows.callWith_builtin1 ?_ he rfl
  rw [he]
  show wpAny _ _ (spliced ((false, eval (.GeneratorExp elt [⟨tg, iter, ifs, 0⟩] scope gpos) X.env) :: backTo pos (starEach [] X.env))) _ _ s
  have w : wI X' G mi ρ S fun xs stay S1 => allL true (fun d k => bindT t d (wipeD ρ (own.map (·.2))) k) (fun ρ' S' k => wT X' G mc ρ' S' k) (fun ρ' S' k => wE X' G me ρ' S' k) stay (fun b S' => Q (.bl b) S') xs S1 := w
  refine Calls.spliced_cons (gen_make (own := own) (R := fun J H1 => ∃ xs stay S1, Ext S H S1 H1 ∧ SRep X.K Z S1 H1 ∧ Tabs tb H1 ∧ ItOk X.K tb Z S1 H1 J xs stay ∧
      allL true (fun d k => bindT t d (wipeD ρ (own.map (·.2))) k) (fun ρ' S' k => wT X' G mc ρ' S' k) (fun ρ' S' k => wE X' G me ρ' S' k) stay (fun b S' => Q (.bl b) S') xs S1) (hr.mono (Nat.le_add_right _ _)) TB hcode ok hN hc hi hs I
    ⟨Z, ρ, S, _, m, w, fun xs stay S1 J H1 x1 s1 t1 it1 w1 => ⟨t1 P hP, xs, stay, S1, x1, s1, t1, it1, w1⟩⟩ fun J H1 H2 a g genv fp sc go c s' hR hT GM => ?_)
  obtain ⟨xs, stay, S1, x1, s1, t1, it1, w1⟩ := hR
  have tg1 := t1 P hP
  have x2 : Ext S1 H1 S1 H2 := tabbed_ext hT tg1
  have s2 := tabbed_srep hT tg1 s1
  have t2 := tabbed_tabs hT t1
  have m1 := m.go (x1.trans x2) s2 t2
  refine Calls.spliced_nil ?_
  obtain ⟨C, code, rfl⟩ := GM.env
  refine anyC (k := k) (gt := gOf X.K t) (tt := tDT X.K tb (wT X' G mc)) (te := tD X.K tb (wE X' G me)) (m := xs.length)
    (Φ := fun i n H' => n = xs.length - i ∧ i ≤ xs.length ∧ ∃ (S' : Sto), Ext S1 H2 S' H' ∧ SRep X.K Z S' H' ∧ Tabs tb H' ∧ EnvR X.K Z S' H' (wipeD ρ (own.map (·.2))) (wipe σ (own.map (·.2))) ∧
      allL true (fun d k => bindT t d (wipeD ρ (own.map (·.2))) k) (fun ρ' S' k => wT X' G mc ρ' S' k) (fun ρ' S' k => wE X' G me ρ' S' k) stay (fun b S' => Q (.bl b) S') (xs.drop i) S')
    (Fin := fun H' => ∃ (S' : Sto), Ext S1 H2 S' H' ∧ SRep X.K Z S' H' ∧ Tabs tb H' ∧ Q (.bl false) S')
    (St := fun H' => ∃ (S' : Sto), Ext S1 H2 S' H' ∧ SRep X.K Z S' H' ∧ Tabs tb H' ∧ Q (.bl true) S') GM (hr.mono (by omega)) I.ok.frames (fun Aw hw hf => pp Aw sc H2 C code fp [(a, go)] hw hf) ?_ ?_ ?_ ?_
  · rintro i n cp H' ⟨rfl, rfl, hi', S', x', s', t', e', w'⟩
    have st' : stay S' := by
      cases h : xs.drop i with
      | nil => rw [h] at w'; exact w'.1
      | cons _ _ => rw [h] at w'; exact w'.1
    have ok' := it1 Z (fun _ z => .inl z) i S' H' (x2.trans x') s' t' st'
    by_cases hlt : i < xs.length
    · obtain ⟨d, hd, hdrop⟩ := getElem?_range' hlt
      rw [hdrop] at w'
      obtain ⟨_, w'⟩ := w'
      obtain ⟨hgo, hyld⟩ := ok'.1 d hd
      refine .inr ⟨hgo, fun H5 => ∃ (S5 : Sto), Ext S1 H2 S5 H5 ∧ SRep X.K Z S5 H5 ∧ Tabs tb H5 ∧ EnvR X.K Z S5 H5 (wipeD ρ (own.map (·.2))) (wipe σ (own.map (·.2))) ∧
        allL true (fun d k => bindT t d (wipeD ρ (own.map (·.2))) k) (fun ρ' S' k => wT X' G mc ρ' S' k) (fun ρ' S' k => wE X' G me ρ' S' k) stay (fun b S' => Q (.bl b) S') (xs.drop (i + 1)) S5,
        fun H5 ⟨S5, y1, y2, y3, y5, y6⟩ => ⟨xs.length - (i + 1), by omega, rfl, rfl, hlt, S5, y1, y2, y3, y5, y6⟩, fun x H3 hy => ?_⟩
      obtain ⟨x3, s3, t3, r3⟩ := hyld x H3 hy
      refine gOf_sem (e'.ext s' x3) r3 w' fun ρ3 σ3 e3 o3 w3 => ⟨(o3 _ hsl).trans (wipe_wipe σ _ _ fun _ h => h), ?_⟩
      refine ⟨Z, ρ3, S', _, ⟨e3, s3, t3⟩, w3, fun b S4 H4 x4 s4 t4 w4 => ?_⟩
      cases b with
      | false => exact ⟨S4, (x'.trans x3).trans x4, s4, t4, (e'.ext s' x3).ext s3 x4, w4⟩
      | true =>
        refine ⟨Z, ρ3, S4, _, ⟨e3.ext s3 x4, s4, t4⟩, w4, fun d5 S5 v5 H5 x5 s5 t5 r5 w5 => ?_⟩
        obtain ⟨c5, tv, w5⟩ := w5
        refine ⟨rfl, c5, vTv_of r5 tv, ?_⟩
        have x6 := ((x'.trans x3).trans x4).trans x5
        cases c5 with
        | true => exact ⟨S5, x6, s5, t5, w5⟩
        | false => exact ⟨xs.length - (i + 1), by omega, rfl, hlt, S5, x6, s5, t5, ((e'.ext s' x3).ext s3 x4).ext s4 x5, w5⟩
    · have hn : xs.drop i = [] := List.drop_eq_nil_of_le (Nat.le_of_not_lt hlt)
      rw [hn] at w'
      exact .inl ⟨ok'.2 (Nat.le_of_not_lt hlt), rfl, S', x', s', t', w'.2⟩
  · exact ⟨rfl, Nat.zero_le _, S1, Ext.refl, s2, t2, m1.env.wipe _, w1⟩
  · rintro s3 H' I3 ⟨S', x', s', t', q⟩
    exact ⟨.bl false, H', I3, rfl, kk _ S' _ H' (x1.trans (x2.trans x')) s' t' (.bl false) q⟩
  · rintro s3 H' I3 ⟨S', x', s', t', q⟩
    exact ⟨.bl true, H', I3, rfl, kk _ S' _ H' (x1.trans (x2.trans x')) s' t' (.bl true) q⟩
end
end DL

set_option Elab.async false
set_option linter.all false
set_option maxRecDepth 100000
set_option maxHeartbeats 4000000
/-! DL20: sum(.. for ..). -/
namespace DL
open PySem PySem.Spec PyProof.Rows L2 RZ GenW

section
variable {X : Cx} {pins : List (Addr × Obj)} {σ : L2.St} {H : Hp} {tg elt : Expr} {ifs : List Expr} {scope : Scope} {own : List (Str × Nat)} {J : It} {a : Addr} {g : Nat} {genv : Env} {fp : List Addr} {sc : Shared} {go : Obj} {c : Code} {s' : Shared}
/-- the list that keeps the sum -/
def Wsm (S : Addr) (Φ : Nat → Nat → Int → Hp → Prop) : Nat → Nat → List (Addr × Obj) → Hp → Prop := fun i m cp H => ∃ t tk n, cp = [(S, lstObj #[.int t tk] n)] ∧ Φ i m t H
def Csm (S : Addr) (Φ : Nat → Nat → Int → Hp → Prop) : Nat → Nat → List (Addr × Obj) → V → Hp → Prop := fun i m cp y H => ∃ t tk n j m', cp = [(S, lstObj #[.int t tk] n)] ∧ y = .int j ∧ m' < m ∧ Φ (i + 1) m' (t + j) H
def Fsm (S : Addr) (Fin : Int → Hp → Prop) : List (Addr × Obj) → Hp → Prop := fun cp H => ∃ t tk n, cp = [(S, lstObj #[.int t tk] n)] ∧ Fin t H
theorem one_eq {t t1 : Int} {tk tk1 : Tok} {n n1 : Nat} (e2 : some (lstObj #[.int t1 tk1] n1) = some (lstObj #[.int t tk] n)) : t1 = t := by
  have := Option.some.inj e2
  simp only [lstObj, Obj.mk.injEq, true_and, and_true] at this
  injection this with q _
  simp at q
  exact q.1
theorem one_eq2 {t t1 : Int} {tk tk1 : Tok} {n n1 : Nat} (e2 : some (lstObj #[.int t1 tk1] n1) = some (lstObj #[.int t tk] n)) : tk1 = tk := by
  have := Option.some.inj e2
  simp only [lstObj, Obj.mk.injEq, true_and, and_true] at this
  injection this with q _
  simp at q
  exact q.2
theorem sumG (G : GMk X pins σ H tg elt ifs scope own J a g genv fp sc go c s') {B A : Around} {S : Addr} {Φ : Nat → Nat → Int → Hp → Prop} {Fin : Int → Hp → Prop} {R : Result → Shared → Prop} (hh : A.handled = none) (hd : A.depth < recursionLimit) (hSa : S ≠ a) (hSc : S ≠ cStatics)
    (hend : ∀ s2 t tk H', Inv X pins σ H' s2 → Fin t H' → R (.ok (.ret (.int t tk))) s2) :
    ∀ (m : Nat) (s : Shared) (t : Int) (tk : Tok) (n : Nat) (st : Int), (st = 0 ∨ st = 2) → s.heap.get? S = some (lstObj #[.int t tk] n) → s.heap.IsGen a g → s.heap.NoLimit →
      (∃ gs, s.gens[g]? = some gs ∧ gs.Goes (model X.prog X.w) A.in1.in1 (GRk (gblk X B sc H genv fp [(a, go)]) [S] (wipe σ (own.map (·.2))) (Fsm S Fin)) (GYk (gblk X B sc H genv fp [(a, go)]) fp [S] (wipe σ (own.map (·.2))) (Wsm S Φ) (Csm S Φ)) m (.send .none) (s.setGen g .running)) →
      codeAny (model X.prog X.w) A (.builtin "sum.loop" ⟨[.ref a, .ref S, rawInt st, rawInt 0], []⟩) R s := by
  have ends : ∀ {s₀ s₁ : Shared} {m : Nat} {h' : Heap} {t : Int} {tk : Tok} {n : Nat}, s₀.heap.get? S = some (lstObj #[.int t tk] n) → GFk (gblk X B sc H genv fp [(a, go)]) [S] (wipe σ (own.map (·.2))) (Fsm S Fin) m s₀ s₁ → (∀ b o, s₁.heap.get? b = some o → h'.get? b = some o) → R (.ok (.ret (.int t tk))) { s₁.setGen g .finished with heap := h' } := fun {s₀ s₁ m h' t tk n} hS hp hk => by
    obtain ⟨H2, cp, I2, hca, hs0, t1, tk1, n1, rfl, fin⟩ := hp
    have e3 : t1 = t := one_eq ((hs0 (S, lstObj #[.int t1 tk1] n1) List.mem_cons_self).symm.trans hS)
    have e4 : tk1 = tk := one_eq2 ((hs0 (S, lstObj #[.int t1 tk1] n1) List.mem_cons_self).symm.trans hS)
    subst e3 e4
    have I3 := G.leave I2
    refine hend _ t1 tk1 H2 ?_ fin
    exact I3.call' (ch := []) rfl (Un.kept hk) (I3.hok.kept hk) (allBare_setGen I3.bare rfl) fun b z => by simp at z
  have push : ∀ {s₁ : Shared} {H2 : Hp} {t t2 : Int} {tk tk2 : Tok} {n : Nat} {gn : Array GenState} {tks : Tok}, Inv (gblk X B sc H genv fp [(a, go)]) [(S, lstObj #[.int t tk] n)] (wipe σ (own.map (·.2))) H2 s₁ → AllBare gn →
      ∃ n', (s₁.heap.update S (Obj.mapSeq fun _ => #[.int t2 tk2])).get? S = some (lstObj #[.int t2 tk2] n') ∧ Sleep [(S, lstObj #[.int t tk] n)] [(S, lstObj #[.int t2 tk2] n')] s₁ { s₁ with toks := tks, gens := gn, heap := s₁.heap.update S (Obj.mapSeq fun _ => #[.int t2 tk2]) } := fun {s₁ H2 t t2 tk tk2 n gn tks} I2 hb => by
    have hS := (I2.pin (S, lstObj #[.int t tk] n) (List.mem_append_right _ List.mem_cons_self)).1
    obtain ⟨n', e'⟩ : ∃ n', (s₁.heap.update S (Obj.mapSeq fun _ => #[.int t2 tk2])).get? S = some (lstObj #[.int t2 tk2] n') := ⟨_, Heap.get?_update_self _ hS rfl⟩
    refine ⟨n', e', ⟨rfl, hb, rfl, fun b o hb e => (Heap.get?_update_other _ _ (fun z => hb (by rw [← z]; exact List.mem_cons_self))).trans e, fun p hp => ?_⟩⟩
    rw [List.mem_singleton.mp hp]
    exact ⟨e', fun v z => by cases z⟩
  intro m
  induction m with
  | zero =>
    intro s t tk n st hst hS hg hl ⟨gs, hgs, hgo⟩
    refine codeAny_builtin F.entry_sum_loop ?_
    rw [Around.under_plainId F.plain_sum_loop _]
    show wpAny _ A.in1 (seqItems? (.ref S) >>= _) _ _ s
    refine wpAny_bind (wpAny_seqItems hS rfl ?_)
    show wpAny _ A.in1 (tryCatch (pyNext (.ref a)) _ >>= _) _ _ s
    refine wpAny_bind (wpAny_tryCatch (next_genG (A := A.in1) hh hl hd hg hgs hgo (fun v s₁ gs' hbare hv => ?_) (fun s₁ hp h' hk => ?_) fun e s₁ he => he.elim))
    · obtain ⟨i, mm, y, H2, cp, r, I2, hca, hs0, ⟨t1, tk1, n1, j, m', rfl, rfl, hm', ph⟩, hk⟩ := hv
      obtain ⟨n', _, sl⟩ := push (t2 := t1 + j) (tk2 := 0) (tks := s₁.toks) I2 I2.bare
      exact False.elim (hk _ _ m' sl hm' ⟨_, _, _, rfl, ph⟩)
    · exact wpAny_pure (ends (s₀ := s.setGen g .running) hS hp hk)
  | succ m ih =>
    intro s t tk n st hst hS hg hl ⟨gs, hgs, hgo⟩
    have hgl : g < s.gens.size := (Array.getElem?_eq_some_iff.mp hgs).1
    refine codeAny_builtin F.entry_sum_loop ?_
    rw [Around.under_plainId F.plain_sum_loop _]
    show wpAny _ A.in1 (seqItems? (.ref S) >>= _) _ _ s
    refine wpAny_bind (wpAny_seqItems hS rfl ?_)
    show wpAny _ A.in1 (tryCatch (pyNext (.ref a)) _ >>= _) _ _ s
    refine wpAny_bind (wpAny_tryCatch (wpAny_gsz (n := g + 1) hgl (next_genG (A := A.in1) hh hl hd hg hgs hgo (fun v s₁ gs' hbare hv => ?_) (fun s₁ hp h' hk => ?_) fun e s₁ he => he.elim)))
    · intro hsz
      obtain ⟨i, mm, y, H2, cp, r, I2, hca, hs0, ⟨t1, tk1, n1, j, m', rfl, rfl, hm', ph⟩, hk⟩ := hv
      obtain ⟨tj, rfl⟩ : ∃ tj, v = .int j tj := r
      have e3 : t1 = t := one_eq ((hs0 (S, lstObj #[.int t1 tk1] n1) List.mem_cons_self).symm.trans hS)
      subst e3
      have hS1 := (I2.pin (S, lstObj #[.int t1 tk1] n1) (List.mem_append_right _ List.mem_cons_self)).1
      have hA := (I2.pin (a, go) (List.mem_append_left _ List.mem_cons_self)).1
      have hsz1 : g < s₁.gens.size := by
        have q : (s₁.setGen g gs').gens.size = s₁.gens.size := setGen_size _ _ _
        have hsz' : g + 1 ≤ (s₁.setGen g gs').gens.size := hsz
        omega
      have nxt : ∀ (tks : Tok) (h' : Heap) (n' : Nat) (tk2 : Tok) (st : Int), (st = 0 ∨ st = 2) → h'.get? S = some (lstObj #[.int (t1 + j) tk2] n') → (∀ b o, b ≠ S → s₁.heap.get? b = some o → h'.get? b = some o) →
          codeAny (model X.prog X.w) A (.builtin "sum.loop" ⟨[.ref a, .ref S, rawInt st, rawInt 0], []⟩) R { s₁.setGen g gs' with toks := tks, heap := h' } := fun tks h' n' tk2 st hst e' keep => by
        refine ih _ (t1 + j) tk2 n' st hst e' (G.gen _ (keep a go (Ne.symm hSa) hA)) ?_ ⟨gs', setGen_at hsz1, ?_⟩
        · obtain ⟨mc, hns, hnn⟩ := I2.nolimit
          exact ⟨mc, hns.at' fun o e => keep _ o (Ne.symm hSc) e, hnn⟩
        · refine hk _ [(S, lstObj #[.int (t1 + j) tk2] n')] m' ⟨rfl, allBare_setGen (s := { s₁.setGen g gs' with toks := tks, heap := h' }) (allBare_setGen I2.bare hbare) rfl, rfl, fun b o hb e => keep b o (fun z => hb (by rw [z]; exact List.mem_cons_self)) e, fun p hp => ?_⟩ hm' ⟨_, _, _, rfl, ph⟩
          rw [List.mem_singleton.mp hp]
          exact ⟨e', fun v z => by cases z⟩
      have keep1 : ∀ (f : Array Value → Array Value) b o, b ≠ S → s₁.heap.get? b = some o → (s₁.heap.update S (Obj.mapSeq f)).get? b = some o := fun f b o hb e => (Heap.get?_update_other _ _ (Ne.symm hb)).trans e
      rcases hst with rfl | rfl
      · show wpAny _ A.in1 (if (_ : Bool) = true then (mkInt (t1 + j) >>= _) else _) _ _ _
        split
        · refine wpAny_bind (wpAny_mkInt ?_)
          show wpAny _ A.in1 (updateSeq S (fun _ => #[.int (t1 + j) s₁.toks]) >>= _) _ _ _
          refine wpAny_bind ?_
          refine wpAny_updateSeq hS1 rfl (wpAny_pure ⟨plainId_quiet F.plain_sum_loop _, ?_⟩)
          exact nxt _ _ _ s₁.toks 0 (.inl rfl) (Heap.get?_update_self _ hS1 rfl) (keep1 _)
        · refine wpAny_bind (wpAny_rule ?_)
          refine wpAny_bind (wpAny_attempt (wpAny_holding (wpAny_add_int ?_)))
          show wpAny _ A.in1 (updateSeq S (fun _ => #[.int (t1 + j) s₁.toks]) >>= _) _ _ _
          refine wpAny_bind (wpAny_updateSeq hS1 rfl ?_)
          have hS2 := Heap.get?_update_self (Obj.mapSeq fun _ => #[Value.int (t1 + j) s₁.toks]) hS1 rfl
          refine wpAny_bind (wpAny_letGo ?_)
          refine wpAny_bind (wpAny_updateSeq hS2 rfl (wpAny_pure ⟨plainId_quiet F.plain_sum_loop _, ?_⟩))
          exact nxt _ _ _ s₁.toks 2 (.inr rfl) (Heap.get?_update_self _ hS2 rfl) (fun b o hb e => (Heap.get?_update_other _ _ (Ne.symm hb)).trans (keep1 _ b o hb e))
      · show wpAny _ A.in1 ((holding [Value.int j tj] (binaryOp .Add (.int t1 tk) (.int j tj))).attempt >>= _) _ _ _
        refine wpAny_bind (wpAny_attempt (wpAny_holding (wpAny_add_int ?_)))
        show wpAny _ A.in1 (updateSeq S (fun _ => #[.int (t1 + j) s₁.toks]) >>= _) _ _ _
        refine wpAny_bind (wpAny_updateSeq hS1 rfl ?_)
        have hS2 := Heap.get?_update_self (Obj.mapSeq fun _ => #[Value.int (t1 + j) s₁.toks]) hS1 rfl
        refine wpAny_bind (wpAny_letGo ?_)
        refine wpAny_bind (wpAny_updateSeq hS2 rfl (wpAny_pure ⟨plainId_quiet F.plain_sum_loop _, ?_⟩))
        exact nxt _ _ _ s₁.toks 2 (.inr rfl) (Heap.get?_update_self _ hS2 rfl) (fun b o hb e => (Heap.get?_update_other _ _ (Ne.symm hb)).trans (keep1 _ b o hb e))
    · intro hsz
      exact wpAny_pure (ends (s₀ := s.setGen g .running) hS hp hk)
def TurnS (J : It) (S : Addr) (σw : L2.St) (vs : List Nat) (gt : TG) (tt : TT) (te : TE) (Φ : Nat → Nat → Int → Hp → Prop) (Fin : Int → Hp → Prop) : Prop :=
  ∀ i m cp H, Wsm S Φ i m cp H → (J.stop i H ∧ Fsm S Fin cp H) ∨ (J.go i H ∧ ∃ Nx : Hp → Prop, (∀ H', Nx H' → ∃ m', m' < m ∧ Wsm S Φ (i + 1) m' cp H') ∧ ∀ x H', J.yld i H x H' → gt x σw H' fun σ2 H2 => wipe σ2 vs = σw ∧ tt σ2 H2 fun b H3 =>
    if b = true then te σ2 H3 fun y H4 => Csm S Φ i m cp y H4 else Nx H3)
theorem sumC {k : Nat} (G : GMk X pins σ H tg elt ifs scope own J a g genv fp sc go c s') {A : Around} {gt : TG} {tt : TT} {te : TE} {Φ : Nat → Nat → Int → Hp → Prop} {Fin : Int → Hp → Prop} {m : Nat} {Q : Value → Shared → Prop} {E : Value → Shared → Prop}
    (hr : Room (k + 3) A) (hfr : A.frames = some X.stack) (pp : Parts X k sc H genv fp a go tg elt ifs gt tt te)
    (turn : ∀ S, H S = none → TurnS J S (wipe σ (own.map (·.2))) (own.map (·.2)) gt tt te Φ Fin) (w0 : Φ 0 m 0 H)
    (hend : ∀ s2 t tk H', Inv X pins σ H' s2 → Fin t H' → Q (.int t tk) s2) : wpAny (model X.prog X.w) A (call (.builtin "sum") [.ref a]) Q E s' := by
  have hdp : A.depth < recursionLimit := by have := hr.dp; omega
  have lim : s'.heap.NoLimit := G.inv.nolimit.keeps G.kept
  have hSI : s'.heap.objs.size ≠ a := Nat.ne_of_gt G.size.2
  have hSc : s'.heap.objs.size ≠ cStatics := Nat.ne_of_gt (let ⟨_, hns, _⟩ := lim; hns.lt)
  refine call_function_tree F.kind_sum F.plain_sum F.entry_sum (F.args_sum1 _) ?_
  unfold Builtin.«sum»
  simp only [List.length_cons, List.length_nil]
  rw [if_neg (by decide)]
  refine wpAny_bind (wpAny_of_eq (show Builtin.Builtins.bindParams "sum" ["start"] 0 { } = pure [none] from rfl) ?_)
  have gen1 : s'.heap.IsGen a g := G.gen _ G.obj
  refine wpAny_bind (wpAny_pyIter_gen gen1 ?_)
  refine wpAny_bind (wpAny_mkInt ?_)
  refine wpAny_bind (wpAny_pure ?_)
  simp only [List.forIn_cons, List.forIn_nil]
  refine wpAny_bind (wpAny_bind (wpAny_bind (wpAny_isInstance (T := "int") (b := false) (typeIs_int _ _ _) PySem.sub_int_str ?_)))
  simp only [Bool.false_eq_true, if_false]
  refine wpAny_pure (wpAny_bind (wpAny_bind (wpAny_isInstance (T := "int") (b := false) (typeIs_int _ _ _) PySem.sub_int_bytes ?_)))
  simp only [Bool.false_eq_true, if_false]
  refine wpAny_pure (wpAny_bind (wpAny_bind (wpAny_isInstance (T := "int") (b := false) (typeIs_int _ _ _) PySem.sub_int_bytearray ?_)))
  simp only [Bool.false_eq_true, if_false]
  refine wpAny_pure (wpAny_pure ?_)
  refine wpAny_bind (wpAny_newObj_type ?_)
  have kp : ∀ b o, s'.heap.get? b = some o → (s'.heap.push { cls := .type "list", data := .seq #[Value.int 0 s'.toks] }).get? b = some o := fun b o e => Heap.get?_push_of_some _ e
  have hS : (s'.heap.push { cls := .type "list", data := .seq #[Value.int 0 s'.toks] }).get? s'.heap.objs.size = some (lstObj #[.int 0 s'.toks] 0) := Heap.get?_push_size _ rfl
  have hSn : H s'.heap.objs.size = none := G.inv.hok.fresh (Nat.le_of_lt (Nat.lt_trans G.size.1 G.size.2))
  refine wpAny_pure ⟨plainId_quiet F.plain_sum_loop _, ?_⟩
  refine sumG (A := A) (B := A.in1.in1.deeper genv) (S := s'.heap.objs.size) (Φ := Φ) (Fin := Fin) G hr.hd hdp hSI hSc hend (m + 1) _ 0 s'.toks _ 0 (.inl rfl) hS (G.gen _ (kp a go G.obj)) (lim.keeps kp) ⟨_, G.gens, rfl, ?_⟩
  have hrw : Room k A.in1.in1 := (hr.in1.in1).mono (Nat.le_succ _)
  obtain ⟨pg, pt, pe⟩ := pp A.in1.in1 hrw hfr
  refine G.run A.in1.in1 [(s'.heap.objs.size, lstObj #[.int 0 s'.toks] 0)] _ hr.hd hfr ?_ ?_ ?_ ?_ gt tt te pg pt pe _ _ _ m (turn _ hSn) ⟨0, s'.toks, 0, rfl, w0⟩
  · intro p hp
    rw [List.mem_singleton.mp hp]
    exact ⟨Nat.le_refl _, hS, fun v z => by cases z⟩
  · exact kp
  · rfl
  · exact allBare_setGen (s := { s' with heap := _, toks := _ }) G.bare rfl
end
end DL

set_option Elab.async false
set_option linter.all false
set_option maxRecDepth 100000
set_option maxHeartbeats 4000000
/-! DL21: sum(.. for ..), over data. -/
namespace DL
open PySem PySem.Spec PyProof.Rows L2 RZ GenW
section
variable {X : Cx} {tb : List Addr} {X' : Mod'} {G : Fns} {elt tg iter : Expr} {ifs : List Expr} {scope : Scope} {own : List (Str × Nat)} {t : TT'} {me mi mc : M} {p pos gpos : Pos}
theorem boot_sum' : bootBuiltins "sum" = some (.builtin "sum") := by decide +kernel
/-- sum(elt for tg in iter if ..) -/
theorem de_gsum {k : Nat} {cA P : Addr} (hr : Room (k + 5) X.A) (TB : GxR.TabB X.base X.mg cA P) (hP : P ∈ tb) (hcode : X.env.code = .ref cA) (ok : GenOk X.N X.env.scope scope own) (hN : X.N.Nodup) (hc : X.calm = true) (hi : DI X tb X' G tg iter mi)
    (hs : ∀ v, genFold iter X.env v = pure v) (hsl : ∀ i ∈ slots t, i ∈ own.map (·.2)) (hg : Gl X "sum") (hm : X.mg "sum" = none)
    (pp : ∀ (Aw : Around) (sc : Shared) (H : Hp) (C : Addr) (code : Value) (fp : List Addr) (pn : List (Addr × Obj)), Room k Aw → Aw.frames = some X.stack →
      DG (gblk X (Aw.deeper (genEnv scope (cloFrom X.env.cells scope.names []) C code builtinsNs X.env)) sc H (genEnv scope (cloFrom X.env.cells scope.names []) C code builtinsNs X.env) fp pn) tg t ∧
      PTs (gblk X (Aw.deeper (genEnv scope (cloFrom X.env.cells scope.names []) C code builtinsNs X.env)) sc H (genEnv scope (cloFrom X.env.cells scope.names []) C code builtinsNs X.env) fp pn) ifs (tDT X.K tb (wT X' G mc)) ∧
      DE (gblk X (Aw.deeper (genEnv scope (cloFrom X.env.cells scope.names []) C code builtinsNs X.env)) sc H (genEnv scope (cloFrom X.env.cells scope.names []) C code builtinsNs X.env) fp pn) tb X' G elt me)
    (he : starEach [.GeneratorExp elt [⟨tg, iter, ifs, 0⟩] scope gpos] X.env = (false, eval (.GeneratorExp elt [⟨tg, iter, ifs, 0⟩] scope gpos) X.env) :: starEach [] X.env := by rfl) :
    DE X tb X' G (.Call (.Name "sum" p) [.GeneratorExp elt [⟨tg, iter, ifs, 0⟩] scope gpos] [] pos) (.gsum (own.map (·.2)) t me mi mc) := by
  refine ⟨fun pins s σ H Qv I ⟨Z, ρ, S, Q, m, w, kk⟩ => ?_⟩
  refine wpAny_Call_Name_kw (ld_blt I hg hm boot_sum' ?_ (by decide +kernel) (by decide +kernel))
  refine PyProof.Rows.callWith_builtin1 ?_ he rfl
  rw [he]
  show wpAny _ _ (spliced ((false, eval (.GeneratorExp elt [⟨tg, iter, ifs, 0⟩] scope gpos) X.env) :: backTo pos (starEach [] X.env))) _ _ s
  have w : wI X' G mi ρ S fun xs stay S1 => sumL (fun d k => bindT t d (wipeD ρ (own.map (·.2))) k) (fun ρ' S' k => wT X' G mc ρ' S' k) (fun ρ' S' k => wE X' G me ρ' S' k) stay (fun n S' => Q (.int n) S') xs 0 S1 := w
  refine Calls.spliced_cons (gen_make (own := own) (R := fun J H1 => ∃ xs stay S1, Ext S H S1 H1 ∧ SRep X.K Z S1 H1 ∧ Tabs tb H1 ∧ ItOk X.K tb Z S1 H1 J xs stay ∧
      sumL (fun d k => bindT t d (wipeD ρ (own.map (·.2))) k) (fun ρ' S' k => wT X' G mc ρ' S' k) (fun ρ' S' k => wE X' G me ρ' S' k) stay (fun n S' => Q (.int n) S') xs 0 S1) (hr.mono (Nat.le_add_right _ _)) TB hcode ok hN hc hi hs I
    ⟨Z, ρ, S, _, m, w, fun xs stay S1 J H1 x1 s1 t1 it1 w1 => ⟨t1 P hP, xs, stay, S1, x1, s1, t1, it1, w1⟩⟩ fun J H1 H2 a g genv fp sc go c s' hR hT GM => ?_)
  obtain ⟨xs, stay, S1, x1, s1, t1, it1, w1⟩ := hR
  have tg1 := t1 P hP
  have x2 : Ext S1 H1 S1 H2 := tabbed_ext hT tg1
  have s2 := tabbed_srep hT tg1 s1
  have t2 := tabbed_tabs hT t1
  have m1 := m.go (x1.trans x2) s2 t2
  refine Calls.spliced_nil ?_
  obtain ⟨C, code, rfl⟩ := GM.env
  refine sumC (k := k) (gt := gOf X.K t) (tt := tDT X.K tb (wT X' G mc)) (te := tD X.K tb (wE X' G me)) (m := xs.length)
    (Φ := fun i n tot H' => n = xs.length - i ∧ i ≤ xs.length ∧ ∃ (S' : Sto), Ext S1 H2 S' H' ∧ SRep X.K Z S' H' ∧ Tabs tb H' ∧ EnvR X.K Z S' H' (wipeD ρ (own.map (·.2))) (wipe σ (own.map (·.2))) ∧
      sumL (fun d k => bindT t d (wipeD ρ (own.map (·.2))) k) (fun ρ' S' k => wT X' G mc ρ' S' k) (fun ρ' S' k => wE X' G me ρ' S' k) stay (fun n S' => Q (.int n) S') (xs.drop i) tot S')
    (Fin := fun tot H' => ∃ (S' : Sto), Ext S1 H2 S' H' ∧ SRep X.K Z S' H' ∧ Tabs tb H' ∧ Q (.int tot) S') GM (hr.mono (by omega)) I.ok.frames (fun Aw hw hf => pp Aw sc H2 C code fp [(a, go)] hw hf) ?_ ?_ ?_
  · rintro L hL i n cp H' ⟨tot, tk0, n0, rfl, rfl, hi', S', x', s', t', e', w'⟩
    have st' : stay S' := by
      cases h : xs.drop i with
      | nil => rw [h] at w'; exact w'.1
      | cons _ _ => rw [h] at w'; exact w'.1
    have ok' := it1 Z (fun _ z => .inl z) i S' H' (x2.trans x') s' t' st'
    by_cases hlt : i < xs.length
    · obtain ⟨d, hd, hdrop⟩ := getElem?_range' hlt
      rw [hdrop] at w'
      obtain ⟨_, w'⟩ := w'
      obtain ⟨hgo, hyld⟩ := ok'.1 d hd
      refine .inr ⟨hgo, fun H5 => ∃ (S5 : Sto), Ext S1 H2 S5 H5 ∧ SRep X.K Z S5 H5 ∧ Tabs tb H5 ∧ EnvR X.K Z S5 H5 (wipeD ρ (own.map (·.2))) (wipe σ (own.map (·.2))) ∧
        sumL (fun d k => bindT t d (wipeD ρ (own.map (·.2))) k) (fun ρ' S' k => wT X' G mc ρ' S' k) (fun ρ' S' k => wE X' G me ρ' S' k) stay (fun n S' => Q (.int n) S') (xs.drop (i + 1)) tot S5,
        fun H5 ⟨S5, y1, y2, y3, y5, y6⟩ => ⟨xs.length - (i + 1), by omega, tot, tk0, n0, rfl, rfl, hlt, S5, y1, y2, y3, y5, y6⟩, fun x H3 hy => ?_⟩
      obtain ⟨x3, s3, t3, r3⟩ := hyld x H3 hy
      refine gOf_sem (e'.ext s' x3) r3 w' fun ρ3 σ3 e3 o3 w3 => ⟨(o3 _ hsl).trans (wipe_wipe σ _ _ fun _ h => h), ?_⟩
      refine ⟨Z, ρ3, S', _, ⟨e3, s3, t3⟩, w3, fun b S4 H4 x4 s4 t4 w4 => ?_⟩
      cases b with
      | false => exact ⟨S4, (x'.trans x3).trans x4, s4, t4, (e'.ext s' x3).ext s3 x4, w4⟩
      | true =>
        refine ⟨Z, ρ3, S4, _, ⟨e3.ext s3 x4, s4, t4⟩, w4, fun d5 S5 v5 H5 x5 s5 t5 r5 w5 => ?_⟩
        obtain ⟨c5, rfl, w5⟩ := w5
        cases r5
        exact ⟨tot, tk0, n0, c5, xs.length - (i + 1), rfl, rfl, by omega, rfl, hlt, S5, ((x'.trans x3).trans x4).trans x5, s5, t5, ((e'.ext s' x3).ext s3 x4).ext s4 x5, w5⟩
    · have hn : xs.drop i = [] := List.drop_eq_nil_of_le (Nat.le_of_not_lt hlt)
      rw [hn] at w'
      exact .inl ⟨ok'.2 (Nat.le_of_not_lt hlt), tot, tk0, n0, rfl, S', x', s', t', w'.2⟩
  · exact ⟨rfl, Nat.zero_le _, S1, Ext.refl, s2, t2, m1.env.wipe _, w1⟩
  · rintro s3 tot tk H' I3 ⟨S', x', s', t', q⟩
    exact ⟨.int tot, H', I3, ⟨_, rfl⟩, kk _ S' _ H' (x1.trans (x2.trans x')) s' t' (.int tot) q⟩
end
end DL

set_option Elab.async false
set_option linter.all false
set_option maxRecDepth 100000
set_option maxHeartbeats 4000000
/-! DL22: dicts. -/
namespace DL
open PySem PySem.Spec PyProof.Rows L2 RZ

/-! ### keys -/
mutual
theorem hash_w (w w' : World) : ∀ (d : D) (k : NestedKey), keyOf d = some k → k.hash w = k.hash w'
  | .int i, k, h => by cases h; rfl
  | .tup xs, k, h => by
    obtain ⟨ks, hk, rfl⟩ := Option.map_eq_some_iff.mp h
    show reduceHash (Builtin.Tuple.tupleHashOf (NestedKey.hashes w ks)) = reduceHash (Builtin.Tuple.tupleHashOf (NestedKey.hashes w' ks))
    rw [hashes_w w w' xs ks hk]
  | .non, _, h => by cases h
  | .bl _, _, h => by cases h
  | .str _, _, h => by cases h
  | .lst _, _, h => by cases h
  | .scr _, _, h => by cases h
  | .ref _, _, h => by cases h
  | .dct _, _, h => by cases h
theorem hashes_w (w w' : World) : ∀ (ds : List D) (ks : List NestedKey), keysOf ds = some ks → NestedKey.hashes w ks = NestedKey.hashes w' ks
  | [], _, h => by cases h; rfl
  | d :: ds, ks, h => by
    unfold keysOf at h
    cases h1 : keyOf d with
    | none => rw [h1] at h; cases h
    | some k =>
      cases h2 : keysOf ds with
      | none => rw [h1, h2] at h; cases h
      | some r =>
        rw [h1, h2] at h
        cases h
        show k.hash w :: NestedKey.hashes w r = k.hash w' :: NestedKey.hashes w' r
        rw [hash_w w w' d k h1, hashes_w w w' ds r h2]
end
section
variable {X : Cx} {pins : List (Addr × Obj)} {σ : L2.St} {H : Hp} {s : Shared} {Z : Addr → Prop} {S : Sto}
mutual
theorem rep_key (I : Inv X pins σ H s) : ∀ {d : D} {k : NestedKey} {v : V} {u : Value}, Rep X.K Z S H d v → RelV v u → keyOf d = some k → NestedIs s.heap k u
  | .int i, k, _, u, .int _, r, h => by
    cases h
    obtain ⟨t, rfl⟩ := r
    exact .int i t
  | .tup xs, k, _, u, .tup hT rr, r, h => by
    obtain ⟨ks, hk, rfl⟩ := Option.map_eq_some_iff.mp h
    cases r
    obtain ⟨its, rv, ⟨o, h1, h2, n, h3⟩, _⟩ := I.tuple hT
    exact .tup h1 h2 h3 (reps_key I rr rv hk)
  | .non, _, _, _, _, _, h => by cases h
  | .bl _, _, _, _, _, _, h => by cases h
  | .str _, _, _, _, _, _, h => by cases h
  | .lst _, _, _, _, _, _, h => by cases h
  | .scr _, _, _, _, _, _, h => by cases h
  | .ref _, _, _, _, _, _, h => by cases h
  | .dct _, _, _, _, _, _, h => by cases h
theorem reps_key (I : Inv X pins σ H s) : ∀ {ds : List D} {ks : List NestedKey} {vs : List V} {us : List Value}, RepL X.K Z S H ds vs → Vals vs us → keysOf ds = some ks → NestedAll s.heap ks us
  | [], _, _, _, .nil, .nil, h => by cases h; exact .nil
  | d :: ds, ks, _, _, .cons r rr, .cons q qq, h => by
    unfold keysOf at h
    cases h1 : keyOf d with
    | none => rw [h1] at h; cases h
    | some k =>
      cases h2 : keysOf ds with
      | none => rw [h1, h2] at h; cases h
      | some rk =>
        rw [h1, h2] at h
        cases h
        exact .cons (rep_key I r q h1) (reps_key I rr qq h2)
end
/-- what an entry is -/
theorem mt_keys (I : Inv X pins σ H s) : ∀ {xs : List D} {vs : List V} {ts : List (NestedKey × Addr × Value)}, Mt xs vs ts → RepL X.K Z S H xs vs → ∀ x ∈ ts, (∃ d, keyOf d = some x.1) ∧ NestedIs s.heap x.1 (.ref x.2.1) ∧ x.1.depth ≤ 8
  | _, _, _, .nil, _, x, hx => by cases hx
  | _, _, _, .cons hk hd rv m, .cons r (.cons r2 rr), x, hx => by
    rcases List.mem_cons.mp hx with rfl | hx
    · exact ⟨⟨_, hk⟩, rep_key I r rfl hk, hd⟩
    · exact mt_keys I m rr x hx
theorem cell_of (I : Inv X pins σ H s) {a : Addr} {w : World} {ts : List (NestedKey × Addr × Value)} {xs : List D} {vs : List V} (h : H a = some (dctO w a ts)) (nd : (ts.map (·.1)).Nodup) (m : Mt xs vs ts) (r : RepL X.K Z S H xs vs) :
    s.heap.DictOfH (nestedKind X.prog X.w) a ts := by
  obtain ⟨⟨o, es, ep, h1, h2, h3, h4⟩, _⟩ := I.hok a _ h
  have kk := mt_keys I m r
  refine ⟨o, es, ep, h1, h2, h3, ?_, fun x hx => ⟨(kk x hx).2.1, (kk x hx).2.2⟩, nd⟩
  rw [h4]
  refine List.map_congr_left fun x hx => ?_
  obtain ⟨⟨d, hd⟩, _⟩ := kk x hx
  show (⟨x.1.hash w, .ref x.2.1, x.2.2⟩ : DictEntry) = ⟨x.1.hash X.w, .ref x.2.1, x.2.2⟩
  rw [hash_w w X.w d _ hd]
end

/-! ### tables -/
section
variable {K : PySem.W.Frag} {Z : Addr → Prop} {S : Sto} {H : Hp}
theorem at_nil (k : NestedKey) : atKey ([] : List (NestedKey × Addr × Value)) k = none := rfl
theorem at_pos {x : NestedKey × Addr × Value} {r : List (NestedKey × Addr × Value)} {k : NestedKey} (e : x.1 = k) : atKey (x :: r) k = some x.2 := by simp [atKey, List.find?_cons, e]
theorem at_neg {x : NestedKey × Addr × Value} {r : List (NestedKey × Addr × Value)} {k : NestedKey} (e : x.1 ≠ k) : atKey (x :: r) k = atKey r k := by simp [atKey, List.find?_cons, e]
theorem mt_find (k : NestedKey) : ∀ {xs : List D} {vs : List V} {ts : List (NestedKey × Addr × Value)}, Mt xs vs ts → RepL K Z S H xs vs →
    (∀ d, dFind k xs = some d → ∃ p v, atKey ts k = some p ∧ RelV v p.2 ∧ Rep K Z S H d v) ∧ (dFind k xs = none → atKey ts k = none)
  | _, _, _, .nil, _ => ⟨fun d e => (by cases e), fun _ => rfl⟩
  | _, _, _, .cons (d := d0) (e := e0) (k := k0) (ds := ds) (ts := ts) hk hd rv m, .cons r (.cons r2 rr) => by
    have ih := mt_find k m rr
    by_cases e : k0 = k
    · subst e
      rw [at_pos rfl]
      have f : dFind k0 (d0 :: e0 :: ds) = some e0 := if_pos hk
      rw [f]
      exact ⟨fun d ed => (by cases ed; exact ⟨_, _, rfl, rv, r2⟩), fun z => (by cases z)⟩
    · rw [at_neg e]
      have f : dFind k (d0 :: e0 :: ds) = dFind k ds := if_neg (by rw [hk]; exact fun z => e (Option.some.inj z))
      rw [f]
      exact ih
theorem put_id (k : NestedKey) (u : Value) : ∀ ts : List (NestedKey × Addr × Value), k ∉ ts.map (·.1) → ts.map (putAt k u) = ts
  | [], _ => rfl
  | x :: ts, h => by
    rw [List.map_cons, List.mem_cons, not_or] at h
    rw [List.map_cons, put_id k u ts h.2]
    unfold putAt
    rw [if_neg (fun z => h.1 z.symm)]
theorem at_mem (k : NestedKey) : ∀ ts : List (NestedKey × Addr × Value), atKey ts k = none → k ∉ ts.map (·.1)
  | [], _ => fun z => by cases z
  | x :: ts, h => by
    by_cases e : x.1 = k
    · rw [at_pos e] at h; cases h
    · rw [at_neg e] at h
      rw [List.map_cons, List.mem_cons, not_or]
      exact ⟨fun z => e z.symm, at_mem k ts h⟩
theorem stored_pos {x : NestedKey × Addr × Value} {r : List (NestedKey × Addr × Value)} {k : NestedKey} {b : Addr} {u : Value} (e : x.1 = k) (nd : ((x :: r).map (·.1)).Nodup) : storedH (x :: r) k b u = (x.1, x.2.1, u) :: r := by
  unfold storedH
  rw [at_pos e, if_pos (show (some x.snd).isSome = true from rfl), List.map_cons]
  rw [List.map_cons, List.nodup_cons] at nd
  rw [put_id k u r (by rw [← e]; exact nd.1)]
  unfold putAt
  rw [if_pos e]
theorem stored_neg {x : NestedKey × Addr × Value} {r : List (NestedKey × Addr × Value)} {k : NestedKey} {b : Addr} {u : Value} (e : x.1 ≠ k) : storedH (x :: r) k b u = x :: storedH r k b u := by
  unfold storedH
  rw [at_neg e]
  split
  · rw [List.map_cons]
    unfold putAt
    rw [if_neg e]
  · rfl
theorem mt_store {k : NestedKey} {y e : D} {b : Addr} {v : V} {u : Value} (hy : keyOf y = some k) (hd : k.depth ≤ 8) (ry : Rep K Z S H y (.ref b)) (rv : RelV v u) (re : Rep K Z S H e v) : ∀ {xs : List D} {vs : List V} {ts : List (NestedKey × Addr × Value)}, Mt xs vs ts → RepL K Z S H xs vs → (ts.map (·.1)).Nodup →
    ∃ vs', Mt (dStore y k e xs) vs' (storedH ts k b u) ∧ RepL K Z S H (dStore y k e xs) vs' ∧ ((storedH ts k b u).map (·.1)).Nodup ∧ ∀ j, j ∈ (storedH ts k b u).map (·.1) → j = k ∨ j ∈ ts.map (·.1)
  | _, _, _, .nil, _, _ => ⟨[.ref b, v], .cons hy hd rv .nil, .cons ry (.cons re .nil), by simp [storedH, at_nil], fun j hj => by
    left
    simpa [storedH, at_nil] using hj⟩
  | _, _, _, .cons (d := d0) (e := e0) (p := p0) (k := k0) (v := v0) (u := u0) (ds := ds) (vs := vs) (ts := ts) hk hd0 rv0 m, .cons r (.cons r2 rr), nd => by
    by_cases q : k0 = k
    · subst q
      have f : dStore y k0 e (d0 :: e0 :: ds) = d0 :: e :: ds := if_pos hk
      rw [f, stored_pos rfl nd]
      exact ⟨.ref p0 :: v :: vs, .cons hk hd0 rv m, .cons r (.cons re rr), nd, fun j hj => .inr hj⟩
    · have f : dStore y k e (d0 :: e0 :: ds) = d0 :: e0 :: dStore y k e ds := if_neg (by rw [hk]; exact fun z => q (Option.some.inj z))
      have nd' := nd
      rw [List.map_cons, List.nodup_cons] at nd
      obtain ⟨vs', m', r', n', j'⟩ := mt_store hy hd ry rv re m rr nd.2
      rw [f, stored_neg q]
      refine ⟨.ref p0 :: v0 :: vs', .cons hk hd0 rv0 m', .cons r (.cons r2 r'), ?_, fun j hj => ?_⟩
      · rw [List.map_cons, List.nodup_cons]
        refine ⟨fun z => ?_, n'⟩
        rcases j' _ z with z | z
        · exact q z
        · exact nd.1 z
      · rw [List.map_cons, List.mem_cons] at hj
        rcases hj with rfl | hj
        · exact .inr List.mem_cons_self
        · rcases j' _ hj with z | z
          · exact .inl z
          · exact .inr (List.mem_cons_of_mem _ z)
theorem mt_len : ∀ {xs : List D} {vs : List V} {ts : List (NestedKey × Addr × Value)}, Mt xs vs ts → xs.length = 2 * ts.length
  | _, _, _, .nil => rfl
  | _, _, _, .cons _ _ _ m => by simp only [List.length_cons]; rw [mt_len m]; omega
end

/-! ### rules -/
section
variable {X : Cx} {tb : List Addr} {X' : Mod'} {G : Fns} {a b c e : Expr} {ma mb mc me : M} {pos : Pos}
theorem dct_ok {P : Program} {w : World} {H' : Hp} {h : Heap} {d : Addr} {ts : List (NestedKey × Addr × Value)} (x : h.DictOfH (nestedKind P w) d ts) : ObjOk P w H' h d (dctO w d ts) := by
  obtain ⟨o, es, ep, h1, h2, h3, h4, _, _⟩ := x
  exact ⟨⟨o, es, ep, h1, h2, h3, h4⟩, ⟨o, h1⟩, fun g1 g2 ⟨o', es', ep', e1, e2, e3, e4⟩ k => ⟨o', es', ep', k _ e1, e2, e3, e4⟩⟩
theorem de_dnew : DE X tb X' G (.Dict [] [] pos) .dnew := by
  refine ⟨fun pins s σ H Qv I ⟨Z, ρ, S, Q, m, w, k⟩ => wpAny_Dict_empty ?_⟩
  have hp := I.hok.fresh (Nat.le_refl s.heap.objs.size)
  have np : s.heap.objs.size ≠ sysModules := Ne.symm (Nat.ne_of_lt I.big)
  have x := Ext.newS (S := S) (o := dctO X.w s.heap.objs.size []) (xs := []) hp
  exact ⟨.ref s.heap.objs.size, _, I.laid (a := s.heap.objs.size) (o := dctO X.w s.heap.objs.size []) (t' := s.toks) (fun _ _ q => Heap.get?_push_of_some _ q) (Nat.le_refl _) (dct_ok (Heap.DictOfH.new s.heap)), rfl,
    k _ _ _ _ x (m.sto.newD hp np) (m.tab.new hp) (.dct ⟨X.w, [], upd_same⟩) (w _ (m.sto.free hp))⟩
/-- a dict that stands -/
theorem dct_at {K : PySem.W.Frag} {Z : Addr → Prop} {S : Sto} {H : Hp} {x : D} {v : V} (s : SRep K Z S H) (r : Rep K Z S H x v) (w : dRefD S x) : ∃ d xs vs, x = .dct d ∧ v = .ref d ∧ S d = some xs ∧ DctH H d ∧ CellD H d xs vs ∧ RepL K Z S H xs vs := by
  cases r <;> first | exact w.elim | skip
  rename_i d l
  obtain ⟨xs, e⟩ := w
  obtain ⟨vs, c, r⟩ := s.dt d xs e l.not
  exact ⟨d, xs, vs, rfl, rfl, e, l, c, r⟩
theorem key_ref {K : PySem.W.Frag} {Z : Addr → Prop} {S : Sto} {H : Hp} {y : D} {v : V} {k : NestedKey} (r : Rep K Z S H y v) (h : KeyOk y k) : ∃ b, v = .ref b := by
  obtain ⟨⟨xs, rfl⟩, _⟩ := h
  cases r
  exact ⟨_, rfl⟩
theorem dGet_ref {S : Sto} {x y : D} {Q : D → Prop} (w : dGet S x y Q) : dRefD S x := by
  cases x <;> first | exact w.elim | skip
  obtain ⟨xs, k, d, e, _⟩ := w
  exact ⟨xs, e⟩
theorem beq_sys {d : Addr} (h : d ≠ sysModules) : (d == sysModules) = false := beq_eq_false_iff_ne.mpr h
/-- one expression, then another -/
theorem two_run {pins : List (Addr × Obj)} {σ : L2.St} {H : Hp} {s : Shared} {Z : Addr → Prop} {ρ : Rho} {S : Sto} {W : D → D → Sto → Prop} (ha : DE X tb X' G a ma) (hb : DE X tb X' G b mb) (I : Inv X pins σ H s) (m : Sim X.K tb Z ρ S σ H) (w : wE X' G ma ρ S fun x S1 => wE X' G mb ρ S1 fun y S2 => W x y S2) :
    wpAny (model X.prog X.w) X.A (eval a X.env) (fun u s1 => wpAny (model X.prog X.w) X.A (eval b X.env) (fun u2 s2 => ∃ S2 H2 d d2 v v2, Inv X pins σ H2 s2 ∧ RelV v u ∧ RelV v2 u2 ∧ Ext S H S2 H2 ∧ SRep X.K Z S2 H2 ∧ Tabs tb H2 ∧ Rep X.K Z S2 H2 d v ∧ Rep X.K Z S2 H2 d2 v2 ∧ W d d2 S2) X.xe s1) X.xe s :=
  thn (ha.run pins s σ H (fun v H1 => ∃ d S1, Ext S H S1 H1 ∧ SRep X.K Z S1 H1 ∧ Tabs tb H1 ∧ Rep X.K Z S1 H1 d v ∧ wE X' G mb ρ S1 fun y S2 => W d y S2) I ⟨Z, ρ, S, _, m, w, fun d S1 v H1 x1 s1 t1 r1 w1 => ⟨d, S1, x1, s1, t1, r1, w1⟩⟩) fun u s1 ⟨v, H1, I1, rv, d, S1, x1, sr1, t1, r1, w1⟩ =>
    thn (hb.run pins s1 σ H1 (fun v2 H2 => ∃ S2 d2, Ext S H S2 H2 ∧ SRep X.K Z S2 H2 ∧ Tabs tb H2 ∧ Rep X.K Z S2 H2 d v ∧ Rep X.K Z S2 H2 d2 v2 ∧ W d d2 S2) I1 ⟨Z, ρ, S1, _, m.go x1 sr1 t1, w1, fun d2 S2 v2 H2 x2 s2 t2 r2 w2 => ⟨S2, d2, x1.trans x2, s2, t2, r1.ext sr1 x2, r2, w2⟩⟩) fun u2 s2 ⟨v2, H2, I2, rv2, S2, d2, x2, sr2, t2, r1, r2, w2⟩ =>
      ⟨S2, H2, d, d2, v, v2, I2, rv, rv2, x2, sr2, t2, r1, r2, w2⟩
theorem de_dget (hu : X.A.units + 64 < cLine) (ha : DE X tb X' G a ma) (hb : DE X tb X' G b mb) (hs : PlainIx b) : DE X tb X' G (.Subscript a b pos) (.dget ma mb) := by
  refine ⟨fun pins s σ H Qv I ⟨Z, ρ, S, Q, m, w, k⟩ => ?_⟩
  refine subD_of PySem.F.slot_dict_getitem.lookup hs (thn (two_run (W := fun x y S2 => dGet S2 x y fun z => Q z S2) ha hb I m w) fun u s1 h => thn h fun u2 s2 ⟨S2, H2, d, d2, v, v2, I2, rv, rv2, x2, sr2, t2, r1, r2, w2⟩ => ?_)
  obtain ⟨p, xs, vs, rfl, rfl, hS, hD, ⟨wd, ts, hH, np, nd, mt⟩, rl⟩ := dct_at sr2 r1 (dGet_ref w2)
  obtain ⟨xs', key, dd, hS', hk, hf, q⟩ := w2
  rw [hS] at hS'; cases hS'
  obtain ⟨bb, rfl⟩ := key_ref r2 hk
  cases rv
  have cell := cell_of I2 hH nd mt rl
  have hkey := rep_key I2 r2 rv2 hk.2.1
  cases rv2
  obtain ⟨pp, v3, hat, rv3, r3⟩ := (mt_find key mt rl).1 dd hf
  refine ⟨cell.typeIs, wpAny_getItem_heap (knd := nestedKind X.prog X.w) (by show X.A.units + 1 + 8 < cLine; omega) ⟨hkey, hk.2.2⟩ cell hat ?_⟩
  exact ⟨v3, H2, I2.tok _, rv3, (k.ext x2).same sr2 t2 r3 q⟩
/-- d.get(k, x) -/
theorem de_dgeto {apos : Pos} (hu : X.A.units + 64 < cLine) (ha : DE X tb X' G a ma) (hb : DE X tb X' G b mb) (hc : DE X tb X' G c mc) (m2 : M2 X a "get" apos b c pos) : DE X tb X' G (.Call (.Attribute a "get" apos) [b, c] [] pos) (.dgeto ma mb mc) := by
  refine ⟨fun pins s σ H Qv I ⟨Z, ρ, S, Q, m, w, k⟩ => ?_⟩
  refine wpAny_Call_method m2.base m2.few m2.line PySem.F.plainAttrs_dict PySem.F.slot_dict_get PySem.F.type_dict_get (thn (ha.run pins s σ H (fun v H1 => ∃ d S1, Ext S H S1 H1 ∧ SRep X.K Z S1 H1 ∧ Tabs tb H1 ∧ Rep X.K Z S1 H1 d v ∧ dRefD S1 d ∧ wE X' G mb ρ S1 fun y S2 => wE X' G mc ρ S2 fun z S3 => dGetO S3 d y z fun d => Q d S3) I ⟨Z, ρ, S, _, m, w, fun d S1 v H1 x1 s1 t1 r1 w1 => ⟨d, S1, x1, s1, t1, r1, w1⟩⟩) fun u s1 ⟨v, H1, I1, rv, d, S1, x1, sr1, t1, r1, wr, w1⟩ => ?_)
  obtain ⟨p, xs, vs, rfl, rfl, hS, hD, ⟨wd, ts, hH, np, nd, mt⟩, rl⟩ := dct_at sr1 r1 wr
  cases rv
  have cell := cell_of I1 hH nd mt rl
  obtain ⟨o, es, ep, h1, h2, h3, _⟩ := id cell
  refine ⟨cell.typeIs, fun b q => ?_, ?_⟩
  · cases q
    exact ⟨o, h1, h2.2.1⟩
  rw [m2.trees]
  refine Calls.callWith_builtin rfl (Calls.evalArgs_plain (Calls.spliced_cons (thn (two_run (W := fun y z S3 => dGetO S3 (.dct p) y z fun d => Q d S3) hb hc I1 (m.go x1 sr1 t1) w1) fun u2 s2 h => Calls.spliced_cons (thn h fun u3 s3 ⟨S3, H3, d2, d3, v2, v3, I3, rv2, rv3, x3, sr3, t3, r2, r3, w3⟩ => Calls.spliced_nil ?_))))
  have rp : Rep X.K Z S3 H3 (.dct p) (.ref p) := .dct (x3.ds _ hD)
  obtain ⟨xs', key, hS', hk, q⟩ := w3
  obtain ⟨p', xs', vs', e1, e2, hS2, hD, ⟨wd, ts, hH, np, nd, mt⟩, rl⟩ := dct_at sr3 rp ⟨_, hS'⟩
  cases e1
  rw [hS2] at hS'; cases hS'
  obtain ⟨bb, rfl⟩ := key_ref r2 hk
  have cell := cell_of I3 hH nd mt rl
  have hkey := rep_key I3 r2 rv2 hk.2.1
  cases rv2
  refine call_meetsIn PySem.F.slot_dict_get cell.typeIs PySem.F.entry_dict_get (PySem.F.args_dict_get_3 _ _ _) (meetsH_dict_get_default (nestedKind X.prog X.w) p bb (beq_sys np) u3) ⟨(by show X.A.units + 1 + 8 < cLine; omega), key, ts, ⟨hkey, hk.2.2⟩, cell, ?_⟩
  have kx := k.ext (x1.trans x3)
  cases hf : dFind key xs' with
  | none =>
    rw [hf] at q
    rw [(mt_find key mt rl).2 hf]
    exact ⟨v3, H3, I3.tok _, rv3, kx.same sr3 t3 r3 q⟩
  | some dd =>
    rw [hf] at q
    obtain ⟨pp, v4, hat, rv4, r4⟩ := (mt_find key mt rl).1 dd hf
    rw [hat]
    exact ⟨v4, H3, I3.tok _, rv4, kx.same sr3 t3 r4 q⟩
/-- d[k] = v -/
def tPut (K : PySem.W.Frag) (tb : List Addr) : TSet := fun o i v H Qv => ∃ Z S x y d Q, SRep K Z S H ∧ Tabs tb H ∧ Rep K Z S H x o ∧ Rep K Z S H y i ∧ Rep K Z S H d v ∧ dPut x y d S Q ∧ ∀ S' H', Ext S H S' H' → SRep K Z S' H' → Tabs tb H' → Q S' → Qv H'
theorem put_set (hu : X.A.units + 64 < cLine) : PSet X (tPut X.K tb) := by
  intro pins s σ H o i v ov iv u Qv I ro ri rv ⟨Z, S, x, y, d, Q, sr, t, rx, ry, rd, w, k⟩
  have wr : dRefD S x := by
    cases x <;> first | exact w.elim | skip
    obtain ⟨xs, k, e, _⟩ := w
    exact ⟨xs, e⟩
  obtain ⟨p, xs, vs, rfl, rfl, hS, hD, ⟨wd, ts, hH, np, nd, mt⟩, rl⟩ := dct_at sr rx wr
  obtain ⟨xs', key, hS', hk, hl, q⟩ := w
  rw [hS] at hS'; cases hS'
  obtain ⟨bb, rfl⟩ := key_ref ry hk
  cases ro
  have cell := cell_of I hH nd mt rl
  have hkey := rep_key I ry ri hk.2.1
  cases ri
  obtain ⟨vs', mt', rl', nd', _⟩ := mt_store hk.2.1 hk.2.2 ry rv rd mt rl nd
  have len := mt_len mt
  refine wpAny_setItem_heap (knd := nestedKind X.prog X.w) (by show X.A.units + 1 + 8 < cLine; omega) ⟨hkey, hk.2.2⟩ cell (fun h' hm' hs => ?_) (by rw [LIM_eq]; unfold LIM; omega)
  obtain ⟨o', es', ep', g1, _⟩ := id hm'
  exact ⟨_, I.write (x := p) (e := p) (o := dctO X.w p (storedH ts key bb u)) (by rw [hH]; trivial) (.inl rfl) (fun b q hb z => (hs.2 b hb).trans z) ⟨o', g1⟩ (dct_ok hm'), k _ _ (Ext.chgD hD hS) (sr.chgD hD hS rl' np nd' mt') (t.chgO sr hS) q⟩
theorem ds_dput {spos : Pos} (hu : X.A.units + 64 < cLine) (ha : DE X tb X' G a ma) (hb : DE X tb X' G b mb) (he : DE X tb X' G e me) (hs1 : swapsWith e (some (.Subscript a b spos)) pos.line X.env = pure false) (hw : swappedStores [.Subscript a b spos] e X.env = pure none)
    (hasg : ∀ v, assign (.Subscript a b spos) X.env v = (do
      let ov ← holding [v] (eval a X.env)
      let iv ← holding [v, ov] (eval b X.env)
      standAt spos
      holding [v, ov, iv] (setItem ov iv v)
      release [v, ov, iv] [])) : DS X tb X' G (.Assign [.Subscript a b spos] e pos) (.dput ma mb me) :=
  PS.weak (ps_asg he (pg_sub ha hb (put_set hu) hasg) hs1 hw rfl) fun Dv σ H ⟨Z, ρ, S, E, m, w, k⟩ =>
    ⟨Z, ρ, S, _, m, w, fun d1 S1 v1 H1 x1 s1 t1 r1 w1 => ⟨Z, ρ, S1, _, m.go x1 s1 t1, w1, fun d2 S2 v2 H2 x2 s2 t2 r2 w2 => ⟨Z, ρ, S2, _, (m.go x1 s1 t1).go x2 s2 t2, w2, fun d3 S3 v3 H3 x3 s3 t3 r3 w3 =>
      ⟨Z, S3, d2, d3, d1, _, s3, t3, r2.ext s2 x3, r3, (r1.ext s1 x2).ext s2 x3, w3, fun S4 H4 x4 s4 t4 w4 =>
        k.nx ρ S4 σ H4 (((x1.trans x2).trans x3).trans x4) (((m.go x1 s1 t1).go (x2.trans x3) s3 t3).go x4 s4 t4) w4⟩⟩⟩⟩
end
end DL

set_option Elab.async false
set_option linter.all false
set_option maxRecDepth 100000
set_option maxHeartbeats 4000000
/-! DL23: sorted(d), the keys planes. -/
namespace DL
open PySem PySem.Spec PyProof.Rows L2 RZ

/-! ### ranks -/
def rkI (B M : Int) (l : List Int) : Int := TS.code B (l.map (· + M))
def In (M : Int) (l : List Int) : Prop := ∀ m ∈ l, -M ≤ m ∧ m ≤ M
theorem In.bd {M : Int} {l : List Int} (h : In M l) : TS.Bd (2 * M + 1) (l.map (· + M)) := fun m hm => by
  obtain ⟨x, hx, rfl⟩ := List.mem_map.mp hm
  have := h x hx
  show 0 ≤ x + M ∧ x + M < 2 * M + 1
  omega
theorem In.tail {M a : Int} {l : List Int} (h : In M (a :: l)) : In M l := fun m hm => h m (List.mem_cons_of_mem _ hm)
theorem rk_same {B M a : Int} {l r : List Int} (hl : l.length = r.length) : rkI B M (a :: l) < rkI B M (a :: r) ↔ rkI B M l < rkI B M r := TS.code_same (by rw [List.length_map, List.length_map]; exact hl)
theorem rk_lt {M a b : Int} {l r : List Int} (hl : l.length = r.length) (h1 : In M l) (h2 : In M r) (h : a < b) : rkI (2 * M + 1) M (a :: l) < rkI (2 * M + 1) M (b :: r) := TS.code_lt (by rw [List.length_map, List.length_map]; exact hl) h1.bd h2.bd (by show a + M < b + M; omega)
theorem rk_le {M : Int} : ∀ {l r : List Int}, l.length = r.length → In M l → In M r → rkI (2 * M + 1) M l ≤ rkI (2 * M + 1) M r → lexLe l r
  | [], _, _, _, _, _ => trivial
  | a :: l, [], h, _, _, _ => by cases h
  | a :: l, b :: r, h, h1, h2, h3 => by
    have hl : l.length = r.length := by simpa using h
    rcases Int.lt_trichotomy a b with c | c | c
    · exact .inl c
    · subst c
      refine .inr ⟨rfl, rk_le hl h1.tail h2.tail ?_⟩
      have := rk_same (B := 2 * M + 1) (M := M) (a := a) hl.symm
      omega
    · have := rk_lt hl.symm h2.tail h1.tail c
      omega
/-- the last number decides between like rows -/
theorem rk_last {B M : Int} : ∀ (l : List Int) (a b : Int), rkI B M (l ++ [a]) < rkI B M (l ++ [b]) ↔ a < b
  | [], a, b => by
    show (a + M) * B ^ 0 + 0 < (b + M) * B ^ 0 + 0 ↔ _
    rw [Int.pow_zero]
    omega
  | x :: l, a, b => by
    rw [List.cons_append, List.cons_append, rk_same (by simp), rk_last l a b]
theorem rk_first {M : Int} : ∀ {l r : List Int} {a b : Int}, l.length = r.length → l ≠ r → In M (l ++ [a]) → In M (r ++ [b]) → (rkI (2 * M + 1) M (l ++ [a]) < rkI (2 * M + 1) M (r ++ [b]) ↔ HT.lexLt l r = true)
  | [], [], _, _, _, h, _, _ => absurd rfl h
  | [], _ :: _, _, _, h, _, _, _ => by cases h
  | _ :: _, [], _, _, h, _, _, _ => by cases h
  | x :: l, y :: r, a, b, h, hn, h1, h2 => by
    have hl : l.length = r.length := by simpa using h
    have hl' : (l ++ [a]).length = (r ++ [b]).length := by simp [hl]
    rw [List.cons_append] at h1 h2 ⊢
    rw [List.cons_append, HT.lexLt_cons]
    by_cases e : x = y
    · subst e
      rw [if_pos rfl, rk_same hl', rk_first hl (fun z => hn (by rw [z])) h1.tail h2.tail]
    · rw [if_neg e, decide_eq_true_eq]
      refine ⟨fun z => ?_, fun z => rk_lt hl' h1.tail h2.tail z⟩
      rcases Int.lt_trichotomy x y with c | c | c
      · exact c
      · exact absurd c e
      · have := rk_lt hl'.symm h2.tail h1.tail c
        omega
/-- a bound for all -/
theorem bound_of : ∀ l : List Int, ∃ M : Int, 0 ≤ M ∧ In M l
  | [] => ⟨0, Int.le_refl 0, fun m hm => by cases hm⟩
  | a :: l => by
    obtain ⟨M, h0, h⟩ := bound_of l
    refine ⟨M + a.natAbs, by omega, fun m hm => ?_⟩
    rcases List.mem_cons.mp hm with rfl | hm
    · omega
    · have := h m hm
      omega

theorem dec_bool {p : Prop} [Decidable p] {b : Bool} (h : p ↔ b = true) : decide p = b := by
  cases b with
  | true => exact decide_eq_true (h.mpr rfl)
  | false => exact decide_eq_false fun z => Bool.false_ne_true (h.mp z)

/-! ### planes in the heap -/
def PlIs (h : Heap) (v : Value) (as : List Int) (b : Int) : Prop := ∃ a a2 xs t, v = .ref a ∧ IsTup h a #[.ref a2, .int b t] ∧ IsTup h a2 xs ∧ IntsAre xs.toList as
theorem PlIs.keeps {h h' : Heap} {v : Value} {as : List Int} {b : Int} (x : PlIs h v as b) (k : ∀ b o, h.get? b = some o → o.cls = .type "tuple" → h'.get? b = some o) : PlIs h' v as b := by
  obtain ⟨a, a2, xs, t, e, ⟨o, ho, hc, hd⟩, ⟨o2, ho2, hc2, hd2⟩, i⟩ := x
  exact ⟨a, a2, xs, t, e, ⟨o, k _ _ ho hc, hc, hd⟩, ⟨o2, k _ _ ho2 hc2, hc2, hd2⟩, i⟩
theorem PlIs.inj {h : Heap} {v : Value} {as as' : List Int} {b b' : Int} (x : PlIs h v as b) (y : PlIs h v as' b') : as = as' ∧ b = b' := by
  obtain ⟨a, a2, xs, t, e, ⟨o, ho, hc, n, hd⟩, ⟨o2, ho2, hc2, n2, hd2⟩, i⟩ := x
  obtain ⟨a', a2', xs', t', e', ⟨o', ho', hc', n', hd'⟩, ⟨o2', ho2', hc2', n2', hd2'⟩, i'⟩ := y
  subst e
  cases e'
  rw [ho] at ho'
  cases ho'
  rw [hd] at hd'
  injection hd' with e1 e2
  have e3 : a2 = a2' ∧ b = b' := by
    have := congrArg Array.toList e1
    simp only [List.cons.injEq, Value.ref.injEq, Value.int.injEq] at this
    exact ⟨this.1, this.2.1.1⟩
  obtain ⟨rfl, rfl⟩ := e3
  rw [ho2] at ho2'
  cases ho2'
  rw [hd2] at hd2'
  injection hd2' with e4 e5
  subst e4
  exact ⟨i.nums.symm.trans i'.nums, rfl⟩
open Classical in
noncomputable def plRk (h : Heap) (M : Int) (v : Value) : Int := if x : ∃ p : List Int × Int, PlIs h v p.1 p.2 then rkI (2 * M + 1) M (x.choose.1 ++ [x.choose.2]) else 0
theorem plRk_of {h : Heap} {M : Int} {v : Value} {as : List Int} {b : Int} (x : PlIs h v as b) : plRk h M v = rkI (2 * M + 1) M (as ++ [b]) := by
  have hx : ∃ p : List Int × Int, PlIs h v p.1 p.2 := ⟨(as, b), x⟩
  unfold plRk
  rw [dif_pos hx]
  obtain ⟨e1, e2⟩ := hx.choose_spec.inj x
  rw [e1, e2]
def numK (as : List Int) : NestedKey := .tup (as.map .num)
theorem ints_key {h : Heap} : ∀ {xs : List Value} {as : List Int}, IntsAre xs as → NestedAll h (as.map .num) xs
  | _, _, .nil => .nil
  | _, _, .cons n t r => .cons (.int n t) (ints_key r)
theorem numK_inj {as bs : List Int} : numK as = numK bs ↔ as = bs := by
  refine ⟨fun h => ?_, fun h => by rw [h]⟩
  injection h with h
  exact List.map_inj_right (fun x y e => by injection e) |>.mp h
theorem depth_num : ∀ as : List Int, NestedKey.depthAll (as.map .num) = 0
  | [] => rfl
  | a :: as => by
    show max 0 (NestedKey.depthAll (as.map .num)) = 0
    rw [depth_num as]; rfl
theorem numK_is {h : Heap} {a : Addr} {xs : Array Value} {as : List Int} (t : IsTup h a xs) (i : IntsAre xs.toList as) {prog : Program} {w : World} : (nestedKind prog w).is h (numK as) a := by
  obtain ⟨o, ho, hc, n, hd⟩ := t
  refine ⟨.tup ho hc hd (ints_key i), ?_⟩
  show NestedKey.depthAll (as.map .num) + 1 ≤ 8
  rw [depth_num]; omega
section
variable {prog : Program} {w : World} {A : Around} {E : Value → Shared → Prop} {s : Shared}
theorem firsts_pl {h : Heap} : ∀ vs : List Value, (∀ v ∈ vs, ∃ as b, PlIs h v as b) → ∃ fs, PySem.W.KatTups h vs fs ∧ fs.length = vs.length ∧ ∀ f ∈ fs, ∃ a2 xs, f = Value.ref a2 ∧ IsTup h a2 xs
  | [], _ => ⟨[], PySem.W.KatTups.nil, rfl, fun f hf => by cases hf⟩
  | v :: vs, x => by
    obtain ⟨fs, k, hl, hi⟩ := firsts_pl vs fun u hu => x u (List.mem_cons_of_mem _ hu)
    obtain ⟨as, b, a, a2, xs, t, rfl, ⟨o, ho, hc, n, hd⟩, t2, i⟩ := x v List.mem_cons_self
    refine ⟨.ref a2 :: fs, PySem.W.KatTups.cons ho hc hd rfl k, by simp [hl], fun f hf => ?_⟩
    rcases List.mem_cons.mp hf with rfl | hf
    · exact ⟨a2, xs, rfl, t2⟩
    · exact hi f hf
theorem kind_pl {vs : List Value} {M : Int} {n : Nat} (hu : A.units + 8 < cLine) (h2 : 2 ≤ vs.length) (x : ∀ v ∈ vs, ∃ as b, PlIs s.heap v as b ∧ as.length = n ∧ In M (as ++ [b])) (r : Value → Int) (hr : ∀ v ∈ vs, ∀ as b, PlIs s.heap v as b → r v = rkI (2 * M + 1) M (as ++ [b])) (Q : SortKind → Shared → Prop)
    (h : ∀ κ, TS.Cmp prog w A s κ (pairsOf vs) r → Q κ s) : wpAny (model prog w) A (keyKind' vs.toArray) Q E s := by
  obtain ⟨fs, k, hl, hi⟩ := firsts_pl vs fun v hv => let ⟨as, b, p, _⟩ := x v hv; ⟨as, b, p⟩
  refine PySem.W.kat_kind (T := Value.type "tuple") k (by omega) (fun f hf => ?_) rfl (h _ ?_)
  · obtain ⟨a2, xs, rfl, o, ho, hc, _⟩ := hi f hf
    rw [← hc]
    exact (PySem.W.Looks.ld ho).andThen .now
  · intro p q hp hq Q' E' hQ
    rw [pairsOf_toList] at hp hq
    obtain ⟨as, b, tp, lp, bp⟩ := x _ (mem_zip_self hp).2
    obtain ⟨cs, d, tq, lq, bq⟩ := x _ (mem_zip_self hq).2
    rw [hr _ (mem_zip_self hp).2 _ _ tp, hr _ (mem_zip_self hq).2 _ _ tq] at hQ
    obtain ⟨a, a2, xs, t, e1, ⟨o, ho, hc, m, hdt⟩, t2, i⟩ := tp
    obtain ⟨a', a2', ys, t', e2, ⟨o', ho', hc', m', hdt'⟩, t2', i'⟩ := tq
    rw [e1, e2]
    refine PySem.W.kat_lt ho hdt ho' hdt' ?_
    show PySem.W.KatLex prog w A (Value.type "tuple" != Value.type "tuple") _ Q' [(Value.ref a2, Value.ref a2'), (Value.int b t, Value.int d t')] 0 s
    rw [show (Value.type "tuple" != Value.type "tuple") = false from rfl]
    refine PySem.W.kat_cons ((nestedKind prog w).eqBool (by show A.units + 8 < cLine; omega) (numK_is t2 i) (numK_is t2' i') ?_)
    by_cases e : as = cs
    · subst e
      rw [decide_eq_true rfl]
      refine PySem.W.kat_yes (PySem.W.kat_cons (wpAny_eqBool_int ?_))
      have hq2 : Q' (decide (b < d)) s := by
        rw [← decide_eq_decide.mpr (rk_last (B := 2 * M + 1) (M := M) as b d)]; exact hQ
      by_cases eb : b = d
      · subst eb
        rw [beq_self_eq_true]
        rw [decide_eq_false (Int.lt_irrefl b)] at hq2
        exact PySem.W.kat_yes (PySem.W.kat_nil hq2)
      · rw [beq_eq_false_iff_ne.mpr eb]
        exact PySem.W.kat_no (TS.oneLt_ints _ hq2)
    · rw [decide_eq_false (fun z => e (numK_inj.mp z))]
      refine PySem.W.kat_no (PySem.W.kat_one _ _ (HT.lt_tupInts t2 t2' i i' (by omega) ?_))
      show Q' (HT.lexLt as cs) s
      have hq2 : decide (rkI (2 * M + 1) M (as ++ [b]) < rkI (2 * M + 1) M (cs ++ [d])) = HT.lexLt as cs := dec_bool (rk_first (lp.trans lq.symm) e bp bq)
      rw [hq2] at hQ
      exact hQ
end

/-! ### rows of keys -/
theorem perm_pair {α β : Type} {R : α → β → Prop} {out vs : List β} (h : out.Perm vs) : ∀ {ks : List α}, Paired R ks vs → ∃ ps, ps.Perm ks ∧ Paired R ps out := by
  induction h with
  | nil => intro ks r; cases r; exact ⟨[], .nil, .nil⟩
  | cons x _ ih =>
    intro ks r
    cases r with
    | cons q r =>
      obtain ⟨ps, h1, h2⟩ := ih r
      exact ⟨_ :: ps, h1.cons _, .cons q h2⟩
  | swap x y l =>
    intro ks r
    cases r with
    | cons q r =>
      cases r with
      | cons q2 r => exact ⟨_, List.Perm.swap _ _ _, .cons q2 (.cons q r)⟩
  | trans _ _ ih1 ih2 =>
    intro ks r
    obtain ⟨ps, h1, h2⟩ := ih2 r
    obtain ⟨qs, h3, h4⟩ := ih1 h2
    exact ⟨qs, h3.trans h1, h4⟩
theorem pair_mem {α β : Type} {R : α → β → Prop} : ∀ {ps : List α} {out : List β}, Paired R ps out → ∀ v ∈ out, ∃ k ∈ ps, R k v
  | _, _, .nil, v, hv => by cases hv
  | _, _, .cons q r, v, hv => by
    rcases List.mem_cons.mp hv with rfl | hv
    · exact ⟨_, List.mem_cons_self, q⟩
    · obtain ⟨k, h1, h2⟩ := pair_mem r v hv
      exact ⟨k, List.mem_cons_of_mem _ h1, h2⟩
theorem pair_mem' {α β : Type} {R : α → β → Prop} : ∀ {ps : List α} {out : List β}, Paired R ps out → ∀ k ∈ ps, ∃ v ∈ out, R k v
  | _, _, .nil, v, hv => by cases hv
  | _, _, .cons q r, v, hv => by
    rcases List.mem_cons.mp hv with rfl | hv
    · exact ⟨_, List.mem_cons_self, q⟩
    · obtain ⟨k, h1, h2⟩ := pair_mem' r v hv
      exact ⟨k, List.mem_cons_of_mem _ h1, h2⟩
theorem pair_pw {α β : Type} {R : α → β → Prop} {F : α → α → Prop} {G : β → β → Prop} : ∀ {ps : List α} {out : List β}, Paired R ps out → (∀ k k' v v', R k v → R k' v' → k ∈ ps → k' ∈ ps → G v v' → F k k') → out.Pairwise G → ps.Pairwise F
  | _, _, .nil, _, _ => List.Pairwise.nil
  | _, _, .cons q r, f, h => by
    rw [List.pairwise_cons] at h ⊢
    refine ⟨fun k hk => ?_, pair_pw r (fun k k' v v' a b hk hk' => f k k' v v' a b (List.mem_cons_of_mem _ hk) (List.mem_cons_of_mem _ hk')) h.2⟩
    obtain ⟨v, hv, rv⟩ := pair_mem' r k hk
    exact f _ _ _ _ q rv List.mem_cons_self (List.mem_cons_of_mem _ hk) (h.1 v hv)
section
variable {X : Cx} {pins : List (Addr × Obj)} {σ : L2.St} {H : Hp} {s : Shared} {Z : Addr → Prop} {S : Sto}
theorem rep_pl (I : Inv X pins σ H s) {as : List Int} {b : Int} {v : V} {u : Value} (r : Rep X.K Z S H (plD as b) v) (ru : RelV v u) : PlIs s.heap u as b := by
  cases r with
  | tup h r =>
    cases r with
    | cons r1 r2 =>
      cases r2 with
      | cons r2 r3 =>
        cases r3
        cases r2
        cases r1 with
        | tup h2 r2 =>
          have e := repInts r2
          subst e
          cases ru
          obtain ⟨its, rv, t1, _⟩ := I.tuple h
          obtain ⟨its2, rv2, t2, _⟩ := I.tuple h2
          cases rv with
          | cons q1 q2 =>
            cases q2 with
            | cons q2 q3 =>
              cases q3
              cases q1
              obtain ⟨t, rfl⟩ := q2
              exact ⟨_, _, _, t, rfl, t1, t2, Vals.ints rv2⟩
/-- a key and the value that stands for it -/
def KeyR (K : PySem.W.Frag) (Z : Addr → Prop) (S : Sto) (H : Hp) (k : List Int × Int) (u : Value) : Prop := ∃ b, u = .ref b ∧ Rep K Z S H (plD k.1 k.2) (.ref b)
theorem mt_refs {K : PySem.W.Frag} : ∀ {xs : List D} {vs : List V} {ts : List (NestedKey × Addr × Value)} {ks : List (List Int × Int)}, Mt xs vs ts → RepL K Z S H xs vs → dKeys xs = ks.map (fun k => plD k.1 k.2) → Paired (KeyR K Z S H) ks (ts.map fun x => Value.ref x.2.1)
  | _, _, _, [], .nil, _, _ => .nil
  | _, _, _, _ :: _, .nil, _, h => by cases h
  | _, _, _, [], .cons _ _ _ _, _, h => by cases h
  | _, _, _, k :: ks, .cons hk hd rv m, .cons r (.cons r2 rr), h => by
    rw [List.map_cons] at h
    injection h with h1 h2
    rw [h1] at r
    exact .cons ⟨_, rfl, r⟩ (mt_refs m rr h2)
theorem keyR_reps {K : PySem.W.Frag} : ∀ {ps : List (List Int × Int)} {out : List Value}, Paired (KeyR K Z S H) ps out → RepL K Z S H (ps.map fun k => plD k.1 k.2) (out.map bkV)
  | _, _, .nil => .nil
  | _, _, .cons ⟨b, e, r⟩ rr => by subst e; exact .cons r (keyR_reps rr)
end
section
variable {X : Cx} {tb : List Addr}
theorem raw_keys {P : Program} {w : World} {es : Array DictEntry} {ts : List (NestedKey × Addr × Value)} {acc : Array Value} (hes : es.toList = ts.map (entryOfKey (nestedKind P w))) (hacc : ItemsOf (fun i v => ∃ hi : i < es.size, v = es[i].key) acc es.size) : acc.toList = ts.map fun x => Value.ref x.2.1 := by
  have hsz : es.size = ts.length := size_of_entries hes
  refine List.ext_getElem? fun j => ?_
  rw [Array.getElem?_toList, List.getElem?_map]
  by_cases hj : j < acc.size
  · obtain ⟨hi, e⟩ := hacc.2 j acc[j] (getElem?_pos acc j hj)
    rw [getElem?_pos acc j hj, e]
    have e2 := entry_at hes j
    rw [getElem?_pos es j hi] at e2
    cases e3 : ts[j]? with
    | none => rw [e3] at e2; cases e2
    | some y =>
      rw [e3] at e2
      have e4 : es[j] = entryOfKey (nestedKind P w) y := Option.some.inj e2
      rw [e4]; rfl
  · rw [getElem?_neg acc j hj, List.getElem?_eq_none (by have := hacc.1; omega)]; rfl
theorem lst_keys {K : PySem.W.Frag} {Z : Addr → Prop} {S : Sto} {H : Hp} : ∀ {ks : List (List Int × Int)} {vs : List V} {us : List Value}, RepL K Z S H (ks.map fun k => plD k.1 k.2) vs → Vals vs us → Paired (KeyR K Z S H) ks us
  | [], _, _, .nil, .nil => .nil
  | k :: ks, _, _, .cons r rr, .cons q qq => by
    have rt := r
    cases rt with
    | tup _ _ =>
      cases q
      exact .cons ⟨_, rfl, r⟩ (lst_keys rr qq)
/-- what sorted collects -/
theorem collect_keys {pins : List (Addr × Obj)} {σ : L2.St} {H : Hp} {s : Shared} {Z : Addr → Prop} {S : Sto} {x : D} {v : V} {Q : D → Sto → Prop} (I : Inv X pins σ H s) (sr : SRep X.K Z S H) (rx : Rep X.K Z S H x v) (w : dSort S x fun z => Q z S) :
    ∃ p ks n acc, v = .ref p ∧ Paired (KeyR X.K Z S H) ks acc ∧ ks.length < 64 ∧ (∀ k ∈ ks, k.1.length = n) ∧ (∀ ps : List (List Int × Int), ps.Perm ks → ps.Pairwise (fun x y => lexLe (x.1 ++ [x.2]) (y.1 ++ [y.2])) → Q (.lst (ps.map fun k => plD k.1 k.2)) S) ∧
      ∀ {A : Around} {E : Value → Shared → Prop} {R : List Value → Shared → Prop}, A.handled = none → (∀ h' tk, (∀ b o, s.heap.get? b = some o → h'.get? b = some o) → R acc { s with heap := h', toks := tk }) → wpAny (model X.prog X.w) A (collect (.ref p)) R E s := by
  cases x <;> first | exact w.elim | skip
  · obtain ⟨n, ks, hks, h64, hn, q⟩ := w
    subst hks
    cases rx with
    | @lst p vs ds h0 hn0 nz r =>
      obtain ⟨its, rv, pl, hz⟩ := I.list (SqL.of h0)
      have pr := lst_keys r rv
      have hl : its.length = ks.length := by rw [← Paired.length pr]
      refine ⟨p, ks, n, its, rfl, pr, h64, hn, q, fun {A E R} _ hR => ?_⟩
      refine collect_list pl.isList ?_ (by rw [hl, LIM_eq]; unfold LIM; omega)
      refine hR _ s.toks fun b o e => ?_
      have hlt : b < s.heap.objs.size := Heap.lt_size e
      rw [Heap.get?_update_ne _ _ _ _ (Nat.ne_of_lt hlt)]
      exact Heap.get?_push_of_some _ e
  · rename_i da
    have wr : dRefD S (.dct da) := by
      obtain ⟨xs, n, ks, e, _⟩ := w
      exact ⟨xs, e⟩
    obtain ⟨p, xs, vs, ex, rfl, hS, hD, ⟨wd, ts, hH, np, nd, mt⟩, rl⟩ := dct_at sr rx wr
    obtain rfl := D.dct.inj ex
    obtain ⟨xs', n, ks, hS', hks, h64, hn, q⟩ := w
    rw [hS] at hS'; cases hS'
    have cell := cell_of I hH nd mt rl
    obtain ⟨ob, es, ep, ho, hx, hdat, hes, _, _⟩ := id cell
    have raw : s.heap.DictRaw da es ep := ⟨ob, ho, hx, hdat⟩
    have pr := mt_refs mt rl hks
    have hlen : ks.length = ts.length := by rw [Paired.length pr, List.length_map]
    have hsz : es.size = ts.length := size_of_entries hes
    refine ⟨da, ks, n, _, rfl, pr, h64, hn, q, fun {A E R} hh hR => ?_⟩
    refine PySem.W.kdu_collect (KdlSrc.rawDict (es := es) (ep := ep) (beq_sys np)) hh raw (by rw [LIM_eq]; unfold LIM; omega) fun h' tk acc hk hacc => ?_
    have eacc : acc.toList = ts.map fun x => Value.ref x.2.1 := raw_keys hes hacc
    rw [eacc]
    exact hR h' tk hk
def rSortD (K : PySem.W.Frag) (tb : List Addr) : List V → Hp → VK → Prop := fun vs H Qv => ∃ Z S x v Q, vs = [v] ∧ SRep K Z S H ∧ Tabs tb H ∧ Rep K Z S H x v ∧ dSort S x (fun z => Q z S) ∧ Aft K tb Z S H Q Qv
theorem cr_sortD (hc : X.calm = true) (hu : X.A.units + 64 < cLine) : CallR X (.builtin "sorted") (rSortD X.K tb) := by
  intro pins s σ H vs us Qv I r ⟨Z, S, x, v, Q, ev, sr, t, rx, w, k⟩
  subst ev
  obtain ⟨p, ks, n, acc, rfl, pr, h64, hn, q, hcol⟩ := collect_keys I sr rx w
  rw [Vals.ref1 r]
  have hh : X.A.handled = none := I.ok.hd hc
  refine Calls.call_function_entry PyProof.Rows.kind_sorted PyProof.Rows.plain_sorted PyProof.Rows.entry_sorted (PyProof.Rows.args_sorted1 _) ?_
  unfold Builtin.«sorted»
  refine wpAny_bind (m := checkCount "sorted" 1 1 _) (wpAny_pure ?_)
  refine wpAny_bind (hcol (A := X.A.in1) hh fun h' tk hk => ?_)
  have I1 : Inv X pins σ H { s with heap := h', toks := tk } := I.kept hk
  have hal : acc.length = ks.length := by rw [← Paired.length pr]
  refine wpAny_bind (wpAny_newList ?_ (by rw [hal, LIM_eq]; unfold LIM; omega))
  have hoL : (h'.push (seqObj "list" acc.toArray 0)).get? h'.objs.size = some (seqObj "list" acc.toArray 0) := Heap.get?_push_size _ rfl
  show wpAny _ _ _ _ _ { s with heap := h'.push (seqObj "list" acc.toArray 0), toks := tk }
  obtain ⟨M, hM, hin⟩ := bound_of (ks.flatMap fun k => k.1 ++ [k.2])
  have keep : ∀ b o, h'.get? b = some o → (h'.push (seqObj "list" acc.toArray 0)).get? b = some o := fun b o e => Heap.get?_push_of_some _ e
  have ne0 : ∀ b o, h'.get? b = some o → b ≠ h'.objs.size := fun b o e => Nat.ne_of_lt (Heap.lt_size e)
  -- what stands at a value
  have pls : ∀ v ∈ acc, ∃ k ∈ ks, KeyR X.K Z S H k v ∧ PlIs h' v k.1 k.2 := fun v hv => by
    obtain ⟨k, hk1, b, rfl, rb⟩ := pair_mem pr v hv
    exact ⟨k, hk1, ⟨b, rfl, rb⟩, rep_pl I1 rb rfl⟩
  have mid : ∀ b o, h'.get? b = some o → o.cls = .type "tuple" → (TS.midHeap (h'.push (seqObj "list" acc.toArray 0)) h'.objs.size acc).get? b = some o := fun b o e _ => TS.midHeap_old (ne0 b o e) (keep b o e)
  have inK : ∀ k ∈ ks, In M (k.1 ++ [k.2]) := fun k hk1 m hm => hin m (List.mem_flatMap.mpr ⟨k, hk1, hm⟩)
  refine wpAny_bind (wpAny_holding (wpAny_call_entry PyProof.Rows.slot_list_sort ⟨_, hoL, rfl⟩ PyProof.Rows.entry_list_sort
    (SK.plain_sort (s := { s with heap := h'.push (seqObj "list" acc.toArray 0), toks := tk }) (r := plRk h' M) hoL (by rw [hal]; omega) (fun h2 Qk hQk => ?_) fun ps out o1 o2 o3 => ⟨_, rfl, ?_⟩)
    (PyProof.Rows.args_list_sort _)))
  · refine kind_pl (s := { s with heap := TS.midHeap (h'.push (seqObj "list" acc.toArray 0)) h'.objs.size acc, toks := tk }) (M := M) (n := n) (by show X.A.units + 1 + 1 + 8 < cLine; omega) h2 (fun v hv => ?_) _ (fun v hv as b hp => ?_) Qk hQk
    · obtain ⟨k, hk1, _, hp⟩ := pls v hv
      exact ⟨k.1, k.2, hp.keeps mid, hn k hk1, inK k hk1⟩
    · obtain ⟨k, hk1, _, hp'⟩ := pls v hv
      obtain ⟨e1, e2⟩ := hp.inj (hp'.keeps mid)
      rw [e1, e2]
      exact plRk_of hp'
  · obtain ⟨g1, g2⟩ := TS.out_rank o1 o2 o3
    obtain ⟨qs, p1, p2⟩ := perm_pair g1 pr
    have hsort : qs.Pairwise (fun x y => lexLe (x.1 ++ [x.2]) (y.1 ++ [y.2])) := by
      refine pair_pw p2 (fun k k' v v' ⟨b, eb, rb⟩ ⟨b', eb', rb'⟩ hk1 hk2 hle => ?_) g2
      have m1 := p1.mem_iff.mp hk1
      have m2 := p1.mem_iff.mp hk2
      subst eb
      subst eb'
      rw [plRk_of (rep_pl I1 rb rfl), plRk_of (rep_pl I1 rb' rfl)] at hle
      exact rk_le (by rw [List.length_append, List.length_append, hn k m1, hn k' m2]; rfl) (inK k m1) (inK k' m2) hle
    obtain ⟨e', he'⟩ := PyProof.Rows.sortedHeap_at (vs := acc) (out := out) hoL
    have refs : ∀ u ∈ out.toList, ∃ a, u = Value.ref a := fun u hu' => by
      obtain ⟨k, _, b, e, _⟩ := pair_mem p2 u hu'
      exact ⟨b, e⟩
    have hl2 : (out.toList.map bkV).length ≤ sizeLine := by
      rw [List.length_map, g1.length_eq, hal, LIM_eq]; unfold LIM; omega
    refine wpAny_pure ⟨_, rfl, .ref h'.objs.size, upd H h'.objs.size (.lst (out.toList.map bkV)), I1.laid (t' := tk) (fun b u e => ?_) (Nat.le_refl _)
      (show ObjOk X.prog X.w _ _ _ (.lst (out.toList.map bkV)) from ⟨hl2, out.toList, e', bkV_vals refs, by rw [Array.toArray_toList]; exact he'⟩), rfl,
      k.lst sr t (keyR_reps p2) (q qs p1 hsort) (I1.hok.fresh (Nat.le_refl _))⟩
    have hb : b < h'.objs.size := Heap.lt_size e
    rw [PyProof.Rows.sortedHeap_old (Nat.ne_of_lt hb) (by rw [size_push']; exact Nat.lt_succ_of_lt hb)]
    exact Heap.get?_push_of_some _ e
end
section
variable {X : Cx} {tb : List Addr} {X' : Mod'} {G : Fns} {a : Expr} {ma : M} {pos : Pos}
theorem boot_srt : bootBuiltins ("sorted" : Str) = some (.builtin "sorted") := by decide +kernel
theorem de_dsort {p : Pos} (hc : X.calm = true) (hu : X.A.units + 64 < cLine) (hg : Gl X "sorted") (hm : X.mg "sorted" = none) (ha : DE X tb X' G a ma) (he : starEach [a] X.env = (false, eval a X.env) :: starEach [] X.env) :
    DE X tb X' G (.Call (.Name "sorted" p) [a] [] pos) (.dsort ma) :=
  PE.weak (pe_callB (cr_sortD (X := X) (tb := tb) hc hu) hg hm boot_srt (da_cons ha da_nil he) (by decide +kernel) (by decide +kernel) he (by rfl)) fun σ H Qv ⟨Z, ρ, S, Q, m, w, k⟩ =>
    ⟨Z, ρ, S, fun ds S1 => match ds with | [d] => dSort S1 d (fun z => Q z S1) | _ => False, m, (show wE X' G ma ρ S fun d S1 => dSort S1 d fun z => Q z S1 from w), fun ds S1 vs H1 x1 s1 t1 r1 w1 => by
      cases r1 with
      | nil => exact w1.elim
      | cons r1 r2 =>
        cases r2 with
        | nil => exact ⟨Z, S1, _, _, Q, rfl, s1, t1, r1, w1, k.ext x1⟩
        | cons _ _ => exact w1.elim⟩

/-! ### list(d), tuple(range(n)) -/
theorem mt_dkeys {K : PySem.W.Frag} {Z : Addr → Prop} {S : Sto} {H : Hp} : ∀ {xs : List D} {vs : List V} {ts : List (NestedKey × Addr × Value)}, Mt xs vs ts → RepL K Z S H xs vs → RepL K Z S H (dKeys xs) (ts.map fun x => V.ref x.2.1)
  | _, _, _, .nil, _ => .nil
  | _, _, _, .cons _ _ _ m, .cons r (.cons _ rr) => .cons r (mt_dkeys m rr)
theorem refs_vals : ∀ ts : List (NestedKey × Addr × Value), Vals (ts.map fun x => V.ref x.2.1) (ts.map fun x => Value.ref x.2.1)
  | [] => .nil
  | _ :: ts => .cons rfl (refs_vals ts)
def rListD (K : PySem.W.Frag) (tb : List Addr) : List V → Hp → VK → Prop := fun vs H Qv => ∃ Z S x v Q, vs = [v] ∧ SRep K Z S H ∧ Tabs tb H ∧ Rep K Z S H x v ∧ dList S x (fun z => Q z S) ∧ Aft K tb Z S H Q Qv
theorem cr_listD (hc : X.calm = true) : CallR X (.type "list") (rListD X.K tb) := by
  intro pins s σ H vs us Qv I r ⟨Z, S, x, v, Q, ev, sr, t, rx, w, k⟩
  subst ev
  have wr : dRefD S x := by
    cases x <;> first | exact w.elim | skip
    obtain ⟨xs, e, _⟩ := w
    exact ⟨xs, e⟩
  obtain ⟨p, xs, vs, rfl, rfl, hS, hD, ⟨wd, ts, hH, np, nd, mt⟩, rl⟩ := dct_at sr rx wr
  obtain ⟨xs', hS', hl, q⟩ := w
  rw [hS] at hS'; cases hS'
  rw [Vals.ref1 r]
  have cell := cell_of I hH nd mt rl
  obtain ⟨ob, es, ep, ho, hx, hdat, hes, _, _⟩ := id cell
  have raw : s.heap.DictRaw p es ep := ⟨ob, ho, hx, hdat⟩
  have hsz : es.size = ts.length := size_of_entries hes
  have lts := mt_len mt
  have hln : (ts.map fun x => V.ref x.2.1).length ≤ sizeLine := by rw [List.length_map, LIM_eq]; unfold LIM; omega
  refine PySem.W.kdl_call (KdlSrc.rawDict (es := es) (ep := ep) (beq_sys np)) (I.ok.hd hc) raw (by rw [LIM_eq]; unfold LIM; omega) fun h' tk acc c' hk hD2 hacc => ?_
  have eacc : acc.toList = ts.map fun x => Value.ref x.2.1 := raw_keys hes hacc
  exact ⟨.ref s.heap.objs.size, upd H s.heap.objs.size (.lst (ts.map fun x => V.ref x.2.1)), I.laid (t' := tk) hk (Nat.le_refl _)
    (show ObjOk X.prog X.w _ _ _ (.lst (ts.map fun x => V.ref x.2.1)) from ⟨hln, acc.toList, c', by rw [eacc]; exact refs_vals ts, by rw [Array.toArray_toList]; exact hD2⟩), rfl, k.lst sr t (mt_dkeys mt rl) q (I.hok.fresh (Nat.le_refl _))⟩
theorem de_dlist {p : Pos} (hc : X.calm = true) (hg : Gl X "list") (hm : X.mg "list" = none) (ha : DE X tb X' G a ma) (he : starEach [a] X.env = (false, eval a X.env) :: starEach [] X.env) :
    DE X tb X' G (.Call (.Name "list" p) [a] [] pos) (.dlist ma) :=
  PE.weak (pe_callTy (cr_listD (X := X) (tb := tb) hc) hg hm (boot_bi (.list false)) (da_cons ha da_nil he) (by decide +kernel) (by decide +kernel) he (by rfl)) fun σ H Qv ⟨Z, ρ, S, Q, m, w, k⟩ =>
    ⟨Z, ρ, S, fun ds S1 => match ds with | [d] => dList S1 d (fun z => Q z S1) | _ => False, m, (show wE X' G ma ρ S fun d S1 => dList S1 d fun z => Q z S1 from w), fun ds S1 vs H1 x1 s1 t1 r1 w1 => by
      cases r1 with
      | nil => exact w1.elim
      | cons r1 r2 =>
        cases r2 with
        | nil => exact ⟨Z, S1, _, _, Q, rfl, s1, t1, r1, w1, k.ext x1⟩
        | cons _ _ => exact w1.elim⟩
theorem rg_rep {K : PySem.W.Frag} {Z : Addr → Prop} {S : Sto} {H : Hp} (i : Int) : RepL K Z S H (rangeD 0 i) (rgV 0 i) := by
  unfold rangeD rgV
  have : ∀ l : List Nat, RepL K Z S H (l.map fun (k : Nat) => D.int (0 + k)) (l.map fun (k : Nat) => V.int (0 + (k : Nat))) := fun l => by
    induction l with
    | nil => exact .nil
    | cons a l ih => exact .cons (.int _) ih
  exact this _
theorem de_trng {p p2 pos2 : Pos} (hc : X.calm = true) (hg : Gl X "tuple") (hm : X.mg "tuple" = none) (hg2 : Gl X "range") (hm2 : X.mg "range" = none) (ha : DE X tb X' G a ma) (he : starEach [a] X.env = (false, eval a X.env) :: starEach [] X.env) :
    DE X tb X' G (.Call (.Name "tuple" p) [.Call (.Name "range" p2) [a] [] pos2] [] pos) (.trng ma) :=
  PE.weak (pe_tupRg hc hg hm (prg_1 hg2 hm2 ha he)) fun σ H Qv ⟨Z, ρ, S, Q, m, w, k⟩ => ⟨Z, ρ, S, _, m, w, fun d S1 v H1 x1 s1 t1 r1 w1 => by
    cases r1 <;> first | exact w1.elim | skip
    obtain ⟨h0, h1, q⟩ := w1
    unfold LIM at h1
    exact ⟨_, rfl, RgOk.of_le (by decide) (by omega) (by decide) h0, fun p hp => (k.ext x1).tup s1 t1 (rg_rep _) q hp⟩⟩
end
end DL

set_option Elab.async false
set_option linter.all false
set_option maxRecDepth 100000
set_option maxHeartbeats 8000000
/-! DL8: what was made of the text asks enough. -/
namespace DL
open PySem PySem.Spec PyProof.Rows L2 RZ

/-! ### names -/
theorem ixS_get {x : Str} : ∀ {N : List Str} {i : Nat}, ixS x N = some i → N[i]? = some x
  | [], _, h => by cases h
  | y :: r, i, h => by
    unfold ixS at h
    by_cases e : x = y
    · rw [if_pos e] at h; cases h; simp [e]
    · rw [if_neg e] at h
      obtain ⟨j, hj, rfl⟩ := Option.map_eq_some_iff.mp h
      simpa using ixS_get hj
theorem lkS_mem {α : Type} {x : Str} : ∀ {l : List (Str × α)} {a : α}, lkS x l = some a → (x, a) ∈ l
  | [], _, h => by cases h
  | (y, b) :: r, a, h => by
    unfold lkS at h
    by_cases e : x = y
    · rw [if_pos e] at h; cases h; rw [e]; exact List.mem_cons_self
    · rw [if_neg e] at h; exact List.mem_cons_of_mem _ (lkS_mem h)
theorem visB_vis {sc : Scope} {x : Str} (h : visB sc x = true) : Vis sc x := by
  unfold visB at h
  unfold Vis
  split at h <;> first | exact .inl (by assumption) | exact .inr (.inl (by assumption)) | exact .inr (.inr (by assumption)) | cases h
theorem locB_loc {sc : Scope} {x : Str} (h : locB sc x = true) : sc.names.lookup x = some .local ∨ sc.names.lookup x = some .cell := by
  unfold locB at h
  split at h <;> first | exact .inl (by assumption) | exact .inr (by assumption) | cases h
theorem glB_gl {sc : Scope} {x : Str} (h : glB sc x = true) : sc.names.lookup x = some .globalImplicit := by
  unfold glB at h
  split at h <;> first | assumption | cases h
theorem okN_d {x : Str} (h : okN x = true) : (x == ("__debug__" : Str)) = false ∧ (x == ("__classdict__" : Str)) = false := by
  unfold okN at h
  rw [Bool.and_eq_true] at h
  exact ⟨by simpa using h.1, by simpa using h.2⟩
theorem bo_op {big : Bool} {o : Operator} {b : BO} (h : boOf big o = some b) : o = b.op ∧ (big = false → b ≠ .fdiv) := by
  cases big <;> (unfold boOf at h; split at h <;> cases h <;> refine ⟨rfl, fun e z => ?_⟩ <;> first | (cases e; done) | (cases z; done))
theorem co_op {o : CmpOp} {b : CO} (h : coOf o = some b) : o = b.op := by
  unfold coOf at h
  split at h <;> cases h <;> rfl
theorem lms_ok {x : Str} {m : LM} (h : lkS x lms = some m) : x = m.nm := by
  have := lkS_mem h
  unfold lms at this
  simp only [List.mem_cons, Prod.mk.injEq, List.not_mem_nil, or_false] at this
  rcases this with ⟨rfl, rfl⟩ | ⟨rfl, rfl⟩ | ⟨rfl, rfl⟩ <;> rfl
theorem tns_ok {x : Str} {t : TN} (h : lkS x tns = some t) : x = t.nm := by
  have := lkS_mem h
  unfold tns at this
  simp only [List.mem_cons, Prod.mk.injEq, List.not_mem_nil, or_false] at this
  rcases this with ⟨rfl, rfl⟩ | ⟨rfl, rfl⟩ | ⟨rfl, rfl⟩ | ⟨rfl, rfl⟩ <;> rfl
theorem bis_ok {x : Str} {b : BI} (h : lkS x bis = some b) : x = b.nm := by
  have := lkS_mem h
  unfold bis at this
  simp only [List.mem_cons, Prod.mk.injEq, List.not_mem_nil, or_false] at this
  rcases this with ⟨rfl, rfl⟩ | ⟨rfl, rfl⟩ | ⟨rfl, rfl⟩ | ⟨rfl, rfl⟩ | ⟨rfl, rfl⟩ | ⟨rfl, rfl⟩ | ⟨rfl, rfl⟩ | ⟨rfl, rfl⟩ <;> rfl
theorem bis2_ok {x : Str} {b : BI} (h : lkS x bis2 = some b) : x = b.nm := by
  have := lkS_mem h
  unfold bis2 at this
  simp only [List.mem_cons, Prod.mk.injEq, List.not_mem_nil, or_false] at this
  rcases this with ⟨rfl, rfl⟩ | ⟨rfl, rfl⟩ <;> rfl
theorem bi_in : ∀ b : BI, b.nm ∈ bnames
  | .abs => by simp [bnames, BI.nm]
  | .len => by simp [bnames, BI.nm]
  | .int => by simp [bnames, BI.nm]
  | .tuple => by simp [bnames, BI.nm]
  | .list _ => by simp [bnames, BI.nm]
  | .sum => by simp [bnames, BI.nm]
  | .max => by simp [bnames, BI.nm]
  | .min => by simp [bnames, BI.nm]
theorem tn_in : ∀ b : TN, b.nm ∈ bnames
  | .int => by simp [bnames, TN.nm]
  | .bool => by simp [bnames, TN.nm]
  | .str => by simp [bnames, TN.nm]
  | .tuple => by simp [bnames, TN.nm]

/-! ### the context -/
structure ModD where
  fa : Nat → Addr
  fd : Nat → FuncData
  ps : Nat → List Str
structure GOk (X : Cx) (tb : List Addr) (T : Tab) (X' : Mod') (G : Fns) (Md : ModD) (lev : Nat) : Prop where
  fn : ∀ x f, lkS x T.fns = some f → X.mg x = some (.ref (Md.fa f)) ∧ PySem.W.keepIn X.K (.ref (Md.fa f)) = true ∧ Binds X.K (Md.fd f) (Md.ps f) [] ∧ FnOk X.prog X.w X.K X.mg X.base CX0 lev (Md.fa f) (Md.fd f) (Md.ps f) (spD X.K tb G f)
  kw : ∀ (kp f n : Nat) (ks : List Str) (p : List Nat), T.kws[kp]? = some (f, n, ks, p) → KBinds X.K (Md.fd f) (Md.ps f) ks (arr n ks.length p) (arr n ks.length p) ∧ X'.kps[kp]? = some (n, ks.length, p)
  ct : ∀ x i, lkS x T.consts = some i → ∃ (u : Value) (v : V) (d : D), X.mg x = some u ∧ RelV v u ∧ X'.consts[i]? = some d ∧ ∀ Z S H, Rep X.K Z S H d v
  bi : ∀ x ∈ bnames, X.mg x = none
  room : Room lev X.A
/-- what a division by _pylong asks of the context -/
structure Seer (X : Cx) : Prop where
  ns : X.base.NoSeer
  tree : X.prog.given.tree = none
  stk : ∃ env l, X.stack = env :: l ∧ env.scope.isGenerator = false ∧ env.scope.isCoroutine = false ∧ env.builtins = builtinsNs ∧ env.globals = mainGlobals
  dep : X.A.depth + Builtin.pylongFrames < recursionLimit
theorem Seer.room {X : Cx} (h : Seer X) : PyRoom X := fun pins s σ H I => by
  obtain ⟨env, l, e, h1, h2, h3, h4⟩ := h.stk
  exact PylongRoom.of I.nolimit h.dep (SeerAt.of (h.ns.keeps I.bk) h.tree (by rw [I.ok.frames, e]) h1 h2 h3 h4)
structure XOk (X : Cx) (tb : List Addr) (lev : Nat) (N : List Str) (sc : Scope) (big : Bool) : Prop where
  gx : big = true → gxB N = true → Room (lev + 6) X.A ∧ ∃ cA P, GxR.TabB X.base X.mg cA P ∧ P ∈ tb ∧ X.env.code = .ref cA
  hN : X.N = N
  nd : N.Nodup
  hsc : X.env.scope = sc
  calm : X.calm = true
  py : big = true → Seer X
/-- where a target may store -/
def StOk (X : Cx) (sc0 : Scope) : Prop := ∀ x, locB sc0 x = true → Loc X.env.scope x ∧ (X.fn x = true ∨ X.env.scope.names.lookup x = some .local)

section
variable {tb : List Addr} {T : Tab} {X' : Mod'} {G : Fns} {Md : ModD} {lev : Nat} {N : List Str}
theorem GOk.blk {X : Cx} (g : GOk X tb T X' G Md lev) (s : Shared) (H : Hp) (scope : Scope) (env : Env) (fp : List Addr) : GOk (X.blk s H scope env fp) tb T X' G Md lev := ⟨g.fn, g.kw, g.ct, g.bi, g.room⟩
theorem Seer.blk {X : Cx} (g : Seer X) (s : Shared) (H : Hp) (scope : Scope) (env : Env) (fp : List Addr) : Seer (X.blk s H scope env fp) := ⟨g.ns, g.tree, g.stk, g.dep⟩
theorem XOk.blk {X : Cx} {sc : Scope} {big : Bool} (x : XOk X tb lev N sc big) (s : Shared) (H : Hp) (scope : Scope) (C : Addr) (cl : List (Str × Addr)) (fp : List Addr) : XOk (X.blk s H scope (compEnvC scope cl C X.env) fp) tb lev N (relS scope sc) big :=
  ⟨x.gx, x.hN, x.nd, by rw [← x.hsc]; rfl, x.calm, fun h => (x.py h).blk s H scope _ fp⟩
theorem StOk.blk {X : Cx} {sc : Scope} {big : Bool} (x : XOk X tb lev N sc big) (s : Shared) (H : Hp) (scope : Scope) (C : Addr) (cl : List (Str × Addr)) (fp : List Addr) : StOk (X.blk s H scope (compEnvC scope cl C X.env) fp) scope := fun y h => by
  have e : (X.blk s H scope (compEnvC scope cl C X.env) fp).env.scope = relS scope X.env.scope := rfl
  rcases locB_loc h with h | h
  · have h2 : (relS scope X.env.scope).names.lookup y = some .local := lookup_relS_keep (by decide) h
    exact ⟨.inl (by rw [e]; exact h2), .inr (by rw [e]; exact h2)⟩
  · have h2 : (relS scope X.env.scope).names.lookup y = some .cell := lookup_relS_keep (by decide) h
    refine ⟨.inr (by rw [e]; exact h2), .inl ?_⟩
    show (scope.names.lookup y == some NameKind.cell) = true
    rw [h]; rfl

/-! ### the pieces of text -/
theorem trE_star {n : Nat} {big : Bool} {sc : Scope} {e : Expr} {m : M} (h : trE T N n big sc e = some m) : ∀ (es : List Expr) (env : Env), starEach (e :: es) env = (false, eval e env) :: starEach es env := by
  intro es env
  cases n with
  | zero => cases h
  | succ n => cases e <;> first | rfl | (simp [trE] at h)
theorem trL_plain {n : Nat} {big : Bool} {sc : Scope} : ∀ {es : List Expr} {m : M}, trL (trE T N n big sc) es = some m → ∀ (env : Env) (pos : Pos), (backTo pos (starEach es env)).any (·.1) = false
  | [], _, _, _, _ => rfl
  | e :: es, m, h, env, pos => by
    unfold trL at h
    obtain ⟨m1, h1, h⟩ := Option.bind_eq_some_iff.mp h
    obtain ⟨m2, h2, h⟩ := Option.bind_eq_some_iff.mp h
    rw [trE_star h1]
    show (false || (backTo pos (starEach es env)).any (·.1)) = false
    rw [trL_plain h2, Bool.or_false]
theorem trL_allF {n : Nat} {big : Bool} {sc : Scope} : ∀ {es : List Expr} {m : M}, trL (trE T N n big sc) es = some m → ∀ (env : Env) (pos : Pos), (backTo pos (starEach es env)).all (fun x => !x.1) = true
  | [], _, _, _, _ => rfl
  | e :: es, m, h, env, pos => by
    unfold trL at h
    obtain ⟨m1, h1, h⟩ := Option.bind_eq_some_iff.mp h
    obtain ⟨m2, h2, h⟩ := Option.bind_eq_some_iff.mp h
    rw [trE_star h1]
    show (!false && (backTo pos (starEach es env)).all (fun x => !x.1)) = true
    rw [trL_allF h2]; rfl
theorem trE_ix {n : Nat} {big : Bool} {sc : Scope} {e : Expr} {m : M} (h : trE T N n big sc e = some m) : PlainIx e := by
  cases n with
  | zero => cases h
  | succ n => cases e <;> first | (intro o i; rfl) | (simp [trE] at h)
theorem trE_aug {n : Nat} {big : Bool} {sc : Scope} {e : Expr} {m : M} (h : trE T N n big sc e = some m) : ∀ ov iv new, augStore e ov iv new = (do holding [new, ov, iv] (setItem ov iv new); release [new, ov, iv] []; pure .next) := by
  cases n with
  | zero => cases h
  | succ n => cases e <;> first | (intro o i w; rfl) | (simp [trE] at h)
theorem trE_set {n : Nat} {big : Bool} {sc : Scope} {e : Expr} {m : M} (h : trE T N n big sc e = some m) : ∀ env x, foldedSetIterable e env x = pure x := by
  cases n with
  | zero => cases h
  | succ n => cases e <;> first | (intro o i; rfl) | (simp [trE] at h)
theorem trE_mark {n : Nat} {big : Bool} {sc : Scope} {e : Expr} {m : M} (h : trE T N n big sc e = some m) (op : CmpOp) : behindInMarks op e = false := by
  cases n with
  | zero => cases h
  | succ n => cases e <;> first | rfl | (simp [trE] at h)
theorem da_of {X : Cx} {n : Nat} {big : Bool} {sc : Scope} (ih : ∀ e m, trE T N n big sc e = some m → DE X tb X' G e m) : ∀ {es : List Expr} {m : M}, trL (trE T N n big sc) es = some m → DA X tb X' G es m
  | [], m, h => by cases h; exact da_nil
  | e :: es, m, h => by
    unfold trL at h
    obtain ⟨m1, h1, h⟩ := Option.bind_eq_some_iff.mp h
    obtain ⟨m2, h2, h⟩ := Option.bind_eq_some_iff.mp h
    cases h
    exact da_cons (ih _ _ h1) (da_of ih h2) (trE_star h1 es X.env)
theorem dk_of {X : Cx} {n : Nat} {big : Bool} {sc : Scope} (ih : ∀ e m, trE T N n big sc e = some m → DE X tb X' G e m) : ∀ {es : List Keyword} {m : M}, trK (trE T N n big sc) es = some m → DK X tb X' G es m
  | [], m, h => by cases h; exact dk_nil
  | ⟨some nm, e, kp⟩ :: es, m, h => by
    unfold trK at h
    obtain ⟨m1, h1, h⟩ := Option.bind_eq_some_iff.mp h
    obtain ⟨m2, h2, h⟩ := Option.bind_eq_some_iff.mp h
    cases h
    exact dk_cons (ih _ _ h1) (dk_of ih h2)
  | ⟨none, e, kp⟩ :: es, m, h => by cases h
theorem trK_names {n : Nat} {big : Bool} {sc : Scope} : ∀ {es : List Keyword} {m : M}, trK (trE T N n big sc) es = some m → ∀ (env : Env) (pos : Pos), (backToKw pos (keywordEach es env)).all (·.1.isSome) = true ∧ (backToKw pos (keywordEach es env)).filterMap (·.1) = kwNames es ∧ (backToKw pos (keywordEach es env)).any (·.1.isNone) = false
  | [], m, h, _, _ => ⟨rfl, rfl, rfl⟩
  | ⟨some nm, e, kp⟩ :: es, m, h, env, pos => by
    unfold trK at h
    obtain ⟨m1, h1, h⟩ := Option.bind_eq_some_iff.mp h
    obtain ⟨m2, h2, h⟩ := Option.bind_eq_some_iff.mp h
    obtain ⟨a1, a2, a3⟩ := trK_names h2 env pos
    refine ⟨?_, ?_, ?_⟩
    · show (true && (backToKw pos (keywordEach es env)).all (·.1.isSome)) = true
      rw [a1]; rfl
    · show nm :: (backToKw pos (keywordEach es env)).filterMap (·.1) = nm :: kwNames es
      rw [a2]
    · show (false || (backToKw pos (keywordEach es env)).any (·.1.isNone)) = false
      rw [a3]; rfl
  | ⟨none, e, kp⟩ :: es, m, h, _, _ => by cases h
theorem kwIx_get {f n : Nat} {ks : List Str} : ∀ {l : List (Nat × Nat × List Str × List Nat)} {i kp : Nat}, kwIx f n ks l i = some kp → ∃ j p, kp = i + j ∧ l[j]? = some (f, n, ks, p)
  | [], _, _, h => by cases h
  | (f', n', ks', p) :: r, i, kp, h => by
    unfold kwIx at h
    split at h
    · rename_i e
      cases h
      obtain ⟨rfl, rfl, rfl⟩ := e
      exact ⟨0, p, rfl, rfl⟩
    · obtain ⟨j, p', e, h'⟩ := kwIx_get h
      exact ⟨j + 1, p', by omega, h'⟩
theorem fold_and {X : Cx} {n : Nat} {big : Bool} {sc : Scope} {pos : Pos} (ih : ∀ e m, trE T N n big sc e = some m → DE X tb X' G e m) : ∀ {es : List Expr} {m : M}, fold2 .and (trE T N n big sc) es = some m → DE X tb X' G (.BoolOp .And es pos) m
  | [], m, h => by cases h
  | [e], m, h => de_one (ih _ _ h)
  | e :: e2 :: es, m, h => by
    unfold fold2 at h
    obtain ⟨m1, h1, h⟩ := Option.bind_eq_some_iff.mp h
    obtain ⟨m2, h2, h⟩ := Option.bind_eq_some_iff.mp h
    cases h
    exact de_and (ih _ _ h1) (fold_and ih h2)
theorem fold_or {X : Cx} {n : Nat} {big : Bool} {sc : Scope} {pos : Pos} (ih : ∀ e m, trE T N n big sc e = some m → DE X tb X' G e m) : ∀ {es : List Expr} {m : M}, fold2 .or (trE T N n big sc) es = some m → DE X tb X' G (.BoolOp .Or es pos) m
  | [], m, h => by cases h
  | [e], m, h => de_one (ih _ _ h)
  | e :: e2 :: es, m, h => by
    unfold fold2 at h
    obtain ⟨m1, h1, h⟩ := Option.bind_eq_some_iff.mp h
    obtain ⟨m2, h2, h⟩ := Option.bind_eq_some_iff.mp h
    cases h
    exact de_or (ih _ _ h1) (fold_or ih h2)
theorem fold_andT {X : Cx} {n : Nat} {big : Bool} {sc : Scope} {pos : Pos} (ih : ∀ e m, trT T N n big sc e = some m → DT X tb X' G e m) : ∀ {es : List Expr} {m : M}, fold2 .and (trT T N n big sc) es = some m → DW X tb X' G (.BoolOp .And es pos) m
  | [], m, h => by cases h
  | [e], m, h => dw_and1 (ih _ _ h)
  | e :: e2 :: es, m, h => by
    unfold fold2 at h
    obtain ⟨m1, h1, h⟩ := Option.bind_eq_some_iff.mp h
    obtain ⟨m2, h2, h⟩ := Option.bind_eq_some_iff.mp h
    cases h
    exact dw_and (ih _ _ h1) (fold_andT ih h2)
theorem fold_orT {X : Cx} {n : Nat} {big : Bool} {sc : Scope} {pos : Pos} (ih : ∀ e m, trT T N n big sc e = some m → DT X tb X' G e m) : ∀ {es : List Expr} {m : M}, fold2 .or (trT T N n big sc) es = some m → DW X tb X' G (.BoolOp .Or es pos) m
  | [], m, h => by cases h
  | [e], m, h => dw_or1 (ih _ _ h)
  | e :: e2 :: es, m, h => by
    unfold fold2 at h
    obtain ⟨m1, h1, h⟩ := Option.bind_eq_some_iff.mp h
    obtain ⟨m2, h2, h⟩ := Option.bind_eq_some_iff.mp h
    cases h
    exact dw_or (ih _ _ h1) (fold_orT ih h2)
/-! ### targets -/
theorem trG_star {n : Nat} {sc : Scope} {e : Expr} {t : TT'} (h : trG N sc n e = some t) : ∀ (es : List Expr) (env : Env), assignEach (e :: es) env = (false, assign e env) :: assignEach es env := by
  intro es env
  cases n with
  | zero => cases h
  | succ n => cases e <;> first | rfl | (simp [trG] at h)
theorem goG_facts {n : Nat} {sc : Scope} : ∀ {es : List Expr} {t : TT'}, trG.go (trG N sc n) es = some t → ∀ env, (assignEach es env).length = tlen t ∧ (assignEach es env).findIdx? (·.1) = none
  | [], t, h, env => by cases h; exact ⟨rfl, rfl⟩
  | e :: es, t, h, env => by
    unfold trG.go at h
    obtain ⟨m1, h1, h⟩ := Option.bind_eq_some_iff.mp h
    obtain ⟨m2, h2, h⟩ := Option.bind_eq_some_iff.mp h
    cases h
    obtain ⟨a1, a2⟩ := goG_facts h2 env
    rw [trG_star h1]
    refine ⟨by rw [List.length_cons, a1]; rfl, ?_⟩
    rw [List.findIdx?_cons]
    simp [a2]
mutual
theorem trG_ok {X : Cx} {sc0 : Scope} (hN : X.N = N) (nd : N.Nodup) (hc : X.calm = true) (st : StOk X sc0) : ∀ (n : Nat) {e : Expr} {t : TT'}, trG N sc0 n e = some t → DG X e t
  | 0, _, _, h => by cases h
  | n + 1, e, t, h => by
    unfold trG at h
    split at h
    · cases h
    · rename_i x _ _
      split at h
      · rename_i hl
        obtain ⟨i, hi, rfl⟩ := Option.map_eq_some_iff.mp h
        obtain ⟨h1, h2⟩ := st x hl
        exact dg_name (by rw [hN]; exact nd) (by rw [hN]; exact ixS_get hi) h1 h2
      · cases h
    · rename_i es _ _ _ heq
      try cases heq
      obtain ⟨u, hu, rfl⟩ := Option.map_eq_some_iff.mp h
      obtain ⟨a1, a2⟩ := goG_facts hu X.env
      exact dg_tup hc (goG_ok hN nd hc st n hu) a1 a2
    · cases h
theorem goG_ok {X : Cx} {sc0 : Scope} (hN : X.N = N) (nd : N.Nodup) (hc : X.calm = true) (st : StOk X sc0) : ∀ (n : Nat) {es : List Expr} {t : TT'}, trG.go (trG N sc0 n) es = some t → DGs X es t
  | n, [], t, h => by cases h; exact dgs_nil
  | n, e :: es, t, h => by
    unfold trG.go at h
    obtain ⟨m1, h1, h⟩ := Option.bind_eq_some_iff.mp h
    obtain ⟨m2, h2, h⟩ := Option.bind_eq_some_iff.mp h
    cases h
    exact dgs_cons (trG_ok hN nd hc st n h1) (goG_ok hN nd hc st n h2) (by rw [trG_star h1]; rfl)
end
end
end DL

set_option Elab.async false
set_option linter.all false
set_option maxRecDepth 100000
set_option maxHeartbeats 16000000
/-! DL9: expressions of the text. -/
namespace DL
open PySem PySem.Spec PyProof.Rows L2 RZ
section
variable {tb : List Addr} {T : Tab} {X' : Mod'} {G : Fns} {Md : ModD} {lev : Nat} {N : List Str}
structure TrOk (tb : List Addr) (T : Tab) (X' : Mod') (G : Fns) (Md : ModD) (lev : Nat) (N : List Str) (n : Nat) : Prop where
  e : ∀ (X : Cx) (sc : Scope) (big : Bool), GOk X tb T X' G Md lev → XOk X tb lev N sc big → ∀ e m, trE T N n big sc e = some m → DE X tb X' G e m
  t : ∀ (X : Cx) (sc : Scope) (big : Bool), GOk X tb T X' G Md lev → XOk X tb lev N sc big → ∀ e m, trT T N n big sc e = some m → DT X tb X' G e m
  o : ∀ (X : Cx) (sc : Scope) (big : Bool), GOk X tb T X' G Md lev → XOk X tb lev N sc big → ∀ e m, trO T N n big sc e = some m → DO X tb X' G e m
  f : ∀ (X : Cx) (sc : Scope) (big : Bool), GOk X tb T X' G Md lev → XOk X tb lev N sc big → ∀ e m, trIf T N n big sc e = some m → PTs X e (tDT X.K tb (wT X' G m))
  i : ∀ (X : Cx) (sc : Scope) (big : Bool), GOk X tb T X' G Md lev → XOk X tb lev N sc big → ∀ tg e m, trI T N n big sc tg e = some m → DI X tb X' G tg e m
theorem XOk.gl {X : Cx} {sc : Scope} {big : Bool} (x : XOk X tb lev N sc big) {y : Str} (h : glB sc y = true) : Gl X y := by
  show X.env.scope.names.lookup y = _
  rw [x.hsc]; exact glB_gl h
theorem XOk.vis {X : Cx} {sc : Scope} {big : Bool} (x : XOk X tb lev N sc big) {y : Str} (h : visB sc y = true) : Vis X.env.scope y := by
  rw [x.hsc]; exact visB_vis h
theorem hu64 {X : Cx} (g : GOk X tb T X' G Md lev) : X.A.units + 64 < cLine := g.room.units
theorem bin_ok {X : Cx} {sc : Scope} {big : Bool} (x : XOk X tb lev N sc big) {a b : Expr} {o : Operator} {o' : BO} {ma mb : M} {pos : Pos} (h : boOf big o = some o') (ha : DE X tb X' G a ma) (hb : DE X tb X' G b mb) : DE X tb X' G (.BinOp a o b pos) (.bin o' ma mb) := by
  obtain ⟨rfl, h2⟩ := bo_op h
  cases big with
  | true => exact de_bin (x.py rfl).room ha hb
  | false => exact de_binS (h2 rfl) ha hb
theorem bi_set (b : BI) (mu : Bool) : (match b with | .list _ => BI.list mu | b => b).nm = b.nm := by cases b <;> rfl
theorem str_isi : ("isinstance" : Str) ∈ bnames := by simp [bnames]
theorem str_range : ("range" : Str) ∈ bnames := by simp [bnames]
theorem str_zip : ("zip" : Str) ∈ bnames := by simp [bnames]
theorem base_ok {b : Expr} (h : isBase b = true) (y : Str) (env : Env) : attributeBase b y env (eval b env) = eval b env := by
  cases b <;> first | rfl | (cases h; done)
theorem own_ix {own : List (Str × Nat)} {t : TT'} (h : (slots t).all (fun i => own.any fun p => p.2 == i) = true) : ∀ i ∈ slots t, i ∈ own.map (·.2) := fun i hi => by
  have q := List.all_eq_true.mp h i hi
  obtain ⟨p, hp, e⟩ := List.any_eq_true.mp q
  exact List.mem_map.mpr ⟨p, hp, by simpa using e⟩

theorem rngArg_ok {e b : Expr} {p2 : Pos} (h : rngArg e = some (b, p2)) : ∃ p3, e = .Call (.Name "range" p2) [b] [] p3 := by
  unfold rngArg at h
  split at h
  · split at h
    · rename_i ef
      subst ef
      cases h
      exact ⟨_, rfl⟩
    · cases h
  · cases h
theorem trI_set {n : Nat} {big : Bool} {sc : Scope} {tg e : Expr} {m : M} (h : trI T N n big sc tg e = some m) : ∀ env x, foldedSetIterable e env x = pure x := by
  cases n with
  | zero => cases h
  | succ n =>
    cases e <;> first
      | (intro o i; rfl)
      | (exfalso; unfold trI at h; split at h <;> first
          | (rename_i hh; cases hh; done)
          | (obtain ⟨a, ha, _⟩ := Option.map_eq_some_iff.mp h; cases n with
              | zero => cases ha
              | succ n => simp [trE] at ha))
theorem genOk_by {sc scope : Scope} {own : List (Str × Nat)} (h : genC N sc scope own = true) : GenOk N sc scope own := by
  unfold genC at h
  simp only [Bool.and_eq_true, Bool.not_eq_true', List.all_eq_true, decide_eq_true_eq] at h
  obtain ⟨h1, h2, h3, h4⟩ := h
  have b := blkOk_by h1
  have nc : ∀ y ∈ scope.names, y.2 ≠ .cell := fun y hy z => by
    have := h3 y hy
    rw [z] at this
    cases this
  exact ⟨b.kind, h2, nc, h4, b.uniq, b.ix, fun y hy e => b.own y hy (.inl e), b.free⟩
theorem genFold_ok {n : Nat} {big : Bool} {sc : Scope} {tg e : Expr} {m : M} (hl : isLst e = false) (h : trI T N n big sc tg e = some m) (env : Env) (v : Value) : genFold e env v = pure v := by
  have := trI_set h env v
  cases e <;> first
    | (cases hl; done)
    | exact this
theorem GOk.gblk {X : Cx} (g : GOk X tb T X' G Md lev) {A : Around} {sc' : Shared} {H : Hp} {genv : Env} {fp : List Addr} {pn : List (Addr × Obj)} (hr : Room lev A) : GOk (DL.gblk X A sc' H genv fp pn) tb T X' G Md lev := ⟨g.fn, g.kw, g.ct, g.bi, hr⟩
theorem XOk.gblk {X : Cx} {sc : Scope} {big : Bool} (x : XOk X tb lev N sc big) {Aw : Around} {sc' : Shared} {H : Hp} {genv : Env} {fp : List Addr} {pn : List (Addr × Obj)} : XOk (DL.gblk X Aw sc' H genv fp pn) tb lev N genv.scope false :=
  ⟨fun h => (Bool.false_ne_true h).elim, x.hN, x.nd, rfl, x.calm, fun h => (Bool.false_ne_true h).elim⟩
theorem StOk.gblk {X : Cx} {sc scope : Scope} {own : List (Str × Nat)} (ok : GenOk N sc scope own) {Aw : Around} {sc' : Shared} {H : Hp} {cl : List (Str × Addr)} {C : Addr} {code : Value} {fp : List Addr} {pn : List (Addr × Obj)} : StOk (DL.gblk X Aw sc' H (genEnv scope cl C code builtinsNs X.env) fp pn) scope := fun y h => by
  rcases locB_loc h with h | h
  · exact ⟨.inl h, .inr h⟩
  · exact absurd rfl (ok.cell _ (PySem.mem_of_lookup h))
theorem trE_step {n : Nat} (ih : TrOk tb T X' G Md lev N n) (X : Cx) (sc : Scope) (big : Bool) (g : GOk X tb T X' G Md lev) (x : XOk X tb lev N sc big) (e : Expr) (m : M) (h : trE T N (n + 1) big sc e = some m) : DE X tb X' G e m := by
  have E := ih.e X sc big g x
  have TT := ih.t X sc big g x
  have O := ih.o X sc big g x
  unfold trE at h
  split at h
  · -- Name
    rename_i y pos
    split at h
    · rename_i hok
      obtain ⟨d1, d2⟩ := okN_d hok
      split at h
      · rename_i hv
        obtain ⟨i, hi, rfl⟩ := Option.map_eq_some_iff.mp h
        exact de_v (by rw [x.hN]; exact ixS_get hi) (x.vis hv) d1 d2
      · split at h
        · rename_i hg
          obtain ⟨i, hi, rfl⟩ := Option.map_eq_some_iff.mp h
          obtain ⟨u, v, d, h1, h2, h3, h4⟩ := g.ct _ _ hi
          exact de_g (x.gl hg) h1 h2 d1 h3 h4
        · cases h
    · cases h
  · cases h; exact de_int
  · cases h; exact de_bl
  · cases h; exact de_non
  · cases h; exact de_str
  · obtain ⟨a, ha, rfl⟩ := Option.map_eq_some_iff.mp h
    exact de_tup (da_of E ha)
  · cases h; exact de_dnew
  · obtain ⟨a, ha, rfl⟩ := Option.map_eq_some_iff.mp h
    exact de_lst (da_of E ha)
  · split at h
    · rename_i hq
      obtain ⟨m1, h1, h⟩ := Option.bind_eq_some_iff.mp h
      obtain ⟨m2, h2, h⟩ := Option.bind_eq_some_iff.mp h
      cases h
      rw [hq.1]
      exact de_cat (E _ _ h1) (E _ _ h2)
    split at h
    · rename_i hq
      split at h
      · obtain ⟨m1, h1, h⟩ := Option.bind_eq_some_iff.mp h
        obtain ⟨m2, h2, h⟩ := Option.bind_eq_some_iff.mp h
        cases h
        rw [hq.1]
        exact de_rep (de_lst (da_of E h1)) (E _ _ h2)
      · cases h
    obtain ⟨o', ho, h⟩ := Option.bind_eq_some_iff.mp h
    obtain ⟨m1, h1, h⟩ := Option.bind_eq_some_iff.mp h
    obtain ⟨m2, h2, h⟩ := Option.bind_eq_some_iff.mp h
    cases h
    exact bin_ok x ho (E _ _ h1) (E _ _ h2)
  · obtain ⟨a, ha, rfl⟩ := Option.map_eq_some_iff.mp h
    exact de_neg (E _ _ ha)
  · obtain ⟨a, ha, rfl⟩ := Option.map_eq_some_iff.mp h
    exact de_not (E _ _ ha)
  · obtain ⟨o', ho, h⟩ := Option.bind_eq_some_iff.mp h
    obtain ⟨m1, h1, h⟩ := Option.bind_eq_some_iff.mp h
    obtain ⟨m2, h2, h⟩ := Option.bind_eq_some_iff.mp h
    cases h
    obtain rfl := co_op ho
    exact de_cmp (hu64 g) (trE_mark h2 _) (E _ _ h1) (E _ _ h2)
  · obtain ⟨o', ho, h⟩ := Option.bind_eq_some_iff.mp h
    obtain ⟨o2', ho2, h⟩ := Option.bind_eq_some_iff.mp h
    obtain ⟨m1, h1, h⟩ := Option.bind_eq_some_iff.mp h
    obtain ⟨m2, h2, h⟩ := Option.bind_eq_some_iff.mp h
    obtain ⟨m3, h3, h⟩ := Option.bind_eq_some_iff.mp h
    cases h
    obtain rfl := co_op ho
    obtain rfl := co_op ho2
    exact de_chain (hu64 g) (trE_mark h3 _) (E _ _ h1) (E _ _ h2) (E _ _ h3)
  · exact fold_and E h
  · exact fold_or E h
  · obtain ⟨m1, h1, h⟩ := Option.bind_eq_some_iff.mp h
    obtain ⟨m2, h2, h⟩ := Option.bind_eq_some_iff.mp h
    obtain ⟨m3, h3, h⟩ := Option.bind_eq_some_iff.mp h
    cases h
    exact de_ite (TT _ _ h1) (E _ _ h2) (E _ _ h3)
  · obtain ⟨m1, h1, h⟩ := Option.bind_eq_some_iff.mp h
    obtain ⟨m2, h2, h⟩ := Option.bind_eq_some_iff.mp h
    obtain ⟨m3, h3, h⟩ := Option.bind_eq_some_iff.mp h
    cases h
    exact de_sl (E _ _ h1) (O _ _ h2) (O _ _ h3)
  · obtain ⟨m1, h1, h⟩ := Option.bind_eq_some_iff.mp h
    obtain ⟨m2, h2, h⟩ := Option.bind_eq_some_iff.mp h
    cases h
    split
    · exact de_dget (hu64 g) (E _ _ h1) (E _ _ h2) (trE_ix h2)
    · exact de_ix (E _ _ h1) (E _ _ h2) (trE_ix h2)
  · -- ListComp
    rename_i elt tg it ifs scope pos
    split at h
    · rename_i hblk
      obtain ⟨mi, hi, h⟩ := Option.bind_eq_some_iff.mp h
      obtain ⟨t, ht, h⟩ := Option.bind_eq_some_iff.mp h
      split at h
      · rename_i hsl
        obtain ⟨mc, hc, h⟩ := Option.bind_eq_some_iff.mp h
        obtain ⟨me, he, h⟩ := Option.bind_eq_some_iff.mp h
        cases h
        refine de_lc x.calm (by rw [x.hN]; exact x.nd) (ih.i X sc big g x _ _ _ hi) (by rw [x.hN, x.hsc]; exact blkOk_by hblk) (fun s H C cl fp => trG_ok (X := X.blk s H scope (compEnvC scope cl C X.env) fp) x.hN x.nd x.calm (StOk.blk x s H scope C cl fp) 8 ht) (own_ix hsl)
          (fun s H C cl fp => ih.f _ _ _ (g.blk s H scope _ fp) (x.blk s H scope C cl fp) _ _ hc) (fun s H C cl fp => ih.e _ _ _ (g.blk s H scope _ fp) (x.blk s H scope C cl fp) _ _ he) (trI_set hi X.env)
      · cases h
    · cases h
  · -- tuple of a generator expression
    rename_i f fp' elt tg it ifs scope gp cp
    split at h
    · rename_i hh
      obtain ⟨rfl, ⟨hb, hx⟩, ⟨hgl, hgc⟩, hl⟩ := hh
      obtain ⟨mi, hi, h⟩ := Option.bind_eq_some_iff.mp h
      obtain ⟨t, ht, h⟩ := Option.bind_eq_some_iff.mp h
      split at h
      · rename_i hsl
        obtain ⟨mc, hcn, h⟩ := Option.bind_eq_some_iff.mp h
        obtain ⟨me, hme, h⟩ := Option.bind_eq_some_iff.mp h
        cases h
        obtain ⟨rm, cA, P, TB, hP, hcd⟩ := x.gx hb hx
        have gok : GenOk X.N X.env.scope scope (ownOf N scope) := by rw [x.hN, x.hsc]; exact genOk_by hgc
        refine de_gtup (k := lev + 1) rm TB hP hcd gok (by rw [x.hN]; exact x.nd) x.calm (ih.i X sc big g x _ _ _ hi) (fun v => genFold_ok hl hi X.env v) (own_ix hsl) (x.gl hgl) (g.bi _ (by simp [bnames])) (fun Aw sc' H C code fp pn hw hf => ?_)
        have gi := g.gblk (sc' := sc') (H := H) (genv := genEnv scope (cloFrom X.env.cells scope.names []) C code builtinsNs X.env) (fp := fp) (pn := pn) (hw.deeper (genEnv scope (cloFrom X.env.cells scope.names []) C code builtinsNs X.env))
        have xi := x.gblk (Aw := Aw.deeper (genEnv scope (cloFrom X.env.cells scope.names []) C code builtinsNs X.env)) (sc' := sc') (H := H) (genv := genEnv scope (cloFrom X.env.cells scope.names []) C code builtinsNs X.env) (fp := fp) (pn := pn)
        exact ⟨trG_ok (X := DL.gblk X (Aw.deeper (genEnv scope (cloFrom X.env.cells scope.names []) C code builtinsNs X.env)) sc' H (genEnv scope (cloFrom X.env.cells scope.names []) C code builtinsNs X.env) fp pn) x.hN x.nd x.calm (StOk.gblk (N := X.N) gok) 8 ht, ih.f _ _ _ gi xi _ _ hcn, ih.e _ _ _ gi xi _ _ hme⟩
      · cases h
    · split at h
      · rename_i hnt hh
        obtain ⟨hf, ⟨hb, hx⟩, ⟨hgl, hgc⟩, hl⟩ := hh
        obtain ⟨mi, hi, h⟩ := Option.bind_eq_some_iff.mp h
        obtain ⟨t, ht, h⟩ := Option.bind_eq_some_iff.mp h
        split at h
        · rename_i hsl
          obtain ⟨mc, hcn, h⟩ := Option.bind_eq_some_iff.mp h
          obtain ⟨me, hme, h⟩ := Option.bind_eq_some_iff.mp h
          cases h
          obtain ⟨rm, cA, P, TB, hP, hcd⟩ := x.gx hb hx
          have gok : GenOk X.N X.env.scope scope (ownOf N scope) := by rw [x.hN, x.hsc]; exact genOk_by hgc
          have pp : ∀ (Aw : Around) (sc' : Shared) (H : Hp) (C : Addr) (code : Value) (fp : List Addr) (pn : List (Addr × Obj)), Room (lev + 1) Aw → Aw.frames = some X.stack →
              DG (DL.gblk X (Aw.deeper (genEnv scope (cloFrom X.env.cells scope.names []) C code builtinsNs X.env)) sc' H (genEnv scope (cloFrom X.env.cells scope.names []) C code builtinsNs X.env) fp pn) tg t ∧
              PTs (DL.gblk X (Aw.deeper (genEnv scope (cloFrom X.env.cells scope.names []) C code builtinsNs X.env)) sc' H (genEnv scope (cloFrom X.env.cells scope.names []) C code builtinsNs X.env) fp pn) ifs (tDT X.K tb (wT X' G mc)) ∧
              DE (DL.gblk X (Aw.deeper (genEnv scope (cloFrom X.env.cells scope.names []) C code builtinsNs X.env)) sc' H (genEnv scope (cloFrom X.env.cells scope.names []) C code builtinsNs X.env) fp pn) tb X' G elt me := fun Aw sc' H C code fp pn hw hf => by
            have gi := g.gblk (sc' := sc') (H := H) (genv := genEnv scope (cloFrom X.env.cells scope.names []) C code builtinsNs X.env) (fp := fp) (pn := pn) (hw.deeper (genEnv scope (cloFrom X.env.cells scope.names []) C code builtinsNs X.env))
            have xi := x.gblk (Aw := Aw.deeper (genEnv scope (cloFrom X.env.cells scope.names []) C code builtinsNs X.env)) (sc' := sc') (H := H) (genv := genEnv scope (cloFrom X.env.cells scope.names []) C code builtinsNs X.env) (fp := fp) (pn := pn)
            exact ⟨trG_ok (X := DL.gblk X (Aw.deeper (genEnv scope (cloFrom X.env.cells scope.names []) C code builtinsNs X.env)) sc' H (genEnv scope (cloFrom X.env.cells scope.names []) C code builtinsNs X.env) fp pn) x.hN x.nd x.calm (StOk.gblk (N := X.N) gok) 8 ht, ih.f _ _ _ gi xi _ _ hcn, ih.e _ _ _ gi xi _ _ hme⟩
          rcases hf with rfl | rfl
          · exact de_gall (k := lev + 1) rm TB hP hcd gok (by rw [x.hN]; exact x.nd) x.calm (ih.i X sc big g x _ _ _ hi) (fun v => genFold_ok hl hi X.env v) (own_ix hsl) (x.gl hgl) (g.bi _ (by simp [bnames])) pp
          · exact de_gany (k := lev + 1) rm TB hP hcd gok (by rw [x.hN]; exact x.nd) x.calm (ih.i X sc big g x _ _ _ hi) (fun v => genFold_ok hl hi X.env v) (own_ix hsl) (x.gl hgl) (g.bi _ (by simp [bnames])) pp
        · cases h
      · split at h
        · rename_i hnt2 hh
          obtain ⟨hf, ⟨hb, hx⟩, ⟨hgl, hgc⟩, hl⟩ := hh
          obtain ⟨mi, hi, h⟩ := Option.bind_eq_some_iff.mp h
          obtain ⟨t, ht, h⟩ := Option.bind_eq_some_iff.mp h
          split at h
          · rename_i hsl
            obtain ⟨mc, hcn, h⟩ := Option.bind_eq_some_iff.mp h
            obtain ⟨me, hme, h⟩ := Option.bind_eq_some_iff.mp h
            cases h
            obtain ⟨rm, cA, P, TB, hP, hcd⟩ := x.gx hb hx
            have gok : GenOk X.N X.env.scope scope (ownOf N scope) := by rw [x.hN, x.hsc]; exact genOk_by hgc
            have pp : ∀ (Aw : Around) (sc' : Shared) (H : Hp) (C : Addr) (code : Value) (fp : List Addr) (pn : List (Addr × Obj)), Room (lev + 1) Aw → Aw.frames = some X.stack →
                DG (DL.gblk X (Aw.deeper (genEnv scope (cloFrom X.env.cells scope.names []) C code builtinsNs X.env)) sc' H (genEnv scope (cloFrom X.env.cells scope.names []) C code builtinsNs X.env) fp pn) tg t ∧
                PTs (DL.gblk X (Aw.deeper (genEnv scope (cloFrom X.env.cells scope.names []) C code builtinsNs X.env)) sc' H (genEnv scope (cloFrom X.env.cells scope.names []) C code builtinsNs X.env) fp pn) ifs (tDT X.K tb (wT X' G mc)) ∧
                DE (DL.gblk X (Aw.deeper (genEnv scope (cloFrom X.env.cells scope.names []) C code builtinsNs X.env)) sc' H (genEnv scope (cloFrom X.env.cells scope.names []) C code builtinsNs X.env) fp pn) tb X' G elt me := fun Aw sc' H C code fp pn hw hf => by
              have gi := g.gblk (sc' := sc') (H := H) (genv := genEnv scope (cloFrom X.env.cells scope.names []) C code builtinsNs X.env) (fp := fp) (pn := pn) (hw.deeper (genEnv scope (cloFrom X.env.cells scope.names []) C code builtinsNs X.env))
              have xi := x.gblk (Aw := Aw.deeper (genEnv scope (cloFrom X.env.cells scope.names []) C code builtinsNs X.env)) (sc' := sc') (H := H) (genv := genEnv scope (cloFrom X.env.cells scope.names []) C code builtinsNs X.env) (fp := fp) (pn := pn)
              exact ⟨trG_ok (X := DL.gblk X (Aw.deeper (genEnv scope (cloFrom X.env.cells scope.names []) C code builtinsNs X.env)) sc' H (genEnv scope (cloFrom X.env.cells scope.names []) C code builtinsNs X.env) fp pn) x.hN x.nd x.calm (StOk.gblk (N := X.N) gok) 8 ht, ih.f _ _ _ gi xi _ _ hcn, ih.e _ _ _ gi xi _ _ hme⟩
            subst hf
            exact de_gsum (k := lev + 1) rm TB hP hcd gok (by rw [x.hN]; exact x.nd) x.calm (ih.i X sc big g x _ _ _ hi) (fun v => genFold_ok hl hi X.env v) (own_ix hsl) (x.gl hgl) (g.bi _ (by simp [bnames])) pp
          · cases h
        · cases h
  · -- Call of a name
    rename_i f p args kws pos hno
    split at h
    · rename_i hfl
      rw [Bool.and_eq_true] at hfl
      obtain ⟨hok, hgl⟩ := hfl
      obtain ⟨d1, d2⟩ := okN_d hok
      split at h
      · -- a def
        rename_i i hf
        obtain ⟨q1, q2, q3, q4⟩ := g.fn _ _ hf
        split at h
        · obtain ⟨a, ha, rfl⟩ := Option.map_eq_some_iff.mp h
          cases args with
          | nil =>
            cases ha
            exact de_call0 q4 g.room (x.gl hgl) q1 q2 q3 d1
          | cons e1 es =>
            have ha0 := ha
            unfold trL at ha
            obtain ⟨m1, h1, ha⟩ := Option.bind_eq_some_iff.mp ha
            obtain ⟨m2, h2, ha⟩ := Option.bind_eq_some_iff.mp ha
            exact de_call q4 g.room (x.gl hgl) q1 q2 q3 (da_of E ha0) d1 (trE_star h1 es X.env) (trL_plain h2 X.env pos)
        · rename_i kws hne
          obtain ⟨kp, hkp, h⟩ := Option.bind_eq_some_iff.mp h
          obtain ⟨a, ha, h⟩ := Option.bind_eq_some_iff.mp h
          obtain ⟨k, hk, h⟩ := Option.bind_eq_some_iff.mp h
          cases h
          obtain ⟨j, pr, e, hj⟩ := kwIx_get hkp
          rw [Nat.zero_add] at e
          subst e
          obtain ⟨k1, k2⟩ := g.kw _ _ _ _ _ hj
          obtain ⟨n1, n2, n3⟩ := trK_names hk X.env pos
          cases args with
          | nil =>
            cases ha
            refine de_callK0 q4 g.room (x.gl hgl) q1 q2 k1 k2 (dk_of E hk) n1 n2 d1 ?_
            rw [n3, Bool.or_false]
            rfl
          | cons e1 es =>
            have ha0 := ha
            unfold trL at ha
            obtain ⟨m1, h1, ha⟩ := Option.bind_eq_some_iff.mp ha
            obtain ⟨m2, h2, ha⟩ := Option.bind_eq_some_iff.mp ha
            refine de_callK q4 g.room (x.gl hgl) q1 q2 k1 k2 (da_of E ha0) (dk_of E hk) n1 n2 d1 (trE_star h1 es X.env) ?_
            rw [trE_star h1 es X.env, n3, Bool.or_false]
            show (false || (backTo pos (starEach es X.env)).any (·.1)) = false
            rw [trL_plain h2, Bool.or_false]
      · -- a built-in
        split at h
        · rename_i a e2
          split at h
          · rename_i e1
            subst e1
            split at h
            · rename_i t p2
              split at h
              · rename_i hg2
                obtain ⟨t', ht, h⟩ := Option.bind_eq_some_iff.mp h
                obtain ⟨m1, h1, rfl⟩ := Option.map_eq_some_iff.mp h
                obtain rfl := tns_ok ht
                exact de_isi (x.gl hgl) (g.bi _ str_isi) (x.gl hg2) (g.bi _ (tn_in t')) (E _ _ h1) (trE_star h1 _ X.env)
              · cases h
            · cases h
          · obtain ⟨b, hb, h⟩ := Option.bind_eq_some_iff.mp h
            obtain ⟨m1, h1, h⟩ := Option.bind_eq_some_iff.mp h
            obtain ⟨m2, h2, h⟩ := Option.bind_eq_some_iff.mp h
            cases h
            obtain rfl := bis2_ok hb
            exact de_bi x.calm (x.gl hgl) (g.bi _ (bi_in b)) (da_cons (E _ _ h1) (da_cons (E _ _ h2) da_nil (trE_star h2 [] X.env)) (trE_star h1 [e2] X.env)) (trE_star h1 [e2] X.env) (by rw [trE_star h2 [] X.env]; rfl)
        · rename_i a
          split at h
          · rename_i ef
            subst ef
            obtain ⟨m1, h1, rfl⟩ := Option.map_eq_some_iff.mp h
            exact de_dsort x.calm (hu64 g) (x.gl hgl) (g.bi _ (by simp [bnames])) (E _ _ h1) (trE_star h1 [] X.env)
          split at h
          · rename_i ef
            obtain ⟨ef, _⟩ := ef
            subst ef
            obtain ⟨m1, h1, rfl⟩ := Option.map_eq_some_iff.mp h
            exact de_dlist x.calm (x.gl hgl) (g.bi _ (by simp [bnames])) (E _ _ h1) (trE_star h1 [] X.env)
          split at h
          · rename_i ef
            obtain ⟨ef, _⟩ := ef
            subst ef
            obtain ⟨y, hy, h⟩ := Option.bind_eq_some_iff.mp h
            split at h
            · rename_i hg2
              obtain ⟨m1, h1, rfl⟩ := Option.map_eq_some_iff.mp h
              obtain ⟨b, p2⟩ := y
              obtain ⟨p3, rfl⟩ := rngArg_ok hy
              exact de_trng x.calm (x.gl hgl) (g.bi _ (by simp [bnames])) (x.gl hg2) (g.bi _ str_range) (E _ _ h1) (trE_star h1 [] X.env)
            · cases h
          obtain ⟨b, hb, h⟩ := Option.bind_eq_some_iff.mp h
          obtain ⟨m1, h1, rfl⟩ := Option.map_eq_some_iff.mp h
          obtain rfl := bis_ok hb
          have key : ∀ b' : BI, b'.nm = b.nm → DE X tb X' G (.Call (.Name b.nm p) [a] [] pos) (.bi b' (.cons m1 .nil)) := fun b' eb => by
            rw [← eb]
            exact de_bi x.calm (by rw [eb]; exact x.gl hgl) (g.bi _ (bi_in b')) (da_cons (E _ _ h1) da_nil (trE_star h1 [] X.env)) (trE_star h1 [] X.env) rfl
          exact key _ (bi_set b _)
        · cases h
    · cases h
  · -- a method
    rename_i o m' apos args pos
    split at h
    · rename_i hl
      rw [Bool.and_eq_true, Bool.and_eq_true] at hl
      obtain ⟨l0, l1, l2⟩ := hl
      split at h
      · rename_i em
        subst em
        split at h
        · rename_i b c
          obtain ⟨m1, h1, h⟩ := Option.bind_eq_some_iff.mp h
          obtain ⟨m2, h2, h⟩ := Option.bind_eq_some_iff.mp h
          obtain ⟨m3, h3, h⟩ := Option.bind_eq_some_iff.mp h
          cases h
          have st : starEach [b, c] X.env = [(false, eval b X.env), (false, eval c X.env)] := by rw [trE_star h2, trE_star h3]; rfl
          exact de_dgeto (hu64 g) (E _ _ h1) (E _ _ h2) (E _ _ h3) ⟨base_ok l0 _ _, by rw [st]; rfl, l1, by rw [st]; rfl⟩
        · cases h
      obtain ⟨lm, hlm, h⟩ := Option.bind_eq_some_iff.mp h
      obtain ⟨mo, ho, h⟩ := Option.bind_eq_some_iff.mp h
      obtain ⟨a, ha, rfl⟩ := Option.map_eq_some_iff.mp h
      obtain rfl := lms_ok hlm
      cases args with
      | nil =>
        cases ha
        exact de_meth0 (E _ _ ho) (base_ok l0 _ _) l1
      | cons e1 es =>
        have ha0 := ha
        unfold trL at ha
        obtain ⟨m1, h1, ha⟩ := Option.bind_eq_some_iff.mp ha
        obtain ⟨m2, h2, ha⟩ := Option.bind_eq_some_iff.mp ha
        refine de_meth (E _ _ ho) (da_of E ha0) (base_ok l0 _ _) ?_ l1 (trE_star h1 es X.env) (trL_plain h2 X.env pos)
        rw [trL_allF ha0 X.env pos]
        have l3 : (e1 :: es).length < 28 := of_decide_eq_true l2
        rw [Bool.true_and]
        show (true && decide ((e1 :: es).length + 0 + 0 < 30)) = true
        rw [Bool.true_and]
        exact decide_eq_true (by omega)
    · cases h
  · cases h

theorem trT_step {n : Nat} (ih : TrOk tb T X' G Md lev N n) (X : Cx) (sc : Scope) (big : Bool) (g : GOk X tb T X' G Md lev) (x : XOk X tb lev N sc big) (e : Expr) (m : M) (h : trT T N (n + 1) big sc e = some m) : DT X tb X' G e m := by
  have E := ih.e X sc big g x
  have TT := ih.t X sc big g x
  unfold trT at h
  split at h
  · obtain ⟨a, ha, rfl⟩ := Option.map_eq_some_iff.mp h
    exact dt_not (TT _ _ ha)
  · exact (fold_andT TT h).pt
  · exact (fold_orT TT h).pt
  · obtain ⟨o', ho, h⟩ := Option.bind_eq_some_iff.mp h
    obtain ⟨m1, h1, h⟩ := Option.bind_eq_some_iff.mp h
    obtain ⟨m2, h2, h⟩ := Option.bind_eq_some_iff.mp h
    cases h
    obtain rfl := co_op ho
    exact dt_cmp (hu64 g) (trE_mark h2 _) (E _ _ h1) (E _ _ h2)
  · obtain ⟨o', ho, h⟩ := Option.bind_eq_some_iff.mp h
    obtain ⟨o2', ho2, h⟩ := Option.bind_eq_some_iff.mp h
    obtain ⟨m1, h1, h⟩ := Option.bind_eq_some_iff.mp h
    obtain ⟨m2, h2, h⟩ := Option.bind_eq_some_iff.mp h
    obtain ⟨m3, h3, h⟩ := Option.bind_eq_some_iff.mp h
    cases h
    obtain rfl := co_op ho
    obtain rfl := co_op ho2
    exact dt_chain (hu64 g) (trE_mark h3 _) (E _ _ h1) (E _ _ h2) (E _ _ h3)
  · split at h
    · cases h
    · rename_i ht
      obtain ⟨a, ha, rfl⟩ := Option.map_eq_some_iff.mp h
      exact dt_tv (E _ _ ha) (isTrue_of (Bool.eq_false_iff.mpr ht) X.env)
theorem trI_step {n : Nat} (ih : TrOk tb T X' G Md lev N n) (X : Cx) (sc : Scope) (big : Bool) (g : GOk X tb T X' G Md lev) (x : XOk X tb lev N sc big) (tg e : Expr) (m : M) (h : trI T N (n + 1) big sc tg e = some m) : DI X tb X' G tg e m := by
  have E := ih.e X sc big g x
  unfold trI at h
  split at h
  · rename_i f p a pos
    split at h
    · rename_i ef
      subst ef
      split at h
      · rename_i hg
        obtain ⟨m1, h1, rfl⟩ := Option.map_eq_some_iff.mp h
        exact di_rng1 (x.gl hg) (g.bi _ str_range) (E _ _ h1) (trE_star h1 [] X.env)
      · cases h
    · split at h
      · rename_i ef
        subst ef
        split at h
        · split at h
          · rename_i hg
            obtain ⟨m1, h1, rfl⟩ := Option.map_eq_some_iff.mp h
            exact di_enum (x.gl hg) (g.bi _ (by simp [bnames])) (E _ _ h1) (trE_star h1 [] X.env)
          · cases h
        · cases h
      · obtain ⟨m1, h1, rfl⟩ := Option.map_eq_some_iff.mp h
        exact di_it (E _ _ h1)
  · rename_i f p a b pos
    split at h
    · rename_i ef
      subst ef
      split at h
      · rename_i hg
        obtain ⟨m1, h1, h⟩ := Option.bind_eq_some_iff.mp h
        obtain ⟨m2, h2, h⟩ := Option.bind_eq_some_iff.mp h
        cases h
        exact di_rng2 (x.gl hg) (g.bi _ str_range) (E _ _ h1) (E _ _ h2) (by rw [trE_star h1, trE_star h2]; rfl) (by rw [trE_star h2]; rfl)
      · cases h
    · split at h
      · rename_i ef
        subst ef
        split at h
        · split at h
          · rename_i hg
            obtain ⟨m1, h1, h⟩ := Option.bind_eq_some_iff.mp h
            obtain ⟨m2, h2, h⟩ := Option.bind_eq_some_iff.mp h
            cases h
            exact di_zipG (x.gl hg) (g.bi _ str_zip) (E _ _ h1) (E _ _ h2) (trE_star h1 _ _) (trE_star h2 _ _)
          · cases h
        · cases h
      · obtain ⟨m1, h1, rfl⟩ := Option.map_eq_some_iff.mp h
        exact di_it (E _ _ h1)
  · obtain ⟨m1, h1, rfl⟩ := Option.map_eq_some_iff.mp h
    exact di_it (E _ _ h1)
theorem tr_ok : ∀ n : Nat, TrOk tb T X' G Md lev N n
  | 0 => ⟨fun _ _ _ _ _ _ _ h => (by cases h), fun _ _ _ _ _ _ _ h => (by cases h), fun _ _ _ _ _ _ _ h => (by cases h), fun _ _ _ _ _ _ _ h => (by cases h), fun _ _ _ _ _ _ _ _ h => (by cases h)⟩
  | n + 1 => by
    have ih := tr_ok n
    refine ⟨trE_step ih, trT_step ih, fun X sc big g x e m h => ?_, fun X sc big g x e m h => ?_, trI_step ih⟩
    · cases e with
      | none => cases h; exact do_none
      | some e =>
        obtain ⟨m1, h1, rfl⟩ := Option.map_eq_some_iff.mp h
        exact do_some (ih.e X sc big g x _ _ h1)
    · unfold trIf at h
      split at h
      · cases h
      · cases h; exact dts_nil
      · rename_i heq
        first | cases heq | skip
        exact dts_one (ih.t X _ _ g x _ _ h)
      · cases h
end
end DL

set_option Elab.async false
set_option linter.all false
set_option maxRecDepth 100000
set_option maxHeartbeats 16000000
/-! DL10: statements of the text, defs. -/
namespace DL
open PySem PySem.Spec PyProof.Rows L2 RZ
/-- an env of this scope -/
def env0 (sc : Scope) : Env := { scope := sc, locals := 0, globals := 0, cells := [], qual := "", func := none, code := .none, frame := none, builtins := 0 }
/-- how the model stores a pair or a triple -/
def swS (sc : Scope) (ts : List Expr) (e : Expr) : Option (Option (List Str)) := match swappedStores ts e (env0 sc) with
  | .pure r => some r
  | _ => none
theorem sw_of {env : Env} {ts : List Expr} {e : Expr} {r : Option (List Str)} (h : swS env.scope ts e = some r) : swappedStores ts e env = pure r := by
  have q : swappedStores ts e env = swappedStores ts e (env0 env.scope) := rfl
  rw [q]
  unfold swS at h
  split at h
  · rename_i heq
    cases h
    exact heq
  · cases h
/-- whether the model stores a comprehension on its own road -/
def swW (sc : Scope) (e : Expr) (tg : Expr) (line : Nat) : Option Bool := match swapsWith e (some tg) line (env0 sc) with
  | .pure r => some r
  | _ => none
theorem sww_of {env : Env} {e tg : Expr} {line : Nat} {r : Bool} (h : swW env.scope e tg line = some r) : swapsWith e (some tg) line env = pure r := by
  have q : swapsWith e (some tg) line env = swapsWith e (some tg) line (env0 env.scope) := rfl
  rw [q]
  unfold swW at h
  split at h
  · rename_i heq
    cases h
    exact heq
  · cases h
def isCall : Expr → Bool
  | .Call .. => true
  | _ => false
section
variable (T : Tab) (N : List Str)
def frzC (is : List Nat) (c : C) : C := is.foldr (fun i r => .seq (.frz i) r) c
def trCs (f : Stmt → Option C) : List Stmt → Option C
  | [] => some .done
  | s :: r => (f s).bind fun a => (trCs f r).bind fun b => some (frzC ((T.fzs.filter fun q => q.1 == s.pos.line).map (·.2)) (.seq a b))
def trC : Nat → Scope → Stmt → Option C
  | 0, _, _ => none
  | n + 1, sc, st => match st with
    | .Assign [.Subscript a b sp] e pos => if swS sc [.Subscript a b sp] e = some none ∧ swW sc e (.Subscript a b sp) pos.line = some false then
        (trE T N n true sc a).bind fun ma => (trE T N n true sc b).bind fun mb => (trE T N n true sc e).bind fun me => some (if muAt T b.pos then .dput ma mb me else .sets ma mb me) else none
    | .Assign [.Tuple [.Name x px, .Name y py] kt pt] (.Tuple [a, b] k2 pt2) pos =>
      if swS sc [.Tuple [.Name x px, .Name y py] kt pt] (.Tuple [a, b] k2 pt2) = some (some [x, y]) then
        (if lclB sc x && lclB sc y then (ixS x N).bind fun i => (ixS y N).bind fun j => if i ≠ j then (trE T N n true sc a).bind fun ma => (trE T N n true sc b).bind fun mb => some (.swap i j ma mb) else none else none)
      else if swS sc [.Tuple [.Name x px, .Name y py] kt pt] (.Tuple [a, b] k2 pt2) = some none then
        (trG N sc 8 (.Tuple [.Name x px, .Name y py] kt pt)).bind fun t => (trE T N n true sc (.Tuple [a, b] k2 pt2)).bind fun me => some (.asg t me)
      else none
    | .Assign [.Tuple [.Name x px, .Name y py, .Name z pz] kt pt] (.Tuple [a, b, c] k2 pt2) pos =>
      if swS sc [.Tuple [.Name x px, .Name y py, .Name z pz] kt pt] (.Tuple [a, b, c] k2 pt2) = some (some [x, y, z]) then
        (if lclB sc x && (lclB sc y && lclB sc z) then (ixS x N).bind fun i => (ixS y N).bind fun j => (ixS z N).bind fun l => if i ≠ j ∧ i ≠ l ∧ j ≠ l then (trE T N n true sc a).bind fun ma => (trE T N n true sc b).bind fun mb => (trE T N n true sc c).bind fun mc => some (.swap3 i j l ma mb mc) else none else none)
      else if swS sc [.Tuple [.Name x px, .Name y py, .Name z pz] kt pt] (.Tuple [a, b, c] k2 pt2) = some none then
        (trG N sc 8 (.Tuple [.Name x px, .Name y py, .Name z pz] kt pt)).bind fun t => (trE T N n true sc (.Tuple [a, b, c] k2 pt2)).bind fun me => some (.asg t me)
      else none
    | .Assign [.Name y py] (.ListComp elt [⟨tg, it, ifs, 0⟩] scope p) pos =>
      (match swW sc (.ListComp elt [⟨tg, it, ifs, 0⟩] scope p) (.Name y py) pos.line with
      | some true => if lclB sc y then (ixS y N).bind fun i => (trE T N n true sc (.ListComp elt [⟨tg, it, ifs, 0⟩] scope p)).bind fun me => some (.asg (.n i) me) else none
      | some false => if swS sc [.Name y py] (.ListComp elt [⟨tg, it, ifs, 0⟩] scope p) = some none then (trG N sc 8 (.Name y py)).bind fun t => (trE T N n true sc (.ListComp elt [⟨tg, it, ifs, 0⟩] scope p)).bind fun me => some (.asg t me) else none
      | none => none)
    | .Assign [tg] e pos => if swS sc [tg] e = some none ∧ swW sc e tg pos.line = some false then (trG N sc 8 tg).bind fun t => (trE T N n true sc e).bind fun me => some (.asg t me) else none
    | .AugAssign (.Name x _) o e _ => if locB sc x then (ixS x N).bind fun i => (boOf true o).bind fun o' => (trE T N n true sc e).bind fun me => some (.augv i o' me) else none
    | .AugAssign (.Subscript a b _) o e _ => (trE T N n true sc a).bind fun ma => (trE T N n true sc b).bind fun mb => (boOf true o).bind fun o' => (trE T N n true sc e).bind fun me => some (.augs ma mb o' me)
    | .Return none _ => some .retN
    | .Return (some e) _ => (trE T N n true sc e).map .ret
    | .Expr e _ => if isCall e then (trE T N n true sc e).map .ex else none
    | .If c a b _ => (trT T N n true sc c).bind fun mc => (trCs T (trC n sc) a).bind fun ca => (trCs T (trC n sc) b).bind fun cb => some (.ite mc ca cb)
    | .While c a [] _ => (trT T N n true sc c).bind fun mc => (trCs T (trC n sc) a).bind fun ca => some (.whl mc ca)
    | .For tg it a [] _ => (trI T N n true sc tg it).bind fun mi => (trG N sc 8 tg).bind fun t => (trCs T (trC n sc) a).bind fun ca => some (.for t mi ca)
    | .Pass _ => some .done
    | .Break _ => some .brk
    | .Continue _ => some .cont
    | _ => none
end
section
variable {tb : List Addr} {T : Tab} {X' : Mod'} {G : Fns} {Md : ModD} {lev : Nat} {N : List Str}
theorem lclB_l {sc : Scope} {x : Str} (h : lclB sc x = true) : sc.names.lookup x = some .local := by
  unfold lclB at h
  split at h <;> first | assumption | cases h
theorem dss_frzC {X : Cx} {sts : List Stmt} {c : C} (is : List Nat) (h : DSs X tb X' G sts c) : DSs X tb X' G sts (frzC is c) := by
  induction is with
  | nil => exact h
  | cons i r ih => exact dss_frz ih
theorem dss_of {X : Cx} {f : Stmt → Option C} (ih : ∀ s c, f s = some c → DS X tb X' G s c) : ∀ {ss : List Stmt} {c : C}, trCs T f ss = some c → DSs X tb X' G ss c
  | [], c, h => by cases h; exact dss_nil
  | s :: r, c, h => by
    unfold trCs at h
    obtain ⟨a, ha, h⟩ := Option.bind_eq_some_iff.mp h
    obtain ⟨b, hb, h⟩ := Option.bind_eq_some_iff.mp h
    cases h
    exact dss_frzC _ (dss_cons (ih _ _ ha) (dss_of ih hb))
theorem trE_sub {n : Nat} {big : Bool} {sc : Scope} {a b : Expr} {m : M} {sp : Pos} (h : trE T N n big sc b = some m) (env : Env) : ∀ v, assign (.Subscript a b sp) env v = (do
      let ov ← holding [v] (eval a env)
      let iv ← holding [v, ov] (eval b env)
      standAt sp
      holding [v, ov, iv] (setItem ov iv v)
      release [v, ov, iv] []) := by
  cases n with
  | zero => cases h
  | succ n => cases b <;> first | (intro v; rfl) | (simp [trE] at h)
theorem swE {e : Expr} (h : isCall e = true) (line : Nat) (env : Env) : swapsWith e none line env = pure false := by
  cases e <;> first | (cases h; done) | rfl
theorem trC_ok (X : Cx) (sc : Scope) (g : GOk X tb T X' G Md lev) (x : XOk X tb lev N sc true) (st : StOk X sc) (hxe : X.xe = fun _ _ => False) : ∀ (n : Nat) (s : Stmt) (c : C), trC T N n sc s = some c → DS X tb X' G s c
  | 0, _, _, h => by cases h
  | n + 1, s, c, h => by
    have ih := trC_ok X sc g x st hxe n
    have E := (tr_ok n).e X sc true g x
    have TT := (tr_ok n).t X sc true g x
    have nd : X.N.Nodup := by rw [x.hN]; exact x.nd
    have at_ : ∀ {y : Str} {i : Nat}, ixS y N = some i → X.N[i]? = some y := fun h => by rw [x.hN]; exact ixS_get h
    have hp : PassesOwn (model X.prog X.w) X.A X.env X.xe := by rw [hxe]; exact PassesOwn.never
    have GG : ∀ {tg : Expr} {t : TT'}, trG N sc 8 tg = some t → DG X tg t := fun h => trG_ok x.hN x.nd x.calm st 8 h
    have a1 : ∀ {tg : Expr} {t : TT'}, trG N sc 8 tg = some t → (assignEach [tg] X.env).map (·.2) = [assign tg X.env] := fun h => by rw [trG_star h]; rfl
    have S1 : ∀ {ts : List Expr} {e : Expr} {r : Option (List Str)}, swS sc ts e = some r → swappedStores ts e X.env = pure r := fun h => sw_of (by rw [x.hsc]; exact h)
    have S2 : ∀ {e tg : Expr} {l : Nat} {r : Bool}, swW sc e tg l = some r → swapsWith e (some tg) l X.env = pure r := fun h => sww_of (by rw [x.hsc]; exact h)
    have lc : ∀ {y : Str}, lclB sc y = true → X.env.scope.names.lookup y = some .local := fun h => by rw [x.hsc]; exact lclB_l h
    unfold trC at h
    split at h
    · split at h
      · rename_i hh
        obtain ⟨h1, h2⟩ := hh
        obtain ⟨ma, ha, h⟩ := Option.bind_eq_some_iff.mp h
        obtain ⟨mb, hb, h⟩ := Option.bind_eq_some_iff.mp h
        obtain ⟨me, he, h⟩ := Option.bind_eq_some_iff.mp h
        cases h
        split
        · exact ds_dput (hu64 g) (E _ _ ha) (E _ _ hb) (E _ _ he) (S2 h2) (S1 h1) (trE_sub hb X.env)
        · exact ds_sets (E _ _ ha) (E _ _ hb) (E _ _ he) (S2 h2) (S1 h1) (trE_sub hb X.env)
      · cases h
    · -- two
      split at h
      · rename_i h1
        split at h
        · rename_i hl
          rw [Bool.and_eq_true] at hl
          obtain ⟨i, hi, h⟩ := Option.bind_eq_some_iff.mp h
          obtain ⟨j, hj, h⟩ := Option.bind_eq_some_iff.mp h
          split at h
          · rename_i hij
            obtain ⟨ma, ha, h⟩ := Option.bind_eq_some_iff.mp h
            obtain ⟨mb, hb, h⟩ := Option.bind_eq_some_iff.mp h
            cases h
            exact ds_swap x.calm nd (at_ hi) (at_ hj) hij (lc hl.1) (lc hl.2) (E _ _ ha) (E _ _ hb) (trE_star ha _ _) (trE_star hb _ _) (S1 h1)
          · cases h
        · cases h
      · split at h
        · rename_i h1
          obtain ⟨t, ht, h⟩ := Option.bind_eq_some_iff.mp h
          obtain ⟨me, he, h⟩ := Option.bind_eq_some_iff.mp h
          cases h
          exact ds_asg (E _ _ he) (GG ht) rfl (S1 h1) (a1 ht)
        · cases h
    · -- three
      split at h
      · rename_i h1
        split at h
        · rename_i hl
          rw [Bool.and_eq_true, Bool.and_eq_true] at hl
          obtain ⟨i, hi, h⟩ := Option.bind_eq_some_iff.mp h
          obtain ⟨j, hj, h⟩ := Option.bind_eq_some_iff.mp h
          obtain ⟨l, hll, h⟩ := Option.bind_eq_some_iff.mp h
          split at h
          · rename_i hij
            obtain ⟨ma, ha, h⟩ := Option.bind_eq_some_iff.mp h
            obtain ⟨mb, hb, h⟩ := Option.bind_eq_some_iff.mp h
            obtain ⟨mc, hc, h⟩ := Option.bind_eq_some_iff.mp h
            cases h
            exact ds_swap3 x.calm nd (at_ hi) (at_ hj) (at_ hll) hij.1 hij.2.1 hij.2.2 (lc hl.1) (lc hl.2.1) (lc hl.2.2) (E _ _ ha) (E _ _ hb) (E _ _ hc) (trE_star ha _ _) (trE_star hb _ _) (trE_star hc _ _) (S1 h1)
          · cases h
        · cases h
      · split at h
        · rename_i h1
          obtain ⟨t, ht, h⟩ := Option.bind_eq_some_iff.mp h
          obtain ⟨me, he, h⟩ := Option.bind_eq_some_iff.mp h
          cases h
          exact ds_asg (E _ _ he) (GG ht) rfl (S1 h1) (a1 ht)
        · cases h
    · -- name = [..]
      rename_i y py elt tg it ifs scope p pos
      split at h
      · rename_i hw
        split at h
        · rename_i hl
          obtain ⟨i, hi, h⟩ := Option.bind_eq_some_iff.mp h
          obtain ⟨me, he, h⟩ := Option.bind_eq_some_iff.mp h
          cases h
          cases n with
          | zero => cases he
          | succ n =>
            unfold trE at he
            simp only at he
            split at he
            · rename_i hblk
              obtain ⟨mi, hmi, he⟩ := Option.bind_eq_some_iff.mp he
              obtain ⟨t, ht, he⟩ := Option.bind_eq_some_iff.mp he
              split at he
              · rename_i hsl
                obtain ⟨mc, hc, he⟩ := Option.bind_eq_some_iff.mp he
                obtain ⟨me, hme, he⟩ := Option.bind_eq_some_iff.mp he
                cases he
                have ihn := tr_ok (tb := tb) (T := T) (X' := X') (G := G) (Md := Md) (lev := lev) (N := N) n
                exact ds_setLc x.calm nd (at_ hi) (lc hl) (S2 hw) (ihn.i X sc true g x _ _ _ hmi) (by rw [x.hN, x.hsc]; exact blkOk_by hblk) (fun s H C cl fp => trG_ok (X := X.blk s H scope (compEnvC scope cl C X.env) fp) x.hN x.nd x.calm (StOk.blk x s H scope C cl fp) 8 ht) (own_ix hsl)
                  (fun s H C cl fp => ihn.f _ _ _ (g.blk s H scope _ fp) (x.blk s H scope C cl fp) _ _ hc) (fun s H C cl fp => ihn.e _ _ _ (g.blk s H scope _ fp) (x.blk s H scope C cl fp) _ _ hme) (trI_set hmi X.env)
              · cases he
            · cases he
        · cases h
      · rename_i hw
        split at h
        · rename_i h1
          obtain ⟨t, ht, h⟩ := Option.bind_eq_some_iff.mp h
          obtain ⟨me, he, h⟩ := Option.bind_eq_some_iff.mp h
          cases h
          exact ds_asg (E _ _ he) (GG ht) (S2 hw) (S1 h1) (a1 ht)
        · cases h
      · cases h
    · split at h
      · rename_i hh
        obtain ⟨h1, h2⟩ := hh
        obtain ⟨t, ht, h⟩ := Option.bind_eq_some_iff.mp h
        obtain ⟨me, he, h⟩ := Option.bind_eq_some_iff.mp h
        cases h
        exact ds_asg (E _ _ he) (GG ht) (S2 h2) (S1 h1) (a1 ht)
      · cases h
    · split at h
      · rename_i hl
        obtain ⟨i, hi, h⟩ := Option.bind_eq_some_iff.mp h
        obtain ⟨o', ho, h⟩ := Option.bind_eq_some_iff.mp h
        obtain ⟨me, he, h⟩ := Option.bind_eq_some_iff.mp h
        cases h
        obtain ⟨rfl, _⟩ := bo_op ho
        obtain ⟨q1, q2⟩ := st _ hl
        exact ds_augv (x.py rfl).room nd (at_ hi) q1 (E _ _ he) q2
      · cases h
    · obtain ⟨ma, ha, h⟩ := Option.bind_eq_some_iff.mp h
      obtain ⟨mb, hb, h⟩ := Option.bind_eq_some_iff.mp h
      obtain ⟨o', ho, h⟩ := Option.bind_eq_some_iff.mp h
      obtain ⟨me, he, h⟩ := Option.bind_eq_some_iff.mp h
      cases h
      obtain ⟨rfl, _⟩ := bo_op ho
      exact ds_augs (x.py rfl).room (E _ _ ha) (E _ _ hb) (E _ _ he) (trE_aug hb)
    · cases h; exact ds_retN
    · obtain ⟨me, he, rfl⟩ := Option.map_eq_some_iff.mp h
      exact ds_ret (E _ _ he)
    · split at h
      · rename_i hcl
        obtain ⟨me, he, rfl⟩ := Option.map_eq_some_iff.mp h
        exact ds_ex (E _ _ he) (swE hcl _ _)
      · cases h
    · obtain ⟨mc, hc, h⟩ := Option.bind_eq_some_iff.mp h
      obtain ⟨ca, ha, h⟩ := Option.bind_eq_some_iff.mp h
      obtain ⟨cb, hb, h⟩ := Option.bind_eq_some_iff.mp h
      cases h
      exact ds_if (TT _ _ hc) (dss_of ih ha) (dss_of ih hb)
    · obtain ⟨mc, hc, h⟩ := Option.bind_eq_some_iff.mp h
      obtain ⟨ca, ha, h⟩ := Option.bind_eq_some_iff.mp h
      cases h
      exact ds_while hp (TT _ _ hc) (dss_of ih ha)
    · obtain ⟨mi, hi, h⟩ := Option.bind_eq_some_iff.mp h
      obtain ⟨t, ht, h⟩ := Option.bind_eq_some_iff.mp h
      obtain ⟨ca, ha, h⟩ := Option.bind_eq_some_iff.mp h
      cases h
      exact ds_for hp x.calm ((tr_ok n).i X sc true g x _ _ _ hi) (GG ht) (dss_of ih ha) (trI_set hi X.env)
    · cases h; exact ds_pass
    · cases h; exact ds_brk
    · cases h; exact ds_cont
    · cases h
end
end DL

set_option Elab.async false
set_option linter.all false
set_option maxRecDepth 100000
set_option maxHeartbeats 4000000
/-! DL11: the defs of the text keep their promises. -/
namespace DL
open PySem PySem.Spec PyProof.Rows L2 RZ

/-- a def as it is translated -/
structure DefI where
  x : Str
  st : Stmt
  N : List Str
  ps : List Str
  body : C
def DefI.fn (d : DefI) : FnD := ⟨d.ps.length, d.N.length, d.body⟩
section
variable {P : Program} {w : World} {K : PySem.W.Frag} {mg : Str → Option Value} {base : Heap} {tb : List Addr} {T : Tab} {X' : Mod'} {Md : ModD}
theorem stOk_cx {CX : CXT} {N : List Str} {qual : Str} {sc : Scope} {f : Addr} {cd : Value} {A : Around} {outer : List Env} {s : Shared} {H : Hp} {E : XK} : StOk (cxOf CX P w K mg base N qual sc f cd A outer s H E).nox sc := fun x h => ⟨locB_loc h, .inl rfl⟩
theorem start_env {Z : Addr → Prop} {S : Sto} {H : Hp} {N : List Str} {vs : List V} {ds : List D} (r : RepL K Z S H ds vs) : EnvR K Z S H (startD N.length ds) (start N vs) := by
  refine ⟨by rw [startD, L2.start, List.length_append, List.length_append, List.length_map, List.length_map, List.length_replicate, List.length_replicate, r.length], fun i d h => ?_⟩
  unfold startD at h
  unfold L2.start
  by_cases hi : i < ds.length
  · rw [List.getElem?_append_left (by simpa using hi), List.getElem?_map] at h
    obtain ⟨d', hd, e⟩ := Option.map_eq_some_iff.mp h
    cases e
    obtain ⟨v, h1, h2⟩ := r.get hd
    exact ⟨v, by rw [List.getElem?_append_left (by rw [List.length_map, ← r.length]; exact hi), List.getElem?_map, h1]; rfl, h2⟩
  · rw [List.getElem?_append_right (by simpa using hi), List.getElem?_replicate] at h
    split at h <;> cases h
/-- what is asked of the module and the defs -/
structure DefsOk (P : Program) (w : World) (K : PySem.W.Frag) (mg : Str → Option Value) (base : Heap) (tb : List Addr) (T : Tab) (X' : Mod') (Md : ModD) (fuel : Nat) (defs : List DefI) : Prop where
  gx : ∀ (i : Nat) (d : DefI), defs[i]? = some d → gxB d.N = true → ∃ cA P, GxR.TabB base mg cA P ∧ P ∈ tb ∧ (Md.fd i).code = .ref cA
  d : ∀ (i : Nat) (d : DefI), defs[i]? = some d → Fun K d.x d.x d.st (Md.fa i) (Md.fd i) ∧ FnScope d.N d.ps (defScope d.st) ∧ Md.ps i = d.ps ∧ trCs T (trC T d.N fuel (defScope d.st)) (defBody d.st) = some d.body
  fn : ∀ x f, lkS x T.fns = some f → mg x = some (.ref (Md.fa f)) ∧ PySem.W.keepIn K (.ref (Md.fa f)) = true ∧ Binds K (Md.fd f) (Md.ps f) []
  kw : ∀ (kp f n : Nat) (ks : List Str) (p : List Nat), T.kws[kp]? = some (f, n, ks, p) → KBinds K (Md.fd f) (Md.ps f) ks (arr n ks.length p) (arr n ks.length p) ∧ X'.kps[kp]? = some (n, ks.length, p)
  ct : ∀ x i, lkS x T.consts = some i → ∃ (u : Value) (v : V) (d : D), mg x = some u ∧ RelV v u ∧ X'.consts[i]? = some d ∧ ∀ Z S H, Rep K Z S H d v
  bi : ∀ x ∈ bnames, mg x = none
  ns : base.NoSeer
  tree : P.given.tree = none
theorem defs_ok {fuel : Nat} {defs : List DefI} (O : DefsOk P w K mg base tb T X' Md fuel defs) : ∀ (k f : Nat), FnOk P w K mg base CX0 (32 + 8 * k) (Md.fa f) (Md.fd f) (Md.ps f) (spD K tb (callD X' (defs.map DefI.fn) k) f)
  | 0, f => ⟨fun vs H Q E h => by obtain ⟨_, _, _, _, _, _, _, h, _⟩ := h; exact h.elim, fun A outer s H args us vs Q E _ _ _ _ h => by obtain ⟨_, _, _, _, _, _, _, h, _⟩ := h; exact h.elim⟩
  | k + 1, f => by
    cases hd : defs[f]? with
    | none =>
      have no : ∀ vs H Q E, ¬ spD K tb (callD X' (defs.map DefI.fn) (k + 1)) f vs H Q E := fun vs H Q E h => by
        obtain ⟨_, _, _, _, _, _, _, ⟨fd, h, _⟩, _⟩ := h
        rw [List.getElem?_map, hd] at h
        cases h
      exact ⟨fun vs H Q E h => (no _ _ _ _ h).elim, fun A outer s H args us vs Q E _ _ _ _ h => (no _ _ _ _ h).elim⟩
    | some d =>
      obtain ⟨F, FS, hps, htr⟩ := O.d f d hd
      rw [hps]
      have ih := defs_ok O k
      rw [show 32 + 8 * (k + 1) = 39 + 8 * k + 1 by omega]
      have gx := O.gx f d hd
      obtain ⟨oc, od, kV, doc, pm, an, cdv, ct, osl, efd, lk, hcd⟩ := F.ex
      rw [efd] at gx ⊢
      rw [efd] at lk
      refine fn_of (k := 39 + 8 * k) lk hcd FS (fun vs H Q E h => ?_) fun A outer s H vs Q E hr h => ?_
      · obtain ⟨Z, ds, S, Qd, r, _, _, ⟨fd, hf, hl, _⟩, _⟩ := h
        rw [List.getElem?_map, hd] at hf
        cases hf
        rw [← r.length]; exact hl
      · obtain ⟨Z, ds, S, Qd, r, sr, tt, ⟨fd, hf, hl, hw⟩, aft⟩ := h
        rw [List.getElem?_map, hd] at hf
        cases hf
        have g : GOk (cxOf CX0 P w K mg base d.N d.x (defScope d.st) (Md.fa f) cdv A outer s H E).nox tb T X' (callD X' (defs.map DefI.fn) k) Md (32 + 8 * k) :=
          ⟨fun x i hx => ⟨(O.fn x i hx).1, (O.fn x i hx).2.1, (O.fn x i hx).2.2, ih i⟩, O.kw, O.ct, O.bi, hr.mono (by omega)⟩
        have xo : XOk (cxOf CX0 P w K mg base d.N d.x (defScope d.st) (Md.fa f) cdv A outer s H E).nox tb (32 + 8 * k) d.N (defScope d.st) true :=
          ⟨fun _ hx => ⟨hr.mono (by omega), gx hx⟩, rfl, FS.nd, rfl, rfl, fun _ => ⟨O.ns, O.tree, ⟨_, _, rfl, FS.gen, FS.co, rfl, rfl⟩, by have := hr.dp; show (A.deeper (envOfC d.x (defScope d.st) s.heap.objs.size (Md.fa f) cdv)).depth + 100 < recursionLimit; omega⟩⟩
        refine ⟨_, (dss_of (trC_ok _ _ g xo stOk_cx rfl fuel) htr).nox, Z, _, S, _, ⟨start_env r, sr, tt⟩, hw, ?_⟩
        refine ⟨fun ρ' S' σ' H' x m q => ?_, fun dd S' v H' x s' t' r' q => ?_, fun _ _ _ _ _ _ q => q.elim, fun _ _ _ _ _ _ q => q.elim⟩
        · obtain ⟨S2, d2, sub, fz, q⟩ := q
          exact aft _ _ _ _ (x.sub sub) (m.sto.sub sub) m.tab (Rep.frz m.sto sub fz .non) q
        · obtain ⟨S2, d2, sub, fz, q⟩ := q
          exact aft _ _ _ _ (x.sub sub) (s'.sub sub) t' (r'.frz s' sub fz) q
end
end DL

set_option Elab.async false
set_option linter.all false
set_option maxRecDepth 100000
set_option maxHeartbeats 4000000
/-! DL12: the end: the law's def is called with the script. -/
namespace DL
open PySem PySem.Spec PyProof.Rows L2 RZ

/-- the heap as it is told at the end: the script locked unless it is the text's own, the tables, nothing else -/
noncomputable def endH (a : Addr) (own : Bool) (o : Obj) (xs : List V) (ts : List Addr) : Hp := fun b => if b = a ∧ own = false then some (.frz o (.lst xs)) else if b ∈ ts then some (.tbl #[]) else none
section
variable {P : Program} {w : World} {K : PySem.W.Frag} {mg mb : Str → Option Value} {k : Nat} {fa a : Addr} {cs : List (Addr × Addr)} {fd : FuncData} {x : Str} {sp : Sp} {t : Shared} {us : List Value} {zs : List Int}
theorem law_go (inK : K.In t.heap) (nG : t.heap.Ns mainGlobals mg) (nB : t.heap.Ns builtinsNs mb) (boot : ∀ y : Str, y ≠ "__name__" → mb y = bootBuiltins y) (noL : t.heap.NoLimit) (noS : t.heap.NoSeer) (g0 : t.gens = #[])
    (tabs : ∀ p ∈ cs, t.heap.get? p.2 = some { cls := .none, data := .fields #[] } ∧ K.lookup p.2 = none ∧ PySem.W.CodeHd t.heap p.1 p.2)
    (bmod : ∃ (m : Addr) (o : Obj), mg "__builtins__" = some (.ref m) ∧ m ≠ builtinsNs ∧ t.heap.get? m = some o ∧ o.cls = .type "module" ∧ o.dict = some builtinsNs ∧ o.data = .plain)
    (atA : t.heap.get? a = some { cls := .type "list", data := .seq us.toArray }) (hin : IntsAre us zs) (few : zs.length ≤ sizeLine) (room : Room k callerA)
    (F : ∀ b : Heap, K.In b → b.Ns mainGlobals mg → b.NoSeer → (∀ p ∈ cs, GxR.TabB b mg p.1 p.2) → FnOk P w K mg b CX0 k fa fd [x] sp) (bnd : ∀ (s : Shared) (u : Value), BindsTo s fd ⟨[u], []⟩ [(x, u)])
    (prm : ∀ H : Hp, (∀ p ∈ cs, H p.2 = some (.tbl #[])) → ScrV K H a (zs.map V.int) → sp [.ref a] H (fun v _ => v = .bl true) E0) :
    codeAny (model P w) callerA (.call (.ref fa) ⟨[.ref a], []⟩) (fun r t' => r = .ok (.ret (.bool true)) ∧ OldK t.heap t'.heap ∧ t'.os = t.os ∧ AllBare t'.gens) t := by
  obtain ⟨ts, hts⟩ : ∃ ts, ts = cs.map (·.2) := ⟨_, rfl⟩
  obtain ⟨ob, hob⟩ : ∃ ob : Obj, ob = { cls := .type "list", data := .seq us.toArray } := ⟨_, rfl⟩
  obtain ⟨own, hown⟩ : ∃ own : Bool, own = (K.lookup a).isSome := ⟨_, rfl⟩
  have tabD : ∀ b ∈ ts, t.heap.get? b = some { cls := .none, data := .fields #[] } ∧ K.lookup b = none := fun b hb => by
    rw [hts] at hb
    obtain ⟨p, hp, rfl⟩ := List.mem_map.mp hb
    exact ⟨(tabs p hp).1, (tabs p hp).2.1⟩
  have isTab : ∀ p ∈ cs, p.2 ∈ ts := fun p hp => by rw [hts]; exact List.mem_map_of_mem hp
  have a_ts : a ∉ ts := fun hb => by
    have e := (tabD a hb).1
    rw [atA] at e
    have e' : Data.seq us.toArray _ = Data.fields #[] := congrArg Obj.data (Option.some.inj e)
    cases e'
  obtain ⟨H, hH⟩ : ∃ H : Hp, H = endH a own ob (zs.map V.int) ts := ⟨_, rfl⟩
  have H_ts : ∀ b ∈ ts, H b = some (.tbl #[]) := fun b hb => by
    rw [hH]
    unfold endH
    rw [if_neg (show ¬ (b = a ∧ own = false) from fun q => a_ts (q.1 ▸ hb)), if_pos hb]
  -- what is told of a place
  have kinds : ∀ b, H b = none ∨ (b ∈ ts ∧ H b = some (.tbl #[])) ∨ (b = a ∧ own = false ∧ H b = some (.frz ob (.lst (zs.map V.int)))) := fun b => by
    by_cases q1 : b = a ∧ own = false
    · exact .inr (.inr ⟨q1.1, q1.2, by rw [hH]; unfold endH; rw [if_pos q1]⟩)
    · by_cases q2 : b ∈ ts
      · exact .inr (.inl ⟨q2, H_ts b q2⟩)
      · exact .inl (by rw [hH]; unfold endH; rw [if_neg q1, if_neg q2])
  -- what is no list and no table is not told
  have quiet : ∀ {b : Addr} {o : Obj}, t.heap.get? b = some o → (∀ vs n, o.data ≠ .seq vs n) → (∀ ps, o.data ≠ .fields ps) → H b = none := fun {b o} e h1 h2 => by
    rcases kinds b with q | ⟨q, _⟩ | ⟨rfl, _, _⟩
    · exact q
    · rw [(tabD b q).1] at e
      cases e
      exact absurd rfl (h2 _)
    · rw [atA] at e
      cases e
      exact absurd rfl (h1 _ _)
  have shows : ∀ {b : Addr} {o : Obj}, t.heap.get? b = some o → (∀ vs n, o.data ≠ .seq vs n) → (∀ ps, o.data ≠ .fields ps) → (hidT t.heap H).get? b = some o := fun e h1 h2 => hidT_get e (quiet e h1 h2)
  have spaces : ∀ {b : Addr} {m : Str → Option Value}, t.heap.Ns b m → (hidT t.heap H).Ns b m := fun {b m} ⟨o, es, ep, e, d, r⟩ =>
    ⟨o, es, ep, shows e (fun _ _ z => by rw [d] at z; cases z) (fun _ z => by rw [d] at z; cases z), d, r⟩
  have inKb : K.In (hidT t.heap H) := fun b o e => hidT_get (inK b o e) (by
    rcases kinds b with q | ⟨q, _⟩ | ⟨rfl, q, _⟩
    · exact q
    · rw [(tabD b q).2] at e; cases e
    · rw [hown, e] at q; cases q)
  obtain ⟨bm, bo, m1, m2, m3, m4, m5, m6⟩ := bmod
  have bmShown : (hidT t.heap H).get? bm = some bo := shows m3 (fun _ _ z => by rw [m6] at z; cases z) (fun _ z => by rw [m6] at z; cases z)
  have modK : L2.Mod K mg (hidT t.heap H) := ⟨inKb, spaces nG, ⟨mb, spaces nB, boot⟩, let ⟨mc, q1, q2⟩ := noL; ⟨mc, spaces q1, q2⟩⟩
  have seer : (hidT t.heap H).NoSeer := by
    refine ⟨?_, ?_, ⟨mb, spaces nB, boot⟩, ⟨mg, bm, bo, spaces nG, m1, bmShown, m4, m5⟩⟩
    · obtain ⟨mc, q1, q2⟩ := noS.statics
      exact ⟨mc, spaces q1, q2⟩
    · obtain ⟨mc, q1, q2⟩ := noS.mods
      exact ⟨mc, spaces q1, q2⟩
  have tabB : ∀ p ∈ cs, GxR.TabB (hidT t.heap H) mg p.1 p.2 := fun p hp => by
    obtain ⟨q1, _, q2⟩ := tabs p hp
    refine ⟨?_, ⟨bm, bo, m1, m2, fun q => ?_, fun q => ?_, bmShown, m4, m5, m6⟩, fun q => ?_⟩
    · obtain ⟨o, ws, file, tf, flags, tg, inF, text, tt, e1, r1, r2, r3⟩ := q2
      refine ⟨o, ws, file, tf, flags, tg, inF, text, tt, hidT_get e1 ?_, r1, r2, r3⟩
      rcases kinds p.1 with z | ⟨z, _⟩ | ⟨z, _, _⟩
      · exact z
      · rw [(tabD _ z).1] at e1
        cases e1
        cases r2
        simp at r3
      · rw [z, atA] at e1
        cases e1
        cases r2
    · obtain ⟨o, es, ep, e, d, _⟩ := nG
      rw [← q, m3] at e
      cases e
      rw [m6] at d
      cases d
    · rw [q, q1] at m3
      cases m3
      cases m4
    · obtain ⟨o, es, ep, e, d, _⟩ := nG
      rw [q, q1] at e
      cases e
      cases d
  have len : us.length = zs.length := by rw [hin.length]
  have hok : HOk P w H t.heap := fun b u e => by
    rcases kinds b with z | ⟨z, z2⟩ | ⟨rfl, _, z2⟩
    · rw [z] at e; cases e
    · rw [z2] at e
      cases e
      exact (tabD b z).1
    · rw [z2] at e
      cases e
      rw [hob]
      exact ⟨atA, by rw [List.length_map]; exact few, us, _, vals_ints hin, atA⟩
  have scr : ScrV K H a (zs.map V.int) := by
    cases q : K.lookup a with
    | none =>
      rcases kinds a with z | ⟨z, _⟩ | ⟨_, _, z⟩
      · rw [q] at hown
        rw [hH, hown] at z
        unfold endH at z
        rw [if_pos ⟨rfl, rfl⟩] at z
        cases z
      · exact absurd z a_ts
      · exact .frz _ z
    | some o =>
      have e := inK a o q
      rw [atA] at e
      cases e
      exact .txt _ us.toArray _ q rfl rfl rfl (by rw [List.size_toArray, len]; exact few) (by simpa using vals_ints hin)
  have e0 : Env0 P w K mg (hidT t.heap H) callerA [] t H := ⟨rfl, modK, fun b o e => of_hidT e, Nat.le_of_eq (hidT_size _ _), trivial, fun b hb => absurd (show b ∈ ([] : List Addr) from hb) (by simp), hok, .of_eq g0⟩
  refine codeAny_mono ((F _ inKb (spaces nG) seer tabB).run callerA [] t H ⟨[.ref a], []⟩ [.ref a] [.ref a] _ _ room e0 (bnd t (.ref a)) (.cons rfl .nil) (prm H (fun p hp => H_ts _ (isTab p hp)) scr)) fun r t' hr => ?_
  match r, hr with
  | .ok (.ret u), hr =>
    obtain ⟨v, H', os, bare, un, hok', rv, ev⟩ := hr
    have ev' : v = .bl true := ev
    subst ev'
    obtain rfl : u = Value.bool true := rv
    have kept : ∀ b o, b ∉ ts → t.heap.get? b = some o → t'.heap.get? b = some o := fun b o nb e => by
      rcases kinds b with z | ⟨z, _⟩ | ⟨rfl, _, z⟩
      · exact un.keep b o e z (fun q => absurd (show b ∈ ([] : List Addr) from q) (by simp)) (by simp)
      · exact absurd z nb
      · obtain ⟨y1, _⟩ := hok b _ z
        obtain ⟨y2, _⟩ := hok' b _ (un.frzs b _ _ z)
        rw [e] at y1
        cases y1
        exact y2
    have more : ∀ b ∈ ts, ∃ ps : Array Value, t'.heap.get? b = some { cls := .none, data := .fields ps } := fun b hb => by
      obtain ⟨ps, z⟩ := un.tbls b #[] (H_ts b hb)
      exact ⟨_, hok' b _ z⟩
    refine ⟨rfl, ⟨fun b o e => ?_, fun b o e => ?_⟩, os, bare⟩
    · by_cases q : b ∈ ts
      · obtain ⟨ps, hps⟩ := more b q
        rw [hts] at q
        obtain ⟨p, hp, rfl⟩ := List.mem_map.mp q
        rw [(tabs p hp).1] at e
        cases e
        exact .inr (.inl ⟨((tabs p hp).2.2.tab (tabs p hp).1).isCodeTable, rfl, #[], ps, rfl, by rw [Array.empty_append]; exact hps⟩)
      · exact .inl (kept b o q e)
    · by_cases q : b ∈ ts
      · obtain ⟨ps, hps⟩ := more b q
        exact ⟨_, hps⟩
      · exact ⟨o, kept b o q e⟩
end

/-- what is known of the law's def behind the top -/
def LawD (l : PySem.W.OpenLaw) (w : World) (K : PySem.W.Frag) (k n : Nat) (x : Str) (mg : Str → Option Value) (fa : Addr) (h : Heap) : Prop :=
  ∃ (fd : FuncData) (cs : List (Addr × Addr)) (sp : Sp), (∀ p ∈ cs, h.get? p.2 = some { cls := .none, data := .fields #[] } ∧ K.lookup p.2 = none ∧ PySem.W.CodeHd h p.1 p.2) ∧ (∀ (s : Shared) (u : Value), BindsTo s fd ⟨[u], []⟩ [(x, u)]) ∧
    (∀ (H : Hp) (a : Addr) (zs : List Int), zs.length ≤ n → (∀ z ∈ zs, Builtin.Int.intBits z ≤ 1048576) → (∀ p ∈ cs, H p.2 = some (.tbl #[])) → ScrV K H a (zs.map V.int) → sp [.ref a] H (fun v _ => v = .bl true) E0) ∧
    ∀ b : Heap, K.In b → b.Ns mainGlobals mg → b.NoSeer → (∀ p ∈ cs, GxR.TabB b mg p.1 p.2) → FnOk l.prog w K mg b CX0 k fa fd [x] sp
/-- the tables of the code objects of the text's defs, as the head leaves them -/
def Recs (q : Program) (mg : Str → Option Value) (h : Heap) : Prop := ∀ d ∈ recsOf q, ∃ a o fd c P, mg d.name = some (.ref a) ∧ h.get? a = some o ∧ o.data = .func fd ∧ fd.code = .ref c ∧ h.IsCode c P #[] ∧ h.TableAt c P #[]
theorem walk_D {l : PySem.W.OpenLaw} {n k : Nat} {q : Program} {loose : List Str} {XP : (Str → Option Value) → Heap → Prop} {YP : World → Heap → Prop} {d : DefRec} {K : Params → PySem.W.Frag} {x : Str}
    (few : l.most = some n) (line : n ≤ sizeLine) (plain : d.params.defaults = []) (room : Room k callerA) (imps : importsNone q = true) (inK : ∀ (w : World) (h : Heap), YP w h → (K w.params).In h)
    (F : ∀ (w : World) (mg : Str → Option Value) (fa : Addr) (h : Heap), YP w h → (K w.params).In h → h.Ns mainGlobals mg → mg d.name = some (.ref fa) → Recs q mg h → LawD l w (K w.params) k n x mg fa h) :
    PySem.W.WalkO q loose XP YP l.row.toRowW d [] (fun f vs => PySem.call f vs) := by
  refine Att.attach_callB few plain fun w s t mg mb fa o pm cd doc a us zs G Y _ _ _ hmg hobj hints hlen hbits hg => ?_
  obtain ⟨fd, cs, sp, tabs, bnd, prm, hF⟩ := F w mg fa _ Y (inK w _ Y) G.T.g hmg G.T.tab
  exact law_go (inK w _ Y) G.T.g G.T.b G.T.builtins G.T.nolimit (G.T.seer imps) hg tabs G.T.bmain hobj hints (Nat.le_trans hlen line) room hF bnd fun H h1 h2 => prm H a zs hlen hbits h1 h2

theorem rep_ints {K : PySem.W.Frag} {Z : Addr → Prop} {S : Sto} {H : Hp} : ∀ zs : List Int, RepL K Z S H (zs.map D.int) (zs.map V.int)
  | [] => .nil
  | z :: zs => .cons (.int z) (rep_ints zs)
theorem tabs_nil {H : Hp} : Tabs [] H := fun P h => nomatch h
theorem tabs_of {H : Hp} {cs : List (Addr × Addr)} (h : ∀ p ∈ cs, H p.2 = some (.tbl #[])) : Tabs (cs.map (·.2)) H := fun P hP => by
  obtain ⟨p, hp, rfl⟩ := List.mem_map.mp hP
  exact ⟨#[], h p hp, trivial⟩
def S0 : Sto := fun _ => none
/-- the law's promise from its meaning -/
theorem sp_law {K : PySem.W.Frag} {G : Fns} {f : Nat} {H : Hp} {a : Addr} {zs : List Int} {tb : List Addr} (t : Tabs tb H) (h : ScrV K H a (zs.map V.int)) (m : G f [.scr (zs.map .int)] S0 fun d _ => d = .bl true) : spD K tb G f [.ref a] H (fun v _ => v = .bl true) E0 :=
  ⟨fun _ => False, [.scr (zs.map .int)], S0, _, .cons (.scr h (rep_ints zs)) .nil, ⟨(fun _ _ e => by cases e), (fun _ z => z.elim), (fun _ _ e => by cases e)⟩, t, m, fun d S' v H' _ _ _ r e => by
    subst e
    cases r
    rfl⟩
end DL

set_option Elab.async false
set_option linter.all false
set_option maxRecDepth 100000
set_option maxHeartbeats 4000000
/-! DL13: what is asked of a law's text, put together. -/
namespace DL
open PySem PySem.Spec PyProof.Rows L2 RZ

def FunAt (K : PySem.W.Frag) (d : DefI) : Prop := ∃ f fd, PySem.W.nsIn K mainGlobals d.x = some (some (.ref f)) ∧ Fun K d.x d.x d.st f fd
theorem funAt {K : PySem.W.Frag} {x : Str} {st : Stmt} {N ps : List Str} {body : C} {f : Addr} {oc : Value} {od an : Option Addr} {osl : Array (Option Value)} {kV doc pm cdv ct : Value} (a : PySem.W.nsIn K mainGlobals x = some (some (.ref f)))
    (l : K.lookup f = some ⟨oc, od, .func (PySem.W.fnOf x x (defArgs st) (defBody st) (defScope st) .none kV doc pm an cdv ct), osl⟩) (c : PySem.W.codeIn K cdv x = true) (k : PySem.W.keepIn K (.ref f) = true) : FunAt K ⟨x, st, N, ps, body⟩ :=
  ⟨f, _, a, fun_mk l c k⟩
theorem all_nil {α : Type} {P : α → Prop} : ∀ d ∈ ([] : List α), P d := fun d h => nomatch h
theorem all_cons {α : Type} {P : α → Prop} {a : α} {l : List α} (h : P a) (r : ∀ d ∈ l, P d) : ∀ d ∈ a :: l, P d := fun d hd => by
  rcases List.mem_cons.mp hd with e | e
  · rw [e]; exact h
  · exact r d e
theorem vals_perm {vs : List V} {us : List Value} (r : Vals vs us) : ∀ p : List Nat, Vals (permD p vs) (permD p us)
  | [] => .nil
  | i :: p => by
    have ih := vals_perm r p
    unfold permD at ih ⊢
    rw [List.filterMap_cons, List.filterMap_cons]
    cases e : vs[i]? with
    | none =>
      have : us[i]? = none := by
        rw [List.getElem?_eq_none_iff] at e ⊢; rw [← r.length]; exact e
      rw [this]; exact ih
    | some d =>
      obtain ⟨v, h1, h2⟩ := r.get e
      rw [h1]; exact .cons h2 ih
theorem vals_app {vs zs : List V} {us ws : List Value} (r : Vals vs us) (r2 : Vals zs ws) : Vals (vs ++ zs) (us ++ ws) := by
  induction r with
  | nil => exact r2
  | cons h _ ih => exact .cons h ih
theorem vals_arr {vs zs : List V} {us ws : List Value} (r : Vals vs us) (r2 : Vals zs ws) (n m : Nat) (p : List Nat) : Vals (arr n m p vs zs) (arr n m p us ws) := by
  unfold arr
  rw [r.length, r2.length]
  split
  · exact vals_perm (vals_app r r2) p
  · exact .nil
/-- how a call with keywords binds, from the def's head -/
theorem kbinds_mk {K : PySem.W.Frag} {fd : FuncData} {ps ks : List Str} {n m : Nat} {p : List Nat} (h0 : ps ≠ []) (h : ∀ us ws : List Value, us.length = n → ws.length = m → bindArgs fd ⟨us, ks.zip ws⟩ = pure (ps.zip (permD p (us ++ ws)))) : KBinds K fd ps ks (arr n m p) (arr n m p) :=
  ⟨fun s us ws _ hl => by
    unfold arr at hl ⊢
    by_cases q : us.length = n ∧ ws.length = m
    · rw [if_pos q] at hl ⊢
      exact .of_eq (h us ws q.1 q.2)
    · rw [if_neg q] at hl
      exact absurd (List.length_eq_zero_iff.mp hl.symm) h0, fun r r2 => vals_arr r r2 n m p⟩
theorem mg_free {K : PySem.W.Frag} {h : Heap} {mg : Str → Option Value} (X : K.In h) (G : h.Ns mainGlobals mg) {l : List Str} (z : ∀ x ∈ l, PySem.W.nsIn K mainGlobals x = some none) : ∀ x ∈ l, mg x = none := fun x hx => PySem.W.mg_none_of X G (z x hx)
/-- a constant of the module -/
def ConAt (K : PySem.W.Frag) (mg : Str → Option Value) (X' : Mod') (x : Str) (i : Nat) : Prop := ∃ (u : Value) (v : V) (d : D), mg x = some u ∧ RelV v u ∧ X'.consts[i]? = some d ∧ ∀ Z S H, Rep K Z S H d v
/-- a constant that is a pair of whole numbers -/
theorem conPair {K : PySem.W.Frag} {mg : Str → Option Value} {h : Heap} {X' : Mod'} {x : Str} {n : Nat} {a : Addr} {dd : Option Addr} {its : Array Value} {m : Nat} {sl : Array (Option Value)} {i j : Int} {t u : Tok} (KX : K.In h) (G : h.Ns mainGlobals mg) (e : PySem.W.nsIn K mainGlobals x = some (some (.ref a)))
    (l : K.lookup a = some ⟨.type "tuple", dd, .seq its m, sl⟩) (hi : its = #[.int i t, .int j u]) (hx : X'.consts[n]? = some (.tup [.int i, .int j])) : ConAt K mg X' x n := by
  subst hi
  refine ⟨_, .ref a, _, PySem.W.mg_of KX G e, rfl, hx, fun Z S H => .tup (vs := [.int i, .int j]) (.inr ⟨_, _, _, l, rfl, rfl, by rw [sizeLine_eq]; show 2 ≤ _; decide, ?_⟩) (.cons (.int i) (.cons (.int j) .nil))⟩
  exact .cons ⟨t, rfl⟩ (.cons ⟨u, rfl⟩ .nil)
/-- the law's frame -/
theorem law_frame {l : PySem.W.OpenLaw} {w : World} {K : PySem.W.Frag} {n m j : Nat} {x : Str} {mg : Str → Option Value} {fa : Addr} {h : Heap} {T : Tab} {X' : Mod'} {fuel : Nat} {defs : List DefI} {fs : List FnD} {dl : DefI}
    (cs : List (Addr × Addr)) (hcs : ∀ p ∈ cs, h.get? p.2 = some { cls := .none, data := .fields #[] } ∧ K.lookup p.2 = none ∧ PySem.W.CodeHd h p.1 p.2)
    (hgx : ∀ d ∈ defs, gxB d.N = true → ∀ f fd, mg d.x = some (.ref f) → Fun K d.x d.x d.st f fd → ∃ c P, fd.code = .ref c ∧ (c, P) ∈ cs)
    (KX : K.In h) (G : h.Ns mainGlobals mg) (hfa : mg dl.x = some (.ref fa)) (A : ∀ d ∈ defs, FunAt K d)
    (chk : ∀ d ∈ defs, FnScope d.N d.ps (defScope d.st) ∧ trCs T (trC T d.N fuel (defScope d.st)) (defBody d.st) = some d.body)
    (bnd : ∀ d ∈ defs, ∀ f fd, Fun K d.x d.x d.st f fd → Binds K fd d.ps [])
    (nm : (T.fns.all fun y => match defs[y.2]? with | some d => decide (d.x = y.1) | none => false) = true)
    (kw : ∀ (kp f n : Nat) (ks : List Str) (p : List Nat), T.kws[kp]? = some (f, n, ks, p) → X'.kps[kp]? = some (n, ks.length, p) ∧ ∀ d, defs[f]? = some d → ∀ fa fd, Fun K d.x d.x d.st fa fd → KBinds K fd d.ps ks (arr n ks.length p) (arr n ks.length p))
    (kwl : ∀ (kp f n : Nat) (ks : List Str) (p : List Nat), T.kws[kp]? = some (f, n, ks, p) → ∃ d, defs[f]? = some d)
    (ct : ∀ x i, lkS x T.consts = some i → ConAt K mg X' x i) (bi : ∀ x ∈ bnames, PySem.W.nsIn K mainGlobals x = some none) (tree : l.prog.given.tree = none)
    (hj : defs[j]? = some dl) (hps : dl.ps = [x]) (bl : ∀ f fd, Fun K dl.x dl.x dl.st f fd → ∀ (s : Shared) (u : Value), BindsTo s fd ⟨[u], []⟩ [(x, u)]) (hfs : defs.map DefI.fn = fs)
    (sem : ∀ zs : List Int, zs.length ≤ n → (∀ z ∈ zs, Builtin.Int.intBits z ≤ 1048576) → callD X' fs m j [.scr (zs.map .int)] S0 fun d _ => d = .bl true) : LawD l w K (32 + 8 * m) n x mg fa h := by
  subst hfs
  have B : ∀ i : Nat, ∃ (f : Addr) (fd : FuncData), ∀ d : DefI, defs[i]? = some d → mg d.x = some (.ref f) ∧ Fun K d.x d.x d.st f fd := fun i => by
    cases e : defs[i]? with
    | none => exact ⟨0, default, fun d z => by cases z⟩
    | some d =>
      obtain ⟨f, fd, a, F⟩ := A d (List.mem_of_getElem? e)
      exact ⟨f, fd, fun d' z => by cases z; exact ⟨PySem.W.mg_of KX G a, F⟩⟩
  obtain ⟨Md, hMd⟩ : ∃ Md : ModD, (∀ (i : Nat) (d : DefI), defs[i]? = some d → mg d.x = some (.ref (Md.fa i)) ∧ Fun K d.x d.x d.st (Md.fa i) (Md.fd i) ∧ Md.ps i = d.ps) :=
    ⟨⟨fun i => (B i).choose, fun i => (B i).choose_spec.choose, fun i => (defs[i]?.map (·.ps)).getD []⟩, fun i d e => ⟨((B i).choose_spec.choose_spec d e).1, ((B i).choose_spec.choose_spec d e).2, by show (defs[i]?.map (·.ps)).getD [] = d.ps; rw [e]; rfl⟩⟩
  obtain ⟨g1, g2, g3⟩ := hMd j dl hj
  have efa : fa = Md.fa j := by
    have := hfa.symm.trans g1
    cases this
    rfl
  subst efa
  refine ⟨Md.fd j, cs, spD K (cs.map (·.2)) (callD X' (defs.map DefI.fn) m) j, hcs, bl _ _ g2, fun H a zs h1 h2 h4 h3 => sp_law (tabs_of h4) h3 (sem zs h1 h2), fun b Kb Gb seer htb => ?_⟩
  have O : DefsOk l.prog w K mg b (cs.map (·.2)) T X' Md fuel defs := by
    refine ⟨fun i d e hx => ?_, fun i d e => ?_, fun y f e => ?_, fun kp f n ks p e => ?_, ct, mg_free KX G bi, seer, tree⟩
    · obtain ⟨q1, q2, _⟩ := hMd i d e
      obtain ⟨c, P, e1, e2⟩ := hgx d (List.mem_of_getElem? e) hx _ _ q1 q2
      exact ⟨c, P, htb _ e2, List.mem_map.mpr ⟨_, e2, rfl⟩, e1⟩
    · obtain ⟨_, q2, q3⟩ := hMd i d e
      have c := chk d (List.mem_of_getElem? e)
      exact ⟨q2, c.1, q3, c.2⟩
    · have q := List.all_eq_true.mp nm _ (lkS_mem e)
      simp only at q
      split at q
      · rename_i d hd
        have ex : d.x = y := of_decide_eq_true q
        obtain ⟨q1, q2, q3⟩ := hMd f d hd
        rw [ex] at q1
        exact ⟨q1, q2.kp, by rw [q3]; exact bnd d (List.mem_of_getElem? hd) _ _ q2⟩
      · cases q
    · obtain ⟨k1, k2⟩ := kw kp f n ks p e
      obtain ⟨d, hd⟩ := kwl kp f n ks p e
      obtain ⟨q1, q2, q3⟩ := hMd f d hd
      exact ⟨by rw [q3]; exact k2 d hd _ _ q2, k1⟩
  have := defs_ok O m j
  rw [g3, hps] at this
  exact this

/-- no table of a code object that is empty is written out -/
def noTab (K : PySem.W.Frag) : Bool := K.all fun p => match p.2 with | ⟨.none, none, .fields #[], #[]⟩ => false | _ => true
theorem noTab_none {K : PySem.W.Frag} {h : Heap} {P : Addr} (z : noTab K = true) (KX : K.In h) (e : h.get? P = some { cls := .none, data := .fields #[] }) : K.lookup P = none := by
  cases q : K.lookup P with
  | none => rfl
  | some o =>
    have e2 := KX P o q
    rw [e] at e2
    cases e2
    obtain ⟨l1, l2, el, _⟩ := List.lookup_eq_some_iff.mp q
    have := List.all_eq_true.mp z (P, { cls := .none, data := .fields #[] }) (by rw [el]; simp)
    exact absurd (show false = true from this) Bool.false_ne_true
/-- the tables of these defs -/
theorem gx_tabs {q : Program} {K : PySem.W.Frag} {mg : Str → Option Value} {h : Heap} (R : Recs q mg h) (KX : K.In h) (z : noTab K = true) : ∀ (xs : List Str), (xs.all fun x => (recsOf q).any fun d => d.name == x) = true →
    ∃ cs : List (Addr × Addr), (∀ p ∈ cs, h.get? p.2 = some { cls := .none, data := .fields #[] } ∧ K.lookup p.2 = none ∧ PySem.W.CodeHd h p.1 p.2) ∧ ∀ x ∈ xs, ∀ f o fd, mg x = some (.ref f) → h.get? f = some o → o.data = .func fd → ∃ c P, fd.code = .ref c ∧ (c, P) ∈ cs
  | [], _ => ⟨[], (fun p h => nomatch h), fun x h => nomatch h⟩
  | x :: xs, hn => by
    rw [List.all_cons, Bool.and_eq_true] at hn
    obtain ⟨cs, h1, h2⟩ := gx_tabs R KX z xs hn.2
    obtain ⟨d, hd, hx⟩ := List.any_eq_true.mp hn.1
    have hx : d.name = x := beq_iff_eq.mp hx
    obtain ⟨a, o, fd, c, P, e1, e2, e3, e4, e5, e6⟩ := R d hd
    refine ⟨(c, P) :: cs, fun p hp => ?_, fun y hy f o' fd' f1 f2 f3 => ?_⟩
    · rcases List.mem_cons.mp hp with q | q
      · rw [q]
        exact ⟨e6.2, noTab_none z KX e6.2, .of e5 e6⟩
      · exact h1 p q
    · rcases List.mem_cons.mp hy with q | q
      · subst q
        rw [hx] at e1
        rw [e1] at f1
        cases f1
        rw [e2] at f2
        cases f2
        rw [e3] at f3
        cases f3
        exact ⟨c, P, e4, List.mem_cons_self⟩
      · obtain ⟨c', P', g1, g2⟩ := h2 y q f o' fd' f1 f2 f3
        exact ⟨c', P', g1, List.mem_cons_of_mem _ g2⟩
end DL

set_option Elab.async false
set_option linter.all false
set_option maxRecDepth 100000
/-! DLA: plain arithmetic of fractions. -/
namespace DL
open PySem PySem.Spec PyProof.Rows L2
/-- a fraction as the program holds it -/
def fr (x : Rat) : D := .tup [.int x.num, .int (x.den : Int)]
def FB (B : Nat) (x : Rat) : Prop := x.num.natAbs < 2 ^ B ∧ x.den < 2 ^ B
theorem FB.mono {B C : Nat} {x : Rat} (h : FB B x) (l : B ≤ C) : FB C x := by
  have := Nat.pow_le_pow_right (n := 2) (by decide) l
  exact ⟨Nat.lt_of_lt_of_le h.1 this, Nat.lt_of_lt_of_le h.2 this⟩
theorem natAbs_div_le (a : Int) (n : Nat) : (a / (n : Int)).natAbs ≤ a.natAbs ∨ n = 0 := by
  rcases Nat.eq_zero_or_pos n with h | h
  · exact .inr h
  · left
    rcases Int.lt_or_le a 0 with q | q
    · have h1 : a ≤ a / (n : Int) := by
        have := Int.le_ediv_of_mul_le (a := a) (b := a) (c := (n : Int)) (by omega) (by
          have : a * (n : Int) ≤ a * 1 := Int.mul_le_mul_of_nonpos_left (by omega) (by omega)
          omega)
        exact this
      have h2 : a / (n : Int) < 0 := Int.ediv_neg_of_neg_of_pos q (by omega)
      omega
    · have h1 : a / (n : Int) ≤ a := Int.ediv_le_self _ q
      have h2 : 0 ≤ a / (n : Int) := Int.ediv_nonneg q (by omega)
      omega
theorem FB_divInt {B : Nat} {a b : Int} (hb : b ≠ 0) (h1 : a.natAbs < 2 ^ B) (h2 : b.natAbs < 2 ^ B) : FB B (Rat.divInt a b) := by
  have g : b.gcd a ≠ 0 := by
    intro e
    exact hb (Int.gcd_eq_zero_iff.mp e).1
  constructor
  · rw [Rat.num_divInt]
    rcases natAbs_div_le (b.sign * a) (b.gcd a) with h | h
    · refine Nat.lt_of_le_of_lt h ?_
      rw [Int.natAbs_mul, Int.natAbs_sign_of_ne_zero hb, Nat.one_mul]
      exact h1
    · exact absurd h g
  · rw [Rat.den_divInt, if_neg hb]
    exact Nat.lt_of_le_of_lt (Nat.div_le_self _ _) h2
theorem fdiv_of_dvd {a b : Int} (h : b ∣ a) : a.fdiv b = a / b := by
  obtain ⟨c, rfl⟩ := h
  by_cases hb : b = 0
  · subst hb; simp
  · rw [Int.mul_fdiv_cancel_left _ hb, Int.mul_ediv_cancel_left _ hb]
theorem fr_low (a b : Int) (hb : b ≠ 0) : fr (Rat.divInt a b) = .tup [.int (a.fdiv (if b < 0 then -(Int.gcd a b : Int) else (Int.gcd a b : Int))), .int (b.fdiv (if b < 0 then -(Int.gcd a b : Int) else (Int.gcd a b : Int)))] := by
  have da : ((Int.gcd a b : Nat) : Int) ∣ a := Int.gcd_dvd_left ..
  have db : ((Int.gcd a b : Nat) : Int) ∣ b := Int.gcd_dvd_right ..
  have gc : b.gcd a = a.gcd b := Int.gcd_comm _ _
  unfold fr
  rw [Rat.num_divInt, Rat.den_divInt, if_neg hb, gc]
  by_cases q : b < 0
  · rw [if_pos q, fdiv_of_dvd (Int.neg_dvd.mpr da), fdiv_of_dvd (Int.neg_dvd.mpr db), Int.ediv_neg, Int.ediv_neg, Int.sign_eq_neg_one_of_neg q, ← Int.neg_ediv_of_dvd da, ← Int.neg_ediv_of_dvd db, Int.natCast_ediv]
    congr 3
    · congr 1; omega
    · congr 2; congr 1; omega
  · have q' : 0 < b := by omega
    rw [if_neg q, fdiv_of_dvd da, fdiv_of_dvd db, Int.sign_eq_one_of_pos q', Int.one_mul, Int.natCast_ediv]
    congr 4; congr 1; omega
theorem lt_pow_mul {a b B C : Nat} (h1 : a < 2 ^ B) (h2 : b < 2 ^ C) : a * b < 2 ^ (B + C) := by
  rw [Nat.pow_add]
  exact Nat.mul_lt_mul_of_lt_of_le h1 (Nat.le_of_lt h2) (Nat.pow_pos (by decide))
theorem add_eq (x y : Rat) : x + y = Rat.divInt (x.num * (y.den : Int) + y.num * (x.den : Int)) ((x.den : Int) * (y.den : Int)) := by
  rw [Rat.add_def', ← Rat.divInt_ofNat, Int.natCast_mul]
theorem mul_eq (x y : Rat) : x * y = Rat.divInt (x.num * y.num) ((x.den : Int) * (y.den : Int)) := by
  rw [Rat.mul_def', ← Rat.divInt_ofNat, Int.natCast_mul]
theorem den_ne (x : Rat) : (x.den : Int) ≠ 0 := by have := x.den_nz; omega
theorem dens_ne (x y : Rat) : (x.den : Int) * (y.den : Int) ≠ 0 := Int.mul_ne_zero (den_ne x) (den_ne y)
theorem FB.add_num {B C : Nat} {x y : Rat} (h1 : FB B x) (h2 : FB C y) : (x.num * (y.den : Int) + y.num * (x.den : Int)).natAbs < 2 ^ (B + C + 1) := by
  have a1 : (x.num * (y.den : Int)).natAbs < 2 ^ (B + C) := by rw [Int.natAbs_mul, Int.natAbs_natCast]; exact lt_pow_mul h1.1 h2.2
  have a2 : (y.num * (x.den : Int)).natAbs < 2 ^ (B + C) := by rw [Int.natAbs_mul, Int.natAbs_natCast, Nat.add_comm B C]; exact lt_pow_mul h2.1 h1.2
  have := Int.natAbs_add_le (x.num * (y.den : Int)) (y.num * (x.den : Int))
  rw [Nat.pow_succ]
  omega
theorem FB.dens {B C : Nat} {x y : Rat} (h1 : FB B x) (h2 : FB C y) : ((x.den : Int) * (y.den : Int)).natAbs < 2 ^ (B + C) := by
  rw [Int.natAbs_mul, Int.natAbs_natCast, Int.natAbs_natCast]; exact lt_pow_mul h1.2 h2.2
theorem FB.nums {B C : Nat} {x y : Rat} (h1 : FB B x) (h2 : FB C y) : (x.num * y.num).natAbs < 2 ^ (B + C) := by
  rw [Int.natAbs_mul]; exact lt_pow_mul h1.1 h2.1
theorem pow2_mono {a B C : Nat} (h : a < 2 ^ B) (l : B ≤ C) : a < 2 ^ C := Nat.lt_of_lt_of_le h (Nat.pow_le_pow_right (by decide) l)
theorem FB.add {B C : Nat} {x y : Rat} (h1 : FB B x) (h2 : FB C y) : FB (B + C + 1) (x + y) := by
  rw [add_eq]
  exact FB_divInt (dens_ne x y) (h1.add_num h2) (pow2_mono (h1.dens h2) (by omega))
theorem FB.mul {B C : Nat} {x y : Rat} (h1 : FB B x) (h2 : FB C y) : FB (B + C) (x * y) := by
  rw [mul_eq]
  exact FB_divInt (dens_ne x y) (h1.nums h2) (h1.dens h2)
theorem FB.neg {B : Nat} {x : Rat} (h : FB B x) : FB B (-x) := ⟨by rw [Rat.neg_num, Int.natAbs_neg]; exact h.1, h.2⟩
theorem log2_lt' {a B : Nat} (h : a < 2 ^ B) : a.log2 ≤ B := by
  rcases Nat.eq_zero_or_pos a with q | q
  · subst q; simp
  · have := (Nat.log2_lt (by omega)).mpr h
    omega
/-- a product's size -/
theorem mulok {i j : Int} {B C : Nat} (h1 : i.natAbs < 2 ^ B) (h2 : j.natAbs < 2 ^ C) (l : B + C < 1000000) : MulOk i j := by
  refine CMulW.ok ?_
  unfold CMulW
  have := log2_lt' h1
  have := log2_lt' h2
  omega
theorem mulok_r {i j : Int} (h : -(2 ^ 64) < j ∧ j < 2 ^ 64) : MulOk i j := CMul.ok (.inr h)
theorem mulok_l {i j : Int} (h : -(2 ^ 64) < i ∧ i < 2 ^ 64) : MulOk i j := CMul.ok (.inl h)
theorem FB.mn {B C : Nat} {x y : Rat} (h1 : FB B x) (h2 : FB C y) (l : B + C < 1000000) : MulOk x.num y.num := mulok h1.1 h2.1 l
theorem FB.md {B C : Nat} {x y : Rat} (h1 : FB B x) (h2 : FB C y) (l : B + C < 1000000) : MulOk x.num (y.den : Int) := mulok h1.1 (by rw [Int.natAbs_natCast]; exact h2.2) l
theorem FB.dd {B C : Nat} {x y : Rat} (h1 : FB B x) (h2 : FB C y) (l : B + C < 1000000) : MulOk (x.den : Int) (y.den : Int) := mulok (by rw [Int.natAbs_natCast]; exact h1.2) (by rw [Int.natAbs_natCast]; exact h2.2) l
theorem gcd_step {a b : Int} (ha : 0 ≤ a) (hb : 0 ≤ b) : Int.gcd b (a.fmod b) = Int.gcd a b := by
  obtain ⟨m, rfl⟩ := Int.eq_ofNat_of_zero_le ha
  obtain ⟨n, rfl⟩ := Int.eq_ofNat_of_zero_le hb
  rw [Int.fmod_eq_emod_of_nonneg _ hb, ← Int.natCast_emod]
  show Nat.gcd n (m % n) = Nat.gcd m n
  rw [Nat.gcd_comm m n, Nat.gcd_rec n m, Nat.gcd_comm]
theorem fmod_bounds {a b : Int} (hb : 0 < b) : 0 ≤ a.fmod b ∧ a.fmod b < b := by
  rw [Int.fmod_eq_emod_of_nonneg _ (by omega)]
  exact ⟨Int.emod_nonneg a (by omega), Int.emod_lt_of_pos a hb⟩
theorem abs_eq (i : Int) : (if i < 0 then -i else i) = (i.natAbs : Int) := by split <;> omega
/-- Euclid: the product is halved -/
theorem euclid_half {a b : Int} {n : Nat} (hb : 0 < b) (hba : b ≤ a) (h : a * b < 2 ^ (n + 1)) : b * (a.fmod b) < 2 ^ n := by
  have h1 := fmod_bounds (a := a) hb
  have e : a = b * (a.fdiv b) + a.fmod b := (Int.mul_fdiv_add_fmod a b).symm
  have q : 1 ≤ a.fdiv b := by
    refine Int.not_lt.mp fun z => ?_
    have : b * a.fdiv b ≤ 0 := Int.mul_nonpos_of_nonneg_of_nonpos (by omega) (by omega)
    omega
  have q2 : b * 1 ≤ b * a.fdiv b := Int.mul_le_mul_of_nonneg_left q (by omega)
  have q3 : 2 * (a.fmod b) ≤ a := by omega
  have q4 : b * (2 * a.fmod b) ≤ b * a := Int.mul_le_mul_of_nonneg_left q3 (by omega)
  rw [Int.mul_comm b a] at q4
  have e2 : b * (2 * a.fmod b) = 2 * (b * a.fmod b) := by rw [Int.mul_left_comm]
  rw [Int.pow_succ] at h
  omega
theorem frE {x : Rat} {i j : Int} (h1 : i = x.num) (h2 : j = (x.den : Int)) : D.tup [.int i, .int j] = fr x := by rw [h1, h2]; rfl
/-! ### what is read at concrete places -/
theorem rangeD_len {a b : Int} : (rangeD a b).length = (b - a).toNat := by simp [rangeD]
theorem atI_nat {α : Type} {l : List α} {n : Nat} {d : α} (h : l[n]? = some d) : atI l (n : Int) = some d := by
  have hn : n < l.length := (List.getElem?_eq_some_iff.mp h).1
  unfold atI ixN
  rw [if_pos (by omega), if_pos (by omega)]
  exact h
theorem atI_some {α : Type} {l : List α} {i : Int} {d : α} (h0 : 0 ≤ i) (h : l[i.toNat]? = some d) : atI l i = some d := by
  have := atI_nat h
  rw [Int.toNat_of_nonneg h0] at this
  exact this
section
variable {S : Sto} {k : D → Prop} {a b c d e f : D} {l : List D}
theorem ixT {i : Int} (h0 : 0 ≤ i) (h : l[i.toNat]? = some d) : dIx S (.tup l) (.int i) k = k d := by
  show (∃ d', atI l i = some d' ∧ k d') = _
  rw [atI_some h0 h]; simp
theorem ixL {i : Int} (h0 : 0 ≤ i) (h : l[i.toNat]? = some d) : dIx S (.lst l) (.int i) k = k d := by
  show (∃ d', atI l i = some d' ∧ k d') = _
  rw [atI_some h0 h]; simp
theorem ixC {i : Int} (h0 : 0 ≤ i) (h : l[i.toNat]? = some d) : dIx S (.scr l) (.int i) k = k d := by
  show (∃ d', atI l i = some d' ∧ k d') = _
  rw [atI_some h0 h]; simp
theorem ixR {i : Int} {p : Addr} (hp : S p = some l) (h0 : 0 ≤ i) (h : l[i.toNat]? = some d) : dIx S (.ref p) (.int i) k = k d := by
  show (∃ xs d', S p = some xs ∧ atI xs i = some d' ∧ k d') = _
  rw [hp]
  simp [atI_some h0 h]
theorem ix0 : dIx S (.tup (a :: l)) (.int 0) k = k a := ixT (by decide) rfl
theorem ix1 : dIx S (.tup (a :: b :: l)) (.int 1) k = k b := ixT (by decide) rfl
theorem ix2 : dIx S (.tup (a :: b :: c :: l)) (.int 2) k = k c := ixT (by decide) rfl
theorem ix3 : dIx S (.tup (a :: b :: c :: d :: l)) (.int 3) k = k d := ixT (by decide) rfl
theorem ix4 : dIx S (.tup (a :: b :: c :: d :: e :: l)) (.int 4) k = k e := ixT (by decide) rfl
theorem ixf0 {x : Rat} : dIx S (fr x) (.int 0) k = k (.int x.num) := ixT (by decide) rfl
theorem ixf1 {x : Rat} : dIx S (fr x) (.int 1) k = k (.int (x.den : Int)) := ixT (by decide) rfl
end
section
variable {S : Sto} {k : D → Prop} {i j : Int} {q : Bool → Prop}
theorem cEq : dCmp S .eq (.int i) (.int j) k = k (.bl (decide (i = j))) := rfl
theorem cNe : dCmp S .ne (.int i) (.int j) k = k (.bl !(decide (i = j))) := rfl
theorem cLt : dCmp S .lt (.int i) (.int j) k = k (.bl (decide (i < j))) := rfl
theorem cLe : dCmp S .le (.int i) (.int j) k = k (.bl (decide (i ≤ j))) := rfl
theorem cGt : dCmp S .gt (.int i) (.int j) k = k (.bl (decide (j < i))) := rfl
theorem cGe : dCmp S .ge (.int i) (.int j) k = k (.bl (decide (j ≤ i))) := rfl
theorem cIs : dCmp S .isN (.tup l) .non k = k (.bl false) := rfl
theorem bAdd : dBin .add (.int i) (.int j) k = k (.int (i + j)) := rfl
theorem bSub : dBin .sub (.int i) (.int j) k = k (.int (i - j)) := rfl
theorem bMul : dBin .mul (.int i) (.int j) k = (MulOk i j ∧ k (.int (i * j))) := rfl
theorem bDiv : dBin .fdiv (.int i) (.int j) k = (j ≠ 0 ∧ k (.int (i.fdiv j))) := rfl
theorem bMod : dBin .mod (.int i) (.int j) k = (j ≠ 0 ∧ k (.int (i.fmod j))) := rfl
theorem bPow (h : PowOk i j) : dBin .pow (.int i) (.int j) k = k (.int (i ^ j.toNat)) := by
  show (PowOk i j ∧ k _) = _
  simp [h]
@[irreducible] def E6 : Int := 1000000
@[irreducible] def E9 : Int := 1000000000
@[irreducible] def E18 : Int := 1000000000000000000
@[irreducible] def E20 : Int := 100000000000000000000
theorem E6_eq : E6 = 1000000 := by unfold E6; rfl
theorem E9_eq : E9 = 1000000000 := by unfold E9; rfl
theorem E18_eq : E18 = 1000000000000000000 := by unfold E18; rfl
theorem E20_eq : E20 = 100000000000000000000 := by unfold E20; rfl
theorem bP6 : dBin .pow (.int 10) (.int 6) k = k (.int E6) := by unfold E6; exact bPow (by unfold PowOk CPow; decide)
theorem bP9 : dBin .pow (.int 10) (.int 9) k = k (.int E9) := by unfold E9; exact bPow (by unfold PowOk CPow; decide)
theorem bP18 : dBin .pow (.int 10) (.int 18) k = k (.int E18) := by unfold E18; exact bPow (by unfold PowOk CPow; decide)
theorem bP20 : dBin .pow (.int 10) (.int 20) k = k (.int E20) := by unfold E20; exact bPow (by unfold PowOk CPow; decide)
theorem ernd {P : Int → Int → Prop} : (∃ c d, D.int i = D.int c ∧ D.int j = D.int d ∧ P c d) = P i j := by simp
theorem iInt {S : Sto} {K : D → Sto → Prop} : dBi .int [.int i] S K = K (.int i) S := rfl
theorem iBool {S : Sto} {K : D → Sto → Prop} {b : Bool} : dBi .int [.bl b] S K = K (.int (if b = true then 1 else 0)) S := rfl
theorem iAbs {S : Sto} {K : D → Sto → Prop} : dBi .abs [.int i] S K = K (.int (i.natAbs : Int)) S := by rw [← abs_eq]; rfl
theorem iLenT {S : Sto} {K : D → Sto → Prop} {l : List D} : dBi .len [.tup l] S K = K (.int l.length) S := rfl
theorem iLenL {S : Sto} {K : D → Sto → Prop} {l : List D} : dBi .len [.lst l] S K = K (.int l.length) S := rfl
theorem iLenC {S : Sto} {K : D → Sto → Prop} {l : List D} : dBi .len [.scr l] S K = K (.int l.length) S := rfl
theorem iTupL {S : Sto} {K : D → Sto → Prop} {l : List D} : dBi .tuple [.lst l] S K = K (.tup l) S := rfl
theorem iTupT {S : Sto} {K : D → Sto → Prop} {l : List D} : dBi .tuple [.tup l] S K = K (.tup l) S := rfl
theorem tInt : dTru S (.int i) q = q (decide (i ≠ 0)) := rfl
theorem ebl {b : Bool} {P : Bool → Prop} : (∃ c, D.bl b = D.bl c ∧ P c) = P b := by simp
theorem eint {P : Int → Prop} : (∃ c, D.int i = D.int c ∧ P c) = P i := by simp
theorem esome {d : D} {P : D → Prop} : (∃ c, (some (some d) : Option (Option D)) = some (some c) ∧ P c) = P d := by simp
theorem esm {d : D} {P : D → Prop} : (∃ c, (some d : Option D) = some c ∧ P c) = P d := by simp
end
theorem lim0 : (0 ≤ LIM) = True := eq_true (by unfold LIM; decide)
theorem lim1 : (1 ≤ LIM) = True := eq_true (by unfold LIM; decide)
theorem lim2 : (2 ≤ LIM) = True := eq_true (by unfold LIM; decide)
theorem lim3 : (3 ≤ LIM) = True := eq_true (by unfold LIM; decide)
theorem lim4 : (4 ≤ LIM) = True := eq_true (by unfold LIM; decide)
theorem lim5 : (5 ≤ LIM) = True := eq_true (by unfold LIM; decide)
theorem lim6 : (6 ≤ LIM) = True := eq_true (by unfold LIM; decide)
theorem lim7 : (7 ≤ LIM) = True := eq_true (by unfold LIM; decide)
theorem lim8 : (8 ≤ LIM) = True := eq_true (by unfold LIM; decide)
theorem lim9 : (9 ≤ LIM) = True := eq_true (by unfold LIM; decide)
theorem cIsT {S : Sto} {l : List D} {k : D → Prop} : dCmp S .isN (.tup l) .non k = k (.bl false) := rfl
theorem cIsI {S : Sto} {i : Int} {k : D → Prop} : dCmp S .isN (.int i) .non k = k (.bl false) := rfl
theorem isTb {S : Sto} {l : List D} {k : Bool → Prop} : dIsi S (.tup l) .bool k = k false := rfl
theorem isTi {S : Sto} {l : List D} {k : Bool → Prop} : dIsi S (.tup l) .int k = k false := rfl
theorem isTs {S : Sto} {l : List D} {k : Bool → Prop} : dIsi S (.tup l) .str k = k false := rfl
theorem isTt {S : Sto} {l : List D} {k : Bool → Prop} : dIsi S (.tup l) .tuple k = k true := rfl
theorem isIb {S : Sto} {i : Int} {k : Bool → Prop} : dIsi S (.int i) .bool k = k false := rfl
theorem isIi {S : Sto} {i : Int} {k : Bool → Prop} : dIsi S (.int i) .int k = k true := rfl
theorem isIs {S : Sto} {i : Int} {k : Bool → Prop} : dIsi S (.int i) .str k = k false := rfl
theorem isIt {S : Sto} {i : Int} {k : Bool → Prop} : dIsi S (.int i) .tuple k = k false := rfl
theorem tBl {S : Sto} {b : Bool} {q : Bool → Prop} : dTru S (.bl b) q = q b := rfl
theorem esml {l : List D} {P : List D → Prop} : (∃ c, (some l : Option (List D)) = some c ∧ P c) = P l := by simp
theorem esmt {l : List D} : (∃ c, (some l : Option (List D)) = some c) = True := by simp
theorem rRef {S : Sto} {p : Addr} : dRef S (.ref p) = ∃ xs, S p = some xs := rfl
theorem ixRef {S : Sto} {p : Addr} {i : Int} {k : D → Prop} : dIx S (.ref p) (.int i) k = ∃ xs, S p = some xs ∧ dIx S (.lst xs) (.int i) k := by
  show (∃ xs d, S p = some xs ∧ atI xs i = some d ∧ k d) = ∃ xs, S p = some xs ∧ ∃ d, atI xs i = some d ∧ k d
  simp
def dSetL (xs : List D) (i : Int) (d : D) (k : List D → Prop) : Prop := ∃ j, ixN xs.length i = some j ∧ k (xs.set j d)
theorem setRef {S : Sto} {p : Addr} {i : Int} {d : D} {k : Sto → Prop} : dSet (.ref p) (.int i) d S k = ∃ xs, S p = some xs ∧ dSetL xs i d fun ys => k (S.put p ys) := by
  show (∃ xs j, S p = some xs ∧ ixN xs.length i = some j ∧ k (S.put p (xs.set j d))) = ∃ xs, S p = some xs ∧ ∃ j, ixN xs.length i = some j ∧ k (S.put p (xs.set j d))
  simp
theorem dSetL_of {xs : List D} {i : Int} {d : D} {k : List D → Prop} {j : Nat} (h : ixN xs.length i = some j) : dSetL xs i d k = k (xs.set j d) := by
  unfold dSetL
  rw [h]; simp
section
variable {S : Sto} {k : D → Prop} {q : List D → Prop} {a b c d e f z : D} {l : List D}
theorem iy0 : dIx S (.lst (a :: l)) (.int 0) k = k a := ixL (by decide) rfl
theorem iy1 : dIx S (.lst (a :: b :: l)) (.int 1) k = k b := ixL (by decide) rfl
theorem iy2 : dIx S (.lst (a :: b :: c :: l)) (.int 2) k = k c := ixL (by decide) rfl
theorem iy3 : dIx S (.lst (a :: b :: c :: d :: l)) (.int 3) k = k d := ixL (by decide) rfl
theorem iy4 : dIx S (.lst (a :: b :: c :: d :: e :: l)) (.int 4) k = k e := ixL (by decide) rfl
theorem iy5 : dIx S (.lst (a :: b :: c :: d :: e :: f :: l)) (.int 5) k = k f := ixL (by decide) rfl
theorem ixN0 {n : Nat} {i : Int} (h0 : 0 ≤ i) (h : i < n) : ixN n i = some i.toNat := by unfold ixN; rw [if_pos h0, if_pos h]
theorem iz0 : dSetL (a :: l) 0 z q = q (z :: l) := dSetL_of (ixN0 (by decide) (by simp only [List.length_cons]; omega))
theorem iz1 : dSetL (a :: b :: l) 1 z q = q (a :: z :: l) := dSetL_of (ixN0 (by decide) (by simp only [List.length_cons]; omega))
theorem iz2 : dSetL (a :: b :: c :: l) 2 z q = q (a :: b :: z :: l) := dSetL_of (ixN0 (by decide) (by simp only [List.length_cons]; omega))
theorem iz3 : dSetL (a :: b :: c :: d :: l) 3 z q = q (a :: b :: c :: z :: l) := dSetL_of (ixN0 (by decide) (by simp only [List.length_cons]; omega))
theorem iz4 : dSetL (a :: b :: c :: d :: e :: l) 4 z q = q (a :: b :: c :: d :: z :: l) := dSetL_of (ixN0 (by decide) (by simp only [List.length_cons]; omega))
theorem iz5 : dSetL (a :: b :: c :: d :: e :: f :: l) 5 z q = q (a :: b :: c :: d :: e :: z :: l) := dSetL_of (ixN0 (by decide) (by simp only [List.length_cons]; omega))
theorem ag1 {i j : Int} : dAug .add (.int i) (.int j) k = k (.int (i + j)) := rfl
theorem ag2 {i j : Int} : dAug .sub (.int i) (.int j) k = k (.int (i - j)) := rfl
end
theorem iTupR {S : Sto} {a : Addr} {K : D → Sto → Prop} : dBi .tuple [.ref a] S K = ∃ xs, S a = some xs ∧ K (.tup xs) S := rfl
theorem iLenR {S : Sto} {a : Addr} {K : D → Sto → Prop} : dBi .len [.ref a] S K = ∃ xs, S a = some xs ∧ K (.int xs.length) S := rfl
theorem iLstL {S : Sto} {l : List D} {K : D → Sto → Prop} : dBi (.list false) [.lst l] S K = K (.lst l) S := rfl
theorem iLstT {S : Sto} {l : List D} {K : D → Sto → Prop} : dBi (.list false) [.tup l] S K = K (.lst l) S := rfl
theorem iLstC {S : Sto} {l : List D} {K : D → Sto → Prop} : dBi (.list false) [.scr l] S K = K (.lst l) S := rfl
theorem mApp {S : Sto} {a : Addr} {d : D} {K : D → Sto → Prop} : dMeth .append (.ref a) [d] S K = ∃ xs, S a = some xs ∧ xs.length < LIM ∧ K .non (S.put a (xs ++ [d])) := rfl
theorem mPop {S : Sto} {a : Addr} {K : D → Sto → Prop} : dMeth .pop (.ref a) [] S K = ∃ xs, S a = some xs ∧ ∃ d, xs[xs.length - 1]? = some d ∧ K d (S.put a xs.dropLast) := by
  show (∃ xs d, S a = some xs ∧ xs[xs.length - 1]? = some d ∧ K d (S.put a xs.dropLast)) = _
  simp
theorem mRev {S : Sto} {a : Addr} {K : D → Sto → Prop} : dMeth .reverse (.ref a) [] S K = ∃ xs, S a = some xs ∧ K .non (S.put a xs.reverse) := rfl
theorem slT {S : Sto} {l : List D} {lo hi : Option Int} {k : D → Prop} : dSl S (.tup l) lo hi k = k (.tup (cutD l lo hi)) := rfl
theorem slL {S : Sto} {l : List D} {lo hi : Option Int} {k : D → Prop} : dSl S (.lst l) lo hi k = k (.lst (cutD l lo hi)) := rfl
theorem slC {S : Sto} {l : List D} {lo hi : Option Int} {k : D → Prop} : dSl S (.scr l) lo hi k = k (.lst (cutD l lo hi)) := rfl
theorem bAddT {l m : List D} {k : D → Prop} : dBin .add (.tup l) (.tup m) k = (l.length + m.length ≤ LIM ∧ k (.tup (l ++ m))) := rfl
theorem cat_rl {S : Sto} {a : Addr} {ys : List D} {Q : D → Sto → Prop} : dCat (.ref a) (.lst ys) S Q = ∃ xs, S a = some xs ∧ xs.length + ys.length ≤ LIM ∧ ∀ p, S p = none → Q (.ref p) (S.put p (xs ++ ys)) :=
  propext ⟨fun ⟨xs, ys', h1, h2, h⟩ => by cases h2; exact ⟨xs, h1, h⟩, fun ⟨xs, h1, h⟩ => ⟨xs, ys, h1, rfl, h⟩⟩
theorem cat_ll {S : Sto} {xs ys : List D} {Q : D → Sto → Prop} : dCat (.lst xs) (.lst ys) S Q = (xs.length + ys.length ≤ LIM ∧ ∀ p, S p = none → Q (.ref p) (S.put p (xs ++ ys))) :=
  propext ⟨fun ⟨xs', ys', h1, h2, h⟩ => by cases h1; cases h2; exact h, fun h => ⟨xs, ys, rfl, rfl, h⟩⟩
theorem rep_li {S : Sto} {xs : List D} {n : Int} {Q : D → Sto → Prop} : dRep (.lst xs) (.int n) S Q = ((-(2 ^ 63) ≤ n ∧ n < 2 ^ 63 ∧ xs.length * n.toNat ≤ LIM) ∧ ∀ p, S p = none → Q (.ref p) (S.put p (List.replicate n.toNat xs).flatten)) := rfl
theorem bAddL {l m : List D} {k : D → Prop} : dBin .add (.lst l) (.lst m) k = (l.length + m.length ≤ LIM ∧ k (.lst (l ++ m))) := rfl
theorem bMulL {l : List D} {n : Int} {k : D → Prop} : dBin .mul (.lst l) (.int n) k = ((-(2 ^ 63) ≤ n ∧ n < 2 ^ 63 ∧ l.length * n.toNat ≤ LIM) ∧ k (.lst (List.replicate n.toNat l).flatten)) := rfl
theorem bMulT {l : List D} {n : Int} {k : D → Prop} : dBin .mul (.tup l) (.int n) k = ((l ≠ [] ∧ -(2 ^ 63) ≤ n ∧ n ≤ 1000 ∧ l.length ≤ 1000) ∧ k (.tup (List.replicate n.toNat l).flatten)) := rfl
theorem bT_n {i : Nat} {d : D} {ρ : Rho} {k : Rho → Prop} : bindT (.n i) d ρ k = k (ρ.set i (some d)) := rfl
theorem bT_t {a : TT'} {xs : List D} {ρ : Rho} {k : Rho → Prop} : bindT (.t a) (.tup xs) ρ k = bindT.bindTs a xs ρ k := rfl
theorem bT_nil {ρ : Rho} {k : Rho → Prop} : bindT.bindTs .nil [] ρ k = k ρ := rfl
theorem bT_cons {a b : TT'} {x : D} {xs : List D} {ρ : Rho} {k : Rho → Prop} : bindT.bindTs (.cons a b) (x :: xs) ρ k = bindT a x ρ fun ρ' => bindT.bindTs b xs ρ' k := rfl
theorem ite3 {c A B : Prop} {i : Decidable c} (h1 : c → A) (h2 : ¬ c → B) : @ite Prop c i A B := by
  by_cases h : c
  · rw [if_pos h]
    exact h1 h
  · rw [if_neg h]
    exact h2 h
theorem cut_hi {α : Type} {xs : List α} {v : Int} (h : 0 ≤ v) : cutD xs none (some v) = xs.take v.toNat := by
  unfold cutD HT.sIx
  simp only [List.drop_zero, Nat.sub_zero]
  rw [if_neg (by omega)]
  rcases Nat.le_total v.toNat xs.length with q | q
  · rw [Nat.min_eq_left q]
  · rw [Nat.min_eq_right q, List.take_length, List.take_of_length_le q]
theorem cut_lo {α : Type} {xs : List α} {v : Int} (h : 0 ≤ v) : cutD xs (some v) none = xs.drop v.toNat := by
  unfold cutD HT.sIx
  simp only
  rw [if_neg (by omega)]
  rcases Nat.le_total v.toNat xs.length with q | q
  · rw [Nat.min_eq_left q, List.take_of_length_le]
    rw [List.length_drop]; omega
  · rw [Nat.min_eq_right q, List.drop_eq_nil_of_le (Nat.le_refl _), List.drop_eq_nil_of_le q]
    simp
theorem cut1 {α : Type} {x : α} {l : List α} : cutD (x :: l) (some 1) none = l := cut_lo (by decide)
theorem fr_mk {i j : Int} (hj : 0 < j) (hc : Nat.gcd i.natAbs j.natAbs = 1) : ∃ y : Rat, D.tup [.int i, .int j] = fr y ∧ y.num = i ∧ (y.den : Int) = j :=
  ⟨⟨i, j.natAbs, by omega, hc⟩, by unfold fr; simp only; rw [show ((j.natAbs : Nat) : Int) = j by omega], rfl, by show ((j.natAbs : Nat) : Int) = j; omega⟩
/-- whole numbers and tuples of such -/
inductive Pl : Nat → D → Prop
  | int (n : Nat) (i : Int) : Pl (n + 1) (.int i)
  | tup (n : Nat) (ds : List D) : (∀ d ∈ ds, Pl n d) → ds.length ≤ 1000 → Pl (n + 1) (.tup ds)
theorem pl_py {n : Nat} {d : D} (h : Pl n d) : ∃ p, toPy d = some p ∧ p.canLay0 = true ∧ p.depth ≤ n := by
  induction h with
  | int n i => exact ⟨.int i, rfl, rfl, by simp [PyData.depth]⟩
  | tup n ds hd hl ih =>
    have : ∃ ps, toPy.toPys ds = some ps ∧ PyData.canLayAll0 ps = true ∧ PyData.depthAll ps ≤ n := by
      clear hl hd
      induction ds with
      | nil => exact ⟨[], rfl, rfl, by simp [PyData.depthAll]⟩
      | cons x xs ihx =>
        obtain ⟨p, h1, h2, h3⟩ := ih x List.mem_cons_self
        obtain ⟨ps, h4, h5, h6⟩ := ihx fun d h => ih d (List.mem_cons_of_mem _ h)
        exact ⟨p :: ps, by simp only [toPy.toPys, h1, h4], by simp [PyData.canLayAll0, h2, h5], by simp [PyData.depthAll]; omega⟩
    obtain ⟨ps, h1, h2, h3⟩ := this
    exact ⟨.tuple ps, by simp only [toPy, h1]; rfl, by simpa [PyData.canLay0] using h2, by simp only [PyData.depth]; omega⟩
theorem pls_py {n : Nat} {ds : List D} (h : ∀ d ∈ ds, Pl n d) : ∃ ps, toPy.toPys ds = some ps ∧ PyData.canLayAll0 ps = true ∧ PyData.depthAll ps ≤ n ∧ ps.isEmpty = ds.isEmpty := by
  induction ds with
  | nil => exact ⟨[], rfl, rfl, by simp [PyData.depthAll], rfl⟩
  | cons x xs ihx =>
    obtain ⟨p, h1, h2, h3⟩ := pl_py (h x List.mem_cons_self)
    obtain ⟨ps, h4, h5, h6, _⟩ := ihx fun d z => h d (List.mem_cons_of_mem _ z)
    exact ⟨p :: ps, by simp only [toPy.toPys, h1, h4], by simp [PyData.canLayAll0, h2, h5], by simp [PyData.depthAll]; omega, rfl⟩
/-- a list that is changed against [] -/
theorem ne_nil {S : Sto} {a : Addr} {xs : List D} {k : D → Prop} {n : Nat} (e : S a = some xs) (h : ∀ d ∈ xs, Pl n d) (hn : n ≤ 60) (g : k (.bl !xs.isEmpty)) : dCmp S .ne (.ref a) (.lst []) k := by
  obtain ⟨ps, h1, h2, h3, h4⟩ := pls_py h
  show dEq S (.ref a) (.lst []) (fun b => k (.bl !b))
  refine ⟨.list ps, .list [], ?_, rfl, ?_, by simp [SeqAt.shaped, PyData.canLay0, PyData.canLayAll0, PyData.depth, PyData.depthAll], ?_⟩
  · simp only [look, e, toPy, h1]; rfl
  · simp only [SeqAt.shaped, PyData.canLay0, PyData.depth, h2, Bool.true_and]; exact decide_eq_true (by omega)
  · have : PyData.eqv (.list ps) (.list []) = xs.isEmpty := by
      rw [← h4]
      cases ps <;> simp [PyData.eqv, PyData.eqvAll]
    rw [this]; exact g
theorem fr_same {S : Sto} {x : Rat} {k : D → Prop} (g : k (.bl false)) : dCmp S .ne (fr x) (fr x) k := by
  refine ⟨.tuple [.int x.num, .int x.den], .tuple [.int x.num, .int x.den], rfl, rfl, by simp [SeqAt.shaped, PyData.canLay0, PyData.canLayAll0, PyData.depth, PyData.depthAll], by simp [SeqAt.shaped, PyData.canLay0, PyData.canLayAll0, PyData.depth, PyData.depthAll], ?_⟩
  have : PyData.eqv (.tuple [.int x.num, .int x.den]) (.tuple [.int x.num, .int x.den]) = true := by simp [PyData.eqv, PyData.eqvAll]
  rw [this]; exact g
theorem ite_join {c : Prop} {i : Decidable c} {P : D → Prop} {d1 d2 : D} (d : D) (h1 : c → d1 = d) (h2 : ¬ c → d2 = d) (h : P d) : @ite Prop c i (P d1) (P d2) := ite3 (fun q => by rw [h1 q]; exact h) (fun q => by rw [h2 q]; exact h)
/-! ### loops -/
section
variable (X : Mod') (G : Fns)
@[irreducible] def loopF (tg : TT') (a : C) (stay : Sto → Prop) (E : ED) (xs : List D) (ρ : Rho) (S : Sto) : Prop := forL (fun d ρ k => bindT tg d ρ k) (fun E ρ S => wC X G a E ρ S) stay E xs ρ S
def loopN (c : M) (a : C) (E : ED) (n : Nat) (ρ : Rho) (S : Sto) : Prop := whileN (fun ρ S k => wT X G c ρ S k) (fun E ρ S => wC X G a E ρ S) E n ρ S
@[irreducible] def loopW (c : M) (a : C) (E : ED) (ρ : Rho) (S : Sto) : Prop := ∃ n, loopN X G c a E n ρ S
@[irreducible] def loopC (own : List Nat) (tg : TT') (elt cond : M) (ρ : Rho) (stay : Sto → Prop) (fin : List D → Sto → Prop) (xs acc : List D) (S : Sto) : Prop :=
  compL (fun d k => bindT tg d (wipeD ρ own) k) (fun ρ' S' k => wT X G cond ρ' S' k) (fun ρ' S' k => wE X G elt ρ' S' k) stay fin xs acc S
variable {X G}
set_option autoImplicit true in
theorem wE_v : wE X G (.v i) ρ S Q = (∃ d, ρ[i]? = some (some d) ∧ Q d S) := rfl
set_option autoImplicit true in
theorem wE_c : wE X G (.c x) ρ S Q = (Q x.d S) := rfl
set_option autoImplicit true in
theorem wE_g : wE X G (.g i) ρ S Q = (∃ d, X.consts[i]? = some d ∧ Q d S) := rfl
set_option autoImplicit true in
theorem wE_tup : wE X G (.tup a) ρ S Q = (wL X G a ρ S fun ds S1 => ds.length ≤ LIM ∧ Q (.tup ds) S1) := rfl
set_option autoImplicit true in
theorem wE_lst : wE X G (.lst mu a) ρ S Q = (wL X G a ρ S fun ds S1 => ds.length ≤ LIM ∧ if mu = true then ∀ p, S1 p = none → Q (.ref p) (S1.put p ds) else Q (.lst ds) S1) := rfl
set_option autoImplicit true in
theorem wE_bin : wE X G (.bin o a b) ρ S Q = (wE X G a ρ S fun x S1 => wE X G b ρ S1 fun y S2 => dBin o x y fun z => Q z S2) := rfl
set_option autoImplicit true in
theorem wE_cat : wE X G (.cat a b) ρ S Q = (wE X G a ρ S fun x S1 => wE X G b ρ S1 fun y S2 => dCat x y S2 Q) := rfl
theorem wE_rep : wE X G (.rep a b) ρ S Q = (wE X G a ρ S fun x S1 => wE X G b ρ S1 fun y S2 => dRep x y S2 Q) := rfl
set_option autoImplicit true in
theorem wE_neg : wE X G (.neg a) ρ S Q = (wE X G a ρ S fun x S1 => ∃ i, x = .int i ∧ Q (.int (-i)) S1) := rfl
set_option autoImplicit true in
theorem wE_not : wE X G (.not a) ρ S Q = (wE X G a ρ S fun x S1 => dTru S1 x fun b => Q (.bl !b) S1) := rfl
set_option autoImplicit true in
theorem wE_cmp : wE X G (.cmp o a b) ρ S Q = (wE X G a ρ S fun x S1 => wE X G b ρ S1 fun y S2 => dCmp S2 o x y fun z => Q z S2) := rfl
set_option autoImplicit true in
theorem wE_chain : wE X G (.chain o o' a b c) ρ S Q = (wE X G a ρ S fun x S1 => wE X G b ρ S1 fun y S2 => dCmp S2 o x y fun z => ∃ k, z = .bl k ∧ if k = true then wE X G c ρ S2 fun u S3 => dCmp S3 o' y u fun z' => Q z' S3 else Q (.bl false) S2) := rfl
set_option autoImplicit true in
theorem wE_and : wE X G (.and a b) ρ S Q = (wE X G a ρ S fun x S1 => ∃ c, x = .bl c ∧ if c = true then wE X G b ρ S1 Q else Q (.bl false) S1) := rfl
set_option autoImplicit true in
theorem wE_or : wE X G (.or a b) ρ S Q = (wE X G a ρ S fun x S1 => ∃ c, x = .bl c ∧ if c = true then Q (.bl true) S1 else wE X G b ρ S1 Q) := rfl
set_option autoImplicit true in
theorem wE_ite : wE X G (.ite c a b) ρ S Q = (wT X G c ρ S fun t S1 => if t = true then wE X G a ρ S1 Q else wE X G b ρ S1 Q) := rfl
set_option autoImplicit true in
theorem wE_call : wE X G (.call f a) ρ S Q = (wL X G a ρ S fun ds S1 => G f ds S1 Q) := rfl
set_option autoImplicit true in
theorem wE_callK : wE X G (.callK f a ks kp) ρ S Q = (wL X G a ρ S fun ds S1 => wL X G ks ρ S1 fun es S2 => ∃ n m p, X.kps[kp]? = some (n, m, p) ∧ G f (arr n m p ds es) S2 Q) := rfl
set_option autoImplicit true in
theorem wE_bi : wE X G (.bi b a) ρ S Q = (wL X G a ρ S fun ds S1 => dBi b ds S1 Q) := rfl
set_option autoImplicit true in
theorem wE_isi : wE X G (.isi a t) ρ S Q = (wE X G a ρ S fun x S1 => dIsi S1 x t fun b => Q (.bl b) S1) := rfl
set_option autoImplicit true in
theorem wE_ix : wE X G (.ix a i) ρ S Q = (wE X G a ρ S fun x S1 => wE X G i ρ S1 fun y S2 => dIx S2 x y fun z => Q z S2) := rfl
set_option autoImplicit true in
theorem wE_sl : wE X G (.sl a l1 l2) ρ S Q = (wE X G a ρ S fun x S1 => wO X G l1 ρ S1 fun l S2 => wO X G l2 ρ S2 fun h S3 => dSl S3 x l h fun z => Q z S3) := rfl
set_option autoImplicit true in
theorem wE_meth : wE X G (.meth m o a) ρ S Q = (wE X G o ρ S fun x S1 => dRef S1 x ∧ wL X G a ρ S1 fun ds S2 => dMeth m x ds S2 Q) := rfl
set_option autoImplicit true in
theorem wC_done : wC X G (.done) E ρ S = (E.nx ρ S) := rfl
set_option autoImplicit true in
theorem wC_seq : wC X G (.seq a b) E ρ S = (wC X G a { nx := fun ρ1 S1 => wC X G b E ρ1 S1, rt := E.rt, bk := E.bk, ct := E.ct } ρ S) := rfl
set_option autoImplicit true in
theorem wC_asg : wC X G (.asg tg e) E ρ S = (wE X G e ρ S fun d S1 => bindT tg d ρ fun ρ1 => E.nx ρ1 S1) := rfl
set_option autoImplicit true in
theorem wC_swap : wC X G (.swap i j a b) E ρ S = (wE X G a ρ S fun d S1 => wE X G b ρ S1 fun e S2 => E.nx ((ρ.set i (some d)).set j (some e)) S2) := rfl
set_option autoImplicit true in
theorem wC_swap3 : wC X G (.swap3 i j l a b c) E ρ S = (wE X G a ρ S fun d S1 => wE X G b ρ S1 fun e S2 => wE X G c ρ S2 fun f S3 => E.nx (((ρ.set i (some d)).set j (some e)).set l (some f)) S3) := rfl
set_option autoImplicit true in
theorem wC_augv : wC X G (.augv i o e) E ρ S = (∃ x, ρ[i]? = some (some x) ∧ wE X G e ρ S fun y S1 => dAug o x y fun z => E.nx (ρ.set i (some z)) S1) := rfl
set_option autoImplicit true in
theorem wC_augs : wC X G (.augs a i o e) E ρ S = (wE X G a ρ S fun x S1 => wE X G i ρ S1 fun y S2 => dRef S2 x ∧ dIx S2 x y fun old => wE X G e ρ S2 fun z S3 => dAug o old z fun new => dSet x y new S3 fun S4 => E.nx ρ S4) := rfl
set_option autoImplicit true in
theorem wC_sets : wC X G (.sets a i e) E ρ S = (wE X G e ρ S fun z S1 => wE X G a ρ S1 fun x S2 => wE X G i ρ S2 fun y S3 => dSet x y z S3 fun S4 => E.nx ρ S4) := rfl
set_option autoImplicit true in
theorem wC_frz : wC X G (.frz i) E ρ S = (∃ a xs, ρ[i]? = some (some (.ref a)) ∧ S a = some xs ∧ E.nx (ρ.set i (some (.lst xs))) (S.del a)) := rfl
set_option autoImplicit true in
theorem wC_ret : wC X G (.ret e) E ρ S = (wE X G e ρ S E.rt) := rfl
set_option autoImplicit true in
theorem wC_retN : wC X G (.retN) E ρ S = (E.rt .non S) := rfl
set_option autoImplicit true in
theorem wC_brk : wC X G (.brk) E ρ S = (E.bk ρ S) := rfl
set_option autoImplicit true in
theorem wC_cont : wC X G (.cont) E ρ S = (E.ct ρ S) := rfl
set_option autoImplicit true in
theorem wC_ex : wC X G (.ex e) E ρ S = (wE X G e ρ S fun _ S1 => E.nx ρ S1) := rfl
set_option autoImplicit true in
theorem wC_ite : wC X G (.ite c a b) E ρ S = (wT X G c ρ S fun t S1 => if t = true then wC X G a E ρ S1 else wC X G b E ρ S1) := rfl
theorem wC_whl {c : M} {a : C} {E : ED} {ρ : Rho} {S : Sto} : wC X G (.whl c a) E ρ S = loopW X G c a E ρ S := by unfold loopW; rfl
theorem wC_for {tg : TT'} {it : M} {a : C} {E : ED} {ρ : Rho} {S : Sto} : wC X G (.for tg it a) E ρ S = wI X G it ρ S fun xs stay S1 => loopF X G tg a stay E xs ρ S1 := by unfold loopF; rfl
theorem wE_lc {mu : Bool} {own : List Nat} {tg : TT'} {elt it cond : M} {ρ : Rho} {S : Sto} {Q : D → Sto → Prop} : wE X G (.lc mu own tg elt it cond) ρ S Q = wI X G it ρ S fun xs stay S1 =>
    loopC X G own tg elt cond ρ stay (fun acc S' => if mu = true then ∀ p, S' p = none → Q (.ref p) (S'.put p acc) else Q (.lst acc) S') xs [] S1 := by unfold loopC; rfl
variable (X G) in
@[irreducible] def loopS (own : List Nat) (tg : TT') (elt cond : M) (ρ : Rho) (stay : Sto → Prop) (fin : Int → Sto → Prop) (xs : List D) (n : Int) (S : Sto) : Prop :=
  sumL (fun d k => bindT tg d (wipeD ρ own) k) (fun ρ' S' k => wT X G cond ρ' S' k) (fun ρ' S' k => wE X G elt ρ' S' k) stay fin xs n S
theorem wE_gsum {own : List Nat} {tg : TT'} {elt it cond : M} {ρ : Rho} {S : Sto} {Q : D → Sto → Prop} : wE X G (.gsum own tg elt it cond) ρ S Q = wI X G it ρ S fun xs stay S1 =>
    loopS X G own tg elt cond ρ stay (fun n S' => Q (.int n) S') xs 0 S1 := by unfold loopS; rfl
theorem loopS_ind {own : List Nat} {tg : TT'} {elt cond : M} {ρ : Rho} {stay : Sto → Prop} {fin : Int → Sto → Prop} {xs : List D} {n : Int} {S : Sto} (I : List D → Int → Sto → Prop) (h0 : I xs n S) (nil : ∀ n S, I [] n S → stay S ∧ fin n S)
    (step : ∀ (x : D) (xs : List D) (next : Int → Sto → Prop), (∀ n S, I xs n S → next n S) → ∀ n S, I (x :: xs) n S → stay S ∧ bindT tg x (wipeD ρ own) fun ρ' => wT X G cond ρ' S fun b S1 => if b = true then wE X G elt ρ' S1 fun d S2 => ∃ j, d = .int j ∧ next (n + j) S2 else next n S1) :
    loopS X G own tg elt cond ρ stay fin xs n S := by
  induction xs generalizing n S with
  | nil => unfold loopS; exact nil _ _ h0
  | cons x xs ih =>
    have := step x xs (fun n S => loopS X G own tg elt cond ρ stay fin xs n S) (fun n S h => ih h) _ _ h0
    unfold loopS at this ⊢
    exact this
theorem iSumL {S : Sto} {xs : List D} {k : D → Sto → Prop} : dBi .sum [.lst xs] S k = ∃ ns : List Int, xs = ns.map D.int ∧ k (.int ns.sum) S := rfl
theorem iMaxL {S : Sto} {xs : List D} {k : D → Sto → Prop} : dBi .max [.lst xs] S k = ∃ ns : List Int, xs = ns.map D.int ∧ 0 < ns.length ∧ ∀ m, m ∈ ns → (∀ y, y ∈ ns → y ≤ m) → k (.int m) S := rfl
theorem iMinL {S : Sto} {xs : List D} {k : D → Sto → Prop} : dBi .min [.lst xs] S k = ∃ ns : List Int, xs = ns.map D.int ∧ 0 < ns.length ∧ ∀ m, m ∈ ns → (∀ y, y ∈ ns → m ≤ y) → k (.int m) S := rfl
theorem iMax2 {S : Sto} {i j : Int} {k : D → Sto → Prop} : dBi .max [.int i, .int j] S k = k (.int (if j > i then j else i)) S := rfl
theorem iMin2 {S : Sto} {i j : Int} {k : D → Sto → Prop} : dBi .min [.int i, .int j] S k = k (.int (if j < i then j else i)) S := rfl
variable (X G) in
@[irreducible] def loopA (any : Bool) (own : List Nat) (tg : TT') (elt cond : M) (ρ : Rho) (stay : Sto → Prop) (fin : Bool → Sto → Prop) (xs : List D) (S : Sto) : Prop :=
  allL any (fun d k => bindT tg d (wipeD ρ own) k) (fun ρ' S' k => wT X G cond ρ' S' k) (fun ρ' S' k => wE X G elt ρ' S' k) stay fin xs S
theorem wE_gall {any : Bool} {own : List Nat} {tg : TT'} {elt it cond : M} {ρ : Rho} {S : Sto} {Q : D → Sto → Prop} : wE X G (.gall any own tg elt it cond) ρ S Q = wI X G it ρ S fun xs stay S1 =>
    loopA X G any own tg elt cond ρ stay (fun b S' => Q (.bl b) S') xs S1 := by unfold loopA; rfl
theorem tv_bl {b : Bool} {P : Bool → Prop} : (∃ c, dTv (.bl b) c ∧ P c) = P b := propext ⟨fun ⟨c, e, h⟩ => by cases e; exact h, fun h => ⟨b, rfl, h⟩⟩
theorem tv_int {i : Int} {P : Bool → Prop} : (∃ c, dTv (.int i) c ∧ P c) = P (decide (i ≠ 0)) := propext ⟨fun ⟨c, e, h⟩ => by cases e; exact h, fun h => ⟨_, rfl, h⟩⟩
theorem loopA_ind {any : Bool} {own : List Nat} {tg : TT'} {elt cond : M} {ρ : Rho} {stay : Sto → Prop} {fin : Bool → Sto → Prop} {xs : List D} {S : Sto} (I : List D → Sto → Prop) (h0 : I xs S) (nil : ∀ S, I [] S → stay S ∧ fin (!any) S)
    (step : ∀ (x : D) (xs : List D) (next : Sto → Prop), (∀ S, I xs S → next S) → ∀ S, I (x :: xs) S → stay S ∧ bindT tg x (wipeD ρ own) fun ρ' => wT X G cond ρ' S fun b S1 => if b = true then wE X G elt ρ' S1 fun d S2 => ∃ c, dTv d c ∧ if c = any then fin any S2 else next S2 else next S1) :
    loopA X G any own tg elt cond ρ stay fin xs S := by
  induction xs generalizing S with
  | nil => unfold loopA; exact nil _ h0
  | cons x xs ih =>
    have := step x xs (fun S => loopA X G any own tg elt cond ρ stay fin xs S) (fun S h => ih h) _ h0
    unfold loopA at this ⊢
    exact this
def dIt (S : Sto) (x : D) (Q : List D → (Sto → Prop) → Sto → Prop) : Prop := match x with
      | .tup xs => Q xs (fun _ => True) S
      | .lst xs => Q xs (fun _ => True) S
      | .scr xs => Q xs (fun _ => True) S
      | .ref a => ∃ xs, S a = some xs ∧ Q xs (fun S2 => S2 a = some xs) S
      | _ => False
def dZip (S : Sto) (x y : D) (Q : List D → (Sto → Prop) → Sto → Prop) : Prop := match x, y with
      | .tup xs, .tup ys => Q (List.zipWith (fun x y => .tup [x, y]) xs ys) (fun _ => True) S
      | .lst xs, .lst ys => Q (List.zipWith (fun x y => .tup [x, y]) xs ys) (fun _ => True) S
      | .tup xs, .lst ys => Q (List.zipWith (fun x y => .tup [x, y]) xs ys) (fun _ => True) S
      | .lst xs, .tup ys => Q (List.zipWith (fun x y => .tup [x, y]) xs ys) (fun _ => True) S
      | _, _ => False
def dEnum (S : Sto) (x : D) (Q : List D → (Sto → Prop) → Sto → Prop) : Prop := match x with
      | .tup xs => Q (enumD 0 xs) (fun _ => True) S
      | .lst xs => Q (enumD 0 xs) (fun _ => True) S
      | _ => False
def dRng (S : Sto) (x y : D) (Q : List D → (Sto → Prop) → Sto → Prop) : Prop := ∃ i j, x = .int i ∧ y = .int j ∧ RngOk i j ∧ Q (rangeD i j) (fun _ => True) S
section
variable {S : Sto} {ρ : Rho} {Q : List D → (Sto → Prop) → Sto → Prop} {a b : M} {l m : List D} {p : Addr} {i j : Int}
theorem wI_it : wI X G (.it a) ρ S Q = wE X G a ρ S fun x S1 => dIt S1 x Q := rfl
theorem wI_zip : wI X G (.zip a b) ρ S Q = wE X G a ρ S fun x S1 => wE X G b ρ S1 fun y S2 => dZip S2 x y Q := rfl
theorem wI_rng : wI X G (.rng a b) ρ S Q = wE X G a ρ S fun x S1 => wE X G b ρ S1 fun y S2 => dRng S2 x y Q := rfl
theorem wI_enum : wI X G (.enum a) ρ S Q = wE X G a ρ S fun x S1 => dEnum S1 x Q := rfl
theorem enum_tup : dEnum S (.tup l) Q = Q (enumD 0 l) (fun _ => True) S := rfl
theorem enum_lst : dEnum S (.lst l) Q = Q (enumD 0 l) (fun _ => True) S := rfl
theorem it_tup : dIt S (.tup l) Q = Q l (fun _ => True) S := rfl
theorem it_lst : dIt S (.lst l) Q = Q l (fun _ => True) S := rfl
theorem it_scr : dIt S (.scr l) Q = Q l (fun _ => True) S := rfl
theorem it_ref : dIt S (.ref p) Q = ∃ xs, S p = some xs ∧ Q xs (fun S2 => S2 p = some xs) S := rfl
theorem zip_tup : dZip S (.tup l) (.tup m) Q = Q (List.zipWith (fun x y => .tup [x, y]) l m) (fun _ => True) S := rfl
theorem zip_lst : dZip S (.lst l) (.lst m) Q = Q (List.zipWith (fun x y => .tup [x, y]) l m) (fun _ => True) S := rfl
theorem zip_tl : dZip S (.tup l) (.lst m) Q = Q (List.zipWith (fun x y => .tup [x, y]) l m) (fun _ => True) S := rfl
theorem zip_lt : dZip S (.lst l) (.tup m) Q = Q (List.zipWith (fun x y => .tup [x, y]) l m) (fun _ => True) S := rfl
theorem rng_int : dRng S (.int i) (.int j) Q = (RngOk i j ∧ Q (rangeD i j) (fun _ => True) S) := by simp [dRng]
end
theorem loopF_ind {tg : TT'} {a : C} {stay : Sto → Prop} {E : ED} {xs : List D} {ρ : Rho} {S : Sto} (I : List D → Rho → Sto → Prop) (h0 : I xs ρ S) (nil : ∀ ρ S, I [] ρ S → stay S ∧ E.nx ρ S)
    (step : ∀ (x : D) (xs : List D) (next : Rho → Sto → Prop), (∀ ρ S, I xs ρ S → next ρ S) → ∀ ρ S, I (x :: xs) ρ S → stay S ∧ bindT tg x ρ fun ρ1 => wC X G a { nx := next, ct := next, bk := E.nx, rt := E.rt } ρ1 S) : loopF X G tg a stay E xs ρ S := by
  induction xs generalizing ρ S with
  | nil => unfold loopF; exact nil _ _ h0
  | cons x xs ih =>
    have := step x xs (fun ρ S => loopF X G tg a stay E xs ρ S) (fun ρ S h => ih h) _ _ h0
    unfold loopF at this ⊢
    exact this
theorem loopW_ind {c : M} {a : C} {E : ED} {ρ : Rho} {S : Sto} (I : Nat → Rho → Sto → Prop) (m : Nat) (h0 : I m ρ S)
    (step : ∀ (m : Nat) (next : Rho → Sto → Prop), (∀ m' ρ S, m = m' + 1 → I m' ρ S → next ρ S) → ∀ ρ S, I m ρ S → wT X G c ρ S fun t S1 => if t = true then wC X G a { nx := next, ct := next, bk := E.nx, rt := E.rt } ρ S1 else E.nx ρ S1) : loopW X G c a E ρ S := by
  unfold loopW
  refine ⟨m + 1, ?_⟩
  induction m generalizing ρ S with
  | zero => exact step 0 _ (fun m' _ _ e => by omega) _ _ h0
  | succ m ih => exact step (m + 1) _ (fun m' ρ S e h => by cases e; exact ih h) _ _ h0
theorem loopC_ind {own : List Nat} {tg : TT'} {elt cond : M} {ρ : Rho} {stay : Sto → Prop} {fin : List D → Sto → Prop} {xs acc : List D} {S : Sto} (I : List D → List D → Sto → Prop) (h0 : I xs acc S) (nil : ∀ acc S, I [] acc S → stay S ∧ fin acc S)
    (step : ∀ (x : D) (xs : List D) (next : List D → Sto → Prop), (∀ acc S, I xs acc S → next acc S) → ∀ acc S, I (x :: xs) acc S → stay S ∧ acc.length < LIM ∧ bindT tg x (wipeD ρ own) fun ρ' => wT X G cond ρ' S fun b S1 => if b = true then wE X G elt ρ' S1 fun d S2 => next (acc ++ [d]) S2 else next acc S1) :
    loopC X G own tg elt cond ρ stay fin xs acc S := by
  induction xs generalizing acc S with
  | nil => unfold loopC; exact nil _ _ h0
  | cons x xs ih =>
    have := step x xs (fun acc S => loopC X G own tg elt cond ρ stay fin xs acc S) (fun acc S h => ih h) _ _ h0
    unfold loopC at this ⊢
    exact this
theorem loopF_congr {tg : TT'} {a : C} {stay : Sto → Prop} {E : ED} {xs ys : List D} {ρ ρ' : Rho} {S : Sto} (h1 : xs = ys) (h2 : ρ = ρ') : loopF X G tg a stay E xs ρ S = loopF X G tg a stay E ys ρ' S := by subst h1; subst h2; rfl
theorem loopW_congr {c : M} {a : C} {E : ED} {ρ ρ' : Rho} {S : Sto} (h2 : ρ = ρ') : loopW X G c a E ρ S = loopW X G c a E ρ' S := by subst h2; rfl
theorem loopC_congr {own : List Nat} {tg : TT'} {elt cond : M} {ρ ρ' : Rho} {stay : Sto → Prop} {fin : List D → Sto → Prop} {xs ys acc : List D} {S : Sto} (h1 : xs = ys) (h2 : ρ = ρ') : loopC X G own tg elt cond ρ stay fin xs acc S = loopC X G own tg elt cond ρ' stay fin ys acc S := by subst h1; subst h2; rfl
theorem callD_congr {fs : List FnD} {k f : Nat} {ds es : List D} {S : Sto} {Q : D → Sto → Prop} (h : ds = es) : callD X fs k f ds S Q = callD X fs k f es S Q := by subst h; rfl
end
-- the running of straight text

end DL
local macro_rules | `(tactic| wp_walk using RUN) => `(tactic| simp only [↓DL.wC_done, ↓DL.wC_seq, ↓DL.wC_asg, ↓DL.wC_swap, ↓DL.wC_swap3, ↓DL.wC_augv, ↓DL.wC_augs, ↓DL.wC_sets, ↓DL.wC_frz, ↓DL.wC_ret, ↓DL.wC_retN, ↓DL.wC_brk, ↓DL.wC_cont, ↓DL.wC_ex, ↓DL.wC_ite, ↓DL.wC_whl, ↓DL.wC_for, ↓DL.wE_v, ↓DL.wE_c, ↓DL.wE_g, ↓DL.wE_tup, ↓DL.wE_lst, ↓DL.wE_bin, ↓DL.wE_cat, ↓DL.cat_rl, ↓DL.cat_ll, ↓DL.wE_rep, ↓DL.rep_li, ↓DL.wE_neg, ↓DL.wE_not, ↓DL.wE_cmp, ↓DL.wE_chain, ↓DL.wE_and, ↓DL.wE_or, ↓DL.wE_ite, ↓DL.wE_call, ↓DL.wE_callK, ↓DL.wE_bi, ↓DL.wE_isi, ↓DL.wE_ix, ↓DL.wE_sl, ↓DL.wE_meth, ↓DL.wE_lc, ↓DL.wE_gall, ↓DL.tv_bl, ↓DL.tv_int, ↓DL.wE_gsum, ↓DL.iSumL, ↓DL.iMaxL, ↓DL.iMinL, ↓DL.iMax2, ↓DL.iMin2, ↓DL.wT, ↓DL.wL, ↓DL.wO, ↓DL.wI_it, ↓DL.wI_zip, ↓DL.wI_rng, ↓DL.wI_enum, ↓DL.enum_tup, ↓DL.enum_lst, ↓DL.it_tup, ↓DL.it_lst, ↓DL.it_scr, ↓DL.it_ref, ↓DL.zip_tup, ↓DL.zip_lst, ↓DL.zip_tl, ↓DL.zip_lt, ↓DL.rng_int, DL.lim0, DL.lim1, DL.lim2, DL.lim3, DL.lim4, DL.lim5, DL.lim6, DL.lim7, DL.lim8, DL.lim9, true_and, ↓DL.bMulL, ↓DL.bMulT, ↓DL.bAddT, ↓DL.bAddL, DL.cut1, ↓DL.iTupR, ↓DL.iLenR, ↓DL.iLstL, ↓DL.iLstT, ↓DL.iLstC, ↓DL.mApp, ↓DL.mPop, ↓DL.mRev, ↓DL.slT, ↓DL.slL, ↓DL.slC, ↓DL.cIsT, ↓DL.cIsI, ↓DL.isTb, ↓DL.isTi, ↓DL.isTs, ↓DL.isTt, ↓DL.isIb, ↓DL.isIi, ↓DL.isIs, ↓DL.isIt, ↓DL.tBl, DL.esml, DL.esmt, ↓DL.rRef, ↓DL.ixRef, ↓DL.setRef, ↓DL.iy0, ↓DL.iy1, ↓DL.iy2, ↓DL.iy3, ↓DL.iy4, ↓DL.iy5, ↓DL.iz0, ↓DL.iz1, ↓DL.iz2, ↓DL.iz3, ↓DL.iz4, ↓DL.iz5, ↓DL.ag1, ↓DL.ag2, DL.Sto.put_same, DL.Sto.put_put, Bool.not_false, Bool.not_true, eq_self, decide_true, decide_false, ↓DL.bT_n, ↓DL.bT_t, ↓DL.bT_nil, ↓DL.bT_cons, DL.startD, DL.wipeD, List.map_cons, List.map_nil, List.length_cons, List.length_nil, List.cons_append, List.nil_append, List.replicate, Nat.reduceAdd, Nat.reduceSub, Nat.zero_add, Nat.add_zero, Nat.sub_self, List.getElem?_cons_zero, List.getElem?_cons_succ, List.set_cons_zero, List.set_cons_succ, List.replicate_zero, List.replicate_succ, DL.SC.d, ↓DL.ix0, ↓DL.ix1, ↓DL.ix2, ↓DL.ix3, ↓DL.ix4, ↓DL.ixf0, ↓DL.ixf1, ↓DL.cEq, ↓DL.cNe, ↓DL.cLt, ↓DL.cLe, ↓DL.cGt, ↓DL.cGe, ↓DL.bAdd, ↓DL.bSub, ↓DL.bMul, ↓DL.bDiv, ↓DL.bMod, ↓DL.bP6, ↓DL.bP9, ↓DL.bP18, ↓DL.bP20, DL.ernd, ↓DL.iInt, ↓DL.iBool, ↓DL.iAbs, ↓DL.iLenT, ↓DL.iLenL, ↓DL.iLenC, ↓DL.iTupL, ↓DL.iTupT, ↓DL.tInt, DL.ebl, DL.eint, DL.esome, DL.esm, decide_eq_true_eq, Bool.not_eq_true', decide_eq_false_iff_not, ↓reduceIte, Bool.false_eq_true])
local macro_rules | `(tactic| wp_walk using RUN, $ts,*) => `(tactic| simp only [↓DL.wC_done, ↓DL.wC_seq, ↓DL.wC_asg, ↓DL.wC_swap, ↓DL.wC_swap3, ↓DL.wC_augv, ↓DL.wC_augs, ↓DL.wC_sets, ↓DL.wC_frz, ↓DL.wC_ret, ↓DL.wC_retN, ↓DL.wC_brk, ↓DL.wC_cont, ↓DL.wC_ex, ↓DL.wC_ite, ↓DL.wC_whl, ↓DL.wC_for, ↓DL.wE_v, ↓DL.wE_c, ↓DL.wE_g, ↓DL.wE_tup, ↓DL.wE_lst, ↓DL.wE_bin, ↓DL.wE_cat, ↓DL.cat_rl, ↓DL.cat_ll, ↓DL.wE_rep, ↓DL.rep_li, ↓DL.wE_neg, ↓DL.wE_not, ↓DL.wE_cmp, ↓DL.wE_chain, ↓DL.wE_and, ↓DL.wE_or, ↓DL.wE_ite, ↓DL.wE_call, ↓DL.wE_callK, ↓DL.wE_bi, ↓DL.wE_isi, ↓DL.wE_ix, ↓DL.wE_sl, ↓DL.wE_meth, ↓DL.wE_lc, ↓DL.wE_gall, ↓DL.tv_bl, ↓DL.tv_int, ↓DL.wE_gsum, ↓DL.iSumL, ↓DL.iMaxL, ↓DL.iMinL, ↓DL.iMax2, ↓DL.iMin2, ↓DL.wT, ↓DL.wL, ↓DL.wO, ↓DL.wI_it, ↓DL.wI_zip, ↓DL.wI_rng, ↓DL.wI_enum, ↓DL.enum_tup, ↓DL.enum_lst, ↓DL.it_tup, ↓DL.it_lst, ↓DL.it_scr, ↓DL.it_ref, ↓DL.zip_tup, ↓DL.zip_lst, ↓DL.zip_tl, ↓DL.zip_lt, ↓DL.rng_int, DL.lim0, DL.lim1, DL.lim2, DL.lim3, DL.lim4, DL.lim5, DL.lim6, DL.lim7, DL.lim8, DL.lim9, true_and, ↓DL.bMulL, ↓DL.bMulT, ↓DL.bAddT, ↓DL.bAddL, DL.cut1, ↓DL.iTupR, ↓DL.iLenR, ↓DL.iLstL, ↓DL.iLstT, ↓DL.iLstC, ↓DL.mApp, ↓DL.mPop, ↓DL.mRev, ↓DL.slT, ↓DL.slL, ↓DL.slC, ↓DL.cIsT, ↓DL.cIsI, ↓DL.isTb, ↓DL.isTi, ↓DL.isTs, ↓DL.isTt, ↓DL.isIb, ↓DL.isIi, ↓DL.isIs, ↓DL.isIt, ↓DL.tBl, DL.esml, DL.esmt, ↓DL.rRef, ↓DL.ixRef, ↓DL.setRef, ↓DL.iy0, ↓DL.iy1, ↓DL.iy2, ↓DL.iy3, ↓DL.iy4, ↓DL.iy5, ↓DL.iz0, ↓DL.iz1, ↓DL.iz2, ↓DL.iz3, ↓DL.iz4, ↓DL.iz5, ↓DL.ag1, ↓DL.ag2, DL.Sto.put_same, DL.Sto.put_put, Bool.not_false, Bool.not_true, eq_self, decide_true, decide_false, ↓DL.bT_n, ↓DL.bT_t, ↓DL.bT_nil, ↓DL.bT_cons, DL.startD, DL.wipeD, List.map_cons, List.map_nil, List.length_cons, List.length_nil, List.cons_append, List.nil_append, List.replicate, Nat.reduceAdd, Nat.reduceSub, Nat.zero_add, Nat.add_zero, Nat.sub_self, List.getElem?_cons_zero, List.getElem?_cons_succ, List.set_cons_zero, List.set_cons_succ, List.replicate_zero, List.replicate_succ, DL.SC.d, ↓DL.ix0, ↓DL.ix1, ↓DL.ix2, ↓DL.ix3, ↓DL.ix4, ↓DL.ixf0, ↓DL.ixf1, ↓DL.cEq, ↓DL.cNe, ↓DL.cLt, ↓DL.cLe, ↓DL.cGt, ↓DL.cGe, ↓DL.bAdd, ↓DL.bSub, ↓DL.bMul, ↓DL.bDiv, ↓DL.bMod, ↓DL.bP6, ↓DL.bP9, ↓DL.bP18, ↓DL.bP20, DL.ernd, ↓DL.iInt, ↓DL.iBool, ↓DL.iAbs, ↓DL.iLenT, ↓DL.iLenL, ↓DL.iLenC, ↓DL.iTupL, ↓DL.iTupT, ↓DL.tInt, DL.ebl, DL.eint, DL.esome, DL.esm, decide_eq_true_eq, Bool.not_eq_true', decide_eq_false_iff_not, ↓reduceIte, Bool.false_eq_true, $[$ts:term],*])

set_option Elab.async false
set_option linter.all false
set_option maxRecDepth 100000
/-! DLP: planes with whole numbers. -/
namespace DL
open PySem
def lcmF (l : Nat) (r : List Rat) : Nat := r.foldl (fun f x => Nat.lcm f x.den) l
abbrev numsL (L : Nat) (r : List Rat) : List Int := r.map fun x => x.num * ((L / x.den : Nat) : Int)
def gcdF (g : Nat) (ns : List Int) : Nat := ns.foldl (fun g n => Int.gcd (g : Int) n) g
def lead : List Int → Int
  | [] => 0
  | n :: r => if n = 0 then lead r else n
theorem lcmF_dvd {l : Nat} {r : List Rat} : l ∣ lcmF l r ∧ ∀ x ∈ r, x.den ∣ lcmF l r := by
  induction r generalizing l with
  | nil => exact ⟨Nat.dvd_refl _, fun x h => nomatch h⟩
  | cons a r ih =>
    have := @ih (Nat.lcm l a.den)
    refine ⟨Nat.dvd_trans (Nat.dvd_lcm_left ..) this.1, fun x h => ?_⟩
    rcases List.mem_cons.mp h with q | q
    · rw [q]; exact Nat.dvd_trans (Nat.dvd_lcm_right ..) this.1
    · exact this.2 x q
theorem lcmF_pos {l : Nat} {r : List Rat} (h : 0 < l) : 0 < lcmF l r := by
  induction r generalizing l with
  | nil => exact h
  | cons a r ih => exact ih (Nat.lcm_pos h a.den_pos)
theorem lcmF_lt {l b B : Nat} {r : List Rat} (h : l < 2 ^ b) (g : ∀ x ∈ r, FB B x) : lcmF l r < 2 ^ (b + B * r.length) := by
  induction r generalizing l b with
  | nil => exact h
  | cons a r ih =>
    have h1 : Nat.lcm l a.den < 2 ^ (b + B) := Nat.lt_of_le_of_lt (Nat.div_le_self _ _) (lt_pow_mul h (g a List.mem_cons_self).2)
    have := @ih (Nat.lcm l a.den) (b + B) h1 fun x h => g x (List.mem_cons_of_mem _ h)
    refine pow2_mono this ?_
    rw [List.length_cons, Nat.mul_add]; omega
theorem gcdF_dvd {g : Nat} {ns : List Int} : gcdF g ns ∣ g ∧ ∀ n ∈ ns, (gcdF g ns : Int) ∣ n := by
  induction ns generalizing g with
  | nil => exact ⟨Nat.dvd_refl _, fun x h => nomatch h⟩
  | cons a r ih =>
    have := @ih (Int.gcd (g : Int) a)
    refine ⟨Nat.dvd_trans this.1 ?_, fun x h => ?_⟩
    · have := Int.gcd_dvd_left (g : Int) a
      exact Int.natCast_dvd_natCast.mp this
    · rcases List.mem_cons.mp h with q | q
      · rw [q]; exact Int.dvd_trans (Int.natCast_dvd_natCast.mpr this.1) (Int.gcd_dvd_right (g : Int) a)
      · exact this.2 x q
theorem gcdF_mul {c : Int} {g : Nat} {ns : List Int} : gcdF (c.natAbs * g) (ns.map (c * ·)) = c.natAbs * gcdF g ns := by
  induction ns generalizing g with
  | nil => rfl
  | cons a r ih =>
    have e : Int.gcd ((c.natAbs * g : Nat) : Int) (c * a) = c.natAbs * Int.gcd (g : Int) a := by
      show Nat.gcd (c.natAbs * g) (c * a).natAbs = c.natAbs * Nat.gcd g a.natAbs
      rw [Int.natAbs_mul, Nat.gcd_mul_left]
    show gcdF (Int.gcd ((c.natAbs * g : Nat) : Int) (c * a)) (r.map (c * ·)) = _
    rw [e, ih]; rfl
theorem gcdF_le {g B : Nat} {ns : List Int} (h : g < 2 ^ B) (hn : ∀ n ∈ ns, n.natAbs < 2 ^ B) : gcdF g ns < 2 ^ B := by
  induction ns generalizing g with
  | nil => exact h
  | cons a r ih =>
    refine ih ?_ fun n q => hn n (List.mem_cons_of_mem _ q)
    have ha := hn a List.mem_cons_self
    by_cases z : g = 0
    · subst z; show Nat.gcd 0 a.natAbs < _; rw [Nat.gcd_zero_left]; exact ha
    · exact Nat.lt_of_le_of_lt (Nat.gcd_le_left _ (by omega)) h
theorem lead_zero {ns : List Int} : lead ns = 0 ↔ ∀ n ∈ ns, n = 0 := by
  induction ns with
  | nil => exact ⟨fun _ n h => (nomatch h), fun _ => rfl⟩
  | cons a r ih =>
    unfold lead
    split
    · rename_i q
      rw [ih]
      exact ⟨fun h n z => by rcases List.mem_cons.mp z with w | w; rw [w]; exact q; exact h n w, fun h n z => h n (List.mem_cons_of_mem _ z)⟩
    · rename_i q
      exact ⟨fun h => absurd h q, fun h => h a List.mem_cons_self⟩
theorem lead_map {f : Int → Int} {ns : List Int} (h0 : f 0 = 0) (h : ∀ n ∈ ns, f n = 0 → n = 0) : lead (ns.map f) = f (lead ns) := by
  induction ns with
  | nil => exact h0.symm
  | cons a r ih =>
    have ih := ih fun n q => h n (List.mem_cons_of_mem _ q)
    show (if f a = 0 then lead (r.map f) else f a) = f (if a = 0 then lead r else a)
    by_cases q : a = 0
    · subst q; rw [if_pos h0, if_pos rfl, ih]
    · rw [if_neg q, if_neg fun z => q (h a List.mem_cons_self z)]
theorem lead_filter {ns : List Int} : (lead ns = 0 ∧ ns.filter (fun n => decide (n ≠ 0)) = []) ∨ (lead ns ≠ 0 ∧ ∃ l, ns.filter (fun n => decide (n ≠ 0)) = lead ns :: l) := by
  induction ns with
  | nil => exact .inl ⟨rfl, rfl⟩
  | cons a r ih =>
    unfold lead
    by_cases q : a = 0
    · rw [if_pos q, List.filter_cons_of_neg (by simpa using q)]; exact ih
    · rw [if_neg q, List.filter_cons_of_pos (by simpa using q)]; exact .inr ⟨q, _, rfl⟩
theorem lead_append {a b : List Int} (h : lead a ≠ 0) : lead (a ++ b) = lead a := by
  induction a with
  | nil => exact absurd rfl h
  | cons x a ih =>
    show (if x = 0 then lead (a ++ b) else x) = if x = 0 then lead a else x
    by_cases q : x = 0
    · rw [if_pos q, if_pos q]; refine ih ?_; unfold lead at h; rw [if_pos q] at h; exact h
    · rw [if_neg q, if_neg q]
/-- s times the whole row is the row; no common divisor, the first that is not 0 above 0 -/
structure IsPl (r : List Rat) (ps : List Int) (s : Rat) : Prop where
  nz : s ≠ 0
  eq : r = ps.map fun p : Int => s * (p : Rat)
  one : gcdF 0 ps = 1
  pos : 0 < lead ps
def planeN (r : List Rat) : List Int := numsL (lcmF 1 r) r
def planeBy (r : List Rat) : Int := if lead (planeN r) < 0 then -(gcdF 0 (planeN r) : Int) else gcdF 0 (planeN r)
def planeP (r : List Rat) : List Int := (planeN r).map fun n => n.fdiv (planeBy r)
def planeS (r : List Rat) : Rat := Rat.divInt (planeBy r) (lcmF 1 r)
theorem numsL_at {L : Nat} {x : Rat} (h : x.den ∣ L) (hL : L ≠ 0) : Rat.divInt (x.num * ((L / x.den : Nat) : Int)) L = x := by
  obtain ⟨c, rfl⟩ := h
  have hc : c ≠ 0 := by rintro rfl; simp at hL
  rw [Nat.mul_div_cancel_left _ x.den_pos, Int.natCast_mul, Rat.divInt_mul_right (by omega)]
  exact Rat.num_divInt_den x
theorem planeBy_abs {r : List Rat} : (planeBy r).natAbs = gcdF 0 (planeN r) := by unfold planeBy; split <;> simp
theorem planeBy_ne {r : List Rat} (h : lead (planeN r) ≠ 0) : planeBy r ≠ 0 := fun z => by
  have e : gcdF 0 (planeN r) = 0 := by rw [← planeBy_abs, z]; rfl
  refine h (lead_zero.mpr fun n hn => ?_)
  have := (gcdF_dvd (g := 0)).2 n hn
  rw [e] at this
  exact Int.zero_dvd.mp this
theorem planeBy_dvd {r : List Rat} {n : Int} (h : n ∈ planeN r) : planeBy r ∣ n := by
  have := (gcdF_dvd (g := 0)).2 n h
  unfold planeBy
  split
  · exact Int.neg_dvd.mpr this
  · exact this
theorem planeP_mul {r : List Rat} (h : lead (planeN r) ≠ 0) : (planeP r).map (planeBy r * ·) = planeN r := by
  unfold planeP
  rw [List.map_map]
  conv => rhs; rw [← List.map_id (planeN r)]
  refine List.map_congr_left fun n hn => ?_
  show planeBy r * n.fdiv (planeBy r) = n
  rw [fdiv_of_dvd (planeBy_dvd hn)]
  exact Int.mul_ediv_cancel' (planeBy_dvd hn)
theorem planeN_lead {r : List Rat} (h : ∃ x ∈ r, x ≠ 0) : lead (planeN r) ≠ 0 := fun z => by
  obtain ⟨x, hx, h⟩ := h
  have := lead_zero.mp z _ (List.mem_map_of_mem hx)
  have e := numsL_at ((lcmF_dvd (l := 1)).2 x hx) (Nat.ne_of_gt (lcmF_pos (by decide)))
  rw [this, Rat.zero_divInt] at e
  exact h e.symm
theorem plane_is {r : List Rat} (h : ∃ x ∈ r, x ≠ 0) : IsPl r (planeP r) (planeS r) := by
  have hl := planeN_lead h
  have hb := planeBy_ne hl
  have hL : lcmF 1 r ≠ 0 := Nat.ne_of_gt (lcmF_pos (by decide))
  have hL' : (lcmF 1 r : Int) ≠ 0 := by omega
  have em := planeP_mul hl
  have hG : gcdF 0 (planeN r) ≠ 0 := fun z => hb (by have := planeBy_abs (r := r); omega)
  refine ⟨?_, ?_, ?_, ?_⟩
  · intro z
    unfold planeS at z
    rw [← Rat.zero_divInt 1, Rat.divInt_eq_divInt_iff hL' (by decide)] at z
    omega
  · have e : (planeP r).map (fun p : Int => planeS r * (p : Rat)) = (planeN r).map fun n => Rat.divInt n (lcmF 1 r) := by
      rw [← em, List.map_map]
      refine List.map_congr_left fun p _ => ?_
      show Rat.divInt (planeBy r) (lcmF 1 r) * (p : Rat) = Rat.divInt (planeBy r * p) (lcmF 1 r)
      rw [show ((p : Int) : Rat) = Rat.divInt p 1 from by rw [Rat.divInt_eq_div]; grind, Rat.divInt_mul_divInt, Int.mul_one]
    rw [e]
    unfold planeN
    rw [List.map_map]
    conv => lhs; rw [← List.map_id r]
    refine List.map_congr_left fun x hx => ?_
    exact (numsL_at ((lcmF_dvd (l := 1)).2 x hx) hL).symm
  · have e := gcdF_mul (c := planeBy r) (g := 0) (ns := planeP r)
    rw [Nat.mul_zero, em, planeBy_abs] at e
    have : gcdF 0 (planeN r) * gcdF 0 (planeP r) = gcdF 0 (planeN r) * 1 := by omega
    exact Nat.eq_of_mul_eq_mul_left (by omega) this
  · have e : lead (planeN r) = planeBy r * lead (planeP r) := by
      conv => lhs; rw [← em]
      exact lead_map (Int.mul_zero _) fun n _ z => (Int.mul_eq_zero.mp z).resolve_left hb
    refine Int.not_le.mp fun q => ?_
    by_cases s : lead (planeN r) < 0
    · have b0 : planeBy r < 0 := by unfold planeBy; rw [if_pos s]; omega
      have := Int.mul_nonneg_of_nonpos_of_nonpos (show planeBy r ≤ 0 by omega) q
      omega
    · have b0 : 0 < planeBy r := by unfold planeBy; rw [if_neg s]; omega
      have := Int.mul_nonpos_of_nonneg_of_nonpos (show 0 ≤ planeBy r by omega) q
      omega
theorem den_num (q : Rat) : q * ((q.den : Int) : Rat) = (q.num : Rat) := by
  have e := Rat.num_divInt_den q
  rw [Rat.divInt_eq_div] at e
  have nz : ((q.den : Int) : Rat) ≠ 0 := fun z => den_ne q (Rat.intCast_eq_zero_iff.mp z)
  grind
theorem map_inj' {α β : Type} {f : α → β} (h : ∀ a b, f a = f b → a = b) : ∀ {l m : List α}, l.map f = m.map f → l = m
  | [], [], _ => rfl
  | a :: l, [], e => nomatch e
  | [], a :: l, e => nomatch e
  | a :: l, b :: m, e => by
    rw [List.map_cons, List.map_cons] at e
    injection e with e1 e2
    rw [h a b e1, map_inj' h e2]
theorem plane_one {r : List Rat} {ps qs : List Int} {s s' t : Rat} (ht : t ≠ 0) (h : IsPl r ps s) (g : IsPl (r.map (t * ·)) qs s') : qs = ps ∧ s' = s * t := by
  have hq : (t * s / s') * s' = t * s := Rat.div_mul_cancel g.nz
  revert hq
  generalize t * s / s' = q
  intro hq
  have hv : (q.den : Int) ≠ 0 := den_ne q
  have e : qs.map ((q.den : Int) * ·) = ps.map (q.num * ·) := by
    refine map_inj' (f := fun n : Int => (n : Rat)) (fun a b e => Rat.intCast_inj.mp e) ?_
    have e := g.eq
    rw [h.eq, List.map_map] at e
    rw [List.map_map, List.map_map]
    have e2 := congrArg (List.map fun x : Rat => x * ((q.den : Int) : Rat) / s') e
    rw [List.map_map, List.map_map] at e2
    have qd : q * ((q.den : Int) : Rat) = (q.num : Rat) := den_num q
    refine Eq.trans (List.map_congr_left fun p _ => ?_) (e2.symm.trans (List.map_congr_left fun p _ => ?_))
    · show (((q.den : Int) * p : Int) : Rat) = s' * (p : Rat) * ((q.den : Int) : Rat) / s'
      rw [Rat.intCast_mul]
      have := g.nz
      grind
    · show t * (s * (p : Rat)) * ((q.den : Int) : Rat) / s' = ((q.num * p : Int) : Rat)
      rw [Rat.intCast_mul, ← qd]
      have := g.nz
      grind
  have e1 := gcdF_mul (c := (q.den : Int)) (g := 0) (ns := qs)
  have e2 := gcdF_mul (c := q.num) (g := 0) (ns := ps)
  rw [Nat.mul_zero, g.one] at e1
  rw [Nat.mul_zero, h.one] at e2
  rw [e, e2] at e1
  have hd := q.den_pos
  have e3 : q.num.natAbs = q.den := by omega
  rcases Int.lt_or_le q.num 0 with z | z
  · exfalso
    have l1 := lead_map (f := ((q.den : Int) * ·)) (ns := qs) (Int.mul_zero _) fun n _ z => (Int.mul_eq_zero.mp z).resolve_left hv
    have l2 := lead_map (f := (q.num * ·)) (ns := ps) (Int.mul_zero _) fun n _ z => (Int.mul_eq_zero.mp z).resolve_left (by omega)
    rw [e, l2] at l1
    have p1 := Int.mul_pos (show (0 : Int) < q.den by omega) g.pos
    have p2 := Int.mul_neg_of_neg_of_pos z h.pos
    have l1 : q.num * lead ps = (q.den : Int) * lead qs := l1
    omega
  · have en : q.num = (q.den : Int) := by omega
    rw [en] at e
    have eqs : qs = ps := map_inj' (fun a b (z : (q.den : Int) * a = (q.den : Int) * b) => Int.eq_of_mul_eq_mul_left hv z) e
    refine ⟨eqs, ?_⟩
    have q1 : q = 1 := by
      have qd : q * ((q.den : Int) : Rat) = (q.num : Rat) := den_num q
      rw [en] at qd
      have nz : ((q.den : Int) : Rat) ≠ 0 := fun z => hv (Rat.intCast_eq_zero_iff.mp z)
      grind
    rw [q1] at hq
    grind
/-- bounds -/
theorem planeN_lt {r : List Rat} {B : Nat} (h : ∀ x ∈ r, FB B x) : ∀ n ∈ planeN r, n.natAbs < 2 ^ (B + (1 + B * r.length)) := fun n hn => by
  obtain ⟨x, hx, rfl⟩ := List.mem_map.mp hn
  rw [Int.natAbs_mul, Int.natAbs_natCast]
  exact lt_pow_mul (h x hx).1 (Nat.lt_of_le_of_lt (Nat.div_le_self _ _) (lcmF_lt (by decide) h))
end DL
namespace DL
open PySem PySem.Spec L2
@[irreducible] def E19 : Int := 10000000000000000000
theorem E19_eq : E19 = 10000000000000000000 := by unfold E19; rfl
theorem bP19 {k : D → Prop} : dBin .pow (.int 10) (.int 19) k = k (.int E19) := by unfold E19; exact bPow (by unfold PowOk CPow; decide)
theorem pl_eqv {n : Nat} {d : D} (h : Pl n d) : ∀ p, toPy d = some p → PyData.eqv p p = true := by
  induction h with
  | int n i => intro p e; cases e; simp [PyData.eqv]
  | tup n ds hd hl ih =>
    intro p e
    have : ∀ (l : List D) (ps : List PyData), (∀ d ∈ l, ∀ p, toPy d = some p → PyData.eqv p p = true) → toPy.toPys l = some ps → PyData.eqvAll ps ps = true := by
      intro l
      induction l with
      | nil => intro ps _ e; cases e; simp [PyData.eqvAll]
      | cons x xs ihx =>
        intro ps hx e
        simp only [toPy.toPys] at e
        cases h1 : toPy x with
        | none => rw [h1] at e; cases e
        | some y =>
          cases h2 : toPy.toPys xs with
          | none => rw [h1, h2] at e; cases e
          | some ys =>
            rw [h1, h2] at e
            cases e
            simp only [PyData.eqvAll, hx x List.mem_cons_self y h1, ihx ys (fun d h => hx d (List.mem_cons_of_mem _ h)) h2, Bool.and_true]
    simp only [toPy] at e
    cases h1 : toPy.toPys ds with
    | none => rw [h1] at e; cases e
    | some ps =>
      rw [h1] at e
      cases e
      simp only [PyData.eqv]
      exact this ds ps ih h1
theorem tup_same {S : Sto} {n : Nat} {ds : List D} {k : D → Prop} (h : Pl n (.tup ds)) (hn : n ≤ 60) (g : k (.bl false)) : dCmp S .ne (.tup ds) (.tup ds) k := by
  obtain ⟨p, h1, h2, h3⟩ := pl_py h
  refine ⟨p, p, h1, h1, ?_, ?_, ?_⟩
  · simp only [SeqAt.shaped, h2, Bool.true_and]; exact decide_eq_true (by omega)
  · simp only [SeqAt.shaped, h2, Bool.true_and]; exact decide_eq_true (by omega)
  · rw [pl_eqv h p h1]; exact g
theorem bTfr {a b : TT'} {x : Rat} {ρ : Rho} {k : Rho → Prop} : bindT (.t (.cons a (.cons b .nil))) (fr x) ρ k = bindT a (.int x.num) ρ fun ρ1 => bindT b (.int (x.den : Int)) ρ1 k := rfl
theorem cut_m1 {α : Type} {l : List α} {z : α} : cutD (l ++ [z]) none (some (-1)) = l := by
  unfold cutD HT.sIx
  simp only [List.drop_zero, Nat.sub_zero, List.length_append, List.length_singleton]
  rw [if_pos (by decide)]
  rw [show (-1 + ((l.length + 1 : Nat) : Int)).toNat = l.length by omega]
  simp
theorem ix_m1 {S : Sto} {l : List D} {z : D} {k : D → Prop} : dIx S (.lst (l ++ [z])) (.int (-1)) k = k z := by
  show (∃ d', atI (l ++ [z]) (-1) = some d' ∧ k d') = _
  have : atI (l ++ [z]) (-1) = some z := by
    unfold atI ixN
    rw [if_neg (by decide), List.length_append, List.length_singleton, if_pos (by omega), show (-1 + ((l.length + 1 : Nat) : Int)).toNat = l.length by omega]
    simp
  rw [this]; simp
theorem ixt_m1 {S : Sto} {l : List D} {z : D} {k : D → Prop} : dIx S (.tup (l ++ [z])) (.int (-1)) k = k z := ix_m1 (S := S)
end DL

set_option Elab.async false
set_option linter.all false
set_option maxRecDepth 100000
/-! DLC: fractions with a common number below, and of a size. -/
namespace DL
open PySem
/-- what is below divides M; less than 2^k -/
structure CD (M k : Nat) (x : Rat) : Prop where
  dv : x.den ∣ M
  lt : x.num.natAbs < 2 ^ k * x.den
theorem CD.fb {M m k : Nat} {x : Rat} (h : CD M k x) (h0 : 0 < M) (hM : M < 2 ^ m) : FB (m + k) x := by
  have hd := Nat.le_of_dvd h0 h.dv
  have h2 : x.den < 2 ^ m := Nat.lt_of_le_of_lt hd hM
  refine ⟨?_, pow2_mono h2 (by omega)⟩
  refine Nat.lt_of_lt_of_le h.lt ?_
  rw [Nat.add_comm, Nat.pow_add]
  exact Nat.mul_le_mul_left _ (Nat.le_of_lt h2)
theorem CD.mono {M M' k k' : Nat} {x : Rat} (h : CD M k x) (d : M ∣ M') (l : k ≤ k') : CD M' k' x :=
  ⟨Nat.dvd_trans h.dv d, Nat.lt_of_lt_of_le h.lt (Nat.mul_le_mul_right _ (Nat.pow_le_pow_right (by decide) l))⟩
theorem divInt_den_dvd (a b : Int) : (Rat.divInt a b).den ∣ b.natAbs := by
  rw [Rat.den_divInt]
  split
  · exact Nat.one_dvd _
  · exact Nat.div_dvd_of_dvd (by rw [← Int.natAbs_natCast (Int.gcd b a)]; exact Int.natAbs_dvd_natAbs.mpr (Int.gcd_dvd_left ..))
theorem cross {a b : Int} (hb : b ≠ 0) : (Rat.divInt a b).num * b = a * ((Rat.divInt a b).den : Int) := by
  have := Rat.num_divInt_den (Rat.divInt a b)
  exact (Rat.divInt_eq_divInt_iff (den_ne _) hb).mp this
theorem mag_of {a b : Int} {K : Nat} (hb : b ≠ 0) (h : a.natAbs < K * b.natAbs) : (Rat.divInt a b).num.natAbs < K * (Rat.divInt a b).den := by
  have c := congrArg Int.natAbs (cross (a := a) hb)
  rw [Int.natAbs_mul, Int.natAbs_mul, Int.natAbs_natCast] at c
  have hb' : 0 < b.natAbs := by omega
  have hd := (Rat.divInt a b).den_pos
  refine Nat.lt_of_mul_lt_mul_right (a := b.natAbs) ?_
  rw [c, Nat.mul_right_comm]
  exact Nat.mul_lt_mul_of_pos_right h hd
theorem den_into {x : Rat} {M : Nat} (h : x.den ∣ M) (h0 : 0 < M) : ∃ i : Int, x = Rat.divInt i (M : Int) := by
  obtain ⟨c, rfl⟩ := h
  have hc : (c : Int) ≠ 0 := by
    intro z
    have z : c = 0 := by omega
    rw [z, Nat.mul_zero] at h0
    omega
  refine ⟨x.num * c, ?_⟩
  rw [Int.natCast_mul, Rat.divInt_mul_right hc, Rat.num_divInt_den]
theorem den_add {x y : Rat} {M : Nat} (h1 : x.den ∣ M) (h2 : y.den ∣ M) (h0 : 0 < M) : (x + y).den ∣ M := by
  obtain ⟨i, rfl⟩ := den_into h1 h0
  obtain ⟨j, rfl⟩ := den_into h2 h0
  have hM : (M : Int) ≠ 0 := by omega
  have : Rat.divInt i (M : Int) + Rat.divInt j (M : Int) = Rat.divInt (i + j) (M : Int) := by
    rw [Rat.divInt_eq_div, Rat.divInt_eq_div, Rat.divInt_eq_div, Rat.intCast_add]
    grind
  rw [this]
  have := divInt_den_dvd (i + j) (M : Int)
  rwa [Int.natAbs_natCast] at this
theorem CD.add {M k : Nat} {x y : Rat} (h0 : 0 < M) (h1 : CD M k x) (h2 : CD M k y) : CD M (k + 1) (x + y) := by
  refine ⟨den_add h1.dv h2.dv h0, ?_⟩
  rw [add_eq]
  refine mag_of (dens_ne x y) ?_
  rw [Int.natAbs_mul, Int.natAbs_natCast, Int.natAbs_natCast]
  have a1 : (x.num * (y.den : Int)).natAbs < 2 ^ k * x.den * y.den := by
    rw [Int.natAbs_mul, Int.natAbs_natCast]
    exact Nat.mul_lt_mul_of_pos_right h1.lt y.den_pos
  have a2 : (y.num * (x.den : Int)).natAbs < 2 ^ k * x.den * y.den := by
    rw [Int.natAbs_mul, Int.natAbs_natCast, Nat.mul_right_comm]
    exact Nat.mul_lt_mul_of_pos_right h2.lt x.den_pos
  have := Int.natAbs_add_le (x.num * (y.den : Int)) (y.num * (x.den : Int))
  rw [Nat.pow_succ, Nat.mul_right_comm, ← Nat.mul_assoc]
  omega
theorem CD.mul {M N k l : Nat} {x y : Rat} (h1 : CD M k x) (h2 : CD N l y) : CD (M * N) (k + l) (x * y) := by
  constructor
  · rw [mul_eq]
    have := divInt_den_dvd (x.num * y.num) ((x.den : Int) * (y.den : Int))
    rw [Int.natAbs_mul, Int.natAbs_natCast, Int.natAbs_natCast] at this
    exact Nat.dvd_trans this (Nat.mul_dvd_mul h1.dv h2.dv)
  · rw [mul_eq]
    refine mag_of (dens_ne x y) ?_
    rw [Int.natAbs_mul, Int.natAbs_mul, Int.natAbs_natCast, Int.natAbs_natCast, Nat.pow_add]
    have := Nat.mul_lt_mul'' h1.lt h2.lt
    rwa [Nat.mul_mul_mul_comm] at this
theorem CD.neg {M k : Nat} {x : Rat} (h : CD M k x) : CD M k (-x) := ⟨by rw [Rat.neg_den]; exact h.dv, by rw [Rat.neg_num, Int.natAbs_neg, Rat.neg_den]; exact h.lt⟩
theorem CD.sub {M k : Nat} {x y : Rat} (h0 : 0 < M) (h1 : CD M k x) (h2 : CD M k y) : CD M (k + 1) (x - y) := by
  rw [Rat.sub_eq_add_neg]; exact h1.add h0 h2.neg
theorem CD0 {M k : Nat} : CD M k 0 := ⟨Nat.one_dvd _, by show 0 < 2 ^ k * 1; rw [Nat.mul_one]; exact Nat.pow_pos (by decide)⟩
theorem CD.of {B : Nat} {x : Rat} (h : FB B x) : CD x.den B x := ⟨Nat.dvd_refl _, Nat.lt_of_lt_of_le h.1 (Nat.le_mul_of_pos_right _ x.den_pos)⟩
end DL

set_option Elab.async false
set_option linter.all false
set_option maxRecDepth 100000
/-! DLD: tables of planes. -/
namespace DL
open PySem
abbrev Pl2 := List Int × Int
abbrev pkD (p : Pl2) : D := plD p.1 p.2
def plK (p : Pl2) : NestedKey := .tup [.tup (p.1.map .num), .num p.2]
theorem keys_num : ∀ l : List Int, keysOf (l.map .int) = some (l.map .num)
  | [] => rfl
  | a :: l => by
    show (match some (NestedKey.num a), keysOf (l.map .int) with | some k, some ks => some (k :: ks) | _, _ => none) = _
    rw [keys_num l]; rfl
theorem key_pl (p : Pl2) : keyOf (pkD p) = some (plK p) := by
  show (keysOf [.tup (p.1.map .int), .int p.2]).map NestedKey.tup = _
  have e : keyOf (.tup (p.1.map .int)) = some (.tup (p.1.map .num)) := by
    show (keysOf (p.1.map .int)).map NestedKey.tup = _
    rw [keys_num]; rfl
  have e2 : keysOf [.tup (p.1.map .int), .int p.2] = some [.tup (p.1.map .num), .num p.2] := by
    show (match keyOf (.tup (p.1.map .int)), keysOf [.int p.2] with | some k, some ks => some (k :: ks) | _, _ => none) = _
    rw [e]; rfl
  rw [e2]; rfl
theorem plK_inj {p q : Pl2} : plK p = plK q ↔ p = q := by
  refine ⟨fun h => ?_, fun h => by rw [h]⟩
  obtain ⟨a, b⟩ := p
  obtain ⟨c, d⟩ := q
  injection h with h
  injection h with h1 h2
  injection h2 with h2 _
  injection h1 with h1
  injection h2 with h2
  have : a = c := List.map_inj_right (fun x y e => by injection e) |>.mp h1
  exact Prod.ext this h2
theorem depth_nums : ∀ l : List Int, NestedKey.depthAll (l.map .num) = 0
  | [] => rfl
  | a :: l => by
    show max 0 (NestedKey.depthAll (l.map .num)) = 0
    rw [depth_nums l]; rfl
theorem key_ok (p : Pl2) : KeyOk (pkD p) (plK p) := by
  refine ⟨⟨_, rfl⟩, key_pl p, ?_⟩
  show max (NestedKey.depthAll (p.1.map .num) + 1) (max 0 0) + 1 ≤ 8
  rw [depth_nums]; decide
/-! ### tables -/
abbrev Tb := List (Pl2 × Rat)
def flat (m : Tb) : List D := m.flatMap fun e => [pkD e.1, fr e.2]
def aget (p : Pl2) : Tb → Option Rat
  | [] => none
  | e :: r => if e.1 = p then some e.2 else aget p r
def aput (p : Pl2) (x : Rat) : Tb → Tb
  | [] => [(p, x)]
  | e :: r => if e.1 = p then (e.1, x) :: r else e :: aput p x r
abbrev aval (p : Pl2) (m : Tb) : Rat := (aget p m).getD 0
def sumA (g : Pl2 → Rat) : Tb → Rat
  | [] => 0
  | e :: r => e.2 * g e.1 + sumA g r
theorem flat_len (m : Tb) : (flat m).length = 2 * m.length := by
  induction m with
  | nil => rfl
  | cons e r ih => show (flat r).length + 1 + 1 = _; rw [ih, List.length_cons]; omega
theorem find_flat (p : Pl2) : ∀ m : Tb, dFind (plK p) (flat m) = (aget p m).map fr
  | [] => rfl
  | e :: r => by
    show (if keyOf (pkD e.1) = some (plK p) then some (fr e.2) else dFind (plK p) (flat r)) = (if e.1 = p then some e.2 else aget p r).map fr
    rw [key_pl]
    by_cases q : e.1 = p
    · rw [if_pos (by rw [q]), if_pos q]; rfl
    · rw [if_neg (fun z => q (plK_inj.mp (Option.some.inj z))), if_neg q, find_flat p r]
theorem store_flat (p : Pl2) (x : Rat) : ∀ m : Tb, dStore (pkD p) (plK p) (fr x) (flat m) = flat (aput p x m)
  | [] => rfl
  | e :: r => by
    show (if keyOf (pkD e.1) = some (plK p) then pkD e.1 :: fr x :: flat r else pkD e.1 :: fr e.2 :: dStore (pkD p) (plK p) (fr x) (flat r)) = flat (if e.1 = p then (e.1, x) :: r else e :: aput p x r)
    rw [key_pl]
    by_cases q : e.1 = p
    · rw [if_pos (by rw [q]), if_pos q]; rfl
    · rw [if_neg (fun z => q (plK_inj.mp (Option.some.inj z))), if_neg q, store_flat p x r]; rfl
theorem keys_flat : ∀ m : Tb, dKeys (flat m) = (m.map (·.1)).map fun k => plD k.1 k.2
  | [] => rfl
  | e :: r => by
    show pkD e.1 :: dKeys (flat r) = _
    rw [keys_flat r]; rfl
theorem mem_put {p : Pl2} {x : Rat} : ∀ {m : Tb} {e : Pl2 × Rat}, e ∈ aput p x m → e = (p, x) ∨ e ∈ m
  | [], e, h => .inl (List.mem_singleton.mp h)
  | f :: r, e, h => by
    unfold aput at h
    by_cases q : f.1 = p
    · rw [if_pos q] at h
      rcases List.mem_cons.mp h with h | h
      · exact .inl (by rw [h, q])
      · exact .inr (List.mem_cons_of_mem _ h)
    · rw [if_neg q] at h
      rcases List.mem_cons.mp h with h | h
      · exact .inr (by rw [h]; exact List.mem_cons_self)
      · rcases mem_put h with h | h
        · exact .inl h
        · exact .inr (List.mem_cons_of_mem _ h)
theorem len_put {p : Pl2} {x : Rat} : ∀ {m : Tb}, (aput p x m).length ≤ m.length + 1
  | [] => Nat.le_refl _
  | f :: r => by
    unfold aput
    split
    · show r.length + 1 ≤ r.length + 1 + 1; omega
    · have := len_put (p := p) (x := x) (m := r)
      show (aput p x r).length + 1 ≤ r.length + 1 + 1; omega
theorem nodup_put {p : Pl2} {x : Rat} : ∀ {m : Tb}, (m.map (·.1)).Nodup → ((aput p x m).map (·.1)).Nodup
  | [], _ => by simp [aput]
  | f :: r, h => by
    rw [List.map_cons, List.nodup_cons] at h
    unfold aput
    by_cases q : f.1 = p
    · rw [if_pos q, List.map_cons, List.nodup_cons]; exact h
    · rw [if_neg q, List.map_cons, List.nodup_cons]
      refine ⟨fun z => ?_, nodup_put h.2⟩
      obtain ⟨e, he, e1⟩ := List.mem_map.mp z
      rcases mem_put he with w | w
      · rw [w] at e1; exact q e1.symm
      · exact h.1 (List.mem_map.mpr ⟨e, w, e1⟩)
theorem aget_mem {p : Pl2} {x : Rat} : ∀ {m : Tb}, aget p m = some x → (p, x) ∈ m
  | [], h => by cases h
  | f :: r, h => by
    unfold aget at h
    by_cases q : f.1 = p
    · rw [if_pos q] at h; cases h; rw [← q]; exact List.mem_cons_self
    · rw [if_neg q] at h; exact List.mem_cons_of_mem _ (aget_mem h)
theorem aget_of {e : Pl2 × Rat} : ∀ {m : Tb}, (m.map (·.1)).Nodup → e ∈ m → aget e.1 m = some e.2
  | [], _, h => by cases h
  | f :: r, n, h => by
    rw [List.map_cons, List.nodup_cons] at n
    unfold aget
    rcases List.mem_cons.mp h with h | h
    · rw [h, if_pos rfl]
    · rw [if_neg fun z => n.1 (by rw [z]; exact List.mem_map_of_mem h), aget_of n.2 h]
theorem sum_put {g : Pl2 → Rat} {p : Pl2} {x : Rat} : ∀ m : Tb, sumA g (aput p x m) = sumA g m + (x - aval p m) * g p
  | [] => by
    show x * g p + 0 = 0 + (x - 0) * g p
    grind
  | e :: r => by
    unfold aput aval aget
    by_cases q : e.1 = p
    · rw [if_pos q, if_pos q]
      show x * g e.1 + sumA g r = e.2 * g e.1 + sumA g r + (x - e.2) * g p
      rw [q]; grind
    · rw [if_neg q, if_neg q]
      show e.2 * g e.1 + sumA g (aput p x r) = e.2 * g e.1 + sumA g r + (x - aval p r) * g p
      rw [sum_put r]; grind
theorem sum_perm {g : Pl2 → Rat} {m m' : Tb} (h : m.Perm m') : sumA g m = sumA g m' := by
  induction h with
  | nil => rfl
  | cons x _ ih => show x.2 * g x.1 + _ = x.2 * g x.1 + _; rw [ih]
  | swap x y l => show y.2 * g y.1 + (x.2 * g x.1 + sumA g l) = x.2 * g x.1 + (y.2 * g y.1 + sumA g l); grind
  | trans _ _ a b => rw [a, b]
theorem sum_filter {g : Pl2 → Rat} : ∀ m : Tb, sumA g (m.filter fun e => decide (e.2 ≠ 0)) = sumA g m
  | [] => rfl
  | e :: r => by
    by_cases q : e.2 = 0
    · rw [List.filter_cons_of_neg (by simpa using q), sum_filter r]
      show _ = e.2 * g e.1 + sumA g r
      rw [q]; grind
    · rw [List.filter_cons_of_pos (by simpa using q)]
      show e.2 * g e.1 + sumA g (r.filter _) = e.2 * g e.1 + sumA g r
      rw [sum_filter r]
/-- the rows in the order of the planes -/
def rowsA (m : Tb) (ps : List Pl2) : Tb := (ps.map fun p => (p, aval p m)).filter fun e => decide (e.2 ≠ 0)
theorem vals_of {m : Tb} (n : (m.map (·.1)).Nodup) : (m.map (·.1)).map (fun p => (p, aval p m)) = m := by
  rw [List.map_map]
  conv => rhs; rw [← List.map_id m]
  refine List.map_congr_left fun e he => ?_
  show (e.1, (aget e.1 m).getD 0) = e
  rw [aget_of n he]; rfl
theorem sum_rows {g : Pl2 → Rat} {m : Tb} {ps : List Pl2} (n : (m.map (·.1)).Nodup) (h : ps.Perm (m.map (·.1))) : sumA g (rowsA m ps) = sumA g m := by
  unfold rowsA
  rw [sum_filter]
  have := (h.map fun p => (p, aval p m))
  rw [vals_of n] at this
  exact sum_perm this
theorem rows_mem {m : Tb} {ps : List Pl2} (n : (m.map (·.1)).Nodup) (h : ps.Perm (m.map (·.1))) {e : Pl2 × Rat} (he : e ∈ rowsA m ps) : e ∈ m := by
  have h1 := (List.mem_filter.mp he).1
  have := (h.map fun p => (p, aval p m))
  rw [vals_of n] at this
  exact this.mem_iff.mp h1
/-! ### the small language -/
section
variable {S : Sto} {a : Addr} {p : Pl2} {m : Tb} {Q : D → Prop}
theorem dget_tb (h : S a = some (flat m)) {x : Rat} (e : aget p m = some x) (q : Q (fr x)) : dGet S (.dct a) (pkD p) Q := ⟨_, _, _, h, key_ok p, by rw [find_flat, e]; rfl, q⟩
theorem dgeto_tb (h : S a = some (flat m)) (q : Q (fr (aval p m))) : dGetO S (.dct a) (pkD p) (fr 0) Q := ⟨_, _, h, key_ok p, by
  rw [find_flat]
  cases e : aget p m with
  | none => rw [show aval p m = 0 by rw [show aval p m = (aget p m).getD 0 from rfl, e]; rfl] at q; exact q
  | some x => rw [show aval p m = x by rw [show aval p m = (aget p m).getD 0 from rfl, e]; rfl] at q; exact q⟩
theorem dput_tb {x : Rat} {Q : Sto → Prop} (h : S a = some (flat m)) (l : m.length ≤ 400) (q : Q (S.put a (flat (aput p x m)))) : dPut (.dct a) (pkD p) (fr x) S Q := ⟨_, _, h, key_ok p, by rw [flat_len]; omega, by rw [store_flat]; exact q⟩
theorem dsort_tb {n : Nat} (h : S a = some (flat m)) (l : m.length < 64) (hn : ∀ e ∈ m, e.1.1.length = n) (q : ∀ ps : List Pl2, ps.Perm (m.map (·.1)) → ps.Pairwise (fun x y => lexLe (x.1 ++ [x.2]) (y.1 ++ [y.2])) → Q (.lst (ps.map pkD))) : dSort S (.dct a) Q :=
  ⟨_, n, m.map (·.1), h, keys_flat m, by rw [List.length_map]; exact l, fun k hk => by obtain ⟨e, he, rfl⟩ := List.mem_map.mp hk; exact hn e he, q⟩
theorem dsort_lst {n : Nat} {ks : List Pl2} (l : ks.length < 64) (hn : ∀ k ∈ ks, k.1.length = n) (q : ∀ ps : List Pl2, ps.Perm ks → ps.Pairwise (fun x y => lexLe (x.1 ++ [x.2]) (y.1 ++ [y.2])) → Q (.lst (ps.map pkD))) : dSort S (.lst (ks.map pkD)) Q :=
  ⟨n, ks, rfl, l, hn, q⟩
theorem dlist_tb (h : S a = some (flat m)) (l : m.length ≤ 400) (q : Q (.lst ((m.map (·.1)).map pkD))) : dList S (.dct a) Q :=
  ⟨_, h, by rw [flat_len]; omega, by rw [keys_flat]; exact q⟩
end
section
variable {X : Mod'} {G : Fns} {ρ : Rho} {S : Sto} {Q : D → Sto → Prop} {a i u e : M}
theorem wE_dnew : wE X G .dnew ρ S Q = ∀ p, S p = none → Q (.dct p) (S.put p []) := rfl
theorem wE_dget : wE X G (.dget a i) ρ S Q = wE X G a ρ S fun x S1 => wE X G i ρ S1 fun y S2 => dGet S2 x y fun z => Q z S2 := rfl
theorem wE_dgeto : wE X G (.dgeto a i u) ρ S Q = wE X G a ρ S fun x S1 => dRefD S1 x ∧ wE X G i ρ S1 fun y S2 => wE X G u ρ S2 fun z S3 => dGetO S3 x y z fun d => Q d S3 := rfl
theorem wE_dsort : wE X G (.dsort a) ρ S Q = wE X G a ρ S fun x S1 => dSort S1 x fun z => Q z S1 := rfl
theorem wE_dlist : wE X G (.dlist a) ρ S Q = wE X G a ρ S fun x S1 => dList S1 x fun z => Q z S1 := rfl
theorem wE_trng : wE X G (.trng a) ρ S Q = wE X G a ρ S fun x S1 => dTrng x fun z => Q z S1 := rfl
theorem wC_dput {E : ED} : wC X G (.dput a i e) E ρ S = wE X G e ρ S fun z S1 => wE X G a ρ S1 fun x S2 => wE X G i ρ S2 fun y S3 => dPut x y z S3 fun S4 => E.nx ρ S4 := rfl
theorem rRefD {p : Addr} : dRefD S (.dct p) = ∃ xs, S p = some xs := rfl
end
end DL

set_option Elab.async false
set_option linter.all false
set_option maxRecDepth 100000
namespace K08
open PySem DL
/-- is_whole -/
def b_is_whole : C := (.seq (.ret (.and (.isi (.v 0) .int) (.not (.isi (.v 0) .bool)))) .done)
/-- is_tuple -/
def b_is_tuple : C := (.seq (.ret (.and (.isi (.v 0) .tuple) (.cmp .eq (.bi .len (.cons (.v 0) .nil)) (.v 1)))) .done)
/-- is_headed -/
def b_is_headed : C := (.seq (.ret (.and (.call 1 (.cons (.v 0) (.cons (.v 2) .nil))) (.and (.isi (.ix (.v 0) (.c (.int 0))) .str) (.cmp .eq (.ix (.v 0) (.c (.int 0))) (.v 1))))) .done)
/-- divisor -/
def b_divisor : C := (.seq (.swap 0 1 (.bi .abs (.cons (.v 0) .nil)) (.bi .abs (.cons (.v 1) .nil))) (.seq (.whl (.tv (.v 1)) (.seq (.swap 0 1 (.v 1) (.bin .mod (.v 0) (.v 1))) .done)) (.seq (.ret (.v 0)) .done)))
/-- divisor_of -/
def b_divisor_of : C := (.seq (.asg (.n 1) (.c (.int 0))) (.seq (.for (.n 2) (.it (.v 0)) (.seq (.asg (.n 1) (.call 3 (.cons (.v 1) (.cons (.v 2) .nil)))) .done)) (.seq (.ret (.v 1)) .done)))
/-- multiple -/
def b_multiple : C := (.seq (.ret (.bin .mul (.bin .fdiv (.v 0) (.call 3 (.cons (.v 0) (.cons (.v 1) .nil)))) (.v 1))) .done)
/-- lowest -/
def b_lowest : C := (.seq (.asg (.n 2) (.call 3 (.cons (.v 0) (.cons (.v 1) .nil)))) (.seq (.ite (.cmp .lt (.v 1) (.c (.int 0))) (.seq (.asg (.n 2) (.neg (.v 2))) .done) .done) (.seq (.ret (.tup (.cons (.bin .fdiv (.v 0) (.v 2)) (.cons (.bin .fdiv (.v 1) (.v 2)) .nil)))) .done)))
/-- is_fraction -/
def b_is_fraction : C := (.seq (.ite (.or (.not (.tv (.call 1 (.cons (.v 0) (.cons (.c (.int 2)) .nil))))) (.or (.not (.tv (.call 0 (.cons (.ix (.v 0) (.c (.int 0))) .nil)))) (.or (.not (.tv (.call 0 (.cons (.ix (.v 0) (.c (.int 1))) .nil)))) (.cmp .lt (.ix (.v 0) (.c (.int 1))) (.c (.int 1)))))) (.seq (.ret (.c (.bl false))) .done) .done) (.seq (.ret (.cmp .eq (.call 3 (.cons (.ix (.v 0) (.c (.int 0))) (.cons (.ix (.v 0) (.c (.int 1))) .nil))) (.c (.int 1)))) .done))
/-- is_row -/
def b_is_row : C := (.seq (.ret (.and (.call 1 (.cons (.v 0) (.cons (.v 1) .nil))) (.gall false [2, 3] (.n 3) (.call 7 (.cons (.v 3) .nil)) (.it (.v 0)) .nil))) .done)
/-- plus -/
def b_plus : C := (.seq (.ite (.cmp .eq (.ix (.v 0) (.c (.int 0))) (.c (.int 0))) (.seq (.ret (.v 1)) .done) .done) (.seq (.ite (.cmp .eq (.ix (.v 1) (.c (.int 0))) (.c (.int 0))) (.seq (.ret (.v 0)) .done) .done) (.seq (.ret (.call 6 (.cons (.bin .add (.bin .mul (.ix (.v 0) (.c (.int 0))) (.ix (.v 1) (.c (.int 1)))) (.bin .mul (.ix (.v 1) (.c (.int 0))) (.ix (.v 0) (.c (.int 1))))) (.cons (.bin .mul (.ix (.v 0) (.c (.int 1))) (.ix (.v 1) (.c (.int 1)))) .nil)))) .done)))
/-- product -/
def b_product : C := (.seq (.ret (.call 6 (.cons (.bin .mul (.ix (.v 0) (.c (.int 0))) (.ix (.v 1) (.c (.int 0)))) (.cons (.bin .mul (.ix (.v 0) (.c (.int 1))) (.ix (.v 1) (.c (.int 1)))) .nil)))) .done)
/-- negative -/
def b_negative : C := (.seq (.ret (.tup (.cons (.neg (.ix (.v 0) (.c (.int 0)))) (.cons (.ix (.v 0) (.c (.int 1))) .nil)))) .done)
/-- size_of -/
def b_size_of : C := (.seq (.ret (.tup (.cons (.bi .abs (.cons (.ix (.v 0) (.c (.int 0))) .nil)) (.cons (.ix (.v 0) (.c (.int 1))) .nil)))) .done)
/-- cut_off -/
def b_cut_off : C := (.seq (.ret (.ite (.cmp .gt (.ix (.v 0) (.c (.int 0))) (.c (.int 0))) (.v 0) (.g 0))) .done)
/-- dot -/
def b_dot : C := (.seq (.asg (.n 2) (.g 0)) (.seq (.for (.t (.cons (.n 3) (.cons (.n 4) .nil))) (.zip (.v 0) (.v 1)) (.seq (.ite (.and (.tv (.ix (.v 3) (.c (.int 0)))) (.tv (.ix (.v 4) (.c (.int 0))))) (.seq (.asg (.n 2) (.call 9 (.cons (.v 2) (.cons (.call 10 (.cons (.v 3) (.cons (.v 4) .nil))) .nil)))) .done) .done) .done)) (.seq (.ret (.v 2)) .done)))
/-- added_rows -/
def b_added_rows : C := (.seq (.ret (.bi .tuple (.cons (.lc false [2, 3, 4] (.t (.cons (.n 3) (.cons (.n 4) .nil))) (.call 9 (.cons (.v 3) (.cons (.v 4) .nil))) (.zip (.v 0) (.v 1)) .nil) .nil))) .done)
/-- scaled_row -/
def b_scaled_row : C := (.seq (.ret (.bi .tuple (.cons (.lc false [2, 3] (.n 3) (.call 10 (.cons (.v 0) (.cons (.v 3) .nil))) (.it (.v 1)) .nil) .nil))) .done)
/-- zeros -/
def b_zeros : C := (.seq (.ret (.bin .mul (.tup (.cons (.g 0) .nil)) (.v 0))) .done)
/-- unit_row -/
def b_unit_row : C := (.seq (.ret (.bi .tuple (.cons (.lc false [2, 3] (.n 3) (.ite (.cmp .eq (.v 3) (.v 1)) (.g 1) (.g 0)) (.rng (.c (.int 0)) (.v 0)) .nil) .nil))) .done)
/-- is_nothing -/
def b_is_nothing : C := (.seq (.ret (.gall false [1, 2] (.n 2) (.cmp .eq (.ix (.v 2) (.c (.int 0))) (.c (.int 0))) (.it (.v 0)) .nil)) .done)
/-- whole_row -/
def b_whole_row : C := (.seq (.ret (.bi .tuple (.cons (.lc false [1, 2] (.n 2) (.tup (.cons (.v 2) (.cons (.c (.int 1)) .nil))) (.it (.v 0)) .nil) .nil))) .done)
/-- common_below -/
def b_common_below : C := (.seq (.asg (.n 1) (.c (.int 1))) (.seq (.for (.t (.cons (.n 2) (.cons (.n 3) .nil))) (.it (.v 0)) (.seq (.asg (.n 1) (.call 5 (.cons (.v 1) (.cons (.v 3) .nil)))) .done)) (.seq (.ret (.v 1)) .done)))
/-- plane_of -/
def b_plane_of : C := (.seq (.asg (.n 2) (.call 21 (.cons (.bin .add (.v 0) (.tup (.cons (.v 1) .nil))) .nil))) (.seq (.asg (.n 3) (.lc false [6, 7, 8] (.t (.cons (.n 7) (.cons (.n 8) .nil))) (.bin .mul (.v 7) (.bin .fdiv (.v 2) (.v 8))) (.it (.bin .add (.v 0) (.tup (.cons (.v 1) .nil)))) .nil)) (.seq (.asg (.n 4) (.call 4 (.cons (.v 3) .nil))) (.seq (.asg (.n 5) (.ix (.lc false [6, 9] (.n 9) (.v 9) (.it (.v 3)) (.tv (.v 9))) (.c (.int 0)))) (.seq (.asg (.n 4) (.ite (.cmp .gt (.v 5) (.c (.int 0))) (.v 4) (.neg (.v 4)))) (.seq (.asg (.n 3) (.lc false [6, 9] (.n 9) (.bin .fdiv (.v 9) (.v 4)) (.it (.v 3)) .nil)) (.seq (.ret (.tup (.cons (.tup (.cons (.bi .tuple (.cons (.sl (.v 3) .nil (.so (.neg (.c (.int 1))))) .nil)) (.cons (.ix (.v 3) (.neg (.c (.int 1)))) .nil))) (.cons (.call 6 (.cons (.v 4) (.cons (.v 2) .nil))) .nil)))) .done)))))))
/-- height -/
def b_height : C := (.seq (.ret (.call 9 (.cons (.call 14 (.cons (.call 20 (.cons (.ix (.v 0) (.c (.int 0))) .nil)) (.cons (.v 1) .nil))) (.cons (.tup (.cons (.ix (.v 0) (.c (.int 1))) (.cons (.c (.int 1)) .nil))) .nil)))) .done)
/-- normal -/
def b_normal : C := (.seq (.asg (.t (.cons (.n 1) (.cons (.n 2) (.cons (.t (.cons (.n 3) (.cons (.n 4) .nil))) .nil)))) (.v 0)) (.seq (.asg (.n 12) .dnew) (.seq (.for (.t (.cons (.n 5) (.cons (.n 6) (.cons (.n 7) .nil)))) (.it (.v 2)) (.seq (.ite (.tv (.call 19 (.cons (.v 5) .nil))) (.seq (.asg (.n 4) (.call 9 (.cons (.v 4) (.cons (.call 10 (.cons (.v 7) (.cons (.call 13 (.cons (.v 6) .nil)) .nil))) .nil)))) .done) (.seq (.asg (.t (.cons (.n 8) (.cons (.n 9) .nil))) (.call 22 (.cons (.v 5) (.cons (.v 6) .nil)))) (.seq (.asg (.n 10) (.call 10 (.cons (.v 7) (.cons (.call 12 (.cons (.v 9) .nil)) .nil)))) (.seq (.dput (.v 12) (.v 8) (.call 9 (.cons (.dgeto (.v 12) (.v 8) (.tup (.cons (.c (.int 0)) (.cons (.c (.int 1)) .nil)))) (.cons (.v 10) .nil)))) (.seq (.ite (.cmp .lt (.ix (.v 9) (.c (.int 0))) (.c (.int 0))) (.seq (.asg (.n 3) (.call 15 (.cons (.v 3) (.cons (.call 16 (.cons (.call 11 (.cons (.v 10) .nil)) (.cons (.call 20 (.cons (.ix (.v 8) (.c (.int 0))) .nil)) .nil))) .nil)))) (.seq (.asg (.n 4) (.call 9 (.cons (.v 4) (.cons (.call 10 (.cons (.call 11 (.cons (.v 10) .nil)) (.cons (.tup (.cons (.ix (.v 8) (.c (.int 1))) (.cons (.c (.int 1)) .nil))) .nil))) .nil)))) .done)) .done) .done))))) .done)) (.seq (.asg (.n 11) (.bi .tuple (.cons (.lc false [13, 5, 6] (.t (.cons (.n 5) (.cons (.n 6) .nil))) (.tup (.cons (.v 5) (.cons (.v 6) (.cons (.dget (.v 12) (.tup (.cons (.v 5) (.cons (.v 6) .nil)))) .nil)))) (.it (.dsort (.v 12))) (.tv (.ix (.dget (.v 12) (.tup (.cons (.v 5) (.cons (.v 6) .nil)))) (.c (.int 0))))) .nil))) (.seq (.ret (.tup (.cons (.v 11) (.cons (.tup (.cons (.v 3) (.cons (.v 4) .nil))) .nil)))) .done)))))
/-- net_of -/
def b_net_of : C := (.seq (.ret (.tup (.cons (.v 0) (.cons (.bi .tuple (.cons (.lc false [3, 4, 5, 6] (.t (.cons (.n 4) (.cons (.n 5) (.cons (.n 6) .nil)))) (.tup (.cons (.call 20 (.cons (.v 4) .nil)) (.cons (.tup (.cons (.v 5) (.cons (.c (.int 1)) .nil))) (.cons (.v 6) .nil)))) (.it (.v 1)) .nil) .nil)) (.cons (.v 2) .nil))))) .done)
/-- least -/
def b_least : C := (.seq (.asg (.t (.cons (.n 1) (.cons (.n 2) .nil))) (.call 24 (.cons (.v 0) .nil))) (.seq (.ret (.call 25 (.cons (.ix (.v 0) (.c (.int 0))) (.cons (.v 1) (.cons (.v 2) .nil))))) .done))
/-- is_least -/
def b_is_least : C := (.seq (.ret (.cmp .eq (.bi .len (.cons (.ix (.v 0) (.c (.int 1))) .nil)) (.bi .len (.cons (.ix (.call 24 (.cons (.v 0) .nil)) (.c (.int 0))) .nil)))) .done)
/-- turned -/
def b_turned : C := (.seq (.asg (.t (.cons (.n 2) (.cons (.t (.cons (.n 3) (.cons (.n 4) .nil))) .nil))) (.call 24 (.cons (.v 0) .nil))) (.seq (.asg (.n 5) (.lst true .nil)) (.seq (.for (.t (.cons (.n 6) (.cons (.t (.cons (.n 7) (.cons (.n 8) (.cons (.n 9) .nil)))) .nil))) (.enum (.v 2)) (.seq (.ite (.cmp .inn (.v 6) (.v 1)) (.seq (.ex (.meth .append (.v 5) (.cons (.tup (.cons (.call 20 (.cons (.lc false [10, 11] (.n 11) (.neg (.v 11)) (.it (.v 7)) .nil) .nil)) (.cons (.tup (.cons (.neg (.v 8)) (.cons (.c (.int 1)) .nil))) (.cons (.v 9) .nil)))) .nil))) (.seq (.asg (.n 3) (.call 15 (.cons (.v 3) (.cons (.call 16 (.cons (.v 9) (.cons (.call 20 (.cons (.v 7) .nil)) .nil))) .nil)))) (.seq (.asg (.n 4) (.call 9 (.cons (.v 4) (.cons (.call 10 (.cons (.v 9) (.cons (.tup (.cons (.v 8) (.cons (.c (.int 1)) .nil))) .nil))) .nil)))) .done))) (.seq (.ex (.meth .append (.v 5) (.cons (.tup (.cons (.call 20 (.cons (.v 7) .nil)) (.cons (.tup (.cons (.v 8) (.cons (.c (.int 1)) .nil))) (.cons (.v 9) .nil)))) .nil))) .done)) .done)) (.seq (.ret (.tup (.cons (.ix (.v 0) (.c (.int 0))) (.cons (.bi .tuple (.cons (.v 5) .nil)) (.cons (.tup (.cons (.v 3) (.cons (.v 4) .nil))) .nil))))) .done))))
/-- straight_at -/
def b_straight_at : C := (.seq (.ret (.call 9 (.cons (.call 14 (.cons (.ix (.v 0) (.c (.int 0))) (.cons (.v 1) .nil))) (.cons (.ix (.v 0) (.c (.int 1))) .nil)))) .done)
/-- answer -/
def b_answer : C := (.seq (.asg (.t (.cons (.n 2) (.cons (.n 3) (.cons (.n 4) .nil)))) (.v 0)) (.seq (.asg (.n 5) (.call 29 (.cons (.v 4) (.cons (.v 1) .nil)))) (.seq (.for (.t (.cons (.n 6) (.cons (.n 7) (.cons (.n 8) .nil)))) (.it (.v 3)) (.seq (.asg (.n 5) (.call 9 (.cons (.v 5) (.cons (.call 10 (.cons (.v 8) (.cons (.call 13 (.cons (.call 9 (.cons (.call 14 (.cons (.v 6) (.cons (.v 1) .nil))) (.cons (.v 7) .nil))) .nil)) .nil))) .nil)))) .done)) (.seq (.ret (.v 5)) .done))))
/-- minus_net -/
def b_minus_net : C := (.seq (.asg (.n 2) (.bin .add (.ix (.v 0) (.c (.int 1))) (.bi .tuple (.cons (.lc false [5, 6, 7, 8] (.t (.cons (.n 6) (.cons (.n 7) (.cons (.n 8) .nil)))) (.tup (.cons (.v 6) (.cons (.v 7) (.cons (.call 11 (.cons (.v 8) .nil)) .nil)))) (.it (.ix (.v 1) (.c (.int 1)))) .nil) .nil)))) (.seq (.asg (.n 3) (.call 15 (.cons (.ix (.ix (.v 0) (.c (.int 2))) (.c (.int 0))) (.cons (.call 16 (.cons (.tup (.cons (.neg (.c (.int 1))) (.cons (.c (.int 1)) .nil))) (.cons (.ix (.ix (.v 1) (.c (.int 2))) (.c (.int 0))) .nil))) .nil)))) (.seq (.asg (.n 4) (.ix (.call 15 (.cons (.tup (.cons (.ix (.ix (.v 0) (.c (.int 2))) (.c (.int 1))) .nil)) (.cons (.tup (.cons (.call 11 (.cons (.ix (.ix (.v 1) (.c (.int 2))) (.c (.int 1))) .nil)) .nil)) .nil))) (.c (.int 0)))) (.seq (.ret (.tup (.cons (.ix (.v 0) (.c (.int 0))) (.cons (.v 2) (.cons (.tup (.cons (.v 3) (.cons (.v 4) .nil))) .nil))))) .done))))
/-- point_on -/
def b_point_on : C := (.seq (.asg (.t (.cons (.n 1) (.cons (.n 2) .nil))) (.v 0)) (.seq (.asg (.n 3) (.ix (.lc false [4, 5, 6] (.t (.cons (.n 5) (.cons (.n 6) .nil))) (.v 5) (.enum (.v 1)) (.tv (.v 6))) (.c (.int 0)))) (.seq (.ret (.bi .tuple (.cons (.lc false [4, 5, 6] (.t (.cons (.n 5) (.cons (.n 6) .nil))) (.ite (.cmp .eq (.v 5) (.v 3)) (.call 6 (.cons (.neg (.v 2)) (.cons (.v 6) .nil))) (.tup (.cons (.c (.int 0)) (.cons (.c (.int 1)) .nil)))) (.enum (.v 1)) .nil) .nil))) .done)))
/-- ways_along -/
def b_ways_along : C := (.seq (.asg (.n 1) (.ix (.v 0) (.c (.int 0)))) (.seq (.asg (.n 4) (.ix (.lc false [7, 2, 3] (.t (.cons (.n 2) (.cons (.n 3) .nil))) (.v 2) (.enum (.v 1)) (.tv (.v 3))) (.c (.int 0)))) (.seq (.asg (.n 5) (.lst true .nil)) (.seq (.for (.t (.cons (.n 2) (.cons (.n 3) .nil))) (.enum (.v 1)) (.seq (.ite (.cmp .ne (.v 2) (.v 4)) (.seq (.asg (.n 6) (.rep (.lst false (.cons (.tup (.cons (.c (.int 0)) (.cons (.c (.int 1)) .nil))) .nil)) (.bi .len (.cons (.v 1) .nil)))) (.seq (.sets (.v 6) (.v 2) (.tup (.cons (.ix (.v 1) (.v 4)) (.cons (.c (.int 1)) .nil)))) (.seq (.sets (.v 6) (.v 4) (.tup (.cons (.neg (.v 3)) (.cons (.c (.int 1)) .nil)))) (.seq (.ex (.meth .append (.v 5) (.cons (.bi .tuple (.cons (.v 6) .nil)) .nil))) .done)))) .done) .done)) (.seq (.ret (.v 5)) .done)))))
/-- power_of -/
def b_power_of : C := (.seq (.asg (.n 2) (.c (.int 1))) (.seq (.for (.n 3) (.rng (.c (.int 0)) (.v 1)) (.seq (.augv 2 .mul (.v 0)) .done)) (.seq (.ret (.v 2)) .done)))
/-- free_point -/
def b_free_point : C := (.seq (.asg (.n 2) (.call 32 (.cons (.v 0) .nil))) (.seq (.asg (.n 3) (.call 33 (.cons (.v 0) .nil))) (.seq (.asg (.n 4) (.c (.int 0))) (.seq (.whl (.tv (.c (.bl true))) (.seq (.asg (.n 7) (.v 2)) (.seq (.for (.t (.cons (.n 5) (.cons (.n 6) .nil))) (.enum (.v 3)) (.seq (.asg (.n 7) (.call 15 (.cons (.v 7) (.cons (.call 16 (.cons (.tup (.cons (.call 34 (.cons (.v 4) (.cons (.bin .add (.v 5) (.c (.int 1))) .nil))) (.cons (.c (.int 1)) .nil))) (.cons (.v 6) .nil))) .nil)))) .done)) (.seq (.ite (.tv (.gall false [8, 9] (.n 9) (.ix (.call 23 (.cons (.v 9) (.cons (.v 7) .nil))) (.c (.int 0))) (.it (.v 1)) .nil)) (.seq (.ret (.v 7)) .done) .done) (.seq (.augv 4 .add (.c (.int 1))) .done))))) .done))))
/-- near_step -/
def b_near_step : C := (.seq (.asg (.n 3) (.g 1)) (.seq (.asg (.n 4) (.call 20 (.cons (.ix (.v 0) (.c (.int 0))) .nil))) (.seq (.for (.n 5) (.it (.v 1)) (.seq (.asg (.n 6) (.call 23 (.cons (.v 5) (.cons (.v 2) .nil)))) (.seq (.asg (.n 7) (.call 23 (.cons (.tup (.cons (.ix (.v 5) (.c (.int 0))) (.cons (.c (.int 0)) .nil))) (.cons (.v 4) .nil)))) (.seq (.ite (.tv (.ix (.v 7) (.c (.int 0)))) (.seq (.asg (.n 8) (.tup (.cons (.bin .mul (.bi .abs (.cons (.ix (.v 6) (.c (.int 0))) .nil)) (.ix (.v 7) (.c (.int 1)))) (.cons (.bin .mul (.bin .mul (.ix (.v 6) (.c (.int 1))) (.bi .abs (.cons (.ix (.v 7) (.c (.int 0))) .nil))) (.c (.int 2))) .nil)))) (.seq (.asg (.n 3) (.call 37 (.cons (.v 3) (.cons (.call 6 (.cons (.ix (.v 8) (.c (.int 0))) (.cons (.ix (.v 8) (.c (.int 1))) .nil))) .nil)))) .done)) .done) .done)))) (.seq (.ret (.v 3)) .done))))
/-- least_of -/
def b_least_of : C := (.seq (.ret (.ite (.cmp .le (.bin .mul (.ix (.v 0) (.c (.int 0))) (.ix (.v 1) (.c (.int 1)))) (.bin .mul (.ix (.v 1) (.c (.int 0))) (.ix (.v 0) (.c (.int 1))))) (.v 0) (.v 1))) .done)
/-- around -/
def b_around : C := (.seq (.asg (.n 2) (.call 35 (.cons (.v 0) (.cons (.v 1) .nil)))) (.seq (.asg (.n 3) (.call 16 (.cons (.call 36 (.cons (.v 0) (.cons (.v 1) (.cons (.v 2) .nil)))) (.cons (.call 20 (.cons (.ix (.v 0) (.c (.int 0))) .nil)) .nil)))) (.seq (.ret (.tup (.cons (.v 2) (.cons (.call 15 (.cons (.v 2) (.cons (.v 3) .nil))) (.cons (.call 15 (.cons (.v 2) (.cons (.call 16 (.cons (.tup (.cons (.neg (.c (.int 1))) (.cons (.c (.int 1)) .nil))) (.cons (.v 3) .nil))) .nil))) .nil))))) .done)))
/-- showing_point -/
def b_showing_point : C := (.seq (.asg (.t (.cons (.n 1) (.cons (.n 2) .nil))) (.call 24 (.cons (.v 0) .nil))) (.seq (.ite (.tv (.v 1)) (.seq (.asg (.n 3) (.tup (.cons (.ix (.ix (.v 1) (.c (.int 0))) (.c (.int 0))) (.cons (.ix (.ix (.v 1) (.c (.int 0))) (.c (.int 1))) .nil)))) (.seq (.asg (.n 4) (.call 38 (.cons (.v 3) (.cons (.lc false [6, 7, 8, 9] (.t (.cons (.n 7) (.cons (.n 8) (.cons (.n 9) .nil)))) (.tup (.cons (.v 7) (.cons (.v 8) .nil))) (.it (.sl (.v 1) (.so (.c (.int 1))) .nil)) .nil) .nil)))) .done)) (.seq (.asg (.n 4) (.bin .add (.tup (.cons (.call 17 (.cons (.ix (.v 0) (.c (.int 0))) .nil)) .nil)) (.bi .tuple (.cons (.lc false [6, 10] (.n 10) (.call 18 (.cons (.ix (.v 0) (.c (.int 0))) (.cons (.v 10) .nil))) (.rng (.c (.int 0)) (.ix (.v 0) (.c (.int 0)))) .nil) .nil)))) .done)) (.seq (.for (.n 5) (.it (.v 4)) (.seq (.ite (.tv (.ix (.call 30 (.cons (.v 0) (.cons (.v 5) .nil))) (.c (.int 0)))) (.seq (.ret (.v 5)) .done) .done) .done)) (.seq (.ret (.tup .nil)) .done))))
/-- alike -/
def b_alike : C := (.seq (.asg (.n 2) (.call 39 (.cons (.call 31 (.cons (.v 0) (.cons (.v 1) .nil))) .nil))) (.seq (.ret (.ite (.tv (.v 2)) (.tup (.cons (.c (.str "point")) (.cons (.v 2) .nil))) (.tup (.cons (.c (.str "alike")) .nil)))) .done))
/-- judge_alike -/
def b_judge_alike : C := (.seq (.ite (.tv (.call 2 (.cons (.v 2) (.cons (.c (.str "alike")) (.cons (.c (.int 1)) .nil))))) (.seq (.asg (.t (.cons (.n 3) (.cons (.n 4) .nil))) (.call 24 (.cons (.call 31 (.cons (.v 0) (.cons (.v 1) .nil))) .nil))) (.seq (.ret (.and (.not (.v 3)) (.not (.call 39 (.cons (.call 31 (.cons (.v 0) (.cons (.v 1) .nil))) .nil))))) .done)) .done) (.seq (.ite (.or (.not (.tv (.call 2 (.cons (.v 2) (.cons (.c (.str "point")) (.cons (.c (.int 2)) .nil)))))) (.not (.tv (.call 8 (.cons (.ix (.v 2) (.c (.int 1))) (.cons (.ix (.v 0) (.c (.int 0))) .nil)))))) (.seq (.ret (.c (.bl false))) .done) .done) (.seq (.ret (.cmp .ne (.call 30 (.cons (.v 0) (.cons (.ix (.v 2) (.c (.int 1))) .nil))) (.call 30 (.cons (.v 1) (.cons (.ix (.v 2) (.c (.int 1))) .nil))))) .done)))
/-- _law_bag -/
def b__law_bag : C := (.seq (.asg (.n 1) (.bin .add (.lc false [3, 4] (.n 4) (.bi .abs (.cons (.bi .int (.cons (.v 4) .nil)) .nil)) (.it (.v 0)) .nil) (.lst false (.cons (.c (.int 7)) .nil)))) (.seq (.asg (.n 2) (.lst true .nil)) (.seq (.ite (.cmp .eq (.bin .mod (.bi .int (.cons (.ix (.v 1) (.c (.int 0))) .nil)) (.c (.int 2))) (.c (.int 0))) (.seq (.asg (.n 2) (.lc true [3, 4] (.n 4) (.bin .fdiv (.v 4) (.c (.int 2))) (.it (.v 1)) (.cmp .ge (.v 4) (.bin .pow (.c (.int 10)) (.c (.int 18)))))) (.seq (.ex (.meth .reverse (.v 2) .nil)) .done)) .done) (.seq (.ret (.lst true (.cons (.c (.int 0)) (.cons (.c (.int 0)) (.cons (.v 2) (.cons (.lc false [3, 4] (.n 4) (.bin .mod (.bi .int (.cons (.v 4) .nil)) (.c (.int 2147483647))) (.it (.v 1)) .nil) .nil)))))) .done))))
/-- _law_draw -/
def b__law_draw : C := (.seq (.sets (.v 0) (.c (.int 1)) (.bin .add (.ix (.v 0) (.c (.int 1))) (.c (.int 1)))) (.seq (.ite (.and (.cmp .eq (.ix (.v 0) (.c (.int 0))) (.c (.int 0))) (.cmp .gt (.bi .len (.cons (.ix (.v 0) (.c (.int 2))) .nil)) (.c (.int 0)))) (.seq (.sets (.v 0) (.c (.int 0)) (.meth .pop (.ix (.v 0) (.c (.int 2))) .nil)) .done) .done) (.seq (.ite (.cmp .gt (.ix (.v 0) (.c (.int 0))) (.c (.int 0))) (.seq (.asg (.n 2) (.bin .mod (.bi .int (.cons (.ix (.v 0) (.c (.int 0))) .nil)) (.v 1))) (.seq (.sets (.v 0) (.c (.int 0)) (.bin .fdiv (.ix (.v 0) (.c (.int 0))) (.v 1))) (.seq (.ret (.v 2)) .done))) .done) (.seq (.asg (.n 3) (.ix (.ix (.v 0) (.c (.int 3))) (.bin .mod (.bi .int (.cons (.ix (.v 0) (.c (.int 1))) .nil)) (.bi .len (.cons (.ix (.v 0) (.c (.int 3))) .nil))))) (.seq (.asg (.n 4) (.bin .mod (.bi .int (.cons (.bin .add (.bin .add (.bin .mul (.v 3) (.c (.int 48271))) (.bin .mul (.ix (.v 0) (.c (.int 1))) (.c (.int 69621)))) (.c (.int 1))) .nil)) (.c (.int 2147483647)))) (.seq (.ret (.bin .mod (.bin .fdiv (.bin .mod (.bi .int (.cons (.bin .add (.bin .add (.bin .mul (.v 4) (.v 4)) (.bin .mul (.v 4) (.c (.int 16807)))) (.bin .mul (.ix (.v 0) (.c (.int 1))) (.c (.int 40014)))) .nil)) (.c (.int 2147483629))) (.c (.int 32))) (.v 1))) .done))))))
/-- _law_pick -/
def b__law_pick : C := (.seq (.ret (.ix (.v 1) (.call 43 (.cons (.v 0) (.cons (.bi .len (.cons (.v 1) .nil)) .nil))))) .done)
/-- _law_some -/
def b__law_some : C := (.seq (.asg (.n 3) (.bi (.list true) (.cons (.v 1) .nil))) (.seq (.asg (.n 4) (.lst true .nil)) (.seq (.for (.n 5) (.rng (.c (.int 0)) (.v 2)) (.seq (.ex (.meth .append (.v 4) (.cons (.meth .pop (.v 3) (.cons (.call 43 (.cons (.v 0) (.cons (.bi .len (.cons (.v 3) .nil)) .nil))) .nil)) .nil))) .done)) (.seq (.ret (.v 4)) .done))))
/-- _law_same -/
def b__law_same : C := (.seq (.ite (.cmp .isN (.v 1) (.c .non)) (.seq (.ret (.cmp .isN (.v 0) (.c .non))) .done) .done) (.seq (.ite (.or (.tv (.isi (.v 1) .bool)) (.tv (.isi (.v 0) .bool))) (.seq (.ret (.and (.isi (.v 1) .bool) (.and (.isi (.v 0) .bool) (.cmp .eq (.v 0) (.v 1))))) .done) .done) (.seq (.ite (.tv (.isi (.v 1) .int)) (.seq (.ret (.and (.isi (.v 0) .int) (.cmp .eq (.v 0) (.v 1)))) .done) .done) (.seq (.ite (.tv (.isi (.v 1) .str)) (.seq (.ret (.and (.isi (.v 0) .str) (.cmp .eq (.v 0) (.v 1)))) .done) .done) (.seq (.ite (.or (.not (.tv (.isi (.v 1) .tuple))) (.or (.not (.tv (.isi (.v 0) .tuple))) (.cmp .ne (.bi .len (.cons (.v 0) .nil)) (.bi .len (.cons (.v 1) .nil))))) (.seq (.ret (.c (.bl false))) .done) .done) (.seq (.for (.n 2) (.rng (.c (.int 0)) (.bi .len (.cons (.v 1) .nil))) (.seq (.ite (.not (.tv (.call 46 (.cons (.ix (.v 0) (.v 2)) (.cons (.ix (.v 1) (.v 2)) .nil))))) (.seq (.ret (.c (.bl false))) .done) .done) .done)) (.seq (.ret (.c (.bl true))) .done)))))))
/-- _law_gcd -/
def b__law_gcd : C := (.seq (.swap 0 1 (.bi .abs (.cons (.v 0) .nil)) (.bi .abs (.cons (.v 1) .nil))) (.seq (.for (.n 2) (.rng (.c (.int 0)) (.c (.int 9999))) (.seq (.ite (.cmp .eq (.v 1) (.c (.int 0))) (.seq .brk .done) .done) (.seq (.swap 0 1 (.v 1) (.bin .mod (.bi .int (.cons (.v 0) .nil)) (.v 1))) .done))) (.seq (.ret (.v 0)) .done)))
/-- _law_fr -/
def b__law_fr : C := (.seq (.asg (.n 2) (.ite (.cmp .gt (.v 1) (.c (.int 0))) (.call 47 (.cons (.v 0) (.cons (.v 1) .nil))) (.bin .sub (.c (.int 0)) (.call 47 (.cons (.v 0) (.cons (.v 1) .nil)))))) (.seq (.ret (.tup (.cons (.bin .fdiv (.v 0) (.v 2)) (.cons (.bin .fdiv (.v 1) (.v 2)) .nil)))) .done))
/-- _law_plus -/
def b__law_plus : C := (.seq (.ret (.call 48 (.cons (.bin .add (.bin .mul (.ix (.v 0) (.c (.int 0))) (.ix (.v 1) (.c (.int 1)))) (.bin .mul (.ix (.v 1) (.c (.int 0))) (.ix (.v 0) (.c (.int 1))))) (.cons (.bin .mul (.ix (.v 0) (.c (.int 1))) (.ix (.v 1) (.c (.int 1)))) .nil)))) .done)
/-- _law_times -/
def b__law_times : C := (.seq (.ret (.call 48 (.cons (.bin .mul (.ix (.v 0) (.c (.int 0))) (.ix (.v 1) (.c (.int 0)))) (.cons (.bin .mul (.ix (.v 0) (.c (.int 1))) (.ix (.v 1) (.c (.int 1)))) .nil)))) .done)
/-- _law_over -/
def b__law_over : C := (.seq (.ret (.call 48 (.cons (.bin .mul (.ix (.v 0) (.c (.int 0))) (.ix (.v 1) (.c (.int 1)))) (.cons (.bin .mul (.ix (.v 0) (.c (.int 1))) (.ix (.v 1) (.c (.int 0)))) .nil)))) .done)
/-- _law_back -/
def b__law_back : C := (.seq (.ret (.tup (.cons (.bin .sub (.c (.int 0)) (.ix (.v 0) (.c (.int 0)))) (.cons (.ix (.v 0) (.c (.int 1))) .nil)))) .done)
/-- _law_dot -/
def b__law_dot : C := (.seq (.asg (.n 2) (.tup (.cons (.c (.int 0)) (.cons (.c (.int 1)) .nil)))) (.seq (.for (.n 3) (.rng (.c (.int 0)) (.bi .len (.cons (.v 0) .nil))) (.seq (.asg (.n 2) (.call 49 (.cons (.v 2) (.cons (.call 50 (.cons (.ix (.v 0) (.v 3)) (.cons (.ix (.v 1) (.v 3)) .nil))) .nil)))) .done)) (.seq (.ret (.v 2)) .done)))
/-- _law_rowsum -/
def b__law_rowsum : C := (.seq (.ret (.bi .tuple (.cons (.lc false [2, 3] (.n 3) (.call 49 (.cons (.ix (.v 0) (.v 3)) (.cons (.ix (.v 1) (.v 3)) .nil))) (.rng (.c (.int 0)) (.bi .len (.cons (.v 0) .nil))) .nil) .nil))) .done)
/-- _law_taken -/
def b__law_taken : C := (.seq (.ret (.bi .tuple (.cons (.lc false [2, 3] (.n 3) (.call 50 (.cons (.v 0) (.cons (.v 3) .nil))) (.it (.v 1)) .nil) .nil))) .done)
/-- _law_whole -/
def b__law_whole : C := (.seq (.ret (.bi .tuple (.cons (.lc false [1, 2] (.n 2) (.tup (.cons (.v 2) (.cons (.c (.int 1)) .nil))) (.it (.v 0)) .nil) .nil))) .done)
/-- _law_is_zero -/
def b__law_is_zero : C := (.seq (.ret (.cmp .eq (.lc false [1, 2] (.n 2) (.v 2) (.it (.v 0)) (.cmp .ne (.ix (.v 2) (.c (.int 0))) (.c (.int 0)))) (.lst false .nil))) .done)
/-- _law_worth -/
def b__law_worth : C := (.seq (.asg (.n 2) (.call 49 (.cons (.call 53 (.cons (.ix (.ix (.v 0) (.c (.int 2))) (.c (.int 0))) (.cons (.v 1) .nil))) (.cons (.ix (.ix (.v 0) (.c (.int 2))) (.c (.int 1))) .nil)))) (.seq (.for (.t (.cons (.n 3) (.cons (.n 4) (.cons (.n 5) .nil)))) (.it (.ix (.v 0) (.c (.int 1)))) (.seq (.asg (.n 6) (.call 49 (.cons (.call 53 (.cons (.v 3) (.cons (.v 1) .nil))) (.cons (.v 4) .nil)))) (.seq (.ite (.cmp .gt (.ix (.v 6) (.c (.int 0))) (.c (.int 0))) (.seq (.asg (.n 2) (.call 49 (.cons (.v 2) (.cons (.call 50 (.cons (.v 5) (.cons (.v 6) .nil))) .nil)))) .done) .done) .done))) (.seq (.ret (.v 2)) .done)))
/-- _law_plane -/
def b__law_plane : C := (.seq (.asg (.n 2) (.c (.int 1))) (.seq (.for (.n 3) (.it (.bin .add (.v 0) (.tup (.cons (.v 1) .nil)))) (.seq (.asg (.n 2) (.bin .fdiv (.bin .mul (.v 2) (.ix (.v 3) (.c (.int 1)))) (.call 47 (.cons (.v 2) (.cons (.ix (.v 3) (.c (.int 1))) .nil))))) .done)) (.seq (.asg (.n 4) (.lc false [8, 3] (.n 3) (.bin .mul (.ix (.v 3) (.c (.int 0))) (.bin .fdiv (.v 2) (.ix (.v 3) (.c (.int 1))))) (.it (.bin .add (.v 0) (.tup (.cons (.v 1) .nil)))) .nil)) (.seq (.asg (.n 5) (.c (.int 0))) (.seq (.for (.n 6) (.it (.v 4)) (.seq (.asg (.n 5) (.call 47 (.cons (.v 5) (.cons (.v 6) .nil)))) .done)) (.seq (.asg (.n 7) (.ix (.lc false [8, 6] (.n 6) (.v 6) (.it (.v 4)) (.cmp .ne (.v 6) (.c (.int 0)))) (.c (.int 0)))) (.seq (.asg (.n 5) (.ite (.cmp .gt (.v 7) (.c (.int 0))) (.v 5) (.bin .sub (.c (.int 0)) (.v 5)))) (.seq (.ret (.tup (.cons (.tup (.cons (.bi .tuple (.cons (.lc false [8, 6] (.n 6) (.bin .fdiv (.v 6) (.v 5)) (.it (.sl (.v 4) .nil (.so (.neg (.c (.int 1)))))) .nil) .nil)) (.cons (.bin .fdiv (.ix (.v 4) (.neg (.c (.int 1)))) (.v 5)) .nil))) (.cons (.call 48 (.cons (.v 5) (.cons (.v 2) .nil))) .nil)))) .done))))))))
/-- _law_pair -/
def b__law_pair : C := (.seq (.asg (.t (.cons (.n 1) (.cons (.n 2) (.cons (.n 3) .nil)))) (.tup (.cons .dnew (.cons (.ix (.ix (.v 0) (.c (.int 2))) (.c (.int 0))) (.cons (.ix (.ix (.v 0) (.c (.int 2))) (.c (.int 1))) .nil))))) (.seq (.for (.t (.cons (.n 4) (.cons (.n 5) (.cons (.n 6) .nil)))) (.it (.ix (.v 0) (.c (.int 1)))) (.seq (.ite (.tv (.call 57 (.cons (.v 4) .nil))) (.seq (.asg (.n 3) (.ite (.cmp .gt (.ix (.v 5) (.c (.int 0))) (.c (.int 0))) (.call 49 (.cons (.v 3) (.cons (.call 50 (.cons (.v 6) (.cons (.v 5) .nil))) .nil))) (.v 3))) .done) (.seq (.asg (.t (.cons (.n 7) (.cons (.n 8) .nil))) (.call 59 (.cons (.v 4) (.cons (.v 5) .nil)))) (.seq (.asg (.n 9) (.call 50 (.cons (.v 6) (.cons (.tup (.cons (.bi .abs (.cons (.ix (.v 8) (.c (.int 0))) .nil)) (.cons (.ix (.v 8) (.c (.int 1))) .nil))) .nil)))) (.seq (.dput (.v 1) (.v 7) (.call 49 (.cons (.dgeto (.v 1) (.v 7) (.tup (.cons (.c (.int 0)) (.cons (.c (.int 1)) .nil)))) (.cons (.v 9) .nil)))) (.seq (.ite (.cmp .lt (.ix (.v 8) (.c (.int 0))) (.c (.int 0))) (.seq (.asg (.n 2) (.call 54 (.cons (.v 2) (.cons (.call 55 (.cons (.call 52 (.cons (.v 9) .nil)) (.cons (.call 56 (.cons (.ix (.v 7) (.c (.int 0))) .nil)) .nil))) .nil)))) (.seq (.asg (.n 3) (.call 49 (.cons (.v 3) (.cons (.call 50 (.cons (.call 52 (.cons (.v 9) .nil)) (.cons (.tup (.cons (.ix (.v 7) (.c (.int 1))) (.cons (.c (.int 1)) .nil))) .nil))) .nil)))) .done)) .done) .done))))) .done)) (.seq (.ret (.tup (.cons (.bi .tuple (.cons (.lc false [10, 7] (.n 7) (.tup (.cons (.ix (.v 7) (.c (.int 0))) (.cons (.ix (.v 7) (.c (.int 1))) (.cons (.dget (.v 1) (.v 7)) .nil)))) (.it (.dsort (.dlist (.v 1)))) (.cmp .ne (.ix (.dget (.v 1) (.v 7)) (.c (.int 0))) (.c (.int 0)))) .nil)) (.cons (.tup (.cons (.v 2) (.cons (.v 3) .nil))) .nil)))) .done)))
/-- _law_draw_fr -/
def b__law_draw_fr : C := (.seq (.ret (.call 48 (.cons (.bin .sub (.call 43 (.cons (.v 0) (.cons (.bin .add (.bin .mul (.c (.int 2)) (.v 1)) (.c (.int 1))) .nil))) (.v 1)) (.cons (.call 44 (.cons (.v 0) (.cons (.v 2) .nil))) .nil)))) .done)
/-- _law_draw_row -/
def b__law_draw_row : C := (.seq (.ret (.bi .tuple (.cons (.lc false [4, 5] (.n 5) (.call 61 (.cons (.v 0) (.cons (.v 2) (.cons (.v 3) .nil)))) (.rng (.c (.int 0)) (.v 1)) .nil) .nil))) .done)
/-- _law_net -/
def b__law_net : C := (.seq (.asg (.n 5) (.lst true .nil)) (.seq (.for (.n 6) (.rng (.c (.int 0)) (.call 43 (.cons (.v 0) (.cons (.bin .add (.v 2) (.c (.int 1))) .nil)))) (.seq (.swap3 7 8 9 (.call 62 (.cons (.v 0) (.cons (.v 1) (.cons (.v 3) (.cons (.v 4) .nil))))) (.call 61 (.cons (.v 0) (.cons (.v 3) (.cons (.v 4) .nil)))) (.call 61 (.cons (.v 0) (.cons (.v 3) (.cons (.v 4) .nil))))) (.seq (.ite (.and (.cmp .ne (.v 5) (.lst false .nil)) (.cmp .eq (.call 43 (.cons (.v 0) (.cons (.c (.int 3)) .nil))) (.c (.int 0)))) (.seq (.asg (.n 10) (.call 44 (.cons (.v 0) (.cons (.v 5) .nil)))) (.seq (.asg (.n 11) (.call 44 (.cons (.v 0) (.cons (.lst false (.cons (.tup (.cons (.c (.int 1)) (.cons (.c (.int 1)) .nil))) (.cons (.tup (.cons (.c (.int 2)) (.cons (.c (.int 1)) .nil))) (.cons (.tup (.cons (.c (.int 1)) (.cons (.c (.int 2)) .nil))) (.cons (.tup (.cons (.neg (.c (.int 1))) (.cons (.c (.int 1)) .nil))) (.cons (.tup (.cons (.neg (.c (.int 1))) (.cons (.c (.int 3)) .nil))) .nil)))))) .nil)))) (.seq (.swap 7 8 (.call 55 (.cons (.v 11) (.cons (.ix (.v 10) (.c (.int 0))) .nil))) (.call 50 (.cons (.v 11) (.cons (.ix (.v 10) (.c (.int 1))) .nil)))) (.seq (.asg (.n 9) (.ite (.cmp .eq (.call 43 (.cons (.v 0) (.cons (.c (.int 3)) .nil))) (.c (.int 0))) (.call 51 (.cons (.call 52 (.cons (.ix (.v 10) (.c (.int 2))) .nil)) (.cons (.tup (.cons (.bi .abs (.cons (.ix (.v 11) (.c (.int 0))) .nil)) (.cons (.ix (.v 11) (.c (.int 1))) .nil))) .nil))) (.v 9))) .done)))) .done) (.seq (.ex (.meth .append (.v 5) (.cons (.tup (.cons (.v 7) (.cons (.v 8) (.cons (.v 9) .nil)))) .nil))) .done)))) (.seq (.ret (.tup (.cons (.v 1) (.cons (.bi .tuple (.cons (.v 5) .nil)) (.cons (.tup (.cons (.call 62 (.cons (.v 0) (.cons (.v 1) (.cons (.v 3) (.cons (.v 4) .nil))))) (.cons (.call 61 (.cons (.v 0) (.cons (.v 3) (.cons (.v 4) .nil)))) .nil))) .nil))))) .done)))
/-- _law_some_net -/
def b__law_some_net : C := (.seq (.asg (.n 2) (.call 44 (.cons (.v 0) (.cons (.lst false (.cons (.c (.int 1)) (.cons (.c (.int 2)) (.cons (.c (.int 2)) (.cons (.c (.int 2)) (.cons (.c (.int 3)) (.cons (.c (.int 3)) (.cons (.c (.int 2)) (.cons (.c (.int 2)) (.cons (.c (.int 4)) (.cons (.c (.int 5)) (.cons (.c (.int 6)) .nil)))))))))))) .nil)))) (.seq (.asg (.t (.cons (.n 3) (.cons (.n 4) .nil))) (.call 44 (.cons (.v 0) (.cons (.lst false (.cons (.tup (.cons (.c (.int 1)) (.cons (.lst false (.cons (.c (.int 1)) .nil)) .nil))) (.cons (.tup (.cons (.c (.int 2)) (.cons (.lst false (.cons (.c (.int 1)) (.cons (.c (.int 2)) .nil))) .nil))) (.cons (.tup (.cons (.c (.int 3)) (.cons (.lst false (.cons (.c (.int 1)) (.cons (.c (.int 2)) (.cons (.c (.int 3)) .nil)))) .nil))) (.cons (.tup (.cons (.c (.int 3)) (.cons (.lst false (.cons (.c (.int 1)) .nil)) .nil))) (.cons (.tup (.cons (.c (.int 5)) (.cons (.lst false (.cons (.c (.int 1)) (.cons (.c (.int 2)) .nil))) .nil))) (.cons (.tup (.cons (.bin .pow (.c (.int 10)) (.c (.int 4))) (.cons (.lst false (.cons (.c (.int 1)) (.cons (.c (.int 2)) .nil))) .nil))) (.cons (.tup (.cons (.c (.int 4)) (.cons (.lst false (.cons (.c (.int 1)) (.cons (.c (.int 7)) (.cons (.c (.int 99)) .nil)))) .nil))) .nil)))))))) .nil)))) (.seq (.ret (.call 63 (.cons (.v 0) (.cons (.v 2) (.cons (.v 1) (.cons (.v 3) (.cons (.v 4) .nil))))))) .done)))
/-- _law_is_int -/
def b__law_is_int : C := (.seq (.ret (.and (.isi (.v 0) .int) (.not (.isi (.v 0) .bool)))) .done)
/-- _law_is_fraction -/
def b__law_is_fraction : C := (.seq (.ite (.or (.not (.tv (.isi (.v 0) .tuple))) (.or (.cmp .ne (.bi .len (.cons (.v 0) .nil)) (.c (.int 2))) (.or (.not (.tv (.call 65 (.cons (.ix (.v 0) (.c (.int 0))) .nil)))) (.or (.not (.tv (.call 65 (.cons (.ix (.v 0) (.c (.int 1))) .nil)))) (.cmp .lt (.ix (.v 0) (.c (.int 1))) (.c (.int 1))))))) (.seq (.ret (.c (.bl false))) .done) .done) (.seq (.ret (.cmp .eq (.call 48 (.cons (.ix (.v 0) (.c (.int 0))) (.cons (.ix (.v 0) (.c (.int 1))) .nil))) (.v 0))) .done))
/-- _law_is_row -/
def b__law_is_row : C := (.seq (.ret (.and (.isi (.v 0) .tuple) (.and (.cmp .eq (.bi .len (.cons (.v 0) .nil)) (.v 1)) (.cmp .eq (.lc false [2, 3] (.n 3) (.v 3) (.it (.v 0)) (.not (.tv (.call 66 (.cons (.v 3) .nil))))) (.lst false .nil))))) .done)
/-- _law_other -/
def b__law_other : C := (.seq (.asg (.t (.cons (.n 2) (.cons (.n 3) .nil))) (.call 60 (.cons (.v 1) .nil))) (.seq (.asg (.t (.cons (.n 4) (.cons (.n 5) .nil))) (.v 3)) (.seq (.asg (.n 6) (.lst true .nil)) (.seq (.for (.t (.cons (.n 7) (.cons (.n 8) (.cons (.n 9) .nil)))) (.it (.v 2)) (.seq (.asg (.n 10) (.call 44 (.cons (.v 0) (.cons (.lst false (.cons (.tup (.cons (.c (.int 1)) (.cons (.c (.int 1)) .nil))) (.cons (.tup (.cons (.c (.int 2)) (.cons (.c (.int 1)) .nil))) (.cons (.tup (.cons (.c (.int 1)) (.cons (.c (.int 3)) .nil))) (.cons (.tup (.cons (.c (.int 5)) (.cons (.c (.int 2)) .nil))) (.cons (.tup (.cons (.c (.int 1)) (.cons (.c (.int 999)) .nil))) .nil)))))) .nil)))) (.seq (.swap 11 12 (.call 56 (.cons (.v 7) .nil)) (.tup (.cons (.v 8) (.cons (.c (.int 1)) .nil)))) (.seq (.ite (.cmp .eq (.call 43 (.cons (.v 0) (.cons (.c (.int 2)) .nil))) (.c (.int 0))) (.seq (.swap 4 5 (.call 54 (.cons (.v 4) (.cons (.call 55 (.cons (.v 9) (.cons (.v 11) .nil))) .nil))) (.call 49 (.cons (.v 5) (.cons (.call 50 (.cons (.v 9) (.cons (.v 12) .nil))) .nil)))) (.seq (.swap 11 12 (.call 55 (.cons (.tup (.cons (.neg (.c (.int 1))) (.cons (.c (.int 1)) .nil))) (.cons (.v 11) .nil))) (.call 52 (.cons (.v 12) .nil))) .done)) .done) (.seq (.ex (.meth .append (.v 6) (.cons (.tup (.cons (.call 55 (.cons (.v 10) (.cons (.v 11) .nil))) (.cons (.call 50 (.cons (.v 10) (.cons (.v 12) .nil))) (.cons (.call 51 (.cons (.v 9) (.cons (.v 10) .nil))) .nil)))) .nil))) .done))))) (.seq (.frz 6) (.seq (.ret (.tup (.cons (.ix (.v 1) (.c (.int 0))) (.cons (.bi .tuple (.cons (.call 45 (.cons (.v 0) (.cons (.v 6) (.cons (.bi .len (.cons (.v 6) .nil)) .nil)))) .nil)) (.cons (.tup (.cons (.v 4) (.cons (.v 5) .nil))) .nil))))) .done))))))
/-- _law_with_more -/
def b__law_with_more : C := (.seq (.asg (.t (.cons (.n 2) (.cons (.n 3) (.cons (.n 4) .nil)))) (.v 1)) (.seq (.asg (.n 5) (.call 62 (.cons (.v 0) (.cons (.v 2) (.cons (.c (.int 2)) (.cons (.lst false (.cons (.c (.int 1)) (.cons (.c (.int 2)) .nil))) .nil)))))) (.seq (.asg (.n 6) (.lst false (.cons (.bin .add (.v 3) (.tup (.cons (.tup (.cons (.call 55 (.cons (.tup (.cons (.c (.int 0)) (.cons (.c (.int 1)) .nil))) (.cons (.v 5) .nil))) (.cons (.tup (.cons (.c (.int 3)) (.cons (.c (.int 1)) .nil))) (.cons (.tup (.cons (.c (.int 0)) (.cons (.c (.int 1)) .nil))) .nil)))) .nil))) (.cons (.bin .add (.v 3) (.tup (.cons (.tup (.cons (.v 5) (.cons (.tup (.cons (.c (.int 1)) (.cons (.c (.int 1)) .nil))) (.cons (.tup (.cons (.c (.int 0)) (.cons (.c (.int 1)) .nil))) .nil)))) .nil))) (.cons (.bin .add (.v 3) (.tup (.cons (.tup (.cons (.v 5) (.cons (.tup (.cons (.c (.int 1)) (.cons (.c (.int 2)) .nil))) (.cons (.tup (.cons (.c (.int 2)) (.cons (.c (.int 1)) .nil))) .nil)))) (.cons (.tup (.cons (.v 5) (.cons (.tup (.cons (.c (.int 1)) (.cons (.c (.int 2)) .nil))) (.cons (.tup (.cons (.neg (.c (.int 2))) (.cons (.c (.int 1)) .nil))) .nil)))) .nil)))) .nil))))) (.seq (.ite (.cmp .ne (.v 3) (.tup .nil)) (.seq (.asg (.t (.cons (.n 7) (.cons (.n 8) (.cons (.n 9) .nil)))) (.ix (.v 3) (.c (.int 0)))) (.seq (.asg (.n 6) (.bin .add (.v 6) (.lst false (.cons (.bin .add (.bin .add (.tup (.cons (.tup (.cons (.v 7) (.cons (.v 8) (.cons (.call 49 (.cons (.v 9) (.cons (.tup (.cons (.c (.int 1)) (.cons (.c (.int 2)) .nil))) .nil))) .nil)))) .nil)) (.sl (.v 3) (.so (.c (.int 1))) .nil)) (.tup (.cons (.tup (.cons (.v 7) (.cons (.v 8) (.cons (.tup (.cons (.neg (.c (.int 1))) (.cons (.c (.int 2)) .nil))) .nil)))) .nil))) .nil)))) .done)) .done) (.seq (.ret (.tup (.cons (.v 2) (.cons (.call 44 (.cons (.v 0) (.cons (.v 6) .nil))) (.cons (.v 4) .nil))))) .done)))))
/-- _law_are_parted -/
def b__law_are_parted : C := (.seq (.asg (.n 3) (.call 40 (.cons (.v 1) (.cons (.v 2) .nil)))) (.seq (.ite (.or (.not (.tv (.isi (.v 3) .tuple))) (.or (.cmp .ne (.bi .len (.cons (.v 3) .nil)) (.c (.int 2))) (.or (.not (.tv (.call 46 (.cons (.ix (.v 3) (.c (.int 0))) (.cons (.c (.str "point")) .nil))))) (.not (.tv (.call 67 (.cons (.ix (.v 3) (.c (.int 1))) (.cons (.ix (.v 1) (.c (.int 0))) .nil)))))))) (.seq (.ret (.c (.bl false))) .done) .done) (.seq (.ite (.cmp .eq (.call 58 (.cons (.v 1) (.cons (.ix (.v 3) (.c (.int 1))) .nil))) (.call 58 (.cons (.v 2) (.cons (.ix (.v 3) (.c (.int 1))) .nil)))) (.seq (.ret (.c (.bl false))) .done) .done) (.seq (.asg (.n 4) (.call 62 (.cons (.v 0) (.cons (.ix (.v 1) (.c (.int 0))) (.cons (.c (.int 4)) (.cons (.lst false (.cons (.c (.int 1)) (.cons (.c (.int 2)) .nil))) .nil)))))) (.seq (.asg (.n 5) (.cmp .ne (.call 58 (.cons (.v 1) (.cons (.v 4) .nil))) (.call 58 (.cons (.v 2) (.cons (.v 4) .nil))))) (.seq (.asg (.n 6) (.tup (.cons (.call 41 (.cons (.v 1) (.cons (.v 2) (.cons (.v 3) .nil)))) (.cons (.callK 41 .nil (.cons (.tup (.cons (.c (.str "alike")) .nil)) (.cons (.v 2) (.cons (.v 1) .nil))) 0) (.cons (.call 41 (.cons (.v 1) (.cons (.v 2) (.cons (.tup (.cons (.c (.str "point")) (.cons (.v 4) .nil))) .nil)))) .nil))))) (.seq (.ret (.call 46 (.cons (.v 6) (.cons (.tup (.cons (.c (.bl true)) (.cons (.c (.bl false)) (.cons (.v 5) .nil)))) .nil)))) .done)))))))
/-- _law_is_right -/
def b__law_is_right : C := (.seq (.asg (.n 2) (.call 60 (.cons (.v 1) .nil))) (.seq (.asg (.n 4) (.bi .tuple (.cons (.lc false [9, 3] (.n 3) (.v 3) (.rng (.c (.int 0)) (.bi .len (.cons (.ix (.v 2) (.c (.int 0))) .nil))) (.cmp .eq (.call 43 (.cons (.v 0) (.cons (.c (.int 2)) .nil))) (.c (.int 0)))) .nil))) (.seq (.for (.n 5) (.rng (.c (.int 0)) (.c (.int 2))) (.seq (.asg (.n 6) (.call 68 (.cons (.v 0) (.cons (.v 1) .nil)))) (.seq (.ite (.or (.cmp .ne (.call 60 (.cons (.v 6) .nil)) (.v 2)) (.not (.tv (.call 46 (.cons (.tup (.cons (.call 24 (.cons (.v 6) .nil)) (.cons (.callK 24 .nil (.cons (.v 1) .nil) 1) .nil))) (.cons (.tup (.cons (.v 2) (.cons (.v 2) .nil))) .nil)))))) (.seq (.ret (.c (.bl false))) .done) .done) (.seq (.ite (.not (.tv (.call 46 (.cons (.tup (.cons (.call 27 (.cons (.v 6) .nil)) (.cons (.call 40 (.cons (.v 1) (.cons (.v 6) .nil))) (.cons (.callK 40 .nil (.cons (.v 1) (.cons (.v 6) .nil)) 2) (.cons (.call 41 (.cons (.v 1) (.cons (.v 6) (.cons (.tup (.cons (.c (.str "alike")) .nil)) .nil)))) .nil))))) (.cons (.tup (.cons (.c (.bl true)) (.cons (.tup (.cons (.c (.str "alike")) .nil)) (.cons (.tup (.cons (.c (.str "alike")) .nil)) (.cons (.c (.bl true)) .nil))))) .nil))))) (.seq (.ret (.c (.bl false))) .done) .done) (.seq (.ite (.not (.tv (.call 46 (.cons (.tup (.cons (.call 26 (.cons (.v 6) .nil)) (.cons (.call 28 (.cons (.v 6) (.cons (.v 4) .nil))) .nil))) (.cons (.tup (.cons (.callK 26 .nil (.cons (.v 1) .nil) 3) (.cons (.callK 28 .nil (.cons (.v 4) (.cons (.v 1) .nil)) 4) .nil))) .nil))))) (.seq (.ret (.c (.bl false))) .done) .done) (.seq (.ite (.not (.tv (.call 46 (.cons (.tup (.cons (.call 40 (.cons (.call 28 (.cons (.v 6) (.cons (.v 4) .nil))) (.cons (.v 1) .nil))) (.cons (.callK 40 .nil (.cons (.v 1) (.cons (.call 26 (.cons (.v 6) .nil)) .nil)) 5) .nil))) (.cons (.tup (.cons (.tup (.cons (.c (.str "alike")) .nil)) (.cons (.tup (.cons (.c (.str "alike")) .nil)) .nil))) .nil))))) (.seq (.ret (.c (.bl false))) .done) .done) (.seq (.asg (.n 7) (.call 69 (.cons (.v 0) (.cons (.v 6) .nil)))) (.seq (.ite (.not (.tv (.call 46 (.cons (.tup (.cons (.callK 27 .nil (.cons (.v 7) .nil) 6) (.cons (.call 40 (.cons (.v 7) (.cons (.v 1) .nil))) .nil))) (.cons (.tup (.cons (.c (.bl false)) (.cons (.tup (.cons (.c (.str "alike")) .nil)) .nil))) .nil))))) (.seq (.ret (.c (.bl false))) .done) .done) (.seq (.for (.n 3) (.rng (.c (.int 0)) (.bi .len (.cons (.ix (.v 6) (.c (.int 1))) .nil))) (.seq (.asg (.n 8) (.tup (.cons (.ix (.v 1) (.c (.int 0))) (.cons (.bin .add (.sl (.ix (.v 6) (.c (.int 1))) .nil (.so (.v 3))) (.sl (.ix (.v 6) (.c (.int 1))) (.so (.bin .add (.v 3) (.c (.int 1)))) .nil)) (.cons (.call 44 (.cons (.v 0) (.cons (.lst false (.cons (.ix (.v 6) (.c (.int 2))) (.cons (.ix (.v 2) (.c (.int 1))) (.cons (.tup (.cons (.call 62 (.cons (.v 0) (.cons (.ix (.v 1) (.c (.int 0))) (.cons (.c (.int 3)) (.cons (.lst false (.cons (.c (.int 1)) (.cons (.c (.int 2)) .nil))) .nil))))) (.cons (.tup (.cons (.c (.int 0)) (.cons (.c (.int 1)) .nil))) .nil))) .nil)))) .nil))) .nil))))) (.seq (.ite (.or (.not (.tv (.call 70 (.cons (.v 0) (.cons (.v 1) (.cons (.v 8) .nil)))))) (.not (.tv (.call 46 (.cons (.call 27 (.cons (.v 8) .nil)) (.cons (.c (.bl true)) .nil)))))) (.seq (.ret (.c (.bl false))) .done) .done) .done))) .done))))))))) (.seq (.ret (.c (.bl true))) .done))))
/-- law -/
def b_law : C := (.seq (.asg (.n 1) (.call 42 (.cons (.v 0) .nil))) (.seq (.for (.n 2) (.rng (.c (.int 0)) (.c (.int 2))) (.seq (.ite (.not (.tv (.call 71 (.cons (.v 1) (.cons (.call 64 (.cons (.v 1) (.cons (.c (.int 5)) .nil))) .nil))))) (.seq (.ret (.c (.bl false))) .done) .done) .done)) (.seq (.ret (.c (.bl true))) .done)))
def fs : List FnD := [⟨1, 1, b_is_whole⟩, ⟨2, 2, b_is_tuple⟩, ⟨3, 3, b_is_headed⟩, ⟨2, 2, b_divisor⟩, ⟨1, 3, b_divisor_of⟩, ⟨2, 2, b_multiple⟩, ⟨2, 3, b_lowest⟩, ⟨1, 1, b_is_fraction⟩, ⟨2, 5, b_is_row⟩, ⟨2, 2, b_plus⟩, ⟨2, 2, b_product⟩, ⟨1, 1, b_negative⟩, ⟨1, 1, b_size_of⟩, ⟨1, 1, b_cut_off⟩, ⟨2, 5, b_dot⟩, ⟨2, 6, b_added_rows⟩, ⟨2, 5, b_scaled_row⟩, ⟨1, 1, b_zeros⟩, ⟨2, 5, b_unit_row⟩, ⟨1, 4, b_is_nothing⟩, ⟨1, 4, b_whole_row⟩, ⟨1, 4, b_common_below⟩, ⟨2, 10, b_plane_of⟩, ⟨2, 2, b_height⟩, ⟨1, 15, b_normal⟩, ⟨3, 8, b_net_of⟩, ⟨1, 3, b_least⟩, ⟨1, 1, b_is_least⟩, ⟨2, 12, b_turned⟩, ⟨2, 2, b_straight_at⟩, ⟨2, 9, b_answer⟩, ⟨2, 10, b_minus_net⟩, ⟨1, 8, b_point_on⟩, ⟨1, 8, b_ways_along⟩, ⟨2, 4, b_power_of⟩, ⟨2, 11, b_free_point⟩, ⟨3, 9, b_near_step⟩, ⟨2, 2, b_least_of⟩, ⟨2, 4, b_around⟩, ⟨1, 12, b_showing_point⟩, ⟨2, 3, b_alike⟩, ⟨3, 5, b_judge_alike⟩, ⟨1, 5, b__law_bag⟩, ⟨2, 5, b__law_draw⟩, ⟨2, 2, b__law_pick⟩, ⟨3, 6, b__law_some⟩, ⟨2, 3, b__law_same⟩, ⟨2, 3, b__law_gcd⟩, ⟨2, 3, b__law_fr⟩, ⟨2, 2, b__law_plus⟩, ⟨2, 2, b__law_times⟩, ⟨2, 2, b__law_over⟩, ⟨1, 1, b__law_back⟩, ⟨2, 4, b__law_dot⟩, ⟨2, 4, b__law_rowsum⟩, ⟨2, 4, b__law_taken⟩, ⟨1, 3, b__law_whole⟩, ⟨1, 3, b__law_is_zero⟩, ⟨2, 7, b__law_worth⟩, ⟨2, 9, b__law_plane⟩, ⟨1, 11, b__law_pair⟩, ⟨3, 3, b__law_draw_fr⟩, ⟨4, 6, b__law_draw_row⟩, ⟨5, 12, b__law_net⟩, ⟨2, 5, b__law_some_net⟩, ⟨1, 1, b__law_is_int⟩, ⟨1, 1, b__law_is_fraction⟩, ⟨2, 4, b__law_is_row⟩, ⟨2, 13, b__law_other⟩, ⟨2, 10, b__law_with_more⟩, ⟨3, 7, b__law_are_parted⟩, ⟨2, 10, b__law_is_right⟩, ⟨1, 3, b_law⟩]
def kps : List (Nat × Nat × List Nat) := [(0, 3, [2, 1, 0]), (0, 1, [0]), (0, 2, [1, 0]), (0, 1, [0]), (0, 2, [1, 0]), (0, 2, [0, 1]), (0, 1, [0])]
abbrev f_is_whole : Nat := 0
abbrev f_is_tuple : Nat := 1
abbrev f_is_headed : Nat := 2
abbrev f_divisor : Nat := 3
abbrev f_divisor_of : Nat := 4
abbrev f_multiple : Nat := 5
abbrev f_lowest : Nat := 6
abbrev f_is_fraction : Nat := 7
abbrev f_is_row : Nat := 8
abbrev f_plus : Nat := 9
abbrev f_product : Nat := 10
abbrev f_negative : Nat := 11
abbrev f_size_of : Nat := 12
abbrev f_cut_off : Nat := 13
abbrev f_dot : Nat := 14
abbrev f_added_rows : Nat := 15
abbrev f_scaled_row : Nat := 16
abbrev f_zeros : Nat := 17
abbrev f_unit_row : Nat := 18
abbrev f_is_nothing : Nat := 19
abbrev f_whole_row : Nat := 20
abbrev f_common_below : Nat := 21
abbrev f_plane_of : Nat := 22
abbrev f_height : Nat := 23
abbrev f_normal : Nat := 24
abbrev f_net_of : Nat := 25
abbrev f_least : Nat := 26
abbrev f_is_least : Nat := 27
abbrev f_turned : Nat := 28
abbrev f_straight_at : Nat := 29
abbrev f_answer : Nat := 30
abbrev f_minus_net : Nat := 31
abbrev f_point_on : Nat := 32
abbrev f_ways_along : Nat := 33
abbrev f_power_of : Nat := 34
abbrev f_free_point : Nat := 35
abbrev f_near_step : Nat := 36
abbrev f_least_of : Nat := 37
abbrev f_around : Nat := 38
abbrev f_showing_point : Nat := 39
abbrev f_alike : Nat := 40
abbrev f_judge_alike : Nat := 41
abbrev f__law_bag : Nat := 42
abbrev f__law_draw : Nat := 43
abbrev f__law_pick : Nat := 44
abbrev f__law_some : Nat := 45
abbrev f__law_same : Nat := 46
abbrev f__law_gcd : Nat := 47
abbrev f__law_fr : Nat := 48
abbrev f__law_plus : Nat := 49
abbrev f__law_times : Nat := 50
abbrev f__law_over : Nat := 51
abbrev f__law_back : Nat := 52
abbrev f__law_dot : Nat := 53
abbrev f__law_rowsum : Nat := 54
abbrev f__law_taken : Nat := 55
abbrev f__law_whole : Nat := 56
abbrev f__law_is_zero : Nat := 57
abbrev f__law_worth : Nat := 58
abbrev f__law_plane : Nat := 59
abbrev f__law_pair : Nat := 60
abbrev f__law_draw_fr : Nat := 61
abbrev f__law_draw_row : Nat := 62
abbrev f__law_net : Nat := 63
abbrev f__law_some_net : Nat := 64
abbrev f__law_is_int : Nat := 65
abbrev f__law_is_fraction : Nat := 66
abbrev f__law_is_row : Nat := 67
abbrev f__law_other : Nat := 68
abbrev f__law_with_more : Nat := 69
abbrev f__law_are_parted : Nat := 70
abbrev f__law_is_right : Nat := 71
abbrev f_law : Nat := 72
def X : Mod' := ⟨[.tup [.int 0, .int 1], .tup [.int 1, .int 1]], kps⟩
theorem Xc : X.consts = [.tup [.int 0, .int 1], .tup [.int 1, .int 1]] := rfl
abbrev Cl (k f : Nat) (ds : List D) (S : Sto) (Q : D → Sto → Prop) : Prop := callD X fs k f ds S Q
section
variable {k : Nat} {x y : Rat} {S : Sto} {Q : D → Sto → Prop}
theorem divisor_ok {a b : Int} (h : Q (.int (Int.gcd a b : Nat)) S) : Cl (k + 1) f_divisor [.int a, .int b] S Q := by
  refine ⟨_, rfl, rfl, ?_⟩
  wp_walk using RUN, b_divisor
  refine loopW_ind (fun m ρ S' => S' = S ∧ ∃ c d : Int, 0 ≤ c ∧ 0 ≤ d ∧ d.toNat ≤ m ∧ Int.gcd c d = Int.gcd a b ∧ ρ = [some (.int c), some (.int d)]) b.natAbs ⟨rfl, a.natAbs, b.natAbs, by omega, by omega, by omega, by simp [Int.gcd], rfl⟩ ?_
  rintro m next ih ρ S' ⟨rfl, c, d, hc, hd, hm, hg, rfl⟩
  wp_walk using RUN
  split
  · rename_i q
    have b := fmod_bounds (a := c) (show 0 < d by omega)
    exact ⟨q, ih (m - 1) _ _ (by omega) ⟨rfl, d, c.fmod d, hd, b.1, by omega, by rw [gcd_step hc hd, hg], rfl⟩⟩
  · rename_i q
    have q' : d = 0 := by omega
    subst q'
    rw [Int.gcd_zero_right] at hg
    rw [← hg, Int.natAbs_of_nonneg hc] at h
    exact .same h
theorem lowest_ok {a b : Int} (hb : b ≠ 0) (h : Q (fr (Rat.divInt a b)) S) : Cl (k + 2) f_lowest [.int a, .int b] S Q := by
  refine ⟨_, rfl, rfl, ?_⟩
  have g : (Int.gcd a b : Int) ≠ 0 := by
    have : Int.gcd a b ≠ 0 := fun e => hb (Int.gcd_eq_zero_iff.mp e).2
    omega
  wp_walk using RUN, b_lowest
  refine divisor_ok ?_
  rw [fr_low a b hb] at h
  wp_walk using RUN
  split
  · rename_i q
    rw [if_pos q] at h
    exact ⟨by omega, by omega, .same h⟩
  · rename_i q
    rw [if_neg q] at h
    exact ⟨by omega, by omega, .same h⟩
theorem plus_ok {B C : Nat} (h1 : FB B x) (h2 : FB C y) (l : B + C < 1000000) (h : Q (fr (x + y)) S) : Cl (k + 3) f_plus [fr x, fr y] S Q := by
  refine ⟨_, rfl, rfl, ?_⟩
  wp_walk using RUN, b_plus
  split
  · rename_i q
    rw [Rat.num_eq_zero.mp q, Rat.zero_add] at h
    exact .same h
  · split
    · rename_i q
      rw [Rat.num_eq_zero.mp q, Rat.add_zero] at h
      exact .same h
    · refine ⟨h1.md h2 l, h2.md h1 (by omega), h1.dd h2 l, lowest_ok (dens_ne x y) ?_⟩
      rw [← add_eq]
      exact .same h
theorem product_ok {B C : Nat} (h1 : FB B x) (h2 : FB C y) (l : B + C < 1000000) (h : Q (fr (x * y)) S) : Cl (k + 3) f_product [fr x, fr y] S Q := by
  refine ⟨_, rfl, rfl, ?_⟩
  wp_walk using RUN, b_product
  refine ⟨h1.mn h2 l, h1.dd h2 l, lowest_ok (dens_ne x y) ?_⟩
  rw [← mul_eq]
  exact .same h
end


section
variable {k : Nat} {x y : Rat} {S : Sto} {Q : D → Sto → Prop}
theorem lgcd_ok {a b : Int} {B : Nat} (h1 : a.natAbs < 2 ^ B) (h2 : b.natAbs < 2 ^ B) (l : B < 4997) (h : Q (.int (Int.gcd a b : Nat)) S) : Cl (k + 1) f__law_gcd [.int a, .int b] S Q := by
  refine ⟨_, rfl, rfl, ?_⟩
  wp_walk using RUN, b__law_gcd
  refine ⟨by unfold RngOk; omega, ?_⟩
  refine loopF_ind (fun xs ρ S' => S' = S ∧ ∃ (c d : Int) (n : Nat) (t : Option D), 0 ≤ c ∧ 0 ≤ d ∧ Int.gcd c d = Int.gcd a b ∧ c * d < 2 ^ n ∧ (if d ≤ c then n < xs.length else n + 1 < xs.length) ∧ ρ = [some (.int c), some (.int d), t])
    ?_ ?_ ?_
  · refine ⟨rfl, a.natAbs, b.natAbs, B + B, none, by omega, by omega, by simp [Int.gcd], ?_, ?_, rfl⟩
    rotate_left
    · have e : (rangeD 0 9999).length = 9999 := rangeD_len
      rw [e]
      split <;> omega
    have := lt_pow_mul h1 h2
    rw [← Int.natCast_mul]
    have e : ((2 : Int) ^ (B + B)) = ((2 ^ (B + B) : Nat) : Int) := by simp
    rw [e]
    omega
  · rintro ρ S' ⟨rfl, c, d, n, t, _, _, _, _, e, _⟩
    split at e <;> simp at e
  · rintro x xs next ih ρ S' ⟨rfl, c, d, n, t, hc, hd, hg, hp, hl, rfl⟩
    wp_walk using RUN
    rw [List.length_cons] at hl
    split
    · rename_i q
      subst q
      rw [Int.gcd_zero_right] at hg
      rw [← hg, Int.natAbs_of_nonneg hc] at h
      exact .same h
    · rename_i q
      refine ⟨q, ih _ _ ?_⟩
      have b := fmod_bounds (a := c) (show 0 < d by omega)
      split at hl
      · rename_i hdc
        cases n with
        | zero =>
          have : 1 * 1 ≤ c * d := Int.mul_le_mul (by omega) (by omega) (by omega) (by omega)
          simp at hp
          omega
        | succ n => exact ⟨rfl, d, c.fmod d, n, _, hd, b.1, by rw [gcd_step hc hd, hg], euclid_half (by omega) hdc hp, by rw [if_pos (by omega)]; omega, rfl⟩
      · rename_i hdc
        have e : c.fmod d = c := by rw [Int.fmod_eq_emod_of_nonneg _ hd]; exact Int.emod_eq_of_lt hc (by omega)
        exact ⟨rfl, d, c.fmod d, n, _, hd, b.1, by rw [gcd_step hc hd, hg], by rw [e, Int.mul_comm]; exact hp, by rw [if_pos (by omega)]; omega, rfl⟩
theorem lfr_ok {a b : Int} {B : Nat} (h1 : a.natAbs < 2 ^ B) (h2 : b.natAbs < 2 ^ B) (l : B < 4997) (hb : b ≠ 0) (h : Q (fr (Rat.divInt a b)) S) : Cl (k + 2) f__law_fr [.int a, .int b] S Q := by
  refine ⟨_, rfl, rfl, ?_⟩
  have g : (Int.gcd a b : Int) ≠ 0 := by
    have : Int.gcd a b ≠ 0 := fun e => by have := (Int.gcd_eq_zero_iff.mp e).2; omega
    omega
  wp_walk using RUN, b__law_fr
  rw [fr_low a b hb] at h
  refine ite3 (fun q => ?_) (fun q => ?_)
  · refine lgcd_ok h1 h2 l ?_
    try wp_walk using RUN
    rw [if_neg (by omega)] at h
    exact ⟨g, g, .same h⟩
  · refine lgcd_ok h1 h2 l ?_
    try wp_walk using RUN
    rw [if_pos (by omega)] at h
    rw [Int.zero_sub]
    exact ⟨by omega, by omega, .same h⟩
theorem lplus_ok {B C : Nat} (h1 : FB B x) (h2 : FB C y) (l : B + C < 4987) (h : Q (fr (x + y)) S) : Cl (k + 3) f__law_plus [fr x, fr y] S Q := by
  refine ⟨_, rfl, rfl, ?_⟩
  wp_walk using RUN, b__law_plus
  refine ⟨h1.md h2 (by omega), h2.md h1 (by omega), h1.dd h2 (by omega), lfr_ok (h1.add_num h2) (pow2_mono (h1.dens h2) (by omega)) (by omega) (dens_ne x y) ?_⟩
  rw [← add_eq]
  exact .same h
theorem ltimes_ok {B C : Nat} (h1 : FB B x) (h2 : FB C y) (l : B + C < 4987) (h : Q (fr (x * y)) S) : Cl (k + 3) f__law_times [fr x, fr y] S Q := by
  refine ⟨_, rfl, rfl, ?_⟩
  wp_walk using RUN, b__law_times
  refine ⟨h1.mn h2 (by omega), h1.dd h2 (by omega), lfr_ok (h1.nums h2) (h1.dens h2) (by omega) (dens_ne x y) ?_⟩
  rw [← mul_eq]
  exact .same h
end


section
variable {k : Nat} {x y : Rat} {S : Sto} {Q : D → Sto → Prop}
abbrev row (r : List Rat) : D := .tup (r.map fr)
def dotR : List Rat → List Rat → Rat
  | a :: r, b :: s => a * b + dotR r s
  | _, _ => 0
theorem FB0 : FB 1 0 := ⟨by decide, by decide⟩
theorem tup01 : D.tup [.int 0, .int 1] = fr 0 := rfl
theorem dotR_nil {r s : List Rat} (h : r = [] ∨ s = []) : dotR r s = 0 := by
  rcases h with h | h
  · subst h; unfold dotR; rfl
  · subst h; cases r <;> rfl
end


section
variable {k : Nat} {x y : Rat} {S : Sto} {Q : D → Sto → Prop}
theorem dot_ok {r s : List Rat} {B C : Nat} (h1 : ∀ a ∈ r, FB B a) (h2 : ∀ a ∈ s, FB C a) (l : (B + C + 1) * (r.length + 1) < 300000) (h : Q (fr (dotR r s)) S) : Cl (k + 4) f_dot [row r, row s] S Q := by
  refine ⟨_, rfl, rfl, ?_⟩
  wp_walk using RUN, b_dot, Xc
  rw [tup01]
  refine loopF_ind (fun xs ρ S' => S' = S ∧ ∃ (r' s' : List Rat) (t : Rat) (m : Nat) (u v : Option D), xs = List.zipWith (fun x y => D.tup [x, y]) (r'.map fr) (s'.map fr) ∧ (∀ a ∈ r', FB B a) ∧ (∀ a ∈ s', FB C a) ∧ t + dotR r' s' = dotR r s ∧ FB m t ∧ m + (B + C + 1) * r'.length < 300000 ∧
    ρ = [some (row r), some (row s), some (fr t), u, v]) ?_ ?_ ?_
  · refine ⟨rfl, r, s, 0, 1, none, none, rfl, h1, h2, Rat.zero_add _, FB0, ?_, rfl⟩
    rw [Nat.mul_add, Nat.mul_one] at l
    omega
  · rintro ρ S' ⟨rfl, r', s', t, m, u, v, e, _, _, e2, _, _, rfl⟩
    have e3 : dotR r' s' = 0 := by
      cases r' with
      | nil => exact dotR_nil (.inl rfl)
      | cons a r' =>
        cases s' with
        | nil => exact dotR_nil (.inr rfl)
        | cons b s' => cases e
    rw [e3, Rat.add_zero] at e2
    subst e2
    try wp_walk using RUN
    exact .same h
  · rintro x xs next ih ρ S' ⟨rfl, r', s', t, m, u, v, e, g1, g2, e2, ft, hl, rfl⟩
    cases r' with
    | nil => cases e
    | cons a r' =>
      cases s' with
      | nil => cases e
      | cons b s' =>
        cases e
        have fa := g1 a List.mem_cons_self
        have fb := g2 b List.mem_cons_self
        have g1' : ∀ a ∈ r', FB B a := fun a h => g1 a (List.mem_cons_of_mem _ h)
        have g2' : ∀ a ∈ s', FB C a := fun a h => g2 a (List.mem_cons_of_mem _ h)
        rw [List.length_cons, Nat.mul_add, Nat.mul_one] at hl
        have e2' : t + (a * b + dotR r' s') = dotR r s := e2
        have z : a * b = 0 → next [some (row r), some (row s), some (fr t), some (fr a), some (fr b)] S' := fun z => by
          rw [z, Rat.zero_add] at e2'
          exact ih _ _ ⟨rfl, r', s', t, m, _, _, rfl, g1', g2', e2', ft, by omega, rfl⟩
        try wp_walk using RUN
        split
        · split
          · refine product_ok fa fb (by omega) ?_
            try wp_walk using RUN
            refine plus_ok ft (fa.mul fb) (by omega) ?_
            try wp_walk using RUN
            exact ih _ _ ⟨rfl, r', s', t + a * b, m + (B + C) + 1, _, _, rfl, g1', g2', by rw [Rat.add_assoc]; exact e2', ft.add (fa.mul fb), by omega, rfl⟩
          · rename_i q
            have q' : b.num = 0 := by omega
            exact z (by rw [Rat.num_eq_zero.mp q', Rat.mul_zero])
        · rename_i q
          have q' : a.num = 0 := by omega
          exact z (by rw [Rat.num_eq_zero.mp q', Rat.zero_mul])
end


theorem FB_dot {B C : Nat} {r s : List Rat} (h1 : ∀ a ∈ r, FB B a) (h2 : ∀ a ∈ s, FB C a) : FB ((B + C + 1) * r.length + 1) (dotR r s) := by
  induction r generalizing s with
  | nil => rw [dotR_nil (.inl rfl)]; exact FB0.mono (by omega)
  | cons a r ih =>
    cases s with
    | nil => rw [dotR_nil (.inr rfl)]; exact FB0.mono (by omega)
    | cons b s =>
      have := ((h1 a List.mem_cons_self).mul (h2 b List.mem_cons_self)).add (ih (fun a h => h1 a (List.mem_cons_of_mem _ h)) (fun a h => h2 a (List.mem_cons_of_mem _ h)))
      show FB _ (a * b + dotR r s)
      refine this.mono ?_
      rw [List.length_cons, Nat.mul_add]; omega
theorem dotR_mul {t : Rat} {r s : List Rat} : dotR (r.map (t * ·)) s = t * dotR r s := by
  induction r generalizing s with
  | nil => rw [List.map_nil, dotR_nil (.inl rfl), Rat.mul_zero]
  | cons a r ih =>
    cases s with
    | nil => rw [dotR_nil (.inr rfl), dotR_nil (.inr rfl), Rat.mul_zero]
    | cons b s =>
      show t * a * b + dotR (r.map (t * ·)) s = t * (a * b + dotR r s)
      rw [ih]; grind
theorem rangeD_nil {a b : Int} (h : b ≤ a) : rangeD a b = [] := by
  unfold rangeD
  rw [show (b - a).toNat = 0 by omega]; rfl
theorem rangeD_cons {a b : Int} (h : a < b) : rangeD a b = .int a :: rangeD (a + 1) b := by
  unfold rangeD
  rw [show (b - a).toNat = (b - (a + 1)).toNat + 1 by omega, List.range_succ_eq_map]
  simp only [List.map_cons, List.map_map]
  congr 1
  · simp
  · refine List.map_congr_left fun i _ => ?_
    simp only [Function.comp_apply]
    congr 1
    omega
section
variable {k : Nat} {x : List Rat} {S : Sto} {Q : D → Sto → Prop}
theorem ldot_ok {r : List Rat} {B C : Nat} (h1 : ∀ a ∈ r, FB B a) (h2 : ∀ a ∈ x, FB C a) (l : (B + C + 1) * (r.length + 1) < 4977) (l2 : r.length ≤ 1000) (hl : r.length ≤ x.length) (h : Q (fr (dotR r x)) S) : Cl (k + 4) f__law_dot [row r, row x] S Q := by
  refine ⟨_, rfl, rfl, ?_⟩
  wp_walk using RUN, b__law_dot, List.length_map
  refine ⟨by unfold RngOk; omega, ?_⟩
  rw [tup01]
  rw [Nat.mul_add, Nat.mul_one] at l
  refine loopF_ind (fun xs ρ S' => S' = S ∧ ∃ (i : Nat) (t : Rat) (u : Option D), xs = rangeD i r.length ∧ i ≤ r.length ∧ t + dotR (r.drop i) (x.drop i) = dotR r x ∧ FB (1 + (B + C + 1) * i) t ∧ ρ = [some (row r), some (row x), some (fr t), u]) ?_ ?_ ?_
  · exact ⟨rfl, 0, 0, none, rfl, by omega, Rat.zero_add _, FB0, rfl⟩
  · rintro ρ S' ⟨rfl, i, t, u, e, hi, e2, _, rfl⟩
    have : ¬ (i : Int) < (r.length : Int) := fun q => by rw [rangeD_cons q] at e; cases e
    have : i = r.length := by omega
    subst this
    rw [dotR_nil (.inl (by simp)), Rat.add_zero] at e2
    subst e2
    try wp_walk using RUN
    exact .same h
  · rintro y xs next ih ρ S' ⟨rfl, i, t, u, e, hi, e2, ft, rfl⟩
    by_cases q : (i : Int) < (r.length : Int)
    · rw [rangeD_cons q] at e
      cases e
      have hi' : i < r.length := by omega
      have hx : i < x.length := by omega
      have fa := h1 _ (List.getElem_mem hi')
      have fb := h2 _ (List.getElem_mem hx)
      have hm : (B + C + 1) * i ≤ (B + C + 1) * r.length := Nat.mul_le_mul_left _ hi
      have ea : ∀ k : D → Prop, dIx S' (row r) (.int (i : Int)) k = k (fr r[i]) := fun k => ixT (by omega) (by simp [hi'])
      have eb : ∀ k : D → Prop, dIx S' (row x) (.int (i : Int)) k = k (fr x[i]) := fun k => ixT (by omega) (by simp [hx])
      wp_walk using RUN, ea, eb
      refine ltimes_ok fa fb (by omega) ?_
      try wp_walk using RUN
      refine lplus_ok ft (fa.mul fb) (by omega) ?_
      try wp_walk using RUN
      refine ih _ _ ⟨rfl, i + 1, _, _, by rw [Int.natCast_add]; rfl, hi', ?_, (ft.add (fa.mul fb)).mono (by rw [Nat.mul_add]; omega), rfl⟩
      rw [← e2, List.drop_eq_getElem_cons hi', List.drop_eq_getElem_cons hx, Rat.add_assoc]
      rfl
    · rw [rangeD_nil (by omega)] at e
      cases e
end

section
variable {k : Nat} {x : List Rat} {S : Sto} {Q : D → Sto → Prop}
theorem taken_ok {t : Rat} {r : List Rat} {B C : Nat} (h1 : FB C t) (h2 : ∀ a ∈ r, FB B a) (hB : C + B < 4987) (hl : r.length ≤ 1000) (h : Q (row (r.map fun a => t * a)) S) : Cl (k + 4) f__law_taken [fr t, row r] S Q := by
  refine ⟨_, rfl, rfl, ?_⟩
  wp_walk using RUN, b__law_taken
  refine loopC_ind (fun xs acc S' => S' = S ∧ ∃ (r1 r2 : List Rat), xs = r2.map fr ∧ r = r1 ++ r2 ∧ acc = (r1.map fun a => t * a).map fr) ?_ ?_ ?_
  · exact ⟨rfl, [], r, rfl, rfl, rfl⟩
  · rintro acc S' ⟨rfl, r1, r2, e, e2, rfl⟩
    cases r2 with
    | cons a r => cases e
    | nil =>
      rw [List.append_nil] at e2
      subst e2
      try wp_walk using RUN
      exact .same h
  · rintro y xs next ih acc S' ⟨rfl, r1, r2, e, e2, rfl⟩
    cases r2 with
    | nil => cases e
    | cons a r2 =>
      cases e
      wp_walk using RUN, List.length_map
      refine ⟨?_, ?_⟩
      · have := congrArg List.length e2
        simp at this
        show _ < 16777216
        omega
      · refine ltimes_ok h1 (h2 a (by rw [e2]; simp)) (by omega) ?_
        try wp_walk using RUN
        exact ih _ _ ⟨rfl, r1 ++ [a], r2, rfl, by rw [e2]; simp, by simp⟩
end


section
variable {k : Nat} {x y : Rat} {S : Sto} {Q : D → Sto → Prop}
theorem scaled_ok {t : Rat} {r : List Rat} {B C : Nat} (h1 : FB C t) (h2 : ∀ a ∈ r, FB B a) (hB : C + B < 1000000) (hl : r.length ≤ 1000) (h : Q (row (r.map fun a => t * a)) S) : Cl (k + 4) f_scaled_row [fr t, row r] S Q := by
  refine ⟨_, rfl, rfl, ?_⟩
  wp_walk using RUN, b_scaled_row
  refine loopC_ind (fun xs acc S' => S' = S ∧ ∃ (r1 r2 : List Rat), xs = r2.map fr ∧ r = r1 ++ r2 ∧ acc = (r1.map fun a => t * a).map fr) ?_ ?_ ?_
  · exact ⟨rfl, [], r, rfl, rfl, rfl⟩
  · rintro acc S' ⟨rfl, r1, r2, e, e2, rfl⟩
    cases r2 with
    | cons a r => cases e
    | nil =>
      rw [List.append_nil] at e2
      subst e2
      try wp_walk using RUN
      exact .same h
  · rintro y xs next ih acc S' ⟨rfl, r1, r2, e, e2, rfl⟩
    cases r2 with
    | nil => cases e
    | cons a r2 =>
      cases e
      wp_walk using RUN, List.length_map
      refine ⟨?_, ?_⟩
      · have := congrArg List.length e2
        simp at this
        show _ < 16777216
        omega
      · refine product_ok h1 (h2 a (by rw [e2]; simp)) (by omega) ?_
        try wp_walk using RUN
        exact ih _ _ ⟨rfl, r1 ++ [a], r2, rfl, by rw [e2]; simp, by simp⟩
end


def St (p g : Addr) (S : Sto) : Prop := p ≠ g ∧ ∃ (b0 b1 : Int) (great cells : List Int), S p = some [.int b0, .int b1, .ref g, .lst (cells.map .int)] ∧ S g = some (great.map .int) ∧ cells ≠ []
def Upd (p g : Addr) (S S' : Sto) : Prop := ∀ q, q ≠ p → q ≠ g → S' q = S q
theorem Upd.refl {p g : Addr} {S : Sto} : Upd p g S S := fun _ _ _ => rfl
theorem Upd.trans {p g : Addr} {S S1 S2 : Sto} (a : Upd p g S S1) (b : Upd p g S1 S2) : Upd p g S S2 := fun q h h2 => (b q h h2).trans (a q h h2)
theorem Upd.putp {p g : Addr} {S S1 : Sto} {xs : List D} (a : Upd p g S S1) : Upd p g S (S1.put p xs) := fun q h h2 => (Sto.put_ne h).trans (a q h h2)
theorem Upd.putg {p g : Addr} {S S1 : Sto} {xs : List D} (a : Upd p g S S1) : Upd p g S (S1.put g xs) := fun q h h2 => (Sto.put_ne h2).trans (a q h h2)
/-- one more list is changed, too -/
def UpdA (p g a : Addr) (S S' : Sto) : Prop := ∀ q, q ≠ p → q ≠ g → q ≠ a → S' q = S q
theorem UpdA.upd {p g a : Addr} {S S1 S2 : Sto} (x : UpdA p g a S S1) (y : Upd p g S1 S2) : UpdA p g a S S2 := fun q h1 h2 h3 => (y q h1 h2).trans (x q h1 h2 h3)
theorem UpdA.put {p g a : Addr} {S S1 : Sto} {xs : List D} (x : UpdA p g a S S1) : UpdA p g a S (S1.put a xs) := fun q h1 h2 h3 => by rw [Sto.put_ne h3]; exact x q h1 h2 h3
theorem UpdA.del {p g a : Addr} {S S1 : Sto} (x : UpdA p g a S S1) (h : S a = none) : Upd p g S (S1.del a) := fun q h1 h2 => by
  by_cases e : q = a
  · subst e; rw [Sto.del_same, h]
  · unfold Sto.del; rw [if_neg e]; exact x q h1 h2 e
theorem St.ne {p g a : Addr} {S : Sto} (x : St p g S) (h : S a = none) : a ≠ p ∧ a ≠ g := by
  obtain ⟨_, b0, b1, great, cells, e, e2, _⟩ := x
  exact ⟨fun z => (by rw [z, e] at h; cases h), fun z => (by rw [z, e2] at h; cases h)⟩
theorem St.of {p g : Addr} {S S' : Sto} (x : St p g S) (h1 : S' p = S p) (h2 : S' g = S g) : St p g S' := by
  obtain ⟨n, b0, b1, great, cells, e, e2, e3⟩ := x
  exact ⟨n, b0, b1, great, cells, h1.trans e, h2.trans e2, e3⟩
theorem St.put {p g a : Addr} {S : Sto} {xs : List D} (x : St p g S) (h : a ≠ p ∧ a ≠ g) : St p g (S.put a xs) := x.of (Sto.put_ne fun z => h.1 z.symm) (Sto.put_ne fun z => h.2 z.symm)
theorem St.del {p g a : Addr} {S : Sto} (x : St p g S) (h : a ≠ p ∧ a ≠ g) : St p g (S.del a) := x.of (by unfold Sto.del; rw [if_neg fun z => h.1 z.symm]) (by unfold Sto.del; rw [if_neg fun z => h.2 z.symm])
section
variable {k : Nat} {S : Sto} {Q : D → Sto → Prop}
theorem draw_ok {p g : Addr} {lim : Int} (hS : St p g S) (hl : 0 < lim) (h : ∀ v S', 0 ≤ v → v < lim → St p g S' → Upd p g S S' → Q (.int v) S') : Cl (k + 1) f__law_draw [.ref p, .int lim] S Q := by
  obtain ⟨hpg, b0, b1, great, cells, e, eg, hc⟩ := hS
  have hgp : g ≠ p := fun z => hpg z.symm
  refine ⟨_, rfl, rfl, ?_⟩
  have nl : lim ≠ 0 := by omega
  have fin : ∀ (v b0 b1 : Int) (great : List Int) (S' : Sto), S' p = some [.int b0, .int b1, .ref g, .lst (cells.map .int)] → S' g = some (great.map .int) → Upd p g S S' → Give Q (.int (v.fmod lim)) S' := fun v b0 b1 great S' h1 h2 h3 =>
    .same (h _ _ (fmod_bounds hl).1 (fmod_bounds hl).2 ⟨hpg, _, _, _, _, h1, h2, hc⟩ h3)
  have hcl : (cells.length : Int) ≠ 0 := by have := List.length_pos_iff.mpr hc; omega
  have pn : ∀ (S : Sto) (xs : List D), (S.put p xs) g = S g := fun _ _ => Sto.put_ne hgp
  have gn : ∀ (S : Sto) (xs : List D), (S.put g xs) p = S p := fun _ _ => Sto.put_ne hpg
  have pick : ∀ (b1 : Int), ∃ c : Int, ∀ (S : Sto) (k : D → Prop), dIx S (.lst (cells.map .int)) (.int (b1.fmod (cells.length : Int))) k = k (.int c) := fun b1 => by
    have hb := fmod_bounds (a := b1) (b := (cells.length : Int)) (by omega)
    have hi : (b1.fmod cells.length).toNat < cells.length := by omega
    exact ⟨cells[(b1.fmod cells.length).toNat], fun S k => ixL hb.1 (by simp [hi])⟩
  obtain ⟨c, ec⟩ := pick (b1 + 1)
  have fm := fun c b1 => fmod_bounds (a := c * 48271 + b1 * 69621 + 1) (b := (2147483647 : Int)) (by decide)
  have fin2 : ∀ (c b1 m : Int) (S' : Sto) (great : List Int) (b0 : Int), 0 ≤ m → m < 2147483647 → S' p = some [.int b0, .int b1, .ref g, .lst (cells.map .int)] → S' g = some (great.map .int) → Upd p g S S' →
      MulOk m m ∧ MulOk m 16807 ∧ MulOk b1 40014 ∧ (2147483629 : Int) ≠ 0 ∧ (32 : Int) ≠ 0 ∧ lim ≠ 0 ∧ Give Q (.int ((((m * m + m * 16807 + b1 * 40014).fmod 2147483629).fdiv 32).fmod lim)) S' := fun c b1 m S' great b0 h0 h1 h2 h3 h4 =>
    ⟨mulok_l (by omega), mulok_r (by omega), mulok_r (by omega), by decide, by decide, nl, fin _ _ _ great S' h2 h3 h4⟩
  wp_walk using RUN, b__law_draw, pn, gn, e, eg, mPop, List.length_map, ec
  refine ite3 (fun q0 => ?_) (fun q0 => ?_)
  · refine ite3 (fun q1 => ?_) (fun q1 => ?_)
    · have hl1 : great.length - 1 < great.length := by omega
      refine ⟨.int great[great.length - 1], by simp [hl1], ?_⟩
      wp_walk using RUN, pn, gn, List.length_map
      have ed : (List.map D.int great).dropLast = List.map D.int great.dropLast := by simp [List.map_dropLast]
      refine ite3 (fun q2 => ?_) (fun q2 => ?_)
      · exact ⟨nl, nl, fin _ _ _ great.dropLast _ Sto.put_same ((pn _ _).trans (Sto.put_same.trans (by rw [ed]))) (Upd.refl.putp.putg.putp)⟩
      · refine ⟨hcl, ?_⟩
        try wp_walk using RUN, ec
        exact ⟨mulok_r (by omega), mulok_r (by omega), by decide, fin2 c _ _ _ great.dropLast _ (fm c _).1 (fm c _).2 Sto.put_same ((pn _ _).trans (Sto.put_same.trans (by rw [ed]))) (Upd.refl.putp.putg.putp)⟩
    · refine ite3 (fun q2 => ?_) (fun q2 => ?_)
      · exact ⟨nl, nl, fin _ _ _ great _ Sto.put_same ((pn _ _).trans eg) Upd.refl.putp⟩
      · exact ⟨hcl, mulok_r (by omega), mulok_r (by omega), by decide, fin2 c _ _ _ great _ (fm c _).1 (fm c _).2 Sto.put_same ((pn _ _).trans eg) Upd.refl.putp⟩
  · refine ite3 (fun q2 => ?_) (fun q2 => ?_)
    · exact ⟨nl, nl, fin _ _ _ great _ Sto.put_same ((pn _ _).trans eg) Upd.refl.putp⟩
    · exact ⟨hcl, mulok_r (by omega), mulok_r (by omega), by decide, fin2 c _ _ _ great _ (fm c _).1 (fm c _).2 Sto.put_same ((pn _ _).trans eg) Upd.refl.putp⟩
theorem pick_ok {p g : Addr} {ds : List D} (hS : St p g S) (hl : ds ≠ []) (h : ∀ d S', d ∈ ds → St p g S' → Upd p g S S' → Q d S') : Cl (k + 2) f__law_pick [.ref p, .tup ds] S Q := by
  refine ⟨_, rfl, rfl, ?_⟩
  have hn : 0 < ds.length := List.length_pos_iff.mpr hl
  wp_walk using RUN, b__law_pick
  refine draw_ok hS (by omega) fun v S' h0 h1 hS' hU => ?_
  have hi : v.toNat < ds.length := by omega
  have ea : ∀ (k : D → Prop), dIx S' (.tup ds) (.int v) k = k ds[v.toNat] := fun k => ixT h0 (by simp [hi])
  wp_walk using RUN, ea
  exact .same (h _ _ (List.getElem_mem hi) hS' hU)
theorem pick_okL {p g : Addr} {ds : List D} (hS : St p g S) (hl : ds ≠ []) (h : ∀ d S', d ∈ ds → St p g S' → Upd p g S S' → Q d S') : Cl (k + 2) f__law_pick [.ref p, .lst ds] S Q := by
  refine ⟨_, rfl, rfl, ?_⟩
  have hn : 0 < ds.length := List.length_pos_iff.mpr hl
  wp_walk using RUN, b__law_pick
  refine draw_ok hS (by omega) fun v S' h0 h1 hS' hU => ?_
  have hi : v.toNat < ds.length := by omega
  have ea : ∀ (k : D → Prop), dIx S' (.lst ds) (.int v) k = k ds[v.toNat] := fun k => ixL h0 (by simp [hi])
  wp_walk using RUN, ea
  exact .same (h _ _ (List.getElem_mem hi) hS' hU)
theorem pick_okR {p g a : Addr} {ds : List D} (hS : St p g S) (ap : a ≠ p ∧ a ≠ g) (ea : S a = some ds) (hl : ds ≠ []) (h : ∀ d S', d ∈ ds → St p g S' → Upd p g S S' → Q d S') : Cl (k + 2) f__law_pick [.ref p, .ref a] S Q := by
  refine ⟨_, rfl, rfl, ?_⟩
  have hn : 0 < ds.length := List.length_pos_iff.mpr hl
  wp_walk using RUN, b__law_pick, ea
  refine draw_ok hS (by omega) fun v S' h0 h1 hS' hU => ?_
  have hi : v.toNat < ds.length := by omega
  have ea' : S' a = some ds := by rw [hU a ap.1 ap.2]; exact ea
  have ed : ∀ (k : D → Prop), dIx S' (.lst ds) (.int v) k = k ds[v.toNat] := fun k => ixL h0 (by simp [hi])
  wp_walk using RUN, ea', ed
  exact .same (h _ _ (List.getElem_mem hi) hS' hU)
theorem mod_loop {G : Fns} {ρ : Rho} {fin : List D → Sto → Prop} {cells : List Int} (hρ : ρ.length = 5) (hl : cells.length ≤ 1000) (h : ∀ l : List Int, l.length = cells.length → fin (l.map .int) S) :
    loopC X G [3, 4] (TT'.n 4) (M.bin .mod (M.bi .int (M.cons (M.v 4) M.nil)) (M.c (.int 2147483647))) M.nil ρ (fun _ => True) fin (cells.map .int) [] S := by
  refine loopC_ind (fun xs acc S' => S' = S ∧ ∃ l1 l2 : List Int, xs = l2.map .int ∧ acc = l1.map .int ∧ l1.length + l2.length = cells.length) ?_ ?_ ?_
  · exact ⟨rfl, [], cells, rfl, rfl, by simp⟩
  · rintro acc S' ⟨rfl, l1, l2, e, rfl, hl⟩
    cases l2 with
    | cons a l => cases e
    | nil => exact ⟨trivial, h l1 (by simpa using hl)⟩
  · rintro x xs next ih acc S' ⟨rfl, l1, l2, e, rfl, hl2⟩
    cases l2 with
    | nil => cases e
    | cons z l2 =>
      cases e
      rw [List.length_cons] at hl2
      have hv : (((ρ.set 4 none).set 3 none).set 4 (some (D.int z)))[4]? = some (some (D.int z)) := by
        rw [List.getElem?_set_self]
        simp [hρ]
      wp_walk using RUN, hv
      exact ⟨by rw [List.length_map]; unfold LIM; omega, by decide, ih _ _ ⟨rfl, l1 ++ [z.fmod 2147483647], l2, rfl, by simp, by simp; omega⟩⟩
theorem great_loop {G : Fns} {ρ : Rho} {fin : List D → Sto → Prop} {cells : List Int} (hρ : ρ.length = 5) (hl : cells.length ≤ 1000) (h : ∀ l : List Int, fin (l.map .int) S) :
    loopC X G [3, 4] (TT'.n 4) (M.bin BO.fdiv (M.v 4) (M.c (SC.int 2))) (M.cmp CO.ge (M.v 4) (M.bin BO.pow (M.c (SC.int 10)) (M.c (SC.int 18)))) ρ (fun _ => True) fin (cells.map .int) [] S := by
  refine loopC_ind (fun xs acc S' => S' = S ∧ ∃ l1 l2 : List Int, xs = l2.map .int ∧ acc = l1.map .int ∧ l1.length + l2.length ≤ cells.length) ?_ ?_ ?_
  · exact ⟨rfl, [], cells, rfl, rfl, by simp⟩
  · rintro acc S' ⟨rfl, l1, l2, e, rfl, hl⟩
    exact ⟨trivial, h l1⟩
  · rintro x xs next ih acc S' ⟨rfl, l1, l2, e, rfl, hl2⟩
    cases l2 with
    | nil => cases e
    | cons z l2 =>
      cases e
      rw [List.length_cons] at hl2
      have hv : (((ρ.set 4 none).set 3 none).set 4 (some (D.int z)))[4]? = some (some (D.int z)) := by
        rw [List.getElem?_set_self]
        simp [hρ]
      wp_walk using RUN, hv
      refine ⟨by rw [List.length_map]; unfold LIM; omega, ite3 (fun _ => ⟨by decide, ih _ _ ⟨rfl, l1 ++ [z.fdiv 2], l2, rfl, by simp, by simp; omega⟩⟩) (fun _ => ih _ _ ⟨rfl, l1, l2, rfl, rfl, by omega⟩)⟩
/-- the cells' own loop -/
theorem bag_ok {zs : List Int} (hz : zs.length ≤ 63) (h : ∀ p g S', S p = none → St p g S' → Upd p g S S' → Q (.ref p) S') : Cl (k + 1) f__law_bag [.scr (zs.map .int)] S Q := by
  refine ⟨_, rfl, rfl, ?_⟩
  wp_walk using RUN, b__law_bag
  refine loopC_ind (fun xs acc S' => S' = S ∧ ∃ l1 l2 : List Int, xs = l2.map .int ∧ acc = l1.map .int ∧ l1.length + l2.length ≤ 63) ?_ ?_ ?_
  · exact ⟨rfl, [], zs, rfl, rfl, by simpa using hz⟩
  · rintro acc S' ⟨rfl, l1, l2, e, rfl, hl⟩
    try wp_walk using RUN, List.length_map
    refine ⟨by unfold LIM; omega, ?_⟩
    rw [show List.map D.int l1 ++ [D.int 7] = (l1 ++ [7]).map .int by simp]
    have hlen : (l1 ++ [7]).length ≤ 64 := by rw [List.length_append, List.length_singleton]; omega
    have hne : l1 ++ [7] ≠ [] := by simp
    generalize l1 ++ [7] = cells at *
    have hc0 : ∀ (S : Sto) (k : D → Prop), dIx S (.lst (cells.map .int)) (.int 0) k = k (.int (cells.head hne)) := fun S k => ixL (by decide) (by cases cells with | nil => exact absurd rfl hne | cons a l => rfl)
    intro g hg
    wp_walk using RUN, hc0
    refine ⟨by decide, ite3 (fun _ => ?_) (fun _ => ?_)⟩
    · refine great_loop rfl (by omega) fun great => ?_
      intro g2 hg2
      refine mod_loop rfl (by omega) fun l hl2 => ?_
      intro p hp
      have n1 : g2 ≠ g := fun z => by rw [z, Sto.put_same] at hg2; cases hg2
      have n2 : p ≠ g2 := fun z => by rw [z, Sto.put_same] at hp; cases hp
      rw [Sto.put_ne n2] at hp
      have n3 : p ≠ g := fun z => by rw [z, Sto.put_same] at hp; cases hp
      rw [Sto.put_ne n3] at hp
      rw [Sto.put_ne n1] at hg2
      have dn : ∀ (S : Sto) (q : Addr), q ≠ g → S.del g q = S q := fun S q h => by unfold Sto.del; rw [if_neg h]
      refine .sub (S2 := Sto.del _ g) .del (h p g2 _ hp ⟨n2, 0, 0, great.reverse, l, (dn _ _ n3).trans Sto.put_same, (dn _ _ n1).trans ((Sto.put_ne (fun z => n2 z.symm)).trans (Sto.put_same.trans (by rw [List.map_reverse]))), fun z => by rw [z] at hl2; exact hne (List.eq_nil_of_length_eq_zero hl2.symm)⟩ fun q q1 q2 => ?_)
      by_cases q3 : q = g
      · rw [q3, Sto.del_same, hg]
      · rw [dn _ _ q3, Sto.put_ne q1, Sto.put_ne q2, Sto.put_ne q3]
    · refine mod_loop rfl (by omega) fun l hl2 => ?_
      intro p hp
      have n3 : p ≠ g := fun z => by rw [z, Sto.put_same] at hp; cases hp
      rw [Sto.put_ne n3] at hp
      refine .same (h p g _ hp ⟨n3, 0, 0, [], l, Sto.put_same, (Sto.put_ne (fun z => n3 z.symm)).trans Sto.put_same, fun z => by rw [z] at hl2; exact hne (List.eq_nil_of_length_eq_zero hl2.symm)⟩ fun q q1 q2 => ?_)
      rw [Sto.put_ne q1, Sto.put_ne q2]
  · rintro x xs next ih acc S' ⟨rfl, l1, l2, e, rfl, hl⟩
    cases l2 with
    | nil => cases e
    | cons z l2 =>
      cases e
      rw [List.length_cons] at hl
      try wp_walk using RUN
      refine ⟨by rw [List.length_map]; unfold LIM; omega, ih _ _ ⟨rfl, l1 ++ [(z.natAbs : Int)], l2, rfl, by simp, by simp; omega⟩⟩
end


/-! ### a net that answers alike -/
theorem div_eq {c t : Rat} (h : t ≠ 0) : c / t = Rat.divInt (c.num * (t.den : Int)) ((c.den : Int) * t.num) := by
  rw [Rat.divInt_eq_div, Rat.intCast_mul, Rat.intCast_mul, ← den_num c, ← den_num t]
  have h1 : ((c.den : Int) : Rat) ≠ 0 := fun z => den_ne c (Rat.intCast_eq_zero_iff.mp z)
  have h2 : ((t.den : Int) : Rat) ≠ 0 := fun z => den_ne t (Rat.intCast_eq_zero_iff.mp z)
  grind
theorem FB_div {c t : Rat} {B C : Nat} (h1 : FB B c) (h2 : FB C t) (h : t ≠ 0) : FB (B + C) (c / t) := by
  rw [div_eq h]
  have nz : (c.den : Int) * t.num ≠ 0 := Int.mul_ne_zero (den_ne c) fun z => h (Rat.num_eq_zero.mp z)
  refine FB_divInt nz ?_ ?_
  · rw [Int.natAbs_mul, Int.natAbs_natCast]; exact lt_pow_mul h1.1 h2.2
  · rw [Int.natAbs_mul, Int.natAbs_natCast]; exact lt_pow_mul h1.2 h2.1
section
variable {k : Nat} {S : Sto} {Q : D → Sto → Prop}
theorem lover_ok {x y : Rat} {B C : Nat} (h1 : FB B x) (h2 : FB C y) (l : B + C < 4987) (hy : y ≠ 0) (h : Q (fr (x / y)) S) : Cl (k + 3) f__law_over [fr x, fr y] S Q := by
  refine ⟨_, rfl, rfl, ?_⟩
  have nz : (x.den : Int) * y.num ≠ 0 := Int.mul_ne_zero (den_ne x) fun z => hy (Rat.num_eq_zero.mp z)
  have e1 : (x.num * (y.den : Int)).natAbs < 2 ^ (B + C) := by rw [Int.natAbs_mul, Int.natAbs_natCast]; exact lt_pow_mul h1.1 h2.2
  have e2 : ((x.den : Int) * y.num).natAbs < 2 ^ (B + C) := by rw [Int.natAbs_mul, Int.natAbs_natCast]; exact lt_pow_mul h1.2 h2.1
  wp_walk using RUN, b__law_over
  refine ⟨mulok h1.1 (by rw [Int.natAbs_natCast]; exact h2.2) (by omega), mulok (by rw [Int.natAbs_natCast]; exact h1.2) h2.1 (by omega), lfr_ok e1 e2 (by omega) nz ?_⟩
  rw [← div_eq hy]
  exact .same h
theorem back_ok {x : Rat} (h : Q (fr (-x)) S) : Cl (k + 1) f__law_back [fr x] S Q := by
  refine ⟨_, rfl, rfl, ?_⟩
  wp_walk using RUN, b__law_back
  have e : fr (-x) = .tup [.int (0 - x.num), .int (x.den : Int)] := by
    show D.tup [.int (-x).num, .int ((-x).den : Int)] = _
    rw [Rat.neg_num, Rat.neg_den, Int.zero_sub]
  rw [e] at h
  exact .same h
end


def addR (a b : List Rat) : List Rat := List.zipWith (· + ·) a b
abbrev smul (t : Rat) (x : List Rat) : List Rat := x.map fun a => t * a
structure Ex where
  x : List Rat
  y : Rat
def exD (e : Ex) : D := .tup [row e.x, fr e.y]
structure Pu where
  r : List Rat
  o : Rat
  l : Rat
def pD (p : Pu) : D := .tup [row p.r, fr p.o, fr p.l]
theorem FB_addR {B C : Nat} {a b : List Rat} (h1 : ∀ x ∈ a, FB B x) (h2 : ∀ x ∈ b, FB C x) : ∀ x ∈ addR a b, FB (B + C + 1) x := by
  induction a generalizing b with
  | nil => intro x h; cases h
  | cons a r ih =>
    cases b with
    | nil => intro x h; cases h
    | cons b s =>
      intro x hx
      rcases List.mem_cons.mp (show x ∈ (a + b) :: addR r s from hx) with q | q
      · rw [q]; exact (h1 a List.mem_cons_self).add (h2 b List.mem_cons_self)
      · exact ih (fun x h => h1 x (List.mem_cons_of_mem _ h)) (fun x h => h2 x (List.mem_cons_of_mem _ h)) x q
theorem addR_len {a b : List Rat} (h : a.length = b.length) : (addR a b).length = a.length := by
  unfold addR; rw [List.length_zipWith]; omega
theorem FB_smul {B C : Nat} {t : Rat} {x : List Rat} (h1 : FB B t) (h2 : ∀ a ∈ x, FB C a) : ∀ a ∈ smul t x, FB (B + C) a := fun a ha => by
  obtain ⟨b, hb, rfl⟩ := List.mem_map.mp ha
  exact h1.mul (h2 b hb)
theorem neg_tup (x : Rat) : D.tup [.int (-x.num), .int (x.den : Int)] = fr (-x) := rfl
section
variable {k : Nat} {x y : Rat} {S : Sto} {Q : D → Sto → Prop}
theorem negative_ok (h : Q (fr (-x)) S) : Cl (k + 1) f_negative [fr x] S Q := by
  refine ⟨_, rfl, rfl, ?_⟩
  wp_walk using RUN, b_negative
  rw [neg_tup]
  exact .same h
theorem added_ok {a b : List Rat} {B C : Nat} (h1 : ∀ x ∈ a, FB B x) (h2 : ∀ x ∈ b, FB C x) (l : B + C < 1000000) (hl : a.length ≤ 1000) (h : Q (row (addR a b)) S) : Cl (k + 4) f_added_rows [row a, row b] S Q := by
  refine ⟨_, rfl, rfl, ?_⟩
  wp_walk using RUN, b_added_rows
  refine loopC_ind (fun xs acc S' => S' = S ∧ ∃ (c r s : List Rat), xs = List.zipWith (fun x y => D.tup [x, y]) (r.map fr) (s.map fr) ∧ (∀ x ∈ r, FB B x) ∧ (∀ x ∈ s, FB C x) ∧ c ++ addR r s = addR a b ∧ acc = c.map fr ∧ c.length + r.length ≤ a.length) ?_ ?_ ?_
  · exact ⟨rfl, [], a, b, rfl, h1, h2, rfl, rfl, by simp⟩
  · rintro acc S' ⟨rfl, c, r, s, e, _, _, e2, rfl, _⟩
    have e3 : addR r s = [] := by
      cases r with
      | nil => rfl
      | cons x r =>
        cases s with
        | nil => rfl
        | cons y s => cases e
    rw [e3, List.append_nil] at e2
    subst e2
    try wp_walk using RUN
    exact .same h
  · rintro x xs next ih acc S' ⟨rfl, c, r, s, e, f1, f2, e2, rfl, hc⟩
    cases r with
    | nil => cases e
    | cons x r =>
      cases s with
      | nil => cases e
      | cons y s =>
        cases e
        rw [List.length_cons] at hc
        wp_walk using RUN, List.length_map
        refine ⟨by unfold LIM; omega, plus_ok (f1 x List.mem_cons_self) (f2 y List.mem_cons_self) l ?_⟩
        try wp_walk using RUN
        refine ih _ _ ⟨rfl, c ++ [x + y], r, s, rfl, fun z h => f1 z (List.mem_cons_of_mem _ h), fun z h => f2 z (List.mem_cons_of_mem _ h), ?_, by simp, by rw [List.length_append, List.length_singleton]; omega⟩
        rw [← e2, List.append_assoc]; rfl
end


/-- what may stand below; all of it goes into L -/
structure Bel (L : Nat) (bs : List Int) : Prop where
  ne : bs ≠ []
  lt : ∀ b ∈ bs, 0 < b ∧ b < 2 ^ 20
  dv : ∀ b ∈ bs, b.natAbs ∣ L
theorem den_dvd (a b : Int) : (Rat.divInt a b).den ∣ b.natAbs := by
  rw [Rat.den_divInt]
  split
  · exact Nat.one_dvd _
  · exact Nat.div_dvd_of_dvd (by rw [← Int.natAbs_natCast (Int.gcd b a)]; exact Int.natAbs_dvd_natAbs.mpr (Int.gcd_dvd_left ..))
theorem den_mul_dvd (x y : Rat) : (x * y).den ∣ x.den * y.den := by
  rw [mul_eq]
  have := den_dvd (x.num * y.num) ((x.den : Int) * (y.den : Int))
  rwa [Int.natAbs_mul, Int.natAbs_natCast, Int.natAbs_natCast] at this
section
variable {k L q : Nat} {S : Sto} {Q : D → Sto → Prop}
abbrev inl (l : List Int) : D := .lst (l.map .int)
theorem mem_inl {l : List Int} {d : D} (h : d ∈ l.map D.int) : ∃ z ∈ l, d = .int z := by
  obtain ⟨z, hz, rfl⟩ := List.mem_map.mp h
  exact ⟨z, hz, rfl⟩
theorem fraction_ok {p g : Addr} {size : Int} {bs : List Int} (hS : St p g S) (h0 : 0 < size) (h1 : size < 2 ^ 18) (hq : size < 2 ^ q) (hb : Bel L bs) (h : ∀ x S', FB 20 x → CD L q x → St p g S' → Upd p g S S' → Q (fr x) S') : Cl (k + 3) f__law_draw_fr [.ref p, .int size, inl bs] S Q := by
  refine ⟨_, rfl, rfl, ?_⟩
  wp_walk using RUN, b__law_draw_fr
  refine ⟨mulok_l (by omega), ?_⟩
  refine draw_ok hS (by omega) fun v S1 v0 v1 hS1 u1 => ?_
  try wp_walk using RUN
  refine pick_okL hS1 (by simpa using hb.ne) fun d S2 hd hS2 u2 => ?_
  obtain ⟨b, hbm, rfl⟩ := mem_inl hd
  obtain ⟨b0, b8⟩ := hb.lt b hbm
  try wp_walk using RUN
  have z1 : (v - size).natAbs < 2 ^ 20 := by omega
  have z2 : b.natAbs < 2 ^ 20 := by omega
  have z3 : (v - size).natAbs < 2 ^ q * b.natAbs := by
    have zq : (v - size).natAbs < 2 ^ q := by
      have : ((2 ^ q : Nat) : Int) = (2 : Int) ^ q := by simp
      omega
    exact Nat.lt_of_lt_of_le zq (Nat.le_mul_of_pos_right _ (by omega))
  exact lfr_ok z1 z2 (by omega) (by omega) (.same (h _ _ (FB_divInt (by omega) z1 z2) ⟨Nat.dvd_trans (den_dvd _ _) (hb.dv b hbm), mag_of (by omega) z3⟩ hS2 (u1.trans u2)))
theorem row_ok {p g : Addr} {size n : Int} {bs : List Int} (hS : St p g S) (h0 : 0 < size) (h1 : size < 2 ^ 18) (hq : size < 2 ^ q) (hb : Bel L bs) (n0 : 0 ≤ n) (n7 : n ≤ 7)
    (h : ∀ r S', (r.length : Int) = n → (∀ a ∈ r, FB 20 a ∧ CD L q a) → St p g S' → Upd p g S S' → Q (row r) S') : Cl (k + 4) f__law_draw_row [.ref p, .int n, .int size, inl bs] S Q := by
  refine ⟨_, rfl, rfl, ?_⟩
  wp_walk using RUN, b__law_draw_row
  refine ⟨by unfold RngOk; omega, ?_⟩
  refine loopC_ind (fun xs acc S' => ∃ (r : List Rat), acc = r.map fr ∧ (∀ a ∈ r, FB 20 a ∧ CD L q a) ∧ St p g S' ∧ Upd p g S S' ∧ (r.length : Int) ≤ n ∧ xs = rangeD r.length n) ?_ ?_ ?_
  · exact ⟨[], rfl, (fun a h => nomatch h), hS, .refl, n0, rfl⟩
  · rintro acc S' ⟨r, rfl, gr, hS', u, hl, e⟩
    have : ¬ (r.length : Int) < n := fun z => by rw [rangeD_cons z] at e; cases e
    try wp_walk using RUN
    exact .same (h r S' (by omega) gr hS' u)
  · rintro y xs next ih acc S' ⟨r, rfl, gr, hS', u, hl, e⟩
    by_cases qq : (r.length : Int) < n
    · rw [rangeD_cons qq] at e
      cases e
      wp_walk using RUN, List.length_map
      refine ⟨by unfold LIM; omega, ?_⟩
      refine fraction_ok hS' h0 h1 hq hb fun x S1 fx dx hS1 u1 => ?_
      try wp_walk using RUN
      refine ih _ _ ⟨r ++ [x], by simp, fun a ha => ?_, hS1, u.trans u1, by simp; omega, by simp⟩
      rcases List.mem_append.mp ha with z | z
      · exact gr a z
      · rw [List.mem_singleton.mp z]; exact ⟨fx, dx⟩
    · rw [rangeD_nil (by omega)] at e
      cases e
end


section
variable {k : Nat} {S : Sto} {Q : D → Sto → Prop}
theorem same_ok {n : Nat} {d : D} (hp : Pl n d) : ∀ {k : Nat} {Q : D → Sto → Prop}, Q (.bl true) S → Cl (k + n) f__law_same [d, d] S Q := by
  induction hp with
  | int n i =>
    intro k Q h
    show Cl (k + n + 1) _ _ _ _
    refine ⟨_, rfl, rfl, ?_⟩
    wp_walk using RUN, b__law_same
    exact .same h
  | tup n ds hd hl ihd =>
    intro k Q h
    show Cl (k + n + 1) _ _ _ _
    refine ⟨_, rfl, rfl, ?_⟩
    wp_walk using RUN, b__law_same
    refine ⟨by unfold RngOk; omega, ?_⟩
    refine loopF_ind (fun xs ρ S' => S' = S ∧ ∃ (i : Nat) (u : Option D), xs = rangeD i ds.length ∧ i ≤ ds.length ∧ ρ = [some (.tup ds), some (.tup ds), u]) ?_ ?_ ?_
    · exact ⟨rfl, 0, none, rfl, by omega, rfl⟩
    · rintro ρ S' ⟨rfl, i, u, e, hi, rfl⟩
      try wp_walk using RUN
      exact .same h
    · rintro y xs next ih ρ S' ⟨rfl, i, u, e, hi, rfl⟩
      by_cases q : (i : Int) < (ds.length : Int)
      · rw [rangeD_cons q] at e
        cases e
        have hi' : i < ds.length := by omega
        have ea : ∀ k : D → Prop, dIx S' (.tup ds) (.int (i : Int)) k = k ds[i] := fun k => ixT (by omega) (by simp [hi'])
        wp_walk using RUN, ea
        refine ihd _ (List.getElem_mem hi') ?_
        try wp_walk using RUN
        exact ih _ _ ⟨rfl, i + 1, _, by rw [Int.natCast_add]; rfl, hi', rfl⟩
      · rw [rangeD_nil (by omega)] at e
        cases e
theorem pl_fr (x : Rat) : Pl 2 (fr x) := .tup 1 _ (fun d h => by
  simp only [List.mem_cons, List.not_mem_nil, or_false] at h
  rcases h with rfl | rfl
  · exact .int 0 _
  · exact .int 0 _) (by simp)
end


theorem pl_row (r : List Rat) (h : r.length ≤ 1000) : Pl 3 (row r) := .tup 2 _ (fun d hd => by
  obtain ⟨x, _, rfl⟩ := List.mem_map.mp hd
  exact pl_fr x) (by simpa using h)
theorem plUp {n : Nat} {d : D} (h : Pl n d) : Pl (n + 1) d := by
  induction h with
  | int n i => exact .int _ i
  | tup n ds hd hl ih => exact .tup _ ds ih hl
structure Hg where
  a : List Rat
  b : Rat
  c : Rat
def hg (h : Hg) : D := .tup [row h.a, fr h.b, fr h.c]
abbrev str (sa : List Rat) (sb : Rat) : D := .tup [row sa, fr sb]
abbrev netD (n : Int) (hs : List Hg) (sa : List Rat) (sb : Rat) : D := .tup [.int n, .tup (hs.map hg), str sa sb]
structure HBn (n : Int) (M q : Nat) (h : Hg) : Prop where
  a : ∀ a ∈ h.a, CD M q a
  len : (h.a.length : Int) = n
  b : CD M q h.b
  c : CD M q h.c
theorem HBn.mono {n : Int} {q q' M M' : Nat} {h : Hg} (x : HBn n M q h) (d : M ∣ M') (l : q ≤ q') : HBn n M' q' h := ⟨fun a h => (x.a a h).mono d l, x.len, x.b.mono d l, x.c.mono d l⟩
theorem pl_hg (h : Hg) (l : h.a.length ≤ 1000) : Pl 4 (hg h) := .tup 3 _ (fun d hd => by
  simp only [List.mem_cons, List.not_mem_nil, or_false] at hd
  rcases hd with rfl | rfl | rfl
  · exact pl_row _ l
  · exact plUp (pl_fr _)
  · exact plUp (pl_fr _)) (by simp)
/-- the picked factors -/
structure Five (d : D) (t u w : Rat) : Prop where
  e : d = fr t
  f : FB 2 t
  c : CD 6 2 t
  a : D.tup [.int (t.num.natAbs : Int), .int (t.den : Int)] = fr u
  fu : FB 2 u
  u0 : u ≠ 0
  iw : u⁻¹ = w
  cw : CD 6 2 w
theorem fives {d : D} (h : d ∈ [D.tup [.int 1, .int 1], .tup [.int 2, .int 1], .tup [.int 1, .int 2], .tup [.int (-1), .int 1], .tup [.int (-1), .int 3]]) : ∃ t u w : Rat, Five d t u w := by
  simp only [List.mem_cons, List.not_mem_nil, or_false] at h
  rcases h with rfl | rfl | rfl | rfl | rfl
  · exact ⟨1, 1, 1, frE (by decide +kernel) (by decide +kernel), by unfold FB; decide +kernel, ⟨by decide +kernel, by decide +kernel⟩, frE (by decide +kernel) (by decide +kernel), by unfold FB; decide +kernel, by decide +kernel, by decide +kernel, ⟨by decide +kernel, by decide +kernel⟩⟩
  · exact ⟨2, 2, mkRat 1 2, frE (by decide +kernel) (by decide +kernel), by unfold FB; decide +kernel, ⟨by decide +kernel, by decide +kernel⟩, frE (by decide +kernel) (by decide +kernel), by unfold FB; decide +kernel, by decide +kernel, by decide +kernel, ⟨by decide +kernel, by decide +kernel⟩⟩
  · exact ⟨mkRat 1 2, mkRat 1 2, 2, frE (by decide +kernel) (by decide +kernel), by unfold FB; decide +kernel, ⟨by decide +kernel, by decide +kernel⟩, frE (by decide +kernel) (by decide +kernel), by unfold FB; decide +kernel, by decide +kernel, by decide +kernel, ⟨by decide +kernel, by decide +kernel⟩⟩
  · exact ⟨-1, 1, 1, frE (by decide +kernel) (by decide +kernel), by unfold FB; decide +kernel, ⟨by decide +kernel, by decide +kernel⟩, frE (by decide +kernel) (by decide +kernel), by unfold FB; decide +kernel, by decide +kernel, by decide +kernel, ⟨by decide +kernel, by decide +kernel⟩⟩
  · exact ⟨mkRat (-1) 3, mkRat 1 3, 3, frE (by decide +kernel) (by decide +kernel), by unfold FB; decide +kernel, ⟨by decide +kernel, by decide +kernel⟩, frE (by decide +kernel) (by decide +kernel), by unfold FB; decide +kernel, by decide +kernel, by decide +kernel, ⟨by decide +kernel, by decide +kernel⟩⟩
section
variable {k L q : Nat} {S : Sto} {Q : D → Sto → Prop}
theorem net_ok {p g : Addr} {size n top : Int} {bs : List Int} (hS : St p g S) (h0 : 0 < size) (h1 : size < 2 ^ 18) (hq : size < 2 ^ q) (hb : Bel L bs) (L0 : 0 < L) (LL : L < 2 ^ 30) (q3 : q ≤ 18) (n0 : 0 ≤ n) (n7 : n ≤ 7) (t0 : 0 ≤ top) (t1 : top ≤ 24)
    (h : ∀ hs sa sb S', (∀ h ∈ hs, HBn n (L * 6 ^ top.toNat) (q + 2 * top.toNat) h) → hs.length ≤ top.toNat → (sa.length : Int) = n → (∀ a ∈ sa, CD L q a) → CD L q sb → St p g S' → Upd p g S S' → Q (netD n hs sa sb) S') : Cl (k + 5) f__law_net [.ref p, .int n, .int top, .int size, inl bs] S Q := by
  have F : ∀ {i : Nat} {x : Rat}, i ≤ 24 → CD (L * 6 ^ i) (q + 2 * i) x → FB 200 x := fun {i x} hi hx => by
    have p6 : (6 : Nat) ^ i < 2 ^ 63 := Nat.lt_of_le_of_lt (Nat.pow_le_pow_right (by decide) hi) (by decide)
    exact (hx.fb (m := 93) (Nat.mul_pos L0 (Nat.pow_pos (by decide))) (lt_pow_mul LL p6)).mono (by omega)
  refine ⟨_, rfl, rfl, ?_⟩
  wp_walk using RUN, b__law_net
  intro a ha
  have ap := hS.ne ha
  refine draw_ok (hS.put ap) (by omega) fun v S0 v0 v1 hS0 u0 => ?_
  have ea0 : S0 a = some [] := by rw [u0 a ap.1 ap.2]; exact Sto.put_same
  have u0' : UpdA p g a S S0 := (UpdA.put fun _ _ _ _ => rfl).upd u0
  try wp_walk using RUN
  refine ⟨by unfold RngOk; omega, ?_⟩
  refine loopF_ind (fun xs ρ S' => ∃ (hs : List Hg) (u1 u2 u3 u4 u5 u6 : Option D), (∀ h ∈ hs, HBn n (L * 6 ^ hs.length) (q + 2 * hs.length) h) ∧ hs.length + xs.length ≤ top.toNat ∧ St p g S' ∧ UpdA p g a S S' ∧ S' a = some (hs.map hg) ∧
    ρ = [some (.ref p), some (.int n), some (.int top), some (.int size), some (inl bs), some (.ref a), u1, u2, u3, u4, u5, u6]) ?_ ?_ ?_
  · exact ⟨[], _, _, _, _, _, _, (fun h z => nomatch z), by rw [rangeD_len]; simp; omega, hS0, u0', ea0, rfl⟩
  · rintro ρ S' ⟨hs, u1, u2, u3, u4, u5, u6, gr, gl, hS', u', ea, rfl⟩
    wp_walk using RUN, ea
    refine row_ok hS' h0 h1 hq hb n0 n7 fun sa S1 la fa hS1 w1 => ?_
    try wp_walk using RUN
    refine fraction_ok hS1 h0 h1 hq hb fun sb S2 fb db hS2 w2 => ?_
    try wp_walk using RUN
    refine .sub (S2 := S2.del a) .del (h hs sa sb _ (fun x z => (gr x z).mono (Nat.mul_dvd_mul_left _ (Nat.pow_dvd_pow 6 (by simpa using gl))) (by simp at gl; omega)) (by simpa using gl) la (fun x hx => (fa x hx).2) db (hS2.del ap) ((u'.upd (w1.trans w2)).del ha))
  · rintro y xs next ih ρ S' ⟨hs, u1, u2, u3, u4, u5, u6, gr, gl, hS', u', ea, rfl⟩
    rw [List.length_cons] at gl
    have l10 : hs.length + 1 ≤ 24 := by omega
    have up : ∀ {x : Rat}, CD L q x → CD (L * 6 ^ (hs.length + 1)) (q + 2 * (hs.length + 1)) x := fun hx => hx.mono (Nat.dvd_mul_right _ _) (by omega)
    have fin : ∀ (x : Hg) (S1 : Sto) u1 u2 u3 u4 u5 u6, HBn n (L * 6 ^ (hs.length + 1)) (q + 2 * (hs.length + 1)) x → St p g S1 → Upd p g S' S1 → (∃ xs, S1 a = some xs ∧ xs.length < LIM ∧ next [some (.ref p), some (.int n), some (.int top), some (.int size), some (inl bs), some (.ref a), u1, u2, u3, u4, u5, u6] (S1.put a (xs ++ [hg x]))) := fun x S1 u1 u2 u3 u4 u5 u6 hx hS1 w => by
      refine ⟨hs.map hg, by rw [w a ap.1 ap.2]; exact ea, by rw [List.length_map]; unfold LIM; omega, ih _ _ ⟨hs ++ [x], _, _, _, _, _, _, fun z hz => ?_, by simp; omega, hS1.put ap, (u'.upd w).put, by rw [Sto.put_same]; simp, rfl⟩⟩
      rw [List.length_append, List.length_singleton]
      rcases List.mem_append.mp hz with q | q
      · exact (gr z q).mono (Nat.mul_dvd_mul_left _ (Nat.pow_dvd_pow 6 (by omega))) (by omega)
      · rw [List.mem_singleton.mp q]; exact hx
    have eaR : ∀ (S1 : Sto), Upd p g S' S1 → S1 a = some (hs.map hg) := fun S1 w => by rw [w a ap.1 ap.2]; exact ea
    try wp_walk using RUN
    refine row_ok hS' h0 h1 hq hb n0 n7 fun a1 S1 la fa hS1 w1 => ?_
    try wp_walk using RUN
    refine fraction_ok hS1 h0 h1 hq hb fun b1 S2 fb db hS2 w2 => ?_
    try wp_walk using RUN
    refine fraction_ok hS2 h0 h1 hq hb fun c1 S3 fc dc hS3 w3 => ?_
    have ea3 := eaR S3 ((w1.trans w2).trans w3)
    try wp_walk using RUN, ea3
    refine ne_nil ea3 (n := 4) (fun d hd => ?_) (by omega) ?_
    · obtain ⟨z, hz, rfl⟩ := List.mem_map.mp hd
      exact pl_hg z (by have := (gr z hz).len; omega)
    try wp_walk using RUN
    refine ite3 (fun qq => ?_) (fun qq => ?_)
    · refine draw_ok hS3 (by decide) fun v S4 _ _ hS4 w4 => ?_
      have ea4 := eaR S4 (((w1.trans w2).trans w3).trans w4)
      try wp_walk using RUN, ea4
      refine ite3 (fun _ => ?_) (fun _ => ?_)
      · have hne : hs.map hg ≠ [] := fun z => by rw [z] at qq; simp at qq
        refine pick_okR hS4 ap ea4 hne fun d S5 hd hS5 w5 => ?_
        obtain ⟨old, hold, rfl⟩ := List.mem_map.mp hd
        have go := gr old hold
        try wp_walk using RUN
        refine pick_okL hS5 (by simp) fun d S6 hd6 hS6 w6 => ?_
        obtain ⟨t, u, w, F5⟩ := fives hd6
        obtain ⟨rfl, ft, dt, eu, fu, u0, ew, dw⟩ := F5
        have dm : ∀ {t : Rat}, CD 6 2 t → ∀ x : Rat, CD (L * 6 ^ hs.length) (q + 2 * hs.length) x → CD (L * 6 ^ (hs.length + 1)) (q + 2 * (hs.length + 1)) (t * x) := fun dt x hx => by
          refine (dt.mul hx).mono ?_ (by omega)
          rw [show L * 6 ^ (hs.length + 1) = 6 * (L * 6 ^ hs.length) by rw [Nat.pow_succ]; ac_rfl]
          exact Nat.dvd_refl _
        wp_walk using RUN, hg
        have l7 : old.a.length ≤ 7 := by have := go.len; omega
        refine taken_ok ft (fun x hx => F (by omega) (go.a x hx)) (by omega) (by omega) ?_
        try wp_walk using RUN
        refine ltimes_ok ft (F (by omega) go.b) (by omega) ?_
        have HB : ∀ c, CD (L * 6 ^ (hs.length + 1)) (q + 2 * (hs.length + 1)) c → HBn n (L * 6 ^ (hs.length + 1)) (q + 2 * (hs.length + 1)) ⟨smul t old.a, t * old.b, c⟩ := fun c hc => ⟨fun x hx => by
          obtain ⟨z, hz, rfl⟩ := List.mem_map.mp hx
          exact dm dt _ (go.a z hz), by rw [List.length_map]; exact go.len, dm dt _ go.b, hc⟩
        have w06 := (((w1.trans w2).trans w3).trans w4).trans (w5.trans w6)
        try wp_walk using RUN
        refine draw_ok hS6 (by decide) fun v S7 _ _ hS7 w7 => ?_
        have ea7 := eaR S7 (w06.trans w7)
        try wp_walk using RUN, ea7
        refine ite3 (fun _ => ?_) (fun _ => ?_)
        · refine back_ok ?_
          try wp_walk using RUN
          rw [eu]
          refine lover_ok (F (by omega) go.c).neg fu (by omega) u0 ?_
          try wp_walk using RUN, ea7
          have ec : -old.c / u = w * -old.c := by rw [Rat.div_def, ew]; grind
          rw [ec]
          have := fin ⟨smul t old.a, t * old.b, w * -old.c⟩ S7 (some y) (some (row (smul t old.a))) (some (fr (t * old.b))) (some (fr (w * -old.c))) (some (hg old)) (some (fr t)) (HB _ (dm dw _ go.c.neg)) hS7 (w06.trans w7)
          obtain ⟨xs, e, l, nx⟩ := this
          rw [ea7] at e; cases e
          exact ⟨l, nx⟩
        · have := fin ⟨smul t old.a, t * old.b, c1⟩ S7 (some y) (some (row (smul t old.a))) (some (fr (t * old.b))) (some (fr c1)) (some (hg old)) (some (fr t)) (HB _ (up dc)) hS7 (w06.trans w7)
          obtain ⟨xs, e, l, nx⟩ := this
          rw [ea7] at e; cases e
          exact ⟨l, nx⟩
      · have := fin ⟨a1, b1, c1⟩ S4 (some y) (some (row a1)) (some (fr b1)) (some (fr c1)) u5 u6 ⟨fun x hx => up (fa x hx).2, la, up db, up dc⟩ hS4 (((w1.trans w2).trans w3).trans w4)
        obtain ⟨xs, e, l, nx⟩ := this
        rw [ea4] at e; cases e
        exact ⟨l, nx⟩
    · have := fin ⟨a1, b1, c1⟩ S3 (some y) (some (row a1)) (some (fr b1)) (some (fr c1)) u5 u6 ⟨fun x hx => up (fa x hx).2, la, up db, up dc⟩ hS3 ((w1.trans w2).trans w3)
      obtain ⟨xs, e, l, nx⟩ := this
      rw [ea3] at e; cases e
      exact ⟨l, nx⟩
end


def cut (x : Rat) : Rat := if 0 < x.num then x else 0
def high (x : List Rat) (h : Hg) : Rat := dotR h.a x + h.b
def sumH (x : List Rat) : List Hg → Rat
  | [] => 0
  | h :: r => h.c * cut (high x h) + sumH x r
abbrev ansR (hs : List Hg) (sa : List Rat) (sb : Rat) (x : List Rat) : Rat := dotR sa x + sb + sumH x hs
theorem FB_cut {B : Nat} {y : Rat} (h : FB B y) (hB : 1 ≤ B) : FB B (cut y) := by
  unfold cut
  split
  · exact h
  · exact FB0.mono hB
theorem num_pos {a : Rat} : 0 < a.num ↔ 0 < a := by rw [Rat.lt_iff]; simp
theorem cut_mul {t y : Rat} (h : 0 < t) : cut (t * y) = t * cut y := by
  unfold cut
  by_cases q : 0 < y
  · rw [if_pos (num_pos.mpr (Rat.mul_pos h q)), if_pos (num_pos.mpr q)]
  · rw [if_neg fun z => q ?_, if_neg fun z => q (num_pos.mp z), Rat.mul_zero]
    have z := num_pos.mp z
    refine Rat.not_le.mp fun w => ?_
    have := Rat.mul_le_mul_of_nonneg_left w (Rat.le_of_lt h)
    rw [Rat.mul_zero] at this
    exact Rat.not_lt.mpr this z


section
variable {k : Nat} {x : Rat} {S : Sto} {Q : D → Sto → Prop}
theorem cut_ok (h : Q (fr (cut x)) S) : Cl (k + 1) f_cut_off [fr x] S Q := by
  refine ⟨_, rfl, rfl, ?_⟩
  wp_walk using RUN, b_cut_off, Xc
  unfold cut at h
  split
  · rename_i q
    rw [if_pos q] at h
    exact .same h
  · rename_i q
    rw [if_neg q] at h
    exact .same h
end


section
variable {k : Nat} {x y : Rat} {S : Sto} {Q : D → Sto → Prop}
theorem lrowsum_ok {a b : List Rat} {B C : Nat} (h1 : ∀ x ∈ a, FB B x) (h2 : ∀ x ∈ b, FB C x) (l : B + C < 4987) (hl : a.length = b.length) (h7 : a.length ≤ 1000) (h : Q (row (addR a b)) S) : Cl (k + 4) f__law_rowsum [row a, row b] S Q := by
  refine ⟨_, rfl, rfl, ?_⟩
  wp_walk using RUN, b__law_rowsum, List.length_map
  refine ⟨by unfold RngOk; omega, ?_⟩
  refine loopC_ind (fun xs acc S' => S' = S ∧ ∃ (c : List Rat) (i : Nat), xs = rangeD i a.length ∧ i ≤ a.length ∧ c.length = i ∧ c ++ addR (a.drop i) (b.drop i) = addR a b ∧ acc = c.map fr) ?_ ?_ ?_
  · exact ⟨rfl, [], 0, rfl, by omega, rfl, rfl, rfl⟩
  · rintro acc S' ⟨rfl, c, i, e, hi, hc, e2, rfl⟩
    have : ¬ (i : Int) < (a.length : Int) := fun q => by rw [rangeD_cons q] at e; cases e
    rw [List.drop_eq_nil_of_le (by omega)] at e2
    have e3 : addR [] (b.drop i) = [] := rfl
    rw [e3, List.append_nil] at e2
    subst e2
    try wp_walk using RUN
    exact .same h
  · rintro x xs next ih acc S' ⟨rfl, c, i, e, hi, hc, e2, rfl⟩
    by_cases q : (i : Int) < (a.length : Int)
    · rw [rangeD_cons q] at e
      cases e
      have ha : i < a.length := by omega
      have hb : i < b.length := by omega
      have ea : ∀ k : D → Prop, dIx S' (row a) (.int (i : Int)) k = k (fr a[i]) := fun k => ixT (by omega) (by simp [ha])
      have eb : ∀ k : D → Prop, dIx S' (row b) (.int (i : Int)) k = k (fr b[i]) := fun k => ixT (by omega) (by simp [hb])
      rw [List.drop_eq_getElem_cons ha, List.drop_eq_getElem_cons hb] at e2
      wp_walk using RUN, ea, eb, List.length_map
      refine ⟨by unfold LIM; omega, lplus_ok (h1 _ (List.getElem_mem ha)) (h2 _ (List.getElem_mem hb)) (by omega) ?_⟩
      try wp_walk using RUN
      refine ih _ _ ⟨rfl, c ++ [a[i] + b[i]], i + 1, by rw [Int.natCast_add]; rfl, by omega, by rw [List.length_append, List.length_singleton]; omega, by rw [← e2, List.append_assoc]; rfl, by simp⟩
    · rw [rangeD_nil (by omega)] at e
      cases e
end


section
variable {k : Nat} {S : Sto} {Q : D → Sto → Prop}
abbrev intz (l : List Int) : List D := l.map .int
theorem divisor_of_ok {ns : List Int} (h : Q (.int (gcdF 0 ns : Nat)) S) : Cl (k + 2) f_divisor_of [.lst (intz ns)] S Q := by
  refine ⟨_, rfl, rfl, ?_⟩
  wp_walk using RUN, b_divisor_of
  refine loopF_ind (fun xs ρ S' => S' = S ∧ ∃ (l : List Int) (g : Nat) (u : Option D), xs = intz l ∧ gcdF g l = gcdF 0 ns ∧ ρ = [some (.lst (intz ns)), some (.int (g : Nat)), u]) ?_ ?_ ?_
  · exact ⟨rfl, ns, 0, none, rfl, rfl, rfl⟩
  · rintro ρ S' ⟨rfl, l, g, u, e, e2, rfl⟩
    cases l with
    | cons a l => cases e
    | nil =>
      have e2 : g = gcdF 0 ns := e2
      rw [← e2] at h
      try wp_walk using RUN
      exact .same h
  · rintro x xs next ih ρ S' ⟨rfl, l, g, u, e, e2, rfl⟩
    cases l with
    | nil => cases e
    | cons a l =>
      cases e
      try wp_walk using RUN
      refine divisor_ok ?_
      try wp_walk using RUN
      exact ih _ _ ⟨rfl, l, Int.gcd (g : Int) a, _, rfl, e2, rfl⟩
theorem lcm_fdiv {a b : Nat} (hb : b ≠ 0) : (a : Int).fdiv (Int.gcd a b : Nat) * b = (Nat.lcm a b : Nat) := by
  have e : Int.gcd a b = Nat.gcd a b := rfl
  rw [e, fdiv_of_dvd (Int.natCast_dvd_natCast.mpr (Nat.gcd_dvd_left a b)), ← Int.natCast_ediv, ← Int.natCast_mul]
  congr 1
  unfold Nat.lcm
  rw [Nat.mul_comm (a / _), Nat.mul_div_assoc _ (Nat.gcd_dvd_left a b) |>.symm, Nat.mul_comm]
theorem multiple_ok {a b B C : Nat} (h1 : a < 2 ^ B) (h2 : b < 2 ^ C) (l : B + C < 1000000) (hb : b ≠ 0) (h : Q (.int (Nat.lcm a b : Nat)) S) : Cl (k + 2) f_multiple [.int (a : Nat), .int (b : Nat)] S Q := by
  refine ⟨_, rfl, rfl, ?_⟩
  wp_walk using RUN, b_multiple
  refine divisor_ok ?_
  try wp_walk using RUN
  have g : (Int.gcd a b : Int) ≠ 0 := by
    have : Int.gcd (a : Int) b ≠ 0 := fun e => hb (by have := (Int.gcd_eq_zero_iff.mp e).2; omega)
    omega
  rw [lcm_fdiv hb]
  refine ⟨g, ?_, .same h⟩
  refine mulok (B := B) (C := C) ?_ (by rw [Int.natAbs_natCast]; exact h2) l
  have e : Int.gcd a b = Nat.gcd a b := rfl
  rw [e, fdiv_of_dvd (Int.natCast_dvd_natCast.mpr (Nat.gcd_dvd_left a b)), ← Int.natCast_ediv, Int.natAbs_natCast]
  exact Nat.lt_of_le_of_lt (Nat.div_le_self _ _) h1
theorem common_below_ok {r : List Rat} {B : Nat} (hr : ∀ a ∈ r, FB B a) (l : 1 + B * (r.length + 1) < 1000000) (h : Q (.int (lcmF 1 r : Nat)) S) : Cl (k + 3) f_common_below [row r] S Q := by
  refine ⟨_, rfl, rfl, ?_⟩
  wp_walk using RUN, b_common_below
  refine loopF_ind (fun xs ρ S' => S' = S ∧ ∃ (r' : List Rat) (g c : Nat) (u v : Option D), xs = r'.map fr ∧ (∀ a ∈ r', FB B a) ∧ lcmF g r' = lcmF 1 r ∧ g < 2 ^ c ∧ c + B * (r'.length + 1) < 1000000 ∧ ρ = [some (row r), some (.int (g : Nat)), u, v]) ?_ ?_ ?_
  · exact ⟨rfl, r, 1, 1, none, none, rfl, hr, rfl, by decide, l, rfl⟩
  · rintro ρ S' ⟨rfl, r', g, c, u, v, e, _, e2, _, _, rfl⟩
    cases r' with
    | cons a r' => cases e
    | nil =>
      have e2 : g = lcmF 1 r := e2
      rw [← e2] at h
      try wp_walk using RUN
      exact .same h
  · rintro x xs next ih ρ S' ⟨rfl, r', g, c, u, v, e, gr, e2, gc, gl, rfl⟩
    cases r' with
    | nil => cases e
    | cons a r' =>
      cases e
      have fa := gr a List.mem_cons_self
      rw [List.length_cons, Nat.mul_add, Nat.mul_one, Nat.mul_add, Nat.mul_one] at gl
      wp_walk using RUN, bTfr
      refine multiple_ok gc fa.2 (by omega) a.den_nz ?_
      try wp_walk using RUN
      refine ih _ _ ⟨rfl, r', Nat.lcm g a.den, c + B, _, _, rfl, fun a h => gr a (List.mem_cons_of_mem _ h), e2, Nat.lt_of_le_of_lt (Nat.div_le_self _ _) (lt_pow_mul gc fa.2), by rw [Nat.mul_add]; omega, rfl⟩
theorem fr_int (p : Int) : fr (p : Rat) = .tup [.int p, .int 1] := rfl
abbrev rati (ps : List Int) : List Rat := ps.map fun p : Int => (p : Rat)
theorem whole_row_ok {ps : List Int} (hl : ps.length ≤ 1000) (h : Q (row (rati ps)) S) : Cl (k + 1) f_whole_row [.tup (intz ps)] S Q := by
  refine ⟨_, rfl, rfl, ?_⟩
  wp_walk using RUN, b_whole_row
  refine loopC_ind (fun xs acc S' => S' = S ∧ ∃ l1 l2 : List Int, xs = intz l2 ∧ ps = l1 ++ l2 ∧ acc = (rati l1).map fr) ?_ ?_ ?_
  · exact ⟨rfl, [], ps, rfl, rfl, rfl⟩
  · rintro acc S' ⟨rfl, l1, l2, e, e2, rfl⟩
    cases l2 with
    | cons a l => cases e
    | nil =>
      rw [List.append_nil] at e2
      subst e2
      try wp_walk using RUN
      exact .same h
  · rintro x xs next ih acc S' ⟨rfl, l1, l2, e, e2, rfl⟩
    cases l2 with
    | nil => cases e
    | cons a l2 =>
      cases e
      wp_walk using RUN, List.length_map
      refine ⟨?_, ih _ _ ⟨rfl, l1 ++ [a], l2, rfl, by rw [e2]; simp, by simp [fr_int]⟩⟩
      have := congrArg List.length e2
      simp at this
      unfold LIM; omega
end


section
variable {k : Nat} {S : Sto} {Q : D → Sto → Prop}
/-- one of the plane's numbers -/
def planeF (r : List Rat) (x : Rat) : Int := (x.num * ((lcmF 1 r / x.den : Nat) : Int)).fdiv (planeBy r)
theorem planeP_eq (r : List Rat) : planeP r = r.map (planeF r) := by
  show (r.map _).map _ = _
  rw [List.map_map]; rfl
abbrev plA (a : List Rat) (b : Rat) : List Int := a.map (planeF (a ++ [b]))
abbrev plB (a : List Rat) (b : Rat) : Int := planeF (a ++ [b]) b
theorem plP (a : List Rat) (b : Rat) : planeP (a ++ [b]) = plA a b ++ [plB a b] := by rw [planeP_eq, List.map_append]; rfl
abbrev planeD (ps : List Int) (z : Int) : D := .tup [.tup (intz ps), .int z]
abbrev plDD (ps : List Int) (z : Int) (s : Rat) : D := .tup [planeD ps z, fr s]
theorem den_div {L : Nat} (d : Nat) (h : d ∣ L) : (L : Int).fdiv (d : Int) = ((L / d : Nat) : Int) := by
  rw [fdiv_of_dvd (Int.natCast_dvd_natCast.mpr h), ← Int.natCast_ediv]
theorem num_ok {r : List Rat} {B : Nat} {x : Rat} (hx : x ∈ r) (hr : ∀ a ∈ r, FB B a) (l : B + (1 + B * r.length) < 1000000) : MulOk x.num ((lcmF 1 r / x.den : Nat) : Int) := by
  refine mulok (hr x hx).1 ?_ l
  rw [Int.natAbs_natCast]
  exact Nat.lt_of_le_of_lt (Nat.div_le_self _ _) (lcmF_lt (by decide) hr)
theorem row_app (a : List Rat) (b : Rat) : a.map fr ++ [fr b] = (a ++ [b]).map fr := by rw [List.map_append]; rfl
/-- the row, in two parts -/
theorem parts {α β : Type} {f : α → β} {l : List β} {r : List α} (h : l = r.map f) : ∃ r1 r2 : List α, r = r1 ++ r2 ∧ l = r2.map f ∧ r1 = [] := ⟨[], r, rfl, h, rfl⟩
theorem plane_of_ok {a : List Rat} {b : Rat} {B : Nat} (ha : ∀ x ∈ a, FB B x) (hb : FB B b) (l7 : a.length ≤ 6) (hB : B ≤ 20000) (nz : ∃ x ∈ a, x ≠ 0) (h : Q (plDD (plA a b) (plB a b) (planeS (a ++ [b]))) S) : Cl (k + 4) f_plane_of [row a, fr b] S Q := by
  refine ⟨_, rfl, rfl, ?_⟩
  have hr : ∀ x ∈ a ++ [b], FB B x := fun x hx => by
    rcases List.mem_append.mp hx with q | q
    · exact ha x q
    · rw [List.mem_singleton.mp q]; exact hb
  have lr : (a ++ [b]).length ≤ 7 := by rw [List.length_append]; exact Nat.succ_le_succ l7
  have hm : B * (a ++ [b]).length ≤ 140000 := Nat.le_trans (Nat.mul_le_mul hB lr) (by omega)
  have nz' : ∃ x ∈ a ++ [b], x ≠ 0 := let ⟨x, h1, h2⟩ := nz; ⟨x, List.mem_append_left _ h1, h2⟩
  have hl := planeN_lead nz'
  have hby := planeBy_ne hl
  have hL : lcmF 1 (a ++ [b]) ≠ 0 := Nat.ne_of_gt (lcmF_pos (by decide))
  have hap : a.length + 1 ≤ LIM := by unfold LIM; omega
  wp_walk using RUN, b_plane_of, List.length_map
  rw [row_app]
  refine ⟨hap, common_below_ok hr (by rw [Nat.mul_add]; omega) ?_⟩
  try wp_walk using RUN, List.length_map
  refine ⟨hap, ?_⟩
  generalize hrr : a ++ [b] = r at *
  have ln : (planeN r).length = r.length := List.length_map _
  refine loopC_ind (fun xs acc S' => S' = S ∧ ∃ r1 r2 : List Rat, xs = r2.map fr ∧ r = r1 ++ r2 ∧ acc = intz (r1.map fun x => x.num * ((lcmF 1 r / x.den : Nat) : Int))) ?_ ?_ ?_
  · exact ⟨rfl, [], r, rfl, rfl, rfl⟩
  · rintro acc S' ⟨rfl, r1, r2, e, e2, rfl⟩
    cases r2 with
    | cons a l => cases e
    | nil =>
      rw [List.append_nil] at e2
      subst e2
      try wp_walk using RUN
      refine divisor_of_ok (ns := planeN r) ?_
      try wp_walk using RUN
      refine loopC_ind (fun xs acc S'' => S'' = S' ∧ ∃ l1 l2 : List Int, xs = intz l2 ∧ planeN r = l1 ++ l2 ∧ acc = intz (l1.filter fun n => decide (n ≠ 0))) ?_ ?_ ?_
      · exact ⟨rfl, [], planeN r, rfl, rfl, rfl⟩
      · rintro acc S'' ⟨rfl, l1, l2, e, e2, rfl⟩
        cases l2 with
        | cons a l => cases e
        | nil =>
          rw [List.append_nil] at e2
          subst e2
          rcases lead_filter (ns := planeN r) with ⟨q, _⟩ | ⟨_, l, el⟩
          · exact absurd q hl
          · rw [el]
            have go : ∀ u5 : Option D, loopC X (callD X fs (k + 3)) [6, 9] (TT'.n 9) (M.bin BO.fdiv (M.v 9) (M.v 4)) M.nil [some (row a), some (fr b), some (D.int (lcmF 1 r : Nat)), some (D.lst (intz (planeN r))), some (D.int (planeBy r)), u5, none, none, none, none] (fun _ => True)
              (fun acc S' => dIx S' (D.lst acc) (D.int (-1)) fun z => callD X fs (k + 3) f_lowest [D.int (planeBy r), D.int (lcmF 1 r : Nat)] S' fun d S1 => Give Q (D.tup [D.tup [D.tup (cutD acc none (some (-1))), z], d]) S1) (intz (planeN r)) [] S'' := fun u5 => by
              refine loopC_ind (fun xs acc S' => S' = S'' ∧ ∃ l1 l2 : List Int, xs = intz l2 ∧ planeN r = l1 ++ l2 ∧ acc = intz (l1.map fun n => n.fdiv (planeBy r))) ?_ ?_ ?_
              · exact ⟨rfl, [], planeN r, rfl, rfl, rfl⟩
              · rintro acc S' ⟨rfl, l1, l2, e, e2, rfl⟩
                cases l2 with
                | cons a l => cases e
                | nil =>
                  rw [List.append_nil] at e2
                  have e3 : l1.map (fun n => n.fdiv (planeBy r)) = plA a b ++ [plB a b] := by rw [← e2, ← plP, hrr]; rfl
                  have e4 : intz (l1.map fun n => n.fdiv (planeBy r)) = intz (plA a b) ++ [D.int (plB a b)] := by rw [e3]; exact List.map_append
                  rw [e4]
                  wp_walk using RUN, ix_m1, cut_m1
                  refine lowest_ok (by omega) ?_
                  try wp_walk using RUN
                  exact .same h
              · rintro x xs next ih acc S' ⟨rfl, l1, l2, e, e2, rfl⟩
                cases l2 with
                | nil => cases e
                | cons n l2 =>
                  cases e
                  try wp_walk using RUN, List.length_map
                  have := congrArg List.length e2
                  rw [List.length_append, List.length_cons, ln] at this
                  exact ⟨by unfold LIM; omega, hby, ih _ _ ⟨rfl, l1 ++ [n], l2, rfl, by rw [e2]; simp, by simp⟩⟩
            wp_walk using RUN
            refine ite3 (fun q => ?_) (fun q => ?_)
            · have eg : (gcdF 0 (planeN r) : Int) = planeBy r := by unfold planeBy; rw [if_neg (by omega)]
              rw [eg]
              exact go _
            · have eg : -(gcdF 0 (planeN r) : Int) = planeBy r := by unfold planeBy; rw [if_pos (by omega)]
              rw [eg]
              exact go _
      · rintro x xs next ih acc S'' ⟨rfl, l1, l2, e, e2, rfl⟩
        cases l2 with
        | nil => cases e
        | cons n l2 =>
          cases e
          try wp_walk using RUN, List.length_map
          have := congrArg List.length e2
          rw [List.length_append, List.length_cons, ln] at this
          have hf := List.length_filter_le (fun n : Int => decide (n ≠ 0)) l1
          refine ⟨by unfold LIM; omega, ite3 (fun q => ?_) (fun q => ?_)⟩
          · exact ih _ _ ⟨rfl, l1 ++ [n], l2, rfl, by rw [e2]; simp, by rw [List.filter_append, List.filter_cons_of_pos (by simpa using q)]; simp⟩
          · exact ih _ _ ⟨rfl, l1 ++ [n], l2, rfl, by rw [e2]; simp, by rw [List.filter_append, List.filter_cons_of_neg (by simpa using q)]; simp⟩
  · rintro x xs next ih acc S' ⟨rfl, r1, r2, e, e2, rfl⟩
    cases r2 with
    | nil => cases e
    | cons x r2 =>
      cases e
      have hx : x ∈ r := by rw [e2]; simp
      wp_walk using RUN, List.length_map, bTfr, den_div x.den ((lcmF_dvd (l := 1)).2 x hx)
      have := congrArg List.length e2
      rw [List.length_append, List.length_cons] at this
      refine ⟨by unfold LIM; omega, den_ne x, num_ok hx hr (by omega), ih _ _ ⟨rfl, r1 ++ [x], r2, rfl, by rw [e2]; simp, by simp⟩⟩
end



theorem planeBy_lt {r : List Rat} {B : Nat} (hr : ∀ a ∈ r, FB B a) : (planeBy r).natAbs < 2 ^ (B + (1 + B * r.length)) := by
  rw [planeBy_abs]
  exact gcdF_le (Nat.pow_pos (by decide)) (planeN_lt hr)
/-! ### the law's own rows and planes -/
theorem eq_nilL {S : Sto} {xs : List D} {k : D → Prop} {n : Nat} (h : ∀ d ∈ xs, Pl n d) (hn : n ≤ 60) (g : k (.bl xs.isEmpty)) : dCmp S .eq (.lst xs) (.lst []) k := by
  obtain ⟨ps, h1, h2, h3, h4⟩ := pls_py h
  show dEq S (.lst xs) (.lst []) (fun b => k (.bl b))
  refine ⟨.list ps, .list [], ?_, rfl, ?_, by simp [SeqAt.shaped, PyData.canLay0, PyData.canLayAll0, PyData.depth, PyData.depthAll], ?_⟩
  · simp only [look, toPy, h1]; rfl
  · simp only [SeqAt.shaped, PyData.canLay0, PyData.depth, h2, Bool.true_and]; exact decide_eq_true (by omega)
  · have : PyData.eqv (.list ps) (.list []) = xs.isEmpty := by
      rw [← h4]
      cases ps <;> simp [PyData.eqv, PyData.eqvAll]
    rw [this]; exact g
section
variable {k : Nat} {S : Sto} {Q : D → Sto → Prop}
theorem lwhole_ok {ps : List Int} (hl : ps.length ≤ 1000) (h : Q (row (rati ps)) S) : Cl (k + 1) f__law_whole [.tup (intz ps)] S Q := by
  refine ⟨_, rfl, rfl, ?_⟩
  wp_walk using RUN, b__law_whole
  refine loopC_ind (fun xs acc S' => S' = S ∧ ∃ l1 l2 : List Int, xs = intz l2 ∧ ps = l1 ++ l2 ∧ acc = (rati l1).map fr) ?_ ?_ ?_
  · exact ⟨rfl, [], ps, rfl, rfl, rfl⟩
  · rintro acc S' ⟨rfl, l1, l2, e, e2, rfl⟩
    cases l2 with
    | cons a l => cases e
    | nil =>
      rw [List.append_nil] at e2
      subst e2
      try wp_walk using RUN
      exact .same h
  · rintro x xs next ih acc S' ⟨rfl, l1, l2, e, e2, rfl⟩
    cases l2 with
    | nil => cases e
    | cons a l2 =>
      cases e
      wp_walk using RUN, List.length_map
      refine ⟨?_, ih _ _ ⟨rfl, l1 ++ [a], l2, rfl, by rw [e2]; simp, by simp [fr_int]⟩⟩
      have := congrArg List.length e2
      simp at this
      unfold LIM; omega
theorem lplane_ok {a : List Rat} {b : Rat} {B : Nat} (ha : ∀ x ∈ a, FB B x) (hb : FB B b) (l7 : a.length ≤ 6) (hB : B ≤ 400) (nz : ∃ x ∈ a, x ≠ 0) (h : Q (plDD (plA a b) (plB a b) (planeS (a ++ [b]))) S) : Cl (k + 4) f__law_plane [row a, fr b] S Q := by
  refine ⟨_, rfl, rfl, ?_⟩
  have hr : ∀ x ∈ a ++ [b], FB B x := fun x hx => by
    rcases List.mem_append.mp hx with q | q
    · exact ha x q
    · rw [List.mem_singleton.mp q]; exact hb
  have lr : (a ++ [b]).length ≤ 7 := by rw [List.length_append]; exact Nat.succ_le_succ l7
  have hm : B * (a ++ [b]).length ≤ 2800 := Nat.le_trans (Nat.mul_le_mul hB lr) (by omega)
  have nz' : ∃ x ∈ a ++ [b], x ≠ 0 := let ⟨x, h1, h2⟩ := nz; ⟨x, List.mem_append_left _ h1, h2⟩
  have hl := planeN_lead nz'
  have hby := planeBy_ne hl
  have hL : 0 < lcmF 1 (a ++ [b]) := lcmF_pos (by decide)
  have hap : a.length + 1 ≤ LIM := by unfold LIM; omega
  wp_walk using RUN, b__law_plane, List.length_map
  rw [row_app]
  refine ⟨hap, ?_⟩
  have eN : planeN (a ++ [b]) = a.map (fun x => x.num * ((lcmF 1 (a ++ [b]) / x.den : Nat) : Int)) ++ [b.num * ((lcmF 1 (a ++ [b]) / b.den : Nat) : Int)] := by
    show (a ++ [b]).map _ = _
    rw [List.map_append]; rfl
  have eA : plA a b = a.map (fun x => (x.num * ((lcmF 1 (a ++ [b]) / x.den : Nat) : Int)).fdiv (planeBy (a ++ [b]))) := rfl
  have eB : plB a b = (b.num * ((lcmF 1 (a ++ [b]) / b.den : Nat) : Int)).fdiv (planeBy (a ++ [b])) := rfl
  generalize plA a b = pa at *
  generalize plB a b = pb at *
  generalize hrr : a ++ [b] = r at *
  have hLt := lcmF_lt (l := 1) (b := 1) (by decide) hr
  have hNt := planeN_lt hr
  have ln : (planeN r).length = r.length := List.length_map _
  refine loopF_ind (fun xs ρ S' => S' = S ∧ ∃ (r1 r2 : List Rat) (g c : Nat) (u : Option D), xs = r2.map fr ∧ r = r1 ++ r2 ∧ lcmF g r2 = lcmF 1 r ∧ 0 < g ∧ g < 2 ^ c ∧ c + B * (r2.length + 1) < 4900 ∧ ρ = [some (row a), some (fr b), some (.int (g : Nat)), u, none, none, none, none, none]) ?_ ?_ ?_
  · exact ⟨rfl, [], r, 1, 1, none, rfl, rfl, rfl, by decide, by decide, by rw [Nat.mul_add]; omega, rfl⟩
  · rintro ρ S' ⟨rfl, r1, r2, g, c, u, e, _, e2, _, _, _, rfl⟩
    cases r2 with
    | cons a r' => cases e
    | nil =>
      have e2 : g = lcmF 1 r := e2
      subst e2
      wp_walk using RUN, List.length_map
      rw [row_app, hrr]
      refine ⟨hap, ?_⟩
      refine loopC_ind (fun xs acc S'' => S'' = S' ∧ ∃ r1 r2 : List Rat, xs = r2.map fr ∧ r = r1 ++ r2 ∧ acc = intz (r1.map fun x => x.num * ((lcmF 1 r / x.den : Nat) : Int))) ?_ ?_ ?_
      · exact ⟨rfl, [], r, rfl, rfl, rfl⟩
      · rintro acc S'' ⟨rfl, r1, r2, e, e2, rfl⟩
        cases r2 with
        | cons a l => cases e
        | nil =>
          rw [List.append_nil] at e2
          subst e2
          try wp_walk using RUN
          refine loopF_ind (fun xs ρ S' => S' = S'' ∧ ∃ (n1 n2 : List Int) (g : Nat) (u v : Option D), xs = intz n2 ∧ planeN r = n1 ++ n2 ∧ gcdF g n2 = gcdF 0 (planeN r) ∧ g < 2 ^ (B + (1 + B * r.length)) ∧ ρ = [some (row a), some (fr b), some (.int (lcmF 1 r : Nat)), u, some (.lst (intz (planeN r))), some (.int (g : Nat)), v, none, none]) ?_ ?_ ?_
          · exact ⟨rfl, [], planeN r, 0, _, none, rfl, rfl, rfl, Nat.pow_pos (by decide), rfl⟩
          · rintro ρ S' ⟨rfl, n1, n2, g, u, v, e, _, e2, _, rfl⟩
            cases n2 with
            | cons a l => cases e
            | nil =>
              have e2 : g = gcdF 0 (planeN r) := e2
              subst e2
              try wp_walk using RUN
              refine loopC_ind (fun xs acc S'' => S'' = S' ∧ ∃ l1 l2 : List Int, xs = intz l2 ∧ planeN r = l1 ++ l2 ∧ acc = intz (l1.filter fun n => decide (n ≠ 0))) ?_ ?_ ?_
              · exact ⟨rfl, [], planeN r, rfl, rfl, rfl⟩
              · rintro acc S'' ⟨rfl, l1, l2, e, e2, rfl⟩
                cases l2 with
                | cons a l => cases e
                | nil =>
                  rw [List.append_nil] at e2
                  subst e2
                  rcases lead_filter (ns := planeN r) with ⟨q, _⟩ | ⟨_, l, el⟩
                  · exact absurd q hl
                  · rw [el]
                    have e4 : intz (planeN r) = intz (a.map fun x => x.num * ((lcmF 1 r / x.den : Nat) : Int)) ++ [D.int (b.num * ((lcmF 1 r / b.den : Nat) : Int))] := by rw [eN]; exact List.map_append
                    have ec : cutD (intz (planeN r)) none (some (-1)) = intz (a.map fun x => x.num * ((lcmF 1 r / x.den : Nat) : Int)) := by rw [e4, cut_m1]
                    have go : ∀ u3 v6 v7 : Option D, loopC X (callD X fs (k + 3)) [8, 6] (TT'.n 6) (M.bin BO.fdiv (M.v 6) (M.v 5)) M.nil [some (row a), some (fr b), some (D.int (lcmF 1 r : Nat)), u3, some (D.lst (intz (planeN r))), some (D.int (planeBy r)), v6, v7, none] (fun _ => True)
                      (fun acc S' => dIx S' (D.lst (intz (planeN r))) (D.int (-1)) fun z => dBin .fdiv z (.int (planeBy r)) fun w => callD X fs (k + 3) f__law_fr [D.int (planeBy r), D.int (lcmF 1 r : Nat)] S' fun d S1 => Give Q (D.tup [D.tup [D.tup acc, w], d]) S1) (intz (a.map fun x => x.num * ((lcmF 1 r / x.den : Nat) : Int))) [] S'' := fun u3 v6 v7 => by
                      refine loopC_ind (fun xs acc S' => S' = S'' ∧ ∃ a1 a2 : List Rat, xs = intz (a2.map fun x => x.num * ((lcmF 1 r / x.den : Nat) : Int)) ∧ a = a1 ++ a2 ∧ acc = intz (a1.map fun x => (x.num * ((lcmF 1 r / x.den : Nat) : Int)).fdiv (planeBy r))) ?_ ?_ ?_
                      · exact ⟨rfl, [], a, rfl, rfl, rfl⟩
                      · rintro acc S' ⟨rfl, a1, a2, e, e2, rfl⟩
                        cases a2 with
                        | cons a l => cases e
                        | nil =>
                          rw [List.append_nil] at e2
                          subst e2
                          rw [e4]
                          wp_walk using RUN, ix_m1
                          have q1 := planeBy_lt hr
                          rw [eA, eB] at h
                          refine ⟨hby, lfr_ok (B := 4900) (pow2_mono q1 (by omega)) (by rw [Int.natAbs_natCast]; exact pow2_mono hLt (by omega)) (by omega) (by omega) ?_⟩
                          try wp_walk using RUN
                          exact .same h
                      · rintro x xs next ih acc S' ⟨rfl, a1, a2, e, e2, rfl⟩
                        cases a2 with
                        | nil => cases e
                        | cons n a2 =>
                          cases e
                          try wp_walk using RUN, List.length_map
                          have := congrArg List.length e2
                          rw [List.length_append, List.length_cons] at this
                          exact ⟨by unfold LIM; omega, hby, ih _ _ ⟨rfl, a1 ++ [n], a2, rfl, by rw [e2]; simp, by simp⟩⟩
                    wp_walk using RUN
                    refine ite3 (fun q => ?_) (fun q => ?_)
                    · have eg : (gcdF 0 (planeN r) : Int) = planeBy r := by unfold planeBy; rw [if_neg (by omega)]
                      rw [eg]
                      try wp_walk using RUN
                      rw [ec]
                      exact go _ _ _
                    · have eg : 0 - (gcdF 0 (planeN r) : Int) = planeBy r := by unfold planeBy; rw [if_pos (by omega)]; omega
                      rw [eg]
                      try wp_walk using RUN
                      rw [ec]
                      exact go _ _ _
              · rintro x xs next ih acc S'' ⟨rfl, l1, l2, e, e2, rfl⟩
                cases l2 with
                | nil => cases e
                | cons n l2 =>
                  cases e
                  try wp_walk using RUN, List.length_map
                  have := congrArg List.length e2
                  rw [List.length_append, List.length_cons, ln] at this
                  have hf := List.length_filter_le (fun n : Int => decide (n ≠ 0)) l1
                  refine ⟨by unfold LIM; omega, ite3 (fun q => ?_) (fun q => ?_)⟩
                  · have q : ¬ n = 0 := q
                    exact ih _ _ ⟨rfl, l1 ++ [n], l2, rfl, by rw [e2]; simp, by rw [List.filter_append, List.filter_cons_of_pos (by simpa using q)]; simp⟩
                  · have q : n = 0 := Decidable.not_not.mp q
                    exact ih _ _ ⟨rfl, l1 ++ [n], l2, rfl, by rw [e2]; simp, by rw [List.filter_append, List.filter_cons_of_neg (by simpa using q)]; simp⟩
          · rintro x xs next ih ρ S' ⟨rfl, n1, n2, g, u, v, e, e1, e2, gB, rfl⟩
            cases n2 with
            | nil => cases e
            | cons n n2 =>
              cases e
              have hn : n ∈ planeN r := by rw [e1]; simp
              try wp_walk using RUN
              refine lgcd_ok (B := B + (1 + B * r.length)) (by rw [Int.natAbs_natCast]; exact gB) (hNt n hn) (by omega) ?_
              try wp_walk using RUN
              refine ih _ _ ⟨rfl, n1 ++ [n], n2, Int.gcd (g : Int) n, _, _, rfl, by rw [e1]; simp, e2, ?_, rfl⟩
              exact gcdF_le (ns := [n]) gB fun m hm => by rw [List.mem_singleton.mp hm]; exact hNt n hn
      · rintro x xs next ih acc S'' ⟨rfl, r1, r2, e, e2, rfl⟩
        cases r2 with
        | nil => cases e
        | cons x r2 =>
          cases e
          have hx : x ∈ r := by rw [e2]; simp
          wp_walk using RUN, List.length_map, den_div x.den ((lcmF_dvd (l := 1)).2 x hx)
          have := congrArg List.length e2
          rw [List.length_append, List.length_cons] at this
          refine ⟨by unfold LIM; omega, den_ne x, num_ok hx hr (by omega), ih _ _ ⟨rfl, r1 ++ [x], r2, rfl, by rw [e2]; simp, by simp⟩⟩
  · rintro x xs next ih ρ S' ⟨rfl, r1, r2, g, c, u, e, er, e2, g0, gc, gl, rfl⟩
    cases r2 with
    | nil => cases e
    | cons x r2 =>
      cases e
      have fa := hr x (by rw [er]; simp)
      rw [List.length_cons, Nat.mul_add, Nat.mul_one, Nat.mul_add, Nat.mul_one] at gl
      try wp_walk using RUN
      refine ⟨mulok (B := c) (C := B) (by rw [Int.natAbs_natCast]; exact gc) (by rw [Int.natAbs_natCast]; exact fa.2) (by omega), ?_⟩
      refine lgcd_ok (B := c + B) (by rw [Int.natAbs_natCast]; exact pow2_mono gc (by omega)) (by rw [Int.natAbs_natCast]; exact pow2_mono fa.2 (by omega)) (by omega) ?_
      try wp_walk using RUN
      have eg : ((g : Int) * (x.den : Int)).fdiv (Int.gcd g x.den : Nat) = (Nat.lcm g x.den : Nat) := by
        have e : Int.gcd g x.den = Nat.gcd g x.den := rfl
        rw [e, ← Int.natCast_mul, fdiv_of_dvd (Int.natCast_dvd_natCast.mpr (Nat.dvd_trans (Nat.gcd_dvd_left _ _) (Nat.dvd_mul_right _ _))), ← Int.natCast_ediv]; rfl
      have gn : (Int.gcd g x.den : Int) ≠ 0 := by
        have : Int.gcd (g : Int) x.den ≠ 0 := fun e => by have := (Int.gcd_eq_zero_iff.mp e).1; omega
        omega
      rw [eg]
      exact ⟨gn, ih _ _ ⟨rfl, r1 ++ [x], r2, Nat.lcm g x.den, c + B, _, rfl, by rw [er]; simp, e2, Nat.lcm_pos g0 x.den_pos, Nat.lt_of_le_of_lt (Nat.div_le_self _ _) (lt_pow_mul gc fa.2), by rw [Nat.mul_add]; omega, rfl⟩⟩
end


/-! ### normal -/
def isZ (r : List Rat) : Bool := r.all fun a => decide (a.num = 0)
def sizeR (x : Rat) : Rat := if x.num < 0 then -x else x
theorem bTpk {a b : TT'} {p : Pl2} {ρ : Rho} {k : Rho → Prop} : bindT (.t (.cons a (.cons b .nil))) (pkD p) ρ k = bindT a (.tup (intz p.1)) ρ fun ρ1 => bindT b (.int p.2) ρ1 k := rfl
theorem bThg {a b c : TT'} {g : Hg} {ρ : Rho} {k : Rho → Prop} : bindT (.t (.cons a (.cons b (.cons c .nil)))) (hg g) ρ k = bindT a (row g.a) ρ fun ρ1 => bindT b (fr g.b) ρ1 fun ρ2 => bindT c (fr g.c) ρ2 k := rfl
section
variable {k : Nat} {x y : Rat} {S : Sto} {Q : D → Sto → Prop}
theorem size_of_ok (h : Q (fr (sizeR x)) S) : Cl (k + 1) f_size_of [fr x] S Q := by
  refine ⟨_, rfl, rfl, ?_⟩
  wp_walk using RUN, b_size_of
  have e : fr (sizeR x) = .tup [.int (x.num.natAbs : Int), .int (x.den : Int)] := by
    unfold sizeR
    by_cases q : x.num < 0
    · rw [if_pos q]
      show D.tup [.int (-x).num, .int ((-x).den : Int)] = _
      rw [Rat.neg_num, Rat.neg_den, show -x.num = (x.num.natAbs : Int) by omega]
    · rw [if_neg q]
      show D.tup [.int x.num, .int (x.den : Int)] = _
      rw [show (x.num.natAbs : Int) = x.num by omega]
  rw [e] at h
  exact .same h
theorem is_nothing_ok {r : List Rat} (h : Q (.bl (isZ r)) S) : Cl (k + 1) f_is_nothing [row r] S Q := by
  refine ⟨_, rfl, rfl, ?_⟩
  wp_walk using RUN, b_is_nothing
  refine loopA_ind (fun xs S' => S' = S ∧ ∃ r2 : List Rat, xs = r2.map fr ∧ isZ r2 = isZ r) ⟨rfl, r, rfl, rfl⟩ ?_ ?_
  · rintro S' ⟨rfl, r2, e, e2⟩
    cases r2 with
    | cons a l => cases e
    | nil =>
      rw [← e2] at h
      exact ⟨trivial, .same h⟩
  · rintro x xs next ih S' ⟨rfl, r2, e, e2⟩
    cases r2 with
    | nil => cases e
    | cons a l =>
      cases e
      wp_walk using RUN
      have e3 : (decide (a.num = 0) && isZ l) = isZ r := e2
      refine ite3 (fun q => ?_) (fun q => ?_)
      · rw [decide_eq_false (by simpa using q)] at e3
        rw [← e3] at h
        exact .same h
      · rw [decide_eq_true (by simpa using q)] at e3
        exact ih _ ⟨rfl, l, rfl, by simpa using e3⟩
end
structure NS where
  m : Tb
  d : List Rat
  e : Rat
abbrev plOf (h : Hg) : Pl2 := (plA h.a h.b, plB h.a h.b)
abbrev szOf (h : Hg) : Rat := planeS (h.a ++ [h.b])
abbrev jmp (h : Hg) : Rat := h.c * sizeR (szOf h)
def nstep (s : NS) (h : Hg) : NS := if isZ h.a = true then ⟨s.m, s.d, s.e + h.c * cut h.b⟩ else
  ⟨aput (plOf h) (aval (plOf h) s.m + jmp h) s.m, if (szOf h).num < 0 then addR s.d (smul (-jmp h) (rati (plOf h).1)) else s.d, if (szOf h).num < 0 then s.e + -jmp h * ((plOf h).2 : Rat) else s.e⟩
def nfold (hs : List Hg) (d : List Rat) (e : Rat) : NS := hs.foldl nstep ⟨[], d, e⟩
/-- a hinge's numbers -/
structure HF (Ba Bc n : Nat) (h : Hg) : Prop where
  a : ∀ a ∈ h.a, FB Ba a
  len : h.a.length = n
  b : FB Ba h.b
  c : FB Bc h.c
theorem FB_size {B : Nat} (h : FB B x) : FB B (sizeR x) := by
  unfold sizeR
  split
  · exact h.neg
  · exact h
theorem isZ_nz {r : List Rat} (h : ¬ isZ r = true) : ∃ x ∈ r, x ≠ 0 := by
  refine Classical.byContradiction fun z => h ?_
  refine List.all_eq_true.mpr fun x hx => decide_eq_true ?_
  refine Classical.byContradiction fun q => z ⟨x, hx, fun e => q (by rw [e]; rfl)⟩
section
variable {n Ba Bc : Nat} {h : Hg}
theorem HF.all (F : HF Ba Bc n h) : ∀ x ∈ h.a ++ [h.b], FB Ba x := fun x hx => by
  rcases List.mem_append.mp hx with q | q
  · exact F.a x q
  · rw [List.mem_singleton.mp q]; exact F.b
theorem HF.lr (F : HF Ba Bc n h) (n6 : n ≤ 6) : (h.a ++ [h.b]).length ≤ 7 := by rw [List.length_append, F.len]; simp; omega
theorem HF.nl (F : HF Ba Bc n h) (n6 : n ≤ 6) : ∀ z ∈ planeN (h.a ++ [h.b]), z.natAbs < 2 ^ (8 * Ba + 1) := fun z hz => by
  have := Nat.mul_le_mul_left Ba (F.lr n6)
  exact pow2_mono (planeN_lt F.all z hz) (by omega)
theorem HF.sz (F : HF Ba Bc n h) (n6 : n ≤ 6) : FB (8 * Ba + 2) (szOf h) := by
  have l7 := Nat.mul_le_mul_left Ba (F.lr n6)
  refine FB_divInt ?_ ?_ ?_
  · have := lcmF_pos (l := 1) (r := h.a ++ [h.b]) (by decide); omega
  · rw [planeBy_abs]
    refine pow2_mono (gcdF_le (B := 8 * Ba + 1) ?_ (F.nl n6)) (by omega)
    exact Nat.pow_pos (by decide)
  · rw [Int.natAbs_natCast]
    exact pow2_mono (lcmF_lt (b := 1) (by decide) F.all) (by omega)
theorem HF.jm (F : HF Ba Bc n h) (n6 : n ≤ 6) : FB (Bc + (8 * Ba + 2)) (jmp h) := F.c.mul (FB_size (F.sz n6))
theorem HF.pl (F : HF Ba Bc n h) (n6 : n ≤ 6) : ∀ z ∈ planeP (h.a ++ [h.b]), z.natAbs < 2 ^ (8 * Ba + 2) := fun z hz => by
  obtain ⟨w, hw, rfl⟩ := List.mem_map.mp hz
  have := F.nl n6 w hw
  rw [fdiv_of_dvd (planeBy_dvd hw)]
  obtain ⟨c, hc⟩ := planeBy_dvd hw
  by_cases b0 : planeBy (h.a ++ [h.b]) = 0
  · rw [b0, Int.ediv_zero]; exact Nat.pow_pos (by decide)
  · have e2 : w / planeBy (h.a ++ [h.b]) = c := by rw [hc]; exact Int.mul_ediv_cancel_left _ b0
    rw [e2]
    refine Nat.lt_of_le_of_lt ?_ (pow2_mono this (by omega))
    rw [hc, Int.natAbs_mul]
    exact Nat.le_mul_of_pos_left _ (by omega)
theorem FB_int {z : Int} {B : Nat} (h : z.natAbs < 2 ^ B) (hB : 1 ≤ B) : FB B (z : Rat) := ⟨h, Nat.lt_of_lt_of_le (by show 1 < 2 ^ 1; decide) (Nat.pow_le_pow_right (by decide) hB)⟩
theorem HF.pA (F : HF Ba Bc n h) (n6 : n ≤ 6) : ∀ z ∈ (plOf h).1, z.natAbs < 2 ^ (8 * Ba + 2) := fun z hz => F.pl n6 z (by rw [plP]; exact List.mem_append_left _ hz)
theorem HF.pB (F : HF Ba Bc n h) (n6 : n ≤ 6) : (plOf h).2.natAbs < 2 ^ (8 * Ba + 2) := F.pl n6 _ (by rw [plP]; simp)
end
/-- what stands behind i hinges -/
structure NI (n C N W V i : Nat) (s : NS) : Prop where
  len : s.m.length ≤ i
  nd : (s.m.map (·.1)).Nodup
  v : ∀ e ∈ s.m, FB (1 + W * i) e.2 ∧ e.1.1.length = n ∧ (∀ z ∈ e.1.1, z.natAbs < 2 ^ N) ∧ e.1.2.natAbs < 2 ^ N
  dl : s.d.length = n
  d : ∀ x ∈ s.d, FB (C + V * i) x
  e : FB (C + V * i) s.e
/-- the sizes fit -/
structure NZ (Ba Bc N W V : Nat) : Prop where
  n : 8 * Ba + 2 ≤ N
  w : Bc + (8 * Ba + 2) + 1 ≤ W
  v : Bc + (8 * Ba + 2) + N + 1 ≤ V
  b1 : 1 ≤ Ba
  b : Ba ≤ 20000
theorem aval_FB {p : Pl2} {m : Tb} {B : Nat} (h : ∀ e ∈ m, FB B e.2) (hB : 1 ≤ B) : FB B (aval p m) := by
  unfold aval
  cases e : aget p m with
  | none => exact FB0.mono hB
  | some x => exact h _ (aget_mem e)
theorem NI.step {n C N W V Ba Bc i : Nat} {s : NS} {h : Hg} (Z : NZ Ba Bc N W V) (I : NI n C N W V i s) (F : HF Ba Bc n h) (n6 : n ≤ 6) : NI n C N W V (i + 1) (nstep s h) := by
  have hj := F.jm n6
  have z1 := Z.n
  have z2 := Z.w
  have z3 := Z.v
  have z4 := Z.b1
  have w1 : W * (i + 1) = W * i + W := Nat.mul_succ _ _
  have v1 : V * (i + 1) = V * i + V := Nat.mul_succ _ _
  unfold nstep
  split
  · exact ⟨Nat.le_succ_of_le I.len, I.nd, fun e he => let ⟨a, b⟩ := I.v e he; ⟨a.mono (by omega), b⟩, I.dl, fun x hx => (I.d x hx).mono (by omega), (I.e.add (F.c.mul (FB_cut F.b z4))).mono (by omega)⟩
  · have hav : FB (1 + W * i) (aval (plOf h) s.m) := aval_FB (fun e he => (I.v e he).1) (by omega)
    have la : (plOf h).1.length = n := by rw [List.length_map]; exact F.len
    have pA : ∀ z ∈ (plOf h).1, z.natAbs < 2 ^ N := fun z hz => pow2_mono (F.pA n6 z hz) z1
    have pB : (plOf h).2.natAbs < 2 ^ N := pow2_mono (F.pB n6) z1
    refine ⟨Nat.le_trans len_put (by have := I.len; omega), nodup_put I.nd, fun e he => ?_, ?_, ?_, ?_⟩
    · rcases mem_put he with q | q
      · rw [q]
        exact ⟨(hav.add hj).mono (by omega), la, pA, pB⟩
      · obtain ⟨a, b⟩ := I.v e q
        exact ⟨a.mono (by omega), b⟩
    · by_cases q : (szOf h).num < 0 <;> simp only [q, ↓reduceIte]
      · rw [addR_len (by rw [List.length_map, List.length_map, la]; exact I.dl)]; exact I.dl
      · exact I.dl
    · by_cases q : (szOf h).num < 0 <;> simp only [q, ↓reduceIte]
      · intro x hx
        refine (FB_addR (fun x hx => I.d x hx) (FB_smul hj.neg (C := N) fun a ha => ?_) x hx).mono (by omega)
        obtain ⟨z, hz, rfl⟩ := List.mem_map.mp ha
        exact FB_int (pA z hz) (by omega)
      · exact fun x hx => (I.d x hx).mono (by omega)
    · by_cases q : (szOf h).num < 0 <;> simp only [q, ↓reduceIte]
      · exact (I.e.add (hj.neg.mul (FB_int pB (by omega)))).mono (by omega)
      · exact I.e.mono (by omega)


def rowD (e : Pl2 × Rat) : D := .tup [.tup (intz e.1.1), .int e.1.2, fr e.2]
theorem rowsA_snoc {m : Tb} {ps : List Pl2} {p : Pl2} : rowsA m (ps ++ [p]) = if aval p m ≠ 0 then rowsA m ps ++ [(p, aval p m)] else rowsA m ps := by
  unfold rowsA
  rw [List.map_append, List.filter_append]
  by_cases q : aval p m = 0
  · rw [if_neg (by simpa using q), List.map_cons, List.filter_cons_of_neg (by simpa using q)]; simp
  · rw [if_pos q, List.map_cons, List.filter_cons_of_pos (by simpa using q)]; simp
theorem rowsA_len {m : Tb} {ps : List Pl2} : (rowsA m ps).length ≤ ps.length := by
  unfold rowsA
  refine Nat.le_trans (List.length_filter_le _ _) ?_
  rw [List.length_map]; exact Nat.le_refl _
section
variable {k : Nat} {S : Sto} {Q : D → Sto → Prop}
theorem normal_ok {n C N W V Ba Bc : Nat} {ni : Int} {hs : List Hg} {sa : List Rat} {sb : Rat} (Z : NZ Ba Bc N W V) (F : ∀ h ∈ hs, HF Ba Bc n h) (n6 : n ≤ 6) (lh : hs.length ≤ 60) (sl : sa.length = n) (fa : ∀ x ∈ sa, FB C x) (fb : FB C sb) (hC : C + V * hs.length + V < 990000) (hW : W * hs.length + W < 990000)
    (h : ∀ ps, ps.Perm ((nfold hs sa sb).m.map (·.1)) → ps.Pairwise (fun x y => lexLe (x.1 ++ [x.2]) (y.1 ++ [y.2])) → NI n C N W V hs.length (nfold hs sa sb) → Q (.tup [.tup ((rowsA (nfold hs sa sb).m ps).map rowD), str (nfold hs sa sb).d (nfold hs sa sb).e]) S) :
    Cl (k + 5) f_normal [netD ni hs sa sb] S Q := by
  refine ⟨_, rfl, rfl, ?_⟩
  wp_walk using RUN, b_normal, wE_dnew
  intro p hp
  refine loopF_ind (fun xs ρ S' => ∃ (s : NS) (hs' : List Hg) (i : Nat) (u5 u6 u7 u8 u9 u10 : Option D), S' = S.put p (flat s.m) ∧ xs = hs'.map hg ∧ (∀ h ∈ hs', HF Ba Bc n h) ∧ hs'.foldl nstep s = nfold hs sa sb ∧ NI n C N W V i s ∧ i + hs'.length = hs.length ∧
    ρ = [some (netD ni hs sa sb), some (.int ni), some (.tup (hs.map hg)), some (row s.d), some (fr s.e), u5, u6, u7, u8, u9, u10, none, some (.dct p), none, none]) ?_ ?_ ?_
  · exact ⟨⟨[], sa, sb⟩, hs, 0, none, none, none, none, none, none, rfl, rfl, F, rfl, ⟨Nat.le_refl _, List.nodup_nil, (fun e he => nomatch he), sl, fun x hx => (fa x hx).mono (by omega), fb.mono (by omega)⟩, by omega, rfl⟩
  · rintro ρ S' ⟨s, hs', i, u5, u6, u7, u8, u9, u10, rfl, e, _, e2, I, hi, rfl⟩
    cases hs' with
    | cons a l => cases e
    | nil =>
      have e2 : s = nfold hs sa sb := e2
      have hi : i = hs.length := hi
      subst hi
      rw [← e2] at h
      wp_walk using RUN, wE_dsort
      refine dsort_tb (n := n) Sto.put_same (by have := I.len; omega) (fun e he => (I.v e he).2.1) fun ps hps hsort => ?_
      have lps : ps.length ≤ 60 := by rw [hps.length_eq, List.length_map]; have := I.len; omega
      try wp_walk using RUN
      refine loopC_ind (fun xs acc S' => S' = S.put p (flat s.m) ∧ ∃ p1 p2 : List Pl2, xs = p2.map pkD ∧ ps = p1 ++ p2 ∧ acc = (rowsA s.m p1).map rowD) ⟨rfl, [], ps, rfl, rfl, rfl⟩ ?_ ?_
      · rintro acc S' ⟨rfl, p1, p2, e, e3, rfl⟩
        cases p2 with
        | cons a l => cases e
        | nil =>
          rw [List.append_nil] at e3
          subst e3
          try wp_walk using RUN
          exact .sub (Sub.put hp) (h _ hps hsort I)
      · rintro x xs next ih acc S' ⟨rfl, p1, p2, e, e3, rfl⟩
        cases p2 with
        | nil => cases e
        | cons q p2 =>
          cases e
          have hq : q ∈ s.m.map (·.1) := hps.mem_iff.mp (by rw [e3]; simp)
          obtain ⟨en, hen, eq⟩ := List.mem_map.mp hq
          have eg : aget q s.m = some (aval q s.m) := by
            have := aget_of I.nd hen
            rw [eq] at this
            show _ = some ((aget q s.m).getD 0)
            rw [this]; rfl
          have lac : (rowsA s.m p1).length ≤ 60 := by
            have := congrArg List.length e3
            rw [List.length_append] at this
            have := rowsA_len (m := s.m) (ps := p1)
            omega
          wp_walk using RUN, bTpk, List.length_map, wE_dget
          refine ⟨by unfold LIM; omega, dget_tb (p := q) Sto.put_same eg ?_⟩
          try wp_walk using RUN
          refine ite3 (fun z => ?_) (fun z => ?_)
          · refine dget_tb (p := q) Sto.put_same eg ?_
            try wp_walk using RUN
            refine ih _ _ ⟨rfl, p1 ++ [q], p2, rfl, by rw [e3]; simp, ?_⟩
            rw [rowsA_snoc, if_pos (by simpa using z)]
            simp [rowD]
          · refine ih _ _ ⟨rfl, p1 ++ [q], p2, rfl, by rw [e3]; simp, ?_⟩
            rw [rowsA_snoc, if_neg (by simpa using z)]
  · rintro x xs next ih ρ S' ⟨s, hs', i, u5, u6, u7, u8, u9, u10, rfl, e, G, e2, I, hi, rfl⟩
    cases hs' with
    | nil => cases e
    | cons g hs' =>
      cases e
      rw [List.length_cons] at hi
      have Fg := G g List.mem_cons_self
      have I2 := I.step Z Fg n6
      have z1 := Z.n
      have z2 := Z.w
      have z3 := Z.v
      have z4 := Z.b1
      have z5 := Z.b
      have e2 : hs'.foldl nstep (nstep s g) = nfold hs sa sb := e2
      have i60 : i ≤ hs.length := by omega
      have i2 : W * i ≤ W * hs.length := Nat.mul_le_mul_left _ i60
      have i3 : V * i ≤ V * hs.length := Nat.mul_le_mul_left _ i60
      wp_walk using RUN, bThg
      refine is_nothing_ok ?_
      try wp_walk using RUN
      refine ite3 (fun q => ?_) (fun q => ?_)
      · refine cut_ok ?_
        try wp_walk using RUN
        refine product_ok Fg.c (FB_cut Fg.b z4) (by omega) ?_
        try wp_walk using RUN
        refine plus_ok I.e (Fg.c.mul (FB_cut Fg.b z4)) (by omega) ?_
        try wp_walk using RUN
        refine ih _ _ ⟨nstep s g, hs', i + 1, some (row g.a), some (fr g.b), some (fr g.c), u8, u9, u10, ?_, rfl, fun h hh => G h (List.mem_cons_of_mem _ hh), e2, I2, by omega, ?_⟩
        · unfold nstep; rw [if_pos q]
        · unfold nstep; rw [if_pos q]
      · have q' : ¬ isZ g.a = true := by simpa using q
        have Fj := Fg.jm n6
        refine plane_of_ok Fg.a Fg.b (by rw [Fg.len]; exact n6) (by omega) (isZ_nz q') ?_
        wp_walk using RUN, rRefD, wE_dgeto, wC_dput
        refine size_of_ok ?_
        try wp_walk using RUN
        refine product_ok Fg.c (FB_size (Fg.sz n6)) (by omega) ?_
        wp_walk using RUN, rRefD, wE_dgeto, wC_dput
        have eS : (S.put p (flat s.m)) p = some (flat s.m) := Sto.put_same
        refine dgeto_tb (p := plOf g) eS ?_
        try wp_walk using RUN
        have hav : FB (1 + W * i) (aval (plOf g) s.m) := aval_FB (fun e he => (I.v e he).1) (by omega)
        refine plus_ok hav Fj (by omega) ?_
        try wp_walk using RUN
        refine dput_tb (p := plOf g) eS (by have := I.len; omega) ?_
        try wp_walk using RUN, Sto.put_put
        have fin : ∀ u5 u6 u7 u8 u9 u10, next [some (netD ni hs sa sb), some (.int ni), some (.tup (hs.map hg)), some (row (nstep s g).d), some (fr (nstep s g).e), u5, u6, u7, u8, u9, u10, none, some (.dct p), none, none] (S.put p (flat (nstep s g).m)) := fun u5 u6 u7 u8 u9 u10 =>
          ih _ _ ⟨nstep s g, hs', i + 1, _, _, _, _, _, _, rfl, rfl, fun h hh => G h (List.mem_cons_of_mem _ hh), e2, I2, by omega, rfl⟩
        unfold nstep at fin
        rw [if_neg q'] at fin
        refine ite3 (fun z => ?_) (fun z => ?_)
        · simp only [z, ↓reduceIte] at fin
          refine negative_ok ?_
          try wp_walk using RUN
          refine whole_row_ok (by rw [List.length_map]; have := Fg.len; omega) ?_
          try wp_walk using RUN
          have fA : ∀ a ∈ rati (plOf g).1, FB (8 * Ba + 2) a := fun a ha => by
            obtain ⟨z, hz, rfl⟩ := List.mem_map.mp ha
            exact FB_int (Fg.pA n6 z hz) (by omega)
          refine scaled_ok Fj.neg fA (by omega) (by rw [List.length_map, List.length_map]; have := Fg.len; omega) ?_
          try wp_walk using RUN
          refine added_ok (fun x hx => I.d x hx) (FB_smul Fj.neg fA) (by omega) (by rw [I.dl]; omega) ?_
          try wp_walk using RUN
          refine negative_ok ?_
          try wp_walk using RUN
          have fB := FB_int (Fg.pB n6) (by omega)
          refine product_ok Fj.neg fB (by omega) ?_
          try wp_walk using RUN
          refine plus_ok I.e (Fj.neg.mul fB) (by omega) ?_
          try wp_walk using RUN
          exact fin _ _ _ _ _ _
        · simp only [z, ↓reduceIte] at fin
          exact fin _ _ _ _ _ _
end


/-! ### the plain law of the normal pair -/
theorem dotR_addL : ∀ {a b v : List Rat}, a.length = b.length → dotR (addR a b) v = dotR a v + dotR b v
  | [], [], v, _ => by
    show dotR [] v = dotR [] v + dotR [] v
    rw [dotR_nil (.inl rfl), Rat.add_zero]
  | [], _ :: _, _, h => by cases h
  | _ :: _, [], _, h => by cases h
  | x :: a, y :: b, [], h => by rw [dotR_nil (.inr rfl), dotR_nil (.inr rfl), dotR_nil (.inr rfl), Rat.add_zero]
  | x :: a, y :: b, z :: v, h => by
    have ih := dotR_addL (a := a) (b := b) (v := v) (by simpa using h)
    show (x + y) * z + dotR (addR a b) v = x * z + dotR a v + (y * z + dotR b v)
    rw [ih]; grind
theorem dotR_isZ : ∀ {a v : List Rat}, isZ a = true → dotR a v = 0
  | [], _, _ => dotR_nil (.inl rfl)
  | _ :: _, [], _ => dotR_nil (.inr rfl)
  | x :: a, y :: v, h => by
    have h' : (decide (x.num = 0) && isZ a) = true := h
    rw [Bool.and_eq_true] at h'
    show x * y + dotR a v = 0
    rw [dotR_isZ h'.2, Rat.num_eq_zero.mp (of_decide_eq_true h'.1)]; grind
theorem cut_pos {y : Rat} (h : 0 ≤ y) : cut y = y := by
  unfold cut
  split
  · rfl
  · rename_i q
    have : ¬ 0 < y := fun z => q (num_pos.mpr z)
    grind
theorem cut_npos {y : Rat} (h : y ≤ 0) : cut y = 0 := by
  unfold cut
  split
  · rename_i q
    have := num_pos.mp q
    grind
  · rfl
theorem cut_neg (y : Rat) : cut (-y) = cut y - y := by
  rcases Rat.le_total (a := 0) (b := y) with h | h
  · rw [cut_pos h, cut_npos (by grind)]; grind
  · rw [cut_npos h, cut_pos (by grind)]; grind
theorem num_neg {s : Rat} : s.num < 0 ↔ s < 0 := by rw [Rat.lt_iff]; simp
theorem hinge_cut {s y c : Rat} (h : s ≠ 0) : c * cut (s * y) = c * sizeR s * cut y + (if s.num < 0 then -(c * sizeR s) * y else 0) := by
  unfold sizeR
  by_cases q : s.num < 0
  · rw [if_pos q, if_pos q]
    have q' := num_neg.mp q
    have e : cut (s * y) = -s * cut (-y) := by rw [← cut_mul (by grind : (0 : Rat) < -s)]; congr 1; grind
    rw [e, cut_neg]; grind
  · rw [if_neg q, if_neg q]
    have q' : 0 < s := by
      have : ¬ s < 0 := fun z => q (num_neg.mpr z)
      grind
    rw [cut_mul q']; grind
theorem plane_ab {h : Hg} (nz : ¬ isZ h.a = true) : szOf h ≠ 0 ∧ h.a = smul (szOf h) (rati (plOf h).1) ∧ h.b = szOf h * ((plOf h).2 : Rat) := by
  obtain ⟨x, hx, h0⟩ := isZ_nz nz
  have P := plane_is (r := h.a ++ [h.b]) ⟨x, List.mem_append_left _ hx, h0⟩
  have e := P.eq
  rw [plP, List.map_append] at e
  obtain ⟨e1, e2⟩ := List.append_inj' e rfl
  refine ⟨P.nz, ?_, ?_⟩
  · show h.a = ((plA h.a h.b).map fun p : Int => (p : Rat)).map fun a => szOf h * a
    rw [List.map_map]; exact e1
  · exact (List.cons.inj e2).1
def gAt (τ : Rat) (x : List Rat) (p : Pl2) : Rat := cut (dotR (rati p.1) x + τ * (p.2 : Rat))
def psi (τ : Rat) (x : List Rat) (s : NS) : Rat := dotR s.d x + τ * s.e + sumA (gAt τ x) s.m
def sumT (τ : Rat) (x : List Rat) : List Hg → Rat
  | [] => 0
  | h :: r => h.c * cut (dotR h.a x + τ * h.b) + sumT τ x r
theorem psi_step {τ : Rat} {x : List Rat} {s : NS} {h : Hg} (t0 : 0 ≤ τ) (l : s.d.length = h.a.length) : psi τ x (nstep s h) = psi τ x s + h.c * cut (dotR h.a x + τ * h.b) := by
  unfold nstep
  by_cases z : isZ h.a = true
  · rw [if_pos z, dotR_isZ z]
    have e : cut (0 + τ * h.b) = τ * cut h.b := by
      rw [Rat.zero_add]
      by_cases q : τ = 0
      · rw [q, Rat.zero_mul, Rat.zero_mul]; exact cut_pos (by grind)
      · exact cut_mul (by grind)
    rw [e]
    show dotR s.d x + τ * (s.e + h.c * cut h.b) + sumA (gAt τ x) s.m = dotR s.d x + τ * s.e + sumA (gAt τ x) s.m + h.c * (τ * cut h.b)
    grind
  · rw [if_neg z]
    obtain ⟨hs, ha, hb⟩ := plane_ab z
    have la : (smul (-jmp h) (rati (plOf h).1)).length = h.a.length := by simp
    have ey : dotR h.a x + τ * h.b = szOf h * (dotR (rati (plOf h).1) x + τ * ((plOf h).2 : Rat)) := by
      conv => lhs; rw [ha, hb]
      rw [dotR_mul]; grind
    rw [ey, hinge_cut hs]
    unfold psi
    rw [sum_put]
    show _ = _ + (jmp h * gAt τ x (plOf h) + _)
    by_cases q : (szOf h).num < 0
    · simp only [q, ↓reduceIte]
      rw [dotR_addL (l.trans la.symm), dotR_mul]
      grind
    · simp only [q, ↓reduceIte]
      grind
theorem psi_fold {τ : Rat} {x : List Rat} {n : Nat} (t0 : 0 ≤ τ) : ∀ {hs : List Hg} {s : NS}, (∀ h ∈ hs, h.a.length = n) → s.d.length = n → psi τ x (hs.foldl nstep s) = psi τ x s + sumT τ x hs
  | [], s, _, _ => (Rat.add_zero _).symm
  | h :: hs, s, g, l => by
    have gh := g h List.mem_cons_self
    have l2 : (nstep s h).d.length = n := by
      unfold nstep
      split
      · exact l
      · by_cases q : (szOf h).num < 0 <;> simp only [q, ↓reduceIte]
        · rw [addR_len (by simp; omega)]; exact l
        · exact l
    show psi τ x (hs.foldl nstep (nstep s h)) = psi τ x s + (h.c * cut (dotR h.a x + τ * h.b) + sumT τ x hs)
    rw [psi_fold t0 (fun z hz => g z (List.mem_cons_of_mem _ hz)) l2, psi_step t0 (l.trans gh.symm)]
    grind
/-- what the normal pair answers -/
theorem normal_law {τ : Rat} {x : List Rat} {n : Nat} {hs : List Hg} {sa : List Rat} {sb : Rat} {ps : List Pl2} (t0 : 0 ≤ τ) (g : ∀ h ∈ hs, h.a.length = n) (l : sa.length = n) (nd : ((nfold hs sa sb).m.map (·.1)).Nodup) (hp : ps.Perm ((nfold hs sa sb).m.map (·.1))) :
    dotR (nfold hs sa sb).d x + τ * (nfold hs sa sb).e + sumA (gAt τ x) (rowsA (nfold hs sa sb).m ps) = dotR sa x + τ * sb + sumT τ x hs := by
  rw [sum_rows nd hp]
  have := psi_fold (τ := τ) (x := x) t0 (s := ⟨[], sa, sb⟩) g l
  show psi τ x (nfold hs sa sb) = _
  unfold nfold
  rw [this]
  show dotR sa x + τ * sb + 0 + _ = _
  grind


/-! ### the law's own normal pair -/
theorem fr_int1 (p : Int) : D.tup [.int p, .int 1] = fr (p : Rat) := rfl
theorem isZ_len {r : List Rat} : isZ r = true ↔ (r.filter fun x => decide (x.num ≠ 0)).length = 0 := by
  unfold isZ
  rw [List.all_eq_true, List.length_eq_zero_iff, List.filter_eq_nil_iff]
  constructor
  · intro h x hx
    have := h x hx
    simpa using this
  · intro h x hx
    have := h x hx
    simpa using this


/-! ### one normal pair for nets alike -/
theorem lexLe_anti : ∀ {l r : List Int}, lexLe l r → lexLe r l → l = r
  | [], [], _, _ => rfl
  | [], _ :: _, _, h => h.elim
  | _ :: _, [], h, _ => h.elim
  | a :: l, b :: r, g1, g2 => by
    have q1 : a < b ∨ (a = b ∧ lexLe l r) := g1
    have q2 : b < a ∨ (b = a ∧ lexLe r l) := g2
    have e : a = b := by
      rcases q1 with q | ⟨q, _⟩
      · rcases q2 with q3 | ⟨q3, _⟩ <;> omega
      · exact q
    have l1 : lexLe l r := by
      rcases q1 with q | ⟨_, q⟩
      · omega
      · exact q
    have l2 : lexLe r l := by
      rcases q2 with q | ⟨_, q⟩
      · omega
      · exact q
    rw [e, lexLe_anti l1 l2]
theorem pk_inj {x y : Pl2} (h : x.1 ++ [x.2] = y.1 ++ [y.2]) : x = y := by
  obtain ⟨h1, h2⟩ := List.append_inj' h rfl
  exact Prod.ext h1 (List.cons.inj h2).1
theorem uniq_list {α : Type} {R : α → α → Prop} (as : ∀ a b, R a b → R b a → False) : ∀ {l m : List α}, l.Pairwise R → m.Pairwise R → (∀ x, x ∈ l ↔ x ∈ m) → l = m
  | [], [], _, _, _ => rfl
  | [], b :: m, _, _, h => absurd ((h b).mpr List.mem_cons_self) (by simp)
  | a :: l, [], _, _, h => absurd ((h a).mp List.mem_cons_self) (by simp)
  | a :: l, b :: m, h1, h2, h => by
    rw [List.pairwise_cons] at h1 h2
    have e : a = b := by
      rcases List.mem_cons.mp ((h a).mp List.mem_cons_self) with q | q
      · exact q
      · rcases List.mem_cons.mp ((h b).mpr List.mem_cons_self) with q2 | q2
        · exact q2.symm
        · exact (as _ _ (h1.1 b q2) (h2.1 a q)).elim
    subst e
    have na : ∀ {l : List α}, (∀ x ∈ l, R a x) → a ∉ l := fun g z => as _ _ (g a z) (g a z)
    rw [uniq_list as h1.2 h2.2 fun x => ⟨fun z => ?_, fun z => ?_⟩]
    · rcases List.mem_cons.mp ((h x).mp (List.mem_cons_of_mem _ z)) with q | q
      · rw [q] at z; exact absurd z (na h1.1)
      · exact q
    · rcases List.mem_cons.mp ((h x).mpr (List.mem_cons_of_mem _ z)) with q | q
      · rw [q] at z; exact absurd z (na h2.1)
      · exact q
abbrev lexP (x y : Pl2) : Prop := lexLe (x.1 ++ [x.2]) (y.1 ++ [y.2])
theorem strict {ps : List Pl2} (nd : ps.Nodup) (h : ps.Pairwise lexP) : ps.Pairwise fun x y => lexP x y ∧ x ≠ y := h.and nd
theorem strict_as (x y : Pl2) (h1 : lexP x y ∧ x ≠ y) (h2 : lexP y x ∧ y ≠ x) : False := h1.2 (pk_inj (lexLe_anti h1.1 h2.1))
theorem rows_pw {m : Tb} {ps : List Pl2} (nd : ps.Nodup) (h : ps.Pairwise lexP) : (rowsA m ps).Pairwise fun x y => lexP x.1 y.1 ∧ x.1 ≠ y.1 := by
  unfold rowsA
  refine List.Pairwise.filter _ ?_
  rw [List.pairwise_map]
  exact strict nd h
theorem mem_rows {m : Tb} {ps : List Pl2} {e : Pl2 × Rat} : e ∈ rowsA m ps ↔ e.1 ∈ ps ∧ e.2 = aval e.1 m ∧ e.2 ≠ 0 := by
  unfold rowsA
  rw [List.mem_filter, List.mem_map]
  constructor
  · rintro ⟨⟨p, hp, rfl⟩, h⟩
    exact ⟨hp, rfl, by simpa using h⟩
  · rintro ⟨h1, h2, h3⟩
    exact ⟨⟨e.1, h1, Prod.ext rfl h2.symm⟩, by simpa using h3⟩
def ind (p q : Pl2) : Rat := if q = p then 1 else 0
theorem sum_none {p : Pl2} : ∀ {m : Tb}, p ∉ m.map (·.1) → sumA (ind p) m = 0
  | [], _ => rfl
  | e :: r, h => by
    rw [List.map_cons, List.mem_cons, not_or] at h
    show e.2 * ind p e.1 + sumA (ind p) r = 0
    rw [sum_none h.2]
    unfold ind
    rw [if_neg fun z => h.1 z.symm]
    grind
theorem aval_sum {p : Pl2} : ∀ {m : Tb}, (m.map (·.1)).Nodup → aval p m = sumA (ind p) m
  | [], _ => rfl
  | e :: r, h => by
    rw [List.map_cons, List.nodup_cons] at h
    show (if e.1 = p then some e.2 else aget p r).getD 0 = e.2 * ind p e.1 + sumA (ind p) r
    unfold ind
    by_cases q : e.1 = p
    · rw [if_pos q, if_pos q]
      have := sum_none (p := p) (m := r) (by rw [← q]; exact h.1)
      unfold ind at this
      rw [this]
      show e.2 = _
      grind
    · rw [if_neg q, if_neg q]
      have := aval_sum (p := p) h.2
      unfold ind at this
      show aval p r = _
      rw [this]; grind
theorem aval_key {p : Pl2} {m : Tb} (h : aval p m ≠ 0) : p ∈ m.map (·.1) := by
  unfold aval at h
  cases e : aget p m with
  | none => rw [e] at h; exact absurd rfl h
  | some x => exact List.mem_map.mpr ⟨_, aget_mem e, rfl⟩
theorem rows_eq {m m2 : Tb} {ps ps2 : List Pl2} (nd : (m.map (·.1)).Nodup) (nd2 : (m2.map (·.1)).Nodup) (hp : ps.Perm (m.map (·.1))) (hp2 : ps2.Perm (m2.map (·.1))) (s1 : ps.Pairwise lexP) (s2 : ps2.Pairwise lexP) (hs : ∀ G, sumA G m = sumA G m2) : rowsA m ps = rowsA m2 ps2 := by
  have av : ∀ p, aval p m = aval p m2 := fun p => by rw [aval_sum nd, aval_sum nd2, hs]
  refine uniq_list (fun a b h1 h2 => strict_as a.1 b.1 h1 h2) (rows_pw (hp.nodup_iff.mpr nd) s1) (rows_pw (hp2.nodup_iff.mpr nd2) s2) fun x => ?_
  rw [mem_rows, mem_rows, av]
  constructor
  · rintro ⟨_, h2, h3⟩
    exact ⟨hp2.mem_iff.mpr (aval_key (by rw [← h2]; exact h3)), h2, h3⟩
  · rintro ⟨_, h2, h3⟩
    exact ⟨hp.mem_iff.mpr (aval_key (by rw [av, ← h2]; exact h3)), h2, h3⟩
/-! sums over the hinges -/
def lsum (f : Hg → Rat) : List Hg → Rat
  | [] => 0
  | h :: r => f h + lsum f r
theorem lsum_perm {f : Hg → Rat} {l m : List Hg} (h : l.Perm m) : lsum f l = lsum f m := by
  induction h with
  | nil => rfl
  | cons x _ ih => show f x + _ = f x + _; rw [ih]
  | swap x y l => show f y + (f x + lsum f l) = f x + (f y + lsum f l); grind
  | trans _ _ a b => rw [a, b]
theorem lsum_app {f : Hg → Rat} : ∀ {l m : List Hg}, lsum f (l ++ m) = lsum f l + lsum f m
  | [], m => by show _ = 0 + _; rw [Rat.zero_add]; rfl
  | h :: l, m => by show f h + lsum f (l ++ m) = f h + lsum f l + _; rw [lsum_app, Rat.add_assoc]
theorem lsum_one {f : Hg → Rat} {h : Hg} : lsum f [h] = f h := Rat.add_zero _
def Jg (G : Pl2 → Rat) (h : Hg) : Rat := if isZ h.a = true then 0 else jmp h * G (plOf h)
def Dg (x : List Rat) (h : Hg) : Rat := if isZ h.a = true then 0 else if (szOf h).num < 0 then -jmp h * dotR (rati (plOf h).1) x else 0
def Eg (h : Hg) : Rat := if isZ h.a = true then h.c * cut h.b else if (szOf h).num < 0 then -jmp h * ((plOf h).2 : Rat) else 0
theorem fold_J {G : Pl2 → Rat} : ∀ {hs : List Hg} {s : NS}, sumA G (hs.foldl nstep s).m = sumA G s.m + lsum (Jg G) hs
  | [], s => (Rat.add_zero _).symm
  | h :: hs, s => by
    show sumA G (hs.foldl nstep (nstep s h)).m = sumA G s.m + (Jg G h + lsum (Jg G) hs)
    rw [fold_J]
    unfold nstep Jg
    by_cases q : isZ h.a = true
    · rw [if_pos q, if_pos q]; show sumA G s.m + _ = _; grind
    · rw [if_neg q, if_neg q]
      show sumA G (aput (plOf h) (aval (plOf h) s.m + jmp h) s.m) + _ = _
      rw [sum_put]; grind
theorem step_dl {s : NS} {h : Hg} (l : s.d.length = h.a.length) : (nstep s h).d.length = s.d.length := by
  unfold nstep
  split
  · rfl
  · by_cases q : (szOf h).num < 0 <;> simp only [q, ↓reduceIte]
    rw [addR_len (by simp; omega)]
theorem fold_D {x : List Rat} {n : Nat} : ∀ {hs : List Hg} {s : NS}, (∀ h ∈ hs, h.a.length = n) → s.d.length = n → dotR (hs.foldl nstep s).d x = dotR s.d x + lsum (Dg x) hs ∧ (hs.foldl nstep s).d.length = n
  | [], s, _, l => ⟨(Rat.add_zero _).symm, l⟩
  | h :: hs, s, g, l => by
    have gh := g h List.mem_cons_self
    have l2 := (step_dl (s := s) (h := h) (l.trans gh.symm)).trans l
    obtain ⟨e, el⟩ := fold_D (x := x) (hs := hs) (s := nstep s h) (fun z hz => g z (List.mem_cons_of_mem _ hz)) l2
    refine ⟨?_, el⟩
    show dotR (hs.foldl nstep (nstep s h)).d x = dotR s.d x + (Dg x h + lsum (Dg x) hs)
    rw [e]
    unfold nstep Dg
    by_cases q : isZ h.a = true
    · rw [if_pos q, if_pos q]; show dotR s.d x + _ = _; grind
    · rw [if_neg q, if_neg q]
      by_cases q2 : (szOf h).num < 0 <;> simp only [q2, ↓reduceIte]
      · rw [dotR_addL (by simp; omega), dotR_mul]; grind
      · grind
theorem fold_E : ∀ {hs : List Hg} {s : NS}, (hs.foldl nstep s).e = s.e + lsum Eg hs
  | [], s => (Rat.add_zero _).symm
  | h :: hs, s => by
    show (hs.foldl nstep (nstep s h)).e = s.e + (Eg h + lsum Eg hs)
    rw [fold_E]
    unfold nstep Eg
    by_cases q : isZ h.a = true
    · rw [if_pos q, if_pos q]; show s.e + h.c * cut h.b + _ = _; grind
    · rw [if_neg q, if_neg q]
      by_cases q2 : (szOf h).num < 0 <;> simp only [q2, ↓reduceIte] <;> grind
theorem dotR_ext : ∀ {a b : List Rat}, a.length = b.length → (∀ x, dotR a x = dotR b x) → a = b
  | [], [], _, _ => rfl
  | [], _ :: _, h, _ => by cases h
  | _ :: _, [], h, _ => by cases h
  | x :: a, y :: b, h, g => by
    have e : x = y := by
      have := g [1]
      rw [show dotR (x :: a) [1] = x * 1 + dotR a [] from rfl, show dotR (y :: b) [1] = y * 1 + dotR b [] from rfl, dotR_nil (.inr rfl), dotR_nil (.inr rfl)] at this
      grind
    subst e
    rw [dotR_ext (a := a) (b := b) (by simpa using h) fun z => ?_]
    have := g (0 :: z)
    rw [show dotR (x :: a) (0 :: z) = x * 0 + dotR a z from rfl, show dotR (x :: b) (0 :: z) = x * 0 + dotR b z from rfl] at this
    grind
/-- alike in all sums: one normal pair -/
structure Alk (n : Nat) (hs : List Hg) (sa : List Rat) (sb : Rat) (hs2 : List Hg) (sa2 : List Rat) (sb2 : Rat) : Prop where
  l1 : ∀ h ∈ hs, h.a.length = n
  l2 : ∀ h ∈ hs2, h.a.length = n
  s1 : sa.length = n
  s2 : sa2.length = n
  j : ∀ G, lsum (Jg G) hs = lsum (Jg G) hs2
  d : ∀ x, dotR sa x + lsum (Dg x) hs = dotR sa2 x + lsum (Dg x) hs2
  e : sb + lsum Eg hs = sb2 + lsum Eg hs2
theorem Alk.pair {n : Nat} {hs hs2 : List Hg} {sa sa2 : List Rat} {sb sb2 : Rat} (A : Alk n hs sa sb hs2 sa2 sb2) : (nfold hs sa sb).d = (nfold hs2 sa2 sb2).d ∧ (nfold hs sa sb).e = (nfold hs2 sa2 sb2).e ∧ ∀ G, sumA G (nfold hs sa sb).m = sumA G (nfold hs2 sa2 sb2).m := by
  have D1 := fun x => fold_D (x := x) (s := ⟨[], sa, sb⟩) A.l1 A.s1
  have D2 := fun x => fold_D (x := x) (s := ⟨[], sa2, sb2⟩) A.l2 A.s2
  refine ⟨dotR_ext ((D1 []).2.trans (D2 []).2.symm) fun x => ?_, ?_, fun G => ?_⟩
  · exact (D1 x).1.trans ((A.d x).trans (D2 x).1.symm)
  · have a1 := fold_E (hs := hs) (s := ⟨[], sa, sb⟩)
    have a2 := fold_E (hs := hs2) (s := ⟨[], sa2, sb2⟩)
    exact a1.trans (A.e.trans a2.symm)
  · have a1 := fold_J (G := G) (hs := hs) (s := ⟨[], sa, sb⟩)
    have a2 := fold_J (G := G) (hs := hs2) (s := ⟨[], sa2, sb2⟩)
    rw [A.j G] at a1
    exact a1.trans a2.symm


/-! a hinge longer or turned -/
theorem isZ_smul {t : Rat} (ht : t ≠ 0) : ∀ {a : List Rat}, isZ (smul t a) = isZ a
  | [] => rfl
  | x :: a => by
    show (decide ((t * x).num = 0) && isZ (smul t a)) = (decide (x.num = 0) && isZ a)
    rw [isZ_smul ht]
    congr 1
    refine decide_eq_decide.mpr ⟨fun h => ?_, fun h => ?_⟩
    · have := Rat.num_eq_zero.mp h
      rw [show x = t⁻¹ * (t * x) by grind, this]; simp
    · rw [Rat.num_eq_zero.mp h, Rat.mul_zero]; rfl
theorem pl_smul {t : Rat} (ht : t ≠ 0) {h : Hg} (nz : ¬ isZ h.a = true) (c : Rat) : plOf ⟨smul t h.a, t * h.b, c⟩ = plOf h ∧ szOf ⟨smul t h.a, t * h.b, c⟩ = szOf h * t := by
  obtain ⟨x, hx, h0⟩ := isZ_nz nz
  have P := plane_is (r := h.a ++ [h.b]) ⟨x, List.mem_append_left _ hx, h0⟩
  have er : smul t h.a ++ [t * h.b] = (h.a ++ [h.b]).map (t * ·) := by rw [List.map_append]; rfl
  have P2 := plane_is (r := smul t h.a ++ [t * h.b]) ⟨t * x, List.mem_append_left _ (List.mem_map_of_mem hx), fun z => h0 (by
    rcases Rat.mul_eq_zero.mp z with w | w
    · exact absurd w ht
    · exact w)⟩
  have P3 := P2
  rw [er] at P3
  obtain ⟨e1, e2⟩ := plane_one ht P P3
  rw [← er, plP, plP] at e1
  rw [← er] at e2
  exact ⟨pk_inj (x := plOf ⟨smul t h.a, t * h.b, c⟩) (y := plOf h) e1, e2⟩
theorem size_pos {s t : Rat} (ht : 0 < t) : sizeR (s * t) = t * sizeR s ∧ ((s * t).num < 0 ↔ s.num < 0) := by
  have e : (s * t).num < 0 ↔ s.num < 0 := by
    rw [num_neg, num_neg]
    constructor
    · intro h
      refine Rat.not_le.mp fun z => ?_
      have := Rat.mul_nonneg z (Rat.le_of_lt ht)
      grind
    · intro h
      have := Rat.mul_lt_mul_of_pos_right h ht
      grind
  refine ⟨?_, e⟩
  unfold sizeR
  by_cases q : s.num < 0
  · rw [if_pos q, if_pos (e.mpr q)]; grind
  · rw [if_neg q, if_neg (fun z => q (e.mp z))]; grind
/-- longer -/
theorem long_ok {t u : Rat} (ht : 0 < t) (hu : u * t = 1) (h : Hg) : (∀ G, Jg G ⟨smul t h.a, t * h.b, h.c * u⟩ = Jg G h) ∧ (∀ x, Dg x ⟨smul t h.a, t * h.b, h.c * u⟩ = Dg x h) ∧ Eg ⟨smul t h.a, t * h.b, h.c * u⟩ = Eg h := by
  have t0 : t ≠ 0 := by grind
  unfold Jg Dg Eg
  simp only [isZ_smul t0]
  by_cases z : isZ h.a = true
  · simp only [z, ↓reduceIte]
    refine ⟨fun _ => trivial, fun _ => trivial, ?_⟩
    rw [cut_mul ht]; grind
  · obtain ⟨e1, e2⟩ := pl_smul t0 z (h.c * u)
    obtain ⟨e3, e4⟩ := size_pos (s := szOf h) ht
    have e1a : plA (smul t h.a) (t * h.b) = plA h.a h.b := congrArg Prod.fst e1
    have e1b : plB (smul t h.a) (t * h.b) = plB h.a h.b := congrArg Prod.snd e1
    have ej : jmp ⟨smul t h.a, t * h.b, h.c * u⟩ = jmp h := by
      show h.c * u * sizeR (szOf ⟨smul t h.a, t * h.b, h.c * u⟩) = h.c * sizeR (szOf h)
      rw [e2, e3]; grind
    simp only [z, ↓reduceIte, Bool.false_eq_true]
    refine ⟨fun G => by rw [ej, e1], fun x => ?_, ?_⟩
    · rw [ej, e1a, e2]
      by_cases q : (szOf h).num < 0
      · rw [if_pos q, if_pos (e4.mpr q)]
      · rw [if_neg q, if_neg (fun w => q (e4.mp w))]
    · rw [ej, e1b, e2]
      by_cases q : (szOf h).num < 0
      · rw [if_pos q, if_pos (e4.mpr q)]
      · rw [if_neg q, if_neg (fun w => q (e4.mp w))]
/-- turned -/
theorem turn_ok (h : Hg) : (∀ G, Jg G ⟨smul (-1) h.a, -h.b, h.c⟩ = Jg G h) ∧ (∀ x, h.c * dotR h.a x + Dg x ⟨smul (-1) h.a, -h.b, h.c⟩ = Dg x h) ∧ h.c * h.b + Eg ⟨smul (-1) h.a, -h.b, h.c⟩ = Eg h := by
  have t0 : (-1 : Rat) ≠ 0 := by decide
  have eb : -h.b = -1 * h.b := by grind
  rw [eb]
  unfold Jg Dg Eg
  simp only [isZ_smul t0]
  by_cases z : isZ h.a = true
  · simp only [z, ↓reduceIte]
    refine ⟨fun _ => trivial, fun x => ?_, ?_⟩
    · rw [dotR_isZ z]; grind
    · rw [show (-1 : Rat) * h.b = -h.b by grind, cut_neg]; grind
  · obtain ⟨e1, e2⟩ := pl_smul t0 z h.c
    have e1a : plA (smul (-1) h.a) (-1 * h.b) = plA h.a h.b := congrArg Prod.fst e1
    have e1b : plB (smul (-1) h.a) (-1 * h.b) = plB h.a h.b := congrArg Prod.snd e1
    obtain ⟨hs, ha, hb⟩ := plane_ab z
    have ed : ∀ x, dotR h.a x = szOf h * dotR (rati (plOf h).1) x := fun x => by
      conv => lhs; rw [ha]
      rw [dotR_mul]
    have es : szOf ⟨smul (-1) h.a, -1 * h.b, h.c⟩ = -szOf h := by rw [e2]; grind
    have ez : sizeR (-szOf h) = sizeR (szOf h) := by
      unfold sizeR
      have q0 : (szOf h).num ≠ 0 := fun w => hs (Rat.num_eq_zero.mp w)
      rw [Rat.neg_num]
      by_cases q : (szOf h).num < 0
      · rw [if_pos q, if_neg (by omega)]
      · rw [if_neg q, if_pos (by omega)]; grind
    have ej : jmp ⟨smul (-1) h.a, -1 * h.b, h.c⟩ = jmp h := by
      show h.c * sizeR (szOf ⟨smul (-1) h.a, -1 * h.b, h.c⟩) = h.c * sizeR (szOf h)
      rw [es, ez]
    have q0 : (szOf h).num ≠ 0 := fun w => hs (Rat.num_eq_zero.mp w)
    simp only [z, ↓reduceIte, Bool.false_eq_true]
    refine ⟨fun G => by rw [ej, e1], fun x => ?_, ?_⟩
    · rw [ej, e1a, es, Rat.neg_num, ed]
      by_cases q : (szOf h).num < 0
      · rw [if_pos q, if_neg (by omega)]
        show _ = -(h.c * sizeR (szOf h)) * _
        unfold sizeR
        rw [if_pos q]; grind
      · rw [if_neg q, if_pos (by omega)]
        show _ + -(h.c * sizeR (szOf h)) * _ = 0
        unfold sizeR
        rw [if_neg q]; grind
    · rw [ej, e1b, es, Rat.neg_num]
      conv => lhs; rw [hb]
      by_cases q : (szOf h).num < 0
      · rw [if_pos q, if_neg (by omega)]
        show _ = -(h.c * sizeR (szOf h)) * _
        unfold sizeR
        rw [if_pos q]; grind
      · rw [if_neg q, if_pos (by omega)]
        show _ + -(h.c * sizeR (szOf h)) * _ = 0
        unfold sizeR
        rw [if_neg q]; grind
/-! the net of a normal pair -/
/-- a plane of whole numbers -/
structure PK (p : Pl2) : Prop where
  one : gcdF 0 (p.1 ++ [p.2]) = 1
  pos : 0 < lead (p.1 ++ [p.2])
  nz : ∃ z ∈ p.1, z ≠ 0
def hgOf (e : Pl2 × Rat) : Hg := ⟨rati e.1.1, (e.1.2 : Rat), e.2⟩
theorem pk_of {h : Hg} (z : ¬ isZ h.a = true) : PK (plOf h) := by
  obtain ⟨x, hx, h0⟩ := isZ_nz z
  have P := plane_is (r := h.a ++ [h.b]) ⟨x, List.mem_append_left _ hx, h0⟩
  obtain ⟨hs, ha, hb⟩ := plane_ab z
  refine ⟨by rw [← plP]; exact P.one, by rw [← plP]; exact P.pos, ?_⟩
  refine Classical.byContradiction fun w => ?_
  rw [ha] at hx
  obtain ⟨y, hy, rfl⟩ := List.mem_map.mp hx
  obtain ⟨v, hv, rfl⟩ := List.mem_map.mp hy
  have : v = 0 := Classical.byContradiction fun q => w ⟨v, hv, q⟩
  rw [this] at h0
  exact h0 (Rat.mul_zero _)
theorem fold_keys : ∀ {hs : List Hg} {s : NS}, (∀ e ∈ s.m, PK e.1) → ∀ e ∈ (hs.foldl nstep s).m, PK e.1
  | [], s, h => h
  | h :: hs, s, g => by
    refine fold_keys (hs := hs) (s := nstep s h) fun e he => ?_
    unfold nstep at he
    split at he
    · exact g e he
    · rename_i z
      rcases mem_put he with q | q
      · rw [q]; exact pk_of z
      · exact g e q
theorem pk_hg {e : Pl2 × Rat} (P : PK e.1) : ¬ isZ (hgOf e).a = true ∧ plOf (hgOf e) = e.1 ∧ szOf (hgOf e) = 1 := by
  have nz : ¬ isZ (hgOf e).a = true := fun z => by
    obtain ⟨w, hw, h0⟩ := P.nz
    have := List.all_eq_true.mp z _ (List.mem_map_of_mem (f := fun p : Int => (p : Rat)) hw)
    exact h0 (of_decide_eq_true this)
  obtain ⟨x, hx, h0⟩ := isZ_nz nz
  have Q := plane_is (r := (hgOf e).a ++ [(hgOf e).b]) ⟨x, List.mem_append_left _ hx, h0⟩
  have er : (hgOf e).a ++ [(hgOf e).b] = (e.1.1 ++ [e.1.2]).map fun p : Int => (1 : Rat) * (p : Rat) := by
    rw [List.map_append]
    show rati e.1.1 ++ [(e.1.2 : Rat)] = _
    rw [show (fun p : Int => (1 : Rat) * (p : Rat)) = fun p : Int => (p : Rat) from funext fun p => Rat.one_mul _]
    rfl
  have I : IsPl ((hgOf e).a ++ [(hgOf e).b]) (e.1.1 ++ [e.1.2]) 1 := ⟨by decide, er, P.one, P.pos⟩
  have Q2 := Q
  rw [show (hgOf e).a ++ [(hgOf e).b] = ((hgOf e).a ++ [(hgOf e).b]).map ((1 : Rat) * ·) by
    rw [show ((1 : Rat) * ·) = (fun x : Rat => x) from funext fun p => Rat.one_mul _]; simp] at Q2
  obtain ⟨e1, e2⟩ := plane_one (by decide) I Q2
  have em : ((hgOf e).a ++ [(hgOf e).b]).map ((1 : Rat) * ·) = (hgOf e).a ++ [(hgOf e).b] := by
    rw [show ((1 : Rat) * ·) = (fun x : Rat => x) from funext fun p => Rat.one_mul _]; simp
  rw [em] at e1 e2
  rw [plP] at e1
  exact ⟨nz, pk_inj (x := plOf (hgOf e)) (y := e.1) e1, by rw [show szOf (hgOf e) = planeS ((hgOf e).a ++ [(hgOf e).b]) from rfl, e2]; exact Rat.one_mul _⟩
theorem put_new {p : Pl2} {x : Rat} : ∀ {m : Tb}, p ∉ m.map (·.1) → aput p x m = m ++ [(p, x)] ∧ aval p m = 0
  | [], _ => ⟨rfl, rfl⟩
  | e :: r, h => by
    rw [List.map_cons, List.mem_cons, not_or] at h
    have ne : ¬ e.1 = p := fun z => h.1 z.symm
    obtain ⟨h1, h2⟩ := put_new (x := x) h.2
    refine ⟨?_, ?_⟩
    · show (if e.1 = p then (e.1, x) :: r else e :: aput p x r) = _
      rw [if_neg ne, h1]; rfl
    · show (if e.1 = p then some e.2 else aget p r).getD 0 = 0
      rw [if_neg ne]; exact h2
theorem fold_made {d : List Rat} {e : Rat} : ∀ {R m1 : Tb}, (∀ x ∈ R, PK x.1) → ((m1 ++ R).map (·.1)).Nodup → (R.map hgOf).foldl nstep ⟨m1, d, e⟩ = ⟨m1 ++ R, d, e⟩
  | [], m1, _, _ => by rw [List.append_nil]; rfl
  | x :: R, m1, P, nd => by
    obtain ⟨nz, ep, es⟩ := pk_hg (P x List.mem_cons_self)
    have hn : x.1 ∉ m1.map (·.1) := by
      rw [List.map_append, List.nodup_append] at nd
      intro z
      exact nd.2.2 _ z _ List.mem_cons_self rfl
    have ej : jmp (hgOf x) = x.2 := by
      show x.2 * sizeR (szOf (hgOf x)) = x.2
      rw [es]
      show x.2 * sizeR 1 = x.2
      rw [show sizeR 1 = 1 from rfl, Rat.mul_one]
    obtain ⟨h1, h2⟩ := put_new (p := x.1) (x := 0 + x.2) hn
    have st : nstep ⟨m1, d, e⟩ (hgOf x) = ⟨m1 ++ [x], d, e⟩ := by
      unfold nstep
      rw [if_neg nz, ep, ej, es]
      simp only [h2]
      rw [h1, Rat.zero_add]
      rfl
    show (R.map hgOf).foldl nstep (nstep ⟨m1, d, e⟩ (hgOf x)) = _
    rw [st, fold_made (fun y hy => P y (List.mem_cons_of_mem _ hy)) (by rw [List.append_assoc]; exact nd), List.append_assoc]
    rfl


/-! ### walks -/
theorem bTrow {a b c : TT'} {e : Pl2 × Rat} {ρ : Rho} {k : Rho → Prop} : bindT (.t (.cons a (.cons b (.cons c .nil)))) (rowD e) ρ k = bindT a (.tup (intz e.1.1)) ρ fun ρ1 => bindT b (.int e.1.2) ρ1 fun ρ2 => bindT c (fr e.2) ρ2 k := rfl
section
variable {k : Nat} {S : Sto} {Q : D → Sto → Prop}
theorem net_of_ok {ni : Int} {R : Tb} {d : D} (hR : R.length ≤ 1000) (hl : ∀ e ∈ R, e.1.1.length ≤ 1000) (h : Q (.tup [.int ni, .tup ((R.map hgOf).map hg), d]) S) : Cl (k + 2) f_net_of [.int ni, .tup (R.map rowD), d] S Q := by
  refine ⟨_, rfl, rfl, ?_⟩
  wp_walk using RUN, b_net_of
  refine loopC_ind (fun xs acc S' => S' = S ∧ ∃ r1 r2 : Tb, xs = r2.map rowD ∧ R = r1 ++ r2 ∧ acc = (r1.map hgOf).map hg) ⟨rfl, [], R, rfl, rfl, rfl⟩ ?_ ?_
  · rintro acc S' ⟨rfl, r1, r2, e, e2, rfl⟩
    cases r2 with
    | cons a l => cases e
    | nil =>
      rw [List.append_nil] at e2
      subst e2
      try wp_walk using RUN
      exact .same h
  · rintro x xs next ih acc S' ⟨rfl, r1, r2, e, e2, rfl⟩
    cases r2 with
    | nil => cases e
    | cons w r2 =>
      cases e
      have l2 := congrArg List.length e2
      rw [List.length_append] at l2
      wp_walk using RUN, bTrow, List.length_map
      refine ⟨by unfold LIM; omega, whole_row_ok (hl w (by rw [e2]; simp)) ?_⟩
      try wp_walk using RUN
      refine ih _ _ ⟨rfl, r1 ++ [w], r2, rfl, by rw [e2]; simp, ?_⟩
      rw [List.map_append, List.map_append]
      rfl
end


/-! ### sizes with a common number below -/
theorem lcmF_into {M : Nat} : ∀ {r : List Rat} {l : Nat}, l ∣ M → (∀ x ∈ r, x.den ∣ M) → lcmF l r ∣ M
  | [], _, h, _ => h
  | a :: r, l, h, g => lcmF_into (r := r) (l := Nat.lcm l a.den) (Nat.lcm_dvd h (g a List.mem_cons_self)) fun x hx => g x (List.mem_cons_of_mem _ hx)
theorem CD_int {z : Int} {N : Nat} (h : z.natAbs < 2 ^ N) : CD 1 N (z : Rat) := ⟨Nat.dvd_refl _, by show z.natAbs < 2 ^ N * 1; rw [Nat.mul_one]; exact h⟩
theorem CD_size {M k : Nat} {x : Rat} (h : CD M k x) : CD M k (sizeR x) := by
  unfold sizeR
  split
  · exact h.neg
  · exact h
theorem CD_cut {M k : Nat} {x : Rat} (h : CD M k x) : CD M k (cut x) := by
  unfold cut
  split
  · exact h
  · exact CD0
section
variable {M k : Nat} {r : List Rat}
theorem planeN_cd (hr : ∀ x ∈ r, CD M k x) : ∀ z ∈ planeN r, z.natAbs < 2 ^ k * lcmF 1 r := fun z hz => by
  obtain ⟨x, hx, rfl⟩ := List.mem_map.mp hz
  have hd := (lcmF_dvd (l := 1)).2 x hx
  have hL : 0 < lcmF 1 r := lcmF_pos (by decide)
  have hq : 0 < lcmF 1 r / x.den := Nat.div_pos (Nat.le_of_dvd hL hd) x.den_pos
  rw [Int.natAbs_mul, Int.natAbs_natCast]
  have := Nat.mul_lt_mul_of_pos_right (hr x hx).lt hq
  rw [Nat.mul_assoc, Nat.mul_div_cancel' hd] at this
  exact this
theorem planeBy_cd (hr : ∀ x ∈ r, CD M k x) (nz : ∃ x ∈ r, x ≠ 0) : (planeBy r).natAbs < 2 ^ k * lcmF 1 r := by
  have hl := planeN_lead nz
  have hb := planeBy_ne hl
  refine Classical.byContradiction fun w => hb ?_
  -- some number is not 0
  obtain ⟨x, hx, h0⟩ := nz
  have hd := (lcmF_dvd (l := 1)).2 x hx
  have hL : 0 < lcmF 1 r := lcmF_pos (by decide)
  have hq : 0 < lcmF 1 r / x.den := Nat.div_pos (Nat.le_of_dvd hL hd) x.den_pos
  have hz : x.num * ((lcmF 1 r / x.den : Nat) : Int) ∈ planeN r := List.mem_map_of_mem (f := fun x : Rat => x.num * ((lcmF 1 r / x.den : Nat) : Int)) hx
  have hn : x.num * ((lcmF 1 r / x.den : Nat) : Int) ≠ 0 := Int.mul_ne_zero (fun z => h0 (Rat.num_eq_zero.mp z)) (by omega)
  have h1 := planeN_cd hr _ hz
  have h2 := Int.natAbs_dvd_natAbs.mpr (planeBy_dvd hz)
  have h3 := Nat.le_of_dvd (by omega) h2
  omega
theorem planeS_cd (h0 : 0 < M) (hr : ∀ x ∈ r, CD M k x) (nz : ∃ x ∈ r, x ≠ 0) : CD M k (planeS r) := by
  have hL : 0 < lcmF 1 r := lcmF_pos (by decide)
  have hM : lcmF 1 r ∣ M := lcmF_into (Nat.one_dvd _) fun x hx => (hr x hx).dv
  constructor
  · have := divInt_den_dvd (planeBy r) (lcmF 1 r : Nat)
    rw [Int.natAbs_natCast] at this
    exact Nat.dvd_trans this hM
  · exact mag_of (by omega) (by rw [Int.natAbs_natCast]; exact planeBy_cd hr nz)
theorem planeP_cd {m : Nat} (h0 : 0 < M) (hm : M < 2 ^ m) (hr : ∀ x ∈ r, CD M k x) : ∀ z ∈ planeP r, z.natAbs < 2 ^ (k + m) := fun z hz => by
  obtain ⟨w, hw, rfl⟩ := List.mem_map.mp hz
  have h1 := planeN_cd hr w hw
  have hM : lcmF 1 r ∣ M := lcmF_into (Nat.one_dvd _) fun x hx => (hr x hx).dv
  have hM2 := Nat.le_of_dvd h0 hM
  have h2 : w.natAbs < 2 ^ (k + m) := by
    rw [Nat.pow_add]
    exact Nat.lt_of_lt_of_le h1 (Nat.mul_le_mul_left _ (by omega))
  rw [fdiv_of_dvd (planeBy_dvd hw)]
  obtain ⟨c, hc⟩ := planeBy_dvd hw
  by_cases b0 : planeBy r = 0
  · rw [b0, Int.ediv_zero]; exact Nat.pow_pos (by decide)
  · have e2 : w / planeBy r = c := by rw [hc]; exact Int.mul_ediv_cancel_left _ b0
    rw [e2]
    refine Nat.lt_of_le_of_lt ?_ h2
    rw [hc, Int.natAbs_mul]
    exact Nat.le_mul_of_pos_left _ (by omega)
end
/-- a hinge's numbers -/
structure HC (n Ma ka Mc kc : Nat) (h : Hg) : Prop where
  a : ∀ a ∈ h.a, CD Ma ka a
  len : h.a.length = n
  b : CD Ma ka h.b
  c : CD Mc kc h.c
section
variable {n Ma ka Mc kc : Nat} {h : Hg}
theorem HC.all (F : HC n Ma ka Mc kc h) : ∀ x ∈ h.a ++ [h.b], CD Ma ka x := fun x hx => by
  rcases List.mem_append.mp hx with q | q
  · exact F.a x q
  · rw [List.mem_singleton.mp q]; exact F.b
theorem nz_all (nz : ¬ isZ h.a = true) : ∃ x ∈ h.a ++ [h.b], x ≠ 0 := by
  obtain ⟨x, hx, h0⟩ := isZ_nz nz
  exact ⟨x, List.mem_append_left _ hx, h0⟩
theorem HC.sz (F : HC n Ma ka Mc kc h) (A0 : 0 < Ma) (nz : ¬ isZ h.a = true) : CD Ma ka (szOf h) := planeS_cd A0 F.all (nz_all nz)
theorem HC.jm (F : HC n Ma ka Mc kc h) (A0 : 0 < Ma) (nz : ¬ isZ h.a = true) : CD (Mc * Ma) (kc + ka) (jmp h) := F.c.mul (CD_size (F.sz A0 nz))
theorem HC.pA {m : Nat} (F : HC n Ma ka Mc kc h) (A0 : 0 < Ma) (hm : Ma < 2 ^ m) : ∀ z ∈ (plOf h).1, z.natAbs < 2 ^ (ka + m) := fun z hz => planeP_cd A0 hm F.all z (by rw [plP]; exact List.mem_append_left _ hz)
theorem HC.pB {m : Nat} (F : HC n Ma ka Mc kc h) (A0 : 0 < Ma) (hm : Ma < 2 ^ m) : (plOf h).2.natAbs < 2 ^ (ka + m) := planeP_cd A0 hm F.all _ (by rw [plP]; simp)
end
/-- the sizes of one walk -/
structure ZC (Ma ka ma Mc kc mc : Nat) : Prop where
  A0 : 0 < Ma
  C0 : 0 < Mc
  am : Ma < 2 ^ ma
  cm : Mc < 2 ^ mc
  la : ma + ka ≤ 400
  lc : mc + kc ≤ 700
  b1 : 1 ≤ ka
/-- what stands behind i hinges -/
structure NJ (n M K N i : Nat) (s : NS) : Prop where
  len : s.m.length ≤ i
  nd : (s.m.map (·.1)).Nodup
  v : ∀ e ∈ s.m, CD M (K + i) e.2 ∧ e.1.1.length = n ∧ (∀ z ∈ e.1.1, z.natAbs < 2 ^ N) ∧ e.1.2.natAbs < 2 ^ N
  dl : s.d.length = n
  d : ∀ x ∈ s.d, CD M (K + N + i) x
  e : CD M (K + N + i) s.e
theorem aval_CD {p : Pl2} {m : Tb} {M k : Nat} (h : ∀ e ∈ m, CD M k e.2) : CD M k (aval p m) := by
  unfold aval
  cases e : aget p m with
  | none => exact CD0
  | some x => exact h _ (aget_mem e)
theorem CD_addR {M k : Nat} {a b : List Rat} (M0 : 0 < M) (h1 : ∀ x ∈ a, CD M k x) (h2 : ∀ x ∈ b, CD M k x) : ∀ x ∈ addR a b, CD M (k + 1) x := by
  induction a generalizing b with
  | nil => intro x hx; cases hx
  | cons x a ih =>
    cases b with
    | nil => intro y hy; cases hy
    | cons y b =>
      intro z hz
      have hz : z ∈ (x + y) :: addR a b := hz
      rcases List.mem_cons.mp hz with q | q
      · rw [q]; exact (h1 x List.mem_cons_self).add M0 (h2 y List.mem_cons_self)
      · exact ih (fun u hu => h1 u (List.mem_cons_of_mem _ hu)) (fun u hu => h2 u (List.mem_cons_of_mem _ hu)) z q
section
variable {n Ma ka ma Mc kc mc i : Nat} {s : NS} {h : Hg}
theorem jz_cd (Z : ZC Ma ka ma Mc kc mc) (F : HC n Ma ka Mc kc h) (nz : ¬ isZ h.a = true) : ∀ z ∈ rati (plOf h).1, CD (Mc * Ma) (kc + ka + (ka + ma)) (-jmp h * z) := fun z hz => by
  obtain ⟨w, hw, rfl⟩ := List.mem_map.mp hz
  have := (F.jm Z.A0 nz).neg.mul (CD_int (F.pA Z.A0 Z.am w hw))
  rw [Nat.mul_one] at this
  exact this
theorem jb_cd (Z : ZC Ma ka ma Mc kc mc) (F : HC n Ma ka Mc kc h) (nz : ¬ isZ h.a = true) : CD (Mc * Ma) (kc + ka + (ka + ma)) (-jmp h * ((plOf h).2 : Rat)) := by
  have := (F.jm Z.A0 nz).neg.mul (CD_int (F.pB Z.A0 Z.am))
  rw [Nat.mul_one] at this
  exact this
theorem NJ.step (Z : ZC Ma ka ma Mc kc mc) (I : NJ n (Mc * Ma) (kc + ka) (ka + ma) i s) (F : HC n Ma ka Mc kc h) : NJ n (Mc * Ma) (kc + ka) (ka + ma) (i + 1) (nstep s h) := by
  have M0 : 0 < Mc * Ma := Nat.mul_pos Z.C0 Z.A0
  have up : ∀ {k k' : Nat} {x : Rat}, CD (Mc * Ma) k x → k ≤ k' → CD (Mc * Ma) k' x := fun hx l => hx.mono (Nat.dvd_refl _) l
  have u1 : kc + ka ≤ kc + ka + (ka + ma) + i := by omega
  have u2 : kc + ka ≤ kc + ka + i := by omega
  have u3 : kc + ka + (ka + ma) ≤ kc + ka + (ka + ma) + i := by omega
  unfold nstep
  split
  · refine ⟨Nat.le_succ_of_le I.len, I.nd, fun e he => let ⟨a, b⟩ := I.v e he; ⟨up a (by omega), b⟩, I.dl, fun x hx => up (I.d x hx) (by omega), ?_⟩
    exact I.e.add M0 (up (F.c.mul (CD_cut F.b)) u1)
  · rename_i nz
    have la : (plOf h).1.length = n := by rw [List.length_map]; exact F.len
    refine ⟨Nat.le_trans len_put (by have := I.len; omega), nodup_put I.nd, fun e he => ?_, ?_, ?_, ?_⟩
    · rcases mem_put he with q | q
      · rw [q]
        exact ⟨(aval_CD fun e he => (I.v e he).1).add M0 (up (F.jm Z.A0 nz) u2), la, F.pA Z.A0 Z.am, F.pB Z.A0 Z.am⟩
      · obtain ⟨a, b⟩ := I.v e q
        exact ⟨up a (by omega), b⟩
    · by_cases q : (szOf h).num < 0 <;> simp only [q, ↓reduceIte]
      · rw [addR_len (by rw [List.length_map, List.length_map, la]; exact I.dl)]; exact I.dl
      · exact I.dl
    · by_cases q : (szOf h).num < 0 <;> simp only [q, ↓reduceIte]
      · refine CD_addR M0 I.d fun x hx => ?_
        obtain ⟨z, hz, rfl⟩ := List.mem_map.mp hx
        exact up (jz_cd Z F nz z hz) u3
      · exact fun x hx => up (I.d x hx) (by omega)
    · by_cases q : (szOf h).num < 0 <;> simp only [q, ↓reduceIte]
      · exact I.e.add M0 (up (jb_cd Z F nz) u3)
      · exact up I.e (by omega)
end


/-! ### the law's own normal pair -/
theorem esz (x : Rat) : D.tup [.int (x.num.natAbs : Int), .int (x.den : Int)] = fr (sizeR x) := by
  unfold sizeR
  by_cases q : x.num < 0
  · rw [if_pos q]
    show _ = D.tup [.int (-x).num, .int ((-x).den : Int)]
    rw [Rat.neg_num, Rat.neg_den, show -x.num = (x.num.natAbs : Int) by omega]
  · rw [if_neg q]
    show _ = D.tup [.int x.num, .int (x.den : Int)]
    rw [show (x.num.natAbs : Int) = x.num by omega]
section
variable {k : Nat} {S : Sto} {Q : D → Sto → Prop}
theorem is_zero_ok {r : List Rat} (hl : r.length ≤ 1000) (h : Q (.bl (isZ r)) S) : Cl (k + 1) f__law_is_zero [row r] S Q := by
  refine ⟨_, rfl, rfl, ?_⟩
  wp_walk using RUN, b__law_is_zero
  refine loopC_ind (fun xs acc S' => S' = S ∧ ∃ r1 r2 : List Rat, xs = r2.map fr ∧ r = r1 ++ r2 ∧ acc = (r1.filter fun x => decide (x.num ≠ 0)).map fr) ⟨rfl, [], r, rfl, rfl, rfl⟩ ?_ ?_
  · rintro acc S' ⟨rfl, r1, r2, e, e3, rfl⟩
    cases r2 with
    | cons x l => cases e
    | nil =>
      rw [List.append_nil] at e3
      subst e3
      try wp_walk using RUN
      refine eq_nilL (n := 2) (fun d hd => ?_) (by omega) ?_
      · obtain ⟨z, _, rfl⟩ := List.mem_map.mp hd
        exact pl_fr z
      have e : ((r.filter fun x => decide (x.num ≠ 0)).map fr).isEmpty = isZ r := by
        have := isZ_len (r := r)
        cases h1 : isZ r with
        | true => rw [List.length_eq_zero_iff.mp (this.mp h1)]; rfl
        | false =>
          cases h2 : (r.filter fun x => decide (x.num ≠ 0)) with
          | nil => rw [this.mpr (by rw [h2]; rfl)] at h1; cases h1
          | cons a l => rfl
      rw [e]
      exact .same h
  · rintro x xs nxt ih2 acc S' ⟨rfl, r1, r2, e, e3, rfl⟩
    cases r2 with
    | nil => cases e
    | cons x r2 =>
      cases e
      have l1 := List.length_filter_le (fun x : Rat => decide (x.num ≠ 0)) r1
      have l2 := congrArg List.length e3
      rw [List.length_append] at l2
      wp_walk using RUN, List.length_map
      refine ⟨by unfold LIM; omega, ite3 (fun z => ih2 _ _ ⟨rfl, r1 ++ [x], r2, rfl, by rw [e3]; simp, ?_⟩) (fun z => ih2 _ _ ⟨rfl, r1 ++ [x], r2, rfl, by rw [e3]; simp, ?_⟩)⟩
      · rw [List.filter_append, List.filter_cons_of_pos (by simpa using z)]; simp
      · rw [List.filter_append, List.filter_cons_of_neg (by simpa using z)]; simp
theorem lpair_ok {n Ma ka ma Mc kc mc : Nat} {ni : Int} {hs : List Hg} {sa : List Rat} {sb : Rat} (Z : ZC Ma ka ma Mc kc mc) (F : ∀ h ∈ hs, HC n Ma ka Mc kc h) (n6 : n ≤ 6) (lh : hs.length ≤ 40) (sl : sa.length = n) (fa : ∀ x ∈ sa, CD (Mc * Ma) (kc + ka + (ka + ma)) x) (fb : CD (Mc * Ma) (kc + ka + (ka + ma)) sb)
    (h : ∀ ps, ps.Perm ((nfold hs sa sb).m.map (·.1)) → ps.Pairwise (fun x y => lexLe (x.1 ++ [x.2]) (y.1 ++ [y.2])) → NJ n (Mc * Ma) (kc + ka) (ka + ma) hs.length (nfold hs sa sb) → Q (.tup [.tup ((rowsA (nfold hs sa sb).m ps).map rowD), str (nfold hs sa sb).d (nfold hs sa sb).e]) S) :
    Cl (k + 5) f__law_pair [netD ni hs sa sb] S Q := by
  have M0 : 0 < Mc * Ma := Nat.mul_pos Z.C0 Z.A0
  have hM : Mc * Ma < 2 ^ (mc + ma) := lt_pow_mul Z.cm Z.am
  have la := Z.la
  have lc := Z.lc
  have fM : ∀ {k : Nat} {x : Rat}, CD (Mc * Ma) k x → k ≤ kc + ka + (ka + ma) + 60 → FB 1600 x := fun hx hk => (hx.fb M0 hM).mono (by omega)
  have up : ∀ {k k' : Nat} {x : Rat}, CD (Mc * Ma) k x → k ≤ k' → CD (Mc * Ma) k' x := fun hx l => hx.mono (Nat.dvd_refl _) l
  refine ⟨_, rfl, rfl, ?_⟩
  wp_walk using RUN, b__law_pair, wE_dnew
  intro p hp
  refine loopF_ind (fun xs ρ S' => ∃ (s : NS) (hs' : List Hg) (i : Nat) (u4 u5 u6 u7 u8 u9 : Option D), S' = S.put p (flat s.m) ∧ xs = hs'.map hg ∧ (∀ h ∈ hs', HC n Ma ka Mc kc h) ∧ hs'.foldl nstep s = nfold hs sa sb ∧ NJ n (Mc * Ma) (kc + ka) (ka + ma) i s ∧ i + hs'.length = hs.length ∧
    ρ = [some (netD ni hs sa sb), some (.dct p), some (row s.d), some (fr s.e), u4, u5, u6, u7, u8, u9, none]) ?_ ?_ ?_
  · exact ⟨⟨[], sa, sb⟩, hs, 0, none, none, none, none, none, none, rfl, rfl, F, rfl, ⟨Nat.le_refl _, List.nodup_nil, (fun e he => nomatch he), sl, fa, fb⟩, by omega, rfl⟩
  · rintro ρ S' ⟨s, hs', i, u4, u5, u6, u7, u8, u9, rfl, e, _, e2, I, hi, rfl⟩
    cases hs' with
    | cons a l => cases e
    | nil =>
      have e2 : s = nfold hs sa sb := e2
      have hi : i = hs.length := hi
      subst hi
      rw [← e2] at h
      wp_walk using RUN, wE_dsort, wE_dlist
      refine dlist_tb Sto.put_same (by have := I.len; omega) ?_
      refine dsort_lst (n := n) (by rw [List.length_map]; have := I.len; omega) (fun k hk => ?_) fun ps hps hsort => ?_
      · obtain ⟨e, he, rfl⟩ := List.mem_map.mp hk
        exact (I.v e he).2.1
      have lps : ps.length ≤ 40 := by rw [hps.length_eq, List.length_map]; have := I.len; omega
      try wp_walk using RUN
      refine loopC_ind (fun xs acc S' => S' = S.put p (flat s.m) ∧ ∃ p1 p2 : List Pl2, xs = p2.map pkD ∧ ps = p1 ++ p2 ∧ acc = (rowsA s.m p1).map rowD) ⟨rfl, [], ps, rfl, rfl, rfl⟩ ?_ ?_
      · rintro acc S' ⟨rfl, p1, p2, e, e3, rfl⟩
        cases p2 with
        | cons a l => cases e
        | nil =>
          rw [List.append_nil] at e3
          subst e3
          try wp_walk using RUN
          exact .sub (Sub.put hp) (h _ hps hsort I)
      · rintro x xs next ih acc S' ⟨rfl, p1, p2, e, e3, rfl⟩
        cases p2 with
        | nil => cases e
        | cons q p2 =>
          cases e
          have hq : q ∈ s.m.map (·.1) := hps.mem_iff.mp (by rw [e3]; simp)
          obtain ⟨en, hen, eq⟩ := List.mem_map.mp hq
          have eg : aget q s.m = some (aval q s.m) := by
            have := aget_of I.nd hen
            rw [eq] at this
            show _ = some ((aget q s.m).getD 0)
            rw [this]; rfl
          have lac : (rowsA s.m p1).length ≤ 40 := by
            have := congrArg List.length e3
            rw [List.length_append] at this
            have := rowsA_len (m := s.m) (ps := p1)
            omega
          have ix0 : ∀ (S : Sto) (k : D → Prop), dIx S (pkD q) (.int 0) k = k (.tup (intz q.1)) := fun S k => DL.ix0
          have ix1 : ∀ (S : Sto) (k : D → Prop), dIx S (pkD q) (.int 1) k = k (.int q.2) := fun S k => DL.ix1
          wp_walk using RUN, List.length_map, wE_dget
          refine ⟨by unfold LIM; omega, dget_tb (p := q) Sto.put_same eg ?_⟩
          try wp_walk using RUN
          refine ite3 (fun z => ?_) (fun z => ?_)
          · wp_walk using RUN, ix0, ix1
            refine dget_tb (p := q) Sto.put_same eg ?_
            try wp_walk using RUN
            refine ih _ _ ⟨rfl, p1 ++ [q], p2, rfl, by rw [e3]; simp, ?_⟩
            rw [rowsA_snoc, if_pos (by simpa using z)]
            simp [rowD]
          · refine ih _ _ ⟨rfl, p1 ++ [q], p2, rfl, by rw [e3]; simp, ?_⟩
            rw [rowsA_snoc, if_neg (by simpa using z)]
  · rintro x xs next ih ρ S' ⟨s, hs', i, u4, u5, u6, u7, u8, u9, rfl, e, G, e2, I, hi, rfl⟩
    cases hs' with
    | nil => cases e
    | cons g hs' =>
      cases e
      rw [List.length_cons] at hi
      have Fg := G g List.mem_cons_self
      have I2 := I.step Z Fg
      have e2 : hs'.foldl nstep (nstep s g) = nfold hs sa sb := e2
      have lg := Fg.len
      have fga : ∀ a ∈ g.a, FB 400 a := fun a ha => ((Fg.a a ha).fb Z.A0 Z.am).mono la
      have fgb : FB 400 g.b := (Fg.b.fb Z.A0 Z.am).mono la
      have fgc : FB 700 g.c := (Fg.c.fb Z.C0 Z.cm).mono lc
      have fe : FB 1600 s.e := fM I.e (by omega)
      have fd : ∀ x ∈ s.d, FB 1600 x := fun x hx => fM (I.d x hx) (by omega)
      wp_walk using RUN, bThg
      refine is_zero_ok (by omega) ?_
      try wp_walk using RUN
      refine ite3 (fun q => ?_) (fun q => ?_)
      · have fin : ∀ u4 u5 u6 u7 u8 u9, next [some (netD ni hs sa sb), some (.dct p), some (row s.d), some (fr (s.e + g.c * cut g.b)), u4, u5, u6, u7, u8, u9, none] (S.put p (flat s.m)) := fun u4 u5 u6 u7 u8 u9 =>
          ih _ _ ⟨nstep s g, hs', i + 1, u4, u5, u6, u7, u8, u9, by unfold nstep; rw [if_pos q], rfl, fun h hh => G h (List.mem_cons_of_mem _ hh), e2, I2, by omega, by unfold nstep; rw [if_pos q]⟩
        try wp_walk using RUN
        refine ite3 (fun q1 => ?_) (fun q1 => ?_)
        · have ec : cut g.b = g.b := if_pos q1
          rw [ec] at fin
          refine ltimes_ok fgc fgb (by omega) ?_
          try wp_walk using RUN
          refine lplus_ok fe (fgc.mul fgb) (by omega) ?_
          try wp_walk using RUN
          exact fin _ _ _ _ _ _
        · have ec : cut g.b = 0 := if_neg q1
          rw [ec, Rat.mul_zero, Rat.add_zero] at fin
          exact fin _ _ _ _ _ _
      · have q' : ¬ isZ g.a = true := by simpa using q
        have Fj : FB 1600 (jmp g) := fM (Fg.jm Z.A0 q') (by omega)
        have fs : FB 400 (szOf g) := ((Fg.sz Z.A0 q').fb Z.A0 Z.am).mono la
        refine lplane_ok fga fgb (by omega) (by omega) (isZ_nz q') ?_
        wp_walk using RUN, rRefD, wE_dgeto, wC_dput
        rw [esz]
        refine ltimes_ok fgc (FB_size fs) (by omega) ?_
        wp_walk using RUN, rRefD, wE_dgeto, wC_dput
        have eS : (S.put p (flat s.m)) p = some (flat s.m) := Sto.put_same
        refine dgeto_tb (p := plOf g) eS ?_
        try wp_walk using RUN
        have hav : FB 1600 (aval (plOf g) s.m) := fM (aval_CD fun e he => (I.v e he).1) (by omega)
        refine lplus_ok hav Fj (by omega) ?_
        try wp_walk using RUN
        refine dput_tb (p := plOf g) eS (by have := I.len; omega) ?_
        try wp_walk using RUN, Sto.put_put
        have fin : ∀ u4 u5 u6 u7 u8 u9, next [some (netD ni hs sa sb), some (.dct p), some (row (nstep s g).d), some (fr (nstep s g).e), u4, u5, u6, u7, u8, u9, none] (S.put p (flat (nstep s g).m)) := fun u4 u5 u6 u7 u8 u9 =>
          ih _ _ ⟨nstep s g, hs', i + 1, u4, u5, u6, u7, u8, u9, rfl, rfl, fun h hh => G h (List.mem_cons_of_mem _ hh), e2, I2, by omega, rfl⟩
        unfold nstep at fin
        rw [if_neg q'] at fin
        refine ite3 (fun z => ?_) (fun z => ?_)
        · simp only [z, ↓reduceIte] at fin
          have fA : ∀ z ∈ rati (plOf g).1, FB 400 z := fun z hz => by
            obtain ⟨w, hw, rfl⟩ := List.mem_map.mp hz
            exact FB_int (pow2_mono (Fg.pA Z.A0 Z.am w hw) (by omega)) (by omega)
          have fB : FB 400 ((plOf g).2 : Rat) := FB_int (pow2_mono (Fg.pB Z.A0 Z.am) (by omega)) (by omega)
          have lA : (plOf g).1.length = n := by rw [List.length_map]; exact lg
          have lA2 : (plA g.a g.b).length = n := lA
          have dl := I.dl
          have px0 : ∀ (S : Sto) (k : D → Prop), dIx S (planeD (plOf g).1 (plOf g).2) (.int 0) k = k (.tup (intz (plOf g).1)) := fun S k => DL.ix0
          have px1 : ∀ (S : Sto) (k : D → Prop), dIx S (planeD (plOf g).1 (plOf g).2) (.int 1) k = k (.int (plOf g).2) := fun S k => DL.ix1
          try wp_walk using RUN, px0, px1
          refine back_ok ?_
          try wp_walk using RUN, px0, px1
          refine lwhole_ok (by omega) ?_
          try wp_walk using RUN, px0, px1
          refine taken_ok Fj.neg fA (by omega) (by rw [List.length_map]; omega) ?_
          try wp_walk using RUN, px0, px1
          refine lrowsum_ok fd (FB_smul Fj.neg fA) (by omega) (by rw [List.length_map, List.length_map]; omega) (by omega) ?_
          try wp_walk using RUN, px0, px1
          refine back_ok ?_
          try wp_walk using RUN, px0, px1
          rw [fr_int1]
          refine ltimes_ok Fj.neg fB (by omega) ?_
          try wp_walk using RUN
          refine lplus_ok fe (Fj.neg.mul fB) (by omega) ?_
          try wp_walk using RUN
          exact fin _ _ _ _ _ _
        · simp only [z, ↓reduceIte] at fin
          exact fin _ _ _ _ _ _
end


/-! ### turned nets -/
theorem sumH_T' {x : List Rat} : ∀ hs : List Hg, sumT 1 x hs = sumH x hs
  | [] => rfl
  | h :: r => by
    show h.c * cut (dotR h.a x + 1 * h.b) + sumT 1 x r = h.c * cut (dotR h.a x + h.b) + sumH x r
    rw [sumH_T' r, Rat.one_mul]
abbrev negz (l : List Int) : List Int := l.map fun z => -z
def tHg (e : Pl2 × Rat) : Hg := ⟨rati (negz e.1.1), ((-e.1.2 : Int) : Rat), e.2⟩
theorem tHg_eq (e : Pl2 × Rat) : tHg e = ⟨smul (-1) (hgOf e).a, -(hgOf e).b, (hgOf e).c⟩ := by
  unfold tHg hgOf smul rati negz
  simp only [List.map_map, Rat.intCast_neg]
  congr 1
  refine List.map_congr_left fun z _ => ?_
  show ((-z : Int) : Rat) = -1 * (z : Rat)
  rw [Rat.intCast_neg]; grind
def tH (lot : List Int) : Nat → Tb → List Hg
  | _, [] => []
  | i, e :: r => (if (i : Int) ∈ lot then tHg e else hgOf e) :: tH lot (i + 1) r
def tD (lot : List Int) : Nat → Tb → List Rat → List Rat
  | _, [], d => d
  | i, e :: r, d => tD lot (i + 1) r (if (i : Int) ∈ lot then addR d (smul e.2 (rati e.1.1)) else d)
def tE (lot : List Int) : Nat → Tb → Rat → Rat
  | _, [], d => d
  | i, e :: r, d => tE lot (i + 1) r (if (i : Int) ∈ lot then d + e.2 * (e.1.2 : Rat) else d)
theorem tH_len {lot : List Int} : ∀ {i : Nat} {R : Tb}, (tH lot i R).length = R.length
  | _, [] => rfl
  | i, e :: r => by
    show (tH lot (i + 1) r).length + 1 = r.length + 1
    rw [tH_len]
theorem tH_mem {lot : List Int} : ∀ {i : Nat} {R : Tb} {h : Hg}, h ∈ tH lot i R → ∃ e ∈ R, h = hgOf e ∨ h = tHg e
  | _, [], h, hh => nomatch hh
  | i, e :: r, h, hh => by
    have hh : h ∈ (if (i : Int) ∈ lot then tHg e else hgOf e) :: tH lot (i + 1) r := hh
    rcases List.mem_cons.mp hh with q | q
    · refine ⟨e, List.mem_cons_self, ?_⟩
      rw [q]
      split
      · exact .inr rfl
      · exact .inl rfl
    · obtain ⟨w, hw, g⟩ := tH_mem q
      exact ⟨w, List.mem_cons_of_mem _ hw, g⟩
theorem tH_nil : ∀ {i : Nat} {R : Tb}, tH [] i R = R.map hgOf
  | _, [] => rfl
  | i, e :: r => by
    show (if (i : Int) ∈ ([] : List Int) then tHg e else hgOf e) :: tH [] (i + 1) r = _
    rw [if_neg (by simp), tH_nil]; rfl
theorem tD_nil : ∀ {i : Nat} {R : Tb} {d : List Rat}, tD [] i R d = d
  | _, [], _ => rfl
  | i, e :: r, d => by
    show tD [] (i + 1) r (if (i : Int) ∈ ([] : List Int) then _ else d) = _
    rw [if_neg (by simp), tD_nil]
theorem tE_nil : ∀ {i : Nat} {R : Tb} {d : Rat}, tE [] i R d = d
  | _, [], _ => rfl
  | i, e :: r, d => by
    show tE [] (i + 1) r (if (i : Int) ∈ ([] : List Int) then _ else d) = _
    rw [if_neg (by simp), tE_nil]
/-- sums over the turned hinges -/
theorem turn_sums {lot : List Int} {n : Nat} : ∀ {i : Nat} {R : Tb} {d : List Rat} {e : Rat}, (∀ w ∈ R, PK w.1 ∧ w.1.1.length = n) → d.length = n →
    (∀ G, lsum (Jg G) (tH lot i R) = sumA G R) ∧ (∀ x, dotR (tD lot i R d) x + lsum (Dg x) (tH lot i R) = dotR d x) ∧ tE lot i R e + lsum Eg (tH lot i R) = e ∧ (tD lot i R d).length = n
  | i, [], d, e, _, dl => ⟨fun _ => rfl, fun x => Rat.add_zero _, Rat.add_zero _, dl⟩
  | i, w :: r, d, e, P, dl => by
    obtain ⟨pk, wl⟩ := P w List.mem_cons_self
    obtain ⟨nz, ep, es⟩ := pk_hg pk
    have ej : jmp (hgOf w) = w.2 := by
      show w.2 * sizeR (szOf (hgOf w)) = w.2
      rw [es]
      show w.2 * sizeR 1 = w.2
      rw [show sizeR 1 = 1 from rfl, Rat.mul_one]
    have j1 : ∀ G, Jg G (hgOf w) = w.2 * G w.1 := fun G => by unfold Jg; rw [if_neg nz, ej, ep]
    have n1 : ¬ ((1 : Rat).num < 0) := by decide
    have d1 : ∀ x, Dg x (hgOf w) = 0 := fun x => by unfold Dg; rw [if_neg nz, es, if_neg n1]
    have e1 : Eg (hgOf w) = 0 := by unfold Eg; rw [if_neg nz, es, if_neg n1]
    have P' : ∀ w ∈ r, PK w.1 ∧ w.1.1.length = n := fun z hz => P z (List.mem_cons_of_mem _ hz)
    show (∀ G, Jg G (if (i : Int) ∈ lot then tHg w else hgOf w) + lsum (Jg G) (tH lot (i + 1) r) = w.2 * G w.1 + sumA G r) ∧
      (∀ x, dotR (tD lot (i + 1) r (if (i : Int) ∈ lot then addR d (smul w.2 (rati w.1.1)) else d)) x + (Dg x (if (i : Int) ∈ lot then tHg w else hgOf w) + lsum (Dg x) (tH lot (i + 1) r)) = dotR d x) ∧
      tE lot (i + 1) r (if (i : Int) ∈ lot then e + w.2 * (w.1.2 : Rat) else e) + (Eg (if (i : Int) ∈ lot then tHg w else hgOf w) + lsum Eg (tH lot (i + 1) r)) = e ∧ (tD lot (i + 1) r (if (i : Int) ∈ lot then addR d (smul w.2 (rati w.1.1)) else d)).length = n
    by_cases q : (i : Int) ∈ lot
    · simp only [q, ↓reduceIte]
      have l2 : (addR d (smul w.2 (rati w.1.1))).length = n := by rw [addR_len (by rw [List.length_map, List.length_map]; omega)]; exact dl
      obtain ⟨s1, s2, s3, s4⟩ := turn_sums (lot := lot) (i := i + 1) (R := r) (e := e + w.2 * (w.1.2 : Rat)) P' l2
      obtain ⟨t1, t2, t3⟩ := turn_ok (hgOf w)
      rw [← tHg_eq] at t1 t2 t3
      refine ⟨fun G => by rw [t1, j1, s1], fun x => ?_, ?_, s4⟩
      · have a1 := s2 x
        have a2 := t2 x
        rw [d1] at a2
        have a3 : dotR (addR d (smul w.2 (rati w.1.1))) x = dotR d x + w.2 * dotR (rati w.1.1) x := by
          rw [dotR_addL (by rw [List.length_map, List.length_map]; omega), dotR_mul]
        have a4 : (hgOf w).c * dotR (hgOf w).a x = w.2 * dotR (rati w.1.1) x := rfl
        rw [a4] at a2
        grind
      · rw [e1] at t3
        have a4 : (hgOf w).c * (hgOf w).b = w.2 * (w.1.2 : Rat) := rfl
        rw [a4] at t3
        grind
    · simp only [q, ↓reduceIte]
      obtain ⟨s1, s2, s3, s4⟩ := turn_sums (lot := lot) (i := i + 1) (R := r) (e := e) P' dl
      refine ⟨fun G => by rw [j1, s1], fun x => ?_, ?_, s4⟩
      · rw [d1, Rat.zero_add]; exact s2 x
      · rw [e1, Rat.zero_add]; exact s3
/-- the normal pair's turned nets are alike -/
theorem alk_turned {n : Nat} {hs : List Hg} {sa : List Rat} {sb : Rat} {ps : List Pl2} (lot : List Int) (g : ∀ h ∈ hs, h.a.length = n) (l : sa.length = n) (nd : ((nfold hs sa sb).m.map (·.1)).Nodup) (hp : ps.Perm ((nfold hs sa sb).m.map (·.1))) (wl : ∀ w ∈ rowsA (nfold hs sa sb).m ps, w.1.1.length = n) :
    Alk n hs sa sb (tH lot 0 (rowsA (nfold hs sa sb).m ps)) (tD lot 0 (rowsA (nfold hs sa sb).m ps) (nfold hs sa sb).d) (tE lot 0 (rowsA (nfold hs sa sb).m ps) (nfold hs sa sb).e) := by
  have D1 := fun x => fold_D (x := x) (s := ⟨[], sa, sb⟩) g l
  have dl : (nfold hs sa sb).d.length = n := (D1 []).2
  have keys : ∀ w ∈ rowsA (nfold hs sa sb).m ps, PK w.1 ∧ w.1.1.length = n := fun w hw => ⟨fold_keys (s := ⟨[], sa, sb⟩) (fun e he => nomatch he) w (rows_mem nd hp hw), wl w hw⟩
  obtain ⟨s1, s2, s3, s4⟩ := turn_sums (lot := lot) (i := 0) (e := (nfold hs sa sb).e) keys dl
  refine ⟨g, fun h hh => ?_, l, s4, fun G => ?_, fun x => ?_, ?_⟩
  · obtain ⟨e, he, q⟩ := tH_mem hh
    rcases q with rfl | rfl
    · show (rati e.1.1).length = n
      rw [List.length_map]; exact wl e he
    · show (rati (negz e.1.1)).length = n
      rw [List.length_map, List.length_map]; exact wl e he
  · rw [s1, sum_rows nd hp]
    have a1 := fold_J (G := G) (hs := hs) (s := ⟨[], sa, sb⟩)
    have a2 : sumA G (nfold hs sa sb).m = 0 + lsum (Jg G) hs := a1
    rw [a2, Rat.zero_add]
  · rw [s2]; exact (D1 x).1.symm
  · rw [s3]; exact (fold_E (hs := hs) (s := ⟨[], sa, sb⟩)).symm
/-- nets alike answer alike -/
theorem alk_ans {n : Nat} {hs hs2 : List Hg} {sa sa2 x : List Rat} {sb sb2 : Rat} {ps ps2 : List Pl2} (A : Alk n hs sa sb hs2 sa2 sb2) (nd : ((nfold hs sa sb).m.map (·.1)).Nodup) (nd2 : ((nfold hs2 sa2 sb2).m.map (·.1)).Nodup) (hp : ps.Perm ((nfold hs sa sb).m.map (·.1))) (hp2 : ps2.Perm ((nfold hs2 sa2 sb2).m.map (·.1))) : ansR hs2 sa2 sb2 x = ansR hs sa sb x := by
  have a1 := normal_law (τ := 1) (x := x) (by decide) A.l1 A.s1 nd hp
  have a2 := normal_law (τ := 1) (x := x) (by decide) A.l2 A.s2 nd2 hp2
  obtain ⟨e1, e2, e3⟩ := A.pair
  rw [sum_rows nd hp, e3, e1, e2] at a1
  rw [sum_rows nd2 hp2] at a2
  rw [a1] at a2
  rw [Rat.one_mul, Rat.one_mul, sumH_T', sumH_T'] at a2
  unfold ansR
  exact a2.symm


/-! ### polynomials -/
def pev : List Rat → Rat → Rat
  | [], _ => 0
  | c :: cs, t => c + t * pev cs t
def padd : List Rat → List Rat → List Rat
  | [], ys => ys
  | x :: xs, [] => x :: xs
  | x :: xs, y :: ys => (x + y) :: padd xs ys
theorem padd_ev {t : Rat} : ∀ {xs ys : List Rat}, pev (padd xs ys) t = pev xs t + pev ys t
  | [], ys => by show pev ys t = 0 + pev ys t; rw [Rat.zero_add]
  | x :: xs, [] => by show pev (x :: xs) t = pev (x :: xs) t + 0; rw [Rat.add_zero]
  | x :: xs, y :: ys => by
    show x + y + t * pev (padd xs ys) t = x + t * pev xs t + (y + t * pev ys t)
    rw [padd_ev]; grind
theorem padd_len : ∀ {xs ys : List Rat}, ys.length ≤ xs.length → (padd xs ys).length = xs.length
  | [], [], _ => rfl
  | [], _ :: _, h => by cases h
  | x :: xs, [], _ => rfl
  | x :: xs, y :: ys, h => by
    show (padd xs ys).length + 1 = xs.length + 1
    rw [padd_len (by simpa using h)]
theorem psc_ev {r t : Rat} : ∀ {xs : List Rat}, pev (xs.map (r * ·)) t = r * pev xs t
  | [] => (Rat.mul_zero _).symm
  | x :: xs => by
    show r * x + t * pev (xs.map (r * ·)) t = r * (x + t * pev xs t)
    rw [psc_ev]; grind
theorem pev_div (r : Rat) : ∀ (cs : List Rat) (c : Rat), ∃ q : List Rat, q.length = cs.length ∧ ∀ t, pev (c :: cs) t - pev (c :: cs) r = (t - r) * pev q t
  | [], c => ⟨[], rfl, fun t => by
    show c + t * 0 - (c + r * 0) = (t - r) * 0
    grind⟩
  | d :: ds, c => by
    obtain ⟨q, hl, h⟩ := pev_div r ds d
    refine ⟨padd (d :: ds) (q.map (r * ·)), by rw [padd_len (by rw [List.length_map, hl]; simp)], fun t => ?_⟩
    rw [padd_ev, psc_ev]
    have := h t
    show c + t * pev (d :: ds) t - (c + r * pev (d :: ds) r) = _
    grind
theorem pev_zero : ∀ {rs cs : List Rat}, cs.length ≤ rs.length → rs.Nodup → (∀ r ∈ rs, pev cs r = 0) → ∀ t, pev cs t = 0
  | _, [], _, _, _, _ => rfl
  | [], _ :: _, h, _, _, _ => by cases h
  | r :: rs, c :: cs, hl, nd, h, t => by
    obtain ⟨q, ql, hq⟩ := pev_div r cs c
    rw [List.nodup_cons] at nd
    have h0 := h r List.mem_cons_self
    have z := pev_zero (rs := rs) (cs := q) (by rw [ql]; simpa using hl) nd.2 fun s hs => by
      have e := hq s
      rw [h s (List.mem_cons_of_mem _ hs), h0] at e
      have e : (s - r) * pev q s = 0 := by rw [← e]; grind
      rcases Rat.mul_eq_zero.mp e with w | w
      · exact absurd (show s = r by grind) fun z => nd.1 (z ▸ hs)
      · exact w
    have e := hq t
    rw [z t, h0] at e
    grind
theorem pev_coefs : ∀ {cs : List Rat}, (∀ t, pev cs t = 0) → ∀ c ∈ cs, c = 0
  | [], _, c, hc => nomatch hc
  | d :: cs, h, c, hc => by
    have h0 : d = 0 := by
      have e : d + 0 * pev cs 0 = 0 := h 0
      rw [Rat.zero_mul, Rat.add_zero] at e
      exact e
    have hz : ∀ t, pev cs t = 0 := by
      refine pev_zero (rs := (List.range cs.length).map fun i : Nat => (((i : Int) + 1 : Int) : Rat)) (by simp) ?_ fun r hr => ?_
      · refine List.Pairwise.map _ (fun a b (hab : a ≠ b) z => hab ?_) List.nodup_range
        have := Rat.intCast_inj.mp z
        omega
      · obtain ⟨i, _, rfl⟩ := List.mem_map.mp hr
        have e : d + (((i : Int) + 1 : Int) : Rat) * pev cs (((i : Int) + 1 : Int) : Rat) = 0 := h _
        rw [h0, Rat.zero_add] at e
        rcases Rat.mul_eq_zero.mp e with w | w
        · have := Rat.intCast_eq_zero_iff.mp w; omega
        · exact w
    rcases List.mem_cons.mp hc with w | w
    · rw [w]; exact h0
    · exact pev_coefs hz c w
theorem len_split {α : Type} (p : α → Bool) : ∀ l : List α, (l.filter p).length + (l.filter fun x => !p x).length = l.length
  | [] => rfl
  | x :: l => by
    have := len_split p l
    cases e : p x
    · rw [List.filter_cons_of_neg (by simp [e]), List.filter_cons_of_pos (by simp [e])]
      simp only [List.length_cons]; omega
    · rw [List.filter_cons_of_pos e, List.filter_cons_of_neg (by simp [e])]
      simp only [List.length_cons]; omega
/-- a value at which no polynomial is 0 -/
theorem free_at {L : Nat} : ∀ {Ps : List (List Rat)} {T : List Rat}, T.Nodup → (∀ P ∈ Ps, P.length ≤ L ∧ ¬ ∀ t, pev P t = 0) → Ps.length * L < T.length → ∃ t ∈ T, ∀ P ∈ Ps, pev P t ≠ 0
  | [], [], _, _, h => by simp at h
  | [], t :: T, _, _, _ => ⟨t, List.mem_cons_self, fun P hP => nomatch hP⟩
  | P :: Ps, T, nd, h, hl => by
    obtain ⟨pl, pn⟩ := h P List.mem_cons_self
    have sp := len_split (fun t => decide (pev P t = 0)) T
    have few : (T.filter fun t => decide (pev P t = 0)).length < L := by
      refine Nat.lt_of_not_le fun w => pn ?_
      exact pev_zero (by omega) (nd.sublist List.filter_sublist) fun r hr => of_decide_eq_true (List.mem_filter.mp hr).2
    rw [List.length_cons, Nat.succ_mul] at hl
    obtain ⟨t, ht, g⟩ := free_at (L := L) (Ps := Ps) (T := T.filter fun t => !decide (pev P t = 0)) (nd.sublist List.filter_sublist) (fun Q hQ => h Q (List.mem_cons_of_mem _ hQ)) (by omega)
    obtain ⟨h1, h2⟩ := List.mem_filter.mp ht
    refine ⟨t, h1, fun Q hQ => ?_⟩
    rcases List.mem_cons.mp hQ with w | w
    · rw [w]; simpa using h2
    · exact g Q w


/-! ### a plane's points and ways -/
theorem dotR_zeros {r : List Rat} : ∀ n : Nat, dotR r (List.replicate n 0) = 0 := by
  induction r with
  | nil => intro n; exact dotR_nil (.inl rfl)
  | cons a r ih =>
    intro n
    cases n with
    | zero => exact dotR_nil (.inr rfl)
    | succ n =>
      show a * 0 + dotR r (List.replicate n 0) = 0
      rw [ih]; grind
theorem dotR_set {q : Rat} : ∀ {r s : List Rat} {k : Nat} (h1 : k < r.length) (h2 : k < s.length), dotR r (s.set k q) = dotR r s + r[k] * (q - s[k])
  | [], _, _, h, _ => by cases h
  | _ :: _, [], _, _, h => by cases h
  | a :: r, b :: s, 0, _, _ => by
    show a * q + dotR r s = a * b + dotR r s + a * (q - b)
    grind
  | a :: r, b :: s, k + 1, h1, h2 => by
    have g1 : k < r.length := by simpa using h1
    have g2 : k < s.length := by simpa using h2
    have := dotR_set (q := q) (r := r) (s := s) (k := k) g1 g2
    show a * b + dotR r (s.set k q) = a * b + dotR r s + r[k] * (q - s[k])
    rw [this]; grind
/-- the first that is not 0 -/
structure At (l : List Int) (i : Nat) : Prop where
  lt : i < l.length
  nz : l[i] ≠ 0
  z : ∀ j, (h : j < i) → l[j]'(by omega) = 0
theorem at_ex : ∀ {l : List Int}, (∃ z ∈ l, z ≠ 0) → ∃ i, At l i
  | [], ⟨z, h, _⟩ => nomatch h
  | a :: l, ⟨z, h, h0⟩ => by
    by_cases q : a = 0
    · rcases List.mem_cons.mp h with w | w
      · exact absurd (w.trans q) h0
      · obtain ⟨i, h1, h2, h3⟩ := at_ex (l := l) ⟨z, w, h0⟩
        refine ⟨i + 1, by simpa using h1, by simpa using h2, fun j hj => ?_⟩
        cases j with
        | zero => exact q
        | succ j => simpa using h3 j (by omega)
    · exact ⟨0, by simp, q, fun j hj => by omega⟩
abbrev ratz (z : Int) : Rat := (z : Rat)
def stP (p : Pl2) (i : Nat) : List Rat := (List.replicate p.1.length (0 : Rat)).set i (-(p.2 : Rat) / ((p.1.getD i 0 : Int) : Rat))
def wayP (p : Pl2) (i j : Nat) : List Rat := ((List.replicate p.1.length (0 : Rat)).set j ((p.1.getD i 0 : Int) : Rat)).set i ((-(p.1.getD j 0) : Int) : Rat)
def waysP (p : Pl2) (i : Nat) : List (List Rat) := ((List.range p.1.length).filter fun j => decide (j ≠ i)).map (wayP p i)
theorem rati_getD {l : List Int} {k : Nat} (h : k < (rati l).length) : (rati l)[k] = ((l.getD k 0 : Int) : Rat) := by
  have h' : k < l.length := by simpa using h
  rw [List.getElem_map, List.getD_eq_getElem?_getD, List.getElem?_eq_getElem h']; rfl
section
variable {p r : Pl2} {i : Nat}
theorem dot_st (hi : i < p.1.length) (hl : r.1.length = p.1.length) : dotR (rati r.1) (stP p i) = ((r.1.getD i 0 : Int) : Rat) * (-(p.2 : Rat) / ((p.1.getD i 0 : Int) : Rat)) := by
  unfold stP
  rw [dotR_set (by rw [List.length_map]; omega) (by rw [List.length_replicate]; exact hi), dotR_zeros, List.getElem_replicate, rati_getD]
  grind
theorem dot_way {j : Nat} (hi : i < p.1.length) (hj : j < p.1.length) (ij : j ≠ i) (hl : r.1.length = p.1.length) : dotR (rati r.1) (wayP p i j) = ((r.1.getD j 0 : Int) : Rat) * ((p.1.getD i 0 : Int) : Rat) - ((r.1.getD i 0 : Int) : Rat) * ((p.1.getD j 0 : Int) : Rat) := by
  unfold wayP
  rw [dotR_set (by rw [List.length_map]; omega) (by rw [List.length_set, List.length_replicate]; exact hi), dotR_set (by rw [List.length_map]; omega) (by rw [List.length_replicate]; exact hj), dotR_zeros, List.getElem_replicate, List.getElem_set_ne ij, List.getElem_replicate, rati_getD, rati_getD, Rat.intCast_neg]
  grind
theorem waysP_len : (waysP p i).length ≤ p.1.length := by
  unfold waysP
  rw [List.length_map]
  have := List.length_filter_le (fun j => decide (j ≠ i)) (List.range p.1.length)
  rw [List.length_range] at this
  exact this
theorem waysP_lt (hi : i < p.1.length) : (waysP p i).length < p.1.length := by
  unfold waysP
  rw [List.length_map]
  have sp := len_split (fun j => decide (j ≠ i)) (List.range p.1.length)
  rw [List.length_range] at sp
  have : 0 < ((List.range p.1.length).filter fun j => !decide (j ≠ i)).length := List.length_pos_iff.mpr fun z => by
    have : i ∈ (List.range p.1.length).filter fun j => !decide (j ≠ i) := List.mem_filter.mpr ⟨List.mem_range.mpr hi, by simp⟩
    rw [z] at this; cases this
  omega
theorem ways_mem {w : List Rat} (h : w ∈ waysP p i) : ∃ j, j < p.1.length ∧ j ≠ i ∧ w = wayP p i j := by
  obtain ⟨j, hj, rfl⟩ := List.mem_map.mp h
  obtain ⟨h1, h2⟩ := List.mem_filter.mp hj
  exact ⟨j, List.mem_range.mp h1, by simpa using h2, rfl⟩
end
theorem dotR_comm : ∀ {a b : List Rat}, dotR a b = dotR b a
  | [], b => by rw [dotR_nil (.inl rfl), dotR_nil (.inr rfl)]
  | x :: a, [] => by rw [dotR_nil (.inr rfl), dotR_nil (.inl rfl)]
  | x :: a, y :: b => by
    show x * y + dotR a b = y * x + dotR b a
    rw [dotR_comm (a := a)]; grind
/-- height -/
def hP (p : Pl2) (x : List Rat) : Rat := dotR (rati p.1) x + (p.2 : Rat)
/-- the walk along the ways -/
def xF (t : Int) : Nat → List (List Rat) → List Rat → List Rat
  | _, [], x => x
  | k, w :: ws, x => xF t (k + 1) ws (addR x (smul ((t ^ (k + 1) : Int) : Rat) w))
theorem xF_len {t : Int} {n : Nat} : ∀ {ws : List (List Rat)} {k : Nat} {x : List Rat}, (∀ w ∈ ws, w.length = n) → x.length = n → (xF t k ws x).length = n
  | [], _, _, _, h => h
  | w :: ws, k, x, g, h => by
    refine xF_len (ws := ws) (k := k + 1) (fun z hz => g z (List.mem_cons_of_mem _ hz)) ?_
    rw [addR_len (by rw [List.length_map, g w List.mem_cons_self, h])]; exact h
theorem dot_xF {t : Int} {n : Nat} {r : List Rat} : ∀ {ws : List (List Rat)} {k : Nat} {x : List Rat}, (∀ w ∈ ws, w.length = n) → x.length = n → r.length = n →
    dotR r (xF t k ws x) = dotR r x + ((t ^ (k + 1) : Int) : Rat) * pev (ws.map (dotR r)) (t : Rat)
  | [], k, x, _, _, _ => by show dotR r x = dotR r x + _ * 0; grind
  | w :: ws, k, x, g, h, hr => by
    have wl := g w List.mem_cons_self
    have ih := dot_xF (t := t) (r := r) (ws := ws) (k := k + 1) (x := addR x (smul ((t ^ (k + 1) : Int) : Rat) w)) (fun z hz => g z (List.mem_cons_of_mem _ hz)) (by rw [addR_len (by rw [List.length_map, wl, h])]; exact h) hr
    show dotR r (xF t (k + 1) ws (addR x (smul ((t ^ (k + 1) : Int) : Rat) w))) = dotR r x + ((t ^ (k + 1) : Int) : Rat) * (dotR r w + (t : Rat) * pev (ws.map (dotR r)) (t : Rat))
    rw [ih]
    have e : dotR r (addR x (smul ((t ^ (k + 1) : Int) : Rat) w)) = dotR r x + ((t ^ (k + 1) : Int) : Rat) * dotR r w := by
      rw [dotR_comm, dotR_addL (by rw [List.length_map, wl, h]), dotR_mul, dotR_comm, dotR_comm (a := w)]
    rw [e, Int.pow_succ t (k + 1), Rat.intCast_mul]
    grind
/-- a plane's polynomial along the walk -/
def polyP (p : Pl2) (i : Nat) (r : Pl2) : List Rat := hP r (stP p i) :: (waysP p i).map (dotR (rati r.1))
section
variable {p r : Pl2} {i : Nat}
theorem way_len {w : List Rat} (h : w ∈ waysP p i) : w.length = p.1.length := by
  obtain ⟨j, _, _, rfl⟩ := ways_mem h
  unfold wayP
  rw [List.length_set, List.length_set, List.length_replicate]
theorem st_len : (stP p i).length = p.1.length := by unfold stP; rw [List.length_set, List.length_replicate]
theorem hP_walk (hl : r.1.length = p.1.length) (t : Int) : hP r (xF t 0 (waysP p i) (stP p i)) = pev (polyP p i r) (t : Rat) := by
  unfold hP
  rw [dot_xF (n := p.1.length) (fun w hw => way_len hw) st_len (by rw [List.length_map]; exact hl)]
  show _ = hP r (stP p i) + (t : Rat) * pev ((waysP p i).map (dotR (rati r.1))) (t : Rat)
  unfold hP
  rw [show (t ^ (0 + 1) : Int) = t by rw [Nat.zero_add, Int.pow_succ, Int.pow_zero, Int.one_mul]]
  grind
theorem hP_self (A : At p.1 i) (t : Int) : hP p (xF t 0 (waysP p i) (stP p i)) = 0 := by
  have hi := A.lt
  have nz : ((p.1.getD i 0 : Int) : Rat) ≠ 0 := fun z => A.nz (by
    have := Rat.intCast_eq_zero_iff.mp z
    rw [List.getD_eq_getElem?_getD, List.getElem?_eq_getElem hi] at this
    exact this)
  unfold hP
  rw [dot_xF (n := p.1.length) (fun w hw => way_len hw) st_len (by rw [List.length_map]), dot_st hi rfl]
  have : ∀ ws : List (List Rat), (∀ w ∈ ws, dotR (rati p.1) w = 0) → pev (ws.map (dotR (rati p.1))) (t : Rat) = 0 := fun ws => by
    induction ws with
    | nil => intro _; rfl
    | cons w ws ih =>
      intro h
      show dotR (rati p.1) w + (t : Rat) * pev (ws.map (dotR (rati p.1))) (t : Rat) = 0
      rw [h w List.mem_cons_self, ih fun z hz => h z (List.mem_cons_of_mem _ hz)]; grind
  rw [this _ fun w hw => ?_]
  · grind
  · obtain ⟨j, hj, ij, rfl⟩ := ways_mem hw
    rw [dot_way hi hj ij rfl]; grind
/-- another plane is somewhere else -/
theorem poly_nz (A : At p.1 i) (P : PK p) (P2 : PK r) (hl : r.1.length = p.1.length) (ne : r ≠ p) : ¬ ∀ t, pev (polyP p i r) t = 0 := fun h => by
  have hi := A.lt
  have co := pev_coefs h
  have nz : ((p.1.getD i 0 : Int) : Rat) ≠ 0 := fun z => A.nz (by
    have := Rat.intCast_eq_zero_iff.mp z
    rw [List.getD_eq_getElem?_getD, List.getElem?_eq_getElem hi] at this
    exact this)
  have c0 : hP r (stP p i) = 0 := co _ List.mem_cons_self
  have cj : ∀ j, j < p.1.length → j ≠ i → ((r.1.getD j 0 : Int) : Rat) * ((p.1.getD i 0 : Int) : Rat) - ((r.1.getD i 0 : Int) : Rat) * ((p.1.getD j 0 : Int) : Rat) = 0 := fun j hj ij => by
    rw [← dot_way hi hj ij hl]
    refine co _ (List.mem_cons_of_mem _ (List.mem_map_of_mem (List.mem_map_of_mem (List.mem_filter.mpr ⟨List.mem_range.mpr hj, by simpa using ij⟩))))
  have c0 : dotR (rati r.1) (stP p i) + (r.2 : Rat) = 0 := c0
  rw [dot_st hi hl] at c0
  -- r is a multiple of p
  have ea : rati r.1 = smul (((r.1.getD i 0 : Int) : Rat) / ((p.1.getD i 0 : Int) : Rat)) (rati p.1) := by
    refine List.ext_getElem (by simp [hl]) fun j h1 h2 => ?_
    have hj : j < p.1.length := by have := h1; rw [List.length_map] at this; omega
    rw [rati_getD, List.getElem_map, rati_getD]
    by_cases q : j = i
    · subst q; rw [Rat.div_mul_cancel nz]
    · have := cj j hj q
      rw [Rat.div_def]
      have e1 : ((r.1.getD j 0 : Int) : Rat) = ((r.1.getD i 0 : Int) : Rat) * ((p.1.getD j 0 : Int) : Rat) * ((p.1.getD i 0 : Int) : Rat)⁻¹ := by grind
      rw [e1]; grind
  have eb : (r.2 : Rat) = ((r.1.getD i 0 : Int) : Rat) / ((p.1.getD i 0 : Int) : Rat) * (p.2 : Rat) := by
    rw [Rat.div_def] at c0 ⊢
    grind
  generalize ((r.1.getD i 0 : Int) : Rat) / ((p.1.getD i 0 : Int) : Rat) = s at *
  have s0 : s ≠ 0 := fun z => by
    obtain ⟨w, hw, h0⟩ := P2.nz
    have : (w : Rat) ∈ rati r.1 := List.mem_map_of_mem (f := fun p : Int => (p : Rat)) hw
    rw [ea, z] at this
    obtain ⟨y, _, e⟩ := List.mem_map.mp this
    exact h0 (Rat.intCast_eq_zero_iff.mp (by rw [← e]; grind))
  have I1 : IsPl ((p.1 ++ [p.2]).map fun z : Int => (z : Rat)) (p.1 ++ [p.2]) 1 := ⟨by decide, by refine List.map_congr_left fun z _ => ?_; exact (Rat.one_mul _).symm, P.one, P.pos⟩
  have I2 : IsPl (((p.1 ++ [p.2]).map fun z : Int => (z : Rat)).map (s * ·)) (r.1 ++ [r.2]) 1 := ⟨by decide, by
    have e1 : (r.1 ++ [r.2]).map (fun z : Int => (z : Rat)) = ((p.1 ++ [p.2]).map fun z : Int => (z : Rat)).map (s * ·) := by
      simp only [List.map_append]
      show rati r.1 ++ [(r.2 : Rat)] = smul s (rati p.1) ++ [s * (p.2 : Rat)]
      rw [ea, eb]
    rw [← e1]
    refine List.map_congr_left fun z _ => ?_
    exact (Rat.one_mul _).symm, P2.one, P2.pos⟩
  exact ne (pk_inj (plane_one s0 I1 I2).1)
end


/-! ### near a plane -/
theorem size_cases (x : Rat) : (0 ≤ x ∧ sizeR x = x) ∨ (x < 0 ∧ sizeR x = -x) := by
  unfold sizeR
  by_cases q : x.num < 0
  · exact .inr ⟨num_neg.mp q, if_pos q⟩
  · refine .inl ⟨?_, if_neg q⟩
    have : ¬ x < 0 := fun z => q (num_neg.mpr z)
    grind
/-- the lesser of two -/
def minR (x y : Rat) : Rat := if x ≤ y then x else y
def gP (p r : Pl2) : Rat := dotR (rati r.1) (rati p.1)
def bndR (h g : Rat) : Rat := Rat.divInt (h.num.natAbs * (g.den : Int)) ((h.den : Int) * g.num.natAbs * 2)
def nearS (p : Pl2) (x : List Rat) (s : Rat) (r : Pl2) : Rat := if (gP p r).num = 0 then s else minR s (bndR (hP r x) (gP p r))
theorem bndR_eq {h g : Rat} (g0 : g ≠ 0) : bndR h g * (sizeR g * 2) = sizeR h := by
  have gn : (g.num.natAbs : Int) ≠ 0 := by
    have : g.num ≠ 0 := fun z => g0 (Rat.num_eq_zero.mp z)
    omega
  have hs : sizeR h = Rat.divInt (h.num.natAbs : Int) (h.den : Int) := by
    rw [← Rat.num_divInt_den (sizeR h)]
    have := esz h
    unfold fr at this
    simp only [D.tup.injEq, List.cons.injEq, D.int.injEq, and_true] at this
    rw [← this.1, ← this.2]
  have gs : sizeR g = Rat.divInt (g.num.natAbs : Int) (g.den : Int) := by
    rw [← Rat.num_divInt_den (sizeR g)]
    have := esz g
    unfold fr at this
    simp only [D.tup.injEq, List.cons.injEq, D.int.injEq, and_true] at this
    rw [← this.1, ← this.2]
  unfold bndR
  rw [hs, gs, Rat.divInt_eq_div, Rat.divInt_eq_div, Rat.divInt_eq_div, Rat.intCast_mul, Rat.intCast_mul, Rat.intCast_mul]
  have h1 : ((h.den : Int) : Rat) ≠ 0 := fun z => den_ne h (Rat.intCast_eq_zero_iff.mp z)
  have h2 : ((g.den : Int) : Rat) ≠ 0 := fun z => den_ne g (Rat.intCast_eq_zero_iff.mp z)
  have h3 : ((g.num.natAbs : Int) : Rat) ≠ 0 := fun z => gn (Rat.intCast_eq_zero_iff.mp z)
  have h4 : ((2 : Int) : Rat) = 2 := rfl
  rw [h4]
  grind
theorem pos_of_mul {x y : Rat} (h1 : 0 < x * y) (h2 : 0 ≤ y) : 0 < x := by
  refine Rat.not_le.mp fun z => ?_
  have := Rat.mul_nonneg (show 0 ≤ -x by grind) h2
  grind
theorem size_pos' {x : Rat} (h : x ≠ 0) : 0 < sizeR x := by
  rcases size_cases x with ⟨h1, h2⟩ | ⟨h1, h2⟩ <;> rw [h2] <;> grind
theorem minR_le {x y : Rat} : minR x y ≤ x ∧ minR x y ≤ y := by
  unfold minR
  split
  · exact ⟨Rat.le_refl, by assumption⟩
  · rename_i q
    have : y < x := Rat.not_le.mp q
    exact ⟨Rat.le_of_lt this, Rat.le_refl⟩
theorem near_fold {p : Pl2} {x : List Rat} : ∀ {os : List Pl2} {s : Rat}, 0 < s → (∀ r ∈ os, hP r x ≠ 0) → 0 < os.foldl (nearS p x) s ∧ os.foldl (nearS p x) s ≤ s ∧ ∀ r ∈ os, os.foldl (nearS p x) s * (sizeR (gP p r) * 2) ≤ sizeR (hP r x)
  | [], s, h, _ => ⟨h, Rat.le_refl, fun r hr => nomatch hr⟩
  | r :: os, s, h, g => by
    have hr := g r List.mem_cons_self
    have hs := size_pos' hr
    have st : 0 < nearS p x s r ∧ nearS p x s r ≤ s ∧ nearS p x s r * (sizeR (gP p r) * 2) ≤ sizeR (hP r x) := by
      unfold nearS
      by_cases q : (gP p r).num = 0
      · rw [if_pos q, Rat.num_eq_zero.mp q]
        refine ⟨h, Rat.le_refl, ?_⟩
        rw [show sizeR 0 = 0 from rfl]
        grind
      · rw [if_neg q]
        have g0 : gP p r ≠ 0 := fun z => q (by rw [z]; rfl)
        have gs := size_pos' g0
        have e := bndR_eq (h := hP r x) g0
        have bp : 0 < bndR (hP r x) (gP p r) := pos_of_mul (y := sizeR (gP p r) * 2) (by rw [e]; exact hs) (by grind)
        refine ⟨?_, minR_le.1, ?_⟩
        · unfold minR
          split
          · exact h
          · exact bp
        · rw [← e]
          exact Rat.mul_le_mul_of_nonneg_right minR_le.2 (by grind)
    obtain ⟨a, b, c⟩ := near_fold (os := os) (s := nearS p x s r) st.1 fun z hz => g z (List.mem_cons_of_mem _ hz)
    refine ⟨a, Rat.le_trans b st.2.1, fun z hz => ?_⟩
    rcases List.mem_cons.mp hz with w | w
    · rw [w]
      refine Rat.le_trans ?_ st.2.2
      refine Rat.mul_le_mul_of_nonneg_right b ?_
      rcases size_cases (gP p r) with ⟨h1, h2⟩ | ⟨h1, h2⟩ <;> rw [h2] <;> grind
    · exact c z w
theorem size_mul {s g : Rat} (h : 0 < s) : sizeR (s * g) = s * sizeR g := by
  rcases size_cases g with ⟨h1, h2⟩ | ⟨h1, h2⟩
  · rcases size_cases (s * g) with ⟨h3, h4⟩ | ⟨h3, h4⟩
    · rw [h4, h2]
    · have := Rat.mul_nonneg (Rat.le_of_lt h) h1
      grind
  · rcases size_cases (s * g) with ⟨h3, h4⟩ | ⟨h3, h4⟩
    · have := Rat.mul_pos h (show 0 < -g by grind)
      grind
    · rw [h4, h2]; grind
theorem cut_pair {h v : Rat} (h0 : h ≠ 0) (l : sizeR v * 2 ≤ sizeR h) : cut (h + v) + cut (h - v) = 2 * cut h := by
  rcases size_cases h with ⟨h1, h2⟩ | ⟨h1, h2⟩ <;> rcases size_cases v with ⟨v1, v2⟩ | ⟨v1, v2⟩ <;> rw [h2, v2] at l
  · rw [cut_pos (by grind : 0 ≤ h + v), cut_pos (by grind : 0 ≤ h - v), cut_pos h1]; grind
  · rw [cut_pos (by grind : 0 ≤ h + v), cut_pos (by grind : 0 ≤ h - v), cut_pos h1]; grind
  · rw [cut_npos (by grind : h + v ≤ 0), cut_npos (by grind : h - v ≤ 0), cut_npos (by grind : h ≤ 0)]; grind
  · rw [cut_npos (by grind : h + v ≤ 0), cut_npos (by grind : h - v ≤ 0), cut_npos (by grind : h ≤ 0)]; grind
/-- a net's answer by its normal pair -/
def fN (R : Tb) (d : List Rat) (e : Rat) (x : List Rat) : Rat := dotR d x + e + sumA (fun p => cut (hP p x)) R
theorem dot_addr {r a b : List Rat} (h : a.length = b.length) : dotR r (addR a b) = dotR r a + dotR r b := by
  rw [dotR_comm, dotR_addL h, dotR_comm, dotR_comm (a := b)]
theorem dot_smul {r a : List Rat} {t : Rat} : dotR r (smul t a) = t * dotR r a := by
  rw [dotR_comm]
  show dotR (smul t a) r = _
  rw [show dotR (smul t a) r = t * dotR a r from dotR_mul, dotR_comm]
theorem dot_self_pos : ∀ {a : List Int}, (∃ z ∈ a, z ≠ 0) → 0 < dotR (rati a) (rati a)
  | [], ⟨z, h, _⟩ => nomatch h
  | b :: a, ⟨z, h, h0⟩ => by
    have sq : ∀ l : List Int, 0 ≤ dotR (rati l) (rati l) := fun l => by
      induction l with
      | nil => exact Rat.le_refl
      | cons y l ih =>
        show 0 ≤ (y : Rat) * (y : Rat) + dotR (rati l) (rati l)
        have : 0 ≤ (y : Rat) * (y : Rat) := by
          rcases Rat.le_total (a := 0) (b := (y : Rat)) with w | w
          · exact Rat.mul_nonneg w w
          · have := Rat.mul_nonneg (show 0 ≤ -(y : Rat) by grind) (show 0 ≤ -(y : Rat) by grind)
            grind
        grind
    show 0 < (b : Rat) * (b : Rat) + dotR (rati a) (rati a)
    by_cases q : b = 0
    · rcases List.mem_cons.mp h with w | w
      · exact absurd (w.trans q) h0
      · have := dot_self_pos (a := a) ⟨z, w, h0⟩
        rw [q]
        show 0 < (0 : Rat) * 0 + _
        grind
    · have hb : (b : Rat) ≠ 0 := fun z => q (Rat.intCast_eq_zero_iff.mp z)
      have h1 : 0 < (b : Rat) * (b : Rat) := by
        rcases Rat.le_total (a := 0) (b := (b : Rat)) with w | w
        · exact Rat.mul_pos (by grind) (by grind)
        · have := Rat.mul_pos (show 0 < -(b : Rat) by grind) (show 0 < -(b : Rat) by grind)
          grind
      have := sq a
      grind
/-- one of three points shows it -/
theorem three {p : Pl2} {j s e : Rat} {R : Tb} {d x : List Rat} (j0 : j ≠ 0) (s0 : 0 < s) (nz : ∃ z ∈ p.1, z ≠ 0) (h0 : hP p x = 0) (xl : x.length = p.1.length) (hn : ∀ w ∈ R, hP w.1 x ≠ 0) (hs : ∀ w ∈ R, s * (sizeR (gP p w.1) * 2) ≤ sizeR (hP w.1 x)) :
    ¬ (fN ((p, j) :: R) d e x = 0 ∧ fN ((p, j) :: R) d e (addR x (smul s (rati p.1))) = 0 ∧ fN ((p, j) :: R) d e (addR x (smul (-1) (smul s (rati p.1)))) = 0) := fun ⟨f0, f1, f2⟩ => by
  have l1 : x.length = (smul s (rati p.1)).length := by rw [List.length_map, List.length_map]; exact xl
  have l2 : x.length = (smul (-1) (smul s (rati p.1))).length := by rw [List.length_map]; exact l1
  have hp : ∀ r : Pl2, hP r (addR x (smul s (rati p.1))) = hP r x + s * gP p r := fun r => by
    unfold hP gP
    rw [dot_addr l1, dot_smul]; grind
  have hm : ∀ r : Pl2, hP r (addR x (smul (-1) (smul s (rati p.1)))) = hP r x - s * gP p r := fun r => by
    unfold hP gP
    rw [dot_addr l2, dot_smul, dot_smul]; grind
  have rest : ∀ R : Tb, (∀ w ∈ R, hP w.1 x ≠ 0) → (∀ w ∈ R, s * (sizeR (gP p w.1) * 2) ≤ sizeR (hP w.1 x)) →
      sumA (fun q => cut (hP q (addR x (smul s (rati p.1))))) R + sumA (fun q => cut (hP q (addR x (smul (-1) (smul s (rati p.1)))))) R = 2 * sumA (fun q => cut (hP q x)) R := fun R => by
    induction R with
    | nil => intro _ _; show (0 : Rat) + 0 = 2 * 0; grind
    | cons w R ih =>
      intro a b
      have ih := ih (fun z hz => a z (List.mem_cons_of_mem _ hz)) (fun z hz => b z (List.mem_cons_of_mem _ hz))
      have b0 := b w List.mem_cons_self
      have c := cut_pair (h := hP w.1 x) (v := s * gP p w.1) (a w List.mem_cons_self) (by rw [size_mul s0]; grind)
      show w.2 * cut (hP w.1 (addR x (smul s (rati p.1)))) + sumA _ R + (w.2 * cut (hP w.1 (addR x (smul (-1) (smul s (rati p.1))))) + sumA _ R) = 2 * (w.2 * cut (hP w.1 x) + sumA _ R)
      rw [hp, hm]
      grind
  have r0 := rest R hn hs
  have g0 : 0 < gP p p := dot_self_pos nz
  have sg := Rat.mul_pos s0 g0
  have f0 : dotR d x + e + (j * cut (hP p x) + sumA (fun q => cut (hP q x)) R) = 0 := f0
  have f1 : dotR d (addR x (smul s (rati p.1))) + e + (j * cut (hP p (addR x (smul s (rati p.1)))) + sumA (fun q => cut (hP q (addR x (smul s (rati p.1))))) R) = 0 := f1
  have f2 : dotR d (addR x (smul (-1) (smul s (rati p.1)))) + e + (j * cut (hP p (addR x (smul (-1) (smul s (rati p.1))))) + sumA (fun q => cut (hP q (addR x (smul (-1) (smul s (rati p.1)))))) R) = 0 := f2
  rw [h0, cut_pos Rat.le_refl] at f0
  rw [hp, h0, cut_pos (by grind : 0 ≤ 0 + s * gP p p), dot_addr l1, dot_smul] at f1
  rw [hm, h0, cut_npos (by grind : 0 - s * gP p p ≤ 0), dot_addr l2, dot_smul, dot_smul] at f2
  have : j * (s * gP p p) = 0 := by grind
  rcases Rat.mul_eq_zero.mp this with w | w
  · exact j0 w
  · grind


/-! ### a plane's height, points and ways, walked -/
theorem bTen {a b : TT'} {x y : D} {ρ : Rho} {k : Rho → Prop} : bindT (.t (.cons a (.cons b .nil))) (.tup [x, y]) ρ k = bindT a x ρ fun ρ1 => bindT b y ρ1 k := rfl
theorem fr_int1' (p : Int) : D.tup [.int p, .int 1] = fr (p : Rat) := rfl
/-- the places that are not 0 -/
theorem first_nz {a : List Int} {i : Nat} (A : At a i) : ∃ l, (List.range a.length).filter (fun j => decide (a.getD j 0 ≠ 0)) = i :: l := by
  have h1 : List.range a.length = List.range i ++ i :: (List.range (a.length - (i + 1))).map (· + (i + 1)) := by
    refine List.ext_getElem? fun k => ?_
    have hi := A.lt
    by_cases q : k < i
    · rw [List.getElem?_append_left (by rw [List.length_range]; exact q), List.getElem?_range (by omega), List.getElem?_range q]
    · rw [List.getElem?_append_right (by rw [List.length_range]; omega), List.length_range]
      by_cases q2 : k = i
      · subst q2
        rw [List.getElem?_range hi, Nat.sub_self]; rfl
      · obtain ⟨m, rfl⟩ : ∃ m, k = i + (m + 1) := ⟨k - i - 1, by omega⟩
        rw [show i + (m + 1) - i = m + 1 by omega, List.getElem?_cons_succ, List.getElem?_map]
        by_cases q3 : i + (m + 1) < a.length
        · rw [List.getElem?_range q3, List.getElem?_range (by omega)]
          show some (i + (m + 1)) = some (m + (i + 1))
          congr 1; omega
        · rw [List.getElem?_eq_none (by rw [List.length_range]; omega), List.getElem?_eq_none (by rw [List.length_range]; omega)]; rfl
  have h2 : (List.range i).filter (fun j => decide (a.getD j 0 ≠ 0)) = [] := by
    rw [List.filter_eq_nil_iff]
    intro j hj
    have hj := List.mem_range.mp hj
    have hi := A.lt
    have := A.z j hj
    rw [List.getD_eq_getElem?_getD, List.getElem?_eq_getElem (by omega)]
    simpa using this
  have h3 : decide (a.getD i 0 ≠ 0) = true := by
    rw [List.getD_eq_getElem?_getD, List.getElem?_eq_getElem A.lt]
    simpa using A.nz
  rw [h1, List.filter_append, h2, List.nil_append, List.filter_cons, if_pos h3]
  exact ⟨_, rfl⟩
theorem range_filter_succ {f : Nat → Bool} {j : Nat} : (List.range (j + 1)).filter f = (List.range j).filter f ++ if f j = true then [j] else [] := by
  rw [List.range_succ, List.filter_append]
  by_cases q : f j = true
  · rw [if_pos q, List.filter_cons_of_pos q]; rfl
  · rw [if_neg q, List.filter_cons_of_neg q]; rfl
theorem enum_drop {a : List Int} {j : Nat} (h : j < a.length) : enumD j (intz (a.drop j)) = .tup [.int (j : Nat), .int (a.getD j 0)] :: enumD (j + 1) (intz (a.drop (j + 1))) := by
  rw [List.drop_eq_getElem_cons h, List.getD_eq_getElem?_getD, List.getElem?_eq_getElem h]
  rfl
abbrev natD (l : List Nat) : List D := l.map fun j : Nat => .int (j : Int)
theorem stP_get {p : Pl2} {i j : Nat} (h : j < (stP p i).length) : (stP p i)[j] = if i = j then -(p.2 : Rat) / ((p.1.getD i 0 : Int) : Rat) else 0 := by
  unfold stP at h ⊢
  rw [List.getElem_set, List.getElem_replicate]
/-- a plane's sizes -/
structure PB (N : Nat) (p : Pl2) : Prop where
  a : ∀ z ∈ p.1, z.natAbs < 2 ^ N
  b : p.2.natAbs < 2 ^ N
theorem PB.g {N : Nat} {p : Pl2} (P : PB N p) (j : Nat) : (p.1.getD j 0).natAbs < 2 ^ N := by
  rw [List.getD_eq_getElem?_getD]
  by_cases h : j < p.1.length
  · rw [List.getElem?_eq_getElem h]; exact P.a _ (List.getElem_mem h)
  · rw [List.getElem?_eq_none (by omega)]; exact Nat.pow_pos (by decide)
section
variable {k : Nat} {S : Sto} {Q : D → Sto → Prop}
theorem pk0 {q : Pl2} {S : Sto} {k : D → Prop} : dIx S (pkD q) (.int 0) k = k (.tup (intz q.1)) := DL.ix0
theorem pk1 {q : Pl2} {S : Sto} {k : D → Prop} : dIx S (pkD q) (.int 1) k = k (.int q.2) := DL.ix1
theorem height_ok {p : Pl2} {x : List Rat} {B N : Nat} (P : PB N p) (N1 : 1 ≤ N) (hx : ∀ a ∈ x, FB B a) (l6 : p.1.length ≤ 6) (lim : N + B ≤ 30000) (h : Q (fr (hP p x)) S) : Cl (k + 5) f_height [pkD p, row x] S Q := by
  have fa : ∀ z ∈ rati p.1, FB N z := fun z hz => by
    obtain ⟨w, hw, rfl⟩ := List.mem_map.mp hz
    exact FB_int (P.a w hw) N1
  have m := Nat.mul_le_mul (Nat.le_refl (N + B + 1)) (show (rati p.1).length + 1 ≤ 7 by rw [List.length_map]; omega)
  have fd : FB 210010 (dotR (rati p.1) x) := (FB_dot fa hx).mono (by
    have := Nat.mul_le_mul_left (N + B + 1) (show (rati p.1).length ≤ 6 by rw [List.length_map]; omega)
    omega)
  refine ⟨_, rfl, rfl, ?_⟩
  wp_walk using RUN, b_height, pk0, pk1
  refine whole_row_ok (by omega) ?_
  try wp_walk using RUN, pk0, pk1
  refine dot_ok fa hx (by omega) ?_
  try wp_walk using RUN, pk0, pk1
  rw [fr_int1']
  exact plus_ok fd (FB_int P.b N1) (by omega) (.same h)
theorem point_on_ok {p : Pl2} {i : Nat} (A : At p.1 i) (l6 : p.1.length ≤ 6) (h : Q (row (stP p i)) S) : Cl (k + 3) f_point_on [pkD p] S Q := by
  have hi := A.lt
  have nz : p.1.getD i 0 ≠ 0 := by rw [List.getD_eq_getElem?_getD, List.getElem?_eq_getElem hi]; exact A.nz
  refine ⟨_, rfl, rfl, ?_⟩
  wp_walk using RUN, b_point_on, bTpk
  refine loopC_ind (fun xs acc S' => S' = S ∧ ∃ j : Nat, j ≤ p.1.length ∧ xs = enumD j (intz (p.1.drop j)) ∧ acc = natD ((List.range j).filter fun j => decide (p.1.getD j 0 ≠ 0))) ⟨rfl, 0, by omega, rfl, rfl⟩ ?_ ?_
  · rintro acc S' ⟨rfl, j, hj, e, rfl⟩
    have : j = p.1.length := by
      refine Classical.byContradiction fun w => ?_
      rw [enum_drop (by omega)] at e; cases e
    subst this
    obtain ⟨l, el⟩ := first_nz A
    rw [el]
    wp_walk using RUN
    refine loopC_ind (fun xs acc S'' => S'' = S' ∧ ∃ j : Nat, j ≤ p.1.length ∧ xs = enumD j (intz (p.1.drop j)) ∧ acc = ((stP p i).take j).map fr) ⟨rfl, 0, by omega, rfl, rfl⟩ ?_ ?_
    · rintro acc S'' ⟨rfl, j, hj, e, rfl⟩
      have : j = p.1.length := by
        refine Classical.byContradiction fun w => ?_
        rw [enum_drop (by omega)] at e; cases e
      subst this
      rw [List.take_of_length_le (by rw [st_len]; omega)]
      try wp_walk using RUN
      exact .same h
    · rintro x xs next ih acc S'' ⟨rfl, j, hj, e, rfl⟩
      by_cases q : j < p.1.length
      · rw [enum_drop q] at e
        cases e
        have lj : j < (stP p i).length := by rw [st_len]; exact q
        have tk : (stP p i).take (j + 1) = (stP p i).take j ++ [(stP p i)[j]] := List.take_succ_eq_append_getElem lj
        wp_walk using RUN, bTen, List.length_map, List.length_take
        refine ⟨by unfold LIM; omega, ite3 (fun w => ?_) (fun w => ?_)⟩
        · have : j = i := by omega
          subst this
          refine lowest_ok nz ?_
          try wp_walk using RUN
          refine ih _ _ ⟨rfl, j + 1, q, rfl, ?_⟩
          rw [tk, List.map_append]
          have ev : (stP p j)[j] = Rat.divInt (-p.2) (p.1.getD j 0) := by
            rw [stP_get, if_pos rfl, Rat.divInt_eq_div, Rat.intCast_neg]
          rw [ev]; rfl
        · refine ih _ _ ⟨rfl, j + 1, q, rfl, ?_⟩
          rw [tk, List.map_append]
          have ev : (stP p i)[j] = 0 := by
            rw [stP_get, if_neg (by omega)]
          rw [ev]; rfl
      · have : j = p.1.length := by omega
        subst this
        rw [List.drop_eq_nil_of_le (Nat.le_refl _)] at e; cases e
  · rintro x xs next ih acc S' ⟨rfl, j, hj, e, rfl⟩
    by_cases q : j < p.1.length
    · rw [enum_drop q] at e
      cases e
      have lf := List.length_filter_le (fun j => decide (p.1.getD j 0 ≠ 0)) (List.range j)
      rw [List.length_range] at lf
      wp_walk using RUN, bTen, List.length_map
      refine ⟨by unfold LIM; omega, ite3 (fun w => ?_) (fun w => ?_)⟩
      · refine ih _ _ ⟨rfl, j + 1, q, rfl, ?_⟩
        rw [range_filter_succ, if_pos (by simpa using w)]
        simp
      · refine ih _ _ ⟨rfl, j + 1, q, rfl, ?_⟩
        rw [range_filter_succ, if_neg (by simpa using w)]
        simp
    · have : j = p.1.length := by omega
      subst this
      rw [List.drop_eq_nil_of_le (Nat.le_refl _)] at e; cases e
theorem power_of_ok {t : Int} {m : Nat} (h0 : 0 ≤ t) (h1 : t.natAbs < 2 ^ 9) (m6 : m ≤ 6) (h : Q (.int (t ^ m)) S) : Cl (k + 1) f_power_of [.int t, .int (m : Nat)] S Q := by
  refine ⟨_, rfl, rfl, ?_⟩
  wp_walk using RUN, b_power_of
  refine ⟨by unfold RngOk; omega, ?_⟩
  refine loopF_ind (fun xs ρ S' => S' = S ∧ ∃ (i : Nat) (u : Option D), xs = rangeD i m ∧ i ≤ m ∧ ρ = [some (.int t), some (.int (m : Nat)), some (.int (t ^ i)), u]) ⟨rfl, 0, none, rfl, by omega, by rw [Int.pow_zero]⟩ ?_ ?_
  · rintro ρ S' ⟨rfl, i, u, e, hi, rfl⟩
    have : ¬ (i : Int) < (m : Int) := fun q => by rw [rangeD_cons q] at e; cases e
    have : i = m := by omega
    subst this
    try wp_walk using RUN
    exact .same h
  · rintro x xs next ih ρ S' ⟨rfl, i, u, e, hi, rfl⟩
    by_cases q : (i : Int) < (m : Int)
    · rw [rangeD_cons q] at e
      cases e
      have pb : (t ^ i).natAbs < 2 ^ 60 := by
        rw [Int.natAbs_pow]
        refine Nat.lt_of_le_of_lt (Nat.pow_le_pow_left (Nat.le_of_lt h1) i) ?_
        rw [← Nat.pow_mul]
        exact Nat.pow_lt_pow_right (by decide) (by omega)
      try wp_walk using RUN
      refine ⟨mulok pb h1 (by decide), ih _ _ ⟨rfl, i + 1, _, by rw [Int.natCast_add]; rfl, by omega, by rw [Int.pow_succ]⟩⟩
    · rw [rangeD_nil (by omega)] at e
      cases e
end

section
variable {k : Nat} {S : Sto} {Q : D → Sto → Prop}
theorem zeros_eq' (m : Nat) : (List.replicate m [fr 0]).flatten = (List.replicate m (0 : Rat)).map fr := by
  induction m with
  | zero => rfl
  | succ m ih => rw [List.replicate_succ, List.replicate_succ, List.flatten_cons, List.map_cons, ih]; rfl
theorem ways_along_ok {p : Pl2} {i : Nat} (A : At p.1 i) (l6 : p.1.length ≤ 6) (h : Q (.lst ((waysP p i).map row)) S) : Cl (k + 1) f_ways_along [pkD p] S Q := by
  have hi := A.lt
  refine ⟨_, rfl, rfl, ?_⟩
  wp_walk using RUN, b_ways_along, pk0
  refine loopC_ind (fun xs acc S' => S' = S ∧ ∃ j : Nat, j ≤ p.1.length ∧ xs = enumD j (intz (p.1.drop j)) ∧ acc = natD ((List.range j).filter fun j => decide (p.1.getD j 0 ≠ 0))) ⟨rfl, 0, by omega, rfl, rfl⟩ ?_ ?_
  · rintro acc S' ⟨rfl, j, hj, e, rfl⟩
    have : j = p.1.length := by
      refine Classical.byContradiction fun w => ?_
      rw [enum_drop (by omega)] at e; cases e
    subst this
    obtain ⟨l, el⟩ := first_nz A
    rw [el]
    wp_walk using RUN
    intro f hf
    try wp_walk using RUN
    refine loopF_ind (fun xs ρ S'' => ∃ (j : Nat) (u2 u3 u6 : Option D), j ≤ p.1.length ∧ xs = enumD j (intz (p.1.drop j)) ∧ Sub S' S'' ∧ S'' f = some ((((List.range j).filter fun j => decide (j ≠ i)).map (wayP p i)).map row) ∧
      ρ = [some (pkD p), some (.tup (intz p.1)), u2, u3, some (.int (i : Int)), some (.ref f), u6, none]) ⟨0, none, none, none, by omega, rfl, Sub.put hf, Sto.put_same, rfl⟩ ?_ ?_
    · rintro ρ S'' ⟨j, u2, u3, u6, hj, e, sb, ef, rfl⟩
      have : j = p.1.length := by
        refine Classical.byContradiction fun w => ?_
        rw [enum_drop (by omega)] at e; cases e
      subst this
      wp_walk using RUN
      exact ⟨S', .lst ((waysP p i).map row), sb, .ref ef hf (FrzL.refl _), h⟩
    · rintro x xs next ih ρ S'' ⟨j, u2, u3, u6, hj, e, sb, ef, rfl⟩
      by_cases q : j < p.1.length
      · rw [enum_drop q] at e
        cases e
        have lf := List.length_filter_le (fun j => decide (j ≠ i)) (List.range j)
        rw [List.length_range] at lf
        have ei : ∀ (S : Sto) (k : D → Prop), dIx S (.tup (intz p.1)) (.int (i : Int)) k = k (.int (p.1.getD i 0)) := fun S k => ixT (by omega) (by rw [Int.toNat_natCast, List.getElem?_map, List.getElem?_eq_getElem hi, List.getD_eq_getElem?_getD, List.getElem?_eq_getElem hi]; rfl)
        wp_walk using RUN, bTen, List.length_map
        refine ite3 (fun w => ?_) (fun w => ?_)
        · have w : j ≠ i := fun z => w (by rw [z])
          refine ⟨⟨by omega, by omega, by unfold LIM; first | omega | (simp; omega)⟩, ?_⟩
          intro r hr
          have nf : f ≠ r := fun z => by rw [z, hr] at ef; cases ef
          have n0 : S' r = none := by
            cases e0 : S' r with
            | none => rfl
            | some xs => rw [sb r xs e0] at hr; cases hr
          have ex : (List.replicate ((p.1.length : Int)).toNat [D.tup [.int 0, .int 1]]).flatten = (List.replicate p.1.length (0 : Rat)).map fr := by rw [Int.toNat_natCast]; exact zeros_eq' _
          rw [ex]
          have pr : ∀ (S : Sto) xs, (S.put r xs) r = some xs := fun _ _ => Sto.put_same
          have i1 : ∀ (l : List D), l.length = p.1.length → ∀ (d : D) (k : List D → Prop), dSetL l (j : Int) d k = k (l.set j d) := fun l hl d k => dSetL_of (ixN0 (by omega) (by omega))
          have i2 : ∀ (l : List D), l.length = p.1.length → ∀ (d : D) (k : List D → Prop), dSetL l (i : Int) d k = k (l.set i d) := fun l hl d k => dSetL_of (ixN0 (by omega) (by omega))
          have pf : ∀ (S : Sto) xs, (S.put r xs) f = S f := fun _ _ => Sto.put_ne nf
          wp_walk using RUN, ei, pr, pf, ef, Sto.put_put
          rw [i1 _ (by simp)]
          try wp_walk using RUN, ei, pr, pf, ef, Sto.put_put
          rw [i2 _ (by simp)]
          try wp_walk using RUN, ei, pr, pf, ef, Sto.put_put, List.length_map
          refine ⟨by unfold LIM; omega, ?_⟩
          refine ih _ _ ⟨j + 1, _, _, _, q, rfl, fun b xs e => ?_, ?_, rfl⟩
          · have nb : b ≠ r := fun z => by rw [z, n0] at e; cases e
            have nb2 : b ≠ f := fun z => by rw [z, hf] at e; cases e
            rw [Sto.put_ne nb2, Sto.put_ne nb]
            exact sb b xs e
          · rw [Sto.put_same, range_filter_succ, if_pos (by simpa using w)]
            simp only [List.map_append, List.map_cons, List.map_nil]
            have er : D.tup ((((List.replicate p.1.length (0 : Rat)).map fr).set j (.tup [.int (p.1.getD i 0), .int 1])).set i (.tup [.int (-p.1.getD j 0), .int 1])) = row (wayP p i j) := by
              unfold wayP
              show _ = D.tup ((((List.replicate p.1.length (0 : Rat)).set j ((p.1.getD i 0 : Int) : Rat)).set i ((-(p.1.getD j 0) : Int) : Rat)).map fr)
              rw [List.map_set, List.map_set]; rfl
            rw [er]
        · have w : j = i := by have := Decidable.not_not.mp w; omega
          refine ih _ _ ⟨j + 1, _, _, _, q, rfl, sb, ?_, rfl⟩
          rw [range_filter_succ, if_neg (by simpa using w), List.append_nil]
          exact ef
      · have : j = p.1.length := by omega
        subst this
        rw [List.drop_eq_nil_of_le (Nat.le_refl _)] at e; cases e
  · rintro x xs next ih acc S' ⟨rfl, j, hj, e, rfl⟩
    by_cases q : j < p.1.length
    · rw [enum_drop q] at e
      cases e
      have lf := List.length_filter_le (fun j => decide (p.1.getD j 0 ≠ 0)) (List.range j)
      rw [List.length_range] at lf
      wp_walk using RUN, bTen, List.length_map
      refine ⟨by unfold LIM; omega, ite3 (fun w => ?_) (fun w => ?_)⟩
      · refine ih _ _ ⟨rfl, j + 1, q, rfl, ?_⟩
        rw [range_filter_succ, if_pos (by simpa using w)]
        simp
      · refine ih _ _ ⟨rfl, j + 1, q, rfl, ?_⟩
        rw [range_filter_succ, if_neg (by simpa using w)]
        simp
    · have : j = p.1.length := by omega
      subst this
      rw [List.drop_eq_nil_of_le (Nat.le_refl _)] at e; cases e
end


/-! ### a free point -/
/-- the planes' sizes -/
structure PO (n N : Nat) (p : Pl2) : Prop where
  b : PB N p
  len : p.1.length = n
theorem CD_addL {M k l : Nat} {a b : List Rat} (M0 : 0 < M) (h1 : ∀ x ∈ a, CD M k x) (h2 : ∀ x ∈ b, CD M l x) (le : l ≤ k) : ∀ x ∈ addR a b, CD M (k + 1) x := by
  induction a generalizing b with
  | nil => intro x hx; cases hx
  | cons x a ih =>
    cases b with
    | nil => intro y hy; cases hy
    | cons y b =>
      intro z hz
      have hz : z ∈ (x + y) :: addR a b := hz
      rcases List.mem_cons.mp hz with q | q
      · rw [q]; exact (h1 x List.mem_cons_self).add M0 ((h2 y List.mem_cons_self).mono (Nat.dvd_refl _) le)
      · exact ih (fun u hu => h1 u (List.mem_cons_of_mem _ hu)) (fun u hu => h2 u (List.mem_cons_of_mem _ hu)) z q
theorem CD_intz {z : Int} {N : Nat} (h : z.natAbs < 2 ^ N) : CD 1 N (z : Rat) := ⟨Nat.dvd_refl _, by show z.natAbs < 2 ^ N * 1; rw [Nat.mul_one]; exact h⟩
section
variable {n N i : Nat} {p : Pl2}
theorem way_cd (P : PB N p) {w : List Rat} (hw : w ∈ waysP p i) : ∀ x ∈ w, CD 1 N x := fun x hx => by
  obtain ⟨j, _, _, rfl⟩ := ways_mem hw
  rcases List.mem_or_eq_of_mem_set hx with q | q
  · rcases List.mem_or_eq_of_mem_set q with q | q
    · rw [List.eq_of_mem_replicate q]; exact CD0
    · rw [q]; exact CD_intz (P.g i)
  · rw [q]; exact CD_intz (by rw [Int.natAbs_neg]; exact P.g j)
theorem st_cd (P : PB N p) (nz : p.1.getD i 0 ≠ 0) : ∀ x ∈ stP p i, CD (p.1.getD i 0).natAbs N x := fun x hx => by
  rcases List.mem_or_eq_of_mem_set hx with q | q
  · rw [List.eq_of_mem_replicate q]; exact CD0
  · rw [q]
    have e : -(p.2 : Rat) / ((p.1.getD i 0 : Int) : Rat) = Rat.divInt (-p.2) (p.1.getD i 0) := by rw [Rat.divInt_eq_div, Rat.intCast_neg]
    rw [e]
    refine ⟨divInt_den_dvd _ _, mag_of nz ?_⟩
    rw [Int.natAbs_neg]
    exact Nat.lt_of_lt_of_le P.b (Nat.le_mul_of_pos_right _ (by omega))
theorem pow_lt {t : Int} {m : Nat} (h1 : t.natAbs < 2 ^ 9) (m6 : m ≤ 6) : (t ^ m).natAbs < 2 ^ 55 := by
  rw [Int.natAbs_pow]
  refine Nat.lt_of_le_of_lt (Nat.pow_le_pow_left (Nat.le_of_lt h1) m) ?_
  rw [← Nat.pow_mul]
  exact Nat.pow_lt_pow_right (by decide) (by omega)
theorem xF_cd {t : Int} {V : Nat} (V0 : 0 < V) (h1 : t.natAbs < 2 ^ 9) : ∀ {ws : List (List Rat)} {k : Nat} {x : List Rat}, k + ws.length ≤ 6 → (∀ w ∈ ws, ∀ x ∈ w, CD 1 N x) → (∀ a ∈ x, CD V (N + 55 + k) a) → ∀ a ∈ xF t k ws x, CD V (N + 61) a
  | [], k, x, hk, _, hx => fun a ha => (hx a ha).mono (Nat.dvd_refl _) (by simp at hk; omega)
  | w :: ws, k, x, hk, hw, hx => by
    rw [List.length_cons] at hk
    refine xF_cd V0 h1 (ws := ws) (k := k + 1) (by omega) (fun z hz => hw z (List.mem_cons_of_mem _ hz)) ?_
    refine CD_addL V0 hx (l := 55 + N) (fun y hy => ?_) (by show 55 + N ≤ N + 55 + k; omega)
    obtain ⟨z, hz, rfl⟩ := List.mem_map.mp hy
    exact ((CD_intz (pow_lt h1 (by omega))).mul (hw w List.mem_cons_self z hz)).mono (Nat.one_dvd _) (Nat.le_refl _)
end
section
variable {k : Nat} {S : Sto} {Q : D → Sto → Prop}
theorem free_point_ok {n N i : Nat} {p : Pl2} {os : List Pl2} (A : At p.1 i) (P : PO n N p) (pk : PK p) (N1 : 1 ≤ N) (N2 : N ≤ 5000) (n6 : n ≤ 6) (hos : ∀ r ∈ os, PO n N r ∧ PK r ∧ r ≠ p) (lo : os.length ≤ 60)
    (h : ∀ x, x.length = n → hP p x = 0 → (∀ r ∈ os, hP r x ≠ 0) → (∀ a ∈ x, CD (p.1.getD i 0).natAbs (N + 61) a) → Q (row x) S) : Cl (k + 6) f_free_point [pkD p, .lst (os.map pkD)] S Q := by
  have hi := A.lt
  have pl := P.len
  have nz : p.1.getD i 0 ≠ 0 := by rw [List.getD_eq_getElem?_getD, List.getElem?_eq_getElem hi]; exact A.nz
  have V0 : 0 < (p.1.getD i 0).natAbs := by omega
  have VN : (p.1.getD i 0).natAbs < 2 ^ N := P.b.g i
  have wl := waysP_lt hi
  -- a value that will do
  obtain ⟨t0, t9, good⟩ : ∃ t0 : Nat, t0 < 2 ^ 9 ∧ ∀ r ∈ os, hP r (xF (t0 : Int) 0 (waysP p i) (stP p i)) ≠ 0 := by
    have := free_at (L := 6) (Ps := os.map (polyP p i)) (T := (List.range 400).map fun j : Nat => (((j : Int)) : Rat)) ?_ ?_ ?_
    · obtain ⟨t, ht, g⟩ := this
      obtain ⟨j, hj, rfl⟩ := List.mem_map.mp ht
      have := List.mem_range.mp hj
      refine ⟨j, by omega, fun r hr => ?_⟩
      rw [hP_walk (by rw [(hos r hr).1.len]; exact pl.symm)]
      exact g _ (List.mem_map_of_mem hr)
    · refine List.Pairwise.map _ (fun a b (hab : a ≠ b) z => hab ?_) List.nodup_range
      have := Rat.intCast_inj.mp z
      omega
    · intro Pl hPl
      obtain ⟨r, hr, rfl⟩ := List.mem_map.mp hPl
      refine ⟨?_, poly_nz A pk (hos r hr).2.1 (by rw [(hos r hr).1.len]; exact pl.symm) (hos r hr).2.2⟩
      show (hP r (stP p i) :: (waysP p i).map _).length ≤ 6
      rw [List.length_cons, List.length_map]; omega
    · rw [List.length_map, List.length_map, List.length_range]; omega
  refine ⟨_, rfl, rfl, ?_⟩
  wp_walk using RUN, b_free_point
  refine point_on_ok A (by omega) ?_
  try wp_walk using RUN
  refine ways_along_ok A (by omega) ?_
  try wp_walk using RUN
  refine loopW_ind (fun m ρ S' => S' = S ∧ ∃ (c : Nat) (u5 u6 u7 : Option D), c ≤ t0 ∧ m = t0 - c ∧
    ρ = [some (pkD p), some (.lst (os.map pkD)), some (row (stP p i)), some (.lst ((waysP p i).map row)), some (.int (c : Nat)), u5, u6, u7, none, none, none]) t0 ⟨rfl, 0, none, none, none, by omega, by omega, rfl⟩ ?_
  rintro m next ih ρ S' ⟨rfl, c, u5, u6, u7, hc, hm, rfl⟩
  have c9 : ((c : Int)).natAbs < 2 ^ 9 := by rw [Int.natAbs_natCast]; omega
  wp_walk using RUN
  refine loopF_ind (fun xs ρ S'' => S'' = S' ∧ ∃ (ws1 ws2 : List (List Rat)) (x : List Rat) (u5 u6 : Option D), xs = enumD ws1.length (ws2.map row) ∧ waysP p i = ws1 ++ ws2 ∧ xF (c : Int) ws1.length ws2 x = xF (c : Int) 0 (waysP p i) (stP p i) ∧ x.length = n ∧ (∀ a ∈ x, CD (p.1.getD i 0).natAbs (N + 55 + ws1.length) a) ∧
    ρ = [some (pkD p), some (.lst (os.map pkD)), some (row (stP p i)), some (.lst ((waysP p i).map row)), some (.int (c : Nat)), u5, u6, some (row x), none, none, none]) ?_ ?_ ?_
  · exact ⟨rfl, [], waysP p i, stP p i, u5, u6, rfl, rfl, rfl, by rw [st_len]; exact pl, fun a ha => (st_cd P.b nz a ha).mono (Nat.dvd_refl _) (by omega), rfl⟩
  · rintro ρ S'' ⟨rfl, ws1, ws2, x, u5, u6, e, e2, ex, xl, cx, rfl⟩
    cases ws2 with
    | cons w l => cases e
    | nil =>
      rw [List.append_nil] at e2
      have ex : x = xF (c : Int) 0 (waysP p i) (stP p i) := ex
      have cx2 : ∀ a ∈ x, CD (p.1.getD i 0).natAbs (N + 61) a := fun a ha => (cx a ha).mono (Nat.dvd_refl _) (by rw [← e2]; omega)
      have fx : ∀ a ∈ x, FB (N + (N + 61)) a := fun a ha => (cx2 a ha).fb V0 VN
      try wp_walk using RUN
      refine loopA_ind (fun xs S3 => S3 = S'' ∧ ∃ o1 o2 : List Pl2, xs = o2.map pkD ∧ os = o1 ++ o2 ∧ ∀ r ∈ o1, hP r x ≠ 0) ⟨rfl, [], os, rfl, rfl, fun r hr => nomatch hr⟩ ?_ ?_
      · rintro S3 ⟨rfl, o1, o2, eo, eo2, ho⟩
        cases o2 with
        | cons w l => cases eo
        | nil =>
          rw [List.append_nil] at eo2
          subst eo2
          refine ⟨trivial, ?_⟩
          try wp_walk using RUN
          exact .same (h x xl (by rw [ex]; exact hP_self A _) ho cx2)
      · rintro y ys nxt ih2 S3 ⟨rfl, o1, o2, eo, eo2, ho⟩
        cases o2 with
        | nil => cases eo
        | cons r o2 =>
          cases eo
          have hr : r ∈ os := by rw [eo2]; simp
          have Pr := (hos r hr).1
          wp_walk using RUN
          refine height_ok Pr.b N1 fx (by rw [Pr.len]; exact n6) (by omega) ?_
          try wp_walk using RUN
          refine ite3 (fun z => ?_) (fun z => ?_)
          · -- it lies on this one
            have z : hP r x = 0 := Rat.num_eq_zero.mp (by simpa using z)
            have ne : c ≠ t0 := fun w => by
              subst w
              rw [← ex] at good
              exact good r hr z
            exact ih (t0 - (c + 1)) _ _ (by omega) ⟨rfl, c + 1, _, _, _, by omega, rfl, by rw [Int.natCast_add]; rfl⟩
          · refine ih2 _ ⟨rfl, o1 ++ [r], o2, rfl, by rw [eo2]; simp, fun s hs => ?_⟩
            rcases List.mem_append.mp hs with q | q
            · exact ho s q
            · rw [List.mem_singleton.mp q]
              exact fun w => z (by rw [w]; simp)
  · rintro y ys nxt ih2 ρ S'' ⟨rfl, ws1, ws2, x, u5, u6, e, e2, ex, xl, cx, rfl⟩
    cases ws2 with
    | nil => cases e
    | cons w ws2 =>
      cases e
      have hw : w ∈ waysP p i := by rw [e2]; simp
      have l2 := congrArg List.length e2
      rw [List.length_append, List.length_cons] at l2
      have cw := way_cd P.b hw
      have wl := way_len hw
      have fw : ∀ a ∈ w, FB (1 + N) a := fun a ha => (cw a ha).fb (m := 1) (by decide) (by decide)
      have fp : FB 56 ((((c : Int) ^ (ws1.length + 1) : Int)) : Rat) := FB_int (pow2_mono (pow_lt c9 (by omega)) (by omega)) (by omega)
      have fx : ∀ a ∈ x, FB (N + (N + 61)) a := fun a ha => ((cx a ha).fb V0 VN).mono (by omega)
      have ec : ((ws1.length : Int) + 1) = ((ws1.length + 1 : Nat) : Int) := by omega
      wp_walk using RUN, bTen, ec
      refine power_of_ok (by omega) c9 (by omega) ?_
      try wp_walk using RUN
      rw [fr_int1']
      refine scaled_ok fp fw (by omega) (by omega) ?_
      try wp_walk using RUN
      refine added_ok fx (FB_smul fp fw) (by omega) (by omega) ?_
      try wp_walk using RUN
      refine ih2 _ _ ⟨rfl, ws1 ++ [w], ws2, addR x (smul (((c : Int) ^ (ws1.length + 1) : Int) : Rat) w), _, _, by rw [List.length_append]; rfl, by rw [e2]; simp, ?_, ?_, ?_, rfl⟩
      · rw [List.length_append, List.length_singleton, ← ex]; rfl
      · rw [addR_len (by rw [List.length_map]; omega)]; exact xl
      · rw [List.length_append, List.length_singleton]
        refine CD_addL V0 cx (l := 55 + N) (fun y hy => ?_) (by show 55 + N ≤ N + 55 + ws1.length; omega)
        obtain ⟨z, hz, rfl⟩ := List.mem_map.mp hy
        exact ((CD_intz (pow_lt c9 (by omega))).mul (cw z hz)).mono (Nat.one_dvd _) (Nat.le_refl _)
end


/-! ### near a plane, walked -/
theorem dot_cd' {M N k l : Nat} (M0 : 0 < M) (N0 : 0 < N) : ∀ {r s : List Rat}, (∀ a ∈ r, CD M k a) → (∀ a ∈ s, CD N l a) → CD (M * N) (k + l + r.length) (dotR r s)
  | [], s, _, _ => by rw [dotR_nil (.inl rfl)]; exact CD0
  | a :: r, [], _, _ => by rw [dotR_nil (.inr rfl)]; exact CD0
  | a :: r, b :: s, h1, h2 => by
    have ih := dot_cd' M0 N0 (r := r) (s := s) (fun a h => h1 a (List.mem_cons_of_mem _ h)) (fun a h => h2 a (List.mem_cons_of_mem _ h))
    have h3 := (h1 a List.mem_cons_self).mul (h2 b List.mem_cons_self)
    have u : k + l ≤ k + l + r.length := by omega
    exact (h3.mono (Nat.dvd_refl _) u).add (Nat.mul_pos M0 N0) ih
theorem hP_zero {a : List Int} {y : List Rat} : hP (a, 0) y = dotR (rati a) y := by
  show dotR (rati a) y + ((0 : Int) : Rat) = _
  rw [show ((0 : Int) : Rat) = 0 from rfl, Rat.add_zero]
theorem rat_le {x y : Rat} : x ≤ y ↔ x.num * (y.den : Int) ≤ y.num * (x.den : Int) := by
  rw [← Rat.not_lt, Rat.lt_iff]; omega
/-- a step's size -/
structure SB (D : Nat) (s : Rat) : Prop where
  p : 0 < s
  l : s ≤ 1
  d : s.den < 2 ^ D
theorem SB.cd {D : Nat} {s : Rat} (h : SB D s) : CD s.den 1 s := by
  refine ⟨Nat.dvd_refl _, ?_⟩
  have h1 := rat_le.mp h.l
  have h0 := num_pos.mpr h.p
  have h1 : s.num * 1 ≤ 1 * (s.den : Int) := h1
  have := s.den_pos
  omega
theorem SB.fb {D : Nat} {s : Rat} (h : SB D s) : FB (D + 1) s := h.cd.fb s.den_pos h.d
section
variable {k : Nat} {S : Sto} {Q : D → Sto → Prop}
theorem least_of_ok {x y : Rat} {B C : Nat} (h1 : FB B x) (h2 : FB C y) (l : B + C < 900000) (h : Q (fr (minR x y)) S) : Cl (k + 1) f_least_of [fr x, fr y] S Q := by
  refine ⟨_, rfl, rfl, ?_⟩
  wp_walk using RUN, b_least_of
  unfold minR at h
  refine ⟨h1.md h2 (by omega), h2.md h1 (by omega), ite3 (fun q => ?_) (fun q => ?_)⟩
  · rw [if_pos (rat_le.mpr q)] at h
    exact .same h
  · rw [if_neg (fun z => q (rat_le.mp z))] at h
    exact .same h
theorem near_step_ok {n N V : Nat} {p : Pl2} {os : List Pl2} {x : List Rat} (P : PO n N p) (N1 : 1 ≤ N) (N2 : N ≤ 5000) (n6 : n ≤ 6) (hos : ∀ r ∈ os, PO n N r) (V0 : 0 < V) (VN : V < 2 ^ N) (hx : ∀ a ∈ x, CD V (N + 61) a) (hn : ∀ r ∈ os, hP r x ≠ 0)
    (h : SB (3 * N + 7) (os.foldl (nearS p x) 1) → Q (fr (os.foldl (nearS p x) 1)) S) : Cl (k + 6) f_near_step [pkD p, .lst (os.map pkD), row x] S Q := by
  have fx : ∀ a ∈ x, FB (N + (N + 61)) a := fun a ha => (hx a ha).fb V0 VN
  have fa : ∀ a ∈ rati p.1, FB (1 + N) a := fun a ha => by
    obtain ⟨w, hw, rfl⟩ := List.mem_map.mp ha
    exact FB_int (pow2_mono (P.b.a w hw) (by omega)) (by omega)
  have cI : ∀ {r : Pl2}, PO n N r → ∀ a ∈ rati r.1, CD 1 N a := fun Pr a ha => by
    obtain ⟨w, hw, rfl⟩ := List.mem_map.mp ha
    exact CD_intz (Pr.b.a w hw)
  refine ⟨_, rfl, rfl, ?_⟩
  wp_walk using RUN, b_near_step, Xc, pk0
  refine whole_row_ok (by have := P.len; omega) ?_
  try wp_walk using RUN
  refine loopF_ind (fun xs ρ S' => S' = S ∧ ∃ (o1 o2 : List Pl2) (s : Rat) (u5 u6 u7 u8 : Option D), xs = o2.map pkD ∧ os = o1 ++ o2 ∧ s = o1.foldl (nearS p x) 1 ∧ SB (3 * N + 7) s ∧
    ρ = [some (pkD p), some (.lst (os.map pkD)), some (row x), some (fr s), some (row (rati p.1)), u5, u6, u7, u8]) ?_ ?_ ?_
  · exact ⟨rfl, [], os, 1, none, none, none, none, rfl, rfl, rfl, ⟨by decide +kernel, Rat.le_refl, by show 1 < _; exact Nat.one_lt_two_pow (by omega)⟩, rfl⟩
  · rintro ρ S' ⟨rfl, o1, o2, s, u5, u6, u7, u8, e, e2, es, B, rfl⟩
    cases o2 with
    | cons w l => cases e
    | nil =>
      rw [List.append_nil] at e2
      subst e2
      subst es
      try wp_walk using RUN
      exact .same (h B)
  · rintro y ys next ih ρ S' ⟨rfl, o1, o2, s, u5, u6, u7, u8, e, e2, es, B, rfl⟩
    cases o2 with
    | nil => cases e
    | cons r o2 =>
      cases e
      have hr : r ∈ os := by rw [e2]; simp
      have Pr := hos r hr
      have lr := Pr.len
      have step : ∀ u5 u6 u7 u8, SB (3 * N + 7) (nearS p x s r) → next [some (pkD p), some (.lst (os.map pkD)), some (row x), some (fr (nearS p x s r)), some (row (rati p.1)), u5, u6, u7, u8] S' := fun u5 u6 u7 u8 B2 =>
        ih _ _ ⟨rfl, o1 ++ [r], o2, nearS p x s r, u5, u6, u7, u8, rfl, by rw [e2]; simp, by rw [List.foldl_append, ← es]; rfl, B2, rfl⟩
      have P0 : PB N (r.1, 0) := ⟨Pr.b.a, Nat.pow_pos (by decide)⟩
      have ch : CD V (2 * N + 68) (hP r x) := by
        have h1 := dot_cd' (by decide) V0 (cI Pr) hx
        rw [Nat.one_mul] at h1
        exact (h1.mono (k' := 2 * N + 67) (Nat.dvd_refl _) (by rw [List.length_map]; omega)).add V0 ((CD_intz Pr.b.b).mono (Nat.one_dvd _) (by omega))
      have cg : CD 1 (2 * N + 6) (gP p r) := (dot_cd' (by decide) (by decide) (cI Pr) (cI P)).mono (Nat.dvd_refl _) (by rw [List.length_map]; omega)
      have fh : FB (N + (2 * N + 68)) (hP r x) := ch.fb V0 VN
      have fg : FB (1 + (2 * N + 6)) (gP p r) := cg.fb (m := 1) (by decide) (by decide)
      wp_walk using RUN, pk0
      refine height_ok Pr.b N1 fx (by omega) (by omega) ?_
      try wp_walk using RUN, pk0
      refine height_ok (p := (r.1, 0)) P0 N1 fa (by show r.1.length ≤ 6; omega) (by omega) ?_
      rw [hP_zero]
      show dIx S' (fr (gP p r)) (D.int 0) _
      have gz : dotR (rati r.1) (rati p.1) = gP p r := rfl
      rw [gz]
      wp_walk using RUN
      refine ite3 (fun z => ?_) (fun z => ?_)
      · have z : ¬ (gP p r).num = 0 := by simpa using z
        have e1 : nearS p x s r = minR s (bndR (hP r x) (gP p r)) := by unfold nearS; rw [if_neg z]
        rw [e1] at step
        have b1 : ((hP r x).num.natAbs * ((gP p r).den : Int)).natAbs < 2 ^ (N + (2 * N + 68) + (1 + (2 * N + 6))) := by
          rw [Int.natAbs_mul, Int.natAbs_natCast, Int.natAbs_natCast]; exact lt_pow_mul fh.1 fg.2
        have b2 : (((hP r x).den : Int) * ((gP p r).num.natAbs : Int) * 2).natAbs < 2 ^ (3 * N + 7) := by
          rw [Int.natAbs_mul, Int.natAbs_mul, Int.natAbs_natCast, Int.natAbs_natCast]
          have q1 : (hP r x).den < 2 ^ N := Nat.lt_of_le_of_lt (Nat.le_of_dvd V0 ch.dv) VN
          have q2 : (gP p r).num.natAbs < 2 ^ (2 * N + 6) := by
            have := cg.lt
            have d1 : (gP p r).den = 1 := Nat.dvd_one.mp cg.dv
            rw [d1, Nat.mul_one] at this
            exact this
          have q3 := lt_pow_mul q1 q2
          rw [show 3 * N + 7 = (N + (2 * N + 6)) + 1 by omega, Nat.pow_succ]
          exact Nat.mul_lt_mul_of_pos_right q3 (by decide)
        have bn : ((hP r x).den : Int) * ((gP p r).num.natAbs : Int) * 2 ≠ 0 := Int.mul_ne_zero (Int.mul_ne_zero (den_ne _) (by omega)) (by decide)
        have fb : FB (5 * N + 80) (bndR (hP r x) (gP p r)) := FB_divInt bn (pow2_mono b1 (by omega)) (pow2_mono b2 (by omega))
        have g0 : gP p r ≠ 0 := fun w => z (by rw [w]; rfl)
        have hs := size_pos' (hn r hr)
        have gs := size_pos' g0
        have bp : 0 < bndR (hP r x) (gP p r) := pos_of_mul (y := sizeR (gP p r) * 2) (by rw [bndR_eq g0]; exact hs) (by grind)
        have B2 : SB (3 * N + 7) (minR s (bndR (hP r x) (gP p r))) := by
          unfold minR
          split
          · exact B
          · rename_i w
            refine ⟨bp, Rat.le_trans (Rat.le_of_lt (Rat.not_le.mp w)) B.l, ?_⟩
            refine Nat.lt_of_le_of_lt (Nat.le_of_dvd (by omega) (divInt_den_dvd _ _)) b2
        refine ⟨mulok (B := 3 * N + 68) (C := 2 * N + 7) (by rw [Int.natAbs_natCast]; exact pow2_mono fh.1 (by omega)) (by rw [Int.natAbs_natCast]; exact pow2_mono fg.2 (by omega)) (by omega), ?_⟩
        refine ⟨mulok (B := 3 * N + 68) (C := 2 * N + 7) (by rw [Int.natAbs_natCast]; exact pow2_mono fh.2 (by omega)) (by rw [Int.natAbs_natCast]; exact pow2_mono fg.1 (by omega)) (by omega), ?_⟩
        refine ⟨mulok_r (by omega), ?_⟩
        refine lowest_ok bn ?_
        try wp_walk using RUN
        refine least_of_ok B.fb fb (by omega) ?_
        try wp_walk using RUN
        exact step _ _ _ _ B2
      · have z : (gP p r).num = 0 := Decidable.not_not.mp z
        have e1 : nearS p x s r = s := by unfold nearS; rw [if_pos z]
        rw [e1] at step
        exact step _ _ _ _ B
theorem around_ok {n N i : Nat} {p : Pl2} {os : List Pl2} (A : At p.1 i) (P : PO n N p) (pk : PK p) (N1 : 1 ≤ N) (N2 : N ≤ 5000) (n6 : n ≤ 6) (hos : ∀ r ∈ os, PO n N r ∧ PK r ∧ r ≠ p) (lo : os.length ≤ 60)
    (h : ∀ (x : List Rat) (s : Rat) (M : Nat), x.length = n → hP p x = 0 → (∀ r ∈ os, hP r x ≠ 0) → 0 < s → (∀ r ∈ os, s * (sizeR (gP p r) * 2) ≤ sizeR (hP r x)) → 0 < M → M < 2 ^ (4 * N + 7) → (∀ a ∈ x, CD M (N + 62) a) → (∀ a ∈ addR x (smul s (rati p.1)), CD M (N + 62) a) → (∀ a ∈ addR x (smul (-1) (smul s (rati p.1))), CD M (N + 62) a) →
      Q (.tup [row x, row (addR x (smul s (rati p.1))), row (addR x (smul (-1) (smul s (rati p.1))))]) S) : Cl (k + 7) f_around [pkD p, .lst (os.map pkD)] S Q := by
  have hi := A.lt
  have pl := P.len
  have nz : p.1.getD i 0 ≠ 0 := by rw [List.getD_eq_getElem?_getD, List.getElem?_eq_getElem hi]; exact A.nz
  have V0 : 0 < (p.1.getD i 0).natAbs := by omega
  have VN : (p.1.getD i 0).natAbs < 2 ^ N := P.b.g i
  refine ⟨_, rfl, rfl, ?_⟩
  wp_walk using RUN, b_around
  refine free_point_ok A P pk N1 N2 n6 hos lo fun x xl x0 xn xc => ?_
  have fx : ∀ a ∈ x, FB (N + (N + 61)) a := fun a ha => (xc a ha).fb V0 VN
  try wp_walk using RUN
  refine near_step_ok P N1 N2 n6 (fun r hr => (hos r hr).1) V0 VN xc xn fun B => ?_
  obtain ⟨s0, s1, s2⟩ := near_fold (p := p) (x := x) (os := os) (s := 1) (by decide +kernel) xn
  generalize os.foldl (nearS p x) 1 = s at *
  have Ds := s.den_pos
  have cw : ∀ a ∈ smul s (rati p.1), CD s.den (1 + N) a := fun a ha => by
    obtain ⟨z, hz, rfl⟩ := List.mem_map.mp ha
    obtain ⟨w, hw, rfl⟩ := List.mem_map.mp hz
    have := B.cd.mul (CD_intz (P.b.a w hw))
    rw [Nat.mul_one] at this
    exact this
  have fa : ∀ a ∈ rati p.1, FB (1 + N) a := fun a ha => by
    obtain ⟨w, hw, rfl⟩ := List.mem_map.mp ha
    exact FB_int (pow2_mono (P.b.a w hw) (by omega)) (by omega)
  have fw : ∀ a ∈ smul s (rati p.1), FB (3 * N + 8 + (1 + N)) a := FB_smul B.fb fa
  wp_walk using RUN, pk0
  refine whole_row_ok (by omega) ?_
  try wp_walk using RUN
  refine scaled_ok B.fb fa (by omega) (by rw [List.length_map]; omega) ?_
  try wp_walk using RUN
  refine added_ok fx fw (by omega) (by omega) ?_
  try wp_walk using RUN
  have em : D.tup [.int (-1), .int 1] = fr (-1) := frE (by decide +kernel) (by decide +kernel)
  rw [em]
  have f1 : FB 1 (-1 : Rat) := by unfold FB; decide +kernel
  refine scaled_ok f1 fw (by omega) (by rw [List.length_map, List.length_map]; omega) ?_
  try wp_walk using RUN
  refine added_ok fx (FB_smul f1 fw) (by omega) (by omega) ?_
  try wp_walk using RUN
  have M0 : 0 < (p.1.getD i 0).natAbs * s.den := Nat.mul_pos V0 Ds
  have xM : ∀ a ∈ x, CD ((p.1.getD i 0).natAbs * s.den) (N + 61) a := fun a ha => (xc a ha).mono (Nat.dvd_mul_right _ _) (Nat.le_refl _)
  have wM : ∀ a ∈ smul s (rati p.1), CD ((p.1.getD i 0).natAbs * s.den) (1 + N) a := fun a ha => (cw a ha).mono (Nat.dvd_mul_left _ _) (Nat.le_refl _)
  refine .same (h x s ((p.1.getD i 0).natAbs * s.den) xl x0 xn s0 s2 M0 ?_ (fun a ha => (xM a ha).mono (Nat.dvd_refl _) (by omega)) ?_ ?_)
  · rw [show 4 * N + 7 = N + (3 * N + 7) by omega]
    exact lt_pow_mul VN B.d
  · exact CD_addL M0 xM wM (by omega)
  · refine CD_addL M0 xM (l := 1 + N) (fun y hy => ?_) (by omega)
    obtain ⟨z, hz, rfl⟩ := List.mem_map.mp hy
    have := (wM z hz).neg
    rw [show -z = -1 * z by grind] at this
    exact this
end


/-! ### a point that shows it -/
/-- a net's normal pair, and all that is asked of it -/
structure NF (n N : Nat) (hs : List Hg) (sa : List Rat) (sb : Rat) (R : Tb) (d : List Rat) (e : Rat) : Prop where
  pn : ∀ {k : Nat} {S : Sto} {Q : D → Sto → Prop}, Q (.tup [.tup (R.map rowD), str d e]) S → Cl (k + 5) f_normal [netD (n : Int) hs sa sb] S Q
  po : ∀ w ∈ R, PO n N w.1 ∧ PK w.1 ∧ w.2 ≠ 0
  nd : (R.map (·.1)).Nodup
  few : R.length ≤ 60
  dl : d.length = n
  ans : ∀ x, ansR hs sa sb x = fN R d e x
/-- sizes for answers -/
structure SA (n Ba Bc C : Nat) (hs : List Hg) (sa : List Rat) (sb : Rat) : Prop where
  h : ∀ h ∈ hs, HF Ba Bc n h
  few : hs.length ≤ 40
  sl : sa.length = n
  a : ∀ x ∈ sa, FB C x
  b : FB C sb
  b1 : 1 ≤ Ba
  ba : Ba ≤ 100
  bc : Bc ≤ 400
  c : C ≤ 5000
def unitR (n j : Nat) : List Rat := (List.replicate n (0 : Rat)).set j 1
section
variable {k : Nat} {S : Sto} {Q : D → Sto → Prop}
theorem straight_okX {B X : Nat} {sa x : List Rat} {sb : Rat} (h1 : ∀ z ∈ sa, FB B z) (l6 : sa.length ≤ 6) (h2 : FB B sb) (hx : ∀ z ∈ x, FB X z) (hB : B + X ≤ 35000) (h : Q (fr (dotR sa x + sb)) S) : Cl (k + 5) f_straight_at [str sa sb, row x] S Q := by
  have m := Nat.mul_le_mul_left (B + X + 1) l6
  have m2 := Nat.mul_le_mul_left (B + X + 1) (Nat.succ_le_succ l6)
  refine ⟨_, rfl, rfl, ?_⟩
  wp_walk using RUN, b_straight_at
  refine dot_ok h1 hx (by rw [Nat.mul_add]; omega) ?_
  try wp_walk using RUN
  exact plus_ok (B := 300000) ((FB_dot h1 hx).mono (by omega)) h2 (by omega) (.same h)
theorem answer_okX {n Ba Bc C X : Nat} {ni : Int} {hs : List Hg} {sa x : List Rat} {sb : Rat} (A : SA n Ba Bc C hs sa sb) (hx : ∀ a ∈ x, FB X a) (xl : x.length = n) (n6 : n ≤ 6) (hX : X ≤ 2100)
    (h : Q (fr (ansR hs sa sb x)) S) : Cl (k + 6) f_answer [netD ni hs sa sb, row x] S Q := by
  have b1 := A.b1
  have b2 := A.ba
  have b3 := A.bc
  have b4 := A.c
  have few := A.few
  have sl := A.sl
  have m4 : ∀ c, c * n ≤ c * 6 := fun c => Nat.mul_le_mul_left _ n6
  have fd : FB 50000 (dotR sa x) := (FB_dot A.a hx).mono (by rw [sl]; have := m4 (C + X + 1); omega)
  refine ⟨_, rfl, rfl, ?_⟩
  wp_walk using RUN, b_answer
  refine straight_okX A.a (by omega) A.b hx (by omega) ?_
  try wp_walk using RUN
  refine loopF_ind (fun xs ρ S' => S' = S ∧ ∃ (hs' : List Hg) (i : Nat) (t : Rat) (u v z : Option D), xs = hs'.map hg ∧ (∀ h ∈ hs', HF Ba Bc n h) ∧ t + sumH x hs' = dotR sa x + sb + sumH x hs ∧ i + hs'.length = hs.length ∧ FB (60000 + 15000 * i) t ∧
    ρ = [some (netD ni hs sa sb), some (row x), some (.int ni), some (.tup (hs.map hg)), some (str sa sb), some (fr t), u, v, z]) ?_ ?_ ?_
  · exact ⟨rfl, hs, 0, _, none, none, none, rfl, A.h, rfl, by omega, (fd.add A.b).mono (by omega), rfl⟩
  · rintro ρ S' ⟨rfl, hs', i, t, u, v, z, e, _, e2, _, _, rfl⟩
    cases hs' with
    | cons a r => cases e
    | nil =>
      have e3 : t = dotR sa x + sb + sumH x hs := by rw [← e2]; exact (Rat.add_zero t).symm
      subst e3
      try wp_walk using RUN
      exact .same h
  · rintro y xs next ih ρ S' ⟨rfl, hs', i, t, u, v, z, e, g, e2, hi, ft, rfl⟩
    cases hs' with
    | nil => cases e
    | cons a r =>
      cases e
      have Ah := g a List.mem_cons_self
      have fdd : FB (6 * (Ba + X + 1) + 1) (dotR a.a x) := (FB_dot Ah.a hx).mono (by rw [Ah.len]; have := m4 (Ba + X + 1); omega)
      have fh : FB (6 * (Ba + X + 1) + 1 + Ba + 1) (high x a) := fdd.add Ah.b
      rw [List.length_cons] at hi
      have fp := Ah.c.mul (FB_cut fh (by omega))
      wp_walk using RUN, hg
      refine dot_ok Ah.a hx (by rw [Ah.len, Nat.mul_add]; have := m4 (Ba + X + 1); omega) ?_
      try wp_walk using RUN
      refine plus_ok fdd Ah.b (by omega) ?_
      try wp_walk using RUN
      refine cut_ok ?_
      try wp_walk using RUN
      refine product_ok Ah.c (FB_cut fh (by omega)) (by omega) ?_
      try wp_walk using RUN
      refine plus_ok ft fp (by omega) ?_
      try wp_walk using RUN
      refine ih _ _ ⟨rfl, r, i + 1, t + a.c * cut (high x a), _, _, _, rfl, fun h q => g h (List.mem_cons_of_mem _ q), ?_, by omega, (ft.add fp).mono (by omega), rfl⟩
      rw [← e2, Rat.add_assoc]
      rfl
theorem zeros_ok {n : Nat} (h0 : n ≤ 6) (h : Q (row (List.replicate n 0)) S) : Cl (k + 1) f_zeros [.int (n : Nat)] S Q := by
  refine ⟨_, rfl, rfl, ?_⟩
  wp_walk using RUN, b_zeros, Xc
  rw [show D.tup [.int 0, .int 1] = fr 0 from rfl, zeros_eq', Int.toNat_natCast]
  exact ⟨⟨by simp, by omega, by omega, by decide⟩, .same h⟩
theorem unit_row_ok {n j : Nat} (h0 : n ≤ 6) (h : Q (row (unitR n j)) S) : Cl (k + 1) f_unit_row [.int (n : Nat), .int (j : Nat)] S Q := by
  have lu : (unitR n j).length = n := by unfold unitR; rw [List.length_set, List.length_replicate]
  refine ⟨_, rfl, rfl, ?_⟩
  wp_walk using RUN, b_unit_row
  refine ⟨by unfold RngOk; omega, ?_⟩
  refine loopC_ind (fun xs acc S' => S' = S ∧ ∃ i : Nat, i ≤ n ∧ xs = rangeD i n ∧ acc = ((unitR n j).take i).map fr) ⟨rfl, 0, by omega, rfl, rfl⟩ ?_ ?_
  · rintro acc S' ⟨rfl, i, hi, e, rfl⟩
    have : ¬ (i : Int) < (n : Int) := fun q => by rw [rangeD_cons q] at e; cases e
    rw [List.take_of_length_le (by omega)]
    try wp_walk using RUN
    exact .same h
  · rintro y xs next ih acc S' ⟨rfl, i, hi, e, rfl⟩
    by_cases q : (i : Int) < (n : Int)
    · rw [rangeD_cons q] at e
      cases e
      have li : i < (unitR n j).length := by omega
      have tk : (unitR n j).take (i + 1) = (unitR n j).take i ++ [(unitR n j)[i]] := List.take_succ_eq_append_getElem li
      have gv : (unitR n j)[i] = if j = i then 1 else 0 := by
        unfold unitR at li ⊢
        rw [List.getElem_set, List.getElem_replicate]
      wp_walk using RUN, Xc, List.length_map, List.length_take
      refine ⟨by unfold LIM; omega, ite3 (fun w => ?_) (fun w => ?_)⟩
      · refine ih _ _ ⟨rfl, i + 1, by omega, by rw [Int.natCast_add]; rfl, ?_⟩
        rw [tk, List.map_append, gv, if_pos (by omega)]; rfl
      · refine ih _ _ ⟨rfl, i + 1, by omega, by rw [Int.natCast_add]; rfl, ?_⟩
        rw [tk, List.map_append, gv, if_neg (by omega)]; rfl
    · rw [rangeD_nil (by omega)] at e
      cases e
/-- the first of some points that shows it -/
theorem show_loop {n Ba Bc C Bx : Nat} {hs : List Hg} {sa : List Rat} {sb : Rat} {st : Sto → Prop} {xs0 : List (List Rat)} {u1 u2 u3 u4 u5 : Option D} (A : SA n Ba Bc C hs sa sb) (n6 : n ≤ 6) (hX : Bx ≤ 2100) (hst : st S)
    (hp : ∀ x ∈ xs0, x.length = n ∧ ∀ a ∈ x, FB Bx a)
    (h0 : (∀ x ∈ xs0, ansR hs sa sb x = 0) → Q (.tup []) S) (h1 : ∀ x ∈ xs0, ansR hs sa sb x ≠ 0 → Q (row x) S) :
    loopF X (callD X fs (k + 7)) (TT'.n 5) (.seq (.ite (.tv (.ix (.call f_answer (.cons (.v 0) (.cons (.v 5) .nil))) (.c (.int 0)))) (.seq (.ret (.v 5)) .done) .done) .done) st
      { nx := fun ρ1 S1 => Give Q (D.tup []) S1, rt := Give Q, bk := fun x x_1 => False, ct := fun x x_1 => False } (xs0.map row) [some (netD (n : Int) hs sa sb), u1, u2, u3, u4, u5, none, none, none, none, none, none] S := by
  refine loopF_ind (fun xs ρ S' => S' = S ∧ ∃ (x1 x2 : List (List Rat)) (u5 : Option D), xs = x2.map row ∧ xs0 = x1 ++ x2 ∧ (∀ x ∈ x1, ansR hs sa sb x = 0) ∧ ρ = [some (netD (n : Int) hs sa sb), u1, u2, u3, u4, u5, none, none, none, none, none, none]) ⟨rfl, [], xs0, u5, rfl, rfl, fun x hx => (nomatch hx), rfl⟩ ?_ ?_
  · rintro ρ S' ⟨rfl, x1, x2, u5, e, e2, g, rfl⟩
    cases x2 with
    | cons w l => cases e
    | nil =>
      rw [List.append_nil] at e2
      subst e2
      exact ⟨hst, .same (h0 g)⟩
  · rintro y ys next ih ρ S' ⟨rfl, x1, x2, u5, e, e2, g, rfl⟩
    cases x2 with
    | nil => cases e
    | cons x x2 =>
      cases e
      have hx : x ∈ xs0 := by rw [e2]; simp
      obtain ⟨xl, xf⟩ := hp x hx
      wp_walk using RUN
      refine ⟨hst, answer_okX A xf xl n6 hX ?_⟩
      try wp_walk using RUN
      refine ite3 (fun z => ?_) (fun z => ?_)
      · have z : ¬ (ansR hs sa sb x).num = 0 := by simpa using z
        exact .same (h1 x hx fun w => z (by rw [w]; rfl))
      · have z : (ansR hs sa sb x).num = 0 := Decidable.not_not.mp z
        refine ih _ _ ⟨rfl, x1 ++ [x], x2, _, rfl, by rw [e2]; simp, fun w hw => ?_, rfl⟩
        rcases List.mem_append.mp hw with q | q
        · exact g w q
        · rw [List.mem_singleton.mp q]; exact Rat.num_eq_zero.mp z
theorem showing_ok {n N Ba Bc C : Nat} {hs : List Hg} {sa : List Rat} {sb : Rat} {R : Tb} {d : List Rat} {e : Rat} (F : NF n N hs sa sb R d e) (A : SA n Ba Bc C hs sa sb) (n1 : 1 ≤ n) (n6 : n ≤ 6) (N1 : 1 ≤ N) (N2 : N ≤ 400)
    (h0 : R = [] → (∀ a ∈ d, a = 0) → e = 0 → Q (.tup []) S)
    (h1 : ∀ x M, x.length = n → 0 < M → M < 2 ^ (4 * N + 7) → (∀ a ∈ x, CD M (N + 62) a) → ansR hs sa sb x ≠ 0 → Q (row x) S) : Cl (k + 8) f_showing_point [netD (n : Int) hs sa sb] S Q := by
  refine ⟨_, rfl, rfl, ?_⟩
  wp_walk using RUN, b_showing_point
  refine F.pn ?_
  have few := F.few
  have hN : ∀ {x : List Rat} {M : Nat}, 0 < M → M < 2 ^ (4 * N + 7) → (∀ a ∈ x, CD M (N + 62) a) → ∀ a ∈ x, FB (5 * N + 69) a := fun M0 M1 h a ha => ((h a ha).fb M0 M1).mono (by omega)
  try wp_walk using RUN
  refine ite3 (fun q => ?_) (fun q => ?_)
  · cases hR : R with
    | nil => rw [hR] at q; simp at q
    | cons w R' =>
      obtain ⟨p, j⟩ := w
      have hpo := F.po (p, j) (by rw [hR]; exact List.mem_cons_self)
      obtain ⟨Pp, pk, j0⟩ := hpo
      obtain ⟨i, Ai⟩ := at_ex pk.nz
      have nd := F.nd
      rw [hR, List.map_cons, List.nodup_cons] at nd
      have lR : R'.length ≤ 60 := by have := congrArg List.length hR; rw [List.length_cons] at this; omega
      have hos : ∀ r ∈ R'.map (·.1), PO n N r ∧ PK r ∧ r ≠ p := fun r hr => by
        obtain ⟨w, hw, rfl⟩ := List.mem_map.mp hr
        obtain ⟨a, b, _⟩ := F.po w (by rw [hR]; exact List.mem_cons_of_mem _ hw)
        exact ⟨a, b, fun z => nd.1 (z ▸ hr)⟩
      have ec : cutD (((p, j) :: R').map rowD) (some 1) none = R'.map rowD := by rw [List.map_cons]; exact cut1
      have r0 : ∀ (S : Sto) (k : D → Prop), dIx S (.tup (((p, j) :: R').map rowD)) (.int 0) k = k (rowD (p, j)) := fun S k => DL.ix0
      have r1 : ∀ (S : Sto) (k : D → Prop), dIx S (rowD (p, j)) (.int 0) k = k (.tup (intz p.1)) := fun S k => DL.ix0
      have r2 : ∀ (S : Sto) (k : D → Prop), dIx S (rowD (p, j)) (.int 1) k = k (.int p.2) := fun S k => DL.ix1
      rw [ec]
      wp_walk using RUN, r0, r1, r2
      refine loopC_ind (fun xs acc S' => S' = S ∧ ∃ o1 o2 : Tb, xs = o2.map rowD ∧ R' = o1 ++ o2 ∧ acc = (o1.map (·.1)).map pkD) ⟨rfl, [], R', rfl, rfl, rfl⟩ ?_ ?_
      · rintro acc S' ⟨rfl, o1, o2, e1, e2, rfl⟩
        cases o2 with
        | cons w l => cases e1
        | nil =>
          rw [List.append_nil] at e2
          subst e2
          have ep : D.tup [.tup (intz p.1), .int p.2] = pkD p := rfl
          rw [ep]
          refine ⟨trivial, around_ok Ai Pp pk N1 (by omega) n6 hos (by rw [List.length_map]; exact lR) fun x s M xl x0 xn s0 s1 M0 M1 c0 c1 c2 => ?_⟩
          have pl : p.1.length = n := Pp.len
          have ls : (smul s (rati p.1)).length = n := by rw [List.length_map, List.length_map]; exact pl
          have l1 : (addR x (smul s (rati p.1))).length = n := by rw [addR_len (by omega)]; exact xl
          have l2 : (addR x (smul (-1) (smul s (rati p.1)))).length = n := by rw [addR_len (by rw [List.length_map]; omega)]; exact xl
          wp_walk using RUN, List.length_map
          refine show_loop (k := k) (Bx := 5 * N + 69) (xs0 := [x, addR x (smul s (rati p.1)), addR x (smul (-1) (smul s (rati p.1)))]) A n6 (by omega) trivial (fun y hy => ?_) (fun h => ?_) (fun y hy hne => ?_)
          · simp only [List.mem_cons, List.not_mem_nil, or_false] at hy
            rcases hy with rfl | rfl | rfl
            · exact ⟨xl, hN M0 M1 c0⟩
            · exact ⟨l1, hN M0 M1 c1⟩
            · exact ⟨l2, hN M0 M1 c2⟩
          · exfalso
            refine three (p := p) (j := j) (s := s) (e := e) (R := R') (d := d) (x := x) j0 s0 pk.nz x0 (by omega) (fun w hw => xn _ (List.mem_map_of_mem hw)) (fun w hw => s1 _ (List.mem_map_of_mem hw)) ⟨?_, ?_, ?_⟩
            · rw [← hR, ← F.ans]; exact h _ (by simp)
            · rw [← hR, ← F.ans]; exact h _ (by simp)
            · rw [← hR, ← F.ans]; exact h _ (by simp)
          · simp only [List.mem_cons, List.not_mem_nil, or_false] at hy
            rcases hy with rfl | rfl | rfl
            · exact h1 _ M xl M0 M1 c0 hne
            · exact h1 _ M l1 M0 M1 c1 hne
            · exact h1 _ M l2 M0 M1 c2 hne
      · rintro y ys nxt ih acc S' ⟨rfl, o1, o2, e1, e2, rfl⟩
        cases o2 with
        | nil => cases e1
        | cons w o2 =>
          cases e1
          have l3 := congrArg List.length e2
          rw [List.length_append] at l3
          wp_walk using RUN, bTrow, List.length_map
          exact ⟨by unfold LIM; omega, ih _ _ ⟨rfl, o1 ++ [w], o2, rfl, by rw [e2]; simp, by simp; rfl⟩⟩
  · have hR : R = [] := by
      cases hR : R with
      | nil => rfl
      | cons w R' => rw [hR] at q; simp at q
    refine zeros_ok n6 ?_
    try wp_walk using RUN
    refine ⟨by unfold RngOk; omega, ?_⟩
    refine loopC_ind (fun xs acc S' => S' = S ∧ ∃ i : Nat, i ≤ n ∧ xs = rangeD i n ∧ acc = ((List.range i).map (unitR n)).map row) ⟨rfl, 0, by omega, rfl, rfl⟩ ?_ ?_
    · rintro acc S' ⟨rfl, i, hi, e1, rfl⟩
      have : ¬ (i : Int) < (n : Int) := fun q => by rw [rangeD_cons q] at e1; cases e1
      have : i = n := by omega
      subst this
      wp_walk using RUN, List.length_map, List.length_range
      refine ⟨by unfold LIM; omega, ?_⟩
      have dl := F.dl
      have all : ∀ y ∈ List.replicate i (0 : Rat) :: (List.range i).map (unitR i), y.length = i ∧ ∀ a ∈ y, CD 1 1 a := fun y hy => by
        rcases List.mem_cons.mp hy with rfl | hy
        · exact ⟨List.length_replicate, fun a ha => by rw [List.eq_of_mem_replicate ha]; exact CD0⟩
        · obtain ⟨m, _, rfl⟩ := List.mem_map.mp hy
          refine ⟨by unfold unitR; rw [List.length_set, List.length_replicate], fun a ha => ?_⟩
          rcases List.mem_or_eq_of_mem_set ha with q | q
          · rw [List.eq_of_mem_replicate q]; exact CD0
          · rw [q]; exact ⟨by decide, by decide⟩
      have p1 : 1 < 2 ^ (4 * N + 7) := Nat.one_lt_two_pow (by omega)
      refine show_loop (k := k) (Bx := 5 * N + 69) (xs0 := List.replicate i (0 : Rat) :: (List.range i).map (unitR i)) A n6 (by omega) trivial (fun y hy => ⟨(all y hy).1, hN (M := 1) (by decide) p1 fun a ha => ((all y hy).2 a ha).mono (Nat.dvd_refl _) (by omega)⟩) (fun h => ?_) (fun y hy hne => h1 y 1 (all y hy).1 (by decide) p1 (fun a ha => ((all y hy).2 a ha).mono (Nat.dvd_refl _) (by omega)) hne)
      have z0 : fN R d e (List.replicate i 0) = 0 := by rw [← F.ans]; exact h _ List.mem_cons_self
      have zu : ∀ m, m < i → fN R d e (unitR i m) = 0 := fun m hm => by rw [← F.ans]; exact h _ (List.mem_cons_of_mem _ (List.mem_map_of_mem (List.mem_range.mpr hm)))
      rw [hR] at z0 zu
      have ef : ∀ y, fN [] d e y = dotR d y + e := fun y => by
        show dotR d y + e + 0 = _
        rw [Rat.add_zero]
      rw [ef, dotR_zeros, Rat.zero_add] at z0
      refine h0 hR (fun a ha => ?_) z0
      obtain ⟨m, hm, rfl⟩ := List.mem_iff_getElem.mp ha
      have := zu m (by omega)
      rw [ef, z0, Rat.add_zero] at this
      unfold unitR at this
      rw [dotR_set hm (by rw [List.length_replicate]; omega), dotR_zeros, List.getElem_replicate] at this
      grind
    · rintro y ys nxt ih acc S' ⟨rfl, i, hi, e1, rfl⟩
      by_cases q : (i : Int) < (n : Int)
      · rw [rangeD_cons q] at e1
        cases e1
        wp_walk using RUN, List.length_map, List.length_range
        refine ⟨by unfold LIM; omega, unit_row_ok n6 ?_⟩
        try wp_walk using RUN
        refine ih _ _ ⟨rfl, i + 1, by omega, by rw [Int.natCast_add]; rfl, ?_⟩
        rw [List.range_succ]; simp
      · rw [rangeD_nil (by omega)] at e1
        cases e1
end


/-! ### one net less another -/
def negH (h : Hg) : Hg := ⟨h.a, h.b, -h.c⟩
theorem lsum_neg {f : Hg → Rat} (hf : ∀ h, f (negH h) = -f h) : ∀ l : List Hg, lsum f (l.map negH) = -lsum f l
  | [] => by show (0 : Rat) = -0; grind
  | h :: l => by
    show f (negH h) + lsum f (l.map negH) = -(f h + lsum f l)
    rw [hf, lsum_neg hf]; grind
theorem jmp_neg (h : Hg) : jmp (negH h) = -jmp h := by
  show -h.c * sizeR (szOf h) = -(h.c * sizeR (szOf h))
  grind
theorem Jg_neg (G : Pl2 → Rat) (h : Hg) : Jg G (negH h) = -Jg G h := by
  unfold Jg
  show (if isZ h.a = true then 0 else jmp (negH h) * G (plOf h)) = _
  rw [jmp_neg]
  split <;> grind
theorem Dg_neg (x : List Rat) (h : Hg) : Dg x (negH h) = -Dg x h := by
  unfold Dg
  show (if isZ h.a = true then 0 else if (szOf h).num < 0 then -jmp (negH h) * dotR (rati (plOf h).1) x else 0) = _
  rw [jmp_neg]
  split
  · grind
  · split <;> grind
theorem Eg_neg (h : Hg) : Eg (negH h) = -Eg h := by
  unfold Eg
  show (if isZ h.a = true then -h.c * cut h.b else if (szOf h).num < 0 then -jmp (negH h) * ((plOf h).2 : Rat) else 0) = _
  rw [jmp_neg]
  split
  · grind
  · split <;> grind
theorem sumH_neg {x : List Rat} : ∀ l : List Hg, sumH x (l.map negH) = -sumH x l
  | [] => by show (0 : Rat) = -0; grind
  | h :: l => by
    show -h.c * cut (high x h) + sumH x (l.map negH) = -(h.c * cut (high x h) + sumH x l)
    rw [sumH_neg l]; grind
theorem sumH_app {x : List Rat} : ∀ l m : List Hg, sumH x (l ++ m) = sumH x l + sumH x m
  | [], m => by show _ = 0 + _; rw [Rat.zero_add]; rfl
  | h :: l, m => by
    show h.c * cut (high x h) + sumH x (l ++ m) = h.c * cut (high x h) + sumH x l + sumH x m
    rw [sumH_app l m]; grind
abbrev mH (hs hs2 : List Hg) : List Hg := hs ++ hs2.map negH
abbrev mD (sa sa2 : List Rat) : List Rat := addR sa (smul (-1) sa2)
abbrev mE (sb sb2 : Rat) : Rat := sb + -sb2
section
variable {n : Nat} {hs hs2 : List Hg} {sa sa2 : List Rat} {sb sb2 : Rat}
theorem minus_ans (s1 : sa.length = n) (s2 : sa2.length = n) (x : List Rat) : ansR (mH hs hs2) (mD sa sa2) (mE sb sb2) x = ansR hs sa sb x - ansR hs2 sa2 sb2 x := by
  unfold ansR
  rw [sumH_app, sumH_neg, dotR_addL (by rw [List.length_map]; omega), dotR_mul]
  grind
theorem nfold_J (G : Pl2 → Rat) : sumA G (nfold hs sa sb).m = lsum (Jg G) hs := by
  have a1 := fold_J (G := G) (hs := hs) (s := ⟨[], sa, sb⟩)
  have a2 : sumA G (nfold hs sa sb).m = 0 + lsum (Jg G) hs := a1
  rw [a2, Rat.zero_add]
theorem minus_J (G : Pl2 → Rat) : sumA G (nfold (mH hs hs2) (mD sa sa2) (mE sb sb2)).m = sumA G (nfold hs sa sb).m - sumA G (nfold hs2 sa2 sb2).m := by
  rw [nfold_J, nfold_J, nfold_J, lsum_app, lsum_neg (Jg_neg G)]; grind
theorem minus_D (l1 : ∀ h ∈ hs, h.a.length = n) (l2 : ∀ h ∈ hs2, h.a.length = n) (s1 : sa.length = n) (s2 : sa2.length = n) (x : List Rat) : dotR (nfold (mH hs hs2) (mD sa sa2) (mE sb sb2)).d x = dotR (nfold hs sa sb).d x - dotR (nfold hs2 sa2 sb2).d x := by
  have D1 := (fold_D (x := x) (s := ⟨[], sa, sb⟩) l1 s1).1
  have D2 := (fold_D (x := x) (s := ⟨[], sa2, sb2⟩) l2 s2).1
  have lm : ∀ h ∈ mH hs hs2, h.a.length = n := fun h hh => by
    rcases List.mem_append.mp hh with q | q
    · exact l1 h q
    · obtain ⟨g, hg, rfl⟩ := List.mem_map.mp q
      exact l2 g hg
  have sm : (mD sa sa2).length = n := by rw [addR_len (by rw [List.length_map]; omega)]; exact s1
  have D3 := (fold_D (x := x) (s := ⟨[], mD sa sa2, mE sb sb2⟩) lm sm).1
  have D1 : dotR (nfold hs sa sb).d x = dotR sa x + lsum (Dg x) hs := D1
  have D2 : dotR (nfold hs2 sa2 sb2).d x = dotR sa2 x + lsum (Dg x) hs2 := D2
  have D3 : dotR (nfold (mH hs hs2) (mD sa sa2) (mE sb sb2)).d x = dotR (mD sa sa2) x + lsum (Dg x) (mH hs hs2) := D3
  rw [D1, D2, D3, lsum_app, lsum_neg (Dg_neg x), dotR_addL (by rw [List.length_map]; omega), dotR_mul]
  grind
theorem minus_E : (nfold (mH hs hs2) (mD sa sa2) (mE sb sb2)).e = (nfold hs sa sb).e - (nfold hs2 sa2 sb2).e := by
  have E1 : (nfold hs sa sb).e = sb + lsum Eg hs := fold_E (s := ⟨[], sa, sb⟩)
  have E2 : (nfold hs2 sa2 sb2).e = sb2 + lsum Eg hs2 := fold_E (s := ⟨[], sa2, sb2⟩)
  have E3 : (nfold (mH hs hs2) (mD sa sa2) (mE sb sb2)).e = mE sb sb2 + lsum Eg (mH hs hs2) := fold_E (s := ⟨[], mD sa sa2, mE sb sb2⟩)
  rw [E1, E2, E3, lsum_app, lsum_neg Eg_neg]
  grind
/-- nothing is left exactly if the normal pairs are one -/
theorem minus_pair {ps ps1 ps2 : List Pl2} (l1 : ∀ h ∈ hs, h.a.length = n) (l2 : ∀ h ∈ hs2, h.a.length = n) (s1 : sa.length = n) (s2 : sa2.length = n)
    (nd : ((nfold (mH hs hs2) (mD sa sa2) (mE sb sb2)).m.map (·.1)).Nodup) (hp : ps.Perm ((nfold (mH hs hs2) (mD sa sa2) (mE sb sb2)).m.map (·.1)))
    (nd1 : ((nfold hs sa sb).m.map (·.1)).Nodup) (hp1 : ps1.Perm ((nfold hs sa sb).m.map (·.1))) (q1 : ps1.Pairwise lexP)
    (nd2 : ((nfold hs2 sa2 sb2).m.map (·.1)).Nodup) (hp2 : ps2.Perm ((nfold hs2 sa2 sb2).m.map (·.1))) (q2 : ps2.Pairwise lexP) :
    (rowsA (nfold (mH hs hs2) (mD sa sa2) (mE sb sb2)).m ps = [] ∧ (∀ a ∈ (nfold (mH hs hs2) (mD sa sa2) (mE sb sb2)).d, a = 0) ∧ (nfold (mH hs hs2) (mD sa sa2) (mE sb sb2)).e = 0) ↔
    (rowsA (nfold hs sa sb).m ps1 = rowsA (nfold hs2 sa2 sb2).m ps2 ∧ (nfold hs sa sb).d = (nfold hs2 sa2 sb2).d ∧ (nfold hs sa sb).e = (nfold hs2 sa2 sb2).e) := by
  have J := fun G => minus_J (hs := hs) (hs2 := hs2) (sa := sa) (sa2 := sa2) (sb := sb) (sb2 := sb2) G
  have D := minus_D (sb := sb) (sb2 := sb2) l1 l2 s1 s2
  have E := minus_E (hs := hs) (hs2 := hs2) (sa := sa) (sa2 := sa2) (sb := sb) (sb2 := sb2)
  have dl1 : (nfold hs sa sb).d.length = n := (fold_D (x := []) (s := ⟨[], sa, sb⟩) l1 s1).2
  have dl2 : (nfold hs2 sa2 sb2).d.length = n := (fold_D (x := []) (s := ⟨[], sa2, sb2⟩) l2 s2).2
  constructor
  · rintro ⟨h1, h2, h3⟩
    refine ⟨rows_eq nd1 nd2 hp1 hp2 q1 q2 fun G => ?_, dotR_ext (dl1.trans dl2.symm) fun x => ?_, ?_⟩
    · have := sum_rows (g := G) nd hp
      rw [h1] at this
      have z : (0 : Rat) = sumA G (nfold (mH hs hs2) (mD sa sa2) (mE sb sb2)).m := this
      rw [J] at z; grind
    · have z : ∀ l : List Rat, (∀ a ∈ l, a = 0) → dotR l x = 0 := fun l hl => dotR_isZ (List.all_eq_true.mpr fun a ha => decide_eq_true (by rw [hl a ha]; rfl))
      have := D x
      rw [z _ h2] at this
      grind
    · rw [E] at h3; grind
  · rintro ⟨h1, h2, h3⟩
    have z : ∀ G, sumA G (nfold (mH hs hs2) (mD sa sa2) (mE sb sb2)).m = 0 := fun G => by
      rw [J, ← sum_rows nd1 hp1, ← sum_rows nd2 hp2, h1]; grind
    refine ⟨?_, fun a ha => ?_, by rw [E, h3]; grind⟩
    · refine List.eq_nil_iff_forall_not_mem.mpr fun e he => ?_
      obtain ⟨_, h5, h6⟩ := mem_rows.mp he
      rw [aval_sum nd, z] at h5
      exact h6 h5
    · generalize (nfold (mH hs hs2) (mD sa sa2) (mE sb sb2)).d = d at *
      obtain ⟨m, hm, rfl⟩ := List.mem_iff_getElem.mp ha
      have := D ((List.replicate d.length (0 : Rat)).set m 1)
      rw [h2, dotR_set hm (by rw [List.length_replicate]; exact hm), dotR_zeros, List.getElem_replicate] at this
      grind
end
section
variable {k : Nat} {S : Sto} {Q : D → Sto → Prop}
theorem minus_net_ok {n Ba Bc C : Nat} {hs hs2 : List Hg} {sa sa2 : List Rat} {sb sb2 : Rat} (A1 : SA n Ba Bc C hs sa sb) (A2 : SA n Ba Bc C hs2 sa2 sb2) (n6 : n ≤ 6) (h : Q (netD (n : Int) (mH hs hs2) (mD sa sa2) (mE sb sb2)) S) :
    Cl (k + 5) f_minus_net [netD (n : Int) hs sa sb, netD (n : Int) hs2 sa2 sb2] S Q := by
  have few1 := A1.few
  have few2 := A2.few
  have c1 := A1.c
  have l1 := A1.sl
  have l2 := A2.sl
  refine ⟨_, rfl, rfl, ?_⟩
  wp_walk using RUN, b_minus_net
  refine loopC_ind (fun xs acc S' => S' = S ∧ ∃ g1 g2 : List Hg, xs = g2.map hg ∧ hs2 = g1 ++ g2 ∧ acc = (g1.map negH).map hg) ⟨rfl, [], hs2, rfl, rfl, rfl⟩ ?_ ?_
  · rintro acc S' ⟨rfl, g1, g2, e, e2, rfl⟩
    cases g2 with
    | cons w l => cases e
    | nil =>
      rw [List.append_nil] at e2
      subst e2
      have em : D.tup [.int (-1), .int 1] = fr (-1) := frE (by decide +kernel) (by decide +kernel)
      have f1 : FB 1 (-1 : Rat) := by unfold FB; decide +kernel
      wp_walk using RUN, List.length_map
      rw [em]
      refine ⟨by unfold LIM; omega, ?_⟩
      refine scaled_ok f1 A2.a (by omega) (by omega) ?_
      try wp_walk using RUN
      refine added_ok A1.a (FB_smul f1 A2.a) (by omega) (by omega) ?_
      try wp_walk using RUN
      refine negative_ok ?_
      try wp_walk using RUN
      have r1 : ∀ x : Rat, D.tup [fr x] = row [x] := fun x => rfl
      rw [r1, r1]
      refine added_ok (a := [sb]) (b := [-sb2]) (fun x hx => by rw [List.mem_singleton.mp hx]; exact A1.b) (fun x hx => by rw [List.mem_singleton.mp hx]; exact A2.b.neg) (by omega) (by simp) ?_
      have r2 : row (addR [sb] [-sb2]) = .tup [fr (sb + -sb2)] := rfl
      rw [r2]
      wp_walk using RUN
      have e3 : D.tup (hs.map hg ++ (hs2.map negH).map hg) = .tup ((mH hs hs2).map hg) := by rw [List.map_append]
      rw [e3]
      exact .same h
  · rintro y ys next ih acc S' ⟨rfl, g1, g2, e, e2, rfl⟩
    cases g2 with
    | nil => cases e
    | cons w g2 =>
      cases e
      have l3 := congrArg List.length e2
      rw [List.length_append] at l3
      wp_walk using RUN, bThg, List.length_map
      refine ⟨by unfold LIM; omega, negative_ok ?_⟩
      try wp_walk using RUN
      refine ih _ _ ⟨rfl, g1 ++ [w], g2, rfl, by rw [e2]; simp, ?_⟩
      rw [List.map_append, List.map_append]; rfl
theorem alike_core {n N Ba Bc C : Nat} {hs hs2 : List Hg} {sa sa2 : List Rat} {sb sb2 : Rat} {R : Tb} {d : List Rat} {e : Rat} (A1 : SA n Ba Bc C hs sa sb) (A2 : SA n Ba Bc C hs2 sa2 sb2) (F : NF n N (mH hs hs2) (mD sa sa2) (mE sb sb2) R d e) (few : hs.length + hs2.length ≤ 40) (hC : C ≤ 2000) (n1 : 1 ≤ n) (n6 : n ≤ 6) (N1 : 1 ≤ N) (N2 : N ≤ 400)
    (h0 : R = [] → (∀ a ∈ d, a = 0) → e = 0 → Q (.tup [.str "alike"]) S)
    (h1 : ∀ x M, x.length = n → 0 < M → M < 2 ^ (4 * N + 7) → (∀ a ∈ x, CD M (N + 62) a) → ansR hs sa sb x ≠ ansR hs2 sa2 sb2 x → Q (.tup [.str "point", row x]) S) :
    Cl (k + 9) f_alike [netD (n : Int) hs sa sb, netD (n : Int) hs2 sa2 sb2] S Q := by
  have f1 : FB 1 (-1 : Rat) := by unfold FB; decide +kernel
  have A : SA n Ba Bc (2 * C + 2) (mH hs hs2) (mD sa sa2) (mE sb sb2) := by
    refine ⟨fun h hh => ?_, by rw [List.length_append, List.length_map]; exact few, by rw [addR_len (by rw [List.length_map, A1.sl, A2.sl])]; exact A1.sl, fun x hx => (FB_addR A1.a (FB_smul f1 A2.a) x hx).mono (by omega), (A1.b.add A2.b.neg).mono (by omega), A1.b1, A1.ba, A1.bc, by omega⟩
    rcases List.mem_append.mp hh with q | q
    · exact A1.h h q
    · obtain ⟨g, hg, rfl⟩ := List.mem_map.mp q
      have G := A2.h g hg
      exact ⟨G.a, G.len, G.b, G.c.neg⟩
  have ma := minus_ans (hs := hs) (hs2 := hs2) (sb := sb) (sb2 := sb2) A1.sl A2.sl
  refine ⟨_, rfl, rfl, ?_⟩
  wp_walk using RUN, b_alike
  refine minus_net_ok A1 A2 n6 ?_
  try wp_walk using RUN
  refine showing_ok F A n1 n6 N1 N2 (fun r0 d0 e0 => ?_) (fun x M xl M0 M1 hx hne => ?_)
  · exact .same (h0 r0 d0 e0)
  · have xn : x ≠ [] := fun z => by rw [z] at xl; simp at xl; omega
    have ht : (!(x.map fr).isEmpty) = true := by cases x with
      | nil => exact absurd rfl xn
      | cons a l => rfl
    show (if (!(x.map fr).isEmpty) = true then Give Q (D.tup [D.str "point", row x]) S else Give Q (D.tup [D.str "alike"]) S)
    rw [if_pos ht]
    refine .same (h1 x M xl M0 M1 hx fun z => hne ?_)
    rw [ma, z]; grind
end


/-! ### a net's normal pair, without a run -/
theorem lexLe_total : ∀ {l r : List Int}, l.length = r.length → lexLe l r ∨ lexLe r l
  | [], [], _ => .inl trivial
  | [], _ :: _, h => by cases h
  | _ :: _, [], h => by cases h
  | a :: l, b :: r, h => by
    rcases Int.lt_trichotomy a b with q | q | q
    · exact .inl (.inl q)
    · rcases lexLe_total (l := l) (r := r) (by simpa using h) with w | w
      · exact .inl (.inr ⟨q, w⟩)
      · exact .inr (.inr ⟨q.symm, w⟩)
    · exact .inr (.inl q)
theorem lexLe_trans : ∀ {l m r : List Int}, lexLe l m → lexLe m r → lexLe l r
  | [], _, _, _, _ => trivial
  | _ :: _, [], _, h, _ => h.elim
  | _ :: _, _ :: _, [], _, h => h.elim
  | a :: l, b :: m, c :: r, g1, g2 => by
    have q1 : a < b ∨ (a = b ∧ lexLe l m) := g1
    have q2 : b < c ∨ (b = c ∧ lexLe m r) := g2
    rcases q1 with q | ⟨q, w⟩
    · rcases q2 with q3 | ⟨q3, _⟩
      · exact .inl (by omega)
      · exact .inl (by omega)
    · rcases q2 with q3 | ⟨q3, w3⟩
      · exact .inl (by omega)
      · exact .inr ⟨by omega, lexLe_trans w w3⟩
theorem ins_sorted {n : Nat} (x : Pl2) (hx : x.1.length = n) : ∀ {ps : List Pl2}, (∀ p ∈ ps, p.1.length = n) → ps.Pairwise lexP → ∃ qs : List Pl2, qs.Perm (x :: ps) ∧ qs.Pairwise lexP
  | [], _, _ => ⟨[x], .refl _, by simp⟩
  | y :: ps, hl, hp => by
    rw [List.pairwise_cons] at hp
    have ly := hl y List.mem_cons_self
    rcases lexLe_total (l := x.1 ++ [x.2]) (r := y.1 ++ [y.2]) (by simp; omega) with q | q
    · refine ⟨x :: y :: ps, .refl _, ?_⟩
      rw [List.pairwise_cons, List.pairwise_cons]
      refine ⟨fun z hz => ?_, hp⟩
      rcases List.mem_cons.mp hz with w | w
      · rw [w]; exact q
      · exact lexLe_trans q (hp.1 z w)
    · obtain ⟨qs, h1, h2⟩ := ins_sorted (n := n) x hx (fun p h => hl p (List.mem_cons_of_mem _ h)) hp.2
      refine ⟨y :: qs, (h1.cons y).trans (.swap x y ps), ?_⟩
      rw [List.pairwise_cons]
      refine ⟨fun z hz => ?_, h2⟩
      rcases List.mem_cons.mp (h1.mem_iff.mp hz) with w | w
      · rw [w]; exact q
      · exact hp.1 z w
theorem sorted_ex {n : Nat} : ∀ {l : List Pl2}, (∀ p ∈ l, p.1.length = n) → ∃ ps : List Pl2, ps.Perm l ∧ ps.Pairwise lexP
  | [], _ => ⟨[], .refl _, List.Pairwise.nil⟩
  | x :: l, h => by
    obtain ⟨ps, h1, h2⟩ := sorted_ex (n := n) (l := l) fun p hp => h p (List.mem_cons_of_mem _ hp)
    obtain ⟨qs, h3, h4⟩ := ins_sorted (n := n) x (h x List.mem_cons_self) (fun p hp => h p (List.mem_cons_of_mem _ (h1.mem_iff.mp hp))) h2
    exact ⟨qs, h3.trans (h1.cons x), h4⟩
theorem NI.fold {n C N W V Ba Bc : Nat} (Z : NZ Ba Bc N W V) (n6 : n ≤ 6) : ∀ {hs : List Hg} {i : Nat} {s : NS}, NI n C N W V i s → (∀ h ∈ hs, HF Ba Bc n h) → NI n C N W V (i + hs.length) (hs.foldl nstep s)
  | [], _, _, I, _ => I
  | h :: hs, i, s, I, F => by
    have := NI.fold Z n6 (hs := hs) (I.step Z (F h List.mem_cons_self) n6) fun g hg => F g (List.mem_cons_of_mem _ hg)
    rw [List.length_cons, show i + (hs.length + 1) = i + 1 + hs.length by omega]
    exact this
theorem gAt_one (x : List Rat) : gAt 1 x = fun p => cut (hP p x) := by
  funext p
  unfold gAt hP
  rw [Rat.one_mul]
theorem fN_law {n : Nat} {hs : List Hg} {sa : List Rat} {sb : Rat} {ps : List Pl2} (g : ∀ h ∈ hs, h.a.length = n) (l : sa.length = n) (nd : ((nfold hs sa sb).m.map (·.1)).Nodup) (hp : ps.Perm ((nfold hs sa sb).m.map (·.1))) (x : List Rat) :
    ansR hs sa sb x = fN (rowsA (nfold hs sa sb).m ps) (nfold hs sa sb).d (nfold hs sa sb).e x := by
  have := normal_law (τ := 1) (x := x) (by decide) g l nd hp
  rw [gAt_one, Rat.one_mul, Rat.one_mul] at this
  unfold fN ansR
  rw [this]
  have sT : ∀ hs : List Hg, sumT 1 x hs = sumH x hs := fun hs => by
    induction hs with
    | nil => rfl
    | cons h r ih =>
      show h.c * cut (dotR h.a x + 1 * h.b) + sumT 1 x r = h.c * cut (dotR h.a x + h.b) + sumH x r
      rw [ih, Rat.one_mul]
  rw [sT]
/-- rows of a normal pair: different planes -/
theorem rows_nd {m : Tb} {ps : List Pl2} (nd : (m.map (·.1)).Nodup) (hp : ps.Perm (m.map (·.1))) (h1 : ps.Pairwise lexP) : ((rowsA m ps).map (·.1)).Nodup := by
  have pw := rows_pw (m := m) (hp.nodup_iff.mpr nd) h1
  unfold List.Nodup
  rw [List.pairwise_map]
  exact pw.imp fun h => h.2
theorem rows_few {m : Tb} {ps : List Pl2} (hp : ps.Perm (m.map (·.1))) : (rowsA m ps).length ≤ m.length := by
  have := rowsA_len (m := m) (ps := ps)
  have := hp.length_eq
  rw [List.length_map] at this
  omega


/-! ### walks over a normal pair -/
section
variable {k : Nat} {S : Sto} {Q : D → Sto → Prop}
theorem whole_rowL_ok {ps : List Int} (hl : ps.length ≤ 1000) (h : Q (row (rati ps)) S) : Cl (k + 1) f_whole_row [.lst (intz ps)] S Q := by
  refine ⟨_, rfl, rfl, ?_⟩
  wp_walk using RUN, b_whole_row
  refine loopC_ind (fun xs acc S' => S' = S ∧ ∃ l1 l2 : List Int, xs = intz l2 ∧ ps = l1 ++ l2 ∧ acc = (rati l1).map fr) ?_ ?_ ?_
  · exact ⟨rfl, [], ps, rfl, rfl, rfl⟩
  · rintro acc S' ⟨rfl, l1, l2, e, e2, rfl⟩
    cases l2 with
    | cons a l => cases e
    | nil =>
      rw [List.append_nil] at e2
      subst e2
      try wp_walk using RUN
      exact .same h
  · rintro x xs next ih acc S' ⟨rfl, l1, l2, e, e2, rfl⟩
    cases l2 with
    | nil => cases e
    | cons a l2 =>
      cases e
      wp_walk using RUN, List.length_map
      refine ⟨?_, ih _ _ ⟨rfl, l1 ++ [a], l2, rfl, by rw [e2]; simp, by simp [fr_int]⟩⟩
      have := congrArg List.length e2
      simp at this
      unfold LIM; omega
end
/-- a normal pair's sizes -/
structure NQ (n M : Nat) (R : Tb) (d : List Rat) (e : Rat) : Prop where
  M0 : 0 < M
  M1 : M < 2 ^ 186
  v : ∀ w ∈ R, CD M 156 w.2 ∧ w.1.1.length = n ∧ (∀ z ∈ w.1.1, z.natAbs < 2 ^ 159) ∧ w.1.2.natAbs < 2 ^ 159
  few : R.length ≤ 24
  dl : d.length = n
  d : ∀ x ∈ d, CD M 315 x
  e : CD M 315 e
theorem NQ.fv {n M : Nat} {R : Tb} {d : List Rat} {e : Rat} (P : NQ n M R d e) : ∀ w ∈ R, FB 342 w.2 ∧ (∀ z ∈ rati w.1.1, FB 160 z) ∧ FB 160 (w.1.2 : Rat) := fun w hw => by
  obtain ⟨a, b, c, d⟩ := P.v w hw
  refine ⟨a.fb P.M0 P.M1, fun x hx => ?_, FB_int (pow2_mono d (by omega)) (by omega)⟩
  obtain ⟨z, hz, rfl⟩ := List.mem_map.mp hx
  exact FB_int (pow2_mono (c z hz) (by omega)) (by omega)
theorem turn_cd {M : Nat} {lot : List Int} {n : Nat} (M0 : 0 < M) : ∀ {i : Nat} {R : Tb} {d : List Rat} {e : Rat} {j : Nat}, (∀ w ∈ R, CD M 156 w.2 ∧ w.1.1.length = n ∧ (∀ z ∈ w.1.1, z.natAbs < 2 ^ 159) ∧ w.1.2.natAbs < 2 ^ 159) → (∀ x ∈ d, CD M (315 + j) x) → CD M (315 + j) e → d.length = n →
    (∀ x ∈ tD lot i R d, CD M (315 + (j + R.length)) x) ∧ CD M (315 + (j + R.length)) (tE lot i R e) ∧ (tD lot i R d).length = n
  | i, [], d, e, j, _, hd, he, dl => ⟨hd, he, dl⟩
  | i, w :: r, d, e, j, P, hd, he, dl => by
    obtain ⟨a, b, c, dd⟩ := P w List.mem_cons_self
    have P' := fun z hz => P z (List.mem_cons_of_mem _ hz)
    have up : ∀ {k k' : Nat} {x : Rat}, CD M k x → k ≤ k' → CD M k' x := fun hx l => hx.mono (Nat.dvd_refl _) l
    have u1 : 156 + 159 ≤ 315 + j := by omega
    have u2 : 315 + j ≤ 315 + (j + 1) := by omega
    have e1 : 315 + (j + (w :: r).length) = 315 + ((j + 1) + r.length) := by rw [List.length_cons]; omega
    rw [e1]
    show (∀ x ∈ tD lot (i + 1) r (if (i : Int) ∈ lot then addR d (smul w.2 (rati w.1.1)) else d), _) ∧ CD M _ (tE lot (i + 1) r (if (i : Int) ∈ lot then e + w.2 * (w.1.2 : Rat) else e)) ∧ (tD lot (i + 1) r (if (i : Int) ∈ lot then addR d (smul w.2 (rati w.1.1)) else d)).length = n
    by_cases q : (i : Int) ∈ lot
    · simp only [q, ↓reduceIte]
      refine turn_cd M0 (j := j + 1) P' ?_ ?_ (by rw [addR_len (by rw [List.length_map, List.length_map]; omega)]; exact dl)
      · refine CD_addR M0 hd fun x hx => ?_
        obtain ⟨y, hy, rfl⟩ := List.mem_map.mp hx
        obtain ⟨z, hz, rfl⟩ := List.mem_map.mp hy
        have := a.mul (CD_int (c z hz))
        rw [Nat.mul_one] at this
        exact up this u1
      · have := a.mul (CD_int dd)
        rw [Nat.mul_one] at this
        exact he.add M0 (up this u1)
    · simp only [q, ↓reduceIte]
      exact turn_cd M0 (j := j + 1) P' (fun x hx => up (hd x hx) u2) (up he u2) dl
abbrev lotD (l : List Int) : D := .tup (intz l)
theorem inn_ok {S : Sto} {i : Int} {l : List Int} {k : D → Prop} (h : k (.bl (decide (i ∈ l)))) : dCmp S .inn (.int i) (lotD l) k := ⟨l, rfl, h⟩


/-! ### the nets of the law, and their turned ones -/
theorem fold_nd : ∀ {hs : List Hg} {s : NS}, (s.m.map (·.1)).Nodup → ((hs.foldl nstep s).m.map (·.1)).Nodup
  | [], s, h => h
  | h :: hs, s, g => by
    refine fold_nd (hs := hs) (s := nstep s h) ?_
    unfold nstep
    split
    · exact g
    · exact nodup_put g
/-- both sides find this normal pair -/
structure Nm (n : Nat) (hs : List Hg) (sa : List Rat) (sb : Rat) (R : Tb) (d : List Rat) (e : Rat) : Prop where
  pn : ∀ {k : Nat} {S : Sto} {Q : D → Sto → Prop}, Q (.tup [.tup (R.map rowD), str d e]) S → Cl (k + 5) f_normal [netD (n : Int) hs sa sb] S Q
  pl : ∀ {k : Nat} {S : Sto} {Q : D → Sto → Prop}, Q (.tup [.tup (R.map rowD), str d e]) S → Cl (k + 5) f__law_pair [netD (n : Int) hs sa sb] S Q


/-! ### least, is_least, turned -/
section
variable {k n : Nat} {S : Sto} {Q : D → Sto → Prop} {hs : List Hg} {sa : List Rat} {sb : Rat} {R : Tb} {d : List Rat} {e : Rat}
theorem least_ok {M : Nat} (N : Nm n hs sa sb R d e) (P : NQ n M R d e) (n6 : n ≤ 6) (h : Q (netD (n : Int) (R.map hgOf) d e) S) : Cl (k + 6) f_least [netD (n : Int) hs sa sb] S Q := by
  refine ⟨_, rfl, rfl, ?_⟩
  wp_walk using RUN, b_least
  refine N.pn ?_
  try wp_walk using RUN
  refine net_of_ok (by have := P.few; omega) (fun w hw => by have := (P.v w hw).2.1; omega) ?_
  exact .same h
theorem is_least_ok (N : Nm n hs sa sb R d e) (h : Q (.bl (decide ((hs.length : Int) = (R.length : Int)))) S) : Cl (k + 6) f_is_least [netD (n : Int) hs sa sb] S Q := by
  refine ⟨_, rfl, rfl, ?_⟩
  wp_walk using RUN, b_is_least, List.length_map
  refine N.pn ?_
  wp_walk using RUN, List.length_map
  exact .same h
theorem turned_ok {M : Nat} {lot : List Int} (N : Nm n hs sa sb R d e) (P : NQ n M R d e) (n6 : n ≤ 6)
    (h : Q (netD (n : Int) (tH lot 0 R) (tD lot 0 R d) (tE lot 0 R e)) S) : Cl (k + 6) f_turned [netD (n : Int) hs sa sb, lotD lot] S Q := by
  have few := P.few
  refine ⟨_, rfl, rfl, ?_⟩
  wp_walk using RUN, b_turned
  refine N.pn ?_
  try wp_walk using RUN
  intro a ha
  try wp_walk using RUN
  refine loopF_ind (fun xs ρ S' => ∃ (r1 r2 : Tb) (made : List Hg) (d' : List Rat) (e' : Rat) (u6 u7 u8 u9 : Option D), xs = enumD r1.length (r2.map rowD) ∧ R = r1 ++ r2 ∧ S' = S.put a (made.map hg) ∧ made ++ tH lot r1.length r2 = tH lot 0 R ∧ tD lot r1.length r2 d' = tD lot 0 R d ∧ tE lot r1.length r2 e' = tE lot 0 R e ∧ made.length = r1.length ∧
    d'.length = n ∧ (∀ x ∈ d', CD M (315 + r1.length) x) ∧ CD M (315 + r1.length) e' ∧
    ρ = [some (netD (n : Int) hs sa sb), some (lotD lot), some (.tup (R.map rowD)), some (row d'), some (fr e'), some (.ref a), u6, u7, u8, u9, none, none]) ?_ ?_ ?_
  · exact ⟨[], R, [], d, e, none, none, none, none, rfl, rfl, rfl, rfl, rfl, rfl, rfl, P.dl, P.d, P.e, rfl⟩
  · rintro ρ S' ⟨r1, r2, made, d', e', u6, u7, u8, u9, ex, er, rfl, hm, hd, he, lm, dl, cd, ce, rfl⟩
    cases r2 with
    | cons w l => cases ex
    | nil =>
      have hm : made ++ [] = tH lot 0 R := hm
      have hd : d' = tD lot 0 R d := hd
      have he : e' = tE lot 0 R e := he
      rw [List.append_nil] at hm
      subst hm; subst hd; subst he
      have ea : (S.put a ((tH lot 0 R).map hg)) a = some ((tH lot 0 R).map hg) := Sto.put_same
      wp_walk using RUN, ea
      exact .sub (Sub.put ha) h
  · rintro y xs next ih ρ S' ⟨r1, r2, made, d', e', u6, u7, u8, u9, ex, er, rfl, hm, hd, he, lm, dl, cd, ce, rfl⟩
    cases r2 with
    | nil => cases ex
    | cons w r2 =>
      cases ex
      have l2 := congrArg List.length er
      rw [List.length_append, List.length_cons] at l2
      have hw : w ∈ R := by rw [er]; simp
      obtain ⟨fj, fA, fB⟩ := P.fv w hw
      obtain ⟨cj, wl, ci, cb⟩ := P.v w hw
      have ea : ∀ xs, (S.put a xs) a = some xs := fun xs => Sto.put_same
      have lM : (made.map hg).length < LIM := by rw [List.length_map]; unfold LIM; omega
      have fb : ∀ {k : Nat} {x : Rat}, CD M k x → k ≤ 400 → FB 600 x := fun hx hk => (hx.fb P.M0 P.M1).mono (by omega)
      have T := turn_cd (lot := lot) (n := n) P.M0 (i := r1.length) (R := [w]) (j := r1.length) (fun z hz => by rw [List.mem_singleton.mp hz]; exact ⟨cj, wl, ci, cb⟩) cd ce dl
      have er2 : R = (r1 ++ [w]) ++ r2 := by rw [er]; simp
      have hm2 : made ++ (if (r1.length : Int) ∈ lot then tHg w else hgOf w) :: tH lot (r1.length + 1) r2 = tH lot 0 R := hm
      have hd2 : tD lot (r1.length + 1) r2 (tD lot r1.length [w] d') = tD lot 0 R d := hd
      have he2 : tE lot (r1.length + 1) r2 (tE lot r1.length [w] e') = tE lot 0 R e := he
      have fin : ∀ (x : Hg) u6 u7 u8 u9, x = (if (r1.length : Int) ∈ lot then tHg w else hgOf w) → next [some (netD (n : Int) hs sa sb), some (lotD lot), some (.tup (R.map rowD)), some (row (tD lot r1.length [w] d')), some (fr (tE lot r1.length [w] e')), some (.ref a), u6, u7, u8, u9, none, none] (S.put a (made.map hg ++ [hg x])) := fun x u6 u7 u8 u9 hx => by
        have el : (r1 ++ [w]).length = r1.length + 1 := by simp
        refine ih _ _ ⟨r1 ++ [w], r2, made ++ [x], tD lot r1.length [w] d', tE lot r1.length [w] e', _, _, _, _, by rw [el], er2, by rw [List.map_append]; rfl, ?_, by rw [el]; exact hd2, by rw [el]; exact he2, by rw [el, List.length_append, List.length_singleton, lm], T.2.2, by rw [el]; exact T.1, by rw [el]; exact T.2.1, rfl⟩
        rw [el, ← hm2, hx]
        simp
      wp_walk using RUN, bTen, bTrow
      refine inn_ok ?_
      try wp_walk using RUN
      refine ite3 (fun z => ?_) (fun z => ?_)
      · have z : (r1.length : Int) ∈ lot := by simpa using z
        have e1 : tD lot r1.length [w] d' = addR d' (smul w.2 (rati w.1.1)) := by
          show (if (r1.length : Int) ∈ lot then _ else _) = _
          rw [if_pos z]
        have e2 : tE lot r1.length [w] e' = e' + w.2 * (w.1.2 : Rat) := by
          show (if (r1.length : Int) ∈ lot then _ else _) = _
          rw [if_pos z]
        rw [e1, e2] at fin
        try wp_walk using RUN, ea
        refine loopC_ind (fun xs acc S'' => S'' = S.put a (made.map hg) ∧ ∃ l1 l2 : List Int, xs = intz l2 ∧ w.1.1 = l1 ++ l2 ∧ acc = intz (negz l1)) ⟨rfl, [], w.1.1, rfl, rfl, rfl⟩ ?_ ?_
        · rintro acc S'' ⟨rfl, l1, l2, e5, e6, rfl⟩
          cases l2 with
          | cons x l => cases e5
          | nil =>
            rw [List.append_nil] at e6
            wp_walk using RUN, ea
            refine whole_rowL_ok (by rw [List.length_map, ← e6]; omega) ?_
            wp_walk using RUN, ea
            have e7 : D.tup [.int (-w.1.2), .int 1] = fr ((-w.1.2 : Int) : Rat) := fr_int1 _
            rw [e7]
            refine ⟨lM, ?_⟩
            refine whole_row_ok (by omega) ?_
            try wp_walk using RUN
            refine scaled_ok fj fA (by omega) (by rw [List.length_map]; omega) ?_
            try wp_walk using RUN
            refine added_ok (fun x hx => fb (cd x hx) (by omega)) (FB_smul fj fA) (by omega) (by omega) ?_
            try wp_walk using RUN
            rw [fr_int1]
            refine product_ok fj fB (by omega) ?_
            try wp_walk using RUN
            refine plus_ok (fb ce (by omega)) (fj.mul fB) (by omega) ?_
            try wp_walk using RUN
            rw [← e6]
            exact fin (tHg w) _ _ _ _ (by rw [if_pos z])
        · rintro y ys nxt ih2 acc S'' ⟨rfl, l1, l2, e5, e6, rfl⟩
          cases l2 with
          | nil => cases e5
          | cons z2 l2 =>
            cases e5
            have l3 := congrArg List.length e6
            rw [List.length_append] at l3
            wp_walk using RUN, List.length_map
            exact ⟨by unfold LIM; omega, ih2 _ _ ⟨rfl, l1 ++ [z2], l2, rfl, by rw [e6]; simp, by simp⟩⟩
      · have z : ¬ (r1.length : Int) ∈ lot := by simpa using z
        have e1 : tD lot r1.length [w] d' = d' := by
          show (if (r1.length : Int) ∈ lot then _ else _) = _
          rw [if_neg z]
        have e2 : tE lot r1.length [w] e' = e' := by
          show (if (r1.length : Int) ∈ lot then _ else _) = _
          rw [if_neg z]
        rw [e1, e2] at fin
        try wp_walk using RUN, ea
        refine whole_row_ok (by omega) ?_
        try wp_walk using RUN, ea
        rw [fr_int1]
        refine ⟨lM, ?_⟩
        exact fin (hgOf w) _ _ _ _ (by rw [if_neg z])
end


/-! ### told alike -/
inductive Pm : Nat → D → Prop
  | str (n : Nat) (x : Str) : Pm (n + 1) (.str x)
  | int (n : Nat) (i : Int) : Pm (n + 1) (.int i)
  | bl (n : Nat) (b : Bool) : Pm (n + 1) (.bl b)
  | tup (n : Nat) (ds : List D) : (∀ d ∈ ds, Pm n d) → ds.length ≤ 1000 → Pm (n + 1) (.tup ds)
theorem pm_of {n : Nat} {d : D} (h : Pl n d) : Pm n d := by
  induction h with
  | int n i => exact .int n i
  | tup n ds hd hl ih => exact .tup n ds ih hl
theorem pl_eqv {n : Nat} {d : D} (h : Pl n d) : ∃ p, toPy d = some p ∧ PyData.canLay0 p = true ∧ PyData.depth p ≤ n ∧ PyData.eqv p p = true := by
  induction h with
  | int n i => exact ⟨.int i, rfl, rfl, by simp [PyData.depth], by simp [PyData.eqv]⟩
  | tup n ds hd hl ih =>
    have : ∃ ps, toPy.toPys ds = some ps ∧ PyData.canLayAll0 ps = true ∧ PyData.depthAll ps ≤ n ∧ PyData.eqvAll ps ps = true := by
      clear hl hd
      induction ds with
      | nil => exact ⟨[], rfl, rfl, by simp [PyData.depthAll], by simp [PyData.eqvAll]⟩
      | cons x xs ihx =>
        obtain ⟨p, h1, h2, h3, h4⟩ := ih x List.mem_cons_self
        obtain ⟨ps, h5, h6, h7, h8⟩ := ihx fun d h => ih d (List.mem_cons_of_mem _ h)
        exact ⟨p :: ps, by simp only [toPy.toPys, h1, h5], by simp [PyData.canLayAll0, h2, h6], by simp [PyData.depthAll]; omega, by simp [PyData.eqvAll, h4, h8]⟩
    obtain ⟨ps, h1, h2, h3, h4⟩ := this
    exact ⟨.tuple ps, by simp only [toPy, h1]; rfl, by simpa [PyData.canLay0] using h2, by simp only [PyData.depth]; omega, by simpa [PyData.eqv] using h4⟩
theorem ne_same {S : Sto} {ds : List D} {k : D → Prop} {n : Nat} (h : Pl n (.tup ds)) (hn : n ≤ 60) (g : k (.bl false)) : dCmp S .ne (.tup ds) (.tup ds) k := by
  obtain ⟨p, h1, h2, h3, h4⟩ := pl_eqv h
  show dEq S (.tup ds) (.tup ds) (fun b => k (.bl !b))
  have hs : SeqAt.shaped p = true := by simp only [SeqAt.shaped, h2, Bool.true_and]; exact decide_eq_true (by omega)
  refine ⟨p, p, h1, h1, hs, hs, ?_⟩
  rw [h4]; exact g
section
variable {k : Nat} {S : Sto} {Q : D → Sto → Prop}
theorem same_okM {n : Nat} {d : D} (hp : Pm n d) : ∀ {k : Nat} {Q : D → Sto → Prop}, Q (.bl true) S → Cl (k + n) f__law_same [d, d] S Q := by
  induction hp with
  | int n i =>
    intro k Q h
    show Cl (k + n + 1) _ _ _ _
    refine ⟨_, rfl, rfl, ?_⟩
    wp_walk using RUN, b__law_same
    exact .same h
  | str n x =>
    intro k Q h
    show Cl (k + n + 1) _ _ _ _
    refine ⟨_, rfl, rfl, ?_⟩
    have c1 : ∀ (S : Sto) (k : D → Prop), dCmp S .isN (.str x) .non k = k (.bl false) := fun _ _ => rfl
    have c2 : ∀ (S : Sto) (t : TN) (k : Bool → Prop), dIsi S (.str x) t k = k (decide (t = .str)) := fun _ _ _ => rfl
    have c3 : ∀ (S : Sto) (k : D → Prop), dCmp S .eq (.str x) (.str x) k = k (.bl (decide (x = x))) := fun _ _ => rfl
    wp_walk using RUN, b__law_same, c1, c2, c3
    exact .same h
  | bl n b =>
    intro k Q h
    show Cl (k + n + 1) _ _ _ _
    refine ⟨_, rfl, rfl, ?_⟩
    have c1 : ∀ (S : Sto) (k : D → Prop), dCmp S .isN (.bl b) .non k = k (.bl false) := fun _ _ => rfl
    have c2 : ∀ (S : Sto) (k : Bool → Prop), dIsi S (.bl b) .bool k = k true := fun _ _ => rfl
    have c3 : ∀ (S : Sto) (k : D → Prop), dCmp S .eq (.bl b) (.bl b) k = k (.bl (decide (b = b))) := fun _ _ => rfl
    wp_walk using RUN, b__law_same, c1, c2, c3
    exact .same h
  | tup n ds hd hl ihd =>
    intro k Q h
    show Cl (k + n + 1) _ _ _ _
    refine ⟨_, rfl, rfl, ?_⟩
    wp_walk using RUN, b__law_same
    refine ⟨by unfold RngOk; omega, ?_⟩
    refine loopF_ind (fun xs ρ S' => S' = S ∧ ∃ (i : Nat) (u : Option D), xs = rangeD i ds.length ∧ i ≤ ds.length ∧ ρ = [some (.tup ds), some (.tup ds), u]) ?_ ?_ ?_
    · exact ⟨rfl, 0, none, rfl, by omega, rfl⟩
    · rintro ρ S' ⟨rfl, i, u, e, hi, rfl⟩
      try wp_walk using RUN
      exact .same h
    · rintro y xs next ih ρ S' ⟨rfl, i, u, e, hi, rfl⟩
      by_cases q : (i : Int) < (ds.length : Int)
      · rw [rangeD_cons q] at e
        cases e
        have hi' : i < ds.length := by omega
        have ea : ∀ k : D → Prop, dIx S' (.tup ds) (.int (i : Int)) k = k ds[i] := fun k => ixT (by omega) (by simp [hi'])
        wp_walk using RUN, ea
        refine ihd _ (List.getElem_mem hi') ?_
        try wp_walk using RUN
        exact ih _ _ ⟨rfl, i + 1, _, by rw [Int.natCast_add]; rfl, hi', rfl⟩
      · rw [rangeD_nil (by omega)] at e
        cases e
theorem pm_2 {n : Nat} {a b : D} (h1 : Pm n a) (h2 : Pm n b) : Pm (n + 1) (.tup [a, b]) := .tup n _ (fun d hd => by
  simp only [List.mem_cons, List.not_mem_nil, or_false] at hd
  rcases hd with rfl | rfl
  · exact h1
  · exact h2) (by simp)
theorem pm_3 {n : Nat} {a b c : D} (h1 : Pm n a) (h2 : Pm n b) (h3 : Pm n c) : Pm (n + 1) (.tup [a, b, c]) := .tup n _ (fun d hd => by
  simp only [List.mem_cons, List.not_mem_nil, or_false] at hd
  rcases hd with rfl | rfl | rfl
  · exact h1
  · exact h2
  · exact h3) (by simp)
end

theorem pl_ints (l : List Int) (h : l.length ≤ 1000) : Pl 2 (.tup (intz l)) := .tup 1 _ (fun d hd => by
  obtain ⟨x, _, rfl⟩ := List.mem_map.mp hd
  exact .int 0 _) (by simpa using h)
theorem pl_rowD (e : Pl2 × Rat) (h : e.1.1.length ≤ 1000) : Pl 3 (rowD e) := .tup 2 _ (fun d hd => by
  simp only [List.mem_cons, List.not_mem_nil, or_false] at hd
  rcases hd with rfl | rfl | rfl
  · exact pl_ints _ h
  · exact .int 1 _
  · exact pl_fr _) (by simp)
theorem pl_str (sa : List Rat) (sb : Rat) (h : sa.length ≤ 1000) : Pl 4 (str sa sb) := .tup 3 _ (fun d hd => by
  simp only [List.mem_cons, List.not_mem_nil, or_false] at hd
  rcases hd with rfl | rfl
  · exact pl_row _ h
  · exact plUp (pl_fr _)) (by simp)
theorem pl_pair {n : Nat} {a b : D} (h1 : Pl n a) (h2 : Pl n b) : Pl (n + 1) (.tup [a, b]) := .tup n _ (fun d hd => by
  simp only [List.mem_cons, List.not_mem_nil, or_false] at hd
  rcases hd with rfl | rfl
  · exact h1
  · exact h2) (by simp)
theorem pl_due {R : Tb} {d : List Rat} {e : Rat} (h : R.length ≤ 1000) (hl : ∀ e ∈ R, e.1.1.length ≤ 1000) (hd : d.length ≤ 1000) : Pl 5 (.tup [.tup (R.map rowD), str d e]) := pl_pair (.tup 3 _ (fun x hx => by
  obtain ⟨w, hw, rfl⟩ := List.mem_map.mp hx
  exact pl_rowD w (hl w hw)) (by simpa using h)) (pl_str d e hd)
theorem pl_net {n : Int} {hs : List Hg} {d : List Rat} {e : Rat} (h : hs.length ≤ 1000) (hl : ∀ h ∈ hs, h.a.length ≤ 1000) (hd : d.length ≤ 1000) : Pl 6 (netD n hs d e) := .tup 5 _ (fun x hx => by
  simp only [List.mem_cons, List.not_mem_nil, or_false] at hx
  rcases hx with rfl | rfl | rfl
  · exact .int 4 _
  · exact .tup 4 _ (fun y hy => by
      obtain ⟨w, hw, rfl⟩ := List.mem_map.mp hy
      exact pl_hg w (hl w hw)) (by simpa using h)
  · exact plUp (pl_str d e hd)) (by simp)


/-! ### equality of what is told -/
theorem pl_inj {n : Nat} {x : D} (hx : Pl n x) : ∀ {m : Nat} {y : D}, Pl m y → ∀ {p q : PyData}, toPy x = some p → toPy y = some q → (PyData.eqv p q = true ↔ x = y) := by
  induction hx with
  | int n i =>
    intro m y hy p q h1 h2
    cases h1
    cases hy with
    | int m j =>
      cases h2
      simp [PyData.eqv]
    | tup m es _ _ =>
      simp only [toPy] at h2
      obtain ⟨l, _, rfl⟩ := Option.map_eq_some_iff.mp h2
      simp [PyData.eqv]
  | tup n ds hd hl ih =>
    intro m y hy p q h1 h2
    simp only [toPy] at h1
    obtain ⟨ps, e1, rfl⟩ := Option.map_eq_some_iff.mp h1
    cases hy with
    | int m j =>
      cases h2
      simp [PyData.eqv]
    | tup m es he _ =>
      simp only [toPy] at h2
      obtain ⟨qs, e2, rfl⟩ := Option.map_eq_some_iff.mp h2
      have : ∀ (ds : List D), (∀ d ∈ ds, ∀ {m : Nat} {y : D}, Pl m y → ∀ {p q : PyData}, toPy d = some p → toPy y = some q → (PyData.eqv p q = true ↔ d = y)) → ∀ (es : List D), (∀ e ∈ es, Pl m e) → ∀ ps qs, toPy.toPys ds = some ps → toPy.toPys es = some qs → (PyData.eqvAll ps qs = true ↔ ds = es) := by
        intro ds
        induction ds with
        | nil =>
          intro _ es he ps qs h1 h2
          cases h1
          cases es with
          | nil => cases h2; simp [PyData.eqvAll]
          | cons e es =>
            simp only [toPy.toPys] at h2
            split at h2
            · cases h2; simp [PyData.eqvAll]
            · cases h2
        | cons d ds ihd =>
          intro g es he ps qs h1 h2
          simp only [toPy.toPys] at h1
          split at h1
          · rename_i p ps' hp hps
            cases h1
            cases es with
            | nil => cases h2; simp [PyData.eqvAll]
            | cons e es =>
              simp only [toPy.toPys] at h2
              split at h2
              · rename_i q qs' hq hqs
                cases h2
                have a := g d List.mem_cons_self (he e List.mem_cons_self) hp hq
                have b := ihd (fun d h => g d (List.mem_cons_of_mem _ h)) es (fun e h => he e (List.mem_cons_of_mem _ h)) ps' qs' hps hqs
                simp only [PyData.eqvAll, Bool.and_eq_true, a, b, List.cons.injEq]
              · cases h2
          · cases h1
      have t := this ds (fun d h => ih d h) es he ps qs e1 e2
      simp only [PyData.eqv, D.tup.injEq]
      exact t
theorem eq_tup {S : Sto} {xs ys : List D} {k : D → Prop} {n m : Nat} {b : Bool} (hx : Pl n (.tup xs)) (hy : Pl m (.tup ys)) (hn : n ≤ 60) (hm : m ≤ 60) (hb : b = true ↔ D.tup xs = .tup ys) (g : k (.bl b)) : dCmp S .eq (.tup xs) (.tup ys) k := by
  obtain ⟨p, h1, h2, h3⟩ := pl_py hx
  obtain ⟨q, g1, g2, g3⟩ := pl_py hy
  have e := pl_inj hx hy h1 g1
  show dEq S (.tup xs) (.tup ys) (fun b => k (.bl b))
  have s1 : SeqAt.shaped p = true := by simp only [SeqAt.shaped, h2, Bool.true_and]; exact decide_eq_true (by omega)
  have s2 : SeqAt.shaped q = true := by simp only [SeqAt.shaped, g2, Bool.true_and]; exact decide_eq_true (by omega)
  refine ⟨p, q, h1, g1, s1, s2, ?_⟩
  have : PyData.eqv p q = b := by
    cases hb' : b with
    | true => exact e.mpr (hb.mp hb')
    | false =>
      cases he : PyData.eqv p q with
      | false => rfl
      | true => rw [hb.mpr (e.mp he)] at hb'; cases hb'
  rw [this]; exact g
theorem ne_tup {S : Sto} {xs ys : List D} {k : D → Prop} {n m : Nat} {b : Bool} (hx : Pl n (.tup xs)) (hy : Pl m (.tup ys)) (hn : n ≤ 60) (hm : m ≤ 60) (hb : b = true ↔ D.tup xs = .tup ys) (g : k (.bl !b)) : dCmp S .ne (.tup xs) (.tup ys) k :=
  eq_tup (S := S) (k := fun d => ∃ c, d = .bl c ∧ k (.bl !c)) hx hy hn hm hb ⟨b, rfl, g⟩ |> fun h => by
    show dEq S (.tup xs) (.tup ys) (fun b => k (.bl !b))
    obtain ⟨p, q, a1, a2, a3, a4, c, e, g2⟩ := h
    cases e
    exact ⟨p, q, a1, a2, a3, a4, g2⟩
theorem fr_inj {x y : Rat} (h : fr x = fr y) : x = y := by
  unfold fr at h
  simp only [D.tup.injEq, List.cons.injEq, D.int.injEq, and_true] at h
  exact Rat.ext h.1 (by omega)
theorem intz_inj {a b : List Int} (h : intz a = intz b) : a = b := by
  refine (List.map_inj_right fun x y e => ?_).mp h
  exact D.int.inj e
theorem row_inj {a b : List Rat} (h : row a = row b) : a = b := (List.map_inj_right fun x y e => fr_inj e).mp (D.tup.inj h)
theorem rowD_inj {x y : Pl2 × Rat} (h : rowD x = rowD y) : x = y := by
  unfold rowD at h
  simp only [D.tup.injEq, List.cons.injEq, D.int.injEq, and_true] at h
  exact Prod.ext (Prod.ext (intz_inj h.1) h.2.1) (fr_inj h.2.2)
abbrev pairD (R : Tb) (d : List Rat) (e : Rat) : D := .tup [.tup (R.map rowD), str d e]
theorem pairD_inj {R R2 : Tb} {d d2 : List Rat} {e e2 : Rat} : pairD R d e = pairD R2 d2 e2 ↔ R = R2 ∧ d = d2 ∧ e = e2 := by
  constructor
  · intro h
    unfold pairD str at h
    simp only [D.tup.injEq, List.cons.injEq, and_true] at h
    obtain ⟨h1, h2, h3⟩ := h
    exact ⟨(List.map_inj_right fun x y q => rowD_inj q).mp h1, row_inj (by unfold row; rw [h2]), fr_inj h3⟩
  · rintro ⟨rfl, rfl, rfl⟩
    rfl


/-! ### nets of one size -/
abbrev MB : Nat := 1386 * 6 ^ 5
abbrev MM : Nat := MB * MB
abbrev MA : Nat := 1998 * MB
abbrev MC : Nat := MM * 10
theorem MA0 : 0 < MA := by decide
theorem MA1 : MA < 2 ^ 35 := by decide
theorem MC0 : 0 < MC := by decide
theorem MC1 : MC < 2 ^ 52 := by decide
theorem MM0 : 0 < MM := by decide
theorem MM1 : MM < 2 ^ 48 := by decide
theorem MMd : MM ∣ MC * MA := Nat.dvd_trans (Nat.dvd_mul_right _ _) (Nat.dvd_mul_right _ _)
theorem Z8 : ZC MA 51 35 MC 64 52 := ⟨MA0, MC0, MA1, MC1, by decide, by decide, by decide⟩
theorem NZ8 : NZ 87 117 698 816 1514 := ⟨by decide, by decide, by decide, by decide, by decide⟩
structure GN (n : Nat) (hs : List Hg) (sa : List Rat) (sb : Rat) : Prop where
  h : ∀ h ∈ hs, HC n MA 51 MC 64 h
  few : hs.length ≤ 9
  sl : sa.length = n
  a : ∀ x ∈ sa, CD MM 107 x
  b : CD MM 107 sb
  n6 : n ≤ 6
theorem NJ.fold {n Ma ka ma Mc kc mc : Nat} (Z : ZC Ma ka ma Mc kc mc) : ∀ {hs : List Hg} {i : Nat} {s : NS}, NJ n (Mc * Ma) (kc + ka) (ka + ma) i s → (∀ h ∈ hs, HC n Ma ka Mc kc h) → NJ n (Mc * Ma) (kc + ka) (ka + ma) (i + hs.length) (hs.foldl nstep s)
  | [], _, _, I, _ => I
  | h :: hs, i, s, I, F => by
    have := NJ.fold Z (hs := hs) (I.step Z (F h List.mem_cons_self)) fun g hg => F g (List.mem_cons_of_mem _ hg)
    rw [List.length_cons, show i + (hs.length + 1) = i + 1 + hs.length by omega]
    exact this
/-- the normal pair of a net, found by both sides -/
structure NP (n : Nat) (hs : List Hg) (sa : List Rat) (sb : Rat) (R : Tb) (d : List Rat) (e : Rat) : Prop where
  m : Nm n hs sa sb R d e
  D : Pl 5 (pairD R d e)
  ex : ∃ ps, ps.Perm ((nfold hs sa sb).m.map (·.1)) ∧ ps.Pairwise lexP ∧ R = rowsA (nfold hs sa sb).m ps ∧ d = (nfold hs sa sb).d ∧ e = (nfold hs sa sb).e ∧ ((nfold hs sa sb).m.map (·.1)).Nodup
section
variable {n : Nat} {hs hs2 : List Hg} {sa sa2 : List Rat} {sb sb2 : Rat} {R R1 R2 : Tb} {d d1 d2 : List Rat} {e e1 e2 : Rat}
theorem GN.hf (G : GN n hs sa sb) : ∀ h ∈ hs, HF 87 117 n h := fun h hh =>
  have H := G.h h hh
  ⟨fun x hx => ((H.a x hx).fb MA0 MA1).mono (by decide), H.len, (H.b.fb MA0 MA1).mono (by decide), (H.c.fb MC0 MC1).mono (by decide)⟩
theorem GN.fa (G : GN n hs sa sb) : (∀ x ∈ sa, FB 155 x) ∧ FB 155 sb := ⟨fun x hx => (G.a x hx).fb MM0 MM1, G.b.fb MM0 MM1⟩
theorem GN.cd (G : GN n hs sa sb) : (∀ x ∈ sa, CD (MC * MA) (64 + 51 + (51 + 35)) x) ∧ CD (MC * MA) (64 + 51 + (51 + 35)) sb := ⟨fun x hx => (G.a x hx).mono MMd (by decide), G.b.mono MMd (by decide)⟩
theorem GN.sA (G : GN n hs sa sb) : SA n 87 117 155 hs sa sb := ⟨G.hf, by have := G.few; omega, G.sl, G.fa.1, G.fa.2, by decide, by decide, by decide, by decide⟩
theorem GN.nj (G : GN n hs sa sb) : NJ n (MC * MA) (64 + 51) (51 + 35) hs.length (nfold hs sa sb) := by
  have h0 : NJ n (MC * MA) (64 + 51) (51 + 35) 0 ⟨[], sa, sb⟩ := ⟨Nat.le_refl _, List.nodup_nil, (fun e he => nomatch he), G.sl, G.cd.1, G.cd.2⟩
  have := NJ.fold Z8 h0 G.h
  rw [Nat.zero_add] at this
  exact this
theorem np_ex (G : GN n hs sa sb) : ∃ R d e, NP n hs sa sb R d e := by
  have I := G.nj
  have few := G.few
  obtain ⟨ps, hp, h1⟩ := sorted_ex (n := n) (l := (nfold hs sa sb).m.map (·.1)) fun p hq => by
    obtain ⟨e, he, rfl⟩ := List.mem_map.mp hq
    exact (I.v e he).2.1
  refine ⟨_, _, _, ⟨fun {k S Q} h => ?_, fun {k S Q} h => ?_⟩, ?_, ps, hp, h1, rfl, rfl, rfl, I.nd⟩
  · have i1 : 816 * hs.length ≤ 816 * 9 := Nat.mul_le_mul_left _ few
    have i2 : 1514 * hs.length ≤ 1514 * 9 := Nat.mul_le_mul_left _ few
    refine normal_ok NZ8 G.hf G.n6 (by omega) G.sl G.fa.1 G.fa.2 (by omega) (by omega) fun ps2 hp2 h2 _ => ?_
    rw [rows_eq I.nd I.nd hp2 hp h2 h1 fun _ => rfl]
    exact h
  · refine lpair_ok Z8 G.h G.n6 (by omega) G.sl G.cd.1 G.cd.2 fun ps2 hp2 h2 _ => ?_
    rw [rows_eq I.nd I.nd hp2 hp h2 h1 fun _ => rfl]
    exact h
  · have := rows_few hp
    have := I.len
    have n6 := G.n6
    exact pl_due (by omega) (fun e he => by have := (I.v e (rows_mem I.nd hp he)).2.1; omega) (by have := I.dl; omega)
/-- nets alike have one pair -/
theorem np_alk (A : Alk n hs sa sb hs2 sa2 sb2) (P : NP n hs sa sb R d e) (G2 : GN n hs2 sa2 sb2) : NP n hs2 sa2 sb2 R d e := by
  obtain ⟨R2, d2, e2, P2⟩ := np_ex G2
  obtain ⟨ps, hp, h1, rfl, rfl, rfl, nd⟩ := P.ex
  obtain ⟨ps2, hp2, h2, eR, ed, ee, nd2⟩ := P2.ex
  obtain ⟨q1, q2, q3⟩ := A.pair
  have : R2 = rowsA (nfold hs sa sb).m ps := by rw [eR]; exact rows_eq nd2 nd hp2 hp h2 h1 fun G => (q3 G).symm
  rw [this, ed, ee, ← q1, ← q2] at P2
  exact P2
theorem NP.uniq (P1 : NP n hs sa sb R1 d1 e1) (P2 : NP n hs sa sb R2 d2 e2) : R1 = R2 ∧ d1 = d2 ∧ e1 = e2 := by
  obtain ⟨ps, hp, h1, rfl, rfl, rfl, nd⟩ := P1.ex
  obtain ⟨ps2, hp2, h2, rfl, rfl, rfl, nd2⟩ := P2.ex
  exact ⟨rows_eq nd nd2 hp hp2 h1 h2 fun G => rfl, rfl, rfl⟩
/-- the net less the other -/
theorem nf_ex (G1 : GN n hs sa sb) (G2 : GN n hs2 sa2 sb2) (P1 : NP n hs sa sb R1 d1 e1) (P2 : NP n hs2 sa2 sb2 R2 d2 e2) :
    ∃ R d e, NF n 86 (mH hs hs2) (mD sa sa2) (mE sb sb2) R d e ∧ ((R = [] ∧ (∀ a ∈ d, a = 0) ∧ e = 0) ↔ (R1 = R2 ∧ d1 = d2 ∧ e1 = e2)) := by
  have f1 : FB 1 (-1 : Rat) := by unfold FB; decide +kernel
  have few1 := G1.few
  have few2 := G2.few
  have H : ∀ h ∈ mH hs hs2, HC n MA 51 MC 64 h := fun h hh => by
    rcases List.mem_append.mp hh with q | q
    · exact G1.h h q
    · obtain ⟨g, hg, rfl⟩ := List.mem_map.mp q
      have G := G2.h g hg
      exact ⟨G.a, G.len, G.b, G.c.neg⟩
  have HF2 : ∀ h ∈ mH hs hs2, HF 87 117 n h := fun h hh => by
    rcases List.mem_append.mp hh with q | q
    · exact G1.hf h q
    · obtain ⟨g, hg, rfl⟩ := List.mem_map.mp q
      have G := G2.hf g hg
      exact ⟨G.a, G.len, G.b, G.c.neg⟩
  have ml : (mH hs hs2).length ≤ 18 := by rw [List.length_append, List.length_map]; omega
  have sl : (mD sa sa2).length = n := by rw [addR_len (by rw [List.length_map, G1.sl, G2.sl])]; exact G1.sl
  have ca : ∀ x ∈ mD sa sa2, CD MM 108 x := CD_addR MM0 G1.a fun x hx => by
    obtain ⟨z, hz, rfl⟩ := List.mem_map.mp hx
    have := (G2.a z hz).neg
    rw [show -z = -1 * z by grind] at this
    exact this
  have cb : CD MM 108 (mE sb sb2) := G1.b.add MM0 G2.b.neg
  have fa : ∀ x ∈ mD sa sa2, FB 156 x := fun x hx => (ca x hx).fb MM0 MM1
  have fb : FB 156 (mE sb sb2) := cb.fb MM0 MM1
  have I : NJ n (MC * MA) (64 + 51) (51 + 35) (mH hs hs2).length (nfold (mH hs hs2) (mD sa sa2) (mE sb sb2)) := by
    have h0 : NJ n (MC * MA) (64 + 51) (51 + 35) 0 ⟨[], mD sa sa2, mE sb sb2⟩ := ⟨Nat.le_refl _, List.nodup_nil, (fun e he => nomatch he), sl, fun x hx => (ca x hx).mono MMd (by decide), cb.mono MMd (by decide)⟩
    have := NJ.fold Z8 h0 H
    rw [Nat.zero_add] at this
    exact this
  obtain ⟨ps, hp, h1⟩ := sorted_ex (n := n) (l := (nfold (mH hs hs2) (mD sa sa2) (mE sb sb2)).m.map (·.1)) fun p hq => by
    obtain ⟨e, he, rfl⟩ := List.mem_map.mp hq
    exact (I.v e he).2.1
  have len : ∀ h ∈ mH hs hs2, h.a.length = n := fun h hh => (H h hh).len
  obtain ⟨ps1, hp1, q1, rfl, rfl, rfl, nd1⟩ := P1.ex
  obtain ⟨ps2, hp2, q2, rfl, rfl, rfl, nd2⟩ := P2.ex
  refine ⟨_, _, _, ⟨fun {k S Q} h => ?_, fun w hw => ?_, rows_nd I.nd hp h1, by have := rows_few hp; have := I.len; omega, I.dl, fun x => fN_law len sl I.nd hp x⟩, minus_pair (fun h hh => (G1.h h hh).len) (fun h hh => (G2.h h hh).len) G1.sl G2.sl I.nd hp nd1 hp1 q1 nd2 hp2 q2⟩
  · have i1 : 816 * (mH hs hs2).length ≤ 816 * 18 := Nat.mul_le_mul_left _ ml
    have i2 : 1514 * (mH hs hs2).length ≤ 1514 * 18 := Nat.mul_le_mul_left _ ml
    refine normal_ok NZ8 HF2 G1.n6 (by omega) sl fa fb (by omega) (by omega) fun ps2 hp2 h2 _ => ?_
    rw [rows_eq I.nd I.nd hp2 hp h2 h1 fun _ => rfl]
    exact h
  · have hm := rows_mem I.nd hp hw
    obtain ⟨_, v2, v3, v4⟩ := I.v w hm
    exact ⟨⟨⟨v3, v4⟩, v2⟩, fold_keys (s := ⟨[], mD sa sa2, mE sb sb2⟩) (fun e he => nomatch he) w hm, (mem_rows.mp hw).2.2⟩
theorem np_same {x : List Rat} (G1 : GN n hs sa sb) (G2 : GN n hs2 sa2 sb2) (P1 : NP n hs sa sb R d e) (P2 : NP n hs2 sa2 sb2 R d e) : ansR hs sa sb x = ansR hs2 sa2 sb2 x := by
  obtain ⟨ps1, hp1, _, e1, e2, e3, nd1⟩ := P1.ex
  obtain ⟨ps2, hp2, _, e4, e5, e6, nd2⟩ := P2.ex
  rw [fN_law (fun h hh => (G1.h h hh).len) G1.sl nd1 hp1, fN_law (fun h hh => (G2.h h hh).len) G2.sl nd2 hp2, ← e1, ← e2, ← e3, ← e4, ← e5, ← e6]
/-- a point of some size -/
def Far (n : Nat) (x : List Rat) : Prop := x.length = n ∧ ∃ M, 0 < M ∧ M < 2 ^ 351 ∧ ∀ a ∈ x, CD M 148 a
section
variable {k : Nat} {S : Sto} {Q : D → Sto → Prop}
theorem alike_yes (G1 : GN n hs sa sb) (G2 : GN n hs2 sa2 sb2) (n1 : 1 ≤ n) (P1 : NP n hs sa sb R d e) (P2 : NP n hs2 sa2 sb2 R d e) (h : Q (.tup [.str "alike"]) S) : Cl (k + 9) f_alike [netD (n : Int) hs sa sb, netD (n : Int) hs2 sa2 sb2] S Q := by
  obtain ⟨R', d', e', F, _⟩ := nf_ex G1 G2 P1 P2
  have few1 := G1.few
  have few2 := G2.few
  exact alike_core G1.sA G2.sA F (by omega) (by decide) n1 G1.n6 (by decide) (by decide) (fun _ _ _ => h) fun x M _ _ _ _ hne => absurd (np_same G1 G2 P1 P2) hne
theorem alike_no (G1 : GN n hs sa sb) (G2 : GN n hs2 sa2 sb2) (n1 : 1 ≤ n) (P1 : NP n hs sa sb R1 d1 e1) (P2 : NP n hs2 sa2 sb2 R2 d2 e2) (ne : ¬ (R1 = R2 ∧ d1 = d2 ∧ e1 = e2)) (h : ∀ x, Far n x → ansR hs sa sb x ≠ ansR hs2 sa2 sb2 x → Q (.tup [.str "point", row x]) S) :
    Cl (k + 9) f_alike [netD (n : Int) hs sa sb, netD (n : Int) hs2 sa2 sb2] S Q := by
  obtain ⟨R', d', e', F, eqv⟩ := nf_ex G1 G2 P1 P2
  have few1 := G1.few
  have few2 := G2.few
  exact alike_core G1.sA G2.sA F (by omega) (by decide) n1 G1.n6 (by decide) (by decide) (fun a b c => absurd (eqv.mp ⟨a, b, c⟩) ne) fun x M xl M0 M1 hx hne => h x ⟨xl, M, M0, M1, hx⟩ hne
end
end


/-! ### judged -/
theorem eqS {S : Sto} {x y : Str} {k : D → Prop} : dCmp S .eq (.str x) (.str y) k = k (.bl (decide (x = y))) := rfl
theorem isS {S : Sto} {x : Str} {t : TN} {k : Bool → Prop} : dIsi S (.str x) t k = k (decide (t = .str)) := rfl
theorem sAA : decide (("alike" : Str) = ("alike" : Str)) = true := by decide
theorem sPA : decide (("point" : Str) = ("alike" : Str)) = false := by decide
theorem sPP : decide (("point" : Str) = ("point" : Str)) = true := by decide
section
variable {k : Nat} {S : Sto} {Q : D → Sto → Prop}
theorem is_whole_ok {i : Int} (h : Q (.bl true) S) : Cl (k + 1) f_is_whole [.int i] S Q := by
  refine ⟨_, rfl, rfl, ?_⟩
  wp_walk using RUN, b_is_whole
  exact .same h
theorem is_tuple_ok {ds : List D} {m : Int} (h : Q (.bl (decide ((ds.length : Int) = m))) S) : Cl (k + 1) f_is_tuple [.tup ds, .int m] S Q := by
  refine ⟨_, rfl, rfl, ?_⟩
  wp_walk using RUN, b_is_tuple
  exact .same h
theorem is_fraction_ok {x : Rat} (h : Q (.bl true) S) : Cl (k + 2) f_is_fraction [fr x] S Q := by
  have hp := x.den_pos
  have hg : Int.gcd x.num (x.den : Int) = 1 := x.reduced
  refine ⟨_, rfl, rfl, ?_⟩
  wp_walk using RUN, b_is_fraction
  refine is_tuple_ok ?_
  try wp_walk using RUN
  refine ite3 (fun q => by simp at q) fun _ => ?_
  refine is_whole_ok ?_
  try wp_walk using RUN
  refine is_whole_ok ?_
  try wp_walk using RUN
  refine ite3 (fun q => by simp at q) fun _ => ?_
  try wp_walk using RUN
  refine ite3 (fun q => by omega) fun _ => ?_
  refine divisor_ok ?_
  rw [hg]
  try wp_walk using RUN
  exact .same h
theorem is_row_ok {r : List Rat} {n : Nat} (hl : r.length = n) (h : Q (.bl true) S) : Cl (k + 3) f_is_row [row r, .int (n : Nat)] S Q := by
  refine ⟨_, rfl, rfl, ?_⟩
  wp_walk using RUN, b_is_row
  refine is_tuple_ok ?_
  rw [List.length_map, hl, show decide ((n : Int) = (n : Int)) = true from decide_eq_true rfl]
  try wp_walk using RUN
  refine loopA_ind (fun xs S' => S' = S ∧ ∃ r' : List Rat, xs = r'.map fr) ⟨rfl, r, rfl⟩ ?_ ?_
  · rintro S' ⟨rfl, r', e⟩
    try wp_walk using RUN
    exact .same h
  · rintro y ys next ih S' ⟨rfl, r', e⟩
    cases r' with
    | nil => cases e
    | cons a r' =>
      cases e
      wp_walk using RUN
      refine is_fraction_ok ?_
      try wp_walk using RUN
      exact ih _ ⟨rfl, r', rfl⟩
theorem headed_no {w u : Str} {r : List D} {m : Int} (hm : ((r.length + 1 : Nat) : Int) ≠ m) (h : Q (.bl false) S) : Cl (k + 2) f_is_headed [.tup (.str w :: r), .str u, .int m] S Q := by
  refine ⟨_, rfl, rfl, ?_⟩
  wp_walk using RUN, b_is_headed
  refine is_tuple_ok ?_
  rw [List.length_cons, decide_eq_false hm]
  try wp_walk using RUN
  exact .same h
theorem headed_yes {w : Str} {r : List D} {m : Int} (hm : ((r.length + 1 : Nat) : Int) = m) (h : Q (.bl true) S) : Cl (k + 2) f_is_headed [.tup (.str w :: r), .str w, .int m] S Q := by
  refine ⟨_, rfl, rfl, ?_⟩
  wp_walk using RUN, b_is_headed
  refine is_tuple_ok ?_
  rw [List.length_cons, decide_eq_true hm]
  wp_walk using RUN, isS, eqS
  exact .same h
variable {n : Nat} {hs hs2 : List Hg} {sa sa2 : List Rat} {sb sb2 : Rat} {R R1 R2 : Tb} {d d1 d2 : List Rat} {e e1 e2 : Rat}
theorem judge_word {b : Bool} (G1 : GN n hs sa sb) (G2 : GN n hs2 sa2 sb2) (n1 : 1 ≤ n) (P1 : NP n hs sa sb R1 d1 e1) (P2 : NP n hs2 sa2 sb2 R2 d2 e2) (hb : b = true ↔ (R1 = R2 ∧ d1 = d2 ∧ e1 = e2)) (h : Q (.bl b) S) :
    Cl (k + 9) f_judge_alike [netD (n : Int) hs sa sb, netD (n : Int) hs2 sa2 sb2, .tup [.str "alike"]] S Q := by
  obtain ⟨R', d', e', F, eqv⟩ := nf_ex G1 G2 P1 P2
  have few1 := G1.few
  have few2 := G2.few
  have n6 := G1.n6
  have A1 := G1.sA
  have A2 := G2.sA
  have f1 : FB 1 (-1 : Rat) := by unfold FB; decide +kernel
  have A : SA n 87 117 312 (mH hs hs2) (mD sa sa2) (mE sb sb2) := by
    refine ⟨fun h hh => ?_, by rw [List.length_append, List.length_map]; omega, by rw [addR_len (by rw [List.length_map, A1.sl, A2.sl])]; exact A1.sl, fun x hx => (FB_addR A1.a (FB_smul f1 A2.a) x hx).mono (by omega), (A1.b.add A2.b.neg).mono (by omega), A1.b1, A1.ba, A1.bc, by omega⟩
    rcases List.mem_append.mp hh with q | q
    · exact A1.h h q
    · obtain ⟨g, hg, rfl⟩ := List.mem_map.mp q
      have G := A2.h g hg
      exact ⟨G.a, G.len, G.b, G.c.neg⟩
  refine ⟨_, rfl, rfl, ?_⟩
  wp_walk using RUN, b_judge_alike
  refine headed_yes rfl ?_
  try wp_walk using RUN
  refine minus_net_ok A1 A2 n6 ?_
  try wp_walk using RUN
  refine F.pn ?_
  try wp_walk using RUN
  refine ite3 (fun q => ?_) (fun q => ?_)
  · have hR : R' = [] := by
      cases hR : R' with
      | nil => rfl
      | cons w l => rw [hR] at q; simp at q
    refine minus_net_ok A1 A2 n6 ?_
    try wp_walk using RUN
    refine showing_ok F A n1 n6 (by decide) (by decide) (fun r0 d0 e0 => ?_) (fun x M xl M0 M1 hx hne => ?_)
    · have := hb.mpr (eqv.mp ⟨r0, d0, e0⟩)
      subst this
      exact .same h
    · have xn : x ≠ [] := fun z => by rw [z] at xl; simp at xl; omega
      have ht : (!(x.map fr).isEmpty) = true := by cases x with
        | nil => exact absurd rfl xn
        | cons a l => rfl
      have bf : b = false := by
        cases hb' : b with
        | false => rfl
        | true =>
          obtain ⟨q1, q2, q3⟩ := hb.mp hb'
          subst q1; subst q2; subst q3
          have := np_same (x := x) G1 G2 P1 P2
          rw [minus_ans (n := n) A1.sl A2.sl, this] at hne
          exact absurd (by grind) hne
      subst bf
      show Give Q (.bl !(!(x.map fr).isEmpty)) S
      rw [ht]
      exact .same h
  · have bf : b = false := by
      cases hb' : b with
      | false => rfl
      | true =>
        have := (eqv.mpr (hb.mp hb')).1
        rw [this] at q
        simp at q
    subst bf
    exact .same h
theorem judge_point {x : List Rat} {X : Nat} (G1 : GN n hs sa sb) (G2 : GN n hs2 sa2 sb2) (xl : x.length = n) (hx : ∀ a ∈ x, FB X a) (hX : X ≤ 2100) (h : Q (.bl !(decide (ansR hs sa sb x = ansR hs2 sa2 sb2 x))) S) :
    Cl (k + 9) f_judge_alike [netD (n : Int) hs sa sb, netD (n : Int) hs2 sa2 sb2, .tup [.str "point", row x]] S Q := by
  have n6 := G1.n6
  refine ⟨_, rfl, rfl, ?_⟩
  wp_walk using RUN, b_judge_alike
  refine headed_no (by simp) ?_
  try wp_walk using RUN
  refine headed_yes rfl ?_
  try wp_walk using RUN
  refine is_row_ok xl ?_
  try wp_walk using RUN
  refine answer_okX G1.sA hx xl n6 hX ?_
  try wp_walk using RUN
  refine answer_okX G2.sA hx xl n6 hX ?_
  refine ne_tup (b := decide (ansR hs sa sb x = ansR hs2 sa2 sb2 x)) (pl_fr _) (pl_fr _) (by decide) (by decide) ⟨fun q => by rw [of_decide_eq_true q], fun q => decide_eq_true (fr_inj q)⟩ ?_
  exact .same h
end


/-! ### drawn in some order -/
theorem pop_at {S : Sto} {a : Addr} {xs : List D} {i : Int} {K : D → Sto → Prop} (e : S a = some xs) (h0 : 0 ≤ i) (h1 : i < xs.length) (hl : xs.length ≤ 1000) (h : ∀ d, xs[i.toNat]? = some d → K d (S.put a (xs.eraseIdx i.toNat))) : dMeth .pop (.ref a) [.int i] S K := by
  have hi : i.toNat < xs.length := by omega
  refine ⟨xs, xs[i.toNat], i.toNat, e, ⟨by omega, by omega⟩, seqIndex_of h0 h1, List.getElem?_eq_getElem hi, h _ (List.getElem?_eq_getElem hi)⟩
theorem cons_erase {α : Type} : ∀ {l : List α} {j : Nat} (h : j < l.length), (l[j] :: l.eraseIdx j).Perm l
  | [], _, h => by cases h
  | x :: l, 0, _ => .refl _
  | x :: l, j + 1, h => by
    have h : j < l.length := by simpa using h
    exact (List.Perm.swap x l[j] (l.eraseIdx j)).trans ((cons_erase h).cons x)
section
variable {k : Nat} {S : Sto} {Q : D → Sto → Prop}
theorem some_ok {p g : Addr} {ds : List D} {mm : Nat} (hm : mm = ds.length) (hS : St p g S) (hl : ds.length ≤ 100) (h : ∀ l S', l.Perm ds → St p g S' → Upd p g S S' → Q (.lst l) S') : Cl (k + 2) f__law_some [.ref p, .lst ds, .int (mm : Nat)] S Q := by
  subst hm
  refine ⟨_, rfl, rfl, ?_⟩
  wp_walk using RUN, b__law_some
  intro q hq
  have qp := hS.ne hq
  have hS1 := hS.put (xs := ds) qp
  intro r hr
  have rq : r ≠ q := by rintro rfl; rw [Sto.put_same] at hr; cases hr
  have hr0 : S r = none := by rw [Sto.put_ne rq] at hr; exact hr
  have rp := hS.ne hr0
  try wp_walk using RUN
  refine ⟨by unfold RngOk; omega, ?_⟩
  refine loopF_ind (fun xs ρ S' => ∃ (L M : List D) (i : Nat) (u : Option D), xs = rangeD i ds.length ∧ M.length = i ∧ (M ++ L).Perm ds ∧ S' q = some L ∧ S' r = some M ∧ St p g S' ∧ (∀ x, x ≠ p → x ≠ g → x ≠ q → x ≠ r → S' x = S x) ∧ ρ = [some (.ref p), some (.lst ds), some (.int (ds.length : Nat)), some (.ref q), some (.ref r), u]) ?_ ?_ ?_
  · exact ⟨ds, [], 0, none, rfl, rfl, .refl _, by rw [Sto.put_ne fun z => rq z.symm]; exact Sto.put_same, Sto.put_same, hS1.put rp, fun x _ _ h3 h4 => by rw [Sto.put_ne h4, Sto.put_ne h3], rfl⟩
  · rintro ρ S' ⟨L, M, i, u, ex, lm, pm, eq, er, hS', up, rfl⟩
    have : ¬ (i : Int) < (ds.length : Int) := fun z => by rw [rangeD_cons z] at ex; cases ex
    have l1 := pm.length_eq
    rw [List.length_append] at l1
    have : L = [] := List.eq_nil_of_length_eq_zero (by omega)
    subst this
    rw [List.append_nil] at pm
    wp_walk using RUN
    refine ⟨(S'.del r).del q, .lst M, Sub.trans .del .del, .ref er ?_ (FrzL.refl _), h M _ pm ((hS'.del rp).del qp) fun x h1 h2 => ?_⟩
    · unfold Sto.del
      rw [if_neg rq, if_pos rfl]
    · unfold Sto.del
      by_cases z : x = q
      · rw [if_pos z, z, hq]
      · rw [if_neg z]
        by_cases z2 : x = r
        · rw [if_pos z2, z2, hr0]
        · rw [if_neg z2, up x h1 h2 z z2]
  · rintro y xs next ih ρ S' ⟨L, M, i, u, ex, lm, pm, eq, er, hS', up, rfl⟩
    by_cases z : (i : Int) < (ds.length : Int)
    · rw [rangeD_cons z] at ex
      cases ex
      have l1 := pm.length_eq
      rw [List.length_append] at l1
      wp_walk using RUN, eq, er
      refine draw_ok hS' (by omega) fun v S2 v0 v1 hS2 w2 => ?_
      have eq2 : S2 q = some L := by rw [w2 q qp.1 qp.2]; exact eq
      have er2 : S2 r = some M := by rw [w2 r rp.1 rp.2]; exact er
      refine pop_at eq2 v0 v1 (by omega) fun d hd => ?_
      have er3 : (S2.put q (L.eraseIdx v.toNat)) r = some M := by rw [Sto.put_ne rq]; exact er2
      wp_walk using RUN, er3
      refine ⟨by unfold LIM; omega, ?_⟩
      have hv : v.toNat < L.length := by omega
      have ed : d = L[v.toNat] := by rw [List.getElem?_eq_getElem hv] at hd; cases hd; rfl
      refine ih _ _ ⟨L.eraseIdx v.toNat, M ++ [d], i + 1, _, by rw [Int.natCast_add]; rfl, by rw [List.length_append, List.length_singleton, lm], ?_, by rw [Sto.put_ne fun z => rq z.symm]; exact Sto.put_same, Sto.put_same, (hS2.put qp).put rp, fun x h1 h2 h3 h4 => by rw [Sto.put_ne h4, Sto.put_ne h3, w2 x h1 h2]; exact up x h1 h2 h3 h4, rfl⟩
      refine .trans ?_ pm
      rw [List.append_assoc]
      refine List.Perm.append_left M ?_
      rw [ed]
      exact cons_erase hv
    · rw [rangeD_nil (by omega)] at ex
      cases ex
end


/-! ### drawn nets -/
structure G0 (n : Nat) (hs : List Hg) (sa : List Rat) (sb : Rat) : Prop where
  h : ∀ h ∈ hs, HC n MB 24 MB 24 h
  few : hs.length ≤ 5
  sl : sa.length = n
  a : ∀ x ∈ sa, CD MB 24 x
  b : CD MB 24 sb
  n6 : n ≤ 6
theorem MB0 : 0 < MB := by decide
theorem MB1 : MB < 2 ^ 24 := by decide
theorem ZB : ZC MB 24 24 MB 24 24 := ⟨MB0, MB0, MB1, MB1, by decide, by decide, by decide⟩
theorem MBA : MB ∣ MA := Nat.dvd_mul_left _ _
theorem MBM : MB ∣ MM := Nat.dvd_mul_right _ _
theorem MMC : MM ∣ MC := Nat.dvd_mul_right _ _
/-- sizes of a normal pair -/
structure RB (n : Nat) (R : Tb) (d : List Rat) (e : Rat) : Prop where
  v : ∀ w ∈ R, CD MM 53 w.2 ∧ w.1.1.length = n ∧ (∀ z ∈ w.1.1, z.natAbs < 2 ^ 48) ∧ w.1.2.natAbs < 2 ^ 48
  few : R.length ≤ 5
  dl : d.length = n
  d : ∀ x ∈ d, CD MM 101 x
  e : CD MM 101 e
  pk : ∀ w ∈ R, PK w.1 ∧ w.2 ≠ 0
  nd : (R.map (·.1)).Nodup
section
variable {n : Nat} {hs hs2 : List Hg} {sa sa2 : List Rat} {sb sb2 : Rat} {R R1 R2 : Tb} {d d1 d2 : List Rat} {e e1 e2 : Rat}
theorem G0.gn (G : G0 n hs sa sb) : GN n hs sa sb := ⟨fun h hh => let H := G.h h hh; ⟨fun x hx => (H.a x hx).mono MBA (by decide), H.len, H.b.mono MBA (by decide), H.c.mono (Nat.dvd_trans MBM MMC) (by decide)⟩, by have := G.few; omega, G.sl, fun x hx => (G.a x hx).mono MBM (by decide), G.b.mono MBM (by decide), G.n6⟩
theorem G0.rb (G : G0 n hs sa sb) (P : NP n hs sa sb R d e) : RB n R d e := by
  have few := G.few
  have I : NJ n MM (24 + 24) (24 + 24) hs.length (nfold hs sa sb) := by
    have h0 : NJ n MM (24 + 24) (24 + 24) 0 ⟨[], sa, sb⟩ := ⟨Nat.le_refl _, List.nodup_nil, (fun e he => nomatch he), G.sl, fun x hx => (G.a x hx).mono MBM (by decide), G.b.mono MBM (by decide)⟩
    have := NJ.fold ZB h0 G.h
    rw [Nat.zero_add] at this
    exact this
  have up : ∀ {k k' : Nat} {x : Rat}, CD MM k x → k ≤ k' → CD MM k' x := fun hx l => hx.mono (Nat.dvd_refl _) l
  obtain ⟨ps, hp, h1, rfl, rfl, rfl, nd⟩ := P.ex
  refine ⟨fun w hw => ?_, by have := rows_few hp; have := I.len; omega, I.dl, fun x hx => up (I.d x hx) (by omega), up I.e (by omega), fun w hw => ⟨fold_keys (s := ⟨[], sa, sb⟩) (fun e he => nomatch he) w (rows_mem nd hp hw), (mem_rows.mp hw).2.2⟩, rows_nd nd hp h1⟩
  obtain ⟨v1, v2, v3, v4⟩ := I.v w (rows_mem nd hp hw)
  exact ⟨up v1 (by omega), v2, v3, v4⟩
theorem RB.nq (B : RB n R d e) : NQ n MM R d e := by
  have up : ∀ {k k' : Nat} {x : Rat}, CD MM k x → k ≤ k' → CD MM k' x := fun hx l => hx.mono (Nat.dvd_refl _) l
  exact ⟨MM0, Nat.lt_trans MM1 (Nat.pow_lt_pow_right (by decide) (by decide)), fun w hw => let ⟨a, b, c, f⟩ := B.v w hw; ⟨up a (by decide), b, fun z hz => pow2_mono (c z hz) (by decide), pow2_mono f (by decide)⟩, by have := B.few; omega, B.dl, fun x hx => up (B.d x hx) (by decide), up B.e (by decide)⟩
theorem alk_of (P : NP n hs sa sb R d e) (G : GN n hs sa sb) (l2 : ∀ h ∈ hs2, h.a.length = n) (s2 : sa2.length = n) (J : ∀ F, lsum (Jg F) hs2 = sumA F R) (Dd : ∀ x, dotR sa2 x + lsum (Dg x) hs2 = dotR d x) (E : sb2 + lsum Eg hs2 = e) : Alk n hs sa sb hs2 sa2 sb2 := by
  obtain ⟨ps, hp, h1, rfl, rfl, rfl, nd⟩ := P.ex
  have len : ∀ h ∈ hs, h.a.length = n := fun h hh => (G.h h hh).len
  refine ⟨len, l2, G.sl, s2, fun F => ?_, fun x => ?_, ?_⟩
  · rw [J, sum_rows nd hp]
    have a1 := fold_J (G := F) (hs := hs) (s := ⟨[], sa, sb⟩)
    have a2 : sumA F (nfold hs sa sb).m = 0 + lsum (Jg F) hs := a1
    rw [a2, Rat.zero_add]
  · rw [Dd]; exact (fold_D (x := x) (s := ⟨[], sa, sb⟩) len G.sl).1.symm
  · rw [E]; exact (fold_E (hs := hs) (s := ⟨[], sa, sb⟩)).symm
/-- a hinge of its own plane -/
structure Own (n : Nat) (h : Hg) : Prop where
  c : HC n MA 51 MC 63 h
  z : ¬ isZ h.a = true
  j : jmp h ≠ 0
theorem sum_swap {f : Hg → Rat} {l m : List Hg} (h : l.Perm m) : lsum f l = lsum f m := lsum_perm h
theorem perm_map_inv {α β : Type} {f : α → β} {l : List β} {r : List β} (h : l.Perm r) : ∀ {m : List α}, r = m.map f → ∃ m2 : List α, m2.Perm m ∧ l = m2.map f := by
  induction h with
  | nil => intro m e; exact ⟨m, .refl _, e⟩
  | cons x h ih =>
    intro m e
    cases m with
    | nil => cases e
    | cons y m =>
      cases e
      obtain ⟨m2, h1, e1⟩ := ih rfl
      exact ⟨y :: m2, h1.cons y, by rw [e1]; rfl⟩
  | swap x y l =>
    intro m e
    cases m with
    | nil => cases e
    | cons a m =>
      cases m with
      | nil => cases e
      | cons b m =>
        cases e
        exact ⟨b :: a :: m, .swap a b m, rfl⟩
  | trans h1 h2 ih1 ih2 =>
    intro m e
    obtain ⟨m2, p2, e2⟩ := ih2 e
    obtain ⟨m3, p3, e3⟩ := ih1 e2
    exact ⟨m3, p3.trans p2, e3⟩
structure Len (d : D) (t u : Rat) : Prop where
  e : d = fr t
  f : FB 13 t
  c : CD 1998 3 t
  p : 0 < t
  i : u * t = 1
  cu : CD 10 10 u
theorem lens {d : D} (h : d ∈ [D.tup [.int 1, .int 1], .tup [.int 2, .int 1], .tup [.int 1, .int 3], .tup [.int 5, .int 2], .tup [.int 1, .int 999]]) : ∃ t u : Rat, Len d t u := by
  simp only [List.mem_cons, List.not_mem_nil, or_false] at h
  rcases h with rfl | rfl | rfl | rfl | rfl
  · exact ⟨1, 1, frE (by decide +kernel) (by decide +kernel), by unfold FB; decide +kernel, ⟨by decide +kernel, by decide +kernel⟩, by decide +kernel, by decide +kernel, ⟨by decide +kernel, by decide +kernel⟩⟩
  · exact ⟨2, mkRat 1 2, frE (by decide +kernel) (by decide +kernel), by unfold FB; decide +kernel, ⟨by decide +kernel, by decide +kernel⟩, by decide +kernel, by decide +kernel, ⟨by decide +kernel, by decide +kernel⟩⟩
  · exact ⟨mkRat 1 3, 3, frE (by decide +kernel) (by decide +kernel), by unfold FB; decide +kernel, ⟨by decide +kernel, by decide +kernel⟩, by decide +kernel, by decide +kernel, ⟨by decide +kernel, by decide +kernel⟩⟩
  · exact ⟨mkRat 5 2, mkRat 2 5, frE (by decide +kernel) (by decide +kernel), by unfold FB; decide +kernel, ⟨by decide +kernel, by decide +kernel⟩, by decide +kernel, by decide +kernel, ⟨by decide +kernel, by decide +kernel⟩⟩
  · exact ⟨mkRat 1 999, 999, frE (by decide +kernel) (by decide +kernel), by unfold FB; decide +kernel, ⟨by decide +kernel, by decide +kernel⟩, by decide +kernel, by decide +kernel, ⟨by decide +kernel, by decide +kernel⟩⟩
/-- either way round -/
def sgn (t : Bool) (w : Pl2 × Rat) : Hg := if t then tHg w else hgOf w
theorem own_of {w : Pl2 × Rat} {t u : Rat} {b : Bool} (v : CD MM 53 w.2 ∧ w.1.1.length = n ∧ (∀ z ∈ w.1.1, z.natAbs < 2 ^ 48) ∧ w.1.2.natAbs < 2 ^ 48) (pk : PK w.1 ∧ w.2 ≠ 0) (tp : 0 < t) (ti : u * t = 1) (tc : CD 1998 3 t) (uc : CD 10 10 u) :
    Own n ⟨smul t (sgn b w).a, t * (sgn b w).b, w.2 * u⟩ ∧ plOf ⟨smul t (sgn b w).a, t * (sgn b w).b, w.2 * u⟩ = w.1 ∧ (∀ G, Jg G ⟨smul t (sgn b w).a, t * (sgn b w).b, w.2 * u⟩ = w.2 * G w.1) ∧
      (∀ x, (if b = true then w.2 * dotR (rati w.1.1) x else 0) + Dg x ⟨smul t (sgn b w).a, t * (sgn b w).b, w.2 * u⟩ = 0) ∧ (if b = true then w.2 * (w.1.2 : Rat) else 0) + Eg ⟨smul t (sgn b w).a, t * (sgn b w).b, w.2 * u⟩ = 0 := by
  obtain ⟨nz, ep, es⟩ := pk_hg pk.1
  have t0 : t ≠ 0 := by grind
  have ej : jmp (hgOf w) = w.2 := by
    show w.2 * sizeR (szOf (hgOf w)) = w.2
    rw [es]
    show w.2 * sizeR 1 = w.2
    rw [show sizeR 1 = 1 from rfl, Rat.mul_one]
  have n1 : ¬ ((1 : Rat).num < 0) := by decide
  have j1 : ∀ G, Jg G (hgOf w) = w.2 * G w.1 := fun G => by unfold Jg; rw [if_neg nz, ej, ep]
  have d1 : ∀ x, Dg x (hgOf w) = 0 := fun x => by unfold Dg; rw [if_neg nz, es, if_neg n1]
  have e1 : Eg (hgOf w) = 0 := by unfold Eg; rw [if_neg nz, es, if_neg n1]
  obtain ⟨t1, t2, t3⟩ := turn_ok (hgOf w)
  have te := tHg_eq w
  have ca : ∀ z ∈ (sgn b w).a, CD 1 48 z := fun z hz => by
    unfold sgn at hz
    cases b with
    | true =>
      obtain ⟨y, hy, rfl⟩ := List.mem_map.mp hz
      obtain ⟨q, hq, rfl⟩ := List.mem_map.mp hy
      exact CD_int (by rw [Int.natAbs_neg]; exact v.2.2.1 q hq)
    | false =>
      obtain ⟨y, hy, rfl⟩ := List.mem_map.mp hz
      exact CD_int (v.2.2.1 y hy)
  have cb : CD 1 48 (sgn b w).b := by
    unfold sgn
    cases b with
    | true => exact CD_int (by rw [Int.natAbs_neg]; exact v.2.2.2)
    | false => exact CD_int v.2.2.2
  have la : (sgn b w).a.length = n := by
    unfold sgn
    cases b with
    | true =>
      show (rati (negz w.1.1)).length = n
      rw [List.length_map, List.length_map]; exact v.2.1
    | false =>
      show (rati w.1.1).length = n
      rw [List.length_map]; exact v.2.1
  have cc : (sgn b w).c = w.2 := by unfold sgn; cases b <;> rfl
  have zz : ¬ isZ (sgn b w).a = true := by
    unfold sgn
    cases b with
    | true =>
      show ¬ isZ (tHg w).a = true
      rw [te, isZ_smul (by decide +kernel)]; exact nz
    | false => exact nz
  have pp : plOf (sgn b w) = w.1 := by
    unfold sgn
    cases b with
    | true =>
      show plOf (tHg w) = w.1
      have := (pl_smul (t := -1) (by decide +kernel) nz (hgOf w).c).1
      rw [te, show -(hgOf w).b = -1 * (hgOf w).b by grind, this]; exact ep
    | false => exact ep
  obtain ⟨l1, l2, l3⟩ := long_ok tp ti (sgn b w)
  rw [cc] at l1 l2 l3
  have J : ∀ G, Jg G ⟨smul t (sgn b w).a, t * (sgn b w).b, w.2 * u⟩ = w.2 * G w.1 := fun G => by
    rw [l1]
    unfold sgn
    cases b with
    | true =>
      show Jg G (tHg w) = _
      rw [te, t1, j1]
    | false => exact j1 G
  have z2 : ¬ isZ (smul t (sgn b w).a) = true := by rw [isZ_smul t0]; exact zz
  refine ⟨⟨⟨fun x hx => ?_, by rw [List.length_map]; exact la, ?_, ?_⟩, z2, fun hj => pk.2 ?_⟩, ?_, J, fun x => ?_, ?_⟩
  · obtain ⟨z, hz, rfl⟩ := List.mem_map.mp hx
    exact (tc.mul (ca z hz)).mono (by rw [Nat.mul_one]; exact Nat.dvd_mul_right _ _) (by decide)
  · exact (tc.mul cb).mono (by rw [Nat.mul_one]; exact Nat.dvd_mul_right _ _) (by decide)
  · exact v.1.mul uc
  · have := J (fun _ => 1)
    unfold Jg at this
    rw [if_neg z2, hj] at this
    grind
  · rw [← pp]; exact (pl_smul t0 zz (w.2 * u)).1
  · rw [l2]
    unfold sgn
    cases b with
    | true =>
      show w.2 * dotR (rati w.1.1) x + Dg x (tHg w) = 0
      rw [te]
      have := t2 x
      rw [d1] at this
      exact this
    | false =>
      show 0 + Dg x (hgOf w) = 0
      rw [d1]; grind
  · rw [l3]
    unfold sgn
    cases b with
    | true =>
      show w.2 * (w.1.2 : Rat) + Eg (tHg w) = 0
      rw [te]
      rw [e1] at t3
      exact t3
    | false =>
      show 0 + Eg (hgOf w) = 0
      rw [e1]; grind
end


/-! ### made anew -/
/-- another net with this normal pair: a hinge for each plane -/
structure Oth (n : Nat) (R : Tb) (d : List Rat) (e : Rat) (hs : List Hg) (sa : List Rat) (sb : Rat) : Prop where
  own : ∀ h ∈ hs, Own n h
  len : hs.length = R.length
  nd : (hs.map plOf).Nodup
  sl : sa.length = n
  a : ∀ x ∈ sa, CD MM 106 x
  b : CD MM 106 sb
  j : ∀ F, lsum (Jg F) hs = sumA F R
  d : ∀ x, dotR sa x + lsum (Dg x) hs = dotR d x
  e : sb + lsum Eg hs = e
section
variable {k : Nat} {S : Sto} {Q : D → Sto → Prop} {n : Nat} {hs : List Hg} {sa : List Rat} {sb : Rat} {R : Tb} {d : List Rat} {e : Rat}
theorem lsum_nil {f : Hg → Rat} : lsum f [] = 0 := rfl
theorem sumA_app {F : Pl2 → Rat} : ∀ {l m : Tb}, sumA F (l ++ m) = sumA F l + sumA F m
  | [], m => (Rat.zero_add _).symm
  | w :: l, m => by
    show w.2 * F w.1 + sumA F (l ++ m) = w.2 * F w.1 + sumA F l + sumA F m
    rw [sumA_app]; grind
theorem rm1 : D.tup [.int (-1), .int 1] = fr (-1) := frE (by decide +kernel) (by decide +kernel)
theorem other_ok {p g : Addr} (hS : St p g S) (N : NP n hs sa sb R d e) (B : RB n R d e) (n6 : n ≤ 6) (h : ∀ hs2 sa2 sb2 S', Oth n R d e hs2 sa2 sb2 → St p g S' → Q (netD (n : Int) hs2 sa2 sb2) S') : Cl (k + 6) f__law_other [.ref p, netD (n : Int) hs sa sb] S Q := by
  have few := B.few
  refine ⟨_, rfl, rfl, ?_⟩
  wp_walk using RUN, b__law_other
  refine N.m.pl ?_
  try wp_walk using RUN
  intro a ha
  have ap := hS.ne ha
  refine loopF_ind (fun xs ρ S' => ∃ (r1 r2 : Tb) (made : List Hg) (d' : List Rat) (e' : Rat) (u7 u8 u9 u10 u11 u12 : Option D), xs = r2.map rowD ∧ R = r1 ++ r2 ∧ S' a = some (made.map hg) ∧ (∀ h ∈ made, Own n h) ∧ made.map plOf = r1.map (·.1) ∧ d'.length = n ∧ (∀ x ∈ d', CD MM (101 + r1.length) x) ∧ CD MM (101 + r1.length) e' ∧
    (∀ F, lsum (Jg F) made = sumA F r1) ∧ (∀ x, dotR d' x + lsum (Dg x) made = dotR d x) ∧ e' + lsum Eg made = e ∧ St p g S' ∧ UpdA p g a S S' ∧
    ρ = [some (.ref p), some (netD (n : Int) hs sa sb), some (.tup (R.map rowD)), some (str d e), some (row d'), some (fr e'), some (.ref a), u7, u8, u9, u10, u11, u12]) ?_ ?_ ?_
  · exact ⟨[], R, [], d, e, none, none, none, none, none, none, rfl, rfl, Sto.put_same, (fun h hh => nomatch hh), rfl, B.dl, B.d, B.e, fun F => rfl, fun x => by rw [lsum_nil]; grind, by rw [lsum_nil]; grind, hS.put ap, fun q _ _ h3 => Sto.put_ne h3, rfl⟩
  · rintro ρ S' ⟨r1, r2, made, d', e', u7, u8, u9, u10, u11, u12, ex, er, ea, ow, epl, dl, cd, ce, J, Dd, E, hS', up, rfl⟩
    cases r2 with
    | cons w l => cases ex
    | nil =>
      rw [List.append_nil] at er
      subst er
      have lm : made.length = R.length := by have := congrArg List.length epl; simpa using this
      refine ⟨trivial, ?_⟩
      try wp_walk using RUN
      refine ⟨a, made.map hg, rfl, ea, ?_⟩
      wp_walk using RUN, List.length_map
      refine some_ok (ds := made.map hg) (List.length_map _).symm (hS'.del ap) (by rw [List.length_map]; omega) fun l S2 pl hS2 w2 => ?_
      obtain ⟨hs2, p2, rfl⟩ := perm_map_inv pl rfl
      wp_walk using RUN
      refine .same (h hs2 d' e' S2 ⟨fun h hh => ow h (p2.mem_iff.mp hh), by rw [p2.length_eq]; exact lm, ?_, dl, fun x hx => (cd x hx).mono (Nat.dvd_refl _) (by omega), ce.mono (Nat.dvd_refl _) (by omega), fun F => by rw [lsum_perm p2]; exact J F, fun x => by rw [lsum_perm p2]; exact Dd x, by rw [lsum_perm p2]; exact E⟩ hS2)
      rw [(p2.map plOf).nodup_iff, epl]
      exact B.nd
  · rintro y xs next ih ρ S' ⟨r1, r2, made, d', e', u7, u8, u9, u10, u11, u12, ex, er, ea, ow, epl, dl, cd, ce, J, Dd, E, hS', up, rfl⟩
    cases r2 with
    | nil => cases ex
    | cons w r2 =>
      cases ex
      have l2 := congrArg List.length er
      rw [List.length_append, List.length_cons] at l2
      have hw : w ∈ R := by rw [er]; simp
      have v := B.v w hw
      have pk := B.pk w hw
      obtain ⟨cj, wl, ci, cb⟩ := v
      have fj : FB 101 w.2 := cj.fb MM0 MM1
      have fA : ∀ z ∈ rati w.1.1, FB 49 z := fun x hx => by
        obtain ⟨z, hz, rfl⟩ := List.mem_map.mp hx
        exact FB_int (pow2_mono (ci z hz) (by omega)) (by omega)
      have fB : FB 49 (w.1.2 : Rat) := FB_int (pow2_mono cb (by omega)) (by omega)
      have lm : made.length = r1.length := by have := congrArg List.length epl; simpa using this
      have lM : (made.map hg).length < LIM := by rw [List.length_map]; unfold LIM; omega
      have up2 : ∀ {k k' : Nat} {x : Rat}, CD MM k x → k ≤ k' → CD MM k' x := fun hx l => hx.mono (Nat.dvd_refl _) l
      have fd : ∀ x ∈ d', FB 160 x := fun x hx => ((cd x hx).fb MM0 MM1).mono (by omega)
      have fe : FB 160 e' := (ce.fb MM0 MM1).mono (by omega)
      wp_walk using RUN, bTrow
      refine pick_okL hS' (by simp) fun dd S2 hd hS2 w2 => ?_
      obtain ⟨t, u, L⟩ := lens hd
      obtain ⟨rfl, ft, tc, tp, ti, uc⟩ := L
      have t0 : t ≠ 0 := by grind
      have eu : w.2 / t = w.2 * u := by
        rw [Rat.div_def]
        have : t⁻¹ = u := by
          have := Rat.mul_inv_cancel t t0
          grind
        rw [this]
      have fu : FB 14 u := (uc.fb (m := 4) (by decide) (by decide)).mono (by decide)
      try wp_walk using RUN
      refine lwhole_ok (by omega) ?_
      try wp_walk using RUN
      rw [fr_int1]
      refine draw_ok hS2 (by decide) fun v S3 _ _ hS3 w3 => ?_
      have up3 := (up.upd w2).upd w3
      have ea3 : S3 a = some (made.map hg) := by rw [w3 a ap.1 ap.2, w2 a ap.1 ap.2]; exact ea
      have fin : ∀ (b : Bool) u7 u8 u9 u10 u11 u12, ∃ xs, S3 a = some xs ∧ xs.length < LIM ∧ next [some (.ref p), some (netD (n : Int) hs sa sb), some (.tup (R.map rowD)), some (str d e), some (row (if b = true then addR d' (smul w.2 (rati w.1.1)) else d')), some (fr (if b = true then e' + w.2 * (w.1.2 : Rat) else e')), some (.ref a), u7, u8, u9, u10, u11, u12] (S3.put a (xs ++ [hg ⟨smul t (sgn b w).a, t * (sgn b w).b, w.2 * u⟩])) := fun b u7 u8 u9 u10 u11 u12 => by
        obtain ⟨o1, o2, o3, o4, o5⟩ := own_of (b := b) (n := n) ⟨cj, wl, ci, cb⟩ pk tp ti tc uc
        refine ⟨_, ea3, lM, ?_⟩
        refine ih _ _ ⟨r1 ++ [w], r2, made ++ [⟨smul t (sgn b w).a, t * (sgn b w).b, w.2 * u⟩], _, _, u7, u8, u9, u10, u11, u12, rfl, by rw [er]; simp, by rw [Sto.put_same]; simp, fun h hh => ?_, by rw [List.map_append, List.map_append, epl]; simp [o2], ?_, ?_, ?_, fun F => ?_, fun x => ?_, ?_, hS3.put ap, up3.put, rfl⟩
        · rcases List.mem_append.mp hh with q | q
          · exact ow h q
          · rw [List.mem_singleton.mp q]; exact o1
        · split
          · rw [addR_len (by rw [List.length_map, List.length_map]; omega)]; exact dl
          · exact dl
        · rw [List.length_append, List.length_singleton]
          split
          · refine CD_addR MM0 cd fun x hx => ?_
            obtain ⟨y, hy, rfl⟩ := List.mem_map.mp hx
            obtain ⟨z, hz, rfl⟩ := List.mem_map.mp hy
            have := cj.mul (CD_int (ci z hz))
            rw [Nat.mul_one] at this
            exact up2 this (show 53 + 48 ≤ 101 + r1.length by omega)
          · exact fun x hx => up2 (cd x hx) (by omega)
        · rw [List.length_append, List.length_singleton]
          split
          · have := cj.mul (CD_int cb)
            rw [Nat.mul_one] at this
            exact ce.add MM0 (up2 this (show 53 + 48 ≤ 101 + r1.length by omega))
          · exact up2 ce (by omega)
        · rw [lsum_app, lsum_one, J, o3, sumA_app]
          show sumA F r1 + w.2 * F w.1 = sumA F r1 + (w.2 * F w.1 + 0)
          grind
        · rw [lsum_app, lsum_one]
          have a1 := Dd x
          have a2 := o4 x
          by_cases hb : b = true
          · simp only [hb, ↓reduceIte] at a2 ⊢
            rw [dotR_addL (by rw [List.length_map, List.length_map]; omega), dotR_mul]
            grind
          · simp only [hb, ↓reduceIte] at a2 ⊢
            grind
        · rw [lsum_app, lsum_one]
          by_cases hb : b = true
          · simp only [hb, ↓reduceIte] at o5 ⊢
            grind
          · simp only [hb, ↓reduceIte] at o5 ⊢
            grind
      try wp_walk using RUN
      refine ite3 (fun _ => ?_) (fun _ => ?_)
      · have f2 : FB 1 (-1 : Rat) := by unfold FB; decide +kernel
        refine taken_ok fj fA (by omega) (by rw [List.length_map]; omega) ?_
        try wp_walk using RUN
        refine lrowsum_ok fd (FB_smul fj fA) (by omega) (by rw [List.length_map, List.length_map]; omega) (by omega) ?_
        try wp_walk using RUN
        refine ltimes_ok fj fB (by omega) ?_
        try wp_walk using RUN
        refine lplus_ok fe (fj.mul fB) (by omega) ?_
        try wp_walk using RUN, ea3
        rw [rm1]
        refine taken_ok f2 fA (by omega) (by rw [List.length_map]; omega) ?_
        try wp_walk using RUN
        refine back_ok ?_
        try wp_walk using RUN, ea3
        have fT : ∀ z ∈ smul (-1) (rati w.1.1), FB 50 z := fun z hz => (FB_smul f2 fA z hz).mono (by omega)
        refine taken_ok ft fT (by omega) (by rw [List.length_map, List.length_map]; omega) ?_
        try wp_walk using RUN
        refine ltimes_ok ft fB.neg (by omega) ?_
        try wp_walk using RUN
        refine lover_ok fj ft (by omega) t0 ?_
        rw [eu]
        try wp_walk using RUN
        have := fin true (some (.tup (intz w.1.1))) (some (.int w.1.2)) (some (fr w.2)) (some (fr t)) (some (row (smul (-1) (rati w.1.1)))) (some (fr (-(w.1.2 : Rat))))
        simp only [↓reduceIte] at this
        have es : sgn true w = ⟨smul (-1) (rati w.1.1), -(w.1.2 : Rat), w.2⟩ := tHg_eq w
        rw [es] at this
        exact this
      · try wp_walk using RUN, ea3
        refine taken_ok ft fA (by omega) (by rw [List.length_map]; omega) ?_
        try wp_walk using RUN, ea3
        refine ltimes_ok ft fB (by omega) ?_
        try wp_walk using RUN
        refine lover_ok fj ft (by omega) t0 ?_
        rw [eu]
        try wp_walk using RUN
        exact fin false _ _ _ _ _ _
end


/-! ### as many planes as hinges -/
section
variable {n : Nat} {hs hs2 : List Hg} {sa sa2 : List Rat} {sb sb2 : Rat} {R : Tb} {d : List Rat} {e : Rat}
theorem fold_own : ∀ {hs : List Hg} {s : NS}, (∀ h ∈ hs, ¬ isZ h.a = true) → (s.m.map (·.1) ++ hs.map plOf).Nodup → (hs.foldl nstep s).m = s.m ++ hs.map fun h => (plOf h, jmp h)
  | [], s, _, _ => (List.append_nil _).symm
  | h :: hs, s, z, nd => by
    have zh := z h List.mem_cons_self
    have hn : plOf h ∉ s.m.map (·.1) := fun q => by
      have := (List.nodup_append.mp nd).2.2 _ q _ (show plOf h ∈ (h :: hs).map plOf by simp)
      exact this rfl
    obtain ⟨p1, p2⟩ := put_new (x := aval (plOf h) s.m + jmp h) hn
    have em : (nstep s h).m = s.m ++ [(plOf h, jmp h)] := by
      unfold nstep
      rw [if_neg zh]
      show aput (plOf h) (aval (plOf h) s.m + jmp h) s.m = _
      rw [p1, p2, Rat.zero_add]
    have := fold_own (hs := hs) (s := nstep s h) (fun g hg => z g (List.mem_cons_of_mem _ hg)) (by
      rw [em, List.map_append, List.map_singleton, List.append_assoc]
      exact nd)
    show ((hs.foldl nstep (nstep s h))).m = _
    rw [this, em, List.append_assoc]
    rfl
theorem own_few (P : NP n hs sa sb R d e) (z : ∀ h ∈ hs, ¬ isZ h.a = true ∧ jmp h ≠ 0) (nd : (hs.map plOf).Nodup) : R.length = hs.length := by
  obtain ⟨ps, hp, _, rfl, _, _, nd2⟩ := P.ex
  have em : (nfold hs sa sb).m = hs.map fun h => (plOf h, jmp h) := fold_own (s := ⟨[], sa, sb⟩) (fun h hh => (z h hh).1) (by simpa using nd)
  have lp : ps.length = hs.length := by rw [hp.length_eq, List.length_map, em, List.length_map]
  unfold rowsA
  rw [List.filter_eq_self.mpr, List.length_map, lp]
  intro w hw
  obtain ⟨p, hp2, rfl⟩ := List.mem_map.mp hw
  obtain ⟨v, hv, rfl⟩ := List.mem_map.mp (hp.mem_iff.mp hp2)
  have ev : aval v.1 (nfold hs sa sb).m = v.2 := by
    show (aget v.1 (nfold hs sa sb).m).getD 0 = v.2
    rw [aget_of nd2 hv]; rfl
  refine decide_eq_true ?_
  show aval v.1 (nfold hs sa sb).m ≠ 0
  rw [ev]
  rw [em] at hv
  obtain ⟨h, hh, rfl⟩ := List.mem_map.mp hv
  exact (z h hh).2
/-- more hinges, the same sums -/
structure More (n : Nat) (hs : List Hg) (hs2 : List Hg) : Prop where
  c : ∀ h ∈ hs2, HC n MA 51 MC 64 h
  l : hs.length < hs2.length
  m : hs2.length ≤ hs.length + 2
  j : ∀ F, lsum (Jg F) hs2 = lsum (Jg F) hs
  d : ∀ x, lsum (Dg x) hs2 = lsum (Dg x) hs
  e : lsum Eg hs2 = lsum Eg hs
theorem zero_hg {a : List Rat} {b : Rat} : (∀ F, Jg F ⟨a, b, 0⟩ = 0) ∧ (∀ x, Dg x ⟨a, b, 0⟩ = 0) ∧ Eg ⟨a, b, 0⟩ = 0 := by
  have j0 : jmp ⟨a, b, 0⟩ = 0 := Rat.zero_mul _
  unfold Jg Dg Eg
  refine ⟨fun F => ?_, fun x => ?_, ?_⟩
  · split
    · rfl
    · rw [j0, Rat.zero_mul]
  · split
    · rfl
    · split
      · rw [j0]; grind
      · rfl
  · split
    · exact Rat.zero_mul _
    · split
      · rw [j0]; grind
      · rfl
theorem split_hg {a : List Rat} {b c1 c2 : Rat} : (∀ F, Jg F ⟨a, b, c1 + c2⟩ = Jg F ⟨a, b, c1⟩ + Jg F ⟨a, b, c2⟩) ∧ (∀ x, Dg x ⟨a, b, c1 + c2⟩ = Dg x ⟨a, b, c1⟩ + Dg x ⟨a, b, c2⟩) ∧ Eg ⟨a, b, c1 + c2⟩ = Eg ⟨a, b, c1⟩ + Eg ⟨a, b, c2⟩ := by
  have j0 : jmp ⟨a, b, c1 + c2⟩ = jmp ⟨a, b, c1⟩ + jmp ⟨a, b, c2⟩ := Rat.add_mul _ _ _
  unfold Jg Dg Eg
  simp only []
  refine ⟨fun F => ?_, fun x => ?_, ?_⟩
  · split
    · grind
    · rw [j0]
      show _ = jmp ⟨a, b, c1⟩ * F (plOf ⟨a, b, c1 + c2⟩) + jmp ⟨a, b, c2⟩ * F (plOf ⟨a, b, c1 + c2⟩)
      grind
  · split
    · grind
    · show (if (szOf ⟨a, b, c1 + c2⟩).num < 0 then _ else _) = (if (szOf ⟨a, b, c1 + c2⟩).num < 0 then _ else _) + (if (szOf ⟨a, b, c1 + c2⟩).num < 0 then _ else _)
      split
      · rw [j0]; grind
      · grind
  · split
    · grind
    · show (if (szOf ⟨a, b, c1 + c2⟩).num < 0 then _ else _) = (if (szOf ⟨a, b, c1 + c2⟩).num < 0 then _ else _) + (if (szOf ⟨a, b, c1 + c2⟩).num < 0 then _ else _)
      split
      · rw [j0]; grind
      · grind
theorem more_one {r : List Rat} {b : Rat} (H : ∀ h ∈ hs, HC n MA 51 MC 63 h) (hr : ∀ x ∈ r, CD 2 2 x) (lr : r.length = n) (hb : CD 2 2 b) : More n hs (hs ++ [⟨r, b, 0⟩]) := by
  obtain ⟨z1, z2, z3⟩ := zero_hg (a := r) (b := b)
  have dA : 2 ∣ MA := by decide
  refine ⟨fun h hh => ?_, by simp, by simp, fun F => by rw [lsum_app, lsum_one, z1, Rat.add_zero], fun x => by rw [lsum_app, lsum_one, z2, Rat.add_zero], by rw [lsum_app, lsum_one, z3, Rat.add_zero]⟩
  rcases List.mem_append.mp hh with q | q
  · have C := H h q
    exact ⟨C.a, C.len, C.b, C.c.mono (Nat.dvd_refl _) (by decide)⟩
  · rw [List.mem_singleton.mp q]
    exact ⟨fun x hx => (hr x hx).mono dA (by decide), lr, hb.mono dA (by decide), CD0⟩
theorem more_two {r : List Rat} {b c : Rat} (H : ∀ h ∈ hs, HC n MA 51 MC 63 h) (hr : ∀ x ∈ r, CD 2 2 x) (lr : r.length = n) (hb : CD 2 2 b) (hc : CD 1 2 c) : More n hs (hs ++ [⟨r, b, c⟩, ⟨r, b, -c⟩]) := by
  have dA : 2 ∣ MA := by decide
  have s1 : ∀ f : Hg → Rat, (f (negH ⟨r, b, c⟩) = -f ⟨r, b, c⟩) → lsum f (hs ++ [⟨r, b, c⟩, ⟨r, b, -c⟩]) = lsum f hs := fun f hf => by
    rw [lsum_app]
    show lsum f hs + (f ⟨r, b, c⟩ + (f (negH ⟨r, b, c⟩) + 0)) = _
    rw [hf]; grind
  refine ⟨fun h hh => ?_, by simp, by simp, fun F => s1 _ (Jg_neg F _), fun x => s1 _ (Dg_neg x _), s1 _ (Eg_neg _)⟩
  rcases List.mem_append.mp hh with q | q
  · have C := H h q
    exact ⟨C.a, C.len, C.b, C.c.mono (Nat.dvd_refl _) (by decide)⟩
  · simp only [List.mem_cons, List.not_mem_nil, or_false] at q
    rcases q with rfl | rfl
    · exact ⟨fun x hx => (hr x hx).mono dA (by decide), lr, hb.mono dA (by decide), hc.mono (Nat.one_dvd _) (by decide)⟩
    · exact ⟨fun x hx => (hr x hx).mono dA (by decide), lr, hb.mono dA (by decide), hc.neg.mono (Nat.one_dvd _) (by decide)⟩
theorem more_part {g : Hg} {t2 : List Hg} {c : Rat} (H : ∀ h ∈ g :: t2, HC n MA 51 MC 63 h) (hc : CD 2 2 c) : More n (g :: t2) ([⟨g.a, g.b, g.c + c⟩] ++ t2 ++ [⟨g.a, g.b, -c⟩]) := by
  have dC : 2 ∣ MC := by decide
  obtain ⟨z1, z2, z3⟩ := split_hg (a := g.a) (b := g.b) (c1 := g.c + c) (c2 := -c)
  have e1 : g.c + c + -c = g.c := by grind
  rw [e1] at z1 z2 z3
  have s1 : ∀ f : Hg → Rat, (f ⟨g.a, g.b, g.c⟩ = f ⟨g.a, g.b, g.c + c⟩ + f ⟨g.a, g.b, -c⟩) → lsum f ([⟨g.a, g.b, g.c + c⟩] ++ t2 ++ [⟨g.a, g.b, -c⟩]) = lsum f (g :: t2) := fun f hf => by
    rw [lsum_app, lsum_app, lsum_one, lsum_one]
    show _ = f ⟨g.a, g.b, g.c⟩ + lsum f t2
    rw [hf]; grind
  refine ⟨fun h hh => ?_, by simp, by simp, fun F => s1 _ (z1 F), fun x => s1 _ (z2 x), s1 _ z3⟩
  have G := H g List.mem_cons_self
  rcases List.mem_append.mp hh with q | q
  · rcases List.mem_append.mp q with q | q
    · rw [List.mem_singleton.mp q]
      exact ⟨G.a, G.len, G.b, G.c.add MC0 (hc.mono dC (by decide))⟩
    · have C := H h (List.mem_cons_of_mem _ q)
      exact ⟨C.a, C.len, C.b, C.c.mono (Nat.dvd_refl _) (by decide)⟩
  · rw [List.mem_singleton.mp q]
    exact ⟨G.a, G.len, G.b, hc.neg.mono dC (by decide)⟩
end


/-! ### walked -/
section
variable {k : Nat} {S : Sto} {Q : D → Sto → Prop} {n : Nat} {hs hs2 : List Hg} {sa sa2 : List Rat} {sb sb2 : Rat} {R R1 R2 : Tb} {d d1 d2 : List Rat} {e e1 e2 : Rat}
theorem fr3 : D.tup [.int 3, .int 1] = fr 3 := frE (by decide +kernel) (by decide +kernel)
theorem fr1 : D.tup [.int 1, .int 1] = fr 1 := frE (by decide +kernel) (by decide +kernel)
theorem fr2 : D.tup [.int 2, .int 1] = fr 2 := frE (by decide +kernel) (by decide +kernel)
theorem frh : D.tup [.int 1, .int 2] = fr (mkRat 1 2) := frE (by decide +kernel) (by decide +kernel)
theorem frm2 : D.tup [.int (-2), .int 1] = fr (-2) := frE (by decide +kernel) (by decide +kernel)
theorem frmh : D.tup [.int (-1), .int 2] = fr (-mkRat 1 2) := frE (by decide +kernel) (by decide +kernel)
theorem mul_zero_row {r : List Rat} : smul 0 r = List.replicate r.length 0 := by
  induction r with
  | nil => rfl
  | cons a r ih =>
    show 0 * a :: smul 0 r = _
    rw [ih, Rat.zero_mul]; rfl
theorem with_more_ok {p g : Addr} (hS : St p g S) (H : ∀ h ∈ hs, HC n MA 51 MC 63 h) (few : hs.length ≤ 5) (n6 : n ≤ 6) (h : ∀ hs2 S', More n hs hs2 → St p g S' → Q (netD (n : Int) hs2 sa sb) S') : Cl (k + 5) f__law_with_more [.ref p, netD (n : Int) hs sa sb] S Q := by
  refine ⟨_, rfl, rfl, ?_⟩
  wp_walk using RUN, b__law_with_more
  refine row_ok (q := 2) (L := 2) (bs := [1, 2]) hS (by decide) (by decide) (by decide) ⟨by decide, by decide, by decide⟩ (by omega) (by omega) fun r S1 lr fr' hS1 _ => ?_
  have lr : r.length = n := by omega
  have f0 : FB 1 (0 : Rat) := FB0
  try wp_walk using RUN
  rw [tup01]
  refine taken_ok f0 (fun x hx => (fr' x hx).1) (by omega) (by omega) ?_
  wp_walk using RUN, fr3, fr1, fr2, frh, frm2, List.length_map
  have tl : ∀ m : Nat, m ≤ 9 → hs.length + m ≤ LIM := fun m hm => by unfold LIM; omega
  have e1 : D.tup (hs.map hg ++ [D.tup [row (smul 0 r), fr 3, fr 0]]) = .tup ((hs ++ [Hg.mk (smul 0 r) 3 0]).map hg) := by rw [List.map_append]; rfl
  have e2 : D.tup (hs.map hg ++ [D.tup [row r, fr 1, fr 0]]) = .tup ((hs ++ [Hg.mk r 1 0]).map hg) := by rw [List.map_append]; rfl
  have e3 : D.tup (hs.map hg ++ [D.tup [row r, fr (mkRat 1 2), fr 2], D.tup [row r, fr (mkRat 1 2), fr (-2)]]) = .tup ((hs ++ [Hg.mk r (mkRat 1 2) 2, Hg.mk r (mkRat 1 2) (-2)]).map hg) := by rw [List.map_append]; rfl
  have zr : ∀ x ∈ smul 0 r, CD 2 2 x := fun x hx => by
    rw [mul_zero_row] at hx
    rw [List.eq_of_mem_replicate hx]; exact CD0
  have m1 : More n hs (hs ++ [Hg.mk (smul 0 r) 3 0]) := more_one H zr (by rw [List.length_map]; exact lr) ⟨by decide +kernel, by decide +kernel⟩
  have m2 : More n hs (hs ++ [Hg.mk r 1 0]) := more_one H (fun x hx => (fr' x hx).2) lr ⟨by decide +kernel, by decide +kernel⟩
  have m3 : More n hs (hs ++ [Hg.mk r (mkRat 1 2) 2, Hg.mk r (mkRat 1 2) (-2)]) := more_two H (fun x hx => (fr' x hx).2) lr ⟨by decide +kernel, by decide +kernel⟩ ⟨by decide +kernel, by decide +kernel⟩
  rw [e1, e2, e3]
  have tt1 : hs.length + 1 ≤ LIM := tl 1 (by omega)
  have tt2 : hs.length + 2 ≤ LIM := tl 2 (by omega)
  simp only [tt1, tt2, true_and]
  have end3 : ∀ dd ∈ [D.tup ((hs ++ [Hg.mk (smul 0 r) 3 0]).map hg), .tup ((hs ++ [Hg.mk r 1 0]).map hg), .tup ((hs ++ [Hg.mk r (mkRat 1 2) 2, Hg.mk r (mkRat 1 2) (-2)]).map hg)], ∃ hs2, More n hs hs2 ∧ dd = .tup (hs2.map hg) := fun dd hd => by
    simp only [List.mem_cons, List.not_mem_nil, or_false] at hd
    rcases hd with rfl | rfl | rfl
    · exact ⟨_, m1, rfl⟩
    · exact ⟨_, m2, rfl⟩
    · exact ⟨_, m3, rfl⟩
  have plH : Pl 5 (.tup (hs.map hg)) := .tup 4 _ (fun y hy => by
    obtain ⟨w, hw, rfl⟩ := List.mem_map.mp hy
    exact pl_hg w (by have := (H w hw).len; omega)) (by rw [List.length_map]; omega)
  have plN : Pl 5 (.tup []) := .tup 4 _ (fun y hy => nomatch hy) (by simp)
  refine ne_tup (b := hs.isEmpty) plH plN (by decide) (by decide) ?_ ?_
  · cases hs with
    | nil => simp
    | cons a l => simp
  try wp_walk using RUN
  refine ite3 (fun q => ?_) (fun q => ?_)
  · cases hs with
    | nil => simp at q
    | cons w t2 =>
      have W := H w List.mem_cons_self
      have fwc : FB 115 w.c := W.c.fb MC0 MC1
      have i0 : ∀ (S : Sto) (k : D → Prop), dIx S (.tup ((w :: t2).map hg)) (.int 0) k = k (hg w) := fun S k => DL.ix0
      have c1' : cutD ((w :: t2).map hg) (some 1) none = t2.map hg := by rw [List.map_cons]; exact cut1
      wp_walk using RUN, i0, bThg, c1', frmh, frh
      refine lplus_ok fwc (C := 3) (by unfold FB; decide +kernel) (by omega) ?_
      wp_walk using RUN, frmh, frh, List.length_map, List.length_append
      have lt : t2.length ≤ 4 := by simpa using few
      refine ⟨by unfold LIM; omega, by unfold LIM; omega, ?_⟩
      have e4 : t2.map hg ++ [D.tup [row w.a, fr w.b, fr (-mkRat 1 2)]] = (t2 ++ [Hg.mk w.a w.b (-mkRat 1 2)]).map hg := by rw [List.map_append]; rfl
      rw [e4]
      have m4 := more_part (g := w) (t2 := t2) (c := mkRat 1 2) H ⟨by decide +kernel, by decide +kernel⟩
      refine pick_okL hS1 (by simp) fun dd S2 hd hS2 _ => ?_
      have : ∃ hs2, More n (w :: t2) hs2 ∧ dd = .tup (hs2.map hg) := by
        simp only [List.mem_cons, List.not_mem_nil, or_false] at hd
        rcases hd with rfl | rfl | rfl | rfl
        · exact ⟨_, m1, rfl⟩
        · exact ⟨_, m2, rfl⟩
        · exact ⟨_, m3, rfl⟩
        · exact ⟨_, m4, rfl⟩
      obtain ⟨hs2, M2, rfl⟩ := this
      try wp_walk using RUN
      exact .same (h hs2 S2 M2 hS2)
  · refine pick_okL hS1 (by simp) fun dd S2 hd hS2 _ => ?_
    obtain ⟨hs2, M2, rfl⟩ := end3 dd hd
    try wp_walk using RUN
    exact .same (h hs2 S2 M2 hS2)
theorem lis_int_ok {i : Int} (h : Q (.bl true) S) : Cl (k + 1) f__law_is_int [.int i] S Q := by
  refine ⟨_, rfl, rfl, ?_⟩
  wp_walk using RUN, b__law_is_int
  exact .same h
theorem lis_fraction_ok {x : Rat} {B : Nat} (hx : FB B x) (hB : B < 4997) (h : Q (.bl true) S) : Cl (k + 3) f__law_is_fraction [fr x] S Q := by
  have hp := x.den_pos
  refine ⟨_, rfl, rfl, ?_⟩
  have i1 : ∀ (S : Sto) (k : Bool → Prop), dIsi S (fr x) .tuple k = k true := fun _ _ => rfl
  have i2 : ∀ (S : Sto) (K : D → Sto → Prop), dBi .len [fr x] S K = K (.int 2) S := fun _ _ => rfl
  wp_walk using RUN, b__law_is_fraction, i1, i2
  refine ite3 (fun q => by simp at q) fun _ => ?_
  try wp_walk using RUN
  refine lis_int_ok ?_
  try wp_walk using RUN
  refine lis_int_ok ?_
  try wp_walk using RUN
  refine ite3 (fun q => by simp at q) fun _ => ?_
  try wp_walk using RUN
  refine ite3 (fun q => by omega) fun _ => ?_
  refine lfr_ok hx.1 (by rw [Int.natAbs_natCast]; exact hx.2) hB (den_ne x) ?_
  rw [Rat.num_divInt_den]
  refine eq_tup (b := true) (pl_fr x) (pl_fr x) (by decide) (by decide) ⟨fun _ => rfl, fun _ => rfl⟩ ?_
  exact .same h
theorem lis_row_ok {r : List Rat} {B : Nat} (hr : ∀ x ∈ r, FB B x) (hB : B < 4997) (hl : r.length = n) (l6 : n ≤ 6) (h : Q (.bl true) S) : Cl (k + 4) f__law_is_row [row r, .int (n : Nat)] S Q := by
  refine ⟨_, rfl, rfl, ?_⟩
  wp_walk using RUN, b__law_is_row, List.length_map, hl
  refine loopC_ind (fun xs acc S' => S' = S ∧ acc = [] ∧ ∃ r' : List Rat, xs = r'.map fr ∧ ∀ x ∈ r', FB B x) ⟨rfl, rfl, r, rfl, hr⟩ ?_ ?_
  · rintro acc S' ⟨rfl, rfl, r', e, _⟩
    try wp_walk using RUN
    refine eq_nilL (n := 2) (fun d hd => nomatch hd) (by omega) ?_
    exact .same h
  · rintro y ys next ih acc S' ⟨rfl, rfl, r', e, g⟩
    cases r' with
    | nil => cases e
    | cons a r' =>
      cases e
      wp_walk using RUN
      refine ⟨by unfold LIM; simp, lis_fraction_ok (g a List.mem_cons_self) hB ?_⟩
      try wp_walk using RUN
      have := ih [] S' ⟨rfl, rfl, r', rfl, fun x hx => g x (List.mem_cons_of_mem _ hx)⟩
      simpa using this
end


/-! ### worth at a point -/
section
variable {k : Nat} {S : Sto} {Q : D → Sto → Prop} {n : Nat} {hs hs2 : List Hg} {sa sa2 : List Rat} {sb sb2 : Rat} {R R1 R2 : Tb} {d d1 d2 : List Rat} {e e1 e2 : Rat}
theorem worth_ok {ni : Int} {x : List Rat} (N : GN n hs sa sb) (F : Far n x) (h : Q (fr (ansR hs sa sb x)) S) : Cl (k + 5) f__law_worth [netD ni hs sa sb, row x] S Q := by
  obtain ⟨xl, V, V0, V1, cx⟩ := F
  have few := N.few
  have n6 := N.n6
  have sl := N.sl
  obtain ⟨fa, fb⟩ := N.fa
  have hx : ∀ a ∈ x, FB 499 a := fun a ha => (cx a ha).fb V0 V1
  have W0 : 0 < MC * (MA * V) := Nat.mul_pos MC0 (Nat.mul_pos MA0 V0)
  have A0 : 0 < MA * V := Nat.mul_pos MA0 V0
  have A1 : MA * V < 2 ^ (35 + 351) := lt_pow_mul MA1 V1
  have W1 : MC * (MA * V) < 2 ^ (52 + (35 + 351)) := lt_pow_mul MC1 A1
  have B0 : 0 < MM * V := Nat.mul_pos MM0 V0
  have B1 : MM * V < 2 ^ (48 + 351) := lt_pow_mul MM1 V1
  have dd : MM * V ∣ MC * (MA * V) := Nat.mul_dvd_mul MMC (Nat.dvd_mul_left _ _)
  have up : ∀ {k k' : Nat} {x : Rat}, CD (MC * (MA * V)) k x → k ≤ k' → CD (MC * (MA * V)) k' x := fun hx l => hx.mono (Nat.dvd_refl _) l
  have cs : CD (MM * V) 261 (dotR sa x) := (dot_cd' MM0 V0 N.a cx).mono (Nat.dvd_refl _) (by omega)
  have cs0 : CD (MC * (MA * V)) 270 (dotR sa x + sb) := (cs.add B0 (N.b.mono (Nat.dvd_mul_right _ _) (by decide))).mono dd (by decide)
  have fds : FB 700 (dotR sa x) := (cs.fb B0 B1).mono (by decide)
  have fm : ∀ {k : Nat} {x : Rat}, CD (MC * (MA * V)) k x → k ≤ 300 → FB 800 x := fun hx hk => (hx.fb W0 W1).mono (by omega)
  have m7 : (155 + 499 + 1) * (n + 1) ≤ 4585 := by have := Nat.mul_le_mul_left (155 + 499 + 1) (Nat.succ_le_succ n6); omega
  have m8 : (87 + 499 + 1) * (n + 1) ≤ 4585 := by have := Nat.mul_le_mul_left (87 + 499 + 1) (Nat.succ_le_succ n6); omega
  refine ⟨_, rfl, rfl, ?_⟩
  wp_walk using RUN, b__law_worth
  refine ldot_ok fa hx (by rw [sl]; omega) (by omega) (by omega) ?_
  try wp_walk using RUN
  refine lplus_ok fds fb (by omega) ?_
  try wp_walk using RUN
  refine loopF_ind (fun xs ρ S' => S' = S ∧ ∃ (hs' : List Hg) (i : Nat) (t : Rat) (u v z q : Option D), xs = hs'.map hg ∧ (∀ h ∈ hs', h ∈ hs) ∧ t + sumH x hs' = dotR sa x + sb + sumH x hs ∧ i + hs'.length = hs.length ∧ CD (MC * (MA * V)) (270 + i) t ∧
    ρ = [some (netD ni hs sa sb), some (row x), some (fr t), u, v, z, q]) ?_ ?_ ?_
  · exact ⟨rfl, hs, 0, _, none, none, none, none, rfl, fun _ h => h, rfl, by omega, cs0, rfl⟩
  · rintro ρ S' ⟨rfl, hs', i, t, u, v, z, q, e, _, e2, _, _, rfl⟩
    cases hs' with
    | cons a r => cases e
    | nil =>
      have e3 : t = dotR sa x + sb + sumH x hs := by rw [← e2]; exact (Rat.add_zero t).symm
      subst e3
      try wp_walk using RUN
      exact .same h
  · rintro y xs next ih ρ S' ⟨rfl, hs', i, t, u, v, z, q, e, g, e2, hi, ct, rfl⟩
    cases hs' with
    | nil => cases e
    | cons a r =>
      cases e
      rw [List.length_cons] at hi
      have ha := g a List.mem_cons_self
      have A := N.hf a ha
      have C := N.h a ha
      have ca : CD (MA * V) 205 (dotR a.a x) := (dot_cd' MA0 V0 C.a cx).mono (Nat.dvd_refl _) (by have := C.len; omega)
      have fda : FB 700 (dotR a.a x) := (ca.fb A0 A1).mono (by decide)
      have ch : CD (MA * V) 206 (high x a) := ca.add A0 (C.b.mono (Nat.dvd_mul_right _ _) (by decide))
      have fh : FB 700 (high x a) := (ch.fb A0 A1).mono (by decide)
      have cp : CD (MC * (MA * V)) (270 + i) (a.c * cut (high x a)) := up (C.c.mul (CD_cut ch)) (by omega)
      have next' : ∀ u v z q, next [some (netD ni hs sa sb), some (row x), some (fr (t + a.c * cut (high x a))), u, v, z, q] S' := fun u v z q => by
        refine ih _ _ ⟨rfl, r, i + 1, t + a.c * cut (high x a), _, _, _, _, rfl, fun h q => g h (List.mem_cons_of_mem _ q), ?_, by omega, ct.add W0 cp, rfl⟩
        rw [← e2, Rat.add_assoc]
        rfl
      wp_walk using RUN, hg
      refine ldot_ok A.a hx (by rw [A.len]; omega) (by rw [A.len]; omega) (by rw [A.len]; omega) ?_
      try wp_walk using RUN
      refine lplus_ok fda A.b (by omega) ?_
      try wp_walk using RUN
      refine ite3 (fun q => ?_) (fun q => ?_)
      · have ec : cut (high x a) = high x a := if_pos q
        rw [ec] at next' cp
        refine ltimes_ok A.c fh (by omega) ?_
        try wp_walk using RUN
        refine lplus_ok (fm ct (by omega)) (fm cp (by omega)) (by omega) ?_
        try wp_walk using RUN
        exact next' _ _ _ _
      · have ec : cut (high x a) = 0 := if_neg q
        rw [ec, Rat.mul_zero, Rat.add_zero] at next'
        exact next' _ _ _ _
/-! ### parted -/
theorem are_parted_ok {p g : Addr} (hS : St p g S) (n1 : 1 ≤ n) (G1 : GN n hs sa sb) (G2 : GN n hs2 sa2 sb2) (P1 : NP n hs sa sb R1 d1 e1) (P2 : NP n hs2 sa2 sb2 R2 d2 e2) (ne : ¬ (R1 = R2 ∧ d1 = d2 ∧ e1 = e2)) (h : ∀ S', St p g S' → Q (.bl true) S') :
    Cl (k + 10) f__law_are_parted [.ref p, netD (n : Int) hs sa sb, netD (n : Int) hs2 sa2 sb2] S Q := by
  have n6 := G1.n6
  refine ⟨_, rfl, rfl, ?_⟩
  wp_walk using RUN, b__law_are_parted
  refine alike_no G1 G2 n1 P1 P2 ne fun x F hne => ?_
  have xl := F.1
  have fx : ∀ a ∈ x, FB 499 a := by obtain ⟨_, V, V0, V1, cx⟩ := F; exact fun a ha => (cx a ha).fb V0 V1
  try wp_walk using RUN
  refine ite3 (fun q => by simp at q) fun _ => ?_
  try wp_walk using RUN
  refine ite3 (fun q => by simp at q) fun _ => ?_
  refine same_okM (k := k + 8) (n := 1) (.str 0 _) ?_
  try wp_walk using RUN
  refine lis_row_ok fx (by decide) xl n6 ?_
  try wp_walk using RUN
  refine ite3 (fun q => by simp at q) fun _ => ?_
  refine worth_ok G1 F ?_
  try wp_walk using RUN
  refine worth_ok G2 F ?_
  refine eq_tup (b := false) (pl_fr _) (pl_fr _) (by decide) (by decide) ⟨(fun q => nomatch q), fun q => absurd (fr_inj q) hne⟩ ?_
  try wp_walk using RUN
  refine row_ok (q := 3) (L := 2) (bs := [1, 2]) hS (by decide) (by decide) (by decide) ⟨by decide, by decide, by decide⟩ (by omega) (by omega) fun y S1 ly fy hS1 _ => ?_
  have ly : y.length = n := by omega
  have Fy : Far n y := ⟨ly, 2, by decide, by decide, fun a ha => (fy a ha).2.mono (Nat.dvd_refl _) (by decide)⟩
  try wp_walk using RUN
  refine worth_ok G1 Fy ?_
  try wp_walk using RUN
  refine worth_ok G2 Fy ?_
  refine ne_tup (b := decide (ansR hs sa sb y = ansR hs2 sa2 sb2 y)) (pl_fr _) (pl_fr _) (by decide) (by decide) ⟨fun q => by rw [of_decide_eq_true q], fun q => decide_eq_true (fr_inj q)⟩ ?_
  try wp_walk using RUN
  refine judge_point (k := k) (X := 499) G1 G2 xl fx (by decide) ?_
  rw [decide_eq_false hne]
  try wp_walk using RUN
  refine ⟨_, _, _, rfl, judge_word (k := k) (b := false) G1 G2 n1 P1 P2 ⟨(fun q => nomatch q), fun q => absurd q ne⟩ ?_⟩
  try wp_walk using RUN
  refine judge_point (k := k) (X := 20) G1 G2 ly (fun a ha => (fy a ha).1) (by decide) ?_
  try wp_walk using RUN
  refine same_okM (k := k + 7) (n := 2) (pm_3 (.bl 0 _) (.bl 0 _) (.bl 0 _)) ?_
  exact .same (h _ hS1)
end


/-! ### one net -/
theorem turn_cdG {M K kj N : Nat} {lot : List Int} {n : Nat} (M0 : 0 < M) (hk : kj + N ≤ K) : ∀ {i : Nat} {R : Tb} {d : List Rat} {e : Rat} {j : Nat}, (∀ w ∈ R, CD M kj w.2 ∧ w.1.1.length = n ∧ (∀ z ∈ w.1.1, z.natAbs < 2 ^ N) ∧ w.1.2.natAbs < 2 ^ N) → (∀ x ∈ d, CD M (K + j) x) → CD M (K + j) e → d.length = n →
    (∀ x ∈ tD lot i R d, CD M (K + (j + R.length)) x) ∧ CD M (K + (j + R.length)) (tE lot i R e) ∧ (tD lot i R d).length = n
  | i, [], d, e, j, _, hd, he, dl => ⟨hd, he, dl⟩
  | i, w :: r, d, e, j, P, hd, he, dl => by
    obtain ⟨a, b, c, dd⟩ := P w List.mem_cons_self
    have P' := fun z hz => P z (List.mem_cons_of_mem _ hz)
    have up : ∀ {k k' : Nat} {x : Rat}, CD M k x → k ≤ k' → CD M k' x := fun hx l => hx.mono (Nat.dvd_refl _) l
    have u1 : kj + N ≤ K + j := by omega
    have u2 : K + j ≤ K + (j + 1) := by omega
    have e1 : K + (j + (w :: r).length) = K + ((j + 1) + r.length) := by rw [List.length_cons]; omega
    rw [e1]
    show (∀ x ∈ tD lot (i + 1) r (if (i : Int) ∈ lot then addR d (smul w.2 (rati w.1.1)) else d), _) ∧ CD M _ (tE lot (i + 1) r (if (i : Int) ∈ lot then e + w.2 * (w.1.2 : Rat) else e)) ∧ (tD lot (i + 1) r (if (i : Int) ∈ lot then addR d (smul w.2 (rati w.1.1)) else d)).length = n
    by_cases q : (i : Int) ∈ lot
    · simp only [q, ↓reduceIte]
      refine turn_cdG M0 hk (j := j + 1) P' ?_ ?_ (by rw [addR_len (by rw [List.length_map, List.length_map]; omega)]; exact dl)
      · refine CD_addR M0 hd fun x hx => ?_
        obtain ⟨y, hy, rfl⟩ := List.mem_map.mp hx
        obtain ⟨z, hz, rfl⟩ := List.mem_map.mp hy
        have := a.mul (CD_int (c z hz))
        rw [Nat.mul_one] at this
        exact up this u1
      · have := a.mul (CD_int dd)
        rw [Nat.mul_one] at this
        exact he.add M0 (up this u1)
    · simp only [q, ↓reduceIte]
      exact turn_cdG M0 hk (j := j + 1) P' (fun x hx => up (hd x hx) u2) (up he u2) dl
section
variable {n : Nat} {hs hs2 hs3 : List Hg} {sa sa2 : List Rat} {sb sb2 : Rat} {R : Tb} {d : List Rat} {e : Rat}
theorem Oth.gn (O : Oth n R d e hs2 sa2 sb2) (B : RB n R d e) (n6 : n ≤ 6) : GN n hs2 sa2 sb2 := by
  have few := B.few
  have lo := O.len
  exact ⟨fun h hh => let C := (O.own h hh).c; ⟨C.a, C.len, C.b, C.c.mono (Nat.dvd_refl _) (by decide)⟩, by omega, O.sl, fun x hx => (O.a x hx).mono (Nat.dvd_refl _) (by decide), O.b.mono (Nat.dvd_refl _) (by decide), n6⟩
theorem Oth.np (O : Oth n R d e hs2 sa2 sb2) (B : RB n R d e) (G : GN n hs sa sb) (P : NP n hs sa sb R d e) : NP n hs2 sa2 sb2 R d e :=
  np_alk (alk_of P G (fun h hh => (O.own h hh).c.len) O.sl O.j O.d O.e) P (O.gn B G.n6)
theorem big_gn (O : Oth n R d e hs2 sa2 sb2) (B : RB n R d e) (n6 : n ≤ 6) (M : More n hs2 hs3) : GN n hs3 sa2 sb2 := by
  have few := B.few
  have lo := O.len
  have := M.m
  have G := O.gn B n6
  exact ⟨M.c, by omega, G.sl, G.a, G.b, n6⟩
theorem big_np (O : Oth n R d e hs2 sa2 sb2) (B : RB n R d e) (G : GN n hs sa sb) (P : NP n hs sa sb R d e) (M : More n hs2 hs3) : NP n hs3 sa2 sb2 R d e :=
  np_alk (alk_of P G (fun h hh => (M.c h hh).len) O.sl (fun F => (M.j F).trans (O.j F)) (fun x => by rw [M.d]; exact O.d x) (by rw [M.e]; exact O.e)) P (big_gn O B G.n6 M)
theorem turn_gn (B : RB n R d e) (n6 : n ≤ 6) (lot : List Int) : GN n (tH lot 0 R) (tD lot 0 R d) (tE lot 0 R e) := by
  have few := B.few
  obtain ⟨t1, t2, t3⟩ := turn_cdG (lot := lot) (i := 0) (j := 0) (K := 101) MM0 (by decide) B.v B.d B.e B.dl
  have up : ∀ {k k' : Nat} {x : Rat}, CD MM k x → k ≤ k' → CD MM k' x := fun hx l => hx.mono (Nat.dvd_refl _) l
  refine ⟨fun h hh => ?_, by rw [tH_len]; omega, t3, fun x hx => up (t1 x hx) (by omega), up t2 (by omega), n6⟩
  obtain ⟨w, hw, q⟩ := tH_mem hh
  obtain ⟨v1, v2, v3, v4⟩ := B.v w hw
  rcases q with rfl | rfl
  · refine ⟨fun x hx => ?_, by show (rati w.1.1).length = n; rw [List.length_map]; exact v2, (CD_int v4).mono (Nat.one_dvd _) (by decide), v1.mono MMC (by decide)⟩
    obtain ⟨z, hz, rfl⟩ := List.mem_map.mp hx
    exact (CD_int (v3 z hz)).mono (Nat.one_dvd _) (by decide)
  · refine ⟨fun x hx => ?_, by show (rati (negz w.1.1)).length = n; rw [List.length_map, List.length_map]; exact v2, (CD_int (by rw [Int.natAbs_neg]; exact v4)).mono (Nat.one_dvd _) (by decide), v1.mono MMC (by decide)⟩
    obtain ⟨z, hz, rfl⟩ := List.mem_map.mp hx
    obtain ⟨y, hy, rfl⟩ := List.mem_map.mp hz
    exact (CD_int (by rw [Int.natAbs_neg]; exact v3 y hy)).mono (Nat.one_dvd _) (by decide)
theorem turn_np (B : RB n R d e) (G : GN n hs sa sb) (P : NP n hs sa sb R d e) (lot : List Int) : NP n (tH lot 0 R) (tD lot 0 R d) (tE lot 0 R e) R d e := by
  have T := turn_gn B G.n6 lot
  refine np_alk ?_ P T
  have wl : ∀ w ∈ R, w.1.1.length = n := fun w hw => (B.v w hw).2.1
  obtain ⟨ps, hp, h1, rfl, rfl, rfl, nd⟩ := P.ex
  exact alk_turned lot (fun h hh => (G.h h hh).len) G.sl nd hp wl
theorem cut_at {xs : List Hg} {i : Nat} : (cutD (xs.map hg) none (some (i : Int))) ++ (cutD (xs.map hg) (some ((i : Int) + 1)) none) = (xs.take i ++ xs.drop (i + 1)).map hg := by
  rw [cut_hi (by omega), cut_lo (by omega), Int.toNat_natCast, show ((i : Int) + 1).toNat = i + 1 by omega, List.map_append, List.map_take, List.map_drop]
theorem sub_at {α : Type} (xs : List α) (i : Nat) : (xs.take i ++ xs.drop (i + 1)).Sublist xs := by
  have h1 : (xs.take i ++ xs.drop (i + 1)).Sublist (xs.take i ++ xs.drop i) := List.Sublist.append_left (by
    rw [show xs.drop (i + 1) = (xs.drop i).drop 1 by rw [List.drop_drop]]
    exact List.drop_sublist _ _) _
  rw [List.take_append_drop] at h1
  exact h1
end
theorem pm_4 {n : Nat} {a b c f : D} (h1 : Pm n a) (h2 : Pm n b) (h3 : Pm n c) (h4 : Pm n f) : Pm (n + 1) (.tup [a, b, c, f]) := .tup n _ (fun d hd => by
  simp only [List.mem_cons, List.not_mem_nil, or_false] at hd
  rcases hd with rfl | rfl | rfl | rfl
  · exact h1
  · exact h2
  · exact h3
  · exact h4) (by simp)
theorem pm_al : Pm 2 (.tup [.str "alike"]) := .tup 1 _ (fun d hd => by rw [List.mem_singleton.mp hd]; exact .str 0 _) (by simp)
section
variable {k : Nat} {S : Sto} {Q : D → Sto → Prop} {n : Nat} {hs hs2 : List Hg} {sa sa2 : List Rat} {sb sb2 : Rat}
theorem is_right_ok {p g : Addr} (hS : St p g S) (G : G0 n hs sa sb) (n1 : 1 ≤ n) (h : ∀ S', St p g S' → Q (.bl true) S') : Cl (k + 11) f__law_is_right [.ref p, netD (n : Int) hs sa sb] S Q := by
  have n6 := G.n6
  have GG := G.gn
  obtain ⟨R, d, e, P⟩ := np_ex GG
  have B := G.rb P
  have few := B.few
  have T0 := turn_np B GG P []
  have TG0 := turn_gn B n6 []
  rw [tH_nil, tD_nil, tE_nil] at T0 TG0
  have hl : ∀ w ∈ R, w.1.1.length ≤ 1000 := fun w hw => by have := (B.v w hw).2.1; omega
  have pM : Pl 6 (netD (n : Int) (R.map hgOf) d e) := pl_net (by rw [List.length_map]; omega) (fun h hh => by have := (TG0.h h hh).len; omega) (by have := B.dl; omega)
  refine ⟨_, rfl, rfl, ?_⟩
  wp_walk using RUN, b__law_is_right
  refine P.m.pl ?_
  wp_walk using RUN, List.length_map
  refine ⟨by unfold RngOk; omega, ?_⟩
  refine loopC_ind (fun ys acc S' => ∃ (l : List Int) (i : Int), acc = intz l ∧ l.length + ys.length ≤ 5 ∧ St p g S' ∧ ys = rangeD i R.length) ⟨[], 0, rfl, by rw [rangeD_len]; simp; omega, hS, rfl⟩ ?_ ?_
  · rintro acc S1 ⟨lot, _, rfl, _, hS1, _⟩
    refine ⟨trivial, ?_⟩
    try wp_walk using RUN
    refine ⟨by unfold RngOk; omega, ?_⟩
    have TG := turn_gn B n6 lot
    have TP := turn_np B GG P lot
    have pO : Pl 6 (netD (n : Int) (tH lot 0 R) (tD lot 0 R d) (tE lot 0 R e)) := pl_net (by rw [tH_len]; omega) (fun h hh => by have := (TG.h h hh).len; omega) (by have := TG.sl; omega)
    refine loopF_ind (fun xs ρ S' => St p g S' ∧ ∃ (i : Int) (u3 u5 u6 u7 u8 : Option D), xs = rangeD i 2 ∧ ρ = [some (.ref p), some (netD (n : Int) hs sa sb), some (pairD R d e), u3, some (lotD lot), u5, u6, u7, u8, none]) ?_ ?_ ?_
    · exact ⟨hS1, 0, _, _, _, _, _, rfl, rfl⟩
    · rintro ρ S' ⟨hS', i, u3, u5, u6, u7, u8, _, rfl⟩
      refine ⟨trivial, ?_⟩
      try wp_walk using RUN
      exact .same (h _ hS')
    · rintro y xs next ih ρ S' ⟨hS', i, u3, u5, u6, u7, u8, ex, rfl⟩
      by_cases q : i < 2
      · rw [rangeD_cons q] at ex
        cases ex
        wp_walk using RUN
        refine other_ok hS' P B n6 fun hs2 sa2 sb2 S2 O hS2 => ?_
        have GO := O.gn B n6
        have PO := O.np B GG P
        have lo := O.len
        try wp_walk using RUN
        refine PO.m.pl ?_
        try wp_walk using RUN
        refine ne_same P.D (by decide) ?_
        try wp_walk using RUN
        refine PO.m.pn ?_
        try wp_walk using RUN
        refine ⟨_, _, _, rfl, P.m.pn ?_⟩
        try wp_walk using RUN
        refine same_okM (k := k + 4) (pm_of (pl_pair P.D P.D)) ?_
        try wp_walk using RUN
        -- alike, judged
        refine is_least_ok PO.m ?_
        rw [show decide ((hs2.length : Int) = (R.length : Int)) = true from decide_eq_true (by omega)]
        try wp_walk using RUN
        refine alike_yes GG GO n1 P PO ?_
        try wp_walk using RUN
        refine ⟨_, _, _, rfl, alike_yes GO GG n1 PO P ?_⟩
        try wp_walk using RUN
        refine judge_word (b := true) GG GO n1 P PO ⟨fun _ => ⟨rfl, rfl, rfl⟩, fun _ => rfl⟩ ?_
        try wp_walk using RUN
        refine same_okM (k := k + 7) (n := 3) (pm_4 (.bl 1 _) pm_al pm_al (.bl 1 _)) ?_
        try wp_walk using RUN
        -- least, turned
        refine least_ok PO.m B.nq n6 ?_
        try wp_walk using RUN
        refine turned_ok PO.m B.nq n6 ?_
        try wp_walk using RUN
        refine ⟨_, _, _, rfl, least_ok P.m B.nq n6 ?_⟩
        try wp_walk using RUN
        refine ⟨_, _, _, rfl, turned_ok P.m B.nq n6 ?_⟩
        try wp_walk using RUN
        refine same_okM (k := k + 3) (n := 7) (pm_2 (pm_of pM) (pm_of pO)) ?_
        try wp_walk using RUN
        refine turned_ok PO.m B.nq n6 ?_
        try wp_walk using RUN
        refine alike_yes TG GG n1 TP P ?_
        try wp_walk using RUN
        refine least_ok PO.m B.nq n6 ?_
        try wp_walk using RUN
        refine ⟨_, _, _, rfl, alike_yes GG TG0 n1 P T0 ?_⟩
        try wp_walk using RUN
        refine same_okM (k := k + 7) (n := 3) (pm_2 pm_al pm_al) ?_
        try wp_walk using RUN
        -- more
        refine with_more_ok hS2 (fun h hh => (O.own h hh).c) (by omega) n6 fun hs3 S3 M hS3 => ?_
        have GB := big_gn O B n6 M
        have PB := big_np O B GG P M
        have lM := M.l
        try wp_walk using RUN
        refine ⟨_, _, _, rfl, is_least_ok PB.m ?_⟩
        rw [show decide ((hs3.length : Int) = (R.length : Int)) = false from decide_eq_false (by omega)]
        try wp_walk using RUN
        refine alike_yes GB GG n1 PB P ?_
        try wp_walk using RUN
        refine same_okM (k := k + 7) (n := 3) (pm_2 (.bl 1 _) pm_al) ?_
        wp_walk using RUN, List.length_map
        refine ⟨by unfold RngOk; omega, ?_⟩
        refine loopF_ind (fun xs ρ S' => St p g S' ∧ ∃ (j : Nat) (u3 u8 : Option D), xs = rangeD j hs2.length ∧ ρ = [some (.ref p), some (netD (n : Int) hs sa sb), some (pairD R d e), u3, some (lotD lot), some (.int i), some (netD (n : Int) hs2 sa2 sb2), some (netD (n : Int) hs3 sa2 sb2), u8, none]) ?_ ?_ ?_
        · exact ⟨hS3, 0, _, _, rfl, rfl⟩
        · rintro ρ S' ⟨hS', j, u3, u8, _, rfl⟩
          refine ⟨trivial, ?_⟩
          try wp_walk using RUN
          exact ih _ _ ⟨hS', i + 1, _, _, _, _, _, rfl, rfl⟩
        · rintro y ys nxt ih3 ρ S' ⟨hS', j, u3, u8, ey, rfl⟩
          by_cases qj : (j : Int) < (hs2.length : Int)
          · rw [rangeD_cons qj] at ey
            cases ey
            wp_walk using RUN
            rw [cut_at]
            have hj : j < hs2.length := by omega
            have el : (hs2.take j ++ hs2.drop (j + 1)).length = hs2.length - 1 := by rw [List.length_append, List.length_take, List.length_drop]; omega
            have lim2 : (cutD (hs2.map hg) none (some (j : Int))).length + (cutD (hs2.map hg) (some ((j : Int) + 1)) none).length ≤ LIM := by
              rw [← List.length_append, cut_at, List.length_map, el]; unfold LIM; omega
            refine ⟨lim2, ?_⟩
            have sb4 := sub_at hs2 j
            have own4 : ∀ h ∈ hs2.take j ++ hs2.drop (j + 1), Own n h := fun h hh => O.own h (sb4.subset hh)
            have nd4 : ((hs2.take j ++ hs2.drop (j + 1)).map plOf).Nodup := O.nd.sublist (sb4.map plOf)
            generalize hs2.take j ++ hs2.drop (j + 1) = hs4 at *
            refine row_ok (q := 3) (L := 2) (bs := [1, 2]) hS' (by decide) (by decide) (by decide) ⟨by decide, by decide, by decide⟩ (by omega) (by omega) fun r S4 lr fr' hS4 _ => ?_
            have lr : r.length = n := by omega
            try wp_walk using RUN
            rw [tup01]
            refine pick_okL hS4 (by simp) fun dd S5 hd hS5 _ => ?_
            have : ∃ s t, dd = str s t ∧ s.length = n ∧ (∀ x ∈ s, CD MM 107 x) ∧ CD MM 107 t := by
              simp only [List.mem_cons, List.not_mem_nil, or_false] at hd
              have up : ∀ {k k' : Nat} {x : Rat}, CD MM k x → k ≤ k' → CD MM k' x := fun hx l => hx.mono (Nat.dvd_refl _) l
              rcases hd with rfl | rfl | rfl
              · exact ⟨sa2, sb2, rfl, O.sl, fun x hx => up (O.a x hx) (by decide), up O.b (by decide)⟩
              · exact ⟨d, e, rfl, B.dl, fun x hx => up (B.d x hx) (by decide), up B.e (by decide)⟩
              · exact ⟨r, 0, rfl, lr, fun x hx => (fr' x hx).2.mono (by decide) (by decide), CD0⟩
            obtain ⟨s, t, rfl, ls, cs, ct⟩ := this
            have G4 : GN n hs4 s t := ⟨fun h hh => let C := (own4 h hh).c; ⟨C.a, C.len, C.b, C.c.mono (Nat.dvd_refl _) (by decide)⟩, by omega, ls, cs, ct, n6⟩
            obtain ⟨R4, d4, e4, P4⟩ := np_ex G4
            have l4 := own_few P4 (fun h hh => ⟨(own4 h hh).z, (own4 h hh).j⟩) nd4
            try wp_walk using RUN
            refine are_parted_ok hS5 n1 GG G4 P P4 (fun z => by rw [z.1] at lo; omega) fun S6 hS6 => ?_
            try wp_walk using RUN
            refine is_least_ok P4.m ?_
            rw [show decide ((hs4.length : Int) = (R4.length : Int)) = true from decide_eq_true (by omega)]
            refine same_okM (k := k + 9) (n := 1) (.bl 0 _) ?_
            try wp_walk using RUN
            exact ih3 _ _ ⟨hS6, j + 1, _, _, by rw [Int.natCast_add]; rfl, rfl⟩
          · rw [rangeD_nil (by omega)] at ey
            cases ey
      · rw [rangeD_nil (by omega)] at ex
        cases ex
  · rintro z ys nxt ih2 acc S' ⟨l, i, rfl, hl2, hS', ei⟩
    rw [List.length_cons] at hl2
    by_cases q : i < (R.length : Int)
    · rw [rangeD_cons q] at ei
      cases ei
      wp_walk using RUN, List.length_map
      refine ⟨by unfold LIM; omega, ?_⟩
      refine draw_ok hS' (by decide) fun v S3 _ _ hS3 u3 => ?_
      try wp_walk using RUN
      refine ite3 (fun _ => ?_) (fun _ => ?_)
      · exact ih2 _ _ ⟨l ++ [i], i + 1, by simp, by simp; omega, hS3, rfl⟩
      · exact ih2 _ _ ⟨l, i + 1, rfl, by omega, hS3, rfl⟩
    · rw [rangeD_nil (by omega)] at ei
      cases ei
/-! ### the law -/
theorem manys {d : D} (h : d ∈ [D.int 1, .int 2, .int 2, .int 2, .int 3, .int 3, .int 2, .int 2, .int 4, .int 5, .int 6]) : ∃ n : Nat, 1 ≤ n ∧ n ≤ 6 ∧ d = .int (n : Nat) := by
  simp only [List.mem_cons, List.not_mem_nil, or_false] at h
  rcases h with rfl | rfl | rfl | rfl | rfl | rfl | rfl | rfl | rfl | rfl | rfl
  · exact ⟨1, by decide, by decide, rfl⟩
  · exact ⟨2, by decide, by decide, rfl⟩
  · exact ⟨2, by decide, by decide, rfl⟩
  · exact ⟨2, by decide, by decide, rfl⟩
  · exact ⟨3, by decide, by decide, rfl⟩
  · exact ⟨3, by decide, by decide, rfl⟩
  · exact ⟨2, by decide, by decide, rfl⟩
  · exact ⟨2, by decide, by decide, rfl⟩
  · exact ⟨4, by decide, by decide, rfl⟩
  · exact ⟨5, by decide, by decide, rfl⟩
  · exact ⟨6, by decide, by decide, rfl⟩
theorem kinds {d : D} (h : d ∈ [D.tup [.int 1, inl [1]], .tup [.int 2, inl [1, 2]], .tup [.int 3, inl [1, 2, 3]], .tup [.int 3, inl [1]], .tup [.int 5, inl [1, 2]], .tup [.int 10000, inl [1, 2]], .tup [.int 4, inl [1, 7, 99]]]) : ∃ (size : Int) (bs : List Int), 0 < size ∧ size < 2 ^ 14 ∧ Bel 1386 bs ∧ d = .tup [.int size, inl bs] := by
  simp only [List.mem_cons, List.not_mem_nil, or_false] at h
  rcases h with rfl | rfl | rfl | rfl | rfl | rfl | rfl
  · exact ⟨_, _, by decide, by decide, ⟨by decide, by decide, by decide⟩, rfl⟩
  · exact ⟨_, _, by decide, by decide, ⟨by decide, by decide, by decide⟩, rfl⟩
  · exact ⟨_, _, by decide, by decide, ⟨by decide, by decide, by decide⟩, rfl⟩
  · exact ⟨_, _, by decide, by decide, ⟨by decide, by decide, by decide⟩, rfl⟩
  · exact ⟨_, _, by decide, by decide, ⟨by decide, by decide, by decide⟩, rfl⟩
  · exact ⟨_, _, by decide, by decide, ⟨by decide, by decide, by decide⟩, rfl⟩
  · exact ⟨_, _, by decide, by decide, ⟨by decide, by decide, by decide⟩, rfl⟩
theorem some_net_ok {p g : Addr} (hS : St p g S) (h : ∀ (n : Nat) hs sa sb S', 1 ≤ n → G0 n hs sa sb → St p g S' → Q (netD (n : Int) hs sa sb) S') : Cl (k + 6) f__law_some_net [.ref p, .int 5] S Q := by
  refine ⟨_, rfl, rfl, ?_⟩
  wp_walk using RUN, b__law_some_net
  refine ⟨by unfold LIM; omega, ?_⟩
  refine pick_okL hS (by simp) fun d S1 hd hS1 _ => ?_
  obtain ⟨n, n1, n6, rfl⟩ := manys hd
  try wp_walk using RUN
  rw [bPow (by unfold PowOk L2.CPow; decide), show (10 : Int) ^ (4 : Int).toNat = 10000 by decide]
  refine pick_okL hS1 (by simp) fun d S2 hd hS2 _ => ?_
  obtain ⟨size, bs, s0, s1, hb, rfl⟩ := kinds hd
  try wp_walk using RUN
  refine net_ok (L := 1386) (q := 14) (top := 5) hS2 s0 (by omega) s1 hb (by decide) (by decide) (by decide) (by omega) (by omega) (by decide) (by decide) fun hs sa sb S3 gh few la fa fb hS3 _ => ?_
  try wp_walk using RUN
  have dL : 1386 ∣ MB := Nat.dvd_mul_right _ _
  refine .same (h n hs sa sb S3 n1 ⟨fun h hh => ?_, few, by omega, fun x hx => (fa x hx).mono dL (by decide), fb.mono dL (by decide), n6⟩ hS3)
  have H := gh h hh
  exact ⟨H.a, by have := H.len; omega, H.b, H.c⟩
theorem law_ok {zs : List Int} (hz : zs.length ≤ 63) (h : ∀ S', Q (.bl true) S') : Cl (k + 12) f_law [.scr (zs.map .int)] S Q := by
  refine ⟨_, rfl, rfl, ?_⟩
  wp_walk using RUN, b_law
  refine bag_ok hz fun p g S1 hp hS1 _ => ?_
  try wp_walk using RUN
  refine ⟨by unfold RngOk; omega, ?_⟩
  refine loopF_ind (fun ys ρ S' => St p g S' ∧ ∃ (i : Int) (u2 : Option D), ys = rangeD i 2 ∧ ρ = [some (.scr (zs.map .int)), some (.ref p), u2]) ?_ ?_ ?_
  · exact ⟨hS1, 0, none, rfl, rfl⟩
  · rintro ρ S' ⟨hS', i, u2, _, rfl⟩
    try wp_walk using RUN
    exact .same (h _)
  · rintro y ys next ih ρ S' ⟨hS', i, u2, ey, rfl⟩
    by_cases q : i < 2
    · rw [rangeD_cons q] at ey
      cases ey
      wp_walk using RUN
      refine some_net_ok (k := k + 5) hS' fun n hs sa sb S2 n1 G hS2 => ?_
      try wp_walk using RUN
      refine is_right_ok hS2 G n1 fun S3 hS3 => ?_
      try wp_walk using RUN
      exact ih _ _ ⟨hS3, i + 1, _, rfl, rfl⟩
    · rw [rangeD_nil (by omega)] at ey
      cases ey
end

end K08

set_option Elab.async false
set_option linter.all false
set_option maxRecDepth 100000
namespace K08
open PySem DL L2
def top (i : Nat) : Stmt := PySem.Challenge.pw_hingelayer_k08_whole_least_nets.main.body.getD i (.Pass ⟨0, 0, 0, 0⟩)
def T : Tab := ⟨([("is_whole", 0), ("is_tuple", 1), ("is_headed", 2), ("divisor", 3), ("divisor_of", 4), ("multiple", 5), ("lowest", 6), ("is_fraction", 7), ("is_row", 8), ("plus", 9), ("product", 10), ("negative", 11), ("size_of", 12), ("cut_off", 13), ("dot", 14), ("added_rows", 15), ("scaled_row", 16), ("zeros", 17), ("unit_row", 18), ("is_nothing", 19)] : List (Str × Nat)) ++ ([("whole_row", 20), ("common_below", 21), ("plane_of", 22), ("height", 23), ("normal", 24), ("net_of", 25), ("least", 26), ("is_least", 27), ("turned", 28), ("straight_at", 29), ("answer", 30), ("minus_net", 31), ("point_on", 32), ("ways_along", 33), ("power_of", 34), ("free_point", 35), ("near_step", 36), ("least_of", 37), ("around", 38), ("showing_point", 39)] : List (Str × Nat)) ++ ([("alike", 40), ("judge_alike", 41), ("_law_bag", 42), ("_law_draw", 43), ("_law_pick", 44), ("_law_some", 45), ("_law_same", 46), ("_law_gcd", 47), ("_law_fr", 48), ("_law_plus", 49), ("_law_times", 50), ("_law_over", 51), ("_law_back", 52), ("_law_dot", 53), ("_law_rowsum", 54), ("_law_taken", 55), ("_law_whole", 56), ("_law_is_zero", 57), ("_law_worth", 58), ("_law_plane", 59)] : List (Str × Nat)) ++ ([("_law_pair", 60), ("_law_draw_fr", 61), ("_law_draw_row", 62), ("_law_net", 63), ("_law_some_net", 64), ("_law_is_int", 65), ("_law_is_fraction", 66), ("_law_is_row", 67), ("_law_other", 68), ("_law_with_more", 69), ("_law_are_parted", 70), ("_law_is_right", 71), ("law", 72)] : List (Str × Nat)), [("NOTHING", 0), ("ONE", 1)], [(41, 0, ["value", "other", "net"], [2, 1, 0]), (24, 0, ["net"], [0]), (40, 0, ["other", "net"], [1, 0]), (26, 0, ["net"], [0]), (28, 0, ["lot", "net"], [1, 0]), (40, 0, ["net", "other"], [0, 1]), (27, 0, ["net"], [0])], [(138, 12), (141, 18), (107, 13), (202, 12), (204, 16), (206, 11), (308, 11), (333, 13), (221, 11), (222, 11), (92, 18), (96, 33), (96, 75), (298, 18), (302, 46), (302, 79), (302, 96)], [(341, 6)]⟩
def d_is_whole : DefI := ⟨"is_whole", top 1, ["value"], ["value"], b_is_whole⟩
def d_is_tuple : DefI := ⟨"is_tuple", top 2, ["value", "many"], ["value", "many"], b_is_tuple⟩
def d_is_headed : DefI := ⟨"is_headed", top 3, ["value", "word", "many"], ["value", "word", "many"], b_is_headed⟩
def d_divisor : DefI := ⟨"divisor", top 4, ["one", "other"], ["one", "other"], b_divisor⟩
def d_divisor_of : DefI := ⟨"divisor_of", top 5, ["numbers", "found", "number"], ["numbers"], b_divisor_of⟩
def d_multiple : DefI := ⟨"multiple", top 6, ["one", "other"], ["one", "other"], b_multiple⟩
def d_lowest : DefI := ⟨"lowest", top 10, ["above", "below", "by"], ["above", "below"], b_lowest⟩
def d_is_fraction : DefI := ⟨"is_fraction", top 11, ["value"], ["value"], b_is_fraction⟩
def d_is_row : DefI := ⟨"is_row", top 12, ["value", "many", ".0", "number", "<gx>"], ["value", "many"], b_is_row⟩
def d_plus : DefI := ⟨"plus", top 13, ["one", "other"], ["one", "other"], b_plus⟩
def d_product : DefI := ⟨"product", top 14, ["one", "other"], ["one", "other"], b_product⟩
def d_negative : DefI := ⟨"negative", top 15, ["one"], ["one"], b_negative⟩
def d_size_of : DefI := ⟨"size_of", top 16, ["one"], ["one"], b_size_of⟩
def d_cut_off : DefI := ⟨"cut_off", top 17, ["one"], ["one"], b_cut_off⟩
def d_dot : DefI := ⟨"dot", top 18, ["one", "other", "total", "a", "b"], ["one", "other"], b_dot⟩
def d_added_rows : DefI := ⟨"added_rows", top 19, ["one", "other", ".0", "a", "b", "<gx>"], ["one", "other"], b_added_rows⟩
def d_scaled_row : DefI := ⟨"scaled_row", top 20, ["number", "row", ".0", "one", "<gx>"], ["number", "row"], b_scaled_row⟩
def d_zeros : DefI := ⟨"zeros", top 21, ["many"], ["many"], b_zeros⟩
def d_unit_row : DefI := ⟨"unit_row", top 22, ["many", "place", ".0", "at", "<gx>"], ["many", "place"], b_unit_row⟩
def d_is_nothing : DefI := ⟨"is_nothing", top 23, ["row", ".0", "number", "<gx>"], ["row"], b_is_nothing⟩
def d_whole_row : DefI := ⟨"whole_row", top 24, ["numbers", ".0", "number", "<gx>"], ["numbers"], b_whole_row⟩
def d_common_below : DefI := ⟨"common_below", top 25, ["row", "found", "above", "below"], ["row"], b_common_below⟩
def d_plane_of : DefI := ⟨"plane_of", top 27, ["a", "b", "below", "numbers", "by", "first", ".0", "above", "under", "number"], ["a", "b"], b_plane_of⟩
def d_height : DefI := ⟨"height", top 28, ["plane", "x"], ["plane", "x"], b_height⟩
def d_normal : DefI := ⟨"normal", top 30, ["net", "n", "hinges", "d", "e", "a", "b", "c", "plane", "size", "jump", "planes", "jumps", ".0", "<gx>"], ["net"], b_normal⟩
def d_net_of : DefI := ⟨"net_of", top 31, ["n", "planes", "straight", ".0", "a", "b", "jump", "<gx>"], ["n", "planes", "straight"], b_net_of⟩
def d_least : DefI := ⟨"least", top 32, ["net", "planes", "straight"], ["net"], b_least⟩
def d_is_least : DefI := ⟨"is_least", top 33, ["net"], ["net"], b_is_least⟩
def d_turned : DefI := ⟨"turned", top 34, ["net", "lot", "planes", "d", "e", "hinges", "number", "a", "b", "jump", ".0", "one"], ["net", "lot"], b_turned⟩
def d_straight_at : DefI := ⟨"straight_at", top 36, ["straight", "x"], ["straight", "x"], b_straight_at⟩
def d_answer : DefI := ⟨"answer", top 37, ["net", "x", "n", "hinges", "straight", "total", "a", "b", "c"], ["net", "x"], b_answer⟩
def d_minus_net : DefI := ⟨"minus_net", top 39, ["net", "other", "hinges", "d", "e", ".0", "a", "b", "c", "<gx>"], ["net", "other"], b_minus_net⟩
def d_point_on : DefI := ⟨"point_on", top 40, ["plane", "a", "b", "place", ".0", "at", "number", "<gx>"], ["plane"], b_point_on⟩
def d_ways_along : DefI := ⟨"ways_along", top 41, ["plane", "a", "at", "number", "place", "found", "row", ".0"], ["plane"], b_ways_along⟩
def d_power_of : DefI := ⟨"power_of", top 42, ["number", "times", "found", "_"], ["number", "times"], b_power_of⟩
def d_free_point : DefI := ⟨"free_point", top 43, ["plane", "others", "start", "ways", "times", "power", "way", "x", ".0", "other", "<gx>"], ["plane", "others"], b_free_point⟩
def d_near_step : DefI := ⟨"near_step", top 44, ["plane", "others", "x", "step", "a", "other", "told", "slope", "bound"], ["plane", "others", "x"], b_near_step⟩
def d_least_of : DefI := ⟨"least_of", top 45, ["one", "other"], ["one", "other"], b_least_of⟩
def d_around : DefI := ⟨"around", top 46, ["plane", "others", "x", "way"], ["plane", "others"], b_around⟩
def d_showing_point : DefI := ⟨"showing_point", top 47, ["net", "planes", "straight", "first", "points", "x", ".0", "a", "b", "jump", "at", "<gx>"], ["net"], b_showing_point⟩
def d_alike : DefI := ⟨"alike", top 48, ["net", "other", "x"], ["net", "other"], b_alike⟩
def d_judge_alike : DefI := ⟨"judge_alike", top 49, ["net", "other", "value", "planes", "straight"], ["net", "other", "value"], b_judge_alike⟩
def d__law_bag : DefI := ⟨"_law_bag", top 51, ["script", "given_ones", "great", ".0", "cell"], ["script"], b__law_bag⟩
def d__law_draw : DefI := ⟨"_law_draw", top 52, ["bag", "many", "digit", "cell", "mixed"], ["bag", "many"], b__law_draw⟩
def d__law_pick : DefI := ⟨"_law_pick", top 53, ["bag", "some"], ["bag", "some"], b__law_pick⟩
def d__law_some : DefI := ⟨"_law_some", top 54, ["bag", "things", "many", "left", "made", "k"], ["bag", "things", "many"], b__law_some⟩
def d__law_same : DefI := ⟨"_law_same", top 55, ["found", "due", "k"], ["found", "due"], b__law_same⟩
def d__law_gcd : DefI := ⟨"_law_gcd", top 56, ["one", "two", "lap"], ["one", "two"], b__law_gcd⟩
def d__law_fr : DefI := ⟨"_law_fr", top 57, ["top", "bottom", "by"], ["top", "bottom"], b__law_fr⟩
def d__law_plus : DefI := ⟨"_law_plus", top 58, ["one", "two"], ["one", "two"], b__law_plus⟩
def d__law_times : DefI := ⟨"_law_times", top 59, ["one", "two"], ["one", "two"], b__law_times⟩
def d__law_over : DefI := ⟨"_law_over", top 60, ["one", "two"], ["one", "two"], b__law_over⟩
def d__law_back : DefI := ⟨"_law_back", top 61, ["one"], ["one"], b__law_back⟩
def d__law_dot : DefI := ⟨"_law_dot", top 62, ["a", "x", "total", "k"], ["a", "x"], b__law_dot⟩
def d__law_rowsum : DefI := ⟨"_law_rowsum", top 63, ["a", "b", ".0", "k"], ["a", "b"], b__law_rowsum⟩
def d__law_taken : DefI := ⟨"_law_taken", top 64, ["t", "a", ".0", "one"], ["t", "a"], b__law_taken⟩
def d__law_whole : DefI := ⟨"_law_whole", top 65, ["a", ".0", "number"], ["a"], b__law_whole⟩
def d__law_is_zero : DefI := ⟨"_law_is_zero", top 66, ["row", ".0", "one"], ["row"], b__law_is_zero⟩
def d__law_worth : DefI := ⟨"_law_worth", top 67, ["net", "x", "total", "a", "b", "c", "here"], ["net", "x"], b__law_worth⟩
def d__law_plane : DefI := ⟨"_law_plane", top 68, ["a", "b", "below", "one", "numbers", "by", "number", "first", ".0"], ["a", "b"], b__law_plane⟩
def d__law_pair : DefI := ⟨"_law_pair", top 69, ["net", "jumps", "d", "e", "a", "b", "c", "plane", "size", "jump", ".0"], ["net"], b__law_pair⟩
def d__law_draw_fr : DefI := ⟨"_law_draw_fr", top 70, ["bag", "size", "belows"], ["bag", "size", "belows"], b__law_draw_fr⟩
def d__law_draw_row : DefI := ⟨"_law_draw_row", top 71, ["bag", "many", "size", "belows", ".0", "k"], ["bag", "many", "size", "belows"], b__law_draw_row⟩
def d__law_net : DefI := ⟨"_law_net", top 72, ["bag", "many", "hinges", "size", "belows", "made", "k", "a", "b", "c", "old", "t"], ["bag", "many", "hinges", "size", "belows"], b__law_net⟩
def d__law_some_net : DefI := ⟨"_law_some_net", top 73, ["bag", "hinges", "many", "size", "belows"], ["bag", "hinges"], b__law_some_net⟩
def d__law_is_int : DefI := ⟨"_law_is_int", top 74, ["value"], ["value"], b__law_is_int⟩
def d__law_is_fraction : DefI := ⟨"_law_is_fraction", top 75, ["value"], ["value"], b__law_is_fraction⟩
def d__law_is_row : DefI := ⟨"_law_is_row", top 76, ["value", "many", ".0", "one"], ["value", "many"], b__law_is_row⟩
def d__law_other : DefI := ⟨"_law_other", top 77, ["bag", "net", "planes", "straight", "d", "e", "hinges", "a", "b", "jump", "t", "row", "here"], ["bag", "net"], b__law_other⟩
def d__law_with_more : DefI := ⟨"_law_with_more", top 78, ["bag", "net", "many", "hinges", "straight", "row", "ways", "a", "b", "c"], ["bag", "net"], b__law_with_more⟩
def d__law_are_parted : DefI := ⟨"_law_are_parted", top 79, ["bag", "net", "other", "found", "x", "due", "given"], ["bag", "net", "other"], b__law_are_parted⟩
def d__law_is_right : DefI := ⟨"_law_is_right", top 80, ["bag", "net", "pair", "k", "lot", "lap", "other", "bigger", "fewer", ".0"], ["bag", "net"], b__law_is_right⟩
def d_law : DefI := ⟨"law", top 81, ["script", "bag", "lap"], ["script"], b_law⟩
def defs : List DefI := [d_is_whole, d_is_tuple, d_is_headed, d_divisor, d_divisor_of, d_multiple, d_lowest, d_is_fraction, d_is_row, d_plus, d_product, d_negative, d_size_of, d_cut_off, d_dot, d_added_rows, d_scaled_row, d_zeros, d_unit_row, d_is_nothing, d_whole_row, d_common_below, d_plane_of, d_height, d_normal, d_net_of, d_least, d_is_least, d_turned, d_straight_at, d_answer, d_minus_net, d_point_on, d_ways_along, d_power_of, d_free_point, d_near_step, d_least_of, d_around, d_showing_point, d_alike, d_judge_alike, d__law_bag, d__law_draw, d__law_pick, d__law_some, d__law_same, d__law_gcd, d__law_fr, d__law_plus, d__law_times, d__law_over, d__law_back, d__law_dot, d__law_rowsum, d__law_taken, d__law_whole, d__law_is_zero, d__law_worth, d__law_plane, d__law_pair, d__law_draw_fr, d__law_draw_row, d__law_net, d__law_some_net, d__law_is_int, d__law_is_fraction, d__law_is_row, d__law_other, d__law_with_more, d__law_are_parted, d__law_is_right, d_law]
theorem k_is_whole : FnScope d_is_whole.N d_is_whole.ps (defScope d_is_whole.st) ∧ trCs T (trC T d_is_whole.N 64 (defScope d_is_whole.st)) (defBody d_is_whole.st) = some d_is_whole.body := ⟨⟨rfl, rfl, rfl, by decide +kernel, rfl, by decide +kernel, by decide +kernel⟩, by decide +kernel⟩
theorem a_is_whole {K : PySem.W.Frag} : ∀ (f : Addr) (fd : FuncData), Fun K d_is_whole.x d_is_whole.x d_is_whole.st f fd → Binds K fd d_is_whole.ps [] := fun _ _ F => F.binds fun _ _ _ _ _ _ us hl => match us, hl with | [_], _ => rfl
theorem k_is_tuple : FnScope d_is_tuple.N d_is_tuple.ps (defScope d_is_tuple.st) ∧ trCs T (trC T d_is_tuple.N 64 (defScope d_is_tuple.st)) (defBody d_is_tuple.st) = some d_is_tuple.body := ⟨⟨rfl, rfl, rfl, by decide +kernel, rfl, by decide +kernel, by decide +kernel⟩, by decide +kernel⟩
theorem a_is_tuple {K : PySem.W.Frag} : ∀ (f : Addr) (fd : FuncData), Fun K d_is_tuple.x d_is_tuple.x d_is_tuple.st f fd → Binds K fd d_is_tuple.ps [] := fun _ _ F => F.binds fun _ _ _ _ _ _ us hl => match us, hl with | [_, _], _ => rfl
theorem k_is_headed : FnScope d_is_headed.N d_is_headed.ps (defScope d_is_headed.st) ∧ trCs T (trC T d_is_headed.N 64 (defScope d_is_headed.st)) (defBody d_is_headed.st) = some d_is_headed.body := ⟨⟨rfl, rfl, rfl, by decide +kernel, rfl, by decide +kernel, by decide +kernel⟩, by decide +kernel⟩
theorem a_is_headed {K : PySem.W.Frag} : ∀ (f : Addr) (fd : FuncData), Fun K d_is_headed.x d_is_headed.x d_is_headed.st f fd → Binds K fd d_is_headed.ps [] := fun _ _ F => F.binds fun _ _ _ _ _ _ us hl => match us, hl with | [_, _, _], _ => rfl
theorem k_divisor : FnScope d_divisor.N d_divisor.ps (defScope d_divisor.st) ∧ trCs T (trC T d_divisor.N 64 (defScope d_divisor.st)) (defBody d_divisor.st) = some d_divisor.body := ⟨⟨rfl, rfl, rfl, by decide +kernel, rfl, by decide +kernel, by decide +kernel⟩, by decide +kernel⟩
theorem a_divisor {K : PySem.W.Frag} : ∀ (f : Addr) (fd : FuncData), Fun K d_divisor.x d_divisor.x d_divisor.st f fd → Binds K fd d_divisor.ps [] := fun _ _ F => F.binds fun _ _ _ _ _ _ us hl => match us, hl with | [_, _], _ => rfl
theorem k_divisor_of : FnScope d_divisor_of.N d_divisor_of.ps (defScope d_divisor_of.st) ∧ trCs T (trC T d_divisor_of.N 64 (defScope d_divisor_of.st)) (defBody d_divisor_of.st) = some d_divisor_of.body := ⟨⟨rfl, rfl, rfl, by decide +kernel, rfl, by decide +kernel, by decide +kernel⟩, by decide +kernel⟩
theorem a_divisor_of {K : PySem.W.Frag} : ∀ (f : Addr) (fd : FuncData), Fun K d_divisor_of.x d_divisor_of.x d_divisor_of.st f fd → Binds K fd d_divisor_of.ps [] := fun _ _ F => F.binds fun _ _ _ _ _ _ us hl => match us, hl with | [_], _ => rfl
theorem k_multiple : FnScope d_multiple.N d_multiple.ps (defScope d_multiple.st) ∧ trCs T (trC T d_multiple.N 64 (defScope d_multiple.st)) (defBody d_multiple.st) = some d_multiple.body := ⟨⟨rfl, rfl, rfl, by decide +kernel, rfl, by decide +kernel, by decide +kernel⟩, by decide +kernel⟩
theorem a_multiple {K : PySem.W.Frag} : ∀ (f : Addr) (fd : FuncData), Fun K d_multiple.x d_multiple.x d_multiple.st f fd → Binds K fd d_multiple.ps [] := fun _ _ F => F.binds fun _ _ _ _ _ _ us hl => match us, hl with | [_, _], _ => rfl
theorem k_lowest : FnScope d_lowest.N d_lowest.ps (defScope d_lowest.st) ∧ trCs T (trC T d_lowest.N 64 (defScope d_lowest.st)) (defBody d_lowest.st) = some d_lowest.body := ⟨⟨rfl, rfl, rfl, by decide +kernel, rfl, by decide +kernel, by decide +kernel⟩, by decide +kernel⟩
theorem a_lowest {K : PySem.W.Frag} : ∀ (f : Addr) (fd : FuncData), Fun K d_lowest.x d_lowest.x d_lowest.st f fd → Binds K fd d_lowest.ps [] := fun _ _ F => F.binds fun _ _ _ _ _ _ us hl => match us, hl with | [_, _], _ => rfl
theorem k_is_fraction : FnScope d_is_fraction.N d_is_fraction.ps (defScope d_is_fraction.st) ∧ trCs T (trC T d_is_fraction.N 64 (defScope d_is_fraction.st)) (defBody d_is_fraction.st) = some d_is_fraction.body := ⟨⟨rfl, rfl, rfl, by decide +kernel, rfl, by decide +kernel, by decide +kernel⟩, by decide +kernel⟩
theorem a_is_fraction {K : PySem.W.Frag} : ∀ (f : Addr) (fd : FuncData), Fun K d_is_fraction.x d_is_fraction.x d_is_fraction.st f fd → Binds K fd d_is_fraction.ps [] := fun _ _ F => F.binds fun _ _ _ _ _ _ us hl => match us, hl with | [_], _ => rfl
theorem k_is_row : FnScope d_is_row.N d_is_row.ps (defScope d_is_row.st) ∧ trCs T (trC T d_is_row.N 64 (defScope d_is_row.st)) (defBody d_is_row.st) = some d_is_row.body := ⟨⟨rfl, rfl, rfl, by decide +kernel, rfl, by decide +kernel, by decide +kernel⟩, by decide +kernel⟩
theorem a_is_row {K : PySem.W.Frag} : ∀ (f : Addr) (fd : FuncData), Fun K d_is_row.x d_is_row.x d_is_row.st f fd → Binds K fd d_is_row.ps [] := fun _ _ F => F.binds fun _ _ _ _ _ _ us hl => match us, hl with | [_, _], _ => rfl
theorem k_plus : FnScope d_plus.N d_plus.ps (defScope d_plus.st) ∧ trCs T (trC T d_plus.N 64 (defScope d_plus.st)) (defBody d_plus.st) = some d_plus.body := ⟨⟨rfl, rfl, rfl, by decide +kernel, rfl, by decide +kernel, by decide +kernel⟩, by decide +kernel⟩
theorem a_plus {K : PySem.W.Frag} : ∀ (f : Addr) (fd : FuncData), Fun K d_plus.x d_plus.x d_plus.st f fd → Binds K fd d_plus.ps [] := fun _ _ F => F.binds fun _ _ _ _ _ _ us hl => match us, hl with | [_, _], _ => rfl
theorem k_product : FnScope d_product.N d_product.ps (defScope d_product.st) ∧ trCs T (trC T d_product.N 64 (defScope d_product.st)) (defBody d_product.st) = some d_product.body := ⟨⟨rfl, rfl, rfl, by decide +kernel, rfl, by decide +kernel, by decide +kernel⟩, by decide +kernel⟩
theorem a_product {K : PySem.W.Frag} : ∀ (f : Addr) (fd : FuncData), Fun K d_product.x d_product.x d_product.st f fd → Binds K fd d_product.ps [] := fun _ _ F => F.binds fun _ _ _ _ _ _ us hl => match us, hl with | [_, _], _ => rfl
theorem k_negative : FnScope d_negative.N d_negative.ps (defScope d_negative.st) ∧ trCs T (trC T d_negative.N 64 (defScope d_negative.st)) (defBody d_negative.st) = some d_negative.body := ⟨⟨rfl, rfl, rfl, by decide +kernel, rfl, by decide +kernel, by decide +kernel⟩, by decide +kernel⟩
theorem a_negative {K : PySem.W.Frag} : ∀ (f : Addr) (fd : FuncData), Fun K d_negative.x d_negative.x d_negative.st f fd → Binds K fd d_negative.ps [] := fun _ _ F => F.binds fun _ _ _ _ _ _ us hl => match us, hl with | [_], _ => rfl
theorem k_size_of : FnScope d_size_of.N d_size_of.ps (defScope d_size_of.st) ∧ trCs T (trC T d_size_of.N 64 (defScope d_size_of.st)) (defBody d_size_of.st) = some d_size_of.body := ⟨⟨rfl, rfl, rfl, by decide +kernel, rfl, by decide +kernel, by decide +kernel⟩, by decide +kernel⟩
theorem a_size_of {K : PySem.W.Frag} : ∀ (f : Addr) (fd : FuncData), Fun K d_size_of.x d_size_of.x d_size_of.st f fd → Binds K fd d_size_of.ps [] := fun _ _ F => F.binds fun _ _ _ _ _ _ us hl => match us, hl with | [_], _ => rfl
theorem k_cut_off : FnScope d_cut_off.N d_cut_off.ps (defScope d_cut_off.st) ∧ trCs T (trC T d_cut_off.N 64 (defScope d_cut_off.st)) (defBody d_cut_off.st) = some d_cut_off.body := ⟨⟨rfl, rfl, rfl, by decide +kernel, rfl, by decide +kernel, by decide +kernel⟩, by decide +kernel⟩
theorem a_cut_off {K : PySem.W.Frag} : ∀ (f : Addr) (fd : FuncData), Fun K d_cut_off.x d_cut_off.x d_cut_off.st f fd → Binds K fd d_cut_off.ps [] := fun _ _ F => F.binds fun _ _ _ _ _ _ us hl => match us, hl with | [_], _ => rfl
theorem k_dot : FnScope d_dot.N d_dot.ps (defScope d_dot.st) ∧ trCs T (trC T d_dot.N 64 (defScope d_dot.st)) (defBody d_dot.st) = some d_dot.body := ⟨⟨rfl, rfl, rfl, by decide +kernel, rfl, by decide +kernel, by decide +kernel⟩, by decide +kernel⟩
theorem a_dot {K : PySem.W.Frag} : ∀ (f : Addr) (fd : FuncData), Fun K d_dot.x d_dot.x d_dot.st f fd → Binds K fd d_dot.ps [] := fun _ _ F => F.binds fun _ _ _ _ _ _ us hl => match us, hl with | [_, _], _ => rfl
theorem k_added_rows : FnScope d_added_rows.N d_added_rows.ps (defScope d_added_rows.st) ∧ trCs T (trC T d_added_rows.N 64 (defScope d_added_rows.st)) (defBody d_added_rows.st) = some d_added_rows.body := ⟨⟨rfl, rfl, rfl, by decide +kernel, rfl, by decide +kernel, by decide +kernel⟩, by decide +kernel⟩
theorem a_added_rows {K : PySem.W.Frag} : ∀ (f : Addr) (fd : FuncData), Fun K d_added_rows.x d_added_rows.x d_added_rows.st f fd → Binds K fd d_added_rows.ps [] := fun _ _ F => F.binds fun _ _ _ _ _ _ us hl => match us, hl with | [_, _], _ => rfl
theorem k_scaled_row : FnScope d_scaled_row.N d_scaled_row.ps (defScope d_scaled_row.st) ∧ trCs T (trC T d_scaled_row.N 64 (defScope d_scaled_row.st)) (defBody d_scaled_row.st) = some d_scaled_row.body := ⟨⟨rfl, rfl, rfl, by decide +kernel, rfl, by decide +kernel, by decide +kernel⟩, by decide +kernel⟩
theorem a_scaled_row {K : PySem.W.Frag} : ∀ (f : Addr) (fd : FuncData), Fun K d_scaled_row.x d_scaled_row.x d_scaled_row.st f fd → Binds K fd d_scaled_row.ps [] := fun _ _ F => F.binds fun _ _ _ _ _ _ us hl => match us, hl with | [_, _], _ => rfl
theorem k_zeros : FnScope d_zeros.N d_zeros.ps (defScope d_zeros.st) ∧ trCs T (trC T d_zeros.N 64 (defScope d_zeros.st)) (defBody d_zeros.st) = some d_zeros.body := ⟨⟨rfl, rfl, rfl, by decide +kernel, rfl, by decide +kernel, by decide +kernel⟩, by decide +kernel⟩
theorem a_zeros {K : PySem.W.Frag} : ∀ (f : Addr) (fd : FuncData), Fun K d_zeros.x d_zeros.x d_zeros.st f fd → Binds K fd d_zeros.ps [] := fun _ _ F => F.binds fun _ _ _ _ _ _ us hl => match us, hl with | [_], _ => rfl
theorem k_unit_row : FnScope d_unit_row.N d_unit_row.ps (defScope d_unit_row.st) ∧ trCs T (trC T d_unit_row.N 64 (defScope d_unit_row.st)) (defBody d_unit_row.st) = some d_unit_row.body := ⟨⟨rfl, rfl, rfl, by decide +kernel, rfl, by decide +kernel, by decide +kernel⟩, by decide +kernel⟩
theorem a_unit_row {K : PySem.W.Frag} : ∀ (f : Addr) (fd : FuncData), Fun K d_unit_row.x d_unit_row.x d_unit_row.st f fd → Binds K fd d_unit_row.ps [] := fun _ _ F => F.binds fun _ _ _ _ _ _ us hl => match us, hl with | [_, _], _ => rfl
theorem k_is_nothing : FnScope d_is_nothing.N d_is_nothing.ps (defScope d_is_nothing.st) ∧ trCs T (trC T d_is_nothing.N 64 (defScope d_is_nothing.st)) (defBody d_is_nothing.st) = some d_is_nothing.body := ⟨⟨rfl, rfl, rfl, by decide +kernel, rfl, by decide +kernel, by decide +kernel⟩, by decide +kernel⟩
theorem a_is_nothing {K : PySem.W.Frag} : ∀ (f : Addr) (fd : FuncData), Fun K d_is_nothing.x d_is_nothing.x d_is_nothing.st f fd → Binds K fd d_is_nothing.ps [] := fun _ _ F => F.binds fun _ _ _ _ _ _ us hl => match us, hl with | [_], _ => rfl
theorem k_whole_row : FnScope d_whole_row.N d_whole_row.ps (defScope d_whole_row.st) ∧ trCs T (trC T d_whole_row.N 64 (defScope d_whole_row.st)) (defBody d_whole_row.st) = some d_whole_row.body := ⟨⟨rfl, rfl, rfl, by decide +kernel, rfl, by decide +kernel, by decide +kernel⟩, by decide +kernel⟩
theorem a_whole_row {K : PySem.W.Frag} : ∀ (f : Addr) (fd : FuncData), Fun K d_whole_row.x d_whole_row.x d_whole_row.st f fd → Binds K fd d_whole_row.ps [] := fun _ _ F => F.binds fun _ _ _ _ _ _ us hl => match us, hl with | [_], _ => rfl
theorem k_common_below : FnScope d_common_below.N d_common_below.ps (defScope d_common_below.st) ∧ trCs T (trC T d_common_below.N 64 (defScope d_common_below.st)) (defBody d_common_below.st) = some d_common_below.body := ⟨⟨rfl, rfl, rfl, by decide +kernel, rfl, by decide +kernel, by decide +kernel⟩, by decide +kernel⟩
theorem a_common_below {K : PySem.W.Frag} : ∀ (f : Addr) (fd : FuncData), Fun K d_common_below.x d_common_below.x d_common_below.st f fd → Binds K fd d_common_below.ps [] := fun _ _ F => F.binds fun _ _ _ _ _ _ us hl => match us, hl with | [_], _ => rfl
theorem k_plane_of : FnScope d_plane_of.N d_plane_of.ps (defScope d_plane_of.st) ∧ trCs T (trC T d_plane_of.N 64 (defScope d_plane_of.st)) (defBody d_plane_of.st) = some d_plane_of.body := ⟨⟨rfl, rfl, rfl, by decide +kernel, rfl, by decide +kernel, by decide +kernel⟩, by decide +kernel⟩
theorem a_plane_of {K : PySem.W.Frag} : ∀ (f : Addr) (fd : FuncData), Fun K d_plane_of.x d_plane_of.x d_plane_of.st f fd → Binds K fd d_plane_of.ps [] := fun _ _ F => F.binds fun _ _ _ _ _ _ us hl => match us, hl with | [_, _], _ => rfl
theorem k_height : FnScope d_height.N d_height.ps (defScope d_height.st) ∧ trCs T (trC T d_height.N 64 (defScope d_height.st)) (defBody d_height.st) = some d_height.body := ⟨⟨rfl, rfl, rfl, by decide +kernel, rfl, by decide +kernel, by decide +kernel⟩, by decide +kernel⟩
theorem a_height {K : PySem.W.Frag} : ∀ (f : Addr) (fd : FuncData), Fun K d_height.x d_height.x d_height.st f fd → Binds K fd d_height.ps [] := fun _ _ F => F.binds fun _ _ _ _ _ _ us hl => match us, hl with | [_, _], _ => rfl
theorem k_normal : FnScope d_normal.N d_normal.ps (defScope d_normal.st) ∧ trCs T (trC T d_normal.N 64 (defScope d_normal.st)) (defBody d_normal.st) = some d_normal.body := ⟨⟨rfl, rfl, rfl, by decide +kernel, rfl, by decide +kernel, by decide +kernel⟩, by decide +kernel⟩
theorem a_normal {K : PySem.W.Frag} : ∀ (f : Addr) (fd : FuncData), Fun K d_normal.x d_normal.x d_normal.st f fd → Binds K fd d_normal.ps [] := fun _ _ F => F.binds fun _ _ _ _ _ _ us hl => match us, hl with | [_], _ => rfl
theorem k_net_of : FnScope d_net_of.N d_net_of.ps (defScope d_net_of.st) ∧ trCs T (trC T d_net_of.N 64 (defScope d_net_of.st)) (defBody d_net_of.st) = some d_net_of.body := ⟨⟨rfl, rfl, rfl, by decide +kernel, rfl, by decide +kernel, by decide +kernel⟩, by decide +kernel⟩
theorem a_net_of {K : PySem.W.Frag} : ∀ (f : Addr) (fd : FuncData), Fun K d_net_of.x d_net_of.x d_net_of.st f fd → Binds K fd d_net_of.ps [] := fun _ _ F => F.binds fun _ _ _ _ _ _ us hl => match us, hl with | [_, _, _], _ => rfl
theorem k_least : FnScope d_least.N d_least.ps (defScope d_least.st) ∧ trCs T (trC T d_least.N 64 (defScope d_least.st)) (defBody d_least.st) = some d_least.body := ⟨⟨rfl, rfl, rfl, by decide +kernel, rfl, by decide +kernel, by decide +kernel⟩, by decide +kernel⟩
theorem a_least {K : PySem.W.Frag} : ∀ (f : Addr) (fd : FuncData), Fun K d_least.x d_least.x d_least.st f fd → Binds K fd d_least.ps [] := fun _ _ F => F.binds fun _ _ _ _ _ _ us hl => match us, hl with | [_], _ => rfl
theorem k_is_least : FnScope d_is_least.N d_is_least.ps (defScope d_is_least.st) ∧ trCs T (trC T d_is_least.N 64 (defScope d_is_least.st)) (defBody d_is_least.st) = some d_is_least.body := ⟨⟨rfl, rfl, rfl, by decide +kernel, rfl, by decide +kernel, by decide +kernel⟩, by decide +kernel⟩
theorem a_is_least {K : PySem.W.Frag} : ∀ (f : Addr) (fd : FuncData), Fun K d_is_least.x d_is_least.x d_is_least.st f fd → Binds K fd d_is_least.ps [] := fun _ _ F => F.binds fun _ _ _ _ _ _ us hl => match us, hl with | [_], _ => rfl
theorem k_turned : FnScope d_turned.N d_turned.ps (defScope d_turned.st) ∧ trCs T (trC T d_turned.N 64 (defScope d_turned.st)) (defBody d_turned.st) = some d_turned.body := ⟨⟨rfl, rfl, rfl, by decide +kernel, rfl, by decide +kernel, by decide +kernel⟩, by decide +kernel⟩
theorem a_turned {K : PySem.W.Frag} : ∀ (f : Addr) (fd : FuncData), Fun K d_turned.x d_turned.x d_turned.st f fd → Binds K fd d_turned.ps [] := fun _ _ F => F.binds fun _ _ _ _ _ _ us hl => match us, hl with | [_, _], _ => rfl
theorem k_straight_at : FnScope d_straight_at.N d_straight_at.ps (defScope d_straight_at.st) ∧ trCs T (trC T d_straight_at.N 64 (defScope d_straight_at.st)) (defBody d_straight_at.st) = some d_straight_at.body := ⟨⟨rfl, rfl, rfl, by decide +kernel, rfl, by decide +kernel, by decide +kernel⟩, by decide +kernel⟩
theorem a_straight_at {K : PySem.W.Frag} : ∀ (f : Addr) (fd : FuncData), Fun K d_straight_at.x d_straight_at.x d_straight_at.st f fd → Binds K fd d_straight_at.ps [] := fun _ _ F => F.binds fun _ _ _ _ _ _ us hl => match us, hl with | [_, _], _ => rfl
theorem k_answer : FnScope d_answer.N d_answer.ps (defScope d_answer.st) ∧ trCs T (trC T d_answer.N 64 (defScope d_answer.st)) (defBody d_answer.st) = some d_answer.body := ⟨⟨rfl, rfl, rfl, by decide +kernel, rfl, by decide +kernel, by decide +kernel⟩, by decide +kernel⟩
theorem a_answer {K : PySem.W.Frag} : ∀ (f : Addr) (fd : FuncData), Fun K d_answer.x d_answer.x d_answer.st f fd → Binds K fd d_answer.ps [] := fun _ _ F => F.binds fun _ _ _ _ _ _ us hl => match us, hl with | [_, _], _ => rfl
theorem k_minus_net : FnScope d_minus_net.N d_minus_net.ps (defScope d_minus_net.st) ∧ trCs T (trC T d_minus_net.N 64 (defScope d_minus_net.st)) (defBody d_minus_net.st) = some d_minus_net.body := ⟨⟨rfl, rfl, rfl, by decide +kernel, rfl, by decide +kernel, by decide +kernel⟩, by decide +kernel⟩
theorem a_minus_net {K : PySem.W.Frag} : ∀ (f : Addr) (fd : FuncData), Fun K d_minus_net.x d_minus_net.x d_minus_net.st f fd → Binds K fd d_minus_net.ps [] := fun _ _ F => F.binds fun _ _ _ _ _ _ us hl => match us, hl with | [_, _], _ => rfl
theorem k_point_on : FnScope d_point_on.N d_point_on.ps (defScope d_point_on.st) ∧ trCs T (trC T d_point_on.N 64 (defScope d_point_on.st)) (defBody d_point_on.st) = some d_point_on.body := ⟨⟨rfl, rfl, rfl, by decide +kernel, rfl, by decide +kernel, by decide +kernel⟩, by decide +kernel⟩
theorem a_point_on {K : PySem.W.Frag} : ∀ (f : Addr) (fd : FuncData), Fun K d_point_on.x d_point_on.x d_point_on.st f fd → Binds K fd d_point_on.ps [] := fun _ _ F => F.binds fun _ _ _ _ _ _ us hl => match us, hl with | [_], _ => rfl
theorem k_ways_along : FnScope d_ways_along.N d_ways_along.ps (defScope d_ways_along.st) ∧ trCs T (trC T d_ways_along.N 64 (defScope d_ways_along.st)) (defBody d_ways_along.st) = some d_ways_along.body := ⟨⟨rfl, rfl, rfl, by decide +kernel, rfl, by decide +kernel, by decide +kernel⟩, by decide +kernel⟩
theorem a_ways_along {K : PySem.W.Frag} : ∀ (f : Addr) (fd : FuncData), Fun K d_ways_along.x d_ways_along.x d_ways_along.st f fd → Binds K fd d_ways_along.ps [] := fun _ _ F => F.binds fun _ _ _ _ _ _ us hl => match us, hl with | [_], _ => rfl
theorem k_power_of : FnScope d_power_of.N d_power_of.ps (defScope d_power_of.st) ∧ trCs T (trC T d_power_of.N 64 (defScope d_power_of.st)) (defBody d_power_of.st) = some d_power_of.body := ⟨⟨rfl, rfl, rfl, by decide +kernel, rfl, by decide +kernel, by decide +kernel⟩, by decide +kernel⟩
theorem a_power_of {K : PySem.W.Frag} : ∀ (f : Addr) (fd : FuncData), Fun K d_power_of.x d_power_of.x d_power_of.st f fd → Binds K fd d_power_of.ps [] := fun _ _ F => F.binds fun _ _ _ _ _ _ us hl => match us, hl with | [_, _], _ => rfl
theorem k_free_point : FnScope d_free_point.N d_free_point.ps (defScope d_free_point.st) ∧ trCs T (trC T d_free_point.N 64 (defScope d_free_point.st)) (defBody d_free_point.st) = some d_free_point.body := ⟨⟨rfl, rfl, rfl, by decide +kernel, rfl, by decide +kernel, by decide +kernel⟩, by decide +kernel⟩
theorem a_free_point {K : PySem.W.Frag} : ∀ (f : Addr) (fd : FuncData), Fun K d_free_point.x d_free_point.x d_free_point.st f fd → Binds K fd d_free_point.ps [] := fun _ _ F => F.binds fun _ _ _ _ _ _ us hl => match us, hl with | [_, _], _ => rfl
theorem k_near_step : FnScope d_near_step.N d_near_step.ps (defScope d_near_step.st) ∧ trCs T (trC T d_near_step.N 64 (defScope d_near_step.st)) (defBody d_near_step.st) = some d_near_step.body := ⟨⟨rfl, rfl, rfl, by decide +kernel, rfl, by decide +kernel, by decide +kernel⟩, by decide +kernel⟩
theorem a_near_step {K : PySem.W.Frag} : ∀ (f : Addr) (fd : FuncData), Fun K d_near_step.x d_near_step.x d_near_step.st f fd → Binds K fd d_near_step.ps [] := fun _ _ F => F.binds fun _ _ _ _ _ _ us hl => match us, hl with | [_, _, _], _ => rfl
theorem k_least_of : FnScope d_least_of.N d_least_of.ps (defScope d_least_of.st) ∧ trCs T (trC T d_least_of.N 64 (defScope d_least_of.st)) (defBody d_least_of.st) = some d_least_of.body := ⟨⟨rfl, rfl, rfl, by decide +kernel, rfl, by decide +kernel, by decide +kernel⟩, by decide +kernel⟩
theorem a_least_of {K : PySem.W.Frag} : ∀ (f : Addr) (fd : FuncData), Fun K d_least_of.x d_least_of.x d_least_of.st f fd → Binds K fd d_least_of.ps [] := fun _ _ F => F.binds fun _ _ _ _ _ _ us hl => match us, hl with | [_, _], _ => rfl
theorem k_around : FnScope d_around.N d_around.ps (defScope d_around.st) ∧ trCs T (trC T d_around.N 64 (defScope d_around.st)) (defBody d_around.st) = some d_around.body := ⟨⟨rfl, rfl, rfl, by decide +kernel, rfl, by decide +kernel, by decide +kernel⟩, by decide +kernel⟩
theorem a_around {K : PySem.W.Frag} : ∀ (f : Addr) (fd : FuncData), Fun K d_around.x d_around.x d_around.st f fd → Binds K fd d_around.ps [] := fun _ _ F => F.binds fun _ _ _ _ _ _ us hl => match us, hl with | [_, _], _ => rfl
theorem k_showing_point : FnScope d_showing_point.N d_showing_point.ps (defScope d_showing_point.st) ∧ trCs T (trC T d_showing_point.N 64 (defScope d_showing_point.st)) (defBody d_showing_point.st) = some d_showing_point.body := ⟨⟨rfl, rfl, rfl, by decide +kernel, rfl, by decide +kernel, by decide +kernel⟩, by decide +kernel⟩
theorem a_showing_point {K : PySem.W.Frag} : ∀ (f : Addr) (fd : FuncData), Fun K d_showing_point.x d_showing_point.x d_showing_point.st f fd → Binds K fd d_showing_point.ps [] := fun _ _ F => F.binds fun _ _ _ _ _ _ us hl => match us, hl with | [_], _ => rfl
theorem k_alike : FnScope d_alike.N d_alike.ps (defScope d_alike.st) ∧ trCs T (trC T d_alike.N 64 (defScope d_alike.st)) (defBody d_alike.st) = some d_alike.body := ⟨⟨rfl, rfl, rfl, by decide +kernel, rfl, by decide +kernel, by decide +kernel⟩, by decide +kernel⟩
theorem a_alike {K : PySem.W.Frag} : ∀ (f : Addr) (fd : FuncData), Fun K d_alike.x d_alike.x d_alike.st f fd → Binds K fd d_alike.ps [] := fun _ _ F => F.binds fun _ _ _ _ _ _ us hl => match us, hl with | [_, _], _ => rfl
theorem k_judge_alike : FnScope d_judge_alike.N d_judge_alike.ps (defScope d_judge_alike.st) ∧ trCs T (trC T d_judge_alike.N 64 (defScope d_judge_alike.st)) (defBody d_judge_alike.st) = some d_judge_alike.body := ⟨⟨rfl, rfl, rfl, by decide +kernel, rfl, by decide +kernel, by decide +kernel⟩, by decide +kernel⟩
theorem a_judge_alike {K : PySem.W.Frag} : ∀ (f : Addr) (fd : FuncData), Fun K d_judge_alike.x d_judge_alike.x d_judge_alike.st f fd → Binds K fd d_judge_alike.ps [] := fun _ _ F => F.binds fun _ _ _ _ _ _ us hl => match us, hl with | [_, _, _], _ => rfl
theorem k__law_bag : FnScope d__law_bag.N d__law_bag.ps (defScope d__law_bag.st) ∧ trCs T (trC T d__law_bag.N 64 (defScope d__law_bag.st)) (defBody d__law_bag.st) = some d__law_bag.body := ⟨⟨rfl, rfl, rfl, by decide +kernel, rfl, by decide +kernel, by decide +kernel⟩, by decide +kernel⟩
theorem a__law_bag {K : PySem.W.Frag} : ∀ (f : Addr) (fd : FuncData), Fun K d__law_bag.x d__law_bag.x d__law_bag.st f fd → Binds K fd d__law_bag.ps [] := fun _ _ F => F.binds fun _ _ _ _ _ _ us hl => match us, hl with | [_], _ => rfl
theorem k__law_draw : FnScope d__law_draw.N d__law_draw.ps (defScope d__law_draw.st) ∧ trCs T (trC T d__law_draw.N 64 (defScope d__law_draw.st)) (defBody d__law_draw.st) = some d__law_draw.body := ⟨⟨rfl, rfl, rfl, by decide +kernel, rfl, by decide +kernel, by decide +kernel⟩, by decide +kernel⟩
theorem a__law_draw {K : PySem.W.Frag} : ∀ (f : Addr) (fd : FuncData), Fun K d__law_draw.x d__law_draw.x d__law_draw.st f fd → Binds K fd d__law_draw.ps [] := fun _ _ F => F.binds fun _ _ _ _ _ _ us hl => match us, hl with | [_, _], _ => rfl
theorem k__law_pick : FnScope d__law_pick.N d__law_pick.ps (defScope d__law_pick.st) ∧ trCs T (trC T d__law_pick.N 64 (defScope d__law_pick.st)) (defBody d__law_pick.st) = some d__law_pick.body := ⟨⟨rfl, rfl, rfl, by decide +kernel, rfl, by decide +kernel, by decide +kernel⟩, by decide +kernel⟩
theorem a__law_pick {K : PySem.W.Frag} : ∀ (f : Addr) (fd : FuncData), Fun K d__law_pick.x d__law_pick.x d__law_pick.st f fd → Binds K fd d__law_pick.ps [] := fun _ _ F => F.binds fun _ _ _ _ _ _ us hl => match us, hl with | [_, _], _ => rfl
theorem k__law_some : FnScope d__law_some.N d__law_some.ps (defScope d__law_some.st) ∧ trCs T (trC T d__law_some.N 64 (defScope d__law_some.st)) (defBody d__law_some.st) = some d__law_some.body := ⟨⟨rfl, rfl, rfl, by decide +kernel, rfl, by decide +kernel, by decide +kernel⟩, by decide +kernel⟩
theorem a__law_some {K : PySem.W.Frag} : ∀ (f : Addr) (fd : FuncData), Fun K d__law_some.x d__law_some.x d__law_some.st f fd → Binds K fd d__law_some.ps [] := fun _ _ F => F.binds fun _ _ _ _ _ _ us hl => match us, hl with | [_, _, _], _ => rfl
theorem k__law_same : FnScope d__law_same.N d__law_same.ps (defScope d__law_same.st) ∧ trCs T (trC T d__law_same.N 64 (defScope d__law_same.st)) (defBody d__law_same.st) = some d__law_same.body := ⟨⟨rfl, rfl, rfl, by decide +kernel, rfl, by decide +kernel, by decide +kernel⟩, by decide +kernel⟩
theorem a__law_same {K : PySem.W.Frag} : ∀ (f : Addr) (fd : FuncData), Fun K d__law_same.x d__law_same.x d__law_same.st f fd → Binds K fd d__law_same.ps [] := fun _ _ F => F.binds fun _ _ _ _ _ _ us hl => match us, hl with | [_, _], _ => rfl
theorem k__law_gcd : FnScope d__law_gcd.N d__law_gcd.ps (defScope d__law_gcd.st) ∧ trCs T (trC T d__law_gcd.N 64 (defScope d__law_gcd.st)) (defBody d__law_gcd.st) = some d__law_gcd.body := ⟨⟨rfl, rfl, rfl, by decide +kernel, rfl, by decide +kernel, by decide +kernel⟩, by decide +kernel⟩
theorem a__law_gcd {K : PySem.W.Frag} : ∀ (f : Addr) (fd : FuncData), Fun K d__law_gcd.x d__law_gcd.x d__law_gcd.st f fd → Binds K fd d__law_gcd.ps [] := fun _ _ F => F.binds fun _ _ _ _ _ _ us hl => match us, hl with | [_, _], _ => rfl
theorem k__law_fr : FnScope d__law_fr.N d__law_fr.ps (defScope d__law_fr.st) ∧ trCs T (trC T d__law_fr.N 64 (defScope d__law_fr.st)) (defBody d__law_fr.st) = some d__law_fr.body := ⟨⟨rfl, rfl, rfl, by decide +kernel, rfl, by decide +kernel, by decide +kernel⟩, by decide +kernel⟩
theorem a__law_fr {K : PySem.W.Frag} : ∀ (f : Addr) (fd : FuncData), Fun K d__law_fr.x d__law_fr.x d__law_fr.st f fd → Binds K fd d__law_fr.ps [] := fun _ _ F => F.binds fun _ _ _ _ _ _ us hl => match us, hl with | [_, _], _ => rfl
theorem k__law_plus : FnScope d__law_plus.N d__law_plus.ps (defScope d__law_plus.st) ∧ trCs T (trC T d__law_plus.N 64 (defScope d__law_plus.st)) (defBody d__law_plus.st) = some d__law_plus.body := ⟨⟨rfl, rfl, rfl, by decide +kernel, rfl, by decide +kernel, by decide +kernel⟩, by decide +kernel⟩
theorem a__law_plus {K : PySem.W.Frag} : ∀ (f : Addr) (fd : FuncData), Fun K d__law_plus.x d__law_plus.x d__law_plus.st f fd → Binds K fd d__law_plus.ps [] := fun _ _ F => F.binds fun _ _ _ _ _ _ us hl => match us, hl with | [_, _], _ => rfl
theorem k__law_times : FnScope d__law_times.N d__law_times.ps (defScope d__law_times.st) ∧ trCs T (trC T d__law_times.N 64 (defScope d__law_times.st)) (defBody d__law_times.st) = some d__law_times.body := ⟨⟨rfl, rfl, rfl, by decide +kernel, rfl, by decide +kernel, by decide +kernel⟩, by decide +kernel⟩
theorem a__law_times {K : PySem.W.Frag} : ∀ (f : Addr) (fd : FuncData), Fun K d__law_times.x d__law_times.x d__law_times.st f fd → Binds K fd d__law_times.ps [] := fun _ _ F => F.binds fun _ _ _ _ _ _ us hl => match us, hl with | [_, _], _ => rfl
theorem k__law_over : FnScope d__law_over.N d__law_over.ps (defScope d__law_over.st) ∧ trCs T (trC T d__law_over.N 64 (defScope d__law_over.st)) (defBody d__law_over.st) = some d__law_over.body := ⟨⟨rfl, rfl, rfl, by decide +kernel, rfl, by decide +kernel, by decide +kernel⟩, by decide +kernel⟩
theorem a__law_over {K : PySem.W.Frag} : ∀ (f : Addr) (fd : FuncData), Fun K d__law_over.x d__law_over.x d__law_over.st f fd → Binds K fd d__law_over.ps [] := fun _ _ F => F.binds fun _ _ _ _ _ _ us hl => match us, hl with | [_, _], _ => rfl
theorem k__law_back : FnScope d__law_back.N d__law_back.ps (defScope d__law_back.st) ∧ trCs T (trC T d__law_back.N 64 (defScope d__law_back.st)) (defBody d__law_back.st) = some d__law_back.body := ⟨⟨rfl, rfl, rfl, by decide +kernel, rfl, by decide +kernel, by decide +kernel⟩, by decide +kernel⟩
theorem a__law_back {K : PySem.W.Frag} : ∀ (f : Addr) (fd : FuncData), Fun K d__law_back.x d__law_back.x d__law_back.st f fd → Binds K fd d__law_back.ps [] := fun _ _ F => F.binds fun _ _ _ _ _ _ us hl => match us, hl with | [_], _ => rfl
theorem k__law_dot : FnScope d__law_dot.N d__law_dot.ps (defScope d__law_dot.st) ∧ trCs T (trC T d__law_dot.N 64 (defScope d__law_dot.st)) (defBody d__law_dot.st) = some d__law_dot.body := ⟨⟨rfl, rfl, rfl, by decide +kernel, rfl, by decide +kernel, by decide +kernel⟩, by decide +kernel⟩
theorem a__law_dot {K : PySem.W.Frag} : ∀ (f : Addr) (fd : FuncData), Fun K d__law_dot.x d__law_dot.x d__law_dot.st f fd → Binds K fd d__law_dot.ps [] := fun _ _ F => F.binds fun _ _ _ _ _ _ us hl => match us, hl with | [_, _], _ => rfl
theorem k__law_rowsum : FnScope d__law_rowsum.N d__law_rowsum.ps (defScope d__law_rowsum.st) ∧ trCs T (trC T d__law_rowsum.N 64 (defScope d__law_rowsum.st)) (defBody d__law_rowsum.st) = some d__law_rowsum.body := ⟨⟨rfl, rfl, rfl, by decide +kernel, rfl, by decide +kernel, by decide +kernel⟩, by decide +kernel⟩
theorem a__law_rowsum {K : PySem.W.Frag} : ∀ (f : Addr) (fd : FuncData), Fun K d__law_rowsum.x d__law_rowsum.x d__law_rowsum.st f fd → Binds K fd d__law_rowsum.ps [] := fun _ _ F => F.binds fun _ _ _ _ _ _ us hl => match us, hl with | [_, _], _ => rfl
theorem k__law_taken : FnScope d__law_taken.N d__law_taken.ps (defScope d__law_taken.st) ∧ trCs T (trC T d__law_taken.N 64 (defScope d__law_taken.st)) (defBody d__law_taken.st) = some d__law_taken.body := ⟨⟨rfl, rfl, rfl, by decide +kernel, rfl, by decide +kernel, by decide +kernel⟩, by decide +kernel⟩
theorem a__law_taken {K : PySem.W.Frag} : ∀ (f : Addr) (fd : FuncData), Fun K d__law_taken.x d__law_taken.x d__law_taken.st f fd → Binds K fd d__law_taken.ps [] := fun _ _ F => F.binds fun _ _ _ _ _ _ us hl => match us, hl with | [_, _], _ => rfl
theorem k__law_whole : FnScope d__law_whole.N d__law_whole.ps (defScope d__law_whole.st) ∧ trCs T (trC T d__law_whole.N 64 (defScope d__law_whole.st)) (defBody d__law_whole.st) = some d__law_whole.body := ⟨⟨rfl, rfl, rfl, by decide +kernel, rfl, by decide +kernel, by decide +kernel⟩, by decide +kernel⟩
theorem a__law_whole {K : PySem.W.Frag} : ∀ (f : Addr) (fd : FuncData), Fun K d__law_whole.x d__law_whole.x d__law_whole.st f fd → Binds K fd d__law_whole.ps [] := fun _ _ F => F.binds fun _ _ _ _ _ _ us hl => match us, hl with | [_], _ => rfl
theorem k__law_is_zero : FnScope d__law_is_zero.N d__law_is_zero.ps (defScope d__law_is_zero.st) ∧ trCs T (trC T d__law_is_zero.N 64 (defScope d__law_is_zero.st)) (defBody d__law_is_zero.st) = some d__law_is_zero.body := ⟨⟨rfl, rfl, rfl, by decide +kernel, rfl, by decide +kernel, by decide +kernel⟩, by decide +kernel⟩
theorem a__law_is_zero {K : PySem.W.Frag} : ∀ (f : Addr) (fd : FuncData), Fun K d__law_is_zero.x d__law_is_zero.x d__law_is_zero.st f fd → Binds K fd d__law_is_zero.ps [] := fun _ _ F => F.binds fun _ _ _ _ _ _ us hl => match us, hl with | [_], _ => rfl
theorem k__law_worth : FnScope d__law_worth.N d__law_worth.ps (defScope d__law_worth.st) ∧ trCs T (trC T d__law_worth.N 64 (defScope d__law_worth.st)) (defBody d__law_worth.st) = some d__law_worth.body := ⟨⟨rfl, rfl, rfl, by decide +kernel, rfl, by decide +kernel, by decide +kernel⟩, by decide +kernel⟩
theorem a__law_worth {K : PySem.W.Frag} : ∀ (f : Addr) (fd : FuncData), Fun K d__law_worth.x d__law_worth.x d__law_worth.st f fd → Binds K fd d__law_worth.ps [] := fun _ _ F => F.binds fun _ _ _ _ _ _ us hl => match us, hl with | [_, _], _ => rfl
theorem k__law_plane : FnScope d__law_plane.N d__law_plane.ps (defScope d__law_plane.st) ∧ trCs T (trC T d__law_plane.N 64 (defScope d__law_plane.st)) (defBody d__law_plane.st) = some d__law_plane.body := ⟨⟨rfl, rfl, rfl, by decide +kernel, rfl, by decide +kernel, by decide +kernel⟩, by decide +kernel⟩
theorem a__law_plane {K : PySem.W.Frag} : ∀ (f : Addr) (fd : FuncData), Fun K d__law_plane.x d__law_plane.x d__law_plane.st f fd → Binds K fd d__law_plane.ps [] := fun _ _ F => F.binds fun _ _ _ _ _ _ us hl => match us, hl with | [_, _], _ => rfl
theorem k__law_pair : FnScope d__law_pair.N d__law_pair.ps (defScope d__law_pair.st) ∧ trCs T (trC T d__law_pair.N 64 (defScope d__law_pair.st)) (defBody d__law_pair.st) = some d__law_pair.body := ⟨⟨rfl, rfl, rfl, by decide +kernel, rfl, by decide +kernel, by decide +kernel⟩, by decide +kernel⟩
theorem a__law_pair {K : PySem.W.Frag} : ∀ (f : Addr) (fd : FuncData), Fun K d__law_pair.x d__law_pair.x d__law_pair.st f fd → Binds K fd d__law_pair.ps [] := fun _ _ F => F.binds fun _ _ _ _ _ _ us hl => match us, hl with | [_], _ => rfl
theorem k__law_draw_fr : FnScope d__law_draw_fr.N d__law_draw_fr.ps (defScope d__law_draw_fr.st) ∧ trCs T (trC T d__law_draw_fr.N 64 (defScope d__law_draw_fr.st)) (defBody d__law_draw_fr.st) = some d__law_draw_fr.body := ⟨⟨rfl, rfl, rfl, by decide +kernel, rfl, by decide +kernel, by decide +kernel⟩, by decide +kernel⟩
theorem a__law_draw_fr {K : PySem.W.Frag} : ∀ (f : Addr) (fd : FuncData), Fun K d__law_draw_fr.x d__law_draw_fr.x d__law_draw_fr.st f fd → Binds K fd d__law_draw_fr.ps [] := fun _ _ F => F.binds fun _ _ _ _ _ _ us hl => match us, hl with | [_, _, _], _ => rfl
theorem k__law_draw_row : FnScope d__law_draw_row.N d__law_draw_row.ps (defScope d__law_draw_row.st) ∧ trCs T (trC T d__law_draw_row.N 64 (defScope d__law_draw_row.st)) (defBody d__law_draw_row.st) = some d__law_draw_row.body := ⟨⟨rfl, rfl, rfl, by decide +kernel, rfl, by decide +kernel, by decide +kernel⟩, by decide +kernel⟩
theorem a__law_draw_row {K : PySem.W.Frag} : ∀ (f : Addr) (fd : FuncData), Fun K d__law_draw_row.x d__law_draw_row.x d__law_draw_row.st f fd → Binds K fd d__law_draw_row.ps [] := fun _ _ F => F.binds fun _ _ _ _ _ _ us hl => match us, hl with | [_, _, _, _], _ => rfl
theorem k__law_net : FnScope d__law_net.N d__law_net.ps (defScope d__law_net.st) ∧ trCs T (trC T d__law_net.N 64 (defScope d__law_net.st)) (defBody d__law_net.st) = some d__law_net.body := ⟨⟨rfl, rfl, rfl, by decide +kernel, rfl, by decide +kernel, by decide +kernel⟩, by decide +kernel⟩
theorem a__law_net {K : PySem.W.Frag} : ∀ (f : Addr) (fd : FuncData), Fun K d__law_net.x d__law_net.x d__law_net.st f fd → Binds K fd d__law_net.ps [] := fun _ _ F => F.binds fun _ _ _ _ _ _ us hl => match us, hl with | [_, _, _, _, _], _ => rfl
theorem k__law_some_net : FnScope d__law_some_net.N d__law_some_net.ps (defScope d__law_some_net.st) ∧ trCs T (trC T d__law_some_net.N 64 (defScope d__law_some_net.st)) (defBody d__law_some_net.st) = some d__law_some_net.body := ⟨⟨rfl, rfl, rfl, by decide +kernel, rfl, by decide +kernel, by decide +kernel⟩, by decide +kernel⟩
theorem a__law_some_net {K : PySem.W.Frag} : ∀ (f : Addr) (fd : FuncData), Fun K d__law_some_net.x d__law_some_net.x d__law_some_net.st f fd → Binds K fd d__law_some_net.ps [] := fun _ _ F => F.binds fun _ _ _ _ _ _ us hl => match us, hl with | [_, _], _ => rfl
theorem k__law_is_int : FnScope d__law_is_int.N d__law_is_int.ps (defScope d__law_is_int.st) ∧ trCs T (trC T d__law_is_int.N 64 (defScope d__law_is_int.st)) (defBody d__law_is_int.st) = some d__law_is_int.body := ⟨⟨rfl, rfl, rfl, by decide +kernel, rfl, by decide +kernel, by decide +kernel⟩, by decide +kernel⟩
theorem a__law_is_int {K : PySem.W.Frag} : ∀ (f : Addr) (fd : FuncData), Fun K d__law_is_int.x d__law_is_int.x d__law_is_int.st f fd → Binds K fd d__law_is_int.ps [] := fun _ _ F => F.binds fun _ _ _ _ _ _ us hl => match us, hl with | [_], _ => rfl
theorem k__law_is_fraction : FnScope d__law_is_fraction.N d__law_is_fraction.ps (defScope d__law_is_fraction.st) ∧ trCs T (trC T d__law_is_fraction.N 64 (defScope d__law_is_fraction.st)) (defBody d__law_is_fraction.st) = some d__law_is_fraction.body := ⟨⟨rfl, rfl, rfl, by decide +kernel, rfl, by decide +kernel, by decide +kernel⟩, by decide +kernel⟩
theorem a__law_is_fraction {K : PySem.W.Frag} : ∀ (f : Addr) (fd : FuncData), Fun K d__law_is_fraction.x d__law_is_fraction.x d__law_is_fraction.st f fd → Binds K fd d__law_is_fraction.ps [] := fun _ _ F => F.binds fun _ _ _ _ _ _ us hl => match us, hl with | [_], _ => rfl
theorem k__law_is_row : FnScope d__law_is_row.N d__law_is_row.ps (defScope d__law_is_row.st) ∧ trCs T (trC T d__law_is_row.N 64 (defScope d__law_is_row.st)) (defBody d__law_is_row.st) = some d__law_is_row.body := ⟨⟨rfl, rfl, rfl, by decide +kernel, rfl, by decide +kernel, by decide +kernel⟩, by decide +kernel⟩
theorem a__law_is_row {K : PySem.W.Frag} : ∀ (f : Addr) (fd : FuncData), Fun K d__law_is_row.x d__law_is_row.x d__law_is_row.st f fd → Binds K fd d__law_is_row.ps [] := fun _ _ F => F.binds fun _ _ _ _ _ _ us hl => match us, hl with | [_, _], _ => rfl
theorem k__law_other : FnScope d__law_other.N d__law_other.ps (defScope d__law_other.st) ∧ trCs T (trC T d__law_other.N 64 (defScope d__law_other.st)) (defBody d__law_other.st) = some d__law_other.body := ⟨⟨rfl, rfl, rfl, by decide +kernel, rfl, by decide +kernel, by decide +kernel⟩, by decide +kernel⟩
theorem a__law_other {K : PySem.W.Frag} : ∀ (f : Addr) (fd : FuncData), Fun K d__law_other.x d__law_other.x d__law_other.st f fd → Binds K fd d__law_other.ps [] := fun _ _ F => F.binds fun _ _ _ _ _ _ us hl => match us, hl with | [_, _], _ => rfl
theorem k__law_with_more : FnScope d__law_with_more.N d__law_with_more.ps (defScope d__law_with_more.st) ∧ trCs T (trC T d__law_with_more.N 64 (defScope d__law_with_more.st)) (defBody d__law_with_more.st) = some d__law_with_more.body := ⟨⟨rfl, rfl, rfl, by decide +kernel, rfl, by decide +kernel, by decide +kernel⟩, by decide +kernel⟩
theorem a__law_with_more {K : PySem.W.Frag} : ∀ (f : Addr) (fd : FuncData), Fun K d__law_with_more.x d__law_with_more.x d__law_with_more.st f fd → Binds K fd d__law_with_more.ps [] := fun _ _ F => F.binds fun _ _ _ _ _ _ us hl => match us, hl with | [_, _], _ => rfl
theorem k__law_are_parted : FnScope d__law_are_parted.N d__law_are_parted.ps (defScope d__law_are_parted.st) ∧ trCs T (trC T d__law_are_parted.N 64 (defScope d__law_are_parted.st)) (defBody d__law_are_parted.st) = some d__law_are_parted.body := ⟨⟨rfl, rfl, rfl, by decide +kernel, rfl, by decide +kernel, by decide +kernel⟩, by decide +kernel⟩
theorem a__law_are_parted {K : PySem.W.Frag} : ∀ (f : Addr) (fd : FuncData), Fun K d__law_are_parted.x d__law_are_parted.x d__law_are_parted.st f fd → Binds K fd d__law_are_parted.ps [] := fun _ _ F => F.binds fun _ _ _ _ _ _ us hl => match us, hl with | [_, _, _], _ => rfl
theorem k__law_is_right : FnScope d__law_is_right.N d__law_is_right.ps (defScope d__law_is_right.st) ∧ trCs T (trC T d__law_is_right.N 64 (defScope d__law_is_right.st)) (defBody d__law_is_right.st) = some d__law_is_right.body := ⟨⟨rfl, rfl, rfl, by decide +kernel, rfl, by decide +kernel, by decide +kernel⟩, by decide +kernel⟩
theorem a__law_is_right {K : PySem.W.Frag} : ∀ (f : Addr) (fd : FuncData), Fun K d__law_is_right.x d__law_is_right.x d__law_is_right.st f fd → Binds K fd d__law_is_right.ps [] := fun _ _ F => F.binds fun _ _ _ _ _ _ us hl => match us, hl with | [_, _], _ => rfl
theorem k_law : FnScope d_law.N d_law.ps (defScope d_law.st) ∧ trCs T (trC T d_law.N 64 (defScope d_law.st)) (defBody d_law.st) = some d_law.body := ⟨⟨rfl, rfl, rfl, by decide +kernel, rfl, by decide +kernel, by decide +kernel⟩, by decide +kernel⟩
theorem a_law {K : PySem.W.Frag} : ∀ (f : Addr) (fd : FuncData), Fun K d_law.x d_law.x d_law.st f fd → Binds K fd d_law.ps [] := fun _ _ F => F.binds fun _ _ _ _ _ _ us hl => match us, hl with | [_], _ => rfl
theorem chk : ∀ d ∈ defs, FnScope d.N d.ps (defScope d.st) ∧ trCs T (trC T d.N 64 (defScope d.st)) (defBody d.st) = some d.body := (all_cons k_is_whole (all_cons k_is_tuple (all_cons k_is_headed (all_cons k_divisor (all_cons k_divisor_of (all_cons k_multiple (all_cons k_lowest (all_cons k_is_fraction (all_cons k_is_row (all_cons k_plus (all_cons k_product (all_cons k_negative (all_cons k_size_of (all_cons k_cut_off (all_cons k_dot (all_cons k_added_rows (all_cons k_scaled_row (all_cons k_zeros (all_cons k_unit_row (all_cons k_is_nothing (all_cons k_whole_row (all_cons k_common_below (all_cons k_plane_of (all_cons k_height (all_cons k_normal (all_cons k_net_of (all_cons k_least (all_cons k_is_least (all_cons k_turned (all_cons k_straight_at (all_cons k_answer (all_cons k_minus_net (all_cons k_point_on (all_cons k_ways_along (all_cons k_power_of (all_cons k_free_point (all_cons k_near_step (all_cons k_least_of (all_cons k_around (all_cons k_showing_point (all_cons k_alike (all_cons k_judge_alike (all_cons k__law_bag (all_cons k__law_draw (all_cons k__law_pick (all_cons k__law_some (all_cons k__law_same (all_cons k__law_gcd (all_cons k__law_fr (all_cons k__law_plus (all_cons k__law_times (all_cons k__law_over (all_cons k__law_back (all_cons k__law_dot (all_cons k__law_rowsum (all_cons k__law_taken (all_cons k__law_whole (all_cons k__law_is_zero (all_cons k__law_worth (all_cons k__law_plane (all_cons k__law_pair (all_cons k__law_draw_fr (all_cons k__law_draw_row (all_cons k__law_net (all_cons k__law_some_net (all_cons k__law_is_int (all_cons k__law_is_fraction (all_cons k__law_is_row (all_cons k__law_other (all_cons k__law_with_more (all_cons k__law_are_parted (all_cons k__law_is_right (all_cons k_law all_nil)))))))))))))))))))))))))))))))))))))))))))))))))))))))))))))))))))))))))
theorem bnd {K : PySem.W.Frag} : ∀ d ∈ defs, ∀ (f : Addr) (fd : FuncData), Fun K d.x d.x d.st f fd → Binds K fd d.ps [] := (all_cons a_is_whole (all_cons a_is_tuple (all_cons a_is_headed (all_cons a_divisor (all_cons a_divisor_of (all_cons a_multiple (all_cons a_lowest (all_cons a_is_fraction (all_cons a_is_row (all_cons a_plus (all_cons a_product (all_cons a_negative (all_cons a_size_of (all_cons a_cut_off (all_cons a_dot (all_cons a_added_rows (all_cons a_scaled_row (all_cons a_zeros (all_cons a_unit_row (all_cons a_is_nothing (all_cons a_whole_row (all_cons a_common_below (all_cons a_plane_of (all_cons a_height (all_cons a_normal (all_cons a_net_of (all_cons a_least (all_cons a_is_least (all_cons a_turned (all_cons a_straight_at (all_cons a_answer (all_cons a_minus_net (all_cons a_point_on (all_cons a_ways_along (all_cons a_power_of (all_cons a_free_point (all_cons a_near_step (all_cons a_least_of (all_cons a_around (all_cons a_showing_point (all_cons a_alike (all_cons a_judge_alike (all_cons a__law_bag (all_cons a__law_draw (all_cons a__law_pick (all_cons a__law_some (all_cons a__law_same (all_cons a__law_gcd (all_cons a__law_fr (all_cons a__law_plus (all_cons a__law_times (all_cons a__law_over (all_cons a__law_back (all_cons a__law_dot (all_cons a__law_rowsum (all_cons a__law_taken (all_cons a__law_whole (all_cons a__law_is_zero (all_cons a__law_worth (all_cons a__law_plane (all_cons a__law_pair (all_cons a__law_draw_fr (all_cons a__law_draw_row (all_cons a__law_net (all_cons a__law_some_net (all_cons a__law_is_int (all_cons a__law_is_fraction (all_cons a__law_is_row (all_cons a__law_other (all_cons a__law_with_more (all_cons a__law_are_parted (all_cons a__law_is_right (all_cons a_law all_nil)))))))))))))))))))))))))))))))))))))))))))))))))))))))))))))))))))))))))
theorem gxs : ∀ d ∈ defs, gxB d.N = true → d.x ∈ (["is_row", "added_rows", "scaled_row", "unit_row", "is_nothing", "whole_row", "normal", "net_of", "minus_net", "point_on", "free_point", "showing_point"] : List Str) := by decide +kernel
theorem nm : (T.fns.all fun y => match defs[y.2]? with | some d => decide (d.x = y.1) | none => false) = true := by decide +kernel
theorem kb_0 {K : PySem.W.Frag} : ∀ (f : Addr) (fd : FuncData), Fun K d_judge_alike.x d_judge_alike.x d_judge_alike.st f fd → KBinds K fd d_judge_alike.ps ["value", "other", "net"] (arr 0 3 [2, 1, 0]) (arr 0 3 [2, 1, 0]) := fun _ _ F => by
  obtain ⟨oc, od, kV, doc, pm, an, cdv, ct, osl, rfl, lk, hcd⟩ := F.ex
  exact kbinds_mk (by decide +kernel) fun us ws h1 h2 => match us, ws, h1, h2 with | [], [_, _, _], _, _ => rfl
theorem kb_1 {K : PySem.W.Frag} : ∀ (f : Addr) (fd : FuncData), Fun K d_normal.x d_normal.x d_normal.st f fd → KBinds K fd d_normal.ps ["net"] (arr 0 1 [0]) (arr 0 1 [0]) := fun _ _ F => by
  obtain ⟨oc, od, kV, doc, pm, an, cdv, ct, osl, rfl, lk, hcd⟩ := F.ex
  exact kbinds_mk (by decide +kernel) fun us ws h1 h2 => match us, ws, h1, h2 with | [], [_], _, _ => rfl
theorem kb_2 {K : PySem.W.Frag} : ∀ (f : Addr) (fd : FuncData), Fun K d_alike.x d_alike.x d_alike.st f fd → KBinds K fd d_alike.ps ["other", "net"] (arr 0 2 [1, 0]) (arr 0 2 [1, 0]) := fun _ _ F => by
  obtain ⟨oc, od, kV, doc, pm, an, cdv, ct, osl, rfl, lk, hcd⟩ := F.ex
  exact kbinds_mk (by decide +kernel) fun us ws h1 h2 => match us, ws, h1, h2 with | [], [_, _], _, _ => rfl
theorem kb_3 {K : PySem.W.Frag} : ∀ (f : Addr) (fd : FuncData), Fun K d_least.x d_least.x d_least.st f fd → KBinds K fd d_least.ps ["net"] (arr 0 1 [0]) (arr 0 1 [0]) := fun _ _ F => by
  obtain ⟨oc, od, kV, doc, pm, an, cdv, ct, osl, rfl, lk, hcd⟩ := F.ex
  exact kbinds_mk (by decide +kernel) fun us ws h1 h2 => match us, ws, h1, h2 with | [], [_], _, _ => rfl
theorem kb_4 {K : PySem.W.Frag} : ∀ (f : Addr) (fd : FuncData), Fun K d_turned.x d_turned.x d_turned.st f fd → KBinds K fd d_turned.ps ["lot", "net"] (arr 0 2 [1, 0]) (arr 0 2 [1, 0]) := fun _ _ F => by
  obtain ⟨oc, od, kV, doc, pm, an, cdv, ct, osl, rfl, lk, hcd⟩ := F.ex
  exact kbinds_mk (by decide +kernel) fun us ws h1 h2 => match us, ws, h1, h2 with | [], [_, _], _, _ => rfl
theorem kb_5 {K : PySem.W.Frag} : ∀ (f : Addr) (fd : FuncData), Fun K d_alike.x d_alike.x d_alike.st f fd → KBinds K fd d_alike.ps ["net", "other"] (arr 0 2 [0, 1]) (arr 0 2 [0, 1]) := fun _ _ F => by
  obtain ⟨oc, od, kV, doc, pm, an, cdv, ct, osl, rfl, lk, hcd⟩ := F.ex
  exact kbinds_mk (by decide +kernel) fun us ws h1 h2 => match us, ws, h1, h2 with | [], [_, _], _, _ => rfl
theorem kb_6 {K : PySem.W.Frag} : ∀ (f : Addr) (fd : FuncData), Fun K d_is_least.x d_is_least.x d_is_least.st f fd → KBinds K fd d_is_least.ps ["net"] (arr 0 1 [0]) (arr 0 1 [0]) := fun _ _ F => by
  obtain ⟨oc, od, kV, doc, pm, an, cdv, ct, osl, rfl, lk, hcd⟩ := F.ex
  exact kbinds_mk (by decide +kernel) fun us ws h1 h2 => match us, ws, h1, h2 with | [], [_], _, _ => rfl
theorem kw {K : PySem.W.Frag} : ∀ (kp f n : Nat) (ks : List Str) (p : List Nat), T.kws[kp]? = some (f, n, ks, p) → X.kps[kp]? = some (n, ks.length, p) ∧ ∀ d : DefI, defs[f]? = some d → ∀ fa fd, Fun K d.x d.x d.st fa fd → KBinds K fd d.ps ks (arr n ks.length p) (arr n ks.length p) := fun kp f n ks p h => by
  match kp, h with
  | 0, h => cases h; exact ⟨rfl, fun d e => by cases e; exact kb_0⟩
  | 1, h => cases h; exact ⟨rfl, fun d e => by cases e; exact kb_1⟩
  | 2, h => cases h; exact ⟨rfl, fun d e => by cases e; exact kb_2⟩
  | 3, h => cases h; exact ⟨rfl, fun d e => by cases e; exact kb_3⟩
  | 4, h => cases h; exact ⟨rfl, fun d e => by cases e; exact kb_4⟩
  | 5, h => cases h; exact ⟨rfl, fun d e => by cases e; exact kb_5⟩
  | 6, h => cases h; exact ⟨rfl, fun d e => by cases e; exact kb_6⟩
  | _ + 7, h => cases h
theorem kwl : ∀ (kp f n : Nat) (ks : List Str) (p : List Nat), T.kws[kp]? = some (f, n, ks, p) → ∃ d, defs[f]? = some d := fun kp f n ks p h => by
  match kp, h with
  | 0, h => cases h; exact ⟨_, rfl⟩
  | 1, h => cases h; exact ⟨_, rfl⟩
  | 2, h => cases h; exact ⟨_, rfl⟩
  | 3, h => cases h; exact ⟨_, rfl⟩
  | 4, h => cases h; exact ⟨_, rfl⟩
  | 5, h => cases h; exact ⟨_, rfl⟩
  | 6, h => cases h; exact ⟨_, rfl⟩
  | _ + 7, h => cases h
theorem bl {K : PySem.W.Frag} : ∀ (f : Addr) (fd : FuncData), Fun K d_law.x d_law.x d_law.st f fd → ∀ (s : Shared) (u : Value), BindsTo s fd ⟨[u], []⟩ [("script", u)] := fun _ _ F s u => by
  obtain ⟨oc, od, kV, doc, pm, an, cdv, ct, osl, rfl, lk, hcd⟩ := F.ex
  exact .of_eq rfl
theorem law_mk {l : PySem.W.OpenLaw} {w : World} {K : PySem.W.Frag} {mg : Str → Option Value} {fa : Addr} {h : Heap} {q : Program} (hq : DL.Recs q mg h) (hz : DL.noTab K = true) (hn : ((["is_row", "added_rows", "scaled_row", "unit_row", "is_nothing", "whole_row", "normal", "net_of", "minus_net", "point_on", "free_point", "showing_point"] : List Str).all fun x => (PyProof.Rows.recsOf q).any fun d => d.name == x) = true) (hp : l.prog.given.tree = none) (KX : K.In h) (G : h.Ns mainGlobals mg) (hfa : mg "law" = some (.ref fa))
    (h_is_whole : FunAt K d_is_whole)
    (h_is_tuple : FunAt K d_is_tuple)
    (h_is_headed : FunAt K d_is_headed)
    (h_divisor : FunAt K d_divisor)
    (h_divisor_of : FunAt K d_divisor_of)
    (h_multiple : FunAt K d_multiple)
    (h_lowest : FunAt K d_lowest)
    (h_is_fraction : FunAt K d_is_fraction)
    (h_is_row : FunAt K d_is_row)
    (h_plus : FunAt K d_plus)
    (h_product : FunAt K d_product)
    (h_negative : FunAt K d_negative)
    (h_size_of : FunAt K d_size_of)
    (h_cut_off : FunAt K d_cut_off)
    (h_dot : FunAt K d_dot)
    (h_added_rows : FunAt K d_added_rows)
    (h_scaled_row : FunAt K d_scaled_row)
    (h_zeros : FunAt K d_zeros)
    (h_unit_row : FunAt K d_unit_row)
    (h_is_nothing : FunAt K d_is_nothing)
    (h_whole_row : FunAt K d_whole_row)
    (h_common_below : FunAt K d_common_below)
    (h_plane_of : FunAt K d_plane_of)
    (h_height : FunAt K d_height)
    (h_normal : FunAt K d_normal)
    (h_net_of : FunAt K d_net_of)
    (h_least : FunAt K d_least)
    (h_is_least : FunAt K d_is_least)
    (h_turned : FunAt K d_turned)
    (h_straight_at : FunAt K d_straight_at)
    (h_answer : FunAt K d_answer)
    (h_minus_net : FunAt K d_minus_net)
    (h_point_on : FunAt K d_point_on)
    (h_ways_along : FunAt K d_ways_along)
    (h_power_of : FunAt K d_power_of)
    (h_free_point : FunAt K d_free_point)
    (h_near_step : FunAt K d_near_step)
    (h_least_of : FunAt K d_least_of)
    (h_around : FunAt K d_around)
    (h_showing_point : FunAt K d_showing_point)
    (h_alike : FunAt K d_alike)
    (h_judge_alike : FunAt K d_judge_alike)
    (h__law_bag : FunAt K d__law_bag)
    (h__law_draw : FunAt K d__law_draw)
    (h__law_pick : FunAt K d__law_pick)
    (h__law_some : FunAt K d__law_some)
    (h__law_same : FunAt K d__law_same)
    (h__law_gcd : FunAt K d__law_gcd)
    (h__law_fr : FunAt K d__law_fr)
    (h__law_plus : FunAt K d__law_plus)
    (h__law_times : FunAt K d__law_times)
    (h__law_over : FunAt K d__law_over)
    (h__law_back : FunAt K d__law_back)
    (h__law_dot : FunAt K d__law_dot)
    (h__law_rowsum : FunAt K d__law_rowsum)
    (h__law_taken : FunAt K d__law_taken)
    (h__law_whole : FunAt K d__law_whole)
    (h__law_is_zero : FunAt K d__law_is_zero)
    (h__law_worth : FunAt K d__law_worth)
    (h__law_plane : FunAt K d__law_plane)
    (h__law_pair : FunAt K d__law_pair)
    (h__law_draw_fr : FunAt K d__law_draw_fr)
    (h__law_draw_row : FunAt K d__law_draw_row)
    (h__law_net : FunAt K d__law_net)
    (h__law_some_net : FunAt K d__law_some_net)
    (h__law_is_int : FunAt K d__law_is_int)
    (h__law_is_fraction : FunAt K d__law_is_fraction)
    (h__law_is_row : FunAt K d__law_is_row)
    (h__law_other : FunAt K d__law_other)
    (h__law_with_more : FunAt K d__law_with_more)
    (h__law_are_parted : FunAt K d__law_are_parted)
    (h__law_is_right : FunAt K d__law_is_right)
    (h_law : FunAt K d_law)
    (z_len : PySem.W.nsIn K mainGlobals "len" = some none)
    (z_tuple : PySem.W.nsIn K mainGlobals "tuple" = some none)
    (z_abs : PySem.W.nsIn K mainGlobals "abs" = some none)
    (z_int : PySem.W.nsIn K mainGlobals "int" = some none)
    (z_list : PySem.W.nsIn K mainGlobals "list" = some none)
    (z_bool : PySem.W.nsIn K mainGlobals "bool" = some none)
    (z_str : PySem.W.nsIn K mainGlobals "str" = some none)
    (z_isinstance : PySem.W.nsIn K mainGlobals "isinstance" = some none)
    (z_zip : PySem.W.nsIn K mainGlobals "zip" = some none)
    (z_range : PySem.W.nsIn K mainGlobals "range" = some none)
    (z_all : PySem.W.nsIn K mainGlobals "all" = some none)
    (z_any : PySem.W.nsIn K mainGlobals "any" = some none)
    (z_enumerate : PySem.W.nsIn K mainGlobals "enumerate" = some none)
    (z_sorted : PySem.W.nsIn K mainGlobals "sorted" = some none)
    (z_min : PySem.W.nsIn K mainGlobals "min" = some none)
    (z_max : PySem.W.nsIn K mainGlobals "max" = some none)
    (z_sum : PySem.W.nsIn K mainGlobals "sum" = some none)
    (c_NOTHING : ConAt K mg X "NOTHING" 0)
    (c_ONE : ConAt K mg X "ONE" 1)
    : LawD l w K (32 + 8 * 12) 63 "script" mg fa h := by
  obtain ⟨cs, hcs, hgx⟩ := gx_tabs hq KX hz _ hn
  refine law_frame (T := T) (X' := X) (fuel := 64) (defs := defs) (fs := fs) (dl := d_law) (j := 72) (m := 12) cs hcs (fun d hd hx f fd e F => by obtain ⟨oc, od, kV, doc, pm, an, cdv, ct, osl, rfl, lk, hcd⟩ := F.ex; exact hgx d.x (gxs d hd hx) f _ _ e (KX _ _ lk) rfl) KX G hfa (all_cons h_is_whole (all_cons h_is_tuple (all_cons h_is_headed (all_cons h_divisor (all_cons h_divisor_of (all_cons h_multiple (all_cons h_lowest (all_cons h_is_fraction (all_cons h_is_row (all_cons h_plus (all_cons h_product (all_cons h_negative (all_cons h_size_of (all_cons h_cut_off (all_cons h_dot (all_cons h_added_rows (all_cons h_scaled_row (all_cons h_zeros (all_cons h_unit_row (all_cons h_is_nothing (all_cons h_whole_row (all_cons h_common_below (all_cons h_plane_of (all_cons h_height (all_cons h_normal (all_cons h_net_of (all_cons h_least (all_cons h_is_least (all_cons h_turned (all_cons h_straight_at (all_cons h_answer (all_cons h_minus_net (all_cons h_point_on (all_cons h_ways_along (all_cons h_power_of (all_cons h_free_point (all_cons h_near_step (all_cons h_least_of (all_cons h_around (all_cons h_showing_point (all_cons h_alike (all_cons h_judge_alike (all_cons h__law_bag (all_cons h__law_draw (all_cons h__law_pick (all_cons h__law_some (all_cons h__law_same (all_cons h__law_gcd (all_cons h__law_fr (all_cons h__law_plus (all_cons h__law_times (all_cons h__law_over (all_cons h__law_back (all_cons h__law_dot (all_cons h__law_rowsum (all_cons h__law_taken (all_cons h__law_whole (all_cons h__law_is_zero (all_cons h__law_worth (all_cons h__law_plane (all_cons h__law_pair (all_cons h__law_draw_fr (all_cons h__law_draw_row (all_cons h__law_net (all_cons h__law_some_net (all_cons h__law_is_int (all_cons h__law_is_fraction (all_cons h__law_is_row (all_cons h__law_other (all_cons h__law_with_more (all_cons h__law_are_parted (all_cons h__law_is_right (all_cons h_law all_nil))))))))))))))))))))))))))))))))))))))))))))))))))))))))))))))))))))))))) chk bnd nm kw kwl ?_ ?_ hp rfl rfl bl rfl fun zs hz _ => law_ok hz fun _ => rfl
  · intro x i e
    have e := lkS_mem e
    simp only [T, List.mem_cons, Prod.mk.injEq, List.not_mem_nil, or_false] at e
    rcases e with ⟨rfl, rfl⟩ | ⟨rfl, rfl⟩
    · exact c_NOTHING
    · exact c_ONE
  · exact all_cons z_len (all_cons z_tuple (all_cons z_abs (all_cons z_int (all_cons z_list (all_cons z_bool (all_cons z_str (all_cons z_isinstance (all_cons z_zip (all_cons z_range (all_cons z_all (all_cons z_any (all_cons z_enumerate (all_cons z_sorted (all_cons z_min (all_cons z_max (all_cons z_sum (all_nil)))))))))))))))))
end K08
open PySem PySem.W PyProof.Rows in
set_option maxRecDepth 100000 in
set_option maxHeartbeats 0 in
theorem PySem.Challenge.cw_hingelayer_k08_whole_least_nets_holds : PySem.Challenge.rw_hingelayer_k08_whole_least_nets.Holds := by
  w_on; o_law; k_head; (case hw => w_witness2)
  k_fill
  refine DL.walk_D (n := 63) (k := 32 + 8 * 12) (x := "script") (l := PySem.Challenge.rw_hingelayer_k08_whole_least_nets) rfl (by decide) rfl ⟨rfl, by decide, by decide⟩ (by decide +kernel) (fun w h Y => PySem.W.kIn_of Y) ?F
  case F =>
    intro w mg fa h _ KX G hmg hq
    refine' K08.law_mk hq (by rfl) (by decide +kernel) rfl KX G hmg (DL.funAt (x := "is_whole") (st := K08.top 1) ?a_0 ?l_0 ?c_0 ?k_0) (DL.funAt (x := "is_tuple") (st := K08.top 2) ?a_1 ?l_1 ?c_1 ?k_1) (DL.funAt (x := "is_headed") (st := K08.top 3) ?a_2 ?l_2 ?c_2 ?k_2) (DL.funAt (x := "divisor") (st := K08.top 4) ?a_3 ?l_3 ?c_3 ?k_3) (DL.funAt (x := "divisor_of") (st := K08.top 5) ?a_4 ?l_4 ?c_4 ?k_4) (DL.funAt (x := "multiple") (st := K08.top 6) ?a_5 ?l_5 ?c_5 ?k_5) (DL.funAt (x := "lowest") (st := K08.top 10) ?a_6 ?l_6 ?c_6 ?k_6) (DL.funAt (x := "is_fraction") (st := K08.top 11) ?a_7 ?l_7 ?c_7 ?k_7) (DL.funAt (x := "is_row") (st := K08.top 12) ?a_8 ?l_8 ?c_8 ?k_8) (DL.funAt (x := "plus") (st := K08.top 13) ?a_9 ?l_9 ?c_9 ?k_9) (DL.funAt (x := "product") (st := K08.top 14) ?a_10 ?l_10 ?c_10 ?k_10) (DL.funAt (x := "negative") (st := K08.top 15) ?a_11 ?l_11 ?c_11 ?k_11) (DL.funAt (x := "size_of") (st := K08.top 16) ?a_12 ?l_12 ?c_12 ?k_12) (DL.funAt (x := "cut_off") (st := K08.top 17) ?a_13 ?l_13 ?c_13 ?k_13) (DL.funAt (x := "dot") (st := K08.top 18) ?a_14 ?l_14 ?c_14 ?k_14) (DL.funAt (x := "added_rows") (st := K08.top 19) ?a_15 ?l_15 ?c_15 ?k_15) (DL.funAt (x := "scaled_row") (st := K08.top 20) ?a_16 ?l_16 ?c_16 ?k_16) (DL.funAt (x := "zeros") (st := K08.top 21) ?a_17 ?l_17 ?c_17 ?k_17) (DL.funAt (x := "unit_row") (st := K08.top 22) ?a_18 ?l_18 ?c_18 ?k_18) (DL.funAt (x := "is_nothing") (st := K08.top 23) ?a_19 ?l_19 ?c_19 ?k_19) (DL.funAt (x := "whole_row") (st := K08.top 24) ?a_20 ?l_20 ?c_20 ?k_20) (DL.funAt (x := "common_below") (st := K08.top 25) ?a_21 ?l_21 ?c_21 ?k_21) (DL.funAt (x := "plane_of") (st := K08.top 27) ?a_22 ?l_22 ?c_22 ?k_22) (DL.funAt (x := "height") (st := K08.top 28) ?a_23 ?l_23 ?c_23 ?k_23) (DL.funAt (x := "normal") (st := K08.top 30) ?a_24 ?l_24 ?c_24 ?k_24) (DL.funAt (x := "net_of") (st := K08.top 31) ?a_25 ?l_25 ?c_25 ?k_25) (DL.funAt (x := "least") (st := K08.top 32) ?a_26 ?l_26 ?c_26 ?k_26) (DL.funAt (x := "is_least") (st := K08.top 33) ?a_27 ?l_27 ?c_27 ?k_27) (DL.funAt (x := "turned") (st := K08.top 34) ?a_28 ?l_28 ?c_28 ?k_28) (DL.funAt (x := "straight_at") (st := K08.top 36) ?a_29 ?l_29 ?c_29 ?k_29) (DL.funAt (x := "answer") (st := K08.top 37) ?a_30 ?l_30 ?c_30 ?k_30) (DL.funAt (x := "minus_net") (st := K08.top 39) ?a_31 ?l_31 ?c_31 ?k_31) (DL.funAt (x := "point_on") (st := K08.top 40) ?a_32 ?l_32 ?c_32 ?k_32) (DL.funAt (x := "ways_along") (st := K08.top 41) ?a_33 ?l_33 ?c_33 ?k_33) (DL.funAt (x := "power_of") (st := K08.top 42) ?a_34 ?l_34 ?c_34 ?k_34) (DL.funAt (x := "free_point") (st := K08.top 43) ?a_35 ?l_35 ?c_35 ?k_35) (DL.funAt (x := "near_step") (st := K08.top 44) ?a_36 ?l_36 ?c_36 ?k_36) (DL.funAt (x := "least_of") (st := K08.top 45) ?a_37 ?l_37 ?c_37 ?k_37) (DL.funAt (x := "around") (st := K08.top 46) ?a_38 ?l_38 ?c_38 ?k_38) (DL.funAt (x := "showing_point") (st := K08.top 47) ?a_39 ?l_39 ?c_39 ?k_39) (DL.funAt (x := "alike") (st := K08.top 48) ?a_40 ?l_40 ?c_40 ?k_40) (DL.funAt (x := "judge_alike") (st := K08.top 49) ?a_41 ?l_41 ?c_41 ?k_41) (DL.funAt (x := "_law_bag") (st := K08.top 51) ?a_42 ?l_42 ?c_42 ?k_42) (DL.funAt (x := "_law_draw") (st := K08.top 52) ?a_43 ?l_43 ?c_43 ?k_43) (DL.funAt (x := "_law_pick") (st := K08.top 53) ?a_44 ?l_44 ?c_44 ?k_44) (DL.funAt (x := "_law_some") (st := K08.top 54) ?a_45 ?l_45 ?c_45 ?k_45) (DL.funAt (x := "_law_same") (st := K08.top 55) ?a_46 ?l_46 ?c_46 ?k_46) (DL.funAt (x := "_law_gcd") (st := K08.top 56) ?a_47 ?l_47 ?c_47 ?k_47) (DL.funAt (x := "_law_fr") (st := K08.top 57) ?a_48 ?l_48 ?c_48 ?k_48) (DL.funAt (x := "_law_plus") (st := K08.top 58) ?a_49 ?l_49 ?c_49 ?k_49) (DL.funAt (x := "_law_times") (st := K08.top 59) ?a_50 ?l_50 ?c_50 ?k_50) (DL.funAt (x := "_law_over") (st := K08.top 60) ?a_51 ?l_51 ?c_51 ?k_51) (DL.funAt (x := "_law_back") (st := K08.top 61) ?a_52 ?l_52 ?c_52 ?k_52) (DL.funAt (x := "_law_dot") (st := K08.top 62) ?a_53 ?l_53 ?c_53 ?k_53) (DL.funAt (x := "_law_rowsum") (st := K08.top 63) ?a_54 ?l_54 ?c_54 ?k_54) (DL.funAt (x := "_law_taken") (st := K08.top 64) ?a_55 ?l_55 ?c_55 ?k_55) (DL.funAt (x := "_law_whole") (st := K08.top 65) ?a_56 ?l_56 ?c_56 ?k_56) (DL.funAt (x := "_law_is_zero") (st := K08.top 66) ?a_57 ?l_57 ?c_57 ?k_57) (DL.funAt (x := "_law_worth") (st := K08.top 67) ?a_58 ?l_58 ?c_58 ?k_58) (DL.funAt (x := "_law_plane") (st := K08.top 68) ?a_59 ?l_59 ?c_59 ?k_59) (DL.funAt (x := "_law_pair") (st := K08.top 69) ?a_60 ?l_60 ?c_60 ?k_60) (DL.funAt (x := "_law_draw_fr") (st := K08.top 70) ?a_61 ?l_61 ?c_61 ?k_61) (DL.funAt (x := "_law_draw_row") (st := K08.top 71) ?a_62 ?l_62 ?c_62 ?k_62) (DL.funAt (x := "_law_net") (st := K08.top 72) ?a_63 ?l_63 ?c_63 ?k_63) (DL.funAt (x := "_law_some_net") (st := K08.top 73) ?a_64 ?l_64 ?c_64 ?k_64) (DL.funAt (x := "_law_is_int") (st := K08.top 74) ?a_65 ?l_65 ?c_65 ?k_65) (DL.funAt (x := "_law_is_fraction") (st := K08.top 75) ?a_66 ?l_66 ?c_66 ?k_66) (DL.funAt (x := "_law_is_row") (st := K08.top 76) ?a_67 ?l_67 ?c_67 ?k_67) (DL.funAt (x := "_law_other") (st := K08.top 77) ?a_68 ?l_68 ?c_68 ?k_68) (DL.funAt (x := "_law_with_more") (st := K08.top 78) ?a_69 ?l_69 ?c_69 ?k_69) (DL.funAt (x := "_law_are_parted") (st := K08.top 79) ?a_70 ?l_70 ?c_70 ?k_70) (DL.funAt (x := "_law_is_right") (st := K08.top 80) ?a_71 ?l_71 ?c_71 ?k_71) (DL.funAt (x := "law") (st := K08.top 81) ?a_72 ?l_72 ?c_72 ?k_72) ?z_len ?z_tuple ?z_abs ?z_int ?z_list ?z_bool ?z_str ?z_isinstance ?z_zip ?z_range ?z_all ?z_any ?z_enumerate ?z_sorted ?z_min ?z_max ?z_sum (DL.conPair (i := 0) (j := 1) KX G ?e_NOTHING ?m_NOTHING ?t_NOTHING rfl) (DL.conPair (i := 1) (j := 1) KX G ?e_ONE ?m_ONE ?t_ONE rfl)
    (case a_0 => k_is)
    (case l_0 => k_is)
    (case c_0 => k_is)
    (case k_0 => k_is)
    (case a_1 => k_is)
    (case l_1 => k_is)
    (case c_1 => k_is)
    (case k_1 => k_is)
    (case a_2 => k_is)
    (case l_2 => k_is)
    (case c_2 => k_is)
    (case k_2 => k_is)
    (case a_3 => k_is)
    (case l_3 => k_is)
    (case c_3 => k_is)
    (case k_3 => k_is)
    (case a_4 => k_is)
    (case l_4 => k_is)
    (case c_4 => k_is)
    (case k_4 => k_is)
    (case a_5 => k_is)
    (case l_5 => k_is)
    (case c_5 => k_is)
    (case k_5 => k_is)
    (case a_6 => k_is)
    (case l_6 => k_is)
    (case c_6 => k_is)
    (case k_6 => k_is)
    (case a_7 => k_is)
    (case l_7 => k_is)
    (case c_7 => k_is)
    (case k_7 => k_is)
    (case a_8 => k_is)
    (case l_8 => k_is)
    (case c_8 => k_is)
    (case k_8 => k_is)
    (case a_9 => k_is)
    (case l_9 => k_is)
    (case c_9 => k_is)
    (case k_9 => k_is)
    (case a_10 => k_is)
    (case l_10 => k_is)
    (case c_10 => k_is)
    (case k_10 => k_is)
    (case a_11 => k_is)
    (case l_11 => k_is)
    (case c_11 => k_is)
    (case k_11 => k_is)
    (case a_12 => k_is)
    (case l_12 => k_is)
    (case c_12 => k_is)
    (case k_12 => k_is)
    (case a_13 => k_is)
    (case l_13 => k_is)
    (case c_13 => k_is)
    (case k_13 => k_is)
    (case a_14 => k_is)
    (case l_14 => k_is)
    (case c_14 => k_is)
    (case k_14 => k_is)
    (case a_15 => k_is)
    (case l_15 => k_is)
    (case c_15 => k_is)
    (case k_15 => k_is)
    (case a_16 => k_is)
    (case l_16 => k_is)
    (case c_16 => k_is)
    (case k_16 => k_is)
    (case a_17 => k_is)
    (case l_17 => k_is)
    (case c_17 => k_is)
    (case k_17 => k_is)
    (case a_18 => k_is)
    (case l_18 => k_is)
    (case c_18 => k_is)
    (case k_18 => k_is)
    (case a_19 => k_is)
    (case l_19 => k_is)
    (case c_19 => k_is)
    (case k_19 => k_is)
    (case a_20 => k_is)
    (case l_20 => k_is)
    (case c_20 => k_is)
    (case k_20 => k_is)
    (case a_21 => k_is)
    (case l_21 => k_is)
    (case c_21 => k_is)
    (case k_21 => k_is)
    (case a_22 => k_is)
    (case l_22 => k_is)
    (case c_22 => k_is)
    (case k_22 => k_is)
    (case a_23 => k_is)
    (case l_23 => k_is)
    (case c_23 => k_is)
    (case k_23 => k_is)
    (case a_24 => k_is)
    (case l_24 => k_is)
    (case c_24 => k_is)
    (case k_24 => k_is)
    (case a_25 => k_is)
    (case l_25 => k_is)
    (case c_25 => k_is)
    (case k_25 => k_is)
    (case a_26 => k_is)
    (case l_26 => k_is)
    (case c_26 => k_is)
    (case k_26 => k_is)
    (case a_27 => k_is)
    (case l_27 => k_is)
    (case c_27 => k_is)
    (case k_27 => k_is)
    (case a_28 => k_is)
    (case l_28 => k_is)
    (case c_28 => k_is)
    (case k_28 => k_is)
    (case a_29 => k_is)
    (case l_29 => k_is)
    (case c_29 => k_is)
    (case k_29 => k_is)
    (case a_30 => k_is)
    (case l_30 => k_is)
    (case c_30 => k_is)
    (case k_30 => k_is)
    (case a_31 => k_is)
    (case l_31 => k_is)
    (case c_31 => k_is)
    (case k_31 => k_is)
    (case a_32 => k_is)
    (case l_32 => k_is)
    (case c_32 => k_is)
    (case k_32 => k_is)
    (case a_33 => k_is)
    (case l_33 => k_is)
    (case c_33 => k_is)
    (case k_33 => k_is)
    (case a_34 => k_is)
    (case l_34 => k_is)
    (case c_34 => k_is)
    (case k_34 => k_is)
    (case a_35 => k_is)
    (case l_35 => k_is)
    (case c_35 => k_is)
    (case k_35 => k_is)
    (case a_36 => k_is)
    (case l_36 => k_is)
    (case c_36 => k_is)
    (case k_36 => k_is)
    (case a_37 => k_is)
    (case l_37 => k_is)
    (case c_37 => k_is)
    (case k_37 => k_is)
    (case a_38 => k_is)
    (case l_38 => k_is)
    (case c_38 => k_is)
    (case k_38 => k_is)
    (case a_39 => k_is)
    (case l_39 => k_is)
    (case c_39 => k_is)
    (case k_39 => k_is)
    (case a_40 => k_is)
    (case l_40 => k_is)
    (case c_40 => k_is)
    (case k_40 => k_is)
    (case a_41 => k_is)
    (case l_41 => k_is)
    (case c_41 => k_is)
    (case k_41 => k_is)
    (case a_42 => k_is)
    (case l_42 => k_is)
    (case c_42 => k_is)
    (case k_42 => k_is)
    (case a_43 => k_is)
    (case l_43 => k_is)
    (case c_43 => k_is)
    (case k_43 => k_is)
    (case a_44 => k_is)
    (case l_44 => k_is)
    (case c_44 => k_is)
    (case k_44 => k_is)
    (case a_45 => k_is)
    (case l_45 => k_is)
    (case c_45 => k_is)
    (case k_45 => k_is)
    (case a_46 => k_is)
    (case l_46 => k_is)
    (case c_46 => k_is)
    (case k_46 => k_is)
    (case a_47 => k_is)
    (case l_47 => k_is)
    (case c_47 => k_is)
    (case k_47 => k_is)
    (case a_48 => k_is)
    (case l_48 => k_is)
    (case c_48 => k_is)
    (case k_48 => k_is)
    (case a_49 => k_is)
    (case l_49 => k_is)
    (case c_49 => k_is)
    (case k_49 => k_is)
    (case a_50 => k_is)
    (case l_50 => k_is)
    (case c_50 => k_is)
    (case k_50 => k_is)
    (case a_51 => k_is)
    (case l_51 => k_is)
    (case c_51 => k_is)
    (case k_51 => k_is)
    (case a_52 => k_is)
    (case l_52 => k_is)
    (case c_52 => k_is)
    (case k_52 => k_is)
    (case a_53 => k_is)
    (case l_53 => k_is)
    (case c_53 => k_is)
    (case k_53 => k_is)
    (case a_54 => k_is)
    (case l_54 => k_is)
    (case c_54 => k_is)
    (case k_54 => k_is)
    (case a_55 => k_is)
    (case l_55 => k_is)
    (case c_55 => k_is)
    (case k_55 => k_is)
    (case a_56 => k_is)
    (case l_56 => k_is)
    (case c_56 => k_is)
    (case k_56 => k_is)
    (case a_57 => k_is)
    (case l_57 => k_is)
    (case c_57 => k_is)
    (case k_57 => k_is)
    (case a_58 => k_is)
    (case l_58 => k_is)
    (case c_58 => k_is)
    (case k_58 => k_is)
    (case a_59 => k_is)
    (case l_59 => k_is)
    (case c_59 => k_is)
    (case k_59 => k_is)
    (case a_60 => k_is)
    (case l_60 => k_is)
    (case c_60 => k_is)
    (case k_60 => k_is)
    (case a_61 => k_is)
    (case l_61 => k_is)
    (case c_61 => k_is)
    (case k_61 => k_is)
    (case a_62 => k_is)
    (case l_62 => k_is)
    (case c_62 => k_is)
    (case k_62 => k_is)
    (case a_63 => k_is)
    (case l_63 => k_is)
    (case c_63 => k_is)
    (case k_63 => k_is)
    (case a_64 => k_is)
    (case l_64 => k_is)
    (case c_64 => k_is)
    (case k_64 => k_is)
    (case a_65 => k_is)
    (case l_65 => k_is)
    (case c_65 => k_is)
    (case k_65 => k_is)
    (case a_66 => k_is)
    (case l_66 => k_is)
    (case c_66 => k_is)
    (case k_66 => k_is)
    (case a_67 => k_is)
    (case l_67 => k_is)
    (case c_67 => k_is)
    (case k_67 => k_is)
    (case a_68 => k_is)
    (case l_68 => k_is)
    (case c_68 => k_is)
    (case k_68 => k_is)
    (case a_69 => k_is)
    (case l_69 => k_is)
    (case c_69 => k_is)
    (case k_69 => k_is)
    (case a_70 => k_is)
    (case l_70 => k_is)
    (case c_70 => k_is)
    (case k_70 => k_is)
    (case a_71 => k_is)
    (case l_71 => k_is)
    (case c_71 => k_is)
    (case k_71 => k_is)
    (case a_72 => k_is)
    (case l_72 => k_is)
    (case c_72 => k_is)
    (case k_72 => k_is)
    (case z_len => k_is)
    (case z_tuple => k_is)
    (case z_abs => k_is)
    (case z_int => k_is)
    (case z_list => k_is)
    (case z_bool => k_is)
    (case z_str => k_is)
    (case z_isinstance => k_is)
    (case z_zip => k_is)
    (case z_range => k_is)
    (case z_all => k_is)
    (case z_any => k_is)
    (case z_enumerate => k_is)
    (case z_sorted => k_is)
    (case z_min => k_is)
    (case z_max => k_is)
    (case z_sum => k_is)
    (case e_NOTHING => k_is)
    (case m_NOTHING => k_is)
    (case t_NOTHING => rfl)
    (case e_ONE => k_is)
    (case m_ONE => k_is)
    (case t_ONE => rfl)
#print axioms PySem.Challenge.cw_hingelayer_k08_whole_least_nets_holds

