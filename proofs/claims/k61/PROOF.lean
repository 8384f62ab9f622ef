import PyProof.Rows.All
import HandS.ForMost
import HandS.Zip
import HandS.ForExc
import HandS.TryOnly
import PyProof.ExcBaseAll.ValueError
import HandS.TupAny
import HandS.TupMul
import HandS.Conv
import HandS.IsInst
import HandS.GenList
import HandS.AnyAll
import HandS.TupSets
import KE.KeyNested
import KE.KDictKeyed
import HandS.Flow
import HandS.Style
import KE.GoesMore
import KE.GoesEnum
import KE.GoesZip
import PyProof.TupleOfGen
import PyProof.SumAny
import HandS.EndTab
import HandS.Wide
import Wide.All
import OpenK.AllK
import Wide.FinOn
import PySem.Challenge.RW_hingelayer_k61_whole_greater_of_two
set_option Elab.async false
set_option linter.all false
set_option maxRecDepth 100000
/-! DL1: data without a heap, the small language, what a text of it asks. -/
namespace DL
open PySem PySem.Spec PyProof.Rows L2

/-- data: tuples and lists that nobody changes are values; ref: a list that is changed -/
inductive D where
  | non | bl (b : Bool) | int (i : Int) | str (x : Str)
  | tup (xs : List D) | lst (xs : List D) | scr (xs : List D) | ref (a : Addr) | dct (a : Addr) | exc (c : Nat)
/-- the lists that are changed -/
abbrev Sto := Addr → Option (List D)
def Sto.put (S : Sto) (a : Addr) (xs : List D) : Sto := fun b => if b = a then some xs else S b
/-- the one holds no more than the other -/
def Sub (S S' : Sto) : Prop := ∀ a xs, S a = some xs → S' a = some xs
theorem Sub.refl (S : Sto) : Sub S S := fun _ _ h => h
theorem Sub.trans {S S1 S2 : Sto} (a : Sub S S1) (b : Sub S1 S2) : Sub S S2 := fun c o h => b c o (a c o h)
theorem Sto.put_same {S : Sto} {a : Addr} {xs : List D} : S.put a xs a = some xs := by unfold Sto.put; rw [if_pos rfl]
theorem Sto.put_ne {S : Sto} {a b : Addr} {xs : List D} (h : b ≠ a) : S.put a xs b = S b := by unfold Sto.put; rw [if_neg h]
theorem Sto.put_put {S : Sto} {a : Addr} {xs ys : List D} : (S.put a xs).put a ys = S.put a ys := by funext b; unfold Sto.put; split <;> rfl
/-- one list forgotten -/
def Sto.del (S : Sto) (a : Addr) : Sto := fun b => if b = a then none else S b
theorem Sto.del_same {S : Sto} {a : Addr} : S.del a a = none := by unfold Sto.del; rw [if_pos rfl]
theorem Sub.del {S : Sto} {a : Addr} : Sub (S.del a) S := fun b o e => by
  unfold Sto.del at e
  split at e
  · cases e
  · exact e
theorem Sub.put {S : Sto} {a : Addr} {xs : List D} (h : S a = none) : Sub S (S.put a xs) := fun b o e => by
  rw [Sto.put_ne]; exact e
  rintro rfl; rw [h] at e; cases e

/-- the script: a list that is locked, or one of the text's -/
inductive ScrV (K : PySem.W.Frag) (H : Hp) (a : Addr) (vs : List V) : Prop
  | frz (o : Obj) : H a = some (.frz o (.lst vs)) → ScrV K H a vs
  | txt (o : Obj) (its : Array Value) (n : Nat) : K.lookup a = some o → o.cls = .type "list" → o.dict = none → o.data = .seq its n → its.size ≤ sizeLine → Vals vs its.toList → ScrV K H a vs
theorem ScrV.sq {K : PySem.W.Frag} {H : Hp} {a : Addr} {vs : List V} : ScrV K H a vs → SqL K H a vs
  | .frz o h => .inl (.inr ⟨o, h⟩)
  | .txt o its n h1 h2 h3 h4 h5 h6 => .inr ⟨o, its, n, h1, h2, h3, h4, h5, h6⟩
/-- a list stands here -/
def LstH (H : Hp) (a : Addr) : Prop := ∃ vs, H a = some (.lst vs)
/-- a dict with these entries -/
def dctO (w : World) (a : Addr) (ts : List (NestedKey × Addr × Value)) : HO := .ext fun h => ∃ o es ep, h.get? a = some o ∧ o.ExactDict ∧ o.data = .dict es ep ∧ es.toList = ts.map fun x => ⟨x.1.hash w, .ref x.2.1, x.2.2⟩
def DctH (H : Hp) (a : Addr) : Prop := ∃ w ts, H a = some (dctO w a ts)
mutual
/-- d stands at v; Z: what is hidden -/
inductive Rep (K : PySem.W.Frag) (Z : Addr → Prop) (S : Sto) (H : Hp) : D → V → Prop
  | non : Rep K Z S H .non .non
  | bl (b : Bool) : Rep K Z S H (.bl b) (.bl b)
  | int (i : Int) : Rep K Z S H (.int i) (.int i)
  | str (x : Str) : Rep K Z S H (.str x) (.str x)
  | tup {a : Addr} {vs : List V} {ds : List D} : SqT K H a vs → RepL K Z S H ds vs → Rep K Z S H (.tup ds) (.ref a)
  | lst {a : Addr} {vs : List V} {ds : List D} : H a = some (.lst vs) → S a = none → ¬ Z a → RepL K Z S H ds vs → Rep K Z S H (.lst ds) (.ref a)
  | scr {a : Addr} {vs : List V} {ds : List D} : ScrV K H a vs → RepL K Z S H ds vs → Rep K Z S H (.scr ds) (.ref a)
  | ref {a : Addr} : LstH H a → Rep K Z S H (.ref a) (.ref a)
  | dct {a : Addr} : DctH H a → Rep K Z S H (.dct a) (.ref a)
inductive RepL (K : PySem.W.Frag) (Z : Addr → Prop) (S : Sto) (H : Hp) : List D → List V → Prop
  | nil : RepL K Z S H [] []
  | cons {d : D} {v : V} {ds : List D} {vs : List V} : Rep K Z S H d v → RepL K Z S H ds vs → RepL K Z S H (d :: ds) (v :: vs)
end

inductive BO | add | sub | mul | fdiv | fdivS | mod | pow
  deriving DecidableEq
inductive CO | eq | ne | lt | le | gt | ge | isN | notN | inn | nin
  deriving DecidableEq
inductive BI | abs | len | int | tuple | list (mu : Bool) | sum | max | min
  deriving DecidableEq
inductive TN | int | bool | str | tuple
  deriving DecidableEq
inductive LM | append | pop | reverse
  deriving DecidableEq
inductive SC | non | bl (b : Bool) | int (i : Int) | str (x : Str)
  deriving DecidableEq
def SC.d : SC → D
  | .non => .non | .bl b => .bl b | .int i => .int i | .str x => .str x
/-- targets -/
inductive TT' | n (i : Nat) | t (a : TT') | nil | cons (a b : TT')
  deriving DecidableEq
/-- expressions -/
inductive M
  | v (i : Nat) | c (x : SC) | g (i : Nat)
  | nil | cons (a b : M)
  | tup (a : M) | lst (mu : Bool) (a : M)
  | bin (o : BO) (a b : M) | cat (a b : M) | rep (a b : M) | neg (a : M) | not (a : M)
  | cmp (o : CO) (a b : M) | chain (o o' : CO) (a b c : M)
  | and (a b : M) | or (a b : M) | ite (c a b : M)
  | call (f : Nat) (a : M) | callK (f : Nat) (a ks : M) (kp : Nat)
  | callX (f : Nat) (a : M) | callXK (f : Nat) (a ks : M) (kp : Nat) | pl (a : M)
  | bi (b : BI) (a : M) | isi (a : M) (t : TN)
  | ix (a i : M) | sl (a lo hi : M)
  | lc (mu : Bool) (own : List Nat) (tg : TT') (elt it cond : M)
  | gsum (own : List Nat) (tg : TT') (elt it cond : M)
  | gall (any : Bool) (own : List Nat) (tg : TT') (elt it cond : M)
  | zip (a b : M) | enum (a : M) | rng (a b : M)
  | meth (m : LM) (o a : M)
  | tv (a : M) | so (a : M) | it (a : M)
  | dnew | dget (a i : M) | dgeto (a i x : M) | dsort (a : M) | dlist (a : M) | trng (a : M)
  deriving DecidableEq
/-- statements -/
inductive C
  | done | seq (a b : C)
  | asg (tg : TT') (e : M) | swap (i j : Nat) (a b : M) | swap3 (i j l : Nat) (a b c : M)
  | augv (i : Nat) (o : BO) (e : M) | augs (a i : M) (o : BO) (e : M) | sets (a i e : M) | dput (a i e : M)
  | frz (i : Nat)
  | ret (e : M) | retN | brk | cont | ex (e : M)
  | ite (c : M) (a b : C) | whl (c : M) (a : C) | for (tg : TT') (it : M) (a : C)
  | xasg (tg : TT') (e : M) | xret (e : M) | xex (e : M) | rai (c : Nat) | tr (a : C) (cs : List Nat) (b : C)
  deriving DecidableEq

/-! ### what the operations do -/
abbrev Rho := List (Option D)
/-- bounds: a product's size -/
def MulOk (i j : Int) : Prop := IntMulOk i j
def PowOk (i j : Int) : Prop := CPow i j
def LIM : Nat := 16777216
def dBin : BO → D → D → (D → Prop) → Prop
  | .add, .int i, .int j, k => k (.int (i + j))
  | .sub, .int i, .int j, k => k (.int (i - j))
  | .mul, .int i, .int j, k => MulOk i j ∧ k (.int (i * j))
  | .fdiv, .int i, .int j, k => j ≠ 0 ∧ k (.int (i.fdiv j))
  | .fdivS, .int i, .int j, k => (j ≠ 0 ∧ j.natAbs.log2 < 9000) ∧ k (.int (i.fdiv j))
  | .mod, .int i, .int j, k => j ≠ 0 ∧ k (.int (i.fmod j))
  | .pow, .int i, .int j, k => PowOk i j ∧ k (.int (i ^ j.toNat))
  | .add, .tup xs, .tup ys, k => xs.length + ys.length ≤ LIM ∧ k (.tup (xs ++ ys))
  | .add, .lst xs, .lst ys, k => xs.length + ys.length ≤ LIM ∧ k (.lst (xs ++ ys))
  | .mul, .tup xs, .int n, k => (xs ≠ [] ∧ -(2 ^ 63) ≤ n ∧ n ≤ 1000 ∧ xs.length ≤ 1000) ∧ k (.tup (List.replicate n.toNat xs).flatten)
  | .mul, .lst xs, .int n, k => (-(2 ^ 63) ≤ n ∧ n < 2 ^ 63 ∧ xs.length * n.toNat ≤ LIM) ∧ k (.lst (List.replicate n.toNat xs).flatten)
  | _, _, _, _ => False
/-- op= of ints -/
def dAug (o : BO) (x y : D) (k : D → Prop) : Prop := match o, x, y with
  | .pow, _, _ => False
  | o, .int i, .int j => dBin o (.int i) (.int j) k
  | _, _, _ => False
/-- data for == -/
def toPy : D → Option PyData
  | .non => some .none | .bl b => some (.bool b) | .int i => some (.int i) | .str x => some (.str x)
  | .tup xs => (toPys xs).map .tuple
  | .lst xs => (toPys xs).map .list
  | .ref _ => none
  | .scr _ => none
  | .dct _ => none
  | .exc _ => none
where toPys : List D → Option (List PyData)
  | [] => some []
  | x :: xs => match toPy x, toPys xs with
    | some y, some ys => some (y :: ys)
    | _, _ => none
/-- a list that is changed, as it is now -/
def look (S : Sto) : D → D
  | .ref a => match S a with | some xs => .lst xs | none => .ref a
  | d => d
def dEq (S : Sto) (x y : D) (k : Bool → Prop) : Prop := match x, y with
  | .int i, .int j => k (decide (i = j))
  | .str i, .str j => k (decide (i = j))
  | .bl i, .bl j => k (decide (i = j))
  | x, y => ∃ p q, toPy (look S x) = some p ∧ toPy (look S y) = some q ∧ SeqAt.shaped p = true ∧ SeqAt.shaped q = true ∧ k (PyData.eqv p q)
def dCmp (S : Sto) : CO → D → D → (D → Prop) → Prop
  | .eq, x, y, k => dEq S x y fun b => k (.bl b)
  | .ne, x, y, k => dEq S x y fun b => k (.bl !b)
  | .lt, .int i, .int j, k => k (.bl (decide (i < j)))
  | .le, .int i, .int j, k => k (.bl (decide (i ≤ j)))
  | .gt, .int i, .int j, k => k (.bl (decide (j < i)))
  | .ge, .int i, .int j, k => k (.bl (decide (j ≤ i)))
  | .isN, x, .non, k => k (.bl (match x with | .non => true | _ => false))
  | .notN, x, .non, k => k (.bl (match x with | .non => false | _ => true))
  | .inn, .int i, .tup xs, k => ∃ ns : List Int, xs = ns.map .int ∧ k (.bl (decide (i ∈ ns)))
  | .nin, .int i, .tup xs, k => ∃ ns : List Int, xs = ns.map .int ∧ k (.bl (!decide (i ∈ ns)))
  | _, _, _, _ => False
def dTru (S : Sto) (x : D) (k : Bool → Prop) : Prop := match x with
  | .non => k false | .bl b => k b | .int i => k (decide (i ≠ 0)) | .str x => x.length ≤ LIM ∧ k (decide ((x.length : Int) ≠ 0))
  | .tup xs => k (!xs.isEmpty) | .lst xs => k (!xs.isEmpty) | .scr xs => k (!xs.isEmpty)
  | .ref a => ∃ xs, S a = some xs ∧ k (!xs.isEmpty)
  | .dct _ => False
  | .exc _ => False
def dBi (b : BI) (ds : List D) (S : Sto) (k : D → Sto → Prop) : Prop := match b, ds with
  | .abs, [.int i] => k (.int (if i < 0 then -i else i)) S
  | .len, [.tup xs] => k (.int xs.length) S
  | .len, [.lst xs] => k (.int xs.length) S
  | .len, [.scr xs] => k (.int xs.length) S
  | .len, [.str x] => x.length ≤ LIM ∧ k (.int x.length) S
  | .len, [.ref a] => ∃ xs, S a = some xs ∧ k (.int xs.length) S
  | .int, [.int i] => k (.int i) S
  | .int, [.bl b] => k (.int (if b then 1 else 0)) S
  | .tuple, [.tup xs] => k (.tup xs) S
  | .tuple, [.lst xs] => k (.tup xs) S
  | .tuple, [.ref a] => ∃ xs, S a = some xs ∧ k (.tup xs) S
  | .sum, [.lst xs] => ∃ ns : List Int, xs = ns.map D.int ∧ k (.int ns.sum) S
  | .max, [.lst xs] => ∃ ns : List Int, xs = ns.map D.int ∧ 0 < ns.length ∧ ∀ m, m ∈ ns → (∀ y, y ∈ ns → y ≤ m) → k (.int m) S
  | .min, [.lst xs] => ∃ ns : List Int, xs = ns.map D.int ∧ 0 < ns.length ∧ ∀ m, m ∈ ns → (∀ y, y ∈ ns → m ≤ y) → k (.int m) S
  | .max, [.int i, .int j] => k (.int (if j > i then j else i)) S
  | .min, [.int i, .int j] => k (.int (if j < i then j else i)) S
  | .list mu, [.tup xs] => if mu then ∀ a, S a = none → k (.ref a) (S.put a xs) else k (.lst xs) S
  | .list mu, [.scr xs] => if mu then ∀ a, S a = none → k (.ref a) (S.put a xs) else k (.lst xs) S
  | .list mu, [.lst xs] => if mu then ∀ a, S a = none → k (.ref a) (S.put a xs) else k (.lst xs) S
  | _, _ => False
def dIsi (S : Sto) (x : D) (t : TN) (k : Bool → Prop) : Prop := match x with
  | .non => k false
  | .bl _ => k (decide (t = .int ∨ t = .bool))
  | .int _ => k (decide (t = .int))
  | .str _ => k (decide (t = .str))
  | .tup _ => k (decide (t = .tuple))
  | .lst _ => k false
  | .scr _ => k false
  | .ref a => ∃ xs, S a = some xs ∧ k false
  | .dct _ => False
  | .exc _ => False
def dIx (S : Sto) (x i : D) (k : D → Prop) : Prop := match x, i with
  | .tup xs, .int i => ∃ d, atI xs i = some d ∧ k d
  | .lst xs, .int i => ∃ d, atI xs i = some d ∧ k d
  | .scr xs, .int i => ∃ d, atI xs i = some d ∧ k d
  | .ref a, .int i => ∃ xs d, S a = some xs ∧ atI xs i = some d ∧ k d
  | _, _ => False
def cutD {α : Type} (xs : List α) (lo hi : Option Int) : List α := (xs.drop (HT.sIx xs.length 0 lo)).take (HT.sIx xs.length xs.length hi - HT.sIx xs.length 0 lo)
def dSl (S : Sto) (x : D) (lo hi : Option Int) (k : D → Prop) : Prop := match x with
  | .tup xs => k (.tup (cutD xs lo hi))
  | .lst xs => k (.lst (cutD xs lo hi))
  | .scr xs => k (.lst (cutD xs lo hi))
  | .ref a => ∃ xs, S a = some xs ∧ k (.lst (cutD xs lo hi))
  | _ => False
def dMeth (m : LM) (x : D) (ds : List D) (S : Sto) (k : D → Sto → Prop) : Prop := match m, x, ds with
  | .append, .ref a, [d] => ∃ xs, S a = some xs ∧ xs.length < LIM ∧ k .non (S.put a (xs ++ [d]))
  | .pop, .ref a, [] => ∃ xs d, S a = some xs ∧ xs[xs.length - 1]? = some d ∧ k d (S.put a xs.dropLast)
  | .pop, .ref a, [.int i] => ∃ xs d j, S a = some xs ∧ (-(2 ^ 63) ≤ i ∧ i < 2 ^ 63) ∧ seqIndex? i xs.length = some j ∧ xs[j]? = some d ∧ k d (S.put a (xs.eraseIdx j))
  | .reverse, .ref a, [] => ∃ xs, S a = some xs ∧ k .non (S.put a xs.reverse)
  | _, _, _ => False
def dRef (S : Sto) (x : D) : Prop := match x with
  | .ref a => ∃ xs, S a = some xs
  | _ => False
def dSet (x i d : D) (S : Sto) (k : Sto → Prop) : Prop := match x, i with
  | .ref a, .int i => ∃ xs j, S a = some xs ∧ ixN xs.length i = some j ∧ k (S.put a (xs.set j d))
  | _, _ => False
/-! ### dicts: keys and values by turns; keys are tuples of whole numbers and of such tuples -/
mutual
def keyOf : D → Option NestedKey
  | .int i => some (.num i)
  | .tup xs => (keysOf xs).map .tup
  | .non => none | .bl _ => none | .str _ => none | .lst _ => none | .scr _ => none | .ref _ => none | .dct _ => none | .exc _ => none
def keysOf : List D → Option (List NestedKey)
  | [] => some []
  | x :: xs => match keyOf x, keysOf xs with
    | some k, some ks => some (k :: ks)
    | _, _ => none
end
def dFind (k : NestedKey) : List D → Option D
  | a :: b :: r => if keyOf a = some k then some b else dFind k r
  | _ => none
def dStore (a : D) (k : NestedKey) (b : D) : List D → List D
  | a' :: b' :: r => if keyOf a' = some k then a' :: b :: r else a' :: b' :: dStore a k b r
  | _ => [a, b]
def dKeys : List D → List D
  | a :: _ :: r => a :: dKeys r
  | _ => []
def KeyOk (d : D) (k : NestedKey) : Prop := (∃ xs, d = .tup xs) ∧ keyOf d = some k ∧ k.depth ≤ 8
def dGet (S : Sto) (x y : D) (Q : D → Prop) : Prop := match x with
  | .dct a => ∃ xs k d, S a = some xs ∧ KeyOk y k ∧ dFind k xs = some d ∧ Q d
  | _ => False
def dGetO (S : Sto) (x y z : D) (Q : D → Prop) : Prop := match x with
  | .dct a => ∃ xs k, S a = some xs ∧ KeyOk y k ∧ Q ((dFind k xs).getD z)
  | _ => False
def dPut (x y d : D) (S : Sto) (Q : Sto → Prop) : Prop := match x with
  | .dct a => ∃ xs k, S a = some xs ∧ KeyOk y k ∧ xs.length ≤ 1000 ∧ Q (S.put a (dStore y k d xs))
  | _ => False
def dRefD (S : Sto) (x : D) : Prop := match x with
  | .dct a => ∃ xs, S a = some xs
  | _ => False
/-- a plane: whole numbers and one more -/
def plD (as : List Int) (b : Int) : D := .tup [.tup (as.map .int), .int b]
/-- the order of rows of whole numbers -/
def lexLe : List Int → List Int → Prop
  | [], _ => True
  | _ :: _, [] => False
  | a :: as, b :: bs => a < b ∨ (a = b ∧ lexLe as bs)
def dSort (S : Sto) (x : D) (Q : D → Prop) : Prop := match x with
  | .dct a => ∃ xs n, ∃ ks : List (List Int × Int), S a = some xs ∧ dKeys xs = ks.map (fun k => plD k.1 k.2) ∧ ks.length < 64 ∧ (∀ k ∈ ks, k.1.length = n) ∧
      ∀ ps : List (List Int × Int), ps.Perm ks → ps.Pairwise (fun x y => lexLe (x.1 ++ [x.2]) (y.1 ++ [y.2])) → Q (.lst (ps.map fun k => plD k.1 k.2))
  | .lst xs => ∃ n, ∃ ks : List (List Int × Int), xs = ks.map (fun k => plD k.1 k.2) ∧ ks.length < 64 ∧ (∀ k ∈ ks, k.1.length = n) ∧
      ∀ ps : List (List Int × Int), ps.Perm ks → ps.Pairwise (fun x y => lexLe (x.1 ++ [x.2]) (y.1 ++ [y.2])) → Q (.lst (ps.map fun k => plD k.1 k.2))
  | _ => False
/-- the keys, as a list -/
def dList (S : Sto) (x : D) (Q : D → Prop) : Prop := match x with
  | .dct a => ∃ xs, S a = some xs ∧ xs.length ≤ 1000 ∧ Q (.lst (dKeys xs))
  | _ => False
def RngOk (a b : Int) : Prop := -(2 ^ 62) ≤ a ∧ a < 2 ^ 62 ∧ -(2 ^ 62) ≤ b ∧ b < 2 ^ 62
@[irreducible] def rangeD (a b : Int) : List D := (List.range (b - a).toNat).map fun (k : Nat) => .int (a + k)
def dTrng (x : D) (Q : D → Prop) : Prop := match x with
  | .int i => 0 ≤ i ∧ i ≤ LIM ∧ Q (.tup (rangeD 0 i))
  | _ => False
/-- binding a target -/
def bindT : TT' → D → Rho → (Rho → Prop) → Prop
  | .n i, d, ρ, k => k (ρ.set i (some d))
  | .t a, .tup xs, ρ, k => bindTs a xs ρ k
  | _, _, _, _ => False
where bindTs : TT' → List D → Rho → (Rho → Prop) → Prop
  | .nil, [], ρ, k => k ρ
  | .cons a b, x :: xs, ρ, k => bindT a x ρ fun ρ' => bindTs b xs ρ' k
  | _, _, _, _ => False
def wipeD (ρ : Rho) : List Nat → Rho
  | [] => ρ
  | v :: vs => (wipeD ρ vs).set v none

/-! ### what a text asks -/
abbrev Fns := Nat → List D → Sto → (D → Sto → Prop) → Prop
/-- the module: its constants, the places of keywords' arguments -/
structure Mod' where
  consts : List D
  kps : List (Nat × Nat × List Nat)
def permD {α : Type} (p : List Nat) (xs : List α) : List α := p.filterMap fun i => xs[i]?
/-- n arguments by place, m by name, put in order -/
def arr {α : Type} (n m : Nat) (p : List Nat) (us ws : List α) : List α := if us.length = n ∧ ws.length = m then permD p (us ++ ws) else []
/-- a comprehension's turns -/
def compL (bind : D → (Rho → Prop) → Prop) (test : Rho → Sto → (Bool → Sto → Prop) → Prop) (elt : Rho → Sto → (D → Sto → Prop) → Prop) (stay : Sto → Prop) (fin : List D → Sto → Prop) : List D → List D → Sto → Prop
  | [], acc, S => stay S ∧ fin acc S
  | x :: xs, acc, S => stay S ∧ acc.length < LIM ∧ bind x fun ρ => test ρ S fun b S1 => if b = true then elt ρ S1 fun d S2 => compL bind test elt stay fin xs (acc ++ [d]) S2 else compL bind test elt stay fin xs acc S1
/-- a bool, or a number, as truth -/
def dTv : D → Bool → Prop
  | .bl b, c => c = b
  | .int i, c => c = decide (i ≠ 0)
  | _, _ => False
/-- all (any) of a generator's turns -/
def allL (any : Bool) (bind : D → (Rho → Prop) → Prop) (test : Rho → Sto → (Bool → Sto → Prop) → Prop) (elt : Rho → Sto → (D → Sto → Prop) → Prop) (stay : Sto → Prop) (fin : Bool → Sto → Prop) : List D → Sto → Prop
  | [], S => stay S ∧ fin (!any) S
  | x :: xs, S => stay S ∧ bind x fun ρ => test ρ S fun b S1 => if b = true then elt ρ S1 fun d S2 => ∃ c, dTv d c ∧ if c = any then fin any S2 else allL any bind test elt stay fin xs S2 else allL any bind test elt stay fin xs S1
/-- the sum of a generator's turns -/
def sumL (bind : D → (Rho → Prop) → Prop) (test : Rho → Sto → (Bool → Sto → Prop) → Prop) (elt : Rho → Sto → (D → Sto → Prop) → Prop) (stay : Sto → Prop) (fin : Int → Sto → Prop) : List D → Int → Sto → Prop
  | [], n, S => stay S ∧ fin n S
  | x :: xs, n, S => stay S ∧ bind x fun ρ => test ρ S fun b S1 => if b = true then elt ρ S1 fun d S2 => ∃ j, d = .int j ∧ sumL bind test elt stay fin xs (n + j) S2 else sumL bind test elt stay fin xs n S1
/-- the items with their numbers -/
def enumD : Nat → List D → List D
  | _, [] => []
  | n, x :: xs => .tup [.int (n : Nat), x] :: enumD (n + 1) xs
section
/-- a list that is read -/
def lsOf (S : Sto) : D → Option (List D)
  | .lst xs => some xs
  | .ref a => S a
  | _ => none
/-- two lists one behind the other, in a list that is changed later -/
def dCat (x y : D) (S : Sto) (Q : D → Sto → Prop) : Prop := ∃ xs ys, lsOf S x = some xs ∧ lsOf S y = some ys ∧ xs.length + ys.length ≤ LIM ∧ ∀ p, S p = none → Q (.ref p) (S.put p (xs ++ ys))
/-- a list so many times, in a list that is changed later -/
def dRep (x y : D) (S : Sto) (Q : D → Sto → Prop) : Prop := match x, y with
  | .lst xs, .int n => (-(2 ^ 63) ≤ n ∧ n < 2 ^ 63 ∧ xs.length * n.toNat ≤ LIM) ∧ ∀ p, S p = none → Q (.ref p) (S.put p (List.replicate n.toNat xs).flatten)
  | _, _ => False
variable (X : Mod') (G : Fns)
mutual
def wE : M → Rho → Sto → (D → Sto → Prop) → Prop
  | .v i, ρ, S, Q => ∃ d, ρ[i]? = some (some d) ∧ Q d S
  | .c x, _, S, Q => Q x.d S
  | .g i, _, S, Q => ∃ d, X.consts[i]? = some d ∧ Q d S
  | .tup a, ρ, S, Q => wL a ρ S fun ds S1 => ds.length ≤ LIM ∧ Q (.tup ds) S1
  | .lst mu a, ρ, S, Q => wL a ρ S fun ds S1 => ds.length ≤ LIM ∧ if mu = true then ∀ p, S1 p = none → Q (.ref p) (S1.put p ds) else Q (.lst ds) S1
  | .bin o a b, ρ, S, Q => wE a ρ S fun x S1 => wE b ρ S1 fun y S2 => dBin o x y fun z => Q z S2
  | .cat a b, ρ, S, Q => wE a ρ S fun x S1 => wE b ρ S1 fun y S2 => dCat x y S2 Q
  | .rep a b, ρ, S, Q => wE a ρ S fun x S1 => wE b ρ S1 fun y S2 => dRep x y S2 Q
  | .neg a, ρ, S, Q => wE a ρ S fun x S1 => ∃ i, x = .int i ∧ Q (.int (-i)) S1
  | .not a, ρ, S, Q => wE a ρ S fun x S1 => dTru S1 x fun b => Q (.bl !b) S1
  | .cmp o a b, ρ, S, Q => wE a ρ S fun x S1 => wE b ρ S1 fun y S2 => dCmp S2 o x y fun z => Q z S2
  | .chain o o' a b c, ρ, S, Q => wE a ρ S fun x S1 => wE b ρ S1 fun y S2 => dCmp S2 o x y fun z => ∃ k, z = .bl k ∧ if k = true then wE c ρ S2 fun u S3 => dCmp S3 o' y u fun z' => Q z' S3 else Q (.bl false) S2
  | .and a b, ρ, S, Q => wE a ρ S fun x S1 => ∃ c, x = .bl c ∧ if c = true then wE b ρ S1 Q else Q (.bl false) S1
  | .or a b, ρ, S, Q => wE a ρ S fun x S1 => ∃ c, x = .bl c ∧ if c = true then Q (.bl true) S1 else wE b ρ S1 Q
  | .ite c a b, ρ, S, Q => wT c ρ S fun t S1 => if t = true then wE a ρ S1 Q else wE b ρ S1 Q
  | .call f a, ρ, S, Q => wL a ρ S fun ds S1 => G f ds S1 Q
  | .callK f a ks kp, ρ, S, Q => wL a ρ S fun ds S1 => wL ks ρ S1 fun es S2 => ∃ n m p, X.kps[kp]? = some (n, m, p) ∧ G f (arr n m p ds es) S2 Q
  | .bi b a, ρ, S, Q => wL a ρ S fun ds S1 => dBi b ds S1 Q
  | .isi a t, ρ, S, Q => wE a ρ S fun x S1 => dIsi S1 x t fun b => Q (.bl b) S1
  | .ix a i, ρ, S, Q => wE a ρ S fun x S1 => wE i ρ S1 fun y S2 => dIx S2 x y fun z => Q z S2
  | .sl a lo hi, ρ, S, Q => wE a ρ S fun x S1 => wO lo ρ S1 fun l S2 => wO hi ρ S2 fun h S3 => dSl S3 x l h fun z => Q z S3
  | .lc mu own tg elt it cond, ρ, S, Q => wI it ρ S fun xs stay S1 =>
      compL (fun d k => bindT tg d (wipeD ρ own) k) (fun ρ' S' k => wT cond ρ' S' k) (fun ρ' S' k => wE elt ρ' S' k) stay (fun acc S' => if mu = true then ∀ p, S' p = none → Q (.ref p) (S'.put p acc) else Q (.lst acc) S') xs [] S1
  | .gall any own tg elt it cond, ρ, S, Q => wI it ρ S fun xs stay S1 =>
      allL any (fun d k => bindT tg d (wipeD ρ own) k) (fun ρ' S' k => wT cond ρ' S' k) (fun ρ' S' k => wE elt ρ' S' k) stay (fun b S' => Q (.bl b) S') xs S1
  | .gsum own tg elt it cond, ρ, S, Q => wI it ρ S fun xs stay S1 =>
      sumL (fun d k => bindT tg d (wipeD ρ own) k) (fun ρ' S' k => wT cond ρ' S' k) (fun ρ' S' k => wE elt ρ' S' k) stay (fun n S' => Q (.int n) S') xs 0 S1
  | .dnew, _, S, Q => ∀ p, S p = none → Q (.dct p) (S.put p [])
  | .dget a i, ρ, S, Q => wE a ρ S fun x S1 => wE i ρ S1 fun y S2 => dGet S2 x y fun z => Q z S2
  | .dgeto a i u, ρ, S, Q => wE a ρ S fun x S1 => dRefD S1 x ∧ wE i ρ S1 fun y S2 => wE u ρ S2 fun z S3 => dGetO S3 x y z fun d => Q d S3
  | .dsort a, ρ, S, Q => wE a ρ S fun x S1 => dSort S1 x fun z => Q z S1
  | .dlist a, ρ, S, Q => wE a ρ S fun x S1 => dList S1 x fun z => Q z S1
  | .trng a, ρ, S, Q => wE a ρ S fun x S1 => dTrng x fun z => Q z S1
  | .meth m o a, ρ, S, Q => wE o ρ S fun x S1 => dRef S1 x ∧ wL a ρ S1 fun ds S2 => dMeth m x ds S2 Q
  | _, _, _, _ => False
def wL : M → Rho → Sto → (List D → Sto → Prop) → Prop
  | .nil, _, S, Q => Q [] S
  | .cons a b, ρ, S, Q => wE a ρ S fun d S1 => wL b ρ S1 fun ds S2 => Q (d :: ds) S2
  | _, _, _, _ => False
/-- as a test -/
def wT : M → Rho → Sto → (Bool → Sto → Prop) → Prop
  | .and a b, ρ, S, Q => wT a ρ S fun c S1 => if c = true then wT b ρ S1 Q else Q false S1
  | .or a b, ρ, S, Q => wT a ρ S fun c S1 => if c = true then Q true S1 else wT b ρ S1 Q
  | .not a, ρ, S, Q => wT a ρ S fun c S1 => Q (!c) S1
  | .cmp o a b, ρ, S, Q => wE a ρ S fun x S1 => wE b ρ S1 fun y S2 => dCmp S2 o x y fun z => ∃ k, z = .bl k ∧ Q k S2
  | .chain o o' a b c, ρ, S, Q => wE a ρ S fun x S1 => wE b ρ S1 fun y S2 => dCmp S2 o x y fun z => ∃ k, z = .bl k ∧ if k = true then wE c ρ S2 fun u S3 => dCmp S3 o' y u fun z' => ∃ k', z' = .bl k' ∧ Q k' S3 else Q false S2
  | .nil, _, S, Q => Q true S
  | .tv m, ρ, S, Q => wE m ρ S fun x S1 => dTru S1 x fun b => Q b S1
  | _, _, _, _ => False
/-- a slice's bound -/
def wO : M → Rho → Sto → (Option Int → Sto → Prop) → Prop
  | .nil, _, S, Q => Q none S
  | .so m, ρ, S, Q => wE m ρ S fun x S1 => ∃ i, x = .int i ∧ Q (some i) S1
  | _, _, _, _ => False
/-- what is walked: the items, and what must stay while it is walked -/
def wI : M → Rho → Sto → (List D → (Sto → Prop) → Sto → Prop) → Prop
  | .zip a b, ρ, S, Q => wE a ρ S fun x S1 => wE b ρ S1 fun y S2 => match x, y with
      | .tup xs, .tup ys => Q (List.zipWith (fun x y => .tup [x, y]) xs ys) (fun _ => True) S2
      | .lst xs, .lst ys => Q (List.zipWith (fun x y => .tup [x, y]) xs ys) (fun _ => True) S2
      | .tup xs, .lst ys => Q (List.zipWith (fun x y => .tup [x, y]) xs ys) (fun _ => True) S2
      | .lst xs, .tup ys => Q (List.zipWith (fun x y => .tup [x, y]) xs ys) (fun _ => True) S2
      | _, _ => False
  | .enum a, ρ, S, Q => wE a ρ S fun x S1 => match x with
      | .tup xs => Q (enumD 0 xs) (fun _ => True) S1
      | .lst xs => Q (enumD 0 xs) (fun _ => True) S1
      | _ => False
  | .rng a b, ρ, S, Q => wE a ρ S fun x S1 => wE b ρ S1 fun y S2 => ∃ i j, x = .int i ∧ y = .int j ∧ RngOk i j ∧ Q (rangeD i j) (fun _ => True) S2
  | .it m, ρ, S, Q => wE m ρ S fun x S1 => match x with
      | .tup xs => Q xs (fun _ => True) S1
      | .lst xs => Q xs (fun _ => True) S1
      | .scr xs => Q xs (fun _ => True) S1
      | .ref a => ∃ xs, S1 a = some xs ∧ Q xs (fun S2 => S2 a = some xs) S1
      | _ => False
  | _, _, _, _ => False
end
end

/-! ### statements -/
structure ED where
  nx : Rho → Sto → Prop
  rt : D → Sto → Prop
  bk : Rho → Sto → Prop
  ct : Rho → Sto → Prop
  xt : Nat → Rho → Sto → Prop := fun _ _ _ => False
def whileN (t : Rho → Sto → (Bool → Sto → Prop) → Prop) (b : ED → Rho → Sto → Prop) (E : ED) : Nat → Rho → Sto → Prop
  | 0, _, _ => False
  | n + 1, ρ, S => t ρ S fun c S1 => if c = true then b { nx := whileN t b E n, ct := whileN t b E n, bk := E.nx, rt := E.rt, xt := E.xt } ρ S1 else E.nx ρ S1
def forL (bind : D → Rho → (Rho → Prop) → Prop) (b : ED → Rho → Sto → Prop) (stay : Sto → Prop) (E : ED) : List D → Rho → Sto → Prop
  | [], ρ, S => stay S ∧ E.nx ρ S
  | x :: xs, ρ, S => stay S ∧ bind x ρ fun ρ1 => b { nx := forL bind b stay E xs, ct := forL bind b stay E xs, bk := E.nx, rt := E.rt, xt := E.xt } ρ1 S
/-- something raised, or not -/
def isX (d : D) (k : Nat → Prop) (p : Prop) : Prop := match d with
  | .exc c => k c
  | _ => p
section
variable (X : Mod') (G : Fns)
/-- an expression whose outermost calls may raise: those are the defs from 1000 on, and a thing raised is handed on as it were given back -/
def wX : M → Rho → Sto → (D → Sto → Prop) → Prop
  | .callX f a, ρ, S, Q => wL X G a ρ S fun ds S1 => G (f + 1000) ds S1 Q
  | .callXK f a ks kp, ρ, S, Q => wL X G a ρ S fun ds S1 => wL X G ks ρ S1 fun es S2 => ∃ n m p, X.kps[kp]? = some (n, m, p) ∧ G (f + 1000) (arr n m p ds es) S2 Q
  | .ite c a b, ρ, S, Q => wT X G c ρ S fun t S1 => if t = true then wX a ρ S1 Q else wX b ρ S1 Q
  | .pl a, ρ, S, Q => wE X G a ρ S Q
  | _, _, _, _ => False
def wC : C → ED → Rho → Sto → Prop
  | .done, E, ρ, S => E.nx ρ S
  | .seq a b, E, ρ, S => wC a { nx := fun ρ1 S1 => wC b E ρ1 S1, rt := E.rt, bk := E.bk, ct := E.ct, xt := E.xt } ρ S
  | .asg tg e, E, ρ, S => wE X G e ρ S fun d S1 => bindT tg d ρ fun ρ1 => E.nx ρ1 S1
  | .swap i j a b, E, ρ, S => wE X G a ρ S fun d S1 => wE X G b ρ S1 fun e S2 => E.nx ((ρ.set i (some d)).set j (some e)) S2
  | .swap3 i j l a b c, E, ρ, S => wE X G a ρ S fun d S1 => wE X G b ρ S1 fun e S2 => wE X G c ρ S2 fun f S3 => E.nx (((ρ.set i (some d)).set j (some e)).set l (some f)) S3
  | .augv i o e, E, ρ, S => ∃ x, ρ[i]? = some (some x) ∧ wE X G e ρ S fun y S1 => dAug o x y fun z => E.nx (ρ.set i (some z)) S1
  | .augs a i o e, E, ρ, S => wE X G a ρ S fun x S1 => wE X G i ρ S1 fun y S2 => dRef S2 x ∧ dIx S2 x y fun old => wE X G e ρ S2 fun z S3 => dAug o old z fun new => dSet x y new S3 fun S4 => E.nx ρ S4
  | .sets a i e, E, ρ, S => wE X G e ρ S fun z S1 => wE X G a ρ S1 fun x S2 => wE X G i ρ S2 fun y S3 => dSet x y z S3 fun S4 => E.nx ρ S4
  | .dput a i e, E, ρ, S => wE X G e ρ S fun z S1 => wE X G a ρ S1 fun x S2 => wE X G i ρ S2 fun y S3 => dPut x y z S3 fun S4 => E.nx ρ S4
  | .frz i, E, ρ, S => ∃ a xs, ρ[i]? = some (some (.ref a)) ∧ S a = some xs ∧ E.nx (ρ.set i (some (.lst xs))) (S.del a)
  | .ret e, E, ρ, S => wE X G e ρ S E.rt
  | .retN, E, _, S => E.rt .non S
  | .brk, E, ρ, S => E.bk ρ S
  | .cont, E, ρ, S => E.ct ρ S
  | .ex e, E, ρ, S => wE X G e ρ S fun _ S1 => E.nx ρ S1
  | .ite c a b, E, ρ, S => wT X G c ρ S fun t S1 => if t = true then wC a E ρ S1 else wC b E ρ S1
  | .whl c a, E, ρ, S => ∃ n, whileN (fun ρ S k => wT X G c ρ S k) (fun E ρ S => wC a E ρ S) E n ρ S
  | .for tg it a, E, ρ, S => wI X G it ρ S fun xs stay S1 => forL (fun d ρ k => bindT tg d ρ k) (fun E ρ S => wC a E ρ S) stay E xs ρ S1
  | .xasg tg e, E, ρ, S => wX X G e ρ S fun d S1 => isX d (fun c => E.xt c ρ S1) (bindT tg d ρ fun ρ1 => E.nx ρ1 S1)
  | .xret e, E, ρ, S => wX X G e ρ S fun d S1 => isX d (fun c => E.xt c ρ S1) (E.rt d S1)
  | .xex e, E, ρ, S => wX X G e ρ S fun d S1 => isX d (fun c => E.xt c ρ S1) (E.nx ρ S1)
  | .rai c, E, ρ, S => E.xt c ρ S
  | .tr a cs b, E, ρ, S => wC a { nx := E.nx, rt := E.rt, bk := E.bk, ct := E.ct, xt := fun c ρ1 S1 => if c ∈ cs then wC b E ρ1 S1 else E.xt c ρ1 S1 } ρ S
end
/-- a def -/
structure FnD where
  ps : Nat
  slots : Nat
  body : C
def startD (n : Nat) (ds : List D) : Rho := ds.map some ++ List.replicate (n - ds.length) none
mutual
/-- lists that were changed become lists that nobody changes; others may be forgotten -/
inductive Frz (S S2 : Sto) : D → D → Prop
  | same (d : D) : Frz S S2 d d
  | ref {a : Addr} {xs ys : List D} : S a = some xs → S2 a = none → FrzL S S2 xs ys → Frz S S2 (.ref a) (.lst ys)
  | tup {xs ys : List D} : FrzL S S2 xs ys → Frz S S2 (.tup xs) (.tup ys)
  | lst {xs ys : List D} : FrzL S S2 xs ys → Frz S S2 (.lst xs) (.lst ys)
inductive FrzL (S S2 : Sto) : List D → List D → Prop
  | nil : FrzL S S2 [] []
  | cons {x y : D} {xs ys : List D} : Frz S S2 x y → FrzL S S2 xs ys → FrzL S S2 (x :: xs) (y :: ys)
end
theorem FrzL.refl {S S2 : Sto} : ∀ xs : List D, FrzL S S2 xs xs
  | [] => .nil
  | x :: xs => .cons (.same x) (FrzL.refl xs)
/-- what a def gives back -/
def Give (Q : D → Sto → Prop) : D → Sto → Prop := fun d S1 => ∃ S2 d2, Sub S2 S1 ∧ Frz S1 S2 d d2 ∧ Q d2 S2
theorem Give.same {Q : D → Sto → Prop} {d : D} {S : Sto} (h : Q d S) : Give Q d S := ⟨S, d, .refl _, .same d, h⟩
theorem Give.sub {Q : D → Sto → Prop} {d : D} {S S2 : Sto} (s : Sub S2 S) (h : Q d S2) : Give Q d S := ⟨S2, d, s, .same d, h⟩
def callD (X : Mod') (fs : List FnD) : Nat → Fns
  | 0, _, _, _, _ => False
  | k + 1, f, ds, S, Q => if f < 1000 then ∃ fd, fs[f]? = some fd ∧ ds.length = fd.ps ∧
      wC X (callD X fs k) fd.body { nx := fun _ S1 => Give Q .non S1, rt := Give Q, bk := fun _ _ => False, ct := fun _ _ => False } (startD fd.slots ds) S
    else ∃ fd, fs[f - 1000]? = some fd ∧ ds.length = fd.ps ∧
      wC X (callD X fs k) fd.body { nx := fun _ S1 => Give Q .non S1, rt := Give Q, bk := fun _ _ => False, ct := fun _ _ => False, xt := fun c _ S1 => Give Q (.exc c) S1 } (startD fd.slots ds) S
end DL

set_option Elab.async false
set_option linter.all false
set_option maxRecDepth 100000
set_option maxHeartbeats 4000000
/-! DL2: how data stand in the heap. -/
namespace DL
open PySem PySem.Spec PyProof.Rows L2

section
variable {K : PySem.W.Frag} {tb : List Addr} {Z : Addr → Prop}
/-- keys and values by turns, the entries of a dict -/
inductive Mt : List D → List V → List (NestedKey × Addr × Value) → Prop
  | nil : Mt [] [] []
  | cons {d e : D} {p : Addr} {k : NestedKey} {v : V} {u : Value} {ds : List D} {vs : List V} {ts : List (NestedKey × Addr × Value)} : keyOf d = some k → k.depth ≤ 8 → RelV v u → Mt ds vs ts → Mt (d :: e :: ds) (.ref p :: v :: vs) ((k, p, u) :: ts)
/-- a dict stands here -/
def CellD (H : Hp) (a : Addr) (xs : List D) (vs : List V) : Prop := ∃ w ts, H a = some (dctO w a ts) ∧ a ≠ sysModules ∧ (ts.map (·.1)).Nodup ∧ Mt xs vs ts
theorem dct_not {H : Hp} {a : Addr} {w : World} {ts : List (NestedKey × Addr × Value)} (h : H a = some (dctO w a ts)) : ¬ LstH H a := fun ⟨vs, e⟩ => by rw [h] at e; exact nomatch (Option.some.inj e)
theorem DctH.not {H : Hp} {a : Addr} (h : DctH H a) : ¬ LstH H a := let ⟨_, _, e⟩ := h; dct_not e
/-- the lists and dicts that are changed stand -/
structure SRep (K : PySem.W.Frag) (Z : Addr → Prop) (S : Sto) (H : Hp) : Prop where
  at_ : ∀ a xs, S a = some xs → LstH H a → ∃ vs, H a = some (.lst vs) ∧ RepL K Z S H xs vs
  hid : ∀ a, Z a → (∃ o, H a = some (.lst o)) ∧ S a = none
  dt : ∀ a xs, S a = some xs → ¬ LstH H a → ∃ vs, CellD H a xs vs ∧ RepL K Z S H xs vs
/-- the code objects' tables stand -/
def Tabs (tb : List Addr) (H : Hp) : Prop := ∀ P ∈ tb, GxR.TabG H P
/-- what is behind: all that is not changed is as it was -/
structure Ext (S : Sto) (H : Hp) (S' : Sto) (H' : Hp) : Prop where
  keep : ∀ a o, H a = some o → S a = none → (∀ ps, o ≠ .tbl ps) → H' a = some o ∧ S' a = none
  ls : ∀ a, LstH H a → LstH H' a
  ds : ∀ a, DctH H a → DctH H' a
theorem Ext.refl {S : Sto} {H : Hp} : Ext S H S H := ⟨fun _ _ h n _ => ⟨h, n⟩, fun _ h => h, fun _ h => h⟩
theorem Ext.trans {S S1 S2 : Sto} {H H1 H2 : Hp} (a : Ext S H S1 H1) (b : Ext S1 H1 S2 H2) : Ext S H S2 H2 :=
  ⟨fun c o h n t => let ⟨h1, n1⟩ := a.keep c o h n t; b.keep c o h1 n1 t, fun c h => b.ls c (a.ls c h), fun c h => b.ds c (a.ds c h)⟩
/-- what stands at a place that is changed -/
theorem SRep.some_at {S : Sto} {H : Hp} (s : SRep K Z S H) {a : Addr} {xs : List D} (q : S a = some xs) : (∃ vs, H a = some (.lst vs)) ∨ DctH H a := by
  by_cases l : LstH H a
  · exact .inl l
  · obtain ⟨_, ⟨w, ts, h, _⟩, _⟩ := s.dt a xs q l
    exact .inr ⟨w, ts, h⟩
def SNo (S : Sto) (H : Hp) : Prop := ∀ a o, H a = some o → (∀ vs, o ≠ .lst vs) → (∀ φ, o ≠ .ext φ) → S a = none
theorem SRep.no {S : Sto} {H : Hp} (s : SRep K Z S H) {a : Addr} {o : HO} (e : H a = some o) (n : ∀ vs, o ≠ .lst vs) (n' : ∀ φ, o ≠ .ext φ) : S a = none := by
  cases q : S a with
  | none => rfl
  | some xs =>
    rcases s.some_at q with ⟨vs, h⟩ | ⟨w, ts, h⟩
    · rw [e] at h; exact absurd (Option.some.inj h) (n vs)
    · rw [e] at h; exact absurd (Option.some.inj h) (n' _)
theorem SRep.sno {S : Sto} {H : Hp} (s : SRep K Z S H) : SNo S H := fun _ _ e n n' => s.no e n n'
theorem SRep.free {S : Sto} {H : Hp} (s : SRep K Z S H) {a : Addr} (e : H a = none) : S a = none := by
  cases q : S a with
  | none => rfl
  | some xs =>
    rcases s.some_at q with ⟨vs, h⟩ | ⟨w, ts, h⟩ <;> (rw [e] at h; cases h)
theorem sqT_extN {S S' : Sto} {H H' : Hp} (s : SNo S H) (x : Ext S H S' H') {a : Addr} {vs : List V} (h : SqT K H a vs) : SqT K H' a vs := by
  rcases h with (h | ⟨o, h⟩) | h
  · exact .inl (.inl (x.keep a _ h (s _ _ h (fun vs e => by cases e) fun φ e => by cases e) fun ps e => by cases e).1)
  · exact .inl (.inr ⟨o, (x.keep a _ h (s _ _ h (fun vs e => by cases e) fun φ e => by cases e) fun ps e => by cases e).1⟩)
  · exact .inr h
theorem ScrV.extN {S S' : Sto} {H H' : Hp} (s : SNo S H) (x : Ext S H S' H') {a : Addr} {vs : List V} : ScrV K H a vs → ScrV K H' a vs
  | .frz o h => .frz o (x.keep a _ h (s _ _ h (fun vs e => by cases e) fun φ e => by cases e) fun ps e => by cases e).1
  | .txt o its n h1 h2 h3 h4 h5 h6 => .txt o its n h1 h2 h3 h4 h5 h6
mutual
theorem Rep.extN {S S' : Sto} {H H' : Hp} (s : SNo S H) (x : Ext S H S' H') : ∀ {d : D} {v : V}, Rep K Z S H d v → Rep K Z S' H' d v
  | _, _, .non => .non
  | _, _, .bl b => .bl b
  | _, _, .int i => .int i
  | _, _, .str z => .str z
  | _, _, .tup h r => .tup (sqT_extN s x h) (RepL.extN s x r)
  | _, _, .lst h n nz r => let z := x.keep _ _ h n (fun ps e => by cases e); .lst z.1 z.2 nz (RepL.extN s x r)
  | _, _, .scr h r => .scr (h.extN s x) (RepL.extN s x r)
  | _, _, .ref l => .ref (x.ls _ l)
  | _, _, .dct l => .dct (x.ds _ l)
theorem RepL.extN {S S' : Sto} {H H' : Hp} (s : SNo S H) (x : Ext S H S' H') : ∀ {d : List D} {v : List V}, RepL K Z S H d v → RepL K Z S' H' d v
  | _, _, .nil => .nil
  | _, _, .cons h r => .cons (Rep.extN s x h) (RepL.extN s x r)
end
theorem sqT_ext {S S' : Sto} {H H' : Hp} (s : SRep K Z S H) (x : Ext S H S' H') {a : Addr} {vs : List V} (h : SqT K H a vs) : SqT K H' a vs := sqT_extN s.sno x h
theorem ScrV.ext {S S' : Sto} {H H' : Hp} {a : Addr} {vs : List V} (h : ScrV K H a vs) (s : SRep K Z S H) (x : Ext S H S' H') : ScrV K H' a vs := h.extN s.sno x
theorem Rep.ext {S S' : Sto} {H H' : Hp} {d : D} {v : V} (r : Rep K Z S H d v) (s : SRep K Z S H) (x : Ext S H S' H') : Rep K Z S' H' d v := r.extN s.sno x
theorem RepL.ext {S S' : Sto} {H H' : Hp} {d : List D} {v : List V} (r : RepL K Z S H d v) (s : SRep K Z S H) (x : Ext S H S' H') : RepL K Z S' H' d v := r.extN s.sno x
theorem RepL.length {S : Sto} {H : Hp} : ∀ {d : List D} {v : List V}, RepL K Z S H d v → d.length = v.length
  | _, _, .nil => rfl
  | _, _, .cons _ r => by rw [List.length_cons, List.length_cons, RepL.length r]
theorem RepL.get {S : Sto} {H : Hp} : ∀ {ds : List D} {vs : List V} {i : Nat} {d : D}, RepL K Z S H ds vs → ds[i]? = some d → ∃ v, vs[i]? = some v ∧ Rep K Z S H d v
  | _, _, i, _, .nil, e => by simp at e
  | _, _, 0, _, .cons r _, e => by simp at e; subst e; exact ⟨_, rfl, r⟩
  | _, _, i + 1, _, .cons _ t, e => by
    obtain ⟨v, h1, h2⟩ := RepL.get (i := i) t (by simpa using e)
    exact ⟨v, by simpa using h1, h2⟩
theorem RepL.get' {S : Sto} {H : Hp} : ∀ {ds : List D} {vs : List V} {i : Nat} {v : V}, RepL K Z S H ds vs → vs[i]? = some v → ∃ d, ds[i]? = some d ∧ Rep K Z S H d v
  | _, _, i, _, .nil, e => by simp at e
  | _, _, 0, _, .cons r _, e => by simp at e; subst e; exact ⟨_, rfl, r⟩
  | _, _, i + 1, _, .cons _ t, e => by
    obtain ⟨v, h1, h2⟩ := RepL.get' (i := i) t (by simpa using e)
    exact ⟨v, by simpa using h1, h2⟩
theorem RepL.append {S : Sto} {H : Hp} : ∀ {ds es : List D} {vs ws : List V}, RepL K Z S H ds vs → RepL K Z S H es ws → RepL K Z S H (ds ++ es) (vs ++ ws)
  | _, _, _, _, .nil, s => s
  | _, _, _, _, .cons r t, s => .cons r (RepL.append t s)
theorem RepL.take {S : Sto} {H : Hp} : ∀ {ds : List D} {vs : List V} (n : Nat), RepL K Z S H ds vs → RepL K Z S H (ds.take n) (vs.take n)
  | _, _, 0, _ => by simp; exact .nil
  | _, _, _ + 1, .nil => .nil
  | _, _, n + 1, .cons r t => .cons r (RepL.take n t)
theorem RepL.drop {S : Sto} {H : Hp} : ∀ {ds : List D} {vs : List V} (n : Nat), RepL K Z S H ds vs → RepL K Z S H (ds.drop n) (vs.drop n)
  | _, _, 0, r => by simpa using r
  | _, _, _ + 1, .nil => .nil
  | _, _, n + 1, .cons _ t => RepL.drop n t
theorem RepL.reverse {S : Sto} {H : Hp} : ∀ {ds : List D} {vs : List V}, RepL K Z S H ds vs → RepL K Z S H ds.reverse vs.reverse
  | _, _, .nil => .nil
  | _, _, .cons r t => by rw [List.reverse_cons, List.reverse_cons]; exact (RepL.reverse t).append (.cons r .nil)
theorem RepL.set {S : Sto} {H : Hp} {d : D} {v : V} (r : Rep K Z S H d v) : ∀ {ds : List D} {vs : List V} (i : Nat), RepL K Z S H ds vs → RepL K Z S H (ds.set i d) (vs.set i v)
  | _, _, _, .nil => .nil
  | _, _, 0, .cons _ t => .cons r t
  | _, _, i + 1, .cons q t => .cons q (RepL.set r i t)
theorem RepL.dropLast {S : Sto} {H : Hp} {ds : List D} {vs : List V} (r : RepL K Z S H ds vs) : RepL K Z S H ds.dropLast vs.dropLast := by
  rw [List.dropLast_eq_take, List.dropLast_eq_take, r.length]; exact r.take _
theorem RepL.eraseIdx {S : Sto} {H : Hp} : ∀ {ds : List D} {vs : List V}, RepL K Z S H ds vs → ∀ i : Nat, RepL K Z S H (ds.eraseIdx i) (vs.eraseIdx i)
  | _, _, .nil, _ => .nil
  | _, _, .cons _ t, 0 => t
  | _, _, .cons q t, i + 1 => .cons q (RepL.eraseIdx t i)
theorem RepL.snoc {S : Sto} {H : Hp} {ds : List D} {vs : List V} {d : D} {v : V} (r : RepL K Z S H ds vs) (q : Rep K Z S H d v) : RepL K Z S H (ds ++ [d]) (vs ++ [v]) := r.append (.cons q .nil)
theorem RepL.cut {S : Sto} {H : Hp} {ds : List D} {vs : List V} (r : RepL K Z S H ds vs) (lo hi : Option Int) : RepL K Z S H (cutD ds lo hi) (cutV vs lo hi) := by
  unfold cutD cutV; rw [r.length]; exact (r.drop _).take _
theorem RepL.rep {S : Sto} {H : Hp} {ds : List D} {vs : List V} (r : RepL K Z S H ds vs) : ∀ n : Nat, RepL K Z S H (List.replicate n ds).flatten (List.replicate n vs).flatten
  | 0 => .nil
  | n + 1 => by rw [List.replicate_succ, List.replicate_succ, List.flatten_cons, List.flatten_cons]; exact r.append (r.rep n)
theorem RepL.filterMap {S : Sto} {H : Hp} {ds : List D} {vs : List V} (r : RepL K Z S H ds vs) : ∀ p : List Nat, RepL K Z S H (permD p ds) (permD p vs)
  | [] => .nil
  | i :: p => by
    have ih := r.filterMap p
    unfold permD at ih ⊢
    rw [List.filterMap_cons, List.filterMap_cons]
    cases e : ds[i]? with
    | none =>
      have : vs[i]? = none := by
        rw [List.getElem?_eq_none_iff] at e ⊢; rw [← r.length]; exact e
      rw [this]; exact ih
    | some d =>
      obtain ⟨v, h1, h2⟩ := r.get e
      rw [h1]; exact .cons h2 ih
theorem LstH.upd {H : Hp} {p a : Addr} {o : HO} (h : H p = none) (l : LstH H a) : LstH (upd H p o) a := let ⟨vs, e⟩ := l; ⟨vs, by rw [upd_ne (ne_of_none e h)]; exact e⟩
theorem DctH.upd {H : Hp} {p a : Addr} {o : HO} (h : H p = none) (l : DctH H a) : DctH (upd H p o) a := let ⟨w, ts, e⟩ := l; ⟨w, ts, by rw [upd_ne (ne_of_none e h)]; exact e⟩
theorem LstH.ne {H : Hp} {p a : Addr} {o : HO} (q : a ≠ p) (l : LstH (L2.upd H p o) a) : LstH H a := let ⟨vs, e⟩ := l; ⟨vs, by rw [upd_ne q] at e; exact e⟩
theorem CellD.ne {H : Hp} {p a : Addr} {o : HO} {xs : List D} {vs : List V} (q : a ≠ p) (l : CellD H a xs vs) : CellD (L2.upd H p o) a xs vs := let ⟨w, ts, e, r⟩ := l; ⟨w, ts, by rw [upd_ne q]; exact e, r⟩
/-- a new thing is laid -/
theorem Ext.new {S : Sto} {H : Hp} {p : Addr} {o : HO} (h : H p = none) : Ext S H S (upd H p o) := ⟨fun a u e n _ => ⟨by rw [upd_ne (ne_of_none e h)]; exact e, n⟩, fun _ l => l.upd h, fun _ l => l.upd h⟩
theorem SRep.ne {S : Sto} {H : Hp} (s : SRep K Z S H) {p a : Addr} {xs : List D} (h : H p = none) (e : S a = some xs) : a ≠ p := fun z => by
  rw [z, s.free h] at e; cases e
theorem SRep.new {S : Sto} {H : Hp} {p : Addr} {o : HO} (s : SRep K Z S H) (h : H p = none) : SRep K Z S (upd H p o) := ⟨fun a xs e l => by
  have q := s.ne h e
  obtain ⟨vs, h1, r⟩ := s.at_ a xs e (l.ne q)
  exact ⟨vs, by rw [upd_ne q]; exact h1, r.ext s (Ext.new h)⟩, fun a z => by
  obtain ⟨⟨o, e⟩, n⟩ := s.hid a z
  exact ⟨⟨o, by rw [upd_ne (ne_of_none e h)]; exact e⟩, n⟩, fun a xs e l => by
  have q := s.ne h e
  obtain ⟨vs, c, r⟩ := s.dt a xs e fun l' => l (l'.upd h)
  exact ⟨vs, c.ne q, r.ext s (Ext.new h)⟩⟩
theorem SRep.nz {S : Sto} {H : Hp} {p : Addr} (s : SRep K Z S H) (h : H p = none) : ¬ Z p := fun z => by
  obtain ⟨⟨o, e⟩, n⟩ := s.hid p z
  rw [h] at e; cases e
theorem Tabs.new {H : Hp} {p : Addr} {o : HO} (t : Tabs tb H) (h : H p = none) : Tabs tb (upd H p o) := fun P hP => by
  obtain ⟨ps, e, ok⟩ := t P hP
  exact ⟨ps, by rw [upd_ne (ne_of_none e h)]; exact e, ok⟩
/-- one place written -/
theorem SRep.puts {S : Sto} {H : Hp} {p : Addr} {o : HO} {xs : List D} (s : SRep K Z S H) (x : Ext S H (S.put p xs) (upd H p o)) (np : ∀ ws, H p = some (.lst ws) → S p ≠ none)
    (hl : LstH (upd H p o) p → ∃ vs, o = .lst vs ∧ RepL K Z (S.put p xs) (upd H p o) xs vs) (hd : ¬ LstH (upd H p o) p → ∃ vs, CellD (upd H p o) p xs vs ∧ RepL K Z (S.put p xs) (upd H p o) xs vs) : SRep K Z (S.put p xs) (upd H p o) := ⟨fun a ys e l => by
  by_cases q : a = p
  · subst q
    rw [Sto.put_same] at e; cases e
    obtain ⟨vs, eo, r⟩ := hl l
    exact ⟨vs, by rw [upd_same, eo], r⟩
  · rw [Sto.put_ne q] at e
    obtain ⟨ws, h1, r1⟩ := s.at_ a ys e (l.ne q)
    exact ⟨ws, by rw [upd_ne q]; exact h1, r1.ext s x⟩, fun a z => by
  obtain ⟨⟨o, e⟩, n⟩ := s.hid a z
  have q : a ≠ p := by rintro rfl; exact np _ e n
  exact ⟨⟨o, by rw [upd_ne q]; exact e⟩, by rw [Sto.put_ne q]; exact n⟩, fun a ys e l => by
  by_cases q : a = p
  · subst q
    rw [Sto.put_same] at e; cases e
    exact hd l
  · rw [Sto.put_ne q] at e
    obtain ⟨ws, h1, r1⟩ := s.dt a ys e fun l' => l (let ⟨vs, e'⟩ := l'; ⟨vs, by rw [upd_ne q]; exact e'⟩)
    exact ⟨ws, h1.ne q, r1.ext s x⟩⟩
/-- a new list that is changed later -/
theorem Ext.newS {S : Sto} {H : Hp} {p : Addr} {o : HO} {xs : List D} (h : H p = none) : Ext S H (S.put p xs) (upd H p o) :=
  ⟨fun a u e n _ => ⟨by rw [upd_ne (ne_of_none e h)]; exact e, by rw [Sto.put_ne (ne_of_none e h)]; exact n⟩, fun _ l => l.upd h, fun _ l => l.upd h⟩
theorem SRep.newS {S : Sto} {H : Hp} {p : Addr} {xs : List D} {vs : List V} (s : SRep K Z S H) (h : H p = none) (r : RepL K Z S H xs vs) : SRep K Z (S.put p xs) (upd H p (.lst vs)) :=
  s.puts (Ext.newS h) (fun ws e => by rw [h] at e; cases e) (fun _ => ⟨vs, rfl, r.ext s (Ext.newS h)⟩) (fun n => absurd ⟨vs, upd_same⟩ n)
/-- a new dict -/
theorem SRep.newD {S : Sto} {H : Hp} {p : Addr} {w : World} (s : SRep K Z S H) (h : H p = none) (np : p ≠ sysModules) : SRep K Z (S.put p []) (upd H p (dctO w p [])) :=
  s.puts (Ext.newS h) (fun ws e => by rw [h] at e; cases e) (fun l => absurd l (dct_not (ts := []) upd_same)) (fun _ => ⟨[], ⟨w, [], upd_same, np, List.nodup_nil, .nil⟩, .nil⟩)
/-- a changed list -/
theorem Ext.chg {S : Sto} {H : Hp} {p : Addr} {vs us : List V} {xs ys : List D} (hp : H p = some (.lst us)) (h : S p = some ys) : Ext S H (S.put p xs) (upd H p (.lst vs)) :=
  ⟨fun a u e n _ => by
    have q : a ≠ p := by rintro rfl; rw [h] at n; cases n
    exact ⟨by rw [upd_ne q]; exact e, by rw [Sto.put_ne q]; exact n⟩, fun a l => by
    by_cases q : a = p
    · subst q; exact ⟨vs, upd_same⟩
    · obtain ⟨ws, e⟩ := l; exact ⟨ws, by rw [upd_ne q]; exact e⟩, fun a l => by
    obtain ⟨w, ts, e⟩ := l
    have q : a ≠ p := by rintro rfl; rw [hp] at e; exact nomatch (Option.some.inj e)
    exact ⟨w, ts, by rw [upd_ne q]; exact e⟩⟩
theorem SRep.chg {S : Sto} {H : Hp} {p : Addr} {xs ys : List D} {vs us : List V} (s : SRep K Z S H) (hp : H p = some (.lst us)) (h : S p = some ys) (r : RepL K Z S H xs vs) : SRep K Z (S.put p xs) (upd H p (.lst vs)) :=
  s.puts (Ext.chg hp h) (fun ws _ => by rw [h]; exact fun z => nomatch z) (fun _ => ⟨vs, rfl, r.ext s (Ext.chg hp h)⟩) (fun n => absurd ⟨vs, upd_same⟩ n)
theorem Tabs.chgO {S : Sto} {H : Hp} {p : Addr} {ys : List D} {o : HO} (s : SRep K Z S H) (t : Tabs tb H) (h : S p = some ys) : Tabs tb (upd H p o) := fun P hP => by
  obtain ⟨ps, e, ok⟩ := t P hP
  refine ⟨ps, ?_, ok⟩
  rw [upd_ne]; exact e
  rintro rfl
  rw [s.no e (fun _ z => by cases z) (fun _ z => by cases z)] at h; cases h
theorem Tabs.chg {S : Sto} {H : Hp} {p : Addr} {ys : List D} {vs : List V} (s : SRep K Z S H) (t : Tabs tb H) (h : S p = some ys) : Tabs tb (upd H p (.lst vs)) := t.chgO s h
/-- a changed dict -/
theorem Ext.chgD {S : Sto} {H : Hp} {p : Addr} {w : World} {ts : List (NestedKey × Addr × Value)} {xs ys : List D} (hp : DctH H p) (h : S p = some ys) : Ext S H (S.put p xs) (upd H p (dctO w p ts)) :=
  ⟨fun a u e n _ => by
    have q : a ≠ p := by rintro rfl; rw [h] at n; cases n
    exact ⟨by rw [upd_ne q]; exact e, by rw [Sto.put_ne q]; exact n⟩, fun a l => by
    have q : a ≠ p := by rintro rfl; exact hp.not l
    obtain ⟨ws, e⟩ := l; exact ⟨ws, by rw [upd_ne q]; exact e⟩, fun a l => by
    by_cases q : a = p
    · subst q; exact ⟨w, ts, upd_same⟩
    · obtain ⟨w', ts', e⟩ := l
      exact ⟨w', ts', by rw [upd_ne q]; exact e⟩⟩
theorem SRep.chgD {S : Sto} {H : Hp} {p : Addr} {xs ys : List D} {vs : List V} {w : World} {ts : List (NestedKey × Addr × Value)} (s : SRep K Z S H) (hp : DctH H p) (h : S p = some ys) (r : RepL K Z S H xs vs) (np : p ≠ sysModules) (nd : (ts.map (·.1)).Nodup) (m : Mt xs vs ts) :
    SRep K Z (S.put p xs) (upd H p (dctO w p ts)) :=
  s.puts (Ext.chgD hp h) (fun ws _ => by rw [h]; exact fun z => nomatch z) (fun l => absurd l (dct_not (ts := ts) upd_same)) (fun _ => ⟨vs, ⟨w, ts, upd_same, np, nd, m⟩, r.ext s (Ext.chgD hp h)⟩)
/-- forgetting lists that were changed -/
theorem Ext.sub {S S1 S2 : Sto} {H H1 : Hp} (x : Ext S H S1 H1) (h : Sub S2 S1) : Ext S H S2 H1 := ⟨fun a o e n t => by
  obtain ⟨h1, n1⟩ := x.keep a o e n t
  refine ⟨h1, ?_⟩
  cases q : S2 a with
  | none => rfl
  | some xs => (rw [h a xs q] at n1; cases n1), x.ls, x.ds⟩
mutual
theorem Rep.sub {S S2 : Sto} {H : Hp} (h : Sub S2 S) : ∀ {d : D} {v : V}, Rep K Z S H d v → Rep K Z S2 H d v
  | _, _, .non => .non
  | _, _, .bl b => .bl b
  | _, _, .int i => .int i
  | _, _, .str z => .str z
  | _, _, .tup q r => .tup q (RepL.sub h r)
  | _, _, .lst e n nz r => .lst e (by
      rename_i a _ _
      cases q : S2 a with
      | none => rfl
      | some xs => rw [h a xs q] at n; cases n) nz (RepL.sub h r)
  | _, _, .scr q r => .scr q (RepL.sub h r)
  | _, _, .ref l => .ref l
  | _, _, .dct l => .dct l
theorem RepL.sub {S S2 : Sto} {H : Hp} (h : Sub S2 S) : ∀ {d : List D} {v : List V}, RepL K Z S H d v → RepL K Z S2 H d v
  | _, _, .nil => .nil
  | _, _, .cons q r => .cons (Rep.sub h q) (RepL.sub h r)
end
mutual
theorem Rep.frz {S S2 : Sto} {H : Hp} (s : SRep K Z S H) (h : Sub S2 S) : ∀ {d d2 : D} {v : V}, Frz S S2 d d2 → Rep K Z S H d v → Rep K Z S2 H d2 v
  | _, _, _, .same _, r => r.sub h
  | _, _, _, .ref e n f, r => by
    cases r
    rename_i l
    obtain ⟨vs, h1, r1⟩ := s.at_ _ _ e l
    refine .lst h1 n (fun z => ?_) (RepL.frz s h f r1)
    have := (s.hid _ z).2
    rw [e] at this; cases this
  | _, _, _, .tup f, .tup q r => .tup q (RepL.frz s h f r)
  | _, _, _, .lst f, .lst e n nz r => .lst e (by
      rename_i _ _ a _
      cases q : S2 a with
      | none => rfl
      | some xs => rw [h a xs q] at n; cases n) nz (RepL.frz s h f r)
theorem RepL.frz {S S2 : Sto} {H : Hp} (s : SRep K Z S H) (h : Sub S2 S) : ∀ {d d2 : List D} {v : List V}, FrzL S S2 d d2 → RepL K Z S H d v → RepL K Z S2 H d2 v
  | _, _, _, .nil, .nil => .nil
  | _, _, _, .cons f fs, .cons q r => .cons (Rep.frz s h f q) (RepL.frz s h fs r)
end
theorem SRep.sub {S S2 : Sto} {H : Hp} (s : SRep K Z S H) (h : Sub S2 S) : SRep K Z S2 H := ⟨fun a xs e l => by
  obtain ⟨vs, h1, r⟩ := s.at_ a xs (h a xs e) l
  exact ⟨vs, h1, r.sub h⟩, fun a z => by
  obtain ⟨e, n⟩ := s.hid a z
  refine ⟨e, ?_⟩
  cases q : S2 a with
  | none => rfl
  | some xs => (rw [h a xs q] at n; cases n), fun a xs e l => by
  obtain ⟨vs, h1, r⟩ := s.dt a xs (h a xs e) l
  exact ⟨vs, h1, r.sub h⟩⟩

/-! ### the slots -/
structure EnvR (K : PySem.W.Frag) (Z : Addr → Prop) (S : Sto) (H : Hp) (ρ : Rho) (σ : L2.St) : Prop where
  len : σ.length = ρ.length
  at_ : ∀ (i : Nat) (d : D), ρ[i]? = some (some d) → ∃ v, σ[i]? = some (some v) ∧ Rep K Z S H d v
theorem EnvR.ext {S S' : Sto} {H H' : Hp} {ρ : Rho} {σ : L2.St} (e : EnvR K Z S H ρ σ) (s : SRep K Z S H) (x : Ext S H S' H') : EnvR K Z S' H' ρ σ :=
  ⟨e.len, fun i d h => let ⟨v, h1, r⟩ := e.at_ i d h; ⟨v, h1, r.ext s x⟩⟩
theorem EnvR.set {S : Sto} {H : Hp} {ρ : Rho} {σ : L2.St} (e : EnvR K Z S H ρ σ) (i : Nat) {d : D} {v : V} (r : Rep K Z S H d v) : EnvR K Z S H (ρ.set i (some d)) (σ.set i (some v)) := by
  refine ⟨by simp [e.len], fun j c h => ?_⟩
  by_cases q : i = j
  · subst q
    by_cases l : i < ρ.length
    · rw [List.getElem?_set_self l] at h
      cases h
      exact ⟨v, by rw [List.getElem?_set_self (by rw [e.len]; exact l)], r⟩
    · rw [List.getElem?_eq_none (by simpa using l)] at h; cases h
  · rw [List.getElem?_set_ne q] at h
    obtain ⟨w, h1, h2⟩ := e.at_ j c h
    exact ⟨w, by rw [List.getElem?_set_ne q]; exact h1, h2⟩
theorem EnvR.forget {S : Sto} {H : Hp} {ρ : Rho} {σ : L2.St} (e : EnvR K Z S H ρ σ) (i : Nat) : EnvR K Z S H (ρ.set i none) (σ.set i none) := by
  refine ⟨by simp [e.len], fun j c h => ?_⟩
  by_cases q : i = j
  · subst q
    by_cases l : i < ρ.length
    · rw [List.getElem?_set_self l] at h; cases h
    · rw [List.getElem?_eq_none (by simpa using l)] at h; cases h
  · rw [List.getElem?_set_ne q] at h
    obtain ⟨w, h1, h2⟩ := e.at_ j c h
    exact ⟨w, by rw [List.getElem?_set_ne q]; exact h1, h2⟩
theorem EnvR.wipe {S : Sto} {H : Hp} {ρ : Rho} {σ : L2.St} (e : EnvR K Z S H ρ σ) : ∀ vs : List Nat, EnvR K Z S H (wipeD ρ vs) (wipe σ vs)
  | [] => e
  | v :: vs => by unfold wipeD L2.wipe; exact (e.wipe vs).forget v
/-- all together -/
structure Sim (K : PySem.W.Frag) (tb : List Addr) (Z : Addr → Prop) (ρ : Rho) (S : Sto) (σ : L2.St) (H : Hp) : Prop where
  env : EnvR K Z S H ρ σ
  sto : SRep K Z S H
  tab : Tabs tb H
theorem Sim.go {ρ : Rho} {S S' : Sto} {σ : L2.St} {H H' : Hp} (m : Sim K tb Z ρ S σ H) (x : Ext S H S' H') (s : SRep K Z S' H') (t : Tabs tb H') : Sim K tb Z ρ S' σ H' := ⟨m.env.ext m.sto x, s, t⟩

/-! ### what is hidden -/
/-- one more thing hidden -/
def more (Z : Addr → Prop) (L : Addr) : Addr → Prop := fun a => Z a ∨ a = L
mutual
/-- what is hidden may be other things, if none of them stood -/
theorem Rep.zz {Z' : Addr → Prop} {S : Sto} {H : Hp} (h : ∀ a, Z' a → Z a ∨ H a = none) : ∀ {d : D} {v : V}, Rep K Z S H d v → Rep K Z' S H d v
  | _, _, .non => .non
  | _, _, .bl b => .bl b
  | _, _, .int i => .int i
  | _, _, .str z => .str z
  | _, _, .tup q r => .tup q (RepL.zz h r)
  | _, _, .lst e n nz r => .lst e n (fun z => by
      rcases h _ z with z | z
      · exact nz z
      · rw [z] at e; cases e) (RepL.zz h r)
  | _, _, .scr q r => .scr q (RepL.zz h r)
  | _, _, .ref l => .ref l
  | _, _, .dct l => .dct l
theorem RepL.zz {Z' : Addr → Prop} {S : Sto} {H : Hp} (h : ∀ a, Z' a → Z a ∨ H a = none) : ∀ {d : List D} {v : List V}, RepL K Z S H d v → RepL K Z' S H d v
  | _, _, .nil => .nil
  | _, _, .cons q r => .cons (Rep.zz h q) (RepL.zz h r)
end
theorem more_z {H : Hp} {L : Addr} (h : H L = none) : ∀ a, more Z L a → Z a ∨ H a = none := fun a z => by
  rcases z with z | rfl
  · exact .inl z
  · exact .inr h
theorem Rep.more {S : Sto} {H : Hp} {L : Addr} (h : H L = none) {d : D} {v : V} (r : Rep K Z S H d v) : Rep K (DL.more Z L) S H d v := r.zz (more_z h)
theorem RepL.more {S : Sto} {H : Hp} {L : Addr} (h : H L = none) {d : List D} {v : List V} (r : RepL K Z S H d v) : RepL K (DL.more Z L) S H d v := r.zz (more_z h)
theorem Rep.less {S : Sto} {H : Hp} {L : Addr} {d : D} {v : V} (r : Rep K (DL.more Z L) S H d v) : Rep K Z S H d v := r.zz fun a z => .inl (.inl z)
theorem RepL.less {S : Sto} {H : Hp} {L : Addr} {d : List D} {v : List V} (r : RepL K (DL.more Z L) S H d v) : RepL K Z S H d v := r.zz fun a z => .inl (.inl z)
theorem lst_chz {H : Hp} {L a : Addr} {us : List V} (l : LstH H a) : LstH (upd H L (.lst us)) a := by
  by_cases q : a = L
  · subst q; exact ⟨us, upd_same⟩
  · obtain ⟨ws, e⟩ := l; exact ⟨ws, by rw [upd_ne q]; exact e⟩
theorem dct_chz {H : Hp} {L a : Addr} {ws us : List V} (h : H L = some (.lst ws)) (l : DctH H a) : DctH (upd H L (.lst us)) a := by
  obtain ⟨w, ts, e⟩ := l
  have q : a ≠ L := by rintro rfl; rw [h] at e; exact nomatch (Option.some.inj e)
  exact ⟨w, ts, by rw [upd_ne q]; exact e⟩
mutual
/-- what is hidden is changed -/
theorem Rep.chz {S : Sto} {H : Hp} {L : Addr} {ws us : List V} (h : H L = some (.lst ws)) (z : Z L) : ∀ {d : D} {v : V}, Rep K Z S H d v → Rep K Z S (upd H L (.lst us)) d v
  | _, _, .non => .non
  | _, _, .bl b => .bl b
  | _, _, .int i => .int i
  | _, _, .str z => .str z
  | _, _, .tup q r => .tup (by
      rcases q with (q | ⟨o, q⟩) | q
      · exact .inl (.inl (by rw [upd_ne]; exact q; rintro rfl; rw [h] at q; cases q))
      · exact .inl (.inr ⟨o, by rw [upd_ne]; exact q; rintro rfl; rw [h] at q; cases q⟩)
      · exact .inr q) (RepL.chz h z r)
  | _, _, .lst e n nz r => .lst (by rw [upd_ne]; exact e; rintro rfl; exact nz z) n nz (RepL.chz h z r)
  | _, _, .scr q r => .scr (match q with
      | .frz o q => .frz o (by rw [upd_ne]; exact q; rintro rfl; rw [h] at q; cases q)
      | .txt o its n h1 h2 h3 h4 h5 h6 => .txt o its n h1 h2 h3 h4 h5 h6) (RepL.chz h z r)
  | _, _, .ref l => .ref (lst_chz l)
  | _, _, .dct l => .dct (dct_chz h l)
theorem RepL.chz {S : Sto} {H : Hp} {L : Addr} {ws us : List V} (h : H L = some (.lst ws)) (z : Z L) : ∀ {d : List D} {v : List V}, RepL K Z S H d v → RepL K Z S (upd H L (.lst us)) d v
  | _, _, .nil => .nil
  | _, _, .cons q r => .cons (Rep.chz h z q) (RepL.chz h z r)
end
theorem SRep.chz {S : Sto} {H : Hp} {L : Addr} {ws us : List V} (s : SRep K Z S H) (h : H L = some (.lst ws)) (z : Z L) : SRep K Z S (upd H L (.lst us)) := by
  have ne : ∀ a xs, S a = some xs → a ≠ L := fun a xs e q => by rw [q, (s.hid _ z).2] at e; cases e
  refine ⟨fun a xs e l => ?_, fun a z' => ?_, fun a xs e l => ?_⟩
  · obtain ⟨vs, h1, r⟩ := s.at_ a xs e (l.ne (ne a xs e))
    exact ⟨vs, by rw [upd_ne (ne a xs e)]; exact h1, r.chz h z⟩
  · obtain ⟨⟨o, e⟩, n⟩ := s.hid a z'
    refine ⟨?_, n⟩
    by_cases q : a = L
    · subst q; exact ⟨_, upd_same⟩
    · exact ⟨o, by rw [upd_ne q]; exact e⟩
  · obtain ⟨vs, h1, r⟩ := s.dt a xs e fun l' => l (lst_chz l')
    exact ⟨vs, h1.ne (ne a xs e), r.chz h z⟩
theorem SRep.moreNew {S : Sto} {H : Hp} {L : Addr} {ws : List V} (s : SRep K Z S H) (h : H L = none) : SRep K (more Z L) S (upd H L (.lst ws)) := by
  refine ⟨fun a xs e l => ?_, fun a z => ?_, fun a xs e l => ?_⟩
  · have q := s.ne h e
    obtain ⟨vs, h1, r⟩ := s.at_ a xs e (l.ne q)
    exact ⟨vs, by rw [upd_ne q]; exact h1, (r.more h).extN s.sno (Ext.new h)⟩
  · rcases z with z | rfl
    · obtain ⟨⟨o, e⟩, n⟩ := s.hid a z
      exact ⟨⟨o, by rw [upd_ne (ne_of_none e h)]; exact e⟩, n⟩
    · exact ⟨⟨_, upd_same⟩, s.free h⟩
  · have q := s.ne h e
    obtain ⟨vs, h1, r⟩ := s.dt a xs e fun l' => l (l'.upd h)
    exact ⟨vs, h1.ne q, (r.more h).extN s.sno (Ext.new h)⟩
theorem SRep.less {S : Sto} {H : Hp} {L : Addr} (s : SRep K (DL.more Z L) S H) : SRep K Z S H := ⟨fun a xs e l => by
  obtain ⟨vs, h1, r⟩ := s.at_ a xs e l
  exact ⟨vs, h1, r.less⟩, fun a z => s.hid a (.inl z), fun a xs e l => by
  obtain ⟨vs, h1, r⟩ := s.dt a xs e l
  exact ⟨vs, h1, r.less⟩⟩
theorem EnvR.less {S : Sto} {H : Hp} {L : Addr} {ρ : Rho} {σ : L2.St} (e : EnvR K (DL.more Z L) S H ρ σ) : EnvR K Z S H ρ σ := ⟨e.len, fun i d h => let ⟨v, h1, r⟩ := e.at_ i d h; ⟨v, h1, r.less⟩⟩
theorem EnvR.more {S : Sto} {H : Hp} {L : Addr} {ρ : Rho} {σ : L2.St} (h : H L = none) (e : EnvR K Z S H ρ σ) : EnvR K (DL.more Z L) S H ρ σ := ⟨e.len, fun i d h' => let ⟨v, h1, r⟩ := e.at_ i d h'; ⟨v, h1, r.more h⟩⟩
theorem EnvR.chz {S : Sto} {H : Hp} {L : Addr} {ws us : List V} {ρ : Rho} {σ : L2.St} (h : H L = some (.lst ws)) (z : Z L) (e : EnvR K Z S H ρ σ) : EnvR K Z S (upd H L (.lst us)) ρ σ := ⟨e.len, fun i d h' => let ⟨v, h1, r⟩ := e.at_ i d h'; ⟨v, h1, r.chz h z⟩⟩
mutual
/-- the hidden list is one of those that are changed -/
theorem Rep.shown {S : Sto} {H : Hp} {L : Addr} {xs : List D} : ∀ {d : D} {v : V}, Rep K (DL.more Z L) S H d v → Rep K Z (S.put L xs) H d v
  | _, _, .non => .non
  | _, _, .bl b => .bl b
  | _, _, .int i => .int i
  | _, _, .str z => .str z
  | _, _, .tup q r => .tup q (RepL.shown r)
  | _, _, .lst e n nz r => .lst e (by rw [Sto.put_ne (fun q => nz (.inr q))]; exact n) (fun z => nz (.inl z)) (RepL.shown r)
  | _, _, .scr q r => .scr q (RepL.shown r)
  | _, _, .ref l => .ref l
  | _, _, .dct l => .dct l
theorem RepL.shown {S : Sto} {H : Hp} {L : Addr} {xs : List D} : ∀ {d : List D} {v : List V}, RepL K (DL.more Z L) S H d v → RepL K Z (S.put L xs) H d v
  | _, _, .nil => .nil
  | _, _, .cons q r => .cons (Rep.shown q) (RepL.shown r)
end
theorem SRep.shown {S : Sto} {H : Hp} {L : Addr} {xs : List D} {vs : List V} (s : SRep K (DL.more Z L) S H) (nz : ¬ Z L) (e : H L = some (.lst vs)) (r : RepL K (DL.more Z L) S H xs vs) : SRep K Z (S.put L xs) H := ⟨fun a ys h l => by
  by_cases q : a = L
  · subst q
    rw [Sto.put_same] at h; cases h
    exact ⟨vs, e, r.shown⟩
  · rw [Sto.put_ne q] at h
    obtain ⟨ws, h1, r1⟩ := s.at_ a ys h l
    exact ⟨ws, h1, r1.shown⟩, fun a z => by
  obtain ⟨h1, n⟩ := s.hid a (.inl z)
  refine ⟨h1, ?_⟩
  rw [Sto.put_ne]; exact n
  rintro rfl; exact nz z, fun a ys h l => by
  have q : a ≠ L := by rintro rfl; exact l ⟨vs, e⟩
  rw [Sto.put_ne q] at h
  obtain ⟨ws, h1, r1⟩ := s.dt a ys h l
  exact ⟨ws, h1, r1.shown⟩⟩
end
end DL

set_option Elab.async false
set_option linter.all false
set_option maxRecDepth 100000
set_option maxHeartbeats 4000000
/-! DL2M: a tuple once, or no times. -/
namespace DL
open PySem PySem.Spec PyProof.Rows L2
theorem tuple_mul1 (l : Addr) (items : Array Value) (n : Nat) (dd : Option Addr) (sl : Array (Option Value)) (u : Tok) :
    Meets (Builtin.«tuple.__mul__» ⟨[.ref l, .int 1 u], []⟩) (fun _ R s => s.heap.get? l = some { cls := .type "tuple", dict := dd, data := .seq items n, slots := sl } ∧ R (.ok (.ret (.ref l))) s) :=
  .of_wp fun prog w A R s h => by
    obtain ⟨hp, g, d, tk, os⟩ := s
    obtain ⟨hl, h⟩ := h
    have f1 := AutoSeq1.idx_int
    wp_walk using wpAny_loadPart' hl
    repeat (first
      | (refine wpAny_ite_false (decide_eq_false (by decide)) ?_; wp_walk using wpAny_loadPart' hl)
      | (refine wpAny_ite_true (decide_eq_true (by simp)) ?_; wp_walk using wpAny_loadPart' hl))
    exact ⟨_, rfl, h⟩
theorem tuple_mul0 (l : Addr) (items : Array Value) (n : Nat) (dd : Option Addr) (sl : Array (Option Value)) (x : Int) (u : Tok) (c0 : (decide (x < -(2 ^ 63)) || decide (x ≥ 2 ^ 63)) = false) (c1 : (items.isEmpty || x == 1) = false) (c2 : (decide (x ≤ 0) || items.isEmpty) = true) :
    Meets (Builtin.«tuple.__mul__» ⟨[.ref l, .int x u], []⟩) (fun _ R s => s.heap.get? l = some { cls := .type "tuple", dict := dd, data := .seq items n, slots := sl } ∧
      R (.ok (.ret (Value.ref s.heap.objs.size))) { s with heap := s.heap.push { cls := Value.type "tuple", data := Data.seq #[] }, toks := s.toks }) :=
  .of_wp fun prog w A R s h => by
    obtain ⟨hp, g, d, tk, os⟩ := s
    obtain ⟨hl, h⟩ := h
    have f1 := AutoSeq1.idx_int
    wp_walk using wpAny_loadPart' hl
    repeat (first
      | (refine wpAny_ite_false (decide_eq_false (by rw [c0]; exact Bool.false_ne_true)) ?_; wp_walk using wpAny_loadPart' hl)
      | (refine wpAny_ite_false (decide_eq_false (by rw [c1]; exact Bool.false_ne_true)) ?_; wp_walk using wpAny_loadPart' hl)
      | (refine wpAny_ite_true (decide_eq_true (by rw [c2])) ?_; wp_walk using wpAny_loadPart' hl)
      | (refine wpAny_ite_false (decide_eq_false (by decide)) ?_; wp_walk using wpAny_loadPart' hl))
    exact ⟨_, rfl, h⟩
def rRepT' (K : PySem.W.Frag) : R2 := fun x y H Q => ∃ l k xs, x = .ref l ∧ y = .int k ∧ SqT K H l xs ∧ xs ≠ [] ∧ -(2 ^ 63) ≤ k ∧ k ≤ 1 ∧ (k = 1 → Q (.ref l) H) ∧ (k ≤ 0 → ∀ p, H p = none → Q (.ref p) (upd H p (.tup [])))
section
variable {X : Cx}
theorem op_repT' : OpR X (binaryOp .Mult) (rRepT' X.K) := by
  intro pins s σ H x y v u Q I rx ry h
  obtain ⟨l, k, xs, rfl, rfl, hT, hne, h0, h1, q1, q0⟩ := h
  cases rx
  obtain ⟨t, rfl⟩ := ry
  obtain ⟨its, r, ⟨⟨cls, dd, data, sl⟩, ho, hc, n, hd⟩, hs⟩ := I.tuple hT
  simp only at hc hd
  subst hc hd
  have hle : its.length = xs.length := r.length.symm
  have hn : its ≠ [] := fun e => hne (by
    rw [e] at hle
    exact List.eq_nil_of_length_eq_zero hle.symm)
  have hi : its.toArray.isEmpty = false := by
    cases its with
    | nil => exact absurd rfl hn
    | cons a b => rfl
  by_cases hk : k = 1
  · subst hk
    exact wpAny_binaryOp_repeat_ref (T := "tuple") (U := "int") (by decide) ⟨_, ho, rfl⟩ (fun s' => typeIs_int s' 1 t) noFill_tuple_mul F.fills_int_mul F.slot_int_rmul repeat_tuple F.slot_int_index.lookup
      (call_meets F.slot_int_rmul (typeIs_int s 1 t) F.entry_int_rmul (F.args_int_rmul_2 _ _) (int_rmul_tuple 1 t l its.toArray n dd sl)
        ⟨ho, rfl, ⟨_, ho, rfl⟩, call_meets F.slot_tuple_mul ⟨_, ho, rfl⟩ F.entry_tuple_mul (F.args_tuple_mul_2 _ _) (tuple_mul1 l its.toArray n dd sl t) ⟨ho, .ref l, H, I, rfl, q1 rfl⟩⟩)
  · have c0 : (decide (k < -(2 ^ 63)) || decide (k ≥ 2 ^ 63)) = false := by
      rw [decide_eq_false (by omega), decide_eq_false (by omega)] <;> rfl
    have c1 : (its.toArray.isEmpty || k == 1) = false := by
      rw [hi, Bool.false_or]
      exact beq_eq_false_iff_ne.mpr hk
    have c2 : (decide (k ≤ 0) || its.toArray.isEmpty) = true := by
      rw [decide_eq_true (by omega)]; rfl
    refine wpAny_binaryOp_repeat_ref (T := "tuple") (U := "int") (by decide) ⟨_, ho, rfl⟩ (fun s' => typeIs_int s' k t) noFill_tuple_mul F.fills_int_mul F.slot_int_rmul repeat_tuple F.slot_int_index.lookup
      (call_meets F.slot_int_rmul (typeIs_int s k t) F.entry_int_rmul (F.args_int_rmul_2 _ _) (int_rmul_tuple k t l its.toArray n dd sl)
        ⟨ho, rfl, ⟨_, ho, rfl⟩, call_meets F.slot_tuple_mul ⟨_, ho, rfl⟩ F.entry_tuple_mul (F.args_tuple_mul_2 _ _) (tuple_mul0 l its.toArray n dd sl k t c0 c1 c2) ⟨ho, ?_⟩⟩)
    refine ⟨.ref s.heap.objs.size, _, I.laid (t' := s.toks) (o := .tup []) (fun b ob q => Heap.get?_push_of_some _ q) (Nat.le_refl _) ?_, rfl, q0 (by omega) _ (I.hok.fresh (Nat.le_refl _))⟩
    exact ⟨by show 0 ≤ sizeLine; exact Nat.zero_le _, [], .nil, IsTup.new _ _⟩
end
end DL

set_option Elab.async false
set_option linter.all false
set_option maxRecDepth 100000
set_option maxHeartbeats 4000000
/-! DL3: the operations, by values. -/
namespace DL
open PySem PySem.Spec PyProof.Rows L2

theorem LIM_eq : (sizeLine : Nat) = LIM := by rw [sizeLine_eq]; rfl
/-- what follows an operation -/
def Aft (K : PySem.W.Frag) (tb : List Addr) (Z : Addr → Prop) (S : Sto) (H : Hp) (Q : D → Sto → Prop) (Qv : VK) : Prop :=
  ∀ d S' v H', Ext S H S' H' → SRep K Z S' H' → Tabs tb H' → Rep K Z S' H' d v → Q d S' → Qv v H'
section
variable {K : PySem.W.Frag} {tb : List Addr} {Z : Addr → Prop} {S : Sto} {H : Hp} {Q : D → Sto → Prop} {Qv : VK}
theorem Aft.same (k : Aft K tb Z S H Q Qv) (s : SRep K Z S H) (t : Tabs tb H) {d : D} {v : V} (r : Rep K Z S H d v) (q : Q d S) : Qv v H := k d S v H Ext.refl s t r q
theorem Aft.tup (k : Aft K tb Z S H Q Qv) (s : SRep K Z S H) (t : Tabs tb H) {ds : List D} {vs : List V} (r : RepL K Z S H ds vs) (q : Q (.tup ds) S) {p : Addr} (hp : H p = none) : Qv (.ref p) (upd H p (.tup vs)) :=
  k _ S _ _ (Ext.new hp) (s.new hp) (t.new hp) (.tup (SqT.of upd_same) (r.ext s (Ext.new hp))) q
theorem Aft.lst (k : Aft K tb Z S H Q Qv) (s : SRep K Z S H) (t : Tabs tb H) {ds : List D} {vs : List V} (r : RepL K Z S H ds vs) (q : Q (.lst ds) S) {p : Addr} (hp : H p = none) : Qv (.ref p) (upd H p (.lst vs)) :=
  k _ S _ _ (Ext.new hp) (s.new hp) (t.new hp) (.lst upd_same (s.free hp) (s.nz hp) (r.ext s (Ext.new hp))) q
theorem Aft.put (k : Aft K tb Z S H Q Qv) (s : SRep K Z S H) (t : Tabs tb H) {ds : List D} {vs : List V} (r : RepL K Z S H ds vs) (q : ∀ a, S a = none → Q (.ref a) (S.put a ds)) {p : Addr} (hp : H p = none) : Qv (.ref p) (upd H p (.lst vs)) :=
  k _ _ _ _ (Ext.newS hp) (s.newS hp r) (t.new hp) (.ref ⟨_, upd_same⟩) (q p (s.free hp))
end
/-- an operation of two values -/
def Sem2 (X : Cx) (tb : List Addr) (f : Value → Value → Sem Value) (w : D → D → Sto → (D → Sto → Prop) → Prop) : Prop :=
  ∃ r : R2, OpR X f r ∧ ∀ (Z : Addr → Prop) (x y : D) (v u : V) (S : Sto) (H : Hp) (Q : D → Sto → Prop) (Qv : VK), SRep X.K Z S H → Tabs tb H → Rep X.K Z S H x v → Rep X.K Z S H y u → w x y S Q → Aft X.K tb Z S H Q Qv → r v u H Qv
section
variable {X : Cx} {tb : List Addr}
/-- division by _pylong has room -/
def PyRoom (X : Cx) : Prop := ∀ (pins : List (Addr × Obj)) (s : Shared) (σ : L2.St) (H : Hp), Inv X pins σ H s → PySem.PylongRoom (model X.prog X.w) X.A s
theorem op_fdivP (hp : PyRoom X) : OpR X (binaryOp .FloorDiv) (rI (fun _ j => j ≠ 0) fun i j => .int (i.fdiv j)) := by
  intro pins s σ H x y v u Q I rx ry h
  obtain ⟨i, j, rfl, rfl, hc, q⟩ := h
  obtain ⟨t, rfl⟩ := rx
  obtain ⟨t', rfl⟩ := ry
  exact floordiv_int hc ⟨.int _, H, I.tok _, ⟨_, rfl⟩, q⟩ (.inr (hp pins s σ H I))
theorem op_fdivSm : OpR X (binaryOp .FloorDiv) (rI (fun _ j => j ≠ 0 ∧ j.natAbs.log2 < 9000) fun i j => .int (i.fdiv j)) := opI fun _ _ _ _ _ _ _ hc q => floordiv_int hc.1 q (.inl (PyProof.noPylong_of_log2 hc.2))
theorem op_mulG : OpR X (binaryOp .Mult) (rI MulOk fun i j => .int (i * j)) := opI fun _ _ _ _ _ _ _ hc q => mul_int q hc
def BO.op : BO → Operator
  | .add => .Add | .sub => .Sub | .mul => .Mult | .fdiv => .FloorDiv | .fdivS => .FloorDiv | .mod => .Mod | .pow => .Pow
theorem sem_add : Sem2 X tb (binaryOp BO.add.op) (fun x y S Q => dBin .add x y fun z => Q z S) := by
  refine ⟨_, op_add.or (op_catA.or op_cat), fun Z x y v u S H Q Qv s t rx ry w k => ?_⟩
  cases x <;> cases y <;> try exact w.elim
  · cases rx; cases ry
    exact .inl ⟨_, _, rfl, rfl, k.same s t (.int _) w⟩
  · cases rx with
    | tup h r =>
      cases ry with
      | tup h2 r2 =>
        obtain ⟨w1, w⟩ := w
        refine .inr (.inl ⟨_, _, _, _, rfl, rfl, h, h2, by rw [LIM_eq, ← r.length, ← r2.length]; exact w1, fun e => ?_, fun e e2 => ?_, fun _ _ p hp => k.tup s t (r.append r2) w hp⟩)
        · subst e
          cases r
          exact k.same s t (.tup h2 r2) (by simpa using w)
        · subst e2
          cases r2
          exact k.same s t (.tup h r) (by simpa using w)
  · cases rx with
    | lst h n nz r =>
      cases ry with
      | lst h2 n2 nz2 r2 =>
        obtain ⟨w1, w⟩ := w
        exact .inr (.inr ⟨_, _, _, _, rfl, rfl, h, h2, by rw [LIM_eq, ← r.length, ← r2.length]; exact w1, fun p hp => k.lst s t (r.append r2) w hp⟩)
theorem sem_sub : Sem2 X tb (binaryOp BO.sub.op) (fun x y S Q => dBin .sub x y fun z => Q z S) := by
  refine ⟨_, op_sub, fun Z x y v u S H Q Qv s t rx ry w k => ?_⟩
  cases x <;> cases y <;> try exact w.elim
  cases rx; cases ry
  exact ⟨_, _, rfl, rfl, k.same s t (.int _) w⟩
theorem sem_mul : Sem2 X tb (binaryOp BO.mul.op) (fun x y S Q => dBin .mul x y fun z => Q z S) := by
  refine ⟨_, op_mulG.or (op_repT.or (op_rep.or op_repT')), fun Z x y v u S H Q Qv s t rx ry w k => ?_⟩
  cases x <;> cases y <;> try exact w.elim
  · cases rx; cases ry
    exact .inl ⟨_, _, rfl, rfl, w.1, k.same s t (.int _) w.2⟩
  · cases rx with
    | tup h r =>
      cases ry
      rename_i n a vs
      obtain ⟨⟨w1, w2, w3, w4⟩, w⟩ := w
      have hne : vs ≠ [] := fun e => by
        subst e
        cases r
        exact w1 rfl
      by_cases h2 : 2 ≤ n
      · exact .inr (.inl ⟨_, _, _, rfl, rfl, h, hne, h2, w3, by rw [← r.length]; exact w4, fun p hp => k.tup s t (r.rep _) w hp⟩)
      · refine .inr (.inr (.inr ⟨_, _, _, rfl, rfl, h, hne, w2, by omega, fun e => ?_, fun e p hp => k.tup s t .nil ?_ hp⟩))
        · subst e
          exact k.same s t (.tup h r) (by simpa using w)
        · rw [show n.toNat = 0 by omega] at w
          exact w
  · cases rx with
    | lst h n nz r =>
      cases ry
      obtain ⟨⟨w1, w2, w3⟩, w⟩ := w
      exact .inr (.inr (.inl ⟨_, _, _, rfl, rfl, h, w1, w2, by rw [LIM_eq, ← r.length]; exact w3, fun p hp => k.lst s t (r.rep _) w hp⟩))
theorem sem_fdiv (hp : PyRoom X) : Sem2 X tb (binaryOp BO.fdiv.op) (fun x y S Q => dBin .fdiv x y fun z => Q z S) := by
  refine ⟨_, op_fdivP hp, fun Z x y v u S H Q Qv s t rx ry w k => ?_⟩
  cases x <;> cases y <;> try exact w.elim
  cases rx; cases ry
  exact ⟨_, _, rfl, rfl, w.1, k.same s t (.int _) w.2⟩
theorem sem_fdivS : Sem2 X tb (binaryOp BO.fdivS.op) (fun x y S Q => dBin .fdivS x y fun z => Q z S) := by
  refine ⟨_, op_fdivSm, fun Z x y v u S H Q Qv s t rx ry w k => ?_⟩
  cases x <;> cases y <;> try exact w.elim
  cases rx; cases ry
  exact ⟨_, _, rfl, rfl, w.1, k.same s t (.int _) w.2⟩
theorem sem_mod : Sem2 X tb (binaryOp BO.mod.op) (fun x y S Q => dBin .mod x y fun z => Q z S) := by
  refine ⟨_, op_modN, fun Z x y v u S H Q Qv s t rx ry w k => ?_⟩
  cases x <;> cases y <;> try exact w.elim
  cases rx; cases ry
  exact ⟨_, _, rfl, rfl, w.1, k.same s t (.int _) w.2⟩
theorem sem_pow : Sem2 X tb (binaryOp BO.pow.op) (fun x y S Q => dBin .pow x y fun z => Q z S) := by
  refine ⟨_, op_pow, fun Z x y v u S H Q Qv s t rx ry w k => ?_⟩
  cases x <;> cases y <;> try exact w.elim
  cases rx; cases ry
  exact ⟨_, _, rfl, rfl, w.1, k.same s t (.int _) w.2⟩
theorem sem_bin (hp : PyRoom X) : ∀ o : BO, Sem2 X tb (binaryOp o.op) (fun x y S Q => dBin o x y fun z => Q z S)
  | .add => sem_add
  | .sub => sem_sub
  | .mul => sem_mul
  | .fdiv => sem_fdiv hp
  | .fdivS => sem_fdivS
  | .mod => sem_mod
  | .pow => sem_pow
theorem sem_binS (o : BO) (ho : o ≠ .fdiv) : Sem2 X tb (binaryOp o.op) (fun x y S Q => dBin o x y fun z => Q z S) := by
  cases o with
  | fdiv => exact absurd rfl ho
  | fdivS => exact sem_fdivS
  | add => exact sem_add
  | sub => exact sem_sub
  | mul => exact sem_mul
  | mod => exact sem_mod
  | pow => exact sem_pow

/-! ### two lists, one that is changed later -/
theorem lsOf_rep {Z : Addr → Prop} {S : Sto} {H : Hp} {x : D} {v : V} {xs : List D} (s : SRep X.K Z S H) (r : Rep X.K Z S H x v) (h : lsOf S x = some xs) : ∃ a vs, v = .ref a ∧ H a = some (.lst vs) ∧ RepL X.K Z S H xs vs := by
  cases x <;> try cases h
  · cases r with
    | lst h n nz r => exact ⟨_, _, rfl, h, r⟩
  · cases r with
    | ref l =>
      obtain ⟨vs, h1, r⟩ := s.at_ _ _ h l
      exact ⟨_, _, rfl, h1, r⟩
theorem sem_cat : Sem2 X tb (binaryOp BO.add.op) (fun x y S Q => dCat x y S Q) := by
  refine ⟨_, op_add.or (op_catA.or op_cat), fun Z x y v u S H Q Qv s t rx ry ⟨xs, ys, h1, h2, l, w⟩ k => ?_⟩
  obtain ⟨a, vs, rfl, ha, r1⟩ := lsOf_rep s rx h1
  obtain ⟨b, us, rfl, hb, r2⟩ := lsOf_rep s ry h2
  exact .inr (.inr ⟨_, _, _, _, rfl, rfl, ha, hb, by rw [LIM_eq, ← r1.length, ← r2.length]; exact l, fun p hp => k.put s t (r1.append r2) w hp⟩)
theorem sem_rep : Sem2 X tb (binaryOp BO.mul.op) (fun x y S Q => dRep x y S Q) := by
  refine ⟨_, op_mulG.or (op_repT.or (op_rep.or op_repT')), fun Z x y v u S H Q Qv s t rx ry w k => ?_⟩
  cases x <;> cases y <;> try exact w.elim
  cases rx with
  | lst h n nz r =>
    cases ry
    obtain ⟨⟨w1, w2, w3⟩, w⟩ := w
    exact .inr (.inr (.inl ⟨_, _, _, rfl, rfl, h, w1, w2, by rw [LIM_eq, ← r.length]; exact w3, fun p hp => k.put s t (r.rep _) w hp⟩))
/-! ### comparisons -/
mutual
theorem rep_dp {Z : Addr → Prop} {S : Sto} {H : Hp} : ∀ {d : D} {v : V} {p : PyData}, Rep X.K Z S H d v → toPy d = some p → Dp X.K H v p
  | _, _, _, .non, e => by cases e; exact .non
  | _, _, _, .bl b, e => by cases e; exact .bl b
  | _, _, _, .int i, e => by cases e; exact .int i
  | _, _, _, .str z, e => by cases e; exact .str z
  | _, _, _, .tup h r, e => by
    obtain ⟨q, hq, e2⟩ := Option.map_eq_some_iff.mp e
    subst e2
    exact .tup h (repL_dp r hq)
  | _, _, _, .lst h n nz r, e => by
    obtain ⟨q, hq, e2⟩ := Option.map_eq_some_iff.mp e
    subst e2
    exact .lst (.inl (.inl h)) (repL_dp r hq)
  | _, _, _, .scr h r, e => by cases e
  | _, _, _, .ref a, e => by cases e
  | _, _, _, .dct a, e => by cases e
theorem repL_dp {Z : Addr → Prop} {S : Sto} {H : Hp} : ∀ {d : List D} {v : List V} {p : List PyData}, RepL X.K Z S H d v → toPy.toPys d = some p → DpAll X.K H v p
  | _, _, _, .nil, e => by cases e; exact .nil
  | _, _, _, .cons (d := d) (ds := ds) q r, e => by
    unfold toPy.toPys at e
    cases h1 : toPy d with
    | none => rw [h1] at e; cases e
    | some y =>
      cases h2 : toPy.toPys ds with
      | none => rw [h1, h2] at e; cases e
      | some ys =>
        rw [h1, h2] at e
        cases e
        exact .cons (rep_dp q h1) (repL_dp r h2)
end
theorem rep_dpl {Z : Addr → Prop} {S : Sto} {H : Hp} (s : SRep X.K Z S H) {d : D} {v : V} {p : PyData} (r : Rep X.K Z S H d v) (e : toPy (look S d) = some p) : Dp X.K H v p := by
  cases d with
  | ref a =>
    cases hx : S a with
    | none =>
      rw [show look S (.ref a) = .ref a by simp [look, hx]] at e
      cases e
    | some xs =>
      rw [show look S (.ref a) = .lst xs by simp [look, hx]] at e
      exact rep_dp (Rep.frz s Sub.del (.ref hx Sto.del_same (FrzL.refl xs)) r) e
  | _ => exact rep_dp r e
theorem eqv_int (i j : Int) : PyData.eqv (.int i) (.int j) = decide (i = j) := by
  simp [PyData.eqv] <;> rfl
theorem sem_eq (hu : X.A.units + 64 < cLine) : Sem2 X tb (compareOp .Eq) (fun x y S Q => dEq S x y fun b => Q (.bl b) S) := by
  refine ⟨_, op_eq.or (op_eqD hu), fun Z x y v u S H Q Qv s t rx ry w k => ?_⟩
  have gen : (∃ p q, toPy (look S x) = some p ∧ toPy (look S y) = some q ∧ SeqAt.shaped p = true ∧ SeqAt.shaped q = true ∧ Q (.bl (PyData.eqv p q)) S) → (rEq v u H Qv ∨ rEqD X.K v u H Qv) := fun ⟨p, q, h1, h2, h3, h4, h5⟩ =>
    .inr ⟨p, q, rep_dpl s rx h1, rep_dpl s ry h2, h3, h4, k.same s t (.bl _) h5⟩
  cases x <;> cases y <;> first
    | (cases rx; cases ry; refine .inl ⟨rfl, ?_⟩; rename_i a b; rw [show decide (V.int a = V.int b) = decide (a = b) by simp]; exact k.same s t (.bl _) w)
    | (cases rx; cases ry; refine .inl ⟨rfl, ?_⟩; rename_i a b; rw [show decide (V.str a = V.str b) = decide (a = b) by simp]; exact k.same s t (.bl _) w)
    | (cases rx; cases ry; refine .inl ⟨rfl, ?_⟩; rename_i a b; rw [show decide (V.bl a = V.bl b) = decide (a = b) by simp]; exact k.same s t (.bl _) w)
    | exact gen w
theorem sem_ne (hu : X.A.units + 64 < cLine) : Sem2 X tb (compareOp .NotEq) (fun x y S Q => dEq S x y fun b => Q (.bl !b) S) := by
  refine ⟨_, op_ne.or (op_neD hu), fun Z x y v u S H Q Qv s t rx ry w k => ?_⟩
  have gen : (∃ p q, toPy (look S x) = some p ∧ toPy (look S y) = some q ∧ SeqAt.shaped p = true ∧ SeqAt.shaped q = true ∧ Q (.bl (!PyData.eqv p q)) S) → (rNe v u H Qv ∨ rNeD X.K v u H Qv) := fun ⟨p, q, h1, h2, h3, h4, h5⟩ =>
    .inr ⟨p, q, rep_dpl s rx h1, rep_dpl s ry h2, h3, h4, k.same s t (.bl _) h5⟩
  cases x <;> cases y <;> first
    | (cases rx; cases ry; refine .inl ⟨rfl, ?_⟩; rename_i a b; rw [show decide (V.int a = V.int b) = decide (a = b) by simp]; exact k.same s t (.bl _) w)
    | (cases rx; cases ry; refine .inl ⟨rfl, ?_⟩; rename_i a b; rw [show decide (V.str a = V.str b) = decide (a = b) by simp]; exact k.same s t (.bl _) w)
    | (cases rx; cases ry; refine .inl ⟨rfl, ?_⟩; rename_i a b; rw [show decide (V.bl a = V.bl b) = decide (a = b) by simp]; exact k.same s t (.bl _) w)
    | exact gen w
def CO.op : CO → CmpOp
  | .eq => .Eq | .ne => .NotEq | .lt => .Lt | .le => .LtE | .gt => .Gt | .ge => .GtE | .isN => .Is | .notN => .IsNot | .inn => .In | .nin => .NotIn
theorem inV_ints (i : Int) : ∀ ns : List Int, inV (.int i) (ns.map V.int) = decide (i ∈ ns)
  | [] => by simp [inV]
  | n :: ns => by
    have ih := inV_ints i ns
    unfold inV at ih ⊢
    rw [List.map_cons, List.any_cons, ih]
    by_cases e : i = n
    · subst e; simp [eqV]
    · have e2 : ¬ n = i := fun z => e z.symm
      simp [eqV, e, e2]
theorem repInts' {K : PySem.W.Frag} {Z : Addr → Prop} {S : Sto} {H : Hp} : ∀ {ns : List Int} {vs : List V}, RepL K Z S H (ns.map D.int) vs → vs = ns.map V.int
  | [], _, .nil => rfl
  | _ :: _, _, .cons (.int _) r => by rw [repInts' r]; rfl
theorem flat_ints (ns : List Int) : (ns.map V.int).all flatV = true := by rw [List.all_map]; exact List.all_eq_true.mpr fun _ _ => rfl
theorem sem_cmp (hu : X.A.units + 64 < cLine) : ∀ o : CO, Sem2 X tb (compareOp o.op) (fun x y S Q => dCmp S o x y fun z => Q z S)
  | .eq => sem_eq hu
  | .ne => sem_ne hu
  | .lt => by
    refine ⟨_, op_lt, fun Z x y v u S H Q Qv s t rx ry w k => ?_⟩
    cases x <;> cases y <;> try exact w.elim
    cases rx; cases ry
    exact ⟨_, _, rfl, rfl, k.same s t (.bl _) w⟩
  | .le => by
    refine ⟨_, op_le, fun Z x y v u S H Q Qv s t rx ry w k => ?_⟩
    cases x <;> cases y <;> try exact w.elim
    cases rx; cases ry
    exact ⟨_, _, rfl, rfl, k.same s t (.bl _) w⟩
  | .gt => by
    refine ⟨_, op_gt, fun Z x y v u S H Q Qv s t rx ry w k => ?_⟩
    cases x <;> cases y <;> try exact w.elim
    cases rx; cases ry
    exact ⟨_, _, rfl, rfl, k.same s t (.bl _) w⟩
  | .ge => by
    refine ⟨_, op_ge, fun Z x y v u S H Q Qv s t rx ry w k => ?_⟩
    cases x <;> cases y <;> try exact w.elim
    cases rx; cases ry
    exact ⟨_, _, rfl, rfl, k.same s t (.bl _) w⟩
  | .isN => by
    refine ⟨_, op_isN, fun Z x y v u S H Q Qv s t rx ry w k => ?_⟩
    cases y with
    | non =>
      cases ry
      refine ⟨rfl, ?_⟩
      cases x <;> cases rx <;> exact k.same s t (.bl _) w
    | _ => cases x <;> exact w.elim
  | .notN => by
    refine ⟨_, op_notN, fun Z x y v u S H Q Qv s t rx ry w k => ?_⟩
    cases y with
    | non =>
      cases ry
      refine ⟨rfl, ?_⟩
      cases x <;> cases rx <;> exact k.same s t (.bl _) w
    | _ => cases x <;> exact w.elim
  | .inn => by
    refine ⟨_, op_in_seq, fun Z x y v u S H Q Qv s t rx ry w k => ?_⟩
    cases x <;> cases y <;> try exact w.elim
    cases rx
    cases ry with
    | tup h r =>
      obtain ⟨ns, rfl, w⟩ := w
      have e := repInts' r
      subst e
      refine ⟨_, _, rfl, .inr h, rfl, flat_ints ns, ?_⟩
      rw [if_neg (by decide), inV_ints]
      exact k.same s t (.bl _) w
  | .nin => by
    refine ⟨_, op_notIn_seq, fun Z x y v u S H Q Qv s t rx ry w k => ?_⟩
    cases x <;> cases y <;> try exact w.elim
    cases rx
    cases ry with
    | tup h r =>
      obtain ⟨ns, rfl, w⟩ := w
      have e := repInts' r
      subst e
      refine ⟨_, _, rfl, .inr h, rfl, flat_ints ns, ?_⟩
      rw [if_pos rfl, inV_ints]
      exact k.same s t (.bl _) w
end
end DL

set_option Elab.async false
set_option linter.all false
set_option maxRecDepth 100000
set_option maxHeartbeats 4000000
/-! DL4: truth, built-in functions, places, slices, methods of lists. -/
namespace DL
open PySem PySem.Spec PyProof.Rows L2

section
variable {X : Cx} {tb : List Addr} {Z : Addr → Prop}
theorem SRep.sqL {S : Sto} {H : Hp} (s : SRep X.K Z S H) {a : Addr} {xs : List D} (e : S a = some xs) (l : LstH H a) : ∃ vs, H a = some (.lst vs) ∧ SqL X.K H a vs ∧ RepL X.K Z S H xs vs := by
  obtain ⟨vs, h, r⟩ := s.at_ a xs e l
  exact ⟨vs, h, SqL.of h, r⟩
theorem RepL.isEmpty {K : PySem.W.Frag} {Z : Addr → Prop} {S : Sto} {H : Hp} {ds : List D} {vs : List V} (r : RepL K Z S H ds vs) : ds.isEmpty = vs.isEmpty := by cases r <;> rfl
/-- truth -/
theorem tru_sem {x : D} {v : V} {S : Sto} {H : Hp} {k : Bool → Prop} (s : SRep X.K Z S H) (r : Rep X.K Z S H x v) (w : dTru S x k) : ∃ b, TruV X.K v H b ∧ k b := by
  cases r with
  | non => exact ⟨false, rfl, w⟩
  | bl b => exact ⟨b, rfl, w⟩
  | int i => exact ⟨_, rfl, by rw [show (i != 0) = decide (i ≠ 0) by simp [bne, Bool.beq_eq_decide_eq]]; exact w⟩
  | str z => exact ⟨_, ⟨by rw [LIM_eq]; exact w.1, rfl⟩, by rw [show (((z.length : Int)) != 0) = decide ((z.length : Int) ≠ 0) by simp [bne, Bool.beq_eq_decide_eq]]; exact w.2⟩
  | tup h r => exact ⟨_, .inr (.inl ⟨_, h, rfl⟩), by rw [← r.isEmpty]; exact w⟩
  | lst h n nz r => exact ⟨_, .inl ⟨_, SqL.of h, rfl⟩, by rw [← r.isEmpty]; exact w⟩
  | scr h r => exact ⟨_, .inl ⟨_, h.sq, rfl⟩, by rw [← r.isEmpty]; exact w⟩
  | ref l =>
    obtain ⟨xs, e, w⟩ := w
    obtain ⟨vs, h, h2, r⟩ := s.sqL e l
    exact ⟨_, .inl ⟨_, h2, rfl⟩, by rw [← r.isEmpty]; exact w⟩
  | dct l => exact w.elim

/-! ### built-in functions -/
def SemN (X : Cx) (tb : List Addr) (f : Value) (w : List D → Sto → (D → Sto → Prop) → Prop) : Prop :=
  ∃ r : List V → Hp → VK → Prop, CallR X f r ∧ ∀ (Z : Addr → Prop) (ds : List D) (vs : List V) (S : Sto) (H : Hp) (Q : D → Sto → Prop) (Qv : VK), SRep X.K Z S H → Tabs tb H → RepL X.K Z S H ds vs → w ds S Q → Aft X.K tb Z S H Q Qv → r vs H Qv
def BI.val : BI → Value
  | .abs => .builtin "abs" | .len => .builtin "len" | .int => .type "int" | .tuple => .type "tuple" | .list _ => .type "list" | .sum => .builtin "sum" | .max => .builtin "max" | .min => .builtin "min"
def BI.nm : BI → Str
  | .abs => "abs" | .len => "len" | .int => "int" | .tuple => "tuple" | .list _ => "list" | .sum => "sum" | .max => "max" | .min => "min"
theorem sem_len : SemN X tb (.builtin "len") (dBi .len) := by
  refine ⟨_, call_len, fun Z ds vs S H Q Qv s t r w k => ?_⟩
  cases r with
  | nil => exact w.elim
  | cons r r2 =>
    cases r2 with
    | cons _ _ => rename_i d _ _ _ _ _ _ _; cases d <;> exact w.elim
    | nil =>
      cases r with
      | tup h r =>
        refine ⟨_, _, rfl, .inr ⟨_, h, rfl⟩, ?_⟩
        rw [← r.length]; exact k.same s t (.int _) w
      | lst h n nz r =>
        refine ⟨_, _, rfl, .inl ⟨_, SqL.of h, rfl⟩, ?_⟩
        rw [← r.length]; exact k.same s t (.int _) w
      | scr h r =>
        refine ⟨_, _, rfl, .inl ⟨_, h.sq, rfl⟩, ?_⟩
        rw [← r.length]; exact k.same s t (.int _) w
      | str z => exact ⟨_, _, rfl, ⟨by rw [LIM_eq]; exact w.1, rfl⟩, k.same s t (.int _) w.2⟩
      | ref l =>
        obtain ⟨xs, e, w⟩ := w
        obtain ⟨vs, h, h2, r⟩ := s.sqL e l
        refine ⟨_, _, rfl, .inl ⟨_, h2, rfl⟩, ?_⟩
        rw [← r.length]; exact k.same s t (.int _) w
      | _ => exact w.elim
theorem sem_abs : SemN X tb (.builtin "abs") (dBi .abs) := by
  refine ⟨_, call_abs, fun Z ds vs S H Q Qv s t r w k => ?_⟩
  cases r with
  | nil => exact w.elim
  | cons r r2 =>
    cases r2 with
    | cons _ _ => rename_i d _ _ _ _ _ _ _; cases d <;> exact w.elim
    | nil =>
      cases r with
      | int i => exact ⟨_, rfl, k.same s t (.int _) w⟩
      | _ => exact w.elim
theorem sem_int : SemN X tb (.type "int") (dBi .int) := by
  refine ⟨_, call_int1, fun Z ds vs S H Q Qv s t r w k => ?_⟩
  cases r with
  | nil => exact w.elim
  | cons r r2 =>
    cases r2 with
    | cons _ _ => rename_i d _ _ _ _ _ _ _; cases d <;> exact w.elim
    | nil =>
      cases r with
      | int i => exact .inl ⟨_, rfl, k.same s t (.int _) w⟩
      | bl b => exact .inr ⟨_, rfl, k.same s t (.int _) w⟩
      | _ => exact w.elim
theorem call_tup : CallR X (.type "tuple") (fun xs H Q => ∃ x, xs = [x] ∧ kTup X.K x H Q) := by
  intro pins s σ H xs us Q I r h
  obtain ⟨x, rfl, h⟩ := h
  obtain ⟨u, rfl, rx⟩ := vals1 r
  exact rl_tuple pins s σ H x u Q I rx h
theorem sem_tuple : SemN X tb (.type "tuple") (dBi .tuple) := by
  refine ⟨_, call_tup, fun Z ds vs S H Q Qv s t r w k => ?_⟩
  cases r with
  | nil => exact w.elim
  | cons r r2 =>
    cases r2 with
    | cons _ _ => rename_i d _ _ _ _ _ _ _; cases d <;> exact w.elim
    | nil =>
      cases r with
      | tup h r => exact ⟨_, rfl, .inr ⟨_, _, rfl, h, k.same s t (.tup h r) w⟩⟩
      | lst h n nz r => exact ⟨_, rfl, .inl ⟨_, _, rfl, SqL.of h, fun q hq => k.tup s t r w hq⟩⟩
      | ref l =>
        obtain ⟨xs, e, w⟩ := w
        obtain ⟨vs, h, h2, r⟩ := s.sqL e l
        exact ⟨_, rfl, .inl ⟨_, _, rfl, h2, fun q hq => k.tup s t r w hq⟩⟩
      | _ => exact w.elim
theorem sem_list (mu : Bool) : SemN X tb (.type "list") (dBi (.list mu)) := by
  refine ⟨_, call_list_of, fun Z ds vs S H Q Qv s t r w k => ?_⟩
  have fin : ∀ {ds : List D} {vs : List V} {l : Addr}, RepL X.K Z S H ds vs → (if mu = true then ∀ a, S a = none → Q (.ref a) (S.put a ds) else Q (.lst ds) S) → H l = none → Qv (.ref l) (upd H l (.lst vs)) := fun {ds vs l} r w hl => by
    cases mu with
    | true => exact k.put s t r w hl
    | false => exact k.lst s t r w hl
  cases r with
  | nil => exact w.elim
  | cons r r2 =>
    cases r2 with
    | cons _ _ => rename_i d _ _ _ _ _ _ _; cases d <;> exact w.elim
    | nil =>
      cases r with
      | tup h r => exact ⟨_, _, rfl, .inr h, fun l hl => fin r w hl⟩
      | lst h n nz r => exact ⟨_, _, rfl, .inl (SqL.of h), fun l hl => fin r w hl⟩
      | scr h r => exact ⟨_, _, rfl, .inl h.sq, fun l hl => fin r w hl⟩
      | _ => exact w.elim
theorem repInts {K : PySem.W.Frag} {Z : Addr → Prop} {S : Sto} {H : Hp} : ∀ {ns : List Int} {vs : List V}, RepL K Z S H (ns.map D.int) vs → vs = ns.map V.int
  | [], _, .nil => rfl
  | _ :: _, _, .cons (.int _) r => by rw [repInts r]; rfl
theorem sem_sum (hc : X.calm = true) : SemN X tb (.builtin "sum") (dBi .sum) := by
  refine ⟨_, cr_sum hc, fun Z ds vs S H Q Qv s t r w k => ?_⟩
  cases r with
  | nil => exact w.elim
  | cons r r2 =>
    cases r2 with
    | cons _ _ => rename_i d _ _ _ _ _ _ _; cases d <;> exact w.elim
    | nil =>
      cases r with
      | lst h n nz r =>
        obtain ⟨ns, rfl, w⟩ := w
        have e := repInts r
        subst e
        exact ⟨_, ns, rfl, SqL.of h, k.same s t (.int _) w⟩
      | _ => exact w.elim
theorem callR_or {f : Value} {r1 r2 : List V → Hp → VK → Prop} (h1 : CallR X f r1) (h2 : CallR X f r2) : CallR X f (fun xs H Q => r1 xs H Q ∨ r2 xs H Q) := fun pins s σ H xs us Q I v r => r.elim (h1 pins s σ H xs us Q I v) (h2 pins s σ H xs us Q I v)
theorem sem_max (hc : X.calm = true) : SemN X tb (.builtin "max") (dBi .max) := by
  refine ⟨_, callR_or (cr_max hc) (call_max2 hc), fun Z ds vs S H Q Qv s t r w k => ?_⟩
  cases r with
  | nil => exact w.elim
  | cons r r2 =>
    cases r2 with
    | cons r2 r3 =>
      cases r3 with
      | cons _ _ => cases r <;> cases r2 <;> exact w.elim
      | nil =>
        cases r with
        | int i =>
          cases r2 with
          | int j => exact .inr ⟨i, j, rfl, k.same s t (.int _) w⟩
          | _ => exact w.elim
        | lst _ _ _ _ => cases r2 <;> exact w.elim
        | _ => exact w.elim
    | nil =>
      cases r with
      | lst h n nz r =>
        obtain ⟨ns, rfl, w1, w⟩ := w
        have e := repInts r
        subst e
        exact .inl ⟨_, ns, rfl, SqL.of h, w1, fun m h1 h2 => k.same s t (.int _) (w m h1 h2)⟩
      | _ => exact w.elim
theorem sem_min (hc : X.calm = true) : SemN X tb (.builtin "min") (dBi .min) := by
  refine ⟨_, callR_or (cr_min hc) (call_min2 hc), fun Z ds vs S H Q Qv s t r w k => ?_⟩
  cases r with
  | nil => exact w.elim
  | cons r r2 =>
    cases r2 with
    | cons r2 r3 =>
      cases r3 with
      | cons _ _ => cases r <;> cases r2 <;> exact w.elim
      | nil =>
        cases r with
        | int i =>
          cases r2 with
          | int j => exact .inr ⟨i, j, rfl, k.same s t (.int _) w⟩
          | _ => exact w.elim
        | lst _ _ _ _ => cases r2 <;> exact w.elim
        | _ => exact w.elim
    | nil =>
      cases r with
      | lst h n nz r =>
        obtain ⟨ns, rfl, w1, w⟩ := w
        have e := repInts r
        subst e
        exact .inl ⟨_, ns, rfl, SqL.of h, w1, fun m h1 h2 => k.same s t (.int _) (w m h1 h2)⟩
      | _ => exact w.elim
theorem sem_bi (hc : X.calm = true) : ∀ b : BI, SemN X tb b.val (dBi b)
  | .abs => sem_abs
  | .len => sem_len
  | .int => sem_int
  | .tuple => sem_tuple
  | .list mu => sem_list mu
  | .sum => sem_sum hc
  | .max => sem_max hc
  | .min => sem_min hc

/-! ### isinstance -/
def TN.nm : TN → Str
  | .int => "int" | .bool => "bool" | .str => "str" | .tuple => "tuple"
def TN.ty : TN → String
  | .int => "int" | .bool => "bool" | .str => "str" | .tuple => "tuple"
theorem boot_tn : ∀ t : TN, bootBuiltins t.nm = some (.type t.ty)
  | .int => by decide +kernel
  | .bool => by decide +kernel
  | .str => by decide +kernel
  | .tuple => by decide +kernel
theorem boot_bi : ∀ b : BI, bootBuiltins b.nm = some b.val
  | .abs => by decide +kernel
  | .len => by decide +kernel
  | .int => by decide +kernel
  | .tuple => by decide +kernel
  | .list _ => (by decide +kernel : bootBuiltins ("list" : Str) = some (.type "list"))
  | .sum => by decide +kernel
  | .max => by decide +kernel
  | .min => by decide +kernel
theorem kit_non : ∀ t : TN, kitB "NoneType" t.ty = some false := by intro t; cases t <;> decide +kernel
theorem kit_bool : ∀ t : TN, kitB "bool" t.ty = some (decide (t = .int ∨ t = .bool)) := by intro t; cases t <;> decide +kernel
theorem kit_int : ∀ t : TN, kitB "int" t.ty = some (decide (t = .int)) := by intro t; cases t <;> decide +kernel
theorem kit_str : ∀ t : TN, kitB "str" t.ty = some (decide (t = .str)) := by intro t; cases t <;> decide +kernel
theorem kit_tuple : ∀ t : TN, kitB "tuple" t.ty = some (decide (t = .tuple)) := by intro t; cases t <;> decide +kernel
theorem kit_list : ∀ t : TN, kitB "list" t.ty = some false := by intro t; cases t <;> decide +kernel
theorem sqT_ty {H : Hp} {a : Addr} {vs : List V} (h : SqT X.K H a vs) : TyX X.K H (.ref a) (.type "tuple") := by
  rcases h with (h | ⟨o, h⟩) | ⟨o, its, n, h, hc, _⟩
  · exact .base (.tup h)
  · exact .fTuple h
  · exact .kTuple h hc
theorem isi_sem {x : D} {v : V} {S : Sto} {H : Hp} {t : TN} {Q : Bool → Prop} (s : SRep X.K Z S H) (r : Rep X.K Z S H x v) (w : dIsi S x t Q) : ∃ (u : Value) (b : Bool), TyX X.K H v u ∧ PySem.W.kitOne X.K u (.type t.ty) = some b ∧ Q b := by
  cases r with
  | non => exact ⟨_, _, .base .non, kit_ty (kit_non t), w⟩
  | bl b => exact ⟨_, _, .base (.bl b), kit_ty (kit_bool t), w⟩
  | int i => exact ⟨_, _, .base (.int i), kit_ty (kit_int t), w⟩
  | str z => exact ⟨_, _, .base (.str z), kit_ty (kit_str t), w⟩
  | tup h r => exact ⟨_, _, sqT_ty h, kit_ty (kit_tuple t), w⟩
  | lst h n nz r => exact ⟨_, _, .base (.lst h), kit_ty (kit_list t), w⟩
  | scr h r =>
    cases h with
    | frz o h => exact ⟨_, _, .base (.frz h), kit_ty (kit_list t), w⟩
    | txt o its n h hc _ _ _ _ => exact ⟨_, _, .kList h hc, kit_ty (kit_list t), w⟩
  | ref l =>
    obtain ⟨xs, e, w⟩ := w
    obtain ⟨vs, h, h2, r⟩ := s.sqL e l
    exact ⟨_, _, .base (.lst h), kit_ty (kit_list t), w⟩
  | dct l => exact w.elim

/-! ### places and slices -/
theorem atI_rep {S : Sto} {H : Hp} {ds : List D} {vs : List V} {i : Int} {d : D} (r : RepL X.K Z S H ds vs) (e : atI ds i = some d) : ∃ v, atI vs i = some v ∧ Rep X.K Z S H d v := by
  unfold atI at e ⊢
  rw [r.length] at e
  cases h : ixN vs.length i with
  | none => rw [h] at e; cases e
  | some j => rw [h] at e; exact r.get e
theorem ix_sem : ∃ r : R2, IxR X r ∧ ∀ (Z : Addr → Prop) (x i : D) (v u : V) (S : Sto) (H : Hp) (Q : D → Sto → Prop) (Qv : VK), SRep X.K Z S H → Tabs tb H → Rep X.K Z S H x v → Rep X.K Z S H i u → (dIx S x i fun z => Q z S) → Aft X.K tb Z S H Q Qv → r v u H Qv := by
  refine ⟨_, ix_list.or ix_tup, fun Z x i v u S H Q Qv s t rx ri w k => ?_⟩
  cases rx with
  | tup h r =>
    cases ri <;> try exact w.elim
    obtain ⟨d, e, w⟩ := w
    obtain ⟨z, e2, r2⟩ := atI_rep r e
    exact .inr ⟨_, _, _, _, rfl, rfl, h, e2, k.same s t r2 w⟩
  | lst h n nz r =>
    cases ri <;> try exact w.elim
    obtain ⟨d, e, w⟩ := w
    obtain ⟨z, e2, r2⟩ := atI_rep r e
    exact .inl ⟨_, _, _, _, rfl, rfl, SqL.of h, e2, k.same s t r2 w⟩
  | scr h r =>
    cases ri <;> try exact w.elim
    obtain ⟨d, e, w⟩ := w
    obtain ⟨z, e2, r2⟩ := atI_rep r e
    exact .inl ⟨_, _, _, _, rfl, rfl, h.sq, e2, k.same s t r2 w⟩
  | ref l =>
    cases ri <;> try exact w.elim
    obtain ⟨xs, d, e0, e, w⟩ := w
    obtain ⟨vs, h, h2, r⟩ := s.sqL e0 l
    obtain ⟨z, e2, r2⟩ := atI_rep r e
    exact .inl ⟨_, _, _, _, rfl, rfl, h2, e2, k.same s t r2 w⟩
  | _ => cases ri <;> exact w.elim
/-- the same, read alone -/
theorem get_list : PGet X (rIxL X.K) := by
  intro pins s σ H x y v u Q I rx ry h
  obtain ⟨p, xs, i, z, rfl, rfl, hq, he, q⟩ := h
  cases rx
  obtain ⟨t, rfl⟩ := ry
  obtain ⟨its, r, pl, hz⟩ := I.list hq
  obtain ⟨j, h1, h2, h3, h4, h5⟩ := atI_get he
  obtain ⟨w, ew, rw'⟩ := r.get h2
  have hl := r.length
  have hn := line63
  have fin : EP X pins σ Q w s := ⟨z, H, I, rw', q⟩
  by_cases h0 : 0 ≤ i
  · have hj : i.toNat = j := by
      rw [seqIndex_of h0 h5] at h1
      exact Option.some.inj h1
    exact wpAny_getItem_list pl.isList h0 (by omega) (by rw [hj]; simpa using ew) fin
  · have hj : (i + (its.toArray.size : Int)).toNat = j := by
      rw [seqIndex_neg (by omega) h4] at h1
      rw [List.size_toArray, ← hl]
      exact Option.some.inj h1
    exact wpAny_getItem_list_neg pl.isList (by omega) (by rw [List.size_toArray] <;> omega) (by omega) (by rw [hj]; simpa using ew) fin
theorem pget_sem : ∃ r : V → V → Hp → VK → Prop, PGet X r ∧ ∀ (Z : Addr → Prop) (x i : D) (v u : V) (S : Sto) (H : Hp) (Q : D → Sto → Prop) (Qv : VK), SRep X.K Z S H → Tabs tb H → Rep X.K Z S H x v → Rep X.K Z S H i u → (dIx S x i fun z => Q z S) → Aft X.K tb Z S H Q Qv → (∃ a, x = .ref a) → r v u H Qv := by
  refine ⟨_, get_list, fun Z x i v u S H Q Qv s t rx ri w k ⟨a, ea⟩ => ?_⟩
  subst ea
  cases rx
  rename_i l
  cases ri <;> try exact w.elim
  obtain ⟨xs, d, e0, e, w⟩ := w
  obtain ⟨vs, h, h2, r⟩ := s.sqL e0 l
  obtain ⟨z, e2, r2⟩ := atI_rep r e
  exact ⟨_, _, _, _, rfl, rfl, h2, e2, k.same s t r2 w⟩
theorem sl_sem : ∃ r : V → Option Int → Option Int → Hp → VK → Prop, SlR X r ∧ ∀ (Z : Addr → Prop) (x : D) (lo hi : Option Int) (v : V) (S : Sto) (H : Hp) (Q : D → Sto → Prop) (Qv : VK), SRep X.K Z S H → Tabs tb H → Rep X.K Z S H x v → (dSl S x lo hi fun z => Q z S) → Aft X.K tb Z S H Q Qv → r v lo hi H Qv := by
  refine ⟨_, sl_list.or sl_tupA, fun Z x lo hi v S H Q Qv s t rx w k => ?_⟩
  cases rx with
  | @tup a vs ds h r =>
    have w : Q (.tup (cutD ds lo hi)) S := w
    refine .inr ⟨_, _, rfl, h, fun e => ?_, fun _ p hp => k.tup s t (r.cut lo hi) w hp⟩
    have e1 : cutD ds lo hi = ds := by
      unfold cutD
      rw [r.length, e.1, e.2, Nat.sub_zero, List.drop_zero, ← r.length, List.take_length]
    rw [e1] at w
    exact k.same s t (.tup h r) w
  | lst h n nz r => exact .inl ⟨_, _, rfl, SqL.of h, fun p hp => k.lst s t (r.cut lo hi) w hp⟩
  | scr h r => exact .inl ⟨_, _, rfl, h.sq, fun p hp => k.lst s t (r.cut lo hi) w hp⟩
  | ref l =>
    obtain ⟨xs, e0, w⟩ := w
    obtain ⟨vs, h, h2, r⟩ := s.sqL e0 l
    exact .inl ⟨_, _, rfl, h2, fun p hp => k.lst s t (r.cut lo hi) w hp⟩
  | _ => exact w.elim

/-! ### methods of lists, stores -/
def LM.id : LM → String
  | .append => "list.append" | .pop => "list.pop" | .reverse => "list.reverse"
def LM.nm : LM → Str
  | .append => "append" | .pop => "pop" | .reverse => "reverse"
def SemM (X : Cx) (tb : List Addr) (m : LM) : Prop :=
  ∃ r : V → List V → Hp → VK → Prop, MtR X m.id r ∧ ∀ (Z : Addr → Prop) (x : D) (v : V) (ds : List D) (vs : List V) (S : Sto) (H : Hp) (Q : D → Sto → Prop) (Qv : VK), SRep X.K Z S H → Tabs tb H → Rep X.K Z S H x v → RepL X.K Z S H ds vs → dMeth m x ds S Q → Aft X.K tb Z S H Q Qv → r v vs H Qv
theorem sem_meth : ∀ m : LM, SemM X tb m
  | .append => by
    refine ⟨_, mt_append, fun Z x v ds vs S H Q Qv s t rx r w k => ?_⟩
    cases rx <;> try exact w.elim
    rename_i l
    cases r with
    | nil => exact w.elim
    | cons r1 r2 =>
      cases r2 with
      | cons _ _ => exact w.elim
      | nil =>
        obtain ⟨xs, e, hl, w⟩ := w
        obtain ⟨ws, h, h2, r⟩ := s.sqL e l
        exact ⟨_, _, _, rfl, rfl, h, by rw [LIM_eq, ← r.length]; exact hl, k _ _ _ _ (Ext.chg h e) (s.chg h e (r.snoc r1)) (t.chg s e) .non w⟩
  | .pop => by
    refine ⟨fun x vs H Q => rPop x vs H Q ∨ rPopAt x vs H Q, fun pins s σ H x v vs us Q I rx rv h => h.elim (fun h => mt_pop pins s σ H x v vs us Q I rx rv h) fun h => mt_popAt pins s σ H x v vs us Q I rx rv h, fun Z x v ds vs S H Q Qv s t rx r w k => ?_⟩
    cases rx <;> try exact w.elim
    rename_i l
    cases r with
    | nil =>
      obtain ⟨xs, d, e, hl, w⟩ := w
      obtain ⟨ws, h, h2, r⟩ := s.sqL e l
      obtain ⟨z, hz, rz⟩ := r.get hl
      exact .inl ⟨_, _, _, rfl, rfl, h, by rw [← r.length]; exact hz, k _ _ _ _ (Ext.chg h e) (s.chg h e r.dropLast) (t.chg s e) (rz.ext s (Ext.chg h e)) w⟩
    | cons r1 r2 =>
      cases r2 with
      | cons _ _ => cases r1 <;> exact w.elim
      | nil =>
        cases r1 <;> try exact w.elim
        obtain ⟨xs, d, j, e, h3, hj, hl, w⟩ := w
        obtain ⟨ws, h, h2, r⟩ := s.sqL e l
        obtain ⟨z, hz, rz⟩ := r.get hl
        exact .inr ⟨_, _, _, _, _, rfl, rfl, h, h3.1, h3.2, by rw [← r.length]; exact hj, hz, k _ _ _ _ (Ext.chg h e) (s.chg h e (r.eraseIdx j)) (t.chg s e) (rz.ext s (Ext.chg h e)) w⟩
  | .reverse => by
    refine ⟨_, mt_reverse, fun Z x v ds vs S H Q Qv s t rx r w k => ?_⟩
    cases rx <;> try exact w.elim
    rename_i l
    cases r with
    | cons _ _ => exact w.elim
    | nil =>
      obtain ⟨xs, e, w⟩ := w
      obtain ⟨ws, h, h2, r⟩ := s.sqL e l
      exact ⟨_, _, rfl, rfl, h, k _ _ _ _ (Ext.chg h e) (s.chg h e r.reverse) (t.chg s e) .non w⟩
theorem lm_slot : ∀ m : LM, Slot "list" m.nm m.id
  | .append => PySem.F.slot_list_append
  | .pop => PySem.F.slot_list_pop
  | .reverse => PySem.F.slot_list_reverse
theorem lm_type : ∀ m : LM, typeOf (.builtin m.id) = pure (.type "method_descriptor")
  | .append => PySem.F.type_list_append
  | .pop => PySem.F.type_list_pop
  | .reverse => PySem.F.type_list_reverse
/-- what follows a store -/
theorem set_sem : ∃ r : TSet, PSet X r ∧ ∀ (Z : Addr → Prop) (x i d : D) (v u z : V) (S : Sto) (H : Hp) (Q : Sto → Prop) (Qv : Hp → Prop), SRep X.K Z S H → Tabs tb H → Rep X.K Z S H x v → Rep X.K Z S H i u → Rep X.K Z S H d z → dSet x i d S Q →
    (∀ S' H', Ext S H S' H' → SRep X.K Z S' H' → Tabs tb H' → Q S' → Qv H') → r v u z H Qv := by
  refine ⟨_, set_list, fun Z x i d v u z S H Q Qv s t rx ri rd w k => ?_⟩
  cases rx <;> try exact w.elim
  rename_i l
  cases ri <;> try exact w.elim
  obtain ⟨xs, j, e, hj, w⟩ := w
  obtain ⟨ws, h, h2, r⟩ := s.sqL e l
  exact ⟨_, _, _, _, rfl, rfl, h, by rw [← r.length]; exact hj, k _ _ (Ext.chg h e) (s.chg h e (r.set rd j)) (t.chg s e) w⟩
/-- op= of ints -/
theorem aug_sem (hp : PyRoom X) : ∀ o : BO, ∃ r : TIp, PIp X o.op r ∧ ∀ (Z : Addr → Prop) (x y : D) (v u : V) (S : Sto) (H : Hp) (Q : D → Sto → Prop) (Qv : VK), SRep X.K Z S H → Tabs tb H → Rep X.K Z S H x v → Rep X.K Z S H y u → (dAug o x y fun z => Q z S) → Aft X.K tb Z S H Q Qv → r v u H Qv
  | .add => ⟨_, ip_add, fun Z x y v u S H Q Qv s t rx ry w k => by
    cases rx <;> try exact w.elim
    rename_i l
    cases ry <;> try exact w.elim
    exact ⟨_, _, rfl, rfl, k.same s t (.int _) w⟩⟩
  | .sub => ⟨_, ip_sub, fun Z x y v u S H Q Qv s t rx ry w k => by
    cases rx <;> try exact w.elim
    rename_i l
    cases ry <;> try exact w.elim
    exact ⟨_, _, rfl, rfl, k.same s t (.int _) w⟩⟩
  | .mul => ⟨fun x y H Q => ∃ i j, x = .int i ∧ y = .int j ∧ MulOk i j ∧ Q (.int (i * j)) H, fun pins s σ H x y v u Q I r1 r2 h => by
    obtain ⟨i, j, rfl, rfl, hm, q⟩ := h
    obtain ⟨t, rfl⟩ := r1
    obtain ⟨t', rfl⟩ := r2
    exact imul_int ⟨.int _, H, I.tok _, ⟨_, rfl⟩, q⟩ hm, fun Z x y v u S H Q Qv s t rx ry w k => by
    cases rx <;> try exact w.elim
    rename_i l
    cases ry <;> try exact w.elim
    exact ⟨_, _, rfl, rfl, w.1, k.same s t (.int _) w.2⟩⟩
  | .fdiv => ⟨fun x y H Q => ∃ i j, x = .int i ∧ y = .int j ∧ j ≠ 0 ∧ Q (.int (i.fdiv j)) H, fun pins s σ H x y v u Q I r1 r2 h => by
    obtain ⟨i, j, rfl, rfl, hm, q⟩ := h
    obtain ⟨t, rfl⟩ := r1
    obtain ⟨t', rfl⟩ := r2
    exact ifloordiv_int hm ⟨.int _, H, I.tok _, ⟨_, rfl⟩, q⟩ (.inr (hp pins s σ H I)), fun Z x y v u S H Q Qv s t rx ry w k => by
    cases rx <;> try exact w.elim
    rename_i l
    cases ry <;> try exact w.elim
    exact ⟨_, _, rfl, rfl, w.1, k.same s t (.int _) w.2⟩⟩
  | .fdivS => ⟨fun x y H Q => ∃ i j, x = .int i ∧ y = .int j ∧ (j ≠ 0 ∧ j.natAbs.log2 < 9000) ∧ Q (.int (i.fdiv j)) H, fun pins s σ H x y v u Q I r1 r2 h => by
    obtain ⟨i, j, rfl, rfl, hm, q⟩ := h
    obtain ⟨t, rfl⟩ := r1
    obtain ⟨t', rfl⟩ := r2
    exact ifloordiv_int hm.1 ⟨.int _, H, I.tok _, ⟨_, rfl⟩, q⟩ (.inl (PyProof.noPylong_of_log2 hm.2)), fun Z x y v u S H Q Qv s t rx ry w k => by
    cases rx <;> try exact w.elim
    rename_i l
    cases ry <;> try exact w.elim
    exact ⟨_, _, rfl, rfl, w.1, k.same s t (.int _) w.2⟩⟩
  | .mod => ⟨fun x y H Q => ∃ i j, x = .int i ∧ y = .int j ∧ j ≠ 0 ∧ Q (.int (i.fmod j)) H, fun pins s σ H x y v u Q I r1 r2 h => by
    obtain ⟨i, j, rfl, rfl, hm, q⟩ := h
    obtain ⟨t, rfl⟩ := r1
    obtain ⟨t', rfl⟩ := r2
    exact imod_int hm ⟨.int _, H, I.tok _, ⟨_, rfl⟩, q⟩, fun Z x y v u S H Q Qv s t rx ry w k => by
    cases rx <;> try exact w.elim
    rename_i l
    cases ry <;> try exact w.elim
    exact ⟨_, _, rfl, rfl, w.1, k.same s t (.int _) w.2⟩⟩
  | .pow => ⟨fun _ _ _ _ => False, fun _ _ _ _ _ _ _ _ _ _ _ _ h => h.elim, fun Z x y v u S H Q Qv s t rx ry w k => by
    exact w.elim⟩
end
end DL

set_option Elab.async false
set_option linter.all false
set_option maxRecDepth 100000
set_option maxHeartbeats 4000000
/-! DL5: expressions, tests, walked things: from the asking over data to the reading over the heap. -/
namespace DL
open PySem PySem.Spec PyProof.Rows L2 RZ

section
variable (K : PySem.W.Frag) (tb : List Addr)
/-- what is asked over data, as a reading -/
def tD (w : Rho → Sto → (D → Sto → Prop) → Prop) : TE := fun σ H Qv => ∃ Z ρ S Q, Sim K tb Z ρ S σ H ∧ w ρ S Q ∧ Aft K tb Z S H Q Qv
def tDL (w : Rho → Sto → (List D → Sto → Prop) → Prop) : TA := fun σ H Qv => ∃ Z ρ S Q, Sim K tb Z ρ S σ H ∧ w ρ S Q ∧ ∀ ds S' vs H', Ext S H S' H' → SRep K Z S' H' → Tabs tb H' → RepL K Z S' H' ds vs → Q ds S' → Qv vs H'
def tDT (w : Rho → Sto → (Bool → Sto → Prop) → Prop) : TT := fun σ H Qv => ∃ Z ρ S Q, Sim K tb Z ρ S σ H ∧ w ρ S Q ∧ ∀ b S' H', Ext S H S' H' → SRep K Z S' H' → Tabs tb H' → Q b S' → Qv b H'
def tDO (w : Rho → Sto → (Option Int → Sto → Prop) → Prop) : TO := fun σ H Qv => ∃ Z ρ S Q, Sim K tb Z ρ S σ H ∧ w ρ S Q ∧ ∀ o S' H', Ext S H S' H' → SRep K Z S' H' → Tabs tb H' → Q o S' → Qv o H'
/-- an iterator that hands out these data as long as what must stay stays -/
def ItOk (Z : Addr → Prop) (S₀ : Sto) (H₀ : Hp) (J : It) (xs : List D) (stay : Sto → Prop) : Prop :=
  ∀ (Z' : Addr → Prop), (∀ a, Z' a → Z a ∨ H₀ a = none) → ∀ (i : Nat) (S : Sto) (H : Hp), Ext S₀ H₀ S H → SRep K Z' S H → Tabs tb H → stay S →
    (∀ d, xs[i]? = some d → J.go i H ∧ ∀ x H2, J.yld i H x H2 → Ext S H S H2 ∧ SRep K Z' S H2 ∧ Tabs tb H2 ∧ Rep K Z' S H2 d x) ∧ (xs.length ≤ i → J.stop i H)
def tDI (w : Rho → Sto → (List D → (Sto → Prop) → Sto → Prop) → Prop) : TI := fun σ H R => ∃ Z ρ S Q, Sim K tb Z ρ S σ H ∧ w ρ S Q ∧ ∀ xs stay S' J H', Ext S H S' H' → SRep K Z S' H' → Tabs tb H' → ItOk K tb Z S' H' J xs stay → Q xs stay S' → R J H'
end
theorem PE.weak {X : Cx} {e : Expr} {t t' : TE} (h : PE X e t) (i : ∀ σ H Q, t' σ H Q → t σ H Q) : PE X e t' := ⟨fun p s σ H Q I w => h.run p s σ H Q I (i _ _ _ w)⟩
theorem PT.weak {X : Cx} {e : Expr} {t t' : TT} (h : PT X e t) (i : ∀ σ H Q, t' σ H Q → t σ H Q) : PT X e t' := ⟨fun p s σ H Q I w => h.run p s σ H Q I (i _ _ _ w)⟩
theorem PW.weak {X : Cx} {e : Expr} {t t' : TT} (h : PW X e t) (i : ∀ σ H Q, t' σ H Q → t σ H Q) : PW X e t' := ⟨fun wh p s σ H Q I w => h.run wh p s σ H Q I (i _ _ _ w)⟩
theorem PA.weak {X : Cx} {e : List Expr} {t t' : TA} (h : PA X e t) (i : ∀ σ H Q, t' σ H Q → t σ H Q) : PA X e t' := ⟨fun q p s σ H Q I w => h.run q p s σ H Q I (i _ _ _ w)⟩
theorem PK.weak {X : Cx} {e : List Keyword} {t t' : TA} (h : PK X e t) (i : ∀ σ H Q, t' σ H Q → t σ H Q) : PK X e t' := ⟨fun q p s σ H Q I w => h.run q p s σ H Q I (i _ _ _ w)⟩
theorem PO.weak {X : Cx} {e : Option Expr} {t t' : TO} (h : PO X e t) (i : ∀ σ H Q, t' σ H Q → t σ H Q) : PO X e t' := ⟨fun p s σ H Q I w => h.run p s σ H Q I (i _ _ _ w)⟩
theorem PI.weak {X : Cx} {tg e : Expr} {t t' : TI} (h : PI X tg e t) (i : ∀ σ H R, t' σ H R → t σ H R) : PI X tg e t' := ⟨fun p s σ H R I w => h.run p s σ H R I (i _ _ _ w)⟩
theorem PS.weak {X : Cx} {e : Stmt} {t t' : TS} (h : PS X e t) (i : ∀ D σ H, t' D σ H → t D σ H) : PS X e t' := ⟨fun p s σ H D I w => h.run p s σ H D I (i _ _ _ w)⟩
theorem PSs.weak {X : Cx} {e : List Stmt} {t t' : TS} (h : PSs X e t) (i : ∀ D σ H, t' D σ H → t D σ H) : PSs X e t' := ⟨fun p s σ H D I w => h.run p s σ H D I (i _ _ _ w)⟩

section
variable {X : Cx} {tb : List Addr} {X' : Mod'} {G : Fns}
abbrev DE (X : Cx) (tb : List Addr) (X' : Mod') (G : Fns) (e : Expr) (m : M) : Prop := PE X e (tD X.K tb (wE X' G m))
abbrev DA (X : Cx) (tb : List Addr) (X' : Mod') (G : Fns) (e : List Expr) (m : M) : Prop := PA X e (tDL X.K tb (wL X' G m))
abbrev DK (X : Cx) (tb : List Addr) (X' : Mod') (G : Fns) (e : List Keyword) (m : M) : Prop := PK X e (tDL X.K tb (wL X' G m))
abbrev DT (X : Cx) (tb : List Addr) (X' : Mod') (G : Fns) (e : Expr) (m : M) : Prop := PT X e (tDT X.K tb (wT X' G m))
abbrev DO (X : Cx) (tb : List Addr) (X' : Mod') (G : Fns) (e : Option Expr) (m : M) : Prop := PO X e (tDO X.K tb (wO X' G m))
abbrev DI (X : Cx) (tb : List Addr) (X' : Mod') (G : Fns) (tg e : Expr) (m : M) : Prop := PI X tg e (tDI X.K tb (wI X' G m))
variable {a b c : Expr} {ma mb mc : M} {pos : Pos}

theorem de_v {i : Nat} {x : Str} (hN : X.N[i]? = some x) (hv : Vis X.env.scope x) (hd : (x == ("__debug__" : Str)) = false) (hcd : (x == ("__classdict__" : Str)) = false) : DE X tb X' G (.Name x pos) (.v i) :=
  PE.weak (pe_var hN hv hd hcd) fun σ H Qv ⟨Z, ρ, S, Q, m, ⟨d, e, w⟩, k⟩ => by
    obtain ⟨v, e1, r⟩ := m.env.at_ i d e
    exact ⟨v, e1, k.same m.sto m.tab r w⟩
theorem de_g {i : Nat} {x : Str} {d : D} {v : V} {u : Value} (hg : Gl X x) (hm : X.mg x = some u) (r : RelV v u) (hd : (x == ("__debug__" : Str)) = false) (hc : X'.consts[i]? = some d) (hr : ∀ Z S H, Rep X.K Z S H d v) : DE X tb X' G (.Name x pos) (.g i) :=
  PE.weak (pe_glob hg hm r hd) fun σ H Qv ⟨Z, ρ, S, Q, m, ⟨d', e, w⟩, k⟩ => by
    rw [hc] at e; cases e
    exact k.same m.sto m.tab (hr Z S H) w
theorem de_int {i : Int} {j : Nat} : DE X tb X' G (.Constant (.int i) j pos) (.c (.int i)) := PE.weak pe_int fun σ H Qv ⟨Z, ρ, S, Q, m, w, k⟩ => k.same m.sto m.tab (.int i) w
theorem de_bl {i : Bool} {j : Nat} : DE X tb X' G (.Constant (.bool i) j pos) (.c (.bl i)) := PE.weak pe_bl fun σ H Qv ⟨Z, ρ, S, Q, m, w, k⟩ => k.same m.sto m.tab (.bl i) w
theorem de_non {j : Nat} : DE X tb X' G (.Constant .none j pos) (.c .non) := PE.weak pe_non fun σ H Qv ⟨Z, ρ, S, Q, m, w, k⟩ => k.same m.sto m.tab .non w
theorem de_str {x : Str} {j : Nat} : DE X tb X' G (.Constant (.str x) j pos) (.c (.str x)) := PE.weak pe_str fun σ H Qv ⟨Z, ρ, S, Q, m, w, k⟩ => k.same m.sto m.tab (.str x) w
theorem da_nil : DA X tb X' G [] .nil := PA.weak pa_nil fun σ H Qv ⟨Z, ρ, S, Q, m, w, k⟩ => k [] S [] H Ext.refl m.sto m.tab .nil w
theorem da_cons {es : List Expr} (ha : DE X tb X' G a ma) (hb : DA X tb X' G es mb) (hs : starEach (a :: es) X.env = (false, eval a X.env) :: starEach es X.env) : DA X tb X' G (a :: es) (.cons ma mb) :=
  PA.weak (pa_cons ha hb hs) fun σ H Qv ⟨Z, ρ, S, Q, m, w, k⟩ =>
    ⟨Z, ρ, S, _, m, w, fun d S1 v H1 x1 s1 t1 r1 w1 => ⟨Z, ρ, S1, _, m.go x1 s1 t1, w1, fun ds S2 vs H2 x2 s2 t2 r2 w2 => k _ _ _ _ (x1.trans x2) s2 t2 (.cons (r1.ext s1 x2) r2) w2⟩⟩
theorem dk_nil : DK X tb X' G [] .nil := PK.weak pk_nil fun σ H Qv ⟨Z, ρ, S, Q, m, w, k⟩ => k [] S [] H Ext.refl m.sto m.tab .nil w
theorem dk_cons {es : List Keyword} {nm : Option Str} {kpos : Pos} (ha : DE X tb X' G a ma) (hb : DK X tb X' G es mb) : DK X tb X' G (⟨nm, a, kpos⟩ :: es) (.cons ma mb) :=
  PK.weak (pk_cons ha hb) fun σ H Qv ⟨Z, ρ, S, Q, m, w, k⟩ =>
    ⟨Z, ρ, S, _, m, w, fun d S1 v H1 x1 s1 t1 r1 w1 => ⟨Z, ρ, S1, _, m.go x1 s1 t1, w1, fun ds S2 vs H2 x2 s2 t2 r2 w2 => k _ _ _ _ (x1.trans x2) s2 t2 (.cons (r1.ext s1 x2) r2) w2⟩⟩
theorem de_tup {es : List Expr} {j : Nat} (ha : DA X tb X' G es ma) : DE X tb X' G (.Tuple es j pos) (.tup ma) :=
  PE.weak (pe_tup ha) fun σ H Qv ⟨Z, ρ, S, Q, m, w, k⟩ =>
    ⟨Z, ρ, S, _, m, w, fun ds S1 vs H1 x1 s1 t1 r1 w1 => ⟨by rw [LIM_eq, ← r1.length]; exact w1.1, fun p hp =>
      k _ _ _ _ (x1.trans (Ext.new hp)) (s1.new hp) (t1.new hp) (.tup (SqT.of upd_same) (r1.ext s1 (Ext.new hp))) w1.2⟩⟩
theorem de_lst {es : List Expr} {mu : Bool} (ha : DA X tb X' G es ma) : DE X tb X' G (.List es pos) (.lst mu ma) :=
  PE.weak (pe_lst ha) fun σ H Qv ⟨Z, ρ, S, Q, m, w, k⟩ =>
    ⟨Z, ρ, S, _, m, w, fun ds S1 vs H1 x1 s1 t1 r1 w1 => ⟨by rw [LIM_eq, ← r1.length]; exact w1.1, fun p hp => by
      have w2 := w1.2
      cases mu with
      | true => exact k _ _ _ _ (x1.trans (Ext.newS hp)) (s1.newS hp r1) (t1.new hp) (.ref ⟨_, upd_same⟩) (w2 p (s1.free hp))
      | false => exact k _ _ _ _ (x1.trans (Ext.new hp)) (s1.new hp) (t1.new hp) (.lst upd_same (s1.free hp) (s1.nz hp) (r1.ext s1 (Ext.new hp))) w2⟩⟩
theorem Aft.ext {K : PySem.W.Frag} {Z : Addr → Prop} {S S1 : Sto} {H H1 : Hp} {Q : D → Sto → Prop} {Qv : VK} (k : Aft K tb Z S H Q Qv) (x : Ext S H S1 H1) : Aft K tb Z S1 H1 Q Qv := fun d S' v H' x' s t r q => k d S' v H' (x.trans x') s t r q
theorem de_bin (hp : PyRoom X) {o : BO} (ha : DE X tb X' G a ma) (hb : DE X tb X' G b mb) : DE X tb X' G (.BinOp a o.op b pos) (.bin o ma mb) := by
  obtain ⟨r, hr, hs⟩ := sem_bin (tb := tb) hp o
  exact PE.weak (pe_op hr ha hb) fun σ H Qv ⟨Z, ρ, S, Q, m, w, k⟩ =>
    ⟨Z, ρ, S, _, m, w, fun d S1 v H1 x1 s1 t1 r1 w1 => ⟨Z, ρ, S1, _, m.go x1 s1 t1, w1, fun d2 S2 v2 H2 x2 s2 t2 r2 w2 => hs Z d d2 v v2 S2 H2 Q Qv s2 t2 (r1.ext s1 x2) r2 w2 (k.ext (x1.trans x2))⟩⟩
theorem de_cat (ha : DE X tb X' G a ma) (hb : DE X tb X' G b mb) : DE X tb X' G (.BinOp a .Add b pos) (.cat ma mb) := by
  obtain ⟨r, hr, hs⟩ := sem_cat (X := X) (tb := tb)
  exact PE.weak (pe_op hr ha hb) fun σ H Qv ⟨Z, ρ, S, Q, m, w, k⟩ =>
    ⟨Z, ρ, S, _, m, w, fun d S1 v H1 x1 s1 t1 r1 w1 => ⟨Z, ρ, S1, _, m.go x1 s1 t1, w1, fun d2 S2 v2 H2 x2 s2 t2 r2 w2 => hs Z d d2 v v2 S2 H2 Q Qv s2 t2 (r1.ext s1 x2) r2 w2 (k.ext (x1.trans x2))⟩⟩
theorem de_rep (ha : DE X tb X' G a ma) (hb : DE X tb X' G b mb) : DE X tb X' G (.BinOp a .Mult b pos) (.rep ma mb) := by
  obtain ⟨r, hr, hs⟩ := sem_rep (X := X) (tb := tb)
  exact PE.weak (pe_op hr ha hb) fun σ H Qv ⟨Z, ρ, S, Q, m, w, k⟩ =>
    ⟨Z, ρ, S, _, m, w, fun d S1 v H1 x1 s1 t1 r1 w1 => ⟨Z, ρ, S1, _, m.go x1 s1 t1, w1, fun d2 S2 v2 H2 x2 s2 t2 r2 w2 => hs Z d d2 v v2 S2 H2 Q Qv s2 t2 (r1.ext s1 x2) r2 w2 (k.ext (x1.trans x2))⟩⟩
/-- .. where no large division is made -/
theorem de_binS {o : BO} (ho : o ≠ .fdiv) (ha : DE X tb X' G a ma) (hb : DE X tb X' G b mb) : DE X tb X' G (.BinOp a o.op b pos) (.bin o ma mb) := by
  obtain ⟨r, hr, hs⟩ := sem_binS (X := X) (tb := tb) o ho
  exact PE.weak (pe_op hr ha hb) fun σ H Qv ⟨Z, ρ, S, Q, m, w, k⟩ =>
    ⟨Z, ρ, S, _, m, w, fun d S1 v H1 x1 s1 t1 r1 w1 => ⟨Z, ρ, S1, _, m.go x1 s1 t1, w1, fun d2 S2 v2 H2 x2 s2 t2 r2 w2 => hs Z d d2 v v2 S2 H2 Q Qv s2 t2 (r1.ext s1 x2) r2 w2 (k.ext (x1.trans x2))⟩⟩
theorem de_neg (ha : DE X tb X' G a ma) : DE X tb X' G (.UnaryOp .USub a pos) (.neg ma) :=
  PE.weak (pe_un un_neg ha) fun σ H Qv ⟨Z, ρ, S, Q, m, w, k⟩ =>
    ⟨Z, ρ, S, _, m, w, fun d S1 v H1 x1 s1 t1 r1 w1 => by
      obtain ⟨i, rfl, w2⟩ := w1
      cases r1
      exact ⟨i, rfl, (k.ext x1).same s1 t1 (.int _) w2⟩⟩
theorem de_not (ha : DE X tb X' G a ma) : DE X tb X' G (.UnaryOp .Not a pos) (.not ma) :=
  PE.weak (pe_notT ha) fun σ H Qv ⟨Z, ρ, S, Q, m, w, k⟩ =>
    ⟨Z, ρ, S, _, m, w, fun d S1 v H1 x1 s1 t1 r1 w1 => by
      obtain ⟨b, h1, h2⟩ := tru_sem (X := X) s1 r1 w1
      exact ⟨b, h1, (k.ext x1).same s1 t1 (.bl _) h2⟩⟩
theorem de_cmp (hu : X.A.units + 64 < cLine) {o : CO} (hm : behindInMarks o.op b = false) (ha : DE X tb X' G a ma) (hb : DE X tb X' G b mb) : DE X tb X' G (.Compare a [o.op] [b] pos) (.cmp o ma mb) := by
  obtain ⟨r, hr, hs⟩ := sem_cmp (X := X) (tb := tb) hu o
  exact PE.weak (pe_cmpR hr ha hb hm) fun σ H Qv ⟨Z, ρ, S, Q, m, w, k⟩ =>
    ⟨Z, ρ, S, _, m, w, fun d S1 v H1 x1 s1 t1 r1 w1 => ⟨Z, ρ, S1, _, m.go x1 s1 t1, w1, fun d2 S2 v2 H2 x2 s2 t2 r2 w2 => hs Z d d2 v v2 S2 H2 Q Qv s2 t2 (r1.ext s1 x2) r2 w2 (k.ext (x1.trans x2))⟩⟩
theorem dt_cmp (hu : X.A.units + 64 < cLine) {o : CO} (hm : behindInMarks o.op b = false) (ha : DE X tb X' G a ma) (hb : DE X tb X' G b mb) : DT X tb X' G (.Compare a [o.op] [b] pos) (.cmp o ma mb) := by
  obtain ⟨r, hr, hs⟩ := sem_cmp (X := X) (tb := tb) hu o
  exact PT.weak (pt_cmpR hr ha hb hm) fun σ H Qv ⟨Z, ρ, S, Q, m, w, k⟩ =>
    ⟨Z, ρ, S, _, m, w, fun d S1 v H1 x1 s1 t1 r1 w1 => ⟨Z, ρ, S1, _, m.go x1 s1 t1, w1, fun d2 S2 v2 H2 x2 s2 t2 r2 w2 => hs Z d d2 v v2 S2 H2 (fun z S3 => ∃ k, z = .bl k ∧ Q k S3) _ s2 t2 (r1.ext s1 x2) r2 w2 fun d3 S3 v3 H3 x3 s3 t3 r3 ⟨k', e, q⟩ => by
      subst e
      cases r3
      exact ⟨k', rfl, k k' S3 H3 ((x1.trans x2).trans x3) s3 t3 q⟩⟩⟩
theorem dEq_mono {S : Sto} {x y : D} {P P' : Bool → Prop} (f : ∀ b, P b → P' b) (h : dEq S x y P) : dEq S x y P' := by
  unfold dEq at h ⊢
  split at h
  · exact f _ h
  · exact f _ h
  · exact f _ h
  · obtain ⟨p, q, h1, h2, h3, h4, h5⟩ := h
    exact ⟨p, q, h1, h2, h3, h4, f _ h5⟩
theorem dCmp_mono {S : Sto} {o : CO} {x y : D} {P P' : D → Prop} (f : ∀ z, P z → P' z) (h : dCmp S o x y P) : dCmp S o x y P' := by
  unfold dCmp at h ⊢
  split at h
  · exact dEq_mono (fun _ => f _) h
  · exact dEq_mono (fun _ => f _) h
  · exact f _ h
  · exact f _ h
  · exact f _ h
  · exact f _ h
  · exact f _ h
  · exact f _ h
  · obtain ⟨ns, e, q⟩ := h; exact ⟨ns, e, f _ q⟩
  · obtain ⟨ns, e, q⟩ := h; exact ⟨ns, e, f _ q⟩
  · exact h.elim
theorem de_chain (hu : X.A.units + 64 < cLine) {o o' : CO} (hm : behindInMarks o'.op c = false) (ha : DE X tb X' G a ma) (hb : DE X tb X' G b mb) (hc : DE X tb X' G c mc) : DE X tb X' G (.Compare a [o.op, o'.op] [b, c] pos) (.chain o o' ma mb mc) := by
  obtain ⟨r, hr, hs⟩ := sem_cmp (X := X) (tb := tb) hu o
  obtain ⟨r', hr', hs'⟩ := sem_cmp (X := X) (tb := tb) hu o'
  exact PE.weak (pe_chain hr hr' ha hb hc hm) fun σ H Qv ⟨Z, ρ, S, Q, m, w, k⟩ =>
    ⟨Z, ρ, S, _, m, w, fun d S1 v H1 x1 s1 t1 r1 w1 => ⟨Z, ρ, S1, _, m.go x1 s1 t1, w1, fun d2 S2 v2 H2 x2 s2 t2 r2 w2 =>
      hs Z d d2 v v2 S2 H2 (fun z S3 => S3 = S2 ∧ ∃ k, z = .bl k ∧ if k = true then wE X' G mc ρ S2 fun u S3 => dCmp S3 o' d2 u fun z' => Q z' S3 else Q (.bl false) S2) _ s2 t2 (r1.ext s1 x2) r2 (dCmp_mono (fun z h => ⟨rfl, h⟩) w2) fun d3 S3 v3 H3 x3 s3 t3 r3 ⟨es, k', e, q⟩ => by
        subst e
        subst es
        cases r3
        refine ⟨k', rfl, ?_⟩
        cases k' with
        | true => exact ⟨Z, ρ, S3, _, (m.go x1 s1 t1).go (x2.trans x3) s3 t3, q, fun d4 S4 v4 H4 x4 s4 t4 r4 w4 => hs' Z d2 d4 v2 v4 S4 H4 Q Qv s4 t4 (r2.ext s2 (x3.trans x4)) r4 w4 (k.ext (((x1.trans x2).trans x3).trans x4))⟩
        | false => exact (k.ext ((x1.trans x2).trans x3)).same s3 t3 (.bl _) q⟩⟩

theorem dt_chain (hu : X.A.units + 64 < cLine) {o o' : CO} (hm : behindInMarks o'.op c = false) (ha : DE X tb X' G a ma) (hb : DE X tb X' G b mb) (hc : DE X tb X' G c mc) : DT X tb X' G (.Compare a [o.op, o'.op] [b, c] pos) (.chain o o' ma mb mc) := by
  obtain ⟨r, hr, hs⟩ := sem_cmp (X := X) (tb := tb) hu o
  obtain ⟨r', hr', hs'⟩ := sem_cmp (X := X) (tb := tb) hu o'
  exact PT.weak (pt_chain hr hr' ha hb hc hm) fun σ H Qv ⟨Z, ρ, S, Q, m, w, k⟩ =>
    ⟨Z, ρ, S, _, m, w, fun d S1 v H1 x1 s1 t1 r1 w1 => ⟨Z, ρ, S1, _, m.go x1 s1 t1, w1, fun d2 S2 v2 H2 x2 s2 t2 r2 w2 =>
      hs Z d d2 v v2 S2 H2 (fun z S3 => S3 = S2 ∧ ∃ k, z = .bl k ∧ if k = true then wE X' G mc ρ S2 fun u S3 => dCmp S3 o' d2 u fun z' => ∃ k', z' = .bl k' ∧ Q k' S3 else Q false S2) _ s2 t2 (r1.ext s1 x2) r2 (dCmp_mono (fun z h => ⟨rfl, h⟩) w2) fun d3 S3 v3 H3 x3 s3 t3 r3 ⟨es, k', e, q⟩ => by
        subst e
        subst es
        cases r3
        refine ⟨k', rfl, ?_⟩
        cases k' with
        | true => exact ⟨Z, ρ, S3, _, (m.go x1 s1 t1).go (x2.trans x3) s3 t3, q, fun d4 S4 v4 H4 x4 s4 t4 r4 w4 => hs' Z d2 d4 v2 v4 S4 H4 (fun z S5 => ∃ k', z = .bl k' ∧ Q k' S5) _ s4 t4 (r2.ext s2 (x3.trans x4)) r4 w4 fun d5 S5 v5 H5 x5 s5 t5 r5 ⟨k5, e5, q5⟩ => by
            subst e5
            cases r5
            exact ⟨k5, rfl, k k5 S5 H5 ((((x1.trans x2).trans x3).trans x4).trans x5) s5 t5 q5⟩⟩
        | false => exact ⟨false, rfl, k false S3 H3 ((x1.trans x2).trans x3) s3 t3 q⟩⟩⟩
/-! ### and, or, not, if -/
variable {rest : List Expr}
theorem de_one {op : BoolOp} (ha : DE X tb X' G a ma) : DE X tb X' G (.BoolOp op [a] pos) ma := pe_one ha
theorem de_and (ha : DE X tb X' G a ma) (hb : DE X tb X' G (.BoolOp .And (b :: rest) pos) mb) : DE X tb X' G (.BoolOp .And (a :: b :: rest) pos) (.and ma mb) :=
  PE.weak (pe_and ha hb) fun σ H Qv ⟨Z, ρ, S, Q, m, w, k⟩ =>
    ⟨Z, ρ, S, _, m, w, fun d S1 v H1 x1 s1 t1 r1 ⟨c, e, w1⟩ => by
      subst e
      cases r1
      refine ⟨c, rfl, ?_⟩
      cases c with
      | true => exact ⟨Z, ρ, S1, Q, m.go x1 s1 t1, w1, k.ext x1⟩
      | false => exact (k.ext x1).same s1 t1 (.bl _) w1⟩
theorem de_or (ha : DE X tb X' G a ma) (hb : DE X tb X' G (.BoolOp .Or (b :: rest) pos) mb) : DE X tb X' G (.BoolOp .Or (a :: b :: rest) pos) (.or ma mb) :=
  PE.weak (pe_or ha hb) fun σ H Qv ⟨Z, ρ, S, Q, m, w, k⟩ =>
    ⟨Z, ρ, S, _, m, w, fun d S1 v H1 x1 s1 t1 r1 ⟨c, e, w1⟩ => by
      subst e
      cases r1
      refine ⟨c, rfl, ?_⟩
      cases c with
      | false => exact ⟨Z, ρ, S1, Q, m.go x1 s1 t1, w1, k.ext x1⟩
      | true => exact (k.ext x1).same s1 t1 (.bl _) w1⟩
abbrev DW (X : Cx) (tb : List Addr) (X' : Mod') (G : Fns) (e : Expr) (m : M) : Prop := PW X e (tDT X.K tb (wT X' G m))
theorem dw_and1 (ha : DT X tb X' G a ma) : DW X tb X' G (.BoolOp .And [a] pos) ma := pw_and1 ha
theorem dw_or1 (ha : DT X tb X' G a ma) : DW X tb X' G (.BoolOp .Or [a] pos) ma := pw_or1 ha
theorem dw_and (ha : DT X tb X' G a ma) (hb : DW X tb X' G (.BoolOp .And (b :: rest) pos) mb) : DW X tb X' G (.BoolOp .And (a :: b :: rest) pos) (.and ma mb) :=
  PW.weak (pw_and ha hb) fun σ H Qv ⟨Z, ρ, S, Q, m, w, k⟩ =>
    ⟨Z, ρ, S, _, m, w, fun c S1 H1 x1 s1 t1 w1 => by
      cases c with
      | true => exact ⟨Z, ρ, S1, Q, m.go x1 s1 t1, w1, fun b S2 H2 x2 s2 t2 q => k b S2 H2 (x1.trans x2) s2 t2 q⟩
      | false => exact k false S1 H1 x1 s1 t1 w1⟩
theorem dw_or (ha : DT X tb X' G a ma) (hb : DW X tb X' G (.BoolOp .Or (b :: rest) pos) mb) : DW X tb X' G (.BoolOp .Or (a :: b :: rest) pos) (.or ma mb) :=
  PW.weak (pw_or ha hb) fun σ H Qv ⟨Z, ρ, S, Q, m, w, k⟩ =>
    ⟨Z, ρ, S, _, m, w, fun c S1 H1 x1 s1 t1 w1 => by
      cases c with
      | false => exact ⟨Z, ρ, S1, Q, m.go x1 s1 t1, w1, fun b S2 H2 x2 s2 t2 q => k b S2 H2 (x1.trans x2) s2 t2 q⟩
      | true => exact k true S1 H1 x1 s1 t1 w1⟩
theorem dt_not (ha : DT X tb X' G a ma) : DT X tb X' G (.UnaryOp .Not a pos) (.not ma) :=
  PT.weak (pt_not ha) fun σ H Qv ⟨Z, ρ, S, Q, m, w, k⟩ => ⟨Z, ρ, S, _, m, w, fun c S1 H1 x1 s1 t1 w1 => k _ S1 H1 x1 s1 t1 w1⟩
theorem dt_tv (ha : DE X tb X' G a ma) (he : ∀ whole, isTrue a X.env whole = (do let v ← whole; standAt a.pos; holding [v] (truthy v))) : DT X tb X' G a (.tv ma) :=
  PT.weak (pt_truth ha he) fun σ H Qv ⟨Z, ρ, S, Q, m, w, k⟩ => ⟨Z, ρ, S, _, m, w, fun d S1 v H1 x1 s1 t1 r1 w1 => by
    obtain ⟨b, h1, h2⟩ := tru_sem (X := X) s1 r1 w1
    exact ⟨b, h1, k b S1 H1 x1 s1 t1 h2⟩⟩
theorem de_ite (hc : DT X tb X' G c mc) (ha : DE X tb X' G a ma) (hb : DE X tb X' G b mb) : DE X tb X' G (.IfExp c a b pos) (.ite mc ma mb) :=
  PE.weak (pe_ifExp hc ha hb) fun σ H Qv ⟨Z, ρ, S, Q, m, w, k⟩ => ⟨Z, ρ, S, _, m, w, fun c S1 H1 x1 s1 t1 w1 => by
    cases c with
    | true => exact ⟨Z, ρ, S1, Q, m.go x1 s1 t1, w1, k.ext x1⟩
    | false => exact ⟨Z, ρ, S1, Q, m.go x1 s1 t1, w1, k.ext x1⟩⟩

/-! ### calls -/
/-- what a def promises -/
structure XC where
  n : Nat
  at_ : Nat → Value
def spD (K : PySem.W.Frag) (tb : List Addr) (xc : XC) (G : Fns) (f : Nat) : Sp := fun vs H Qv E => ∃ Z ds S Q, RepL K Z S H ds vs ∧ SRep K Z S H ∧ Tabs tb H ∧ G f ds S Q ∧ Aft K tb Z S H Q Qv ∧
  (1000 ≤ f → ∀ c S' H', c < xc.n → Ext S H S' H' → SRep K Z S' H' → Tabs tb H' → Q (.exc c) S' → E (xc.at_ c) none H')
theorem noX {f : Nat} (h : f < 1000) {P : Prop} : 1000 ≤ f → P := fun z => absurd h (Nat.not_lt.mpr z)
theorem de_call {xc : XC} {lev f : Nat} {fa : Addr} {fd : FuncData} {ps : List Str} {x : Str} {p : Pos} {es : List Expr} (F : FnOk X.prog X.w X.K X.mg X.base (L2.CX X.prog X.w) lev fa fd ps (spD X.K tb xc G f)) (hf : f < 1000) (hr : Room lev X.A) (hg : Gl X x) (hm : X.mg x = some (.ref fa)) (hk : PySem.W.keepIn X.K (.ref fa) = true)
    (hb : Binds X.K fd ps []) (ha : DA X tb X' G (a :: es) ma) (hdb : (x == ("__debug__" : Str)) = false) (he : starEach (a :: es) X.env = (false, eval a X.env) :: starEach es X.env) (hpl : (backTo pos (starEach es X.env)).any (·.1) = false) :
    DE X tb X' G (.Call (.Name x p) (a :: es) [] pos) (.call f ma) :=
  PE.weak (pe_call F hr hg hm hk hb .nil passL ha hdb he hpl) fun σ H Qv ⟨Z, ρ, S, Q, m, w, k⟩ =>
    ⟨Z, ρ, S, _, m, w, fun ds S1 vs H1 x1 s1 t1 r1 w1 => ⟨Z, ds, S1, Q, by rw [List.append_nil]; exact r1, s1, t1, w1, k.ext x1, noX hf⟩⟩
theorem de_call0 {xc : XC} {lev f : Nat} {fa : Addr} {fd : FuncData} {ps : List Str} {x : Str} {p : Pos} (F : FnOk X.prog X.w X.K X.mg X.base (L2.CX X.prog X.w) lev fa fd ps (spD X.K tb xc G f)) (hf : f < 1000) (hr : Room lev X.A) (hg : Gl X x) (hm : X.mg x = some (.ref fa)) (hk : PySem.W.keepIn X.K (.ref fa) = true)
    (hb : Binds X.K fd ps []) (hdb : (x == ("__debug__" : Str)) = false) : DE X tb X' G (.Call (.Name x p) [] [] pos) (.call f .nil) :=
  PE.weak (pe_call0 F hr hg hm hk hb .nil passL hdb) fun σ H Qv ⟨Z, ρ, S, Q, m, w, k⟩ => ⟨Z, [], S, Q, .nil, m.sto, m.tab, w, k, noX hf⟩
theorem RepL.arr {K : PySem.W.Frag} {Z : Addr → Prop} {S : Sto} {H : Hp} {ds es : List D} {vs zs : List V} (r : RepL K Z S H ds vs) (r2 : RepL K Z S H es zs) (n m : Nat) (p : List Nat) : RepL K Z S H (arr n m p ds es) (arr n m p vs zs) := by
  unfold DL.arr
  rw [r.length, r2.length]
  split
  · exact (r.append r2).filterMap p
  · exact .nil
theorem de_callK {xc : XC} {lev f kp n m : Nat} {pr : List Nat} {fa : Addr} {fd : FuncData} {ps ks : List Str} {x : Str} {p : Pos} {es : List Expr} {kws : List Keyword} {mk : M} (F : FnOk X.prog X.w X.K X.mg X.base (L2.CX X.prog X.w) lev fa fd ps (spD X.K tb xc G f)) (hf : f < 1000) (hr : Room lev X.A) (hg : Gl X x) (hm : X.mg x = some (.ref fa)) (hk : PySem.W.keepIn X.K (.ref fa) = true)
    (hb : KBinds X.K fd ps ks (arr n m pr) (arr n m pr)) (hkp : X'.kps[kp]? = some (n, m, pr)) (ha : DA X tb X' G (a :: es) ma) (hkw : DK X tb X' G kws mk) (hall : (backToKw pos (keywordEach kws X.env)).all (·.1.isSome) = true) (hks : (backToKw pos (keywordEach kws X.env)).filterMap (·.1) = ks)
    (hdb : (x == ("__debug__" : Str)) = false) (he : starEach (a :: es) X.env = (false, eval a X.env) :: starEach es X.env)
    (hpl : ((backTo pos (starEach (a :: es) X.env)).any (·.1) || (backToKw pos (keywordEach kws X.env)).any (·.1.isNone)) = false) :
    DE X tb X' G (.Call (.Name x p) (a :: es) kws pos) (.callK f ma mk kp) :=
  PE.weak (pe_callK F hr hg hm hk hb passL ha hkw hall hks hdb he hpl) fun σ H Qv ⟨Z, ρ, S, Q, m, w, k⟩ =>
    ⟨Z, ρ, S, _, m, w, fun ds S1 vs H1 x1 s1 t1 r1 w1 => ⟨Z, ρ, S1, _, m.go x1 s1 t1, w1, fun es S2 zs H2 x2 s2 t2 r2 w2 => by
      obtain ⟨n', m', p', e, w2⟩ := w2
      rw [hkp] at e; cases e
      exact ⟨Z, _, S2, Q, (r1.ext s1 x2).arr r2 _ _ _, s2, t2, w2, k.ext (x1.trans x2), noX hf⟩⟩⟩
theorem de_callK0 {xc : XC} {lev f kp n m : Nat} {pr : List Nat} {fa : Addr} {fd : FuncData} {ps ks : List Str} {x : Str} {p : Pos} {kws : List Keyword} {mk : M} (F : FnOk X.prog X.w X.K X.mg X.base (L2.CX X.prog X.w) lev fa fd ps (spD X.K tb xc G f)) (hf : f < 1000) (hr : Room lev X.A) (hg : Gl X x) (hm : X.mg x = some (.ref fa)) (hk : PySem.W.keepIn X.K (.ref fa) = true)
    (hb : KBinds X.K fd ps ks (arr n m pr) (arr n m pr)) (hkp : X'.kps[kp]? = some (n, m, pr)) (hkw : DK X tb X' G kws mk) (hall : (backToKw pos (keywordEach kws X.env)).all (·.1.isSome) = true) (hks : (backToKw pos (keywordEach kws X.env)).filterMap (·.1) = ks)
    (hdb : (x == ("__debug__" : Str)) = false)
    (hpl : ((backTo pos (starEach [] X.env)).any (·.1) || (backToKw pos (keywordEach kws X.env)).any (·.1.isNone)) = false) :
    DE X tb X' G (.Call (.Name x p) [] kws pos) (.callK f .nil mk kp) := by
  refine ⟨fun pins s σ H Qv I ⟨Z, ρ, S, Q, m, w, k⟩ => ?_⟩
  refine wpAny_Call_Name_kw (ld_glob I hg hm ?_ hdb)
  refine PySem.W.callWith_KW0 (h₀ := X.base) I.ok.mod.kin hk hall ?_ hpl
  have go : tDL X.K tb (wL X' G mk) σ H fun zs H1 => spD X.K tb xc G f (arr n _ pr [] zs) H1 Qv E0 :=
    ⟨Z, ρ, S, _, m, w, fun es S2 zs H2 x2 s2 t2 r2 w2 => by
      obtain ⟨n', m', p', e, w2⟩ := w2
      rw [hkp] at e; cases e
      exact ⟨Z, _, S2, Q, (RepL.nil).arr r2 _ _ _, s2, t2, w2, k.ext x2, noX hf⟩⟩
  refine thn (hkw.run pos pins s σ H _ I go) fun ws s2 ⟨zs, H2, I2, rz, q2⟩ => ⟨I2.kIn, ?_⟩
  rw [hks]
  exact run_fnk (us := []) (vs := []) F hr hb passL I2 .nil rz q2
theorem bi_name : ∀ b : BI, b.nm ≠ "__name__" ∧ (b.nm == ("__debug__" : Str)) = false
  | .abs => ⟨by decide +kernel, by decide +kernel⟩
  | .len => ⟨by decide +kernel, by decide +kernel⟩
  | .int => ⟨by decide +kernel, by decide +kernel⟩
  | .tuple => ⟨by decide +kernel, by decide +kernel⟩
  | .list _ => ⟨(by decide +kernel : ("list" : Str) ≠ "__name__"), (by decide +kernel : (("list" : Str) == ("__debug__" : Str)) = false)⟩
  | .sum => ⟨by decide +kernel, by decide +kernel⟩
  | .max => ⟨by decide +kernel, by decide +kernel⟩
  | .min => ⟨by decide +kernel, by decide +kernel⟩
theorem de_bi {b : BI} {p : Pos} {es : List Expr} (hc : X.calm = true) (hg : Gl X b.nm) (hm : X.mg b.nm = none) (ha : DA X tb X' G (a :: es) ma) (he : starEach (a :: es) X.env = (false, eval a X.env) :: starEach es X.env) (hpl : (backTo pos (starEach es X.env)).any (·.1) = false) :
    DE X tb X' G (.Call (.Name b.nm p) (a :: es) [] pos) (.bi b ma) := by
  obtain ⟨r, hr, hs⟩ := sem_bi (X := X) (tb := tb) hc b
  have fin : ∀ σ H Qv, tD X.K tb (wE X' G (.bi b ma)) σ H Qv → tCB r (tDL X.K tb (wL X' G ma)) σ H Qv := fun σ H Qv ⟨Z, ρ, S, Q, m, w, k⟩ =>
    ⟨Z, ρ, S, _, m, w, fun ds S1 vs H1 x1 s1 t1 r1 w1 => hs Z ds vs S1 H1 Q Qv s1 t1 r1 w1 (k.ext x1)⟩
  have hv := boot_bi b
  have h2 := bi_name b
  cases b with
  | abs => exact PE.weak (pe_callB hr hg hm hv ha h2.1 h2.2 he hpl) fin
  | len => exact PE.weak (pe_callB hr hg hm hv ha h2.1 h2.2 he hpl) fin
  | int => exact PE.weak (pe_callTy hr hg hm hv ha h2.1 h2.2 he hpl) fin
  | tuple => exact PE.weak (pe_callTy hr hg hm hv ha h2.1 h2.2 he hpl) fin
  | list mu => exact PE.weak (pe_callTy hr hg hm hv ha h2.1 h2.2 he hpl) fin
  | sum => exact PE.weak (pe_callB hr hg hm hv ha h2.1 h2.2 he hpl) fin
  | max => exact PE.weak (pe_callB hr hg hm hv ha h2.1 h2.2 he hpl) fin
  | min => exact PE.weak (pe_callB hr hg hm hv ha h2.1 h2.2 he hpl) fin
theorem tn_name (b : TN) : b.nm ≠ "__name__" ∧ (b.nm == ("__debug__" : Str)) = false := by cases b <;> exact ⟨by decide +kernel, by decide +kernel⟩
theorem boot_isi : bootBuiltins ("isinstance" : Str) = some (.builtin "isinstance") := by decide +kernel
theorem de_isi {t : TN} {p p2 : Pos} (hg : Gl X "isinstance") (hm : X.mg "isinstance" = none) (hg2 : Gl X t.nm) (hm2 : X.mg t.nm = none) (ha : DE X tb X' G a ma) (he : starEach (a :: [.Name t.nm p2]) X.env = (false, eval a X.env) :: starEach [.Name t.nm p2] X.env) :
    DE X tb X' G (.Call (.Name "isinstance" p) [a, .Name t.nm p2] [] pos) (.isi ma t) :=
  PE.weak (pe_callB (call_isi (X := X)) hg hm boot_isi (pa_cons ha (pa_cons (pe_bltn hg2 hm2 (boot_tn t) (v := .ty t.ty) rfl (tn_name t).1 (tn_name t).2) pa_nil (by rfl)) he) (by decide +kernel) (by decide +kernel) he (by rfl)) fun σ H Qv ⟨Z, ρ, S, Q, m, w, k⟩ =>
    ⟨Z, ρ, S, _, m, w, fun d S1 v H1 x1 s1 t1 r1 w1 => by
      obtain ⟨u, b, h1, h2, h3⟩ := isi_sem (X := X) s1 r1 w1
      exact ⟨v, .ty t.ty, u, .type t.ty, b, rfl, .ty t.ty, h1, h2, (k.ext x1).same s1 t1 (.bl _) h3⟩⟩

/-! ### places, slices, methods -/
theorem de_ix (ha : DE X tb X' G a ma) (hb : DE X tb X' G b mb) (hs : PlainIx b) : DE X tb X' G (.Subscript a b pos) (.ix ma mb) := by
  obtain ⟨r, hr, hsm⟩ := ix_sem (X := X) (tb := tb)
  exact PE.weak (pe_ix hr ha hb hs) fun σ H Qv ⟨Z, ρ, S, Q, m, w, k⟩ =>
    ⟨Z, ρ, S, _, m, w, fun d S1 v H1 x1 s1 t1 r1 w1 => ⟨Z, ρ, S1, _, m.go x1 s1 t1, w1, fun d2 S2 v2 H2 x2 s2 t2 r2 w2 => hsm Z d d2 v v2 S2 H2 Q Qv s2 t2 (r1.ext s1 x2) r2 w2 (k.ext (x1.trans x2))⟩⟩
theorem do_none : DO X tb X' G none .nil := PO.weak po_none fun σ H Qv ⟨Z, ρ, S, Q, m, w, k⟩ => k none S H Ext.refl m.sto m.tab w
theorem do_some (ha : DE X tb X' G a ma) : DO X tb X' G (some a) (.so ma) := PO.weak (po_some ha) fun σ H Qv ⟨Z, ρ, S, Q, m, w, k⟩ =>
  ⟨Z, ρ, S, _, m, w, fun d S1 v H1 x1 s1 t1 r1 w1 => by
    obtain ⟨i, e, w1⟩ := w1
    subst e
    cases r1
    exact ⟨i, rfl, k _ S1 H1 x1 s1 t1 w1⟩⟩
theorem de_sl {lo hi : Option Expr} {p2 : Pos} (ha : DE X tb X' G a ma) (hl : DO X tb X' G lo mb) (hh : DO X tb X' G hi mc) : DE X tb X' G (.Subscript a (.Slice lo hi none p2) pos) (.sl ma mb mc) := by
  obtain ⟨r, hr, hsm⟩ := sl_sem (X := X) (tb := tb)
  exact PE.weak (pe_slice hr ha hl hh) fun σ H Qv ⟨Z, ρ, S, Q, m, w, k⟩ =>
    ⟨Z, ρ, S, _, m, w, fun d S1 v H1 x1 s1 t1 r1 w1 => ⟨Z, ρ, S1, _, m.go x1 s1 t1, w1, fun l S2 H2 x2 s2 t2 w2 => ⟨Z, ρ, S2, _, (m.go x1 s1 t1).go x2 s2 t2, w2, fun h S3 H3 x3 s3 t3 w3 =>
      hsm Z d l h v S3 H3 Q Qv s3 t3 ((r1.ext s1 x2).ext s2 x3) w3 (k.ext ((x1.trans x2).trans x3))⟩⟩⟩
theorem ref_ty {Z : Addr → Prop} {x : D} {v : V} {S : Sto} {H : Hp} (s : SRep X.K Z S H) (r : Rep X.K Z S H x v) (w : dRef S x) : tyV X.K "list" v H := by
  cases r <;> first | exact w.elim | skip
  rename_i l
  obtain ⟨xs, e⟩ := w
  obtain ⟨vs, h, h2, _⟩ := s.sqL e l
  exact .inl ⟨rfl, _, h2⟩
theorem de_meth {lm : LM} {apos : Pos} {es : List Expr} (ho : DE X tb X' G c mc) (ha : DA X tb X' G (a :: es) ma) (hbase : attributeBase c lm.nm X.env (eval c X.env) = eval c X.env)
    (hfew : ((backTo pos (starEach (a :: es) X.env)).all (fun x => !x.1) && (backToKw pos (keywordEach [] X.env)).all (fun x => x.1.isSome)
      && decide ((a :: es).length + ([] : List Keyword).length + (if ([] : List Keyword).isEmpty then 0 else 1) < 30)) = true)
    (hline : (apos.endLine == pos.line) = true) (hs : starEach (a :: es) X.env = (false, eval a X.env) :: starEach es X.env) (hplain : (backTo pos (starEach es X.env)).any (·.1) = false) :
    DE X tb X' G (.Call (.Attribute c lm.nm apos) (a :: es) [] pos) (.meth lm mc ma) := by
  obtain ⟨r, hr, hsm⟩ := sem_meth (X := X) (tb := tb) lm
  exact PE.weak (pe_bm PySem.F.plainAttrs_list (lm_slot lm) (lm_type lm) hr ho ha hbase hfew hline hs hplain) fun σ H Qv ⟨Z, ρ, S, Q, m, w, k⟩ =>
    ⟨Z, ρ, S, _, m, w, fun d S1 v H1 x1 s1 t1 r1 w1 => ⟨ref_ty s1 r1 w1.1, Z, ρ, S1, _, m.go x1 s1 t1, w1.2, fun ds S2 vs H2 x2 s2 t2 r2 w2 => hsm Z d v ds vs S2 H2 Q Qv s2 t2 (r1.ext s1 x2) r2 w2 (k.ext (x1.trans x2))⟩⟩
theorem de_meth0 {lm : LM} {apos : Pos} (ho : DE X tb X' G c mc) (hbase : attributeBase c lm.nm X.env (eval c X.env) = eval c X.env) (hline : (apos.endLine == pos.line) = true) :
    DE X tb X' G (.Call (.Attribute c lm.nm apos) [] [] pos) (.meth lm mc .nil) := by
  obtain ⟨r, hr, hsm⟩ := sem_meth (X := X) (tb := tb) lm
  exact PE.weak (pe_bm0 PySem.F.plainAttrs_list (lm_slot lm) (lm_type lm) hr ho hbase hline) fun σ H Qv ⟨Z, ρ, S, Q, m, w, k⟩ =>
    ⟨Z, ρ, S, _, m, w, fun d S1 v H1 x1 s1 t1 r1 w1 => ⟨ref_ty s1 r1 w1.1, hsm Z d v [] [] S1 H1 Q Qv s1 t1 r1 .nil w1.2 (k.ext x1)⟩⟩

/-! ### what is walked -/
variable {tg : Expr}
theorem itOk_tup {K : PySem.W.Frag} {tb : List Addr} {Z : Addr → Prop} {S₀ : Sto} {H₀ : Hp} {a : Addr} {vs : List V} {xs : List D} (h : SqT K H₀ a vs) (s0 : SRep K Z S₀ H₀) (r : RepL K Z S₀ H₀ xs vs) (inj : ∀ {H ys}, SqT K H a vs → SqT K H a ys → True) : ItOk K tb Z S₀ H₀ (Itt K a) xs (fun _ => True) := by
  intro Z' hz i S H x s t _
  have h1 := sqT_ext s0 x h
  have r1 := (r.zz hz).extN s0.sno x
  refine ⟨fun d e => ?_, fun e => ⟨vs, h1, by rw [← r1.length]; exact e⟩⟩
  obtain ⟨v, hv, rv⟩ := r1.get e
  refine ⟨⟨vs, v, h1, hv⟩, fun y H2 hy => ?_⟩
  obtain ⟨e2, hy⟩ := hy
  subst e2
  have := hy vs h1
  rw [hv] at this
  cases this
  exact ⟨Ext.refl, s, t, rv⟩
theorem itOk_lst {K : PySem.W.Frag} {tb : List Addr} {Z : Addr → Prop} {S₀ : Sto} {H₀ : Hp} {a : Addr} {xs : List D} (stay : Sto → Prop) (h : ∀ (Z' : Addr → Prop), (∀ a, Z' a → Z a ∨ H₀ a = none) → ∀ S H, Ext S₀ H₀ S H → SRep K Z' S H → stay S → ∃ vs, SqL K H a vs ∧ RepL K Z' S H xs vs) : ItOk K tb Z S₀ H₀ (Itl K a) xs stay := by
  intro Z' hz i S H x s t st
  obtain ⟨vs, h1, r1⟩ := h Z' hz S H x s st
  refine ⟨fun d e => ?_, fun e => ⟨vs, h1, by rw [← r1.length]; exact e⟩⟩
  obtain ⟨v, hv, rv⟩ := r1.get e
  refine ⟨⟨vs, v, h1, hv⟩, fun y H2 hy => ?_⟩
  obtain ⟨e2, hy⟩ := hy
  subst e2
  have := hy vs h1
  rw [hv] at this
  cases this
  exact ⟨Ext.refl, s, t, rv⟩
/-- anything that is a tuple or a list -/
theorem pi_seq {l : Expr} {tl : TE} (hl : PE X l tl) : PI X tg l (fun σ H R => tl σ H fun x H1 => ∃ a, x = .ref a ∧ (((∃ xs, SqT X.K H1 a xs) ∧ R (Itt X.K a) H1) ∨ ((∃ xs, SqL X.K H1 a xs) ∧ R (Itl X.K a) H1))) := by
  refine ⟨fun pins s σ H R I h => ?_⟩
  refine thn (hl.run pins s σ H _ I h) fun v s1 ⟨x, H1, I1, r1, q1⟩ => ?_
  obtain ⟨a, e, q⟩ := q1
  subst e
  cases r1
  rcases q with ⟨⟨xs, hq⟩, q⟩ | ⟨⟨xs, hq⟩, q⟩
  · obtain ⟨its, rv, p, hz⟩ := I1.tuple hq
    refine wpAny_pyIter_tuple (show s1.heap.IsTuple a its.toArray from p) ?_
    refine ⟨s1.heap.objs.size, [s1.heap.objs.size], _, _, H1, rfl, I1.kept (t' := s1.toks) fun b o e => Heap.get?_push_of_some _ e, turn_tuple a _, ⟨_, Heap.get?_push_size _ rfl, rfl, rfl⟩, fun b hb => ?_, q⟩
    have e : b = s1.heap.objs.size := by simpa using hb
    subst e
    exact I1.fpOk (Nat.le_refl _) (I1.hok.fresh (Nat.le_refl _))
  · obtain ⟨its, rv, p, hz⟩ := I1.list hq
    refine wpAny_pyIter_list p.isList ?_
    refine ⟨s1.heap.objs.size, [s1.heap.objs.size], _, _, H1, rfl, I1.kept (t' := s1.toks) fun b o e => Heap.get?_push_of_some _ e, turn_list a _, ⟨_, Heap.get?_push_size _ rfl, rfl, rfl⟩, fun b hb => ?_, q⟩
    have e : b = s1.heap.objs.size := by simpa using hb
    subst e
    exact I1.fpOk (Nat.le_refl _) (I1.hok.fresh (Nat.le_refl _))
theorem di_it (ha : DE X tb X' G a ma) : DI X tb X' G tg a (.it ma) :=
  PI.weak (pi_seq ha) fun σ H R ⟨Z, ρ, S, Q, m, w, k⟩ => ⟨Z, ρ, S, _, m, w, fun d S1 v H1 x1 s1 t1 r1 w1 => by
    cases r1 with
    | @tup p vs ds h r =>
      have w1 : Q ds (fun _ => True) S1 := w1
      exact ⟨p, rfl, .inl ⟨⟨_, h⟩, k _ _ S1 _ H1 x1 s1 t1 (itOk_tup h s1 r fun _ _ => trivial) w1⟩⟩
    | @lst p vs ds h n nz r =>
      have w1 : Q ds (fun _ => True) S1 := w1
      refine ⟨p, rfl, .inr ⟨⟨_, SqL.of h⟩, k _ _ S1 _ H1 x1 s1 t1 (itOk_lst _ fun Z' hz S H x s _ => ⟨vs, ?_, (r.zz hz).extN s1.sno x⟩) w1⟩⟩
      exact SqL.of (x.keep _ _ h n fun ps e => by cases e).1
    | @scr p vs ds h r =>
      have w1 : Q ds (fun _ => True) S1 := w1
      exact ⟨p, rfl, .inr ⟨⟨_, h.sq⟩, k _ _ S1 _ H1 x1 s1 t1 (itOk_lst _ fun Z' hz S H x s _ => ⟨vs, (h.ext s1 x).sq, (r.zz hz).extN s1.sno x⟩) w1⟩⟩
    | @ref p l =>
      obtain ⟨xs, e, w1⟩ := w1
      obtain ⟨vs, h, h2, r⟩ := s1.sqL e l
      exact ⟨p, rfl, .inr ⟨⟨_, h2⟩, k _ _ S1 _ H1 x1 s1 t1 (itOk_lst _ fun Z' hz S H x s st => by
        obtain ⟨ws, h3, h4, r3⟩ := s.sqL st (x.ls _ l)
        exact ⟨ws, h4, r3⟩) w1⟩⟩
    | _ => exact w1.elim⟩
theorem zip_get {xs ys : List D} {i : Nat} {d : D} (e : (List.zipWith (fun x y => D.tup [x, y]) xs ys)[i]? = some d) : ∃ x y, xs[i]? = some x ∧ ys[i]? = some y ∧ d = .tup [x, y] := by
  rw [List.getElem?_zipWith] at e
  cases h1 : xs[i]? with
  | none => rw [h1] at e; cases e
  | some x =>
    cases h2 : ys[i]? with
    | none => rw [h1, h2] at e; cases e
    | some y => rw [h1, h2] at e; cases e; exact ⟨x, y, rfl, rfl, rfl⟩
theorem zip_end {xs ys : List D} {i : Nat} (e : (List.zipWith (fun x y => D.tup [x, y]) xs ys).length ≤ i) : xs.length ≤ i ∨ ys.length ≤ i := by
  rw [List.length_zipWith] at e
  omega
theorem pair_new {K : PySem.W.Frag} {Z : Addr → Prop} {S : Sto} {H : Hp} {T : Addr} {x y : D} {v u : V} (s : SRep K Z S H) (t : Tabs tb H) (hT : H T = none) (rx : Rep K Z S H x v) (ry : Rep K Z S H y u) :
    Ext S H S (upd H T (.tup [v, u])) ∧ SRep K Z S (upd H T (.tup [v, u])) ∧ Tabs tb (upd H T (.tup [v, u])) ∧ Rep K Z S (upd H T (.tup [v, u])) (.tup [x, y]) (.ref T) :=
  ⟨Ext.new hT, s.new hT, t.new hT, .tup (SqT.of upd_same) (.cons (rx.ext s (Ext.new hT)) (.cons (ry.ext s (Ext.new hT)) .nil))⟩
theorem itOk_rng {K : PySem.W.Frag} {Z : Addr → Prop} {S₀ : Sto} {H₀ : Hp} {i j : Int} : ItOk K tb Z S₀ H₀ (Itr i (j - i).toNat) (rangeD i j) (fun _ => True) := by
  intro Z' hz n S H x s t _
  unfold rangeD
  refine ⟨fun d e => ?_, fun e => ?_⟩
  · rw [List.getElem?_map] at e
    cases h : (List.range (j - i).toNat)[n]? with
    | none => rw [h] at e; cases e
    | some q =>
      rw [h] at e
      obtain ⟨h1, h2⟩ := List.getElem?_eq_some_iff.mp h
      rw [List.getElem_range] at h2
      subst h2
      cases e
      refine ⟨(show n < (j - i).toNat by rw [List.length_range] at h1; exact h1), fun y H2 hy => ?_⟩
      obtain ⟨rfl, rfl⟩ := hy
      exact ⟨Ext.refl, s, t, .int _⟩
  · rw [List.length_map, List.length_range] at e
    exact e
theorem di_rng1 {p : Pos} (hg : Gl X "range") (hm : X.mg "range" = none) (ha : DE X tb X' G a ma) (hs : starEach [a] X.env = [(false, eval a X.env)]) : DI X tb X' G tg (.Call (.Name "range" p) [a] [] pos) (.rng (.c (.int 0)) ma) :=
  PI.weak (pi_range1 hg hm (pa_cons ha pa_nil (by rw [hs]; rfl)) hs) fun σ H R ⟨Z, ρ, S, Q, m, w, k⟩ =>
    ⟨Z, ρ, S, _, m, w, fun d S1 v H1 x1 s1 t1 r1 w1 => by
      obtain ⟨i, j, e1, e2, ok, w1⟩ := w1
      cases e1
      subst e2
      cases r1
      refine ⟨j, rfl, ok.2.2.1, ok.2.2.2, ?_⟩
      have h := k _ _ S1 _ H1 x1 s1 t1 (itOk_rng (i := 0) (j := j)) w1
      rw [Int.sub_zero] at h
      exact h⟩
theorem di_rng2 {p : Pos} (hg : Gl X "range") (hm : X.mg "range" = none) (ha : DE X tb X' G a ma) (hb : DE X tb X' G b mb) (h1 : starEach [a, b] X.env = [(false, eval a X.env), (false, eval b X.env)]) (h2 : starEach [b] X.env = [(false, eval b X.env)]) :
    DI X tb X' G tg (.Call (.Name "range" p) [a, b] [] pos) (.rng ma mb) :=
  PI.weak (pi_range2 hg hm (pa_cons ha (pa_cons hb pa_nil (by rw [h2]; rfl)) (by rw [h1, h2])) h1 h2) fun σ H R ⟨Z, ρ, S, Q, m, w, k⟩ =>
    ⟨Z, ρ, S, _, m, w, fun d S1 v H1 x1 s1 t1 r1 w1 => ⟨Z, ρ, S1, _, m.go x1 s1 t1, w1, fun d2 S2 v2 H2 x2 s2 t2 r2 w2 => by
      obtain ⟨i, j, e1, e2, ok, w2⟩ := w2
      subst e1
      subst e2
      cases r1
      cases r2
      exact ⟨i, j, rfl, ok, k _ _ S2 _ H2 (x1.trans x2) s2 t2 (itOk_rng (i := i) (j := j)) w2⟩⟩⟩
end
end DL

set_option Elab.async false
set_option linter.all false
set_option maxRecDepth 100000
set_option maxHeartbeats 4000000
/-! DL6: comprehensions, targets, statements. -/
namespace DL
open PySem PySem.Spec PyProof.Rows L2 RZ

section
variable {X : Cx} {tb : List Addr} {X' : Mod'} {G : Fns} {pos : Pos}
/-! ### targets -/
mutual
theorem bindT_mono : ∀ {t : TT'} {d : D} {ρ : Rho} {k k' : Rho → Prop}, (∀ ρ', k ρ' → k' ρ') → bindT t d ρ k → bindT t d ρ k'
  | .n i, _, _, _, _, f, w => f _ w
  | .t a, .tup xs, _, _, _, f, w => bindTs_mono (t := a) f w
  | .t _, .non, _, _, _, _, w => w.elim
  | .t _, .bl _, _, _, _, _, w => w.elim
  | .t _, .int _, _, _, _, _, w => w.elim
  | .t _, .str _, _, _, _, _, w => w.elim
  | .t _, .lst _, _, _, _, _, w => w.elim
  | .t _, .scr _, _, _, _, _, w => w.elim
  | .t _, .ref _, _, _, _, _, w => w.elim
  | .t _, .dct _, _, _, _, _, w => w.elim
  | .t _, .exc _, _, _, _, _, w => w.elim
  | .nil, d, _, _, _, _, w => by cases d <;> exact w.elim
  | .cons _ _, d, _, _, _, _, w => by cases d <;> exact w.elim
theorem bindTs_mono : ∀ {t : TT'} {ds : List D} {ρ : Rho} {k k' : Rho → Prop}, (∀ ρ', k ρ' → k' ρ') → bindT.bindTs t ds ρ k → bindT.bindTs t ds ρ k'
  | .nil, [], _, _, _, f, w => f _ w
  | .nil, _ :: _, _, _, _, _, w => w.elim
  | .cons a b, [], _, _, _, _, w => w.elim
  | .cons a b, d :: ds, ρ, k, k', f, w => bindT_mono (t := a) (fun ρ' h => bindTs_mono (t := b) f h) w
  | .n _, [], _, _, _, _, w => w.elim
  | .n _, _ :: _, _, _, _, _, w => w.elim
  | .t _, [], _, _, _, _, w => w.elim
  | .t _, _ :: _, _, _, _, _, w => w.elim
end
mutual
theorem bindT_const : ∀ (t : TT') (d : D) (ρ : Rho) (P : Prop), (bindT t d ρ fun _ => P) → P
  | .n i, _, _, _, w => w
  | .t a, .tup xs, ρ, P, w => bindTs_const a xs ρ P w
  | .t _, .non, _, _, w => w.elim
  | .t _, .bl _, _, _, w => w.elim
  | .t _, .int _, _, _, w => w.elim
  | .t _, .str _, _, _, w => w.elim
  | .t _, .lst _, _, _, w => w.elim
  | .t _, .scr _, _, _, w => w.elim
  | .t _, .ref _, _, _, w => w.elim
  | .t _, .dct _, _, _, w => w.elim
  | .t _, .exc _, _, _, w => w.elim
  | .nil, d, _, _, w => by cases d <;> exact w.elim
  | .cons _ _, d, _, _, w => by cases d <;> exact w.elim
theorem bindTs_const : ∀ (t : TT') (ds : List D) (ρ : Rho) (P : Prop), (bindT.bindTs t ds ρ fun _ => P) → P
  | .nil, [], _, _, w => w
  | .nil, _ :: _, _, _, w => w.elim
  | .cons a b, [], _, _, w => w.elim
  | .cons a b, d :: ds, ρ, P, w => bindT_const a d ρ P (bindT_mono (fun ρ' h => bindTs_const b ds ρ' P h) w)
  | .n _, [], _, _, w => w.elim
  | .n _, _ :: _, _, _, w => w.elim
  | .t _, [], _, _, w => w.elim
  | .t _, _ :: _, _, _, w => w.elim
end
/-- how many a row of targets takes -/
def tlen : TT' → Nat
  | .cons _ b => tlen b + 1
  | _ => 0
theorem bindTs_tlen : ∀ {t : TT'} {ds : List D} {ρ : Rho} {k : Rho → Prop}, bindT.bindTs t ds ρ k → ds.length = tlen t
  | .nil, [], _, _, _ => rfl
  | .nil, _ :: _, _, _, w => w.elim
  | .cons a b, [], _, _, w => w.elim
  | .cons a b, d :: ds, ρ, k, w => by
    have w : bindT a d ρ fun ρ' => bindT.bindTs b ds ρ' k := w
    have : ds.length = tlen b := bindT_const a d ρ _ (bindT_mono (fun ρ' h => bindTs_tlen h) w)
    show ds.length + 1 = tlen b + 1
    rw [this]
  | .n _, [], _, _, w => w.elim
  | .n _, _ :: _, _, _, w => w.elim
  | .t _, [], _, _, w => w.elim
  | .t _, _ :: _, _, _, w => w.elim
/-- the slots that a target stores into -/
def slots : TT' → List Nat
  | .n i => [i]
  | .t a => slots a
  | .nil => []
  | .cons a b => slots a ++ slots b
mutual
/-- a target's reading -/
def gOf (K : PySem.W.Frag) : TT' → TG
  | .n i => gName i
  | .t a => gTup K (tlen a) (gsOf K a)
  | _ => fun _ _ _ _ => False
def gsOf (K : PySem.W.Frag) : TT' → TGs
  | .nil => gNil
  | .cons a b => gCons (gOf K a) (gsOf K b)
  | _ => fun _ _ _ _ => False
end
theorem wipe_back {σ : L2.St} {i : Nat} {v : Option V} : ∀ {vs : List Nat}, i ∈ vs → wipe (σ.set i v) vs = wipe σ vs
  | [], h => by cases h
  | j :: vs, h => by
    unfold wipe
    by_cases q : i = j
    · subst q
      by_cases hm : i ∈ vs
      · rw [wipe_back hm]
      · have : ∀ ws : List Nat, i ∉ ws → wipe (σ.set i v) ws = (wipe σ ws).set i v := by
          intro ws
          induction ws with
          | nil => intro _; rfl
          | cons u us ih =>
            intro hn
            simp only [List.mem_cons, not_or] at hn
            unfold wipe
            rw [ih hn.2, List.set_comm _ _ hn.1]
        rw [this vs hm, List.set_set]
    · rcases List.mem_cons.mp h with h | h
      · exact absurd h q
      · rw [wipe_back h]
def OnlyAt (t : TT') (σ σ' : L2.St) : Prop := ∀ own : List Nat, (∀ i ∈ slots t, i ∈ own) → wipe σ' own = wipe σ own
section
variable {K : PySem.W.Frag} {Z : Addr → Prop} {S : Sto} {H : Hp}
mutual
theorem gOf_sem : ∀ {t : TT'} {d : D} {v : V} {ρ : Rho} {σ : L2.St} {k : Rho → Prop} {Q : L2.St → Hp → Prop}, EnvR K Z S H ρ σ → Rep K Z S H d v → bindT t d ρ k → (∀ ρ' σ', EnvR K Z S H ρ' σ' → OnlyAt t σ σ' → k ρ' → Q σ' H) → gOf K t v σ H Q
  | .n i, d, v, ρ, σ, k, Q, e, r, w, f => f _ _ (e.set i r) (fun own h => wipe_back (h i (List.mem_singleton.mpr rfl))) w
  | .t a, d, v, ρ, σ, k, Q, e, r, w, f => by
    cases r with
    | @tup p vs ds h r =>
      have w : bindT.bindTs a ds ρ k := w
      exact ⟨p, vs, rfl, h, by rw [← r.length]; exact bindTs_tlen w, gsOf_sem (t := a) e r w f⟩
    | _ => exact w.elim
  | .nil, d, _, _, _, _, _, _, _, w, _ => by cases d <;> exact w.elim
  | .cons _ _, d, _, _, _, _, _, _, _, w, _ => by cases d <;> exact w.elim
theorem gsOf_sem : ∀ {t : TT'} {ds : List D} {vs : List V} {ρ : Rho} {σ : L2.St} {k : Rho → Prop} {Q : L2.St → Hp → Prop}, EnvR K Z S H ρ σ → RepL K Z S H ds vs → bindT.bindTs t ds ρ k → (∀ ρ' σ', EnvR K Z S H ρ' σ' → OnlyAt t σ σ' → k ρ' → Q σ' H) → gsOf K t vs σ H Q
  | .nil, ds, vs, ρ, σ, k, Q, e, r, w, f => by
    cases r with
    | nil => exact ⟨rfl, f ρ σ e (fun _ _ => rfl) w⟩
    | cons _ _ => exact w.elim
  | .cons a b, ds, vs, ρ, σ, k, Q, e, r, w, f => by
    cases r with
    | nil => exact w.elim
    | cons r rr =>
      exact ⟨_, _, rfl, gOf_sem (t := a) e r w fun ρ' σ' e' o' w' => gsOf_sem (t := b) e' rr w' fun ρ2 σ2 e2 o2 w2 => f ρ2 σ2 e2 (fun own h => (o2 own fun i hi => h i (List.mem_append_right _ hi)).trans (o' own fun i hi => h i (List.mem_append_left _ hi))) w2⟩
  | .n _, ds, _, _, _, _, _, _, _, w, _ => by cases ds <;> exact w.elim
  | .t _, ds, _, _, _, _, _, _, _, w, _ => by cases ds <;> exact w.elim
end
end
abbrev DG (X : Cx) (tg : Expr) (t : TT') : Prop := PG X tg (gOf X.K t)
abbrev DGs (X : Cx) (tg : List Expr) (t : TT') : Prop := PGs X tg (gsOf X.K t)
theorem dg_name {i : Nat} {x : Str} (hN : X.N.Nodup) (hi : X.N[i]? = some x) (hx : Loc X.env.scope x) (hf : X.fn x = true ∨ X.env.scope.names.lookup x = some .local) : DG X (.Name x pos) (.n i) := pg_name hN hi hx hf
theorem dgs_nil : DGs X [] .nil := pgs_nil
theorem dgs_cons {a : Expr} {es : List Expr} {t u : TT'} (h1 : DG X a t) (h2 : DGs X es u) (hs : (assignEach (a :: es) X.env).map (·.2) = assign a X.env :: (assignEach es X.env).map (·.2)) : DGs X (a :: es) (.cons t u) := pgs_cons h1 h2 hs
theorem dg_tup (hc : X.calm = true) {es : List Expr} {j : Nat} {t : TT'} (h : DGs X es t) (hn : (assignEach es X.env).length = tlen t) (hst : (assignEach es X.env).findIdx? (·.1) = none) : DG X (.Tuple es j pos) (.t t) := pg_tup hc h hn hst

/-! ### comprehensions -/
theorem Ext.hid {S S' : Sto} {H H' : Hp} {L : Addr} {o : HO} (x : Ext S H S' H') (h : H L = none) : Ext S H S' (upd H' L o) := ⟨fun a u e n t => by
  obtain ⟨h1, n1⟩ := x.keep a u e n t
  exact ⟨by rw [upd_ne (ne_of_none e h)]; exact h1, n1⟩, fun a l => by
  obtain ⟨vs, e⟩ := x.ls a l
  have q : a ≠ L := by rintro rfl; obtain ⟨_, e'⟩ := l; rw [h] at e'; cases e'
  exact ⟨vs, by rw [upd_ne q]; exact e⟩, fun a l => by
  obtain ⟨w, ts, e⟩ := x.ds a l
  have q : a ≠ L := by rintro rfl; obtain ⟨_, _, e'⟩ := l; rw [h] at e'; cases e'
  exact ⟨w, ts, by rw [upd_ne q]; exact e⟩⟩
theorem Tabs.hid {H : Hp} {L : Addr} {ws us : List V} (t : Tabs tb H) (h : H L = some (.lst ws)) : Tabs tb (upd H L (.lst us)) := fun P hP => by
  obtain ⟨ps, e, ok⟩ := t P hP
  refine ⟨ps, ?_, ok⟩
  rw [upd_ne]; exact e
  rintro rfl; rw [h] at e; cases e
theorem wipe_wipe (σ : L2.St) : ∀ vs ws : List Nat, (∀ i ∈ ws, i ∈ vs) → wipe (wipe σ ws) vs = wipe σ vs
  | vs, [], _ => rfl
  | vs, w :: ws, h => by
    show wipe ((wipe σ ws).set w none) vs = _
    rw [wipe_back (h w List.mem_cons_self), wipe_wipe σ vs ws fun i hi => h i (List.mem_cons_of_mem _ hi)]
theorem PTs.weak {X : Cx} {e : List Expr} {t t' : TT} (h : PTs X e t) (i : ∀ σ H Q, t' σ H Q → t σ H Q) : PTs X e t' := ⟨fun p s σ H Q I w => h.run p s σ H Q I (i _ _ _ w)⟩
theorem dts_nil : PTs X [] (tDT X.K tb (wT X' G .nil)) := PTs.weak pts_nil fun σ H Qv ⟨Z, ρ, S, Q, m, w, k⟩ => k true S H Ext.refl m.sto m.tab w
theorem dts_one {c : Expr} {mc : M} (h : DT X tb X' G c mc) : PTs X [c] (tDT X.K tb (wT X' G mc)) := pts_one h
theorem getElem?_range' {α : Type} {xs : List α} {i : Nat} (h : i < xs.length) : ∃ d, xs[i]? = some d ∧ xs.drop i = d :: xs.drop (i + 1) := ⟨xs[i], List.getElem?_eq_getElem h, List.drop_eq_getElem_cons h⟩
/-- what is asked over data is what the reading asks -/
theorem lc_read {K : PySem.W.Frag} {mu : Bool} {own : List (Str × Nat)} {t : TT'} {me mi mc : M} (hsl : ∀ i ∈ slots t, i ∈ own.map (·.2)) {σ : L2.St} {H : Hp} {Qv : VK}
    (h : tD K tb (wE X' G (.lc mu (own.map (·.2)) t me mi mc)) σ H Qv) : tLc (tDI K tb (wI X' G mi)) (gOf K t) (tDT K tb (wT X' G mc)) (tD K tb (wE X' G me)) (own.map (·.2)) σ H Qv := by
  obtain ⟨Z, ρ, S, Q, m, w, k⟩ := h
  refine ⟨Z, ρ, S, _, m, w, fun xs stay S1 J H1 x1 s1 t1 itok w1 => ?_⟩
  intro L hL
  have m1 := m.go x1 s1 t1
  -- W: the turn, what is left; the list so far
  refine ⟨fun i n H' => n = xs.length - i ∧ i ≤ xs.length ∧ ∃ (S' : Sto) (acc : List D) (vs : List V), Ext S1 H1 S' H' ∧ SRep K (more Z L) S' H' ∧ Tabs tb H' ∧ H' L = some (.lst vs) ∧ RepL K (more Z L) S' H' acc vs ∧ EnvR K (more Z L) S' H' (wipeD ρ (own.map (·.2))) (wipe σ (own.map (·.2))) ∧
    compL (fun d k => bindT t d (wipeD ρ (own.map (·.2))) k) (fun ρ' S' k => wT X' G mc ρ' S' k) (fun ρ' S' k => wE X' G me ρ' S' k) stay (fun acc S' => if mu = true then ∀ p, S' p = none → Q (.ref p) (S'.put p acc) else Q (.lst acc) S') (xs.drop i) acc S',
    ⟨xs.length, rfl, Nat.zero_le _, S1, [], [], (Ext.refl.hid hL), s1.moreNew hL, t1.new hL, upd_same, .nil, ?_, w1⟩, ?_⟩
  · have e := (m1.env.more hL).wipe (own.map (·.2))
    exact ⟨e.len, fun i d h => let ⟨v, h1, r⟩ := e.at_ i d h; ⟨v, h1, r.extN s1.sno (Ext.new hL)⟩⟩
  rintro i n H' ⟨rfl, hi', S', acc, vs, x', s', t', eL, r', e', w'⟩
  have st' : stay S' := by
    cases h : xs.drop i with
    | nil => rw [h] at w'; exact w'.1
    | cons _ _ => rw [h] at w'; exact w'.1
  have ok' := itok (more Z L) (more_z hL) i S' H' x' s' t' st'
  have nL := (s'.hid L (.inr rfl)).2
  by_cases hlt : i < xs.length
  · obtain ⟨d, hd, hdrop⟩ := getElem?_range' hlt
    rw [hdrop] at w'
    obtain ⟨_, hlen, w'⟩ := w'
    obtain ⟨hgo, hyld⟩ := ok'.1 d hd
    refine .inr ⟨hgo, fun H2 => i + 1 ≤ xs.length ∧ ∃ (S' : Sto) (acc : List D) (vs : List V), Ext S1 H1 S' H2 ∧ SRep K (more Z L) S' H2 ∧ Tabs tb H2 ∧ H2 L = some (.lst vs) ∧ RepL K (more Z L) S' H2 acc vs ∧ EnvR K (more Z L) S' H2 (wipeD ρ (own.map (·.2))) (wipe σ (own.map (·.2))) ∧
      compL (fun d k => bindT t d (wipeD ρ (own.map (·.2))) k) (fun ρ' S' k => wT X' G mc ρ' S' k) (fun ρ' S' k => wE X' G me ρ' S' k) stay (fun acc S' => if mu = true then ∀ p, S' p = none → Q (.ref p) (S'.put p acc) else Q (.lst acc) S') (xs.drop (i + 1)) acc S',
      fun H2 h => ⟨xs.length - (i + 1), by omega, rfl, h⟩, fun x H2 hy => ?_⟩
    obtain ⟨x2, s2, t2, r2⟩ := hyld x H2 hy
    refine gOf_sem (e'.ext s' x2) r2 w' fun ρ3 σ3 e3 o3 w3 => ⟨(o3 _ hsl).trans (wipe_wipe σ _ _ fun _ h => h), ?_⟩
    have keepL : ∀ {H3 : Hp} {S3 : Sto}, Ext S' H' S3 H3 → H3 L = some (.lst vs) := fun {H3 S3} x3 => (x3.keep L _ eL nL fun ps e => by cases e).1
    refine ⟨more Z L, ρ3, S', _, ⟨e3, s2, t2⟩, w3, fun b S4 H4 x4 s4 t4 w4 => ?_⟩
    cases b with
    | false =>
      exact ⟨hlt, S4, acc, vs, (x'.trans x2).trans x4, s4, t4, keepL (x2.trans x4), (r'.ext s' x2).ext s2 x4, (e'.ext s' x2).ext s2 x4, w4⟩
    | true =>
      refine ⟨more Z L, ρ3, S4, _, ⟨e3.ext s2 x4, s4, t4⟩, w4, fun d5 S5 v5 H5 x5 s5 t5 r5 w5 => ?_⟩
      have eL5 := keepL ((x2.trans x4).trans x5)
      have rv : RepL K (more Z L) S5 H5 acc vs := ((r'.ext s' x2).ext s2 x4).ext s4 x5
      refine ⟨vs, eL5, by rw [LIM_eq, ← rv.length]; exact hlen, hlt, S5, acc ++ [d5], vs ++ [v5], (((x'.trans x2).trans x4).trans x5).hid hL, s5.chz eL5 (.inr rfl), t5.hid eL5, upd_same, (rv.snoc r5).chz eL5 (.inr rfl), (((e'.ext s' x2).ext s2 x4).ext s4 x5).chz eL5 (.inr rfl), w5⟩
  · have hn : xs.drop i = [] := List.drop_eq_nil_of_le (Nat.le_of_not_lt hlt)
    rw [hn] at w'
    refine .inl ⟨ok'.2 (Nat.le_of_not_lt hlt), ?_⟩
    have w2 := w'.2
    have s0' := s'.less
    have nzL : ¬ Z L := fun z => by
      obtain ⟨⟨o, e⟩, _⟩ := s1.hid L z
      rw [hL] at e; cases e
    cases mu with
    | true =>
      have w2 : Q (.ref L) (S'.put L acc) := w2 L nL
      have xp : Ext S1 H1 (S'.put L acc) H' := ⟨fun a o e n tt => by
        obtain ⟨h1, n1⟩ := x'.keep a o e n tt
        exact ⟨h1, by rw [Sto.put_ne (ne_of_none e hL)]; exact n1⟩, x'.ls, x'.ds⟩
      exact k _ _ _ _ (x1.trans xp) (s'.shown nzL eL r') t' (.ref ⟨_, eL⟩) w2
    | false =>
      exact k _ _ _ _ (x1.trans x') s0' t' (.lst eL nL nzL r'.less) w2
/-- one clause -/
theorem de_lc {mu : Bool} {elt tg iter : Expr} {ifs : List Expr} {scope : Scope} {own : List (Str × Nat)} {t : TT'} {me mi mc : M} (hc : X.calm = true) (hN : X.N.Nodup) (hi : DI X tb X' G tg iter mi) (ok : BlkOk X.N X.env.scope scope own)
    (hg : ∀ (s : Shared) (H : Hp) (C : Addr) (cl : List (Str × Addr)) (fp : List Addr), DG (X.blk s H scope (compEnvC scope cl C X.env) fp) tg t) (hsl : ∀ i ∈ slots t, i ∈ own.map (·.2))
    (ht : ∀ (s : Shared) (H : Hp) (C : Addr) (cl : List (Str × Addr)) (fp : List Addr), PTs (X.blk s H scope (compEnvC scope cl C X.env) fp) ifs (tDT X.K tb (wT X' G mc)))
    (he : ∀ (s : Shared) (H : Hp) (C : Addr) (cl : List (Str × Addr)) (fp : List Addr), DE (X.blk s H scope (compEnvC scope cl C X.env) fp) tb X' G elt me) (hs : ∀ x, foldedSetIterable iter X.env x = pure x) :
    DE X tb X' G (.ListComp elt [⟨tg, iter, ifs, 0⟩] scope pos) (.lc mu (own.map (·.2)) t me mi mc) := by
  have hg' : ∀ (s : Shared) (H : Hp) (C : Addr) (cl : List (Str × Addr)) (fp : List Addr), PG (X.blk s H scope (compEnvC scope cl C X.env) fp) tg (gOf X.K t) := hg
  have he' : ∀ (s : Shared) (H : Hp) (C : Addr) (cl : List (Str × Addr)) (fp : List Addr), PE (X.blk s H scope (compEnvC scope cl C X.env) fp) elt (tD X.K tb (wE X' G me)) := he
  exact PE.weak (pe_lc hc hN hi ok hg' ht he' hs) fun σ H Qv h => lc_read hsl h

/-! ### statements -/
/-- what is wished of things raised; their classes -/
structure XW where
  w : WX
  c : XC
structure EndsR (K : PySem.W.Frag) (tb : List Addr) (W : XW) (Z : Addr → Prop) (S : Sto) (H : Hp) (E : ED) (Dv : Ends) : Prop where
  nx : ∀ ρ' S' σ' H', Ext S H S' H' → Sim K tb Z ρ' S' σ' H' → E.nx ρ' S' → Dv.nx σ' H'
  rt : Aft K tb Z S H E.rt Dv.rt
  bk : ∀ ρ' S' σ' H', Ext S H S' H' → Sim K tb Z ρ' S' σ' H' → E.bk ρ' S' → Dv.bk σ' H'
  ct : ∀ ρ' S' σ' H', Ext S H S' H' → Sim K tb Z ρ' S' σ' H' → E.ct ρ' S' → Dv.ct σ' H'
  xt : ∀ c ρ' S' σ' H', c < W.c.n → Ext S H S' H' → Sim K tb Z ρ' S' σ' H' → E.xt c ρ' S' → W.w (W.c.at_ c) none σ' H'
theorem EndsR.ext {K : PySem.W.Frag} {W : XW} {Z : Addr → Prop} {S S1 : Sto} {H H1 : Hp} {E : ED} {Dv : Ends} (k : EndsR K tb W Z S H E Dv) (x : Ext S H S1 H1) : EndsR K tb W Z S1 H1 E Dv :=
  ⟨fun ρ' S' σ' H' x' m q => k.nx ρ' S' σ' H' (x.trans x') m q, k.rt.ext x, fun ρ' S' σ' H' x' m q => k.bk ρ' S' σ' H' (x.trans x') m q, fun ρ' S' σ' H' x' m q => k.ct ρ' S' σ' H' (x.trans x') m q, fun c ρ' S' σ' H' hc x' m q => k.xt c ρ' S' σ' H' hc (x.trans x') m q⟩
def tDS (K : PySem.W.Frag) (tb : List Addr) (W : XW) (w : ED → Rho → Sto → Prop) : TS := fun Dv σ H => ∃ Z ρ S E, Sim K tb Z ρ S σ H ∧ w E ρ S ∧ EndsR K tb W Z S H E Dv
abbrev DS (X : Cx) (tb : List Addr) (X' : Mod') (G : Fns) (W : XW) (st : Stmt) (c : C) : Prop := PS X st (tDS X.K tb W (wC X' G c))
abbrev DSs (X : Cx) (tb : List Addr) (X' : Mod') (G : Fns) (W : XW) (st : List Stmt) (c : C) : Prop := PSs X st (tDS X.K tb W (wC X' G c))
variable {W : XW} {st : Stmt} {sts : List Stmt} {ca cb : C} {a b c e : Expr} {ma mb mc me : M}
theorem dss_nil : DSs X tb X' G W [] .done := PSs.weak pss_nil fun Dv σ H ⟨Z, ρ, S, E, m, w, k⟩ => k.nx ρ S σ H Ext.refl m w
theorem dss_cons (h1 : DS X tb X' G W st ca) (h2 : DSs X tb X' G W sts cb) : DSs X tb X' G W (st :: sts) (.seq ca cb) :=
  PSs.weak (pss_cons h1 h2) fun Dv σ H ⟨Z, ρ, S, E, m, w, k⟩ => ⟨Z, ρ, S, _, m, w, ⟨fun ρ' S' σ' H' x' m' q => ⟨Z, ρ', S', E, m', q, k.ext x'⟩, k.rt, k.bk, k.ct, k.xt⟩⟩
theorem dss_frz {i : Nat} {sts : List Stmt} {c : C} (h : DSs X tb X' G W sts c) : DSs X tb X' G W sts (.seq (.frz i) c) := PSs.weak h fun Dv σ H ⟨Z, ρ, S, E, m, w, k⟩ => by
  obtain ⟨a, xs, e, ea, w⟩ := w
  have sb : Sub (S.del a) S := Sub.del
  have xt : Ext S H (S.del a) H := Ext.refl.sub sb
  have s2 := m.sto.sub sb
  obtain ⟨v, hv, rv⟩ := m.env.at_ i _ e
  have r : Rep X.K Z (S.del a) H (.lst xs) v := Rep.frz m.sto sb (.ref ea Sto.del_same (FrzL.refl xs)) rv
  cases rv
  refine ⟨Z, _, S.del a, _, ⟨?_, s2, m.tab⟩, w, k.ext xt⟩
  have e2 := (m.env.ext m.sto xt).set i r
  rw [show σ.set i (some (V.ref a)) = σ from List.ext_getElem? fun j => by
    by_cases q : j = i
    · subst q
      rw [List.getElem?_set, hv, if_pos rfl, if_pos (List.getElem?_eq_some_iff.mp hv).1]
    · rw [List.getElem?_set_ne (fun z => q z.symm)]] at e2
  exact e2
theorem ds_pass : DS X tb X' G W (.Pass pos) .done := PS.weak ps_pass fun Dv σ H ⟨Z, ρ, S, E, m, w, k⟩ => k.nx ρ S σ H Ext.refl m w
theorem ds_brk : DS X tb X' G W (.Break pos) .brk := PS.weak ps_break fun Dv σ H ⟨Z, ρ, S, E, m, w, k⟩ => k.bk ρ S σ H Ext.refl m w
theorem ds_cont : DS X tb X' G W (.Continue pos) .cont := PS.weak ps_continue fun Dv σ H ⟨Z, ρ, S, E, m, w, k⟩ => k.ct ρ S σ H Ext.refl m w
theorem ds_ret (h : DE X tb X' G e me) : DS X tb X' G W (.Return (some e) pos) (.ret me) := PS.weak (ps_ret h) fun Dv σ H ⟨Z, ρ, S, E, m, w, k⟩ => ⟨Z, ρ, S, E.rt, m, w, k.rt⟩
theorem ds_retN : DS X tb X' G W (.Return none pos) .retN := PS.weak ps_retN fun Dv σ H ⟨Z, ρ, S, E, m, w, k⟩ => k.rt _ S _ H Ext.refl m.sto m.tab .non w
theorem ds_ex (h : DE X tb X' G e me) (hs : swapsWith e none pos.line X.env = pure false) : DS X tb X' G W (.Expr e pos) (.ex me) :=
  PS.weak (ps_expr h hs) fun Dv σ H ⟨Z, ρ, S, E, m, w, k⟩ => ⟨Z, ρ, S, _, m, w, fun d S1 v H1 x1 s1 t1 r1 w1 => k.nx ρ S1 σ H1 x1 (m.go x1 s1 t1) w1⟩
theorem ds_if {as bs : List Stmt} (hc : DT X tb X' G c mc) (ha : DSs X tb X' G W as ca) (hb : DSs X tb X' G W bs cb) : DS X tb X' G W (.If c as bs pos) (.ite mc ca cb) :=
  PS.weak (ps_if hc ha hb) fun Dv σ H ⟨Z, ρ, S, E, m, w, k⟩ => ⟨Z, ρ, S, _, m, w, fun t S1 H1 x1 s1 t1 w1 => by
    cases t with
    | true => exact ⟨Z, ρ, S1, E, m.go x1 s1 t1, w1, k.ext x1⟩
    | false => exact ⟨Z, ρ, S1, E, m.go x1 s1 t1, w1, k.ext x1⟩⟩
theorem asg_core {K : PySem.W.Frag} {W : XW} {t : TT'} {σ : L2.St} {H : Hp} {Dv : Ends} (h : tDS K tb W (wC X' G (.asg t me)) Dv σ H) : tAsg (tD K tb (wE X' G me)) (gOf K t) Dv σ H := by
  obtain ⟨Z, ρ, S, E, m, w, k⟩ := h
  exact ⟨Z, ρ, S, _, m, w, fun d S1 v H1 x1 s1 t1 r1 w1 => gOf_sem (m.go x1 s1 t1).env r1 w1 fun ρ' σ' e' _ w' => k.nx ρ' S1 σ' H1 x1 ⟨e', s1, t1⟩ w'⟩
theorem ds_asg {tg : Expr} {t : TT'} (he : DE X tb X' G e me) (hg : DG X tg t) (hs : swapsWithSole [tg] e pos.line X.env = pure false) (hw : swappedStores [tg] e X.env = pure none)
    (h1 : (assignEach [tg] X.env).map (·.2) = [assign tg X.env]) : DS X tb X' G W (.Assign [tg] e pos) (.asg t me) := PS.weak (ps_asg he hg hs hw h1) fun Dv σ H h => asg_core h
theorem ds_set {i : Nat} {x : Str} {pos' : Pos} (hN : X.N.Nodup) (hi : X.N[i]? = some x) (hx : Loc X.env.scope x) (he : DE X tb X' G e me) (hs : swapsWith e (some (.Name x pos')) pos.line X.env = pure false) (hf : X.fn x = true ∨ X.env.scope.names.lookup x = some .local) :
    DS X tb X' G W (.Assign [.Name x pos'] e pos) (.asg (.n i) me) := PS.weak (ps_set hN hi hx he hs hf) fun Dv σ H h => asg_core h
/-- name = [..] where the model stores it on its own road -/
theorem ds_setLc {mu : Bool} {i : Nat} {y : Str} {py : Pos} {elt tg iter : Expr} {ifs : List Expr} {scope : Scope} {own : List (Str × Nat)} {spos : Pos} {t : TT'} {mi : M} (hc : X.calm = true) (hN : X.N.Nodup) (hy : X.N[i]? = some y) (hyl : X.env.scope.names.lookup y = some .local)
    (hsw : swapsWith (.ListComp elt [⟨tg, iter, ifs, 0⟩] scope pos) (some (.Name y py)) spos.line X.env = pure true) (hi : DI X tb X' G tg iter mi) (ok : BlkOk X.N X.env.scope scope own)
    (hg : ∀ (s : Shared) (H : Hp) (C : Addr) (cl : List (Str × Addr)) (fp : List Addr), DG (X.blk s H scope (compEnvC scope cl C X.env) fp) tg t) (hsl : ∀ i ∈ slots t, i ∈ own.map (·.2))
    (ht : ∀ (s : Shared) (H : Hp) (C : Addr) (cl : List (Str × Addr)) (fp : List Addr), PTs (X.blk s H scope (compEnvC scope cl C X.env) fp) ifs (tDT X.K tb (wT X' G mc)))
    (he : ∀ (s : Shared) (H : Hp) (C : Addr) (cl : List (Str × Addr)) (fp : List Addr), DE (X.blk s H scope (compEnvC scope cl C X.env) fp) tb X' G elt me) (hs : ∀ x, foldedSetIterable iter X.env x = pure x) :
    DS X tb X' G W (.Assign [.Name y py] (.ListComp elt [⟨tg, iter, ifs, 0⟩] scope pos) spos) (.asg (.n i) (.lc mu (own.map (·.2)) t me mi mc)) := by
  have hg' : ∀ (s : Shared) (H : Hp) (C : Addr) (cl : List (Str × Addr)) (fp : List Addr), PG (X.blk s H scope (compEnvC scope cl C X.env) fp) tg (gOf X.K t) := hg
  have he' : ∀ (s : Shared) (H : Hp) (C : Addr) (cl : List (Str × Addr)) (fp : List Addr), PE (X.blk s H scope (compEnvC scope cl C X.env) fp) elt (tD X.K tb (wE X' G me)) := he
  exact PS.weak (ps_setLc hc hN hy hyl hsw hi ok hg' ht he' hs) fun Dv σ H h => lc_read hsl (asg_core (t := .n i) h)
theorem ds_swap {i j : Nat} {x y : Str} {px py pt : Pos} {kt k2 pt2} (hc : X.calm = true) (hN : X.N.Nodup) (hi : X.N[i]? = some x) (hj : X.N[j]? = some y) (hij : i ≠ j)
    (hx : X.env.scope.names.lookup x = some .local) (hy : X.env.scope.names.lookup y = some .local) (ha : DE X tb X' G a ma) (hb : DE X tb X' G b mb)
    (h1 : starEach [a, b] X.env = (false, eval a X.env) :: starEach [b] X.env) (h2 : starEach [b] X.env = (false, eval b X.env) :: starEach [] X.env)
    (hw : swappedStores [.Tuple [.Name x px, .Name y py] kt pt] (.Tuple [a, b] k2 pt2) X.env = pure (some [x, y])) :
    DS X tb X' G W (.Assign [.Tuple [.Name x px, .Name y py] kt pt] (.Tuple [a, b] k2 pt2) pos) (.swap i j ma mb) :=
  PS.weak (ps_par hc hN hi hj hij hx hy (pa_cons ha (pa_cons hb pa_nil h2) h1) hw rfl) fun Dv σ H ⟨Z, ρ, S, E, m, w, k⟩ =>
    ⟨Z, ρ, S, _, m, w, fun d S1 v H1 x1 s1 t1 r1 w1 => ⟨Z, ρ, S1, _, m.go x1 s1 t1, w1, fun d2 S2 v2 H2 x2 s2 t2 r2 w2 =>
      ⟨v, v2, rfl, k.nx _ S2 _ H2 (x1.trans x2) ⟨(((m.go x1 s1 t1).env.ext s1 x2).set i (r1.ext s1 x2)).set j r2, s2, t2⟩ w2⟩⟩⟩
theorem ds_swap3 {i j l : Nat} {x y z : Str} {px py pz pt : Pos} {kt k2 pt2} (hc : X.calm = true) (hN : X.N.Nodup) (hi : X.N[i]? = some x) (hj : X.N[j]? = some y) (hl : X.N[l]? = some z) (hij : i ≠ j) (hil : i ≠ l) (hjl : j ≠ l)
    (hx : X.env.scope.names.lookup x = some .local) (hy : X.env.scope.names.lookup y = some .local) (hz : X.env.scope.names.lookup z = some .local) (ha : DE X tb X' G a ma) (hb : DE X tb X' G b mb) (hcc : DE X tb X' G c mc)
    (h1 : starEach [a, b, c] X.env = (false, eval a X.env) :: starEach [b, c] X.env) (h2 : starEach [b, c] X.env = (false, eval b X.env) :: starEach [c] X.env) (h3 : starEach [c] X.env = (false, eval c X.env) :: starEach [] X.env)
    (hw : swappedStores [.Tuple [.Name x px, .Name y py, .Name z pz] kt pt] (.Tuple [a, b, c] k2 pt2) X.env = pure (some [x, y, z])) :
    DS X tb X' G W (.Assign [.Tuple [.Name x px, .Name y py, .Name z pz] kt pt] (.Tuple [a, b, c] k2 pt2) pos) (.swap3 i j l ma mb mc) :=
  PS.weak (ps_par3 hc hN hi hj hl hij hil hjl hx hy hz (pa_cons ha (pa_cons hb (pa_cons hcc pa_nil h3) h2) h1) hw rfl) fun Dv σ H ⟨Z, ρ, S, E, m, w, k⟩ =>
    ⟨Z, ρ, S, _, m, w, fun d S1 v H1 x1 s1 t1 r1 w1 => ⟨Z, ρ, S1, _, m.go x1 s1 t1, w1, fun d2 S2 v2 H2 x2 s2 t2 r2 w2 => ⟨Z, ρ, S2, _, (m.go x1 s1 t1).go x2 s2 t2, w2, fun d3 S3 v3 H3 x3 s3 t3 r3 w3 =>
      ⟨v, v2, v3, rfl, k.nx _ S3 _ H3 ((x1.trans x2).trans x3) ⟨((((((m.go x1 s1 t1).go x2 s2 t2).env.ext s2 x3).set i ((r1.ext s1 x2).ext s2 x3)).set j (r2.ext s2 x3)).set l r3), s3, t3⟩ w3⟩⟩⟩⟩
theorem ds_augv (hp : PyRoom X) {i : Nat} {x : Str} {o : BO} {pos' : Pos} (hN : X.N.Nodup) (hi : X.N[i]? = some x) (hx : Loc X.env.scope x) (he : DE X tb X' G e me) (hf : X.fn x = true ∨ X.env.scope.names.lookup x = some .local) :
    DS X tb X' G W (.AugAssign (.Name x pos') o.op e pos) (.augv i o me) := by
  obtain ⟨r, hr, hsm⟩ := aug_sem (X := X) (tb := tb) hp o
  exact PS.weak (ps_aug hN hi hx he hr hf) fun Dv σ H ⟨Z, ρ, S, E, m, ⟨d, hd, w⟩, k⟩ => by
    obtain ⟨v, hv, rv⟩ := m.env.at_ i d hd
    exact ⟨v, hv, Z, ρ, S, _, m, w, fun d1 S1 v1 H1 x1 s1 t1 r1 w1 => hsm Z d d1 v v1 S1 H1 (fun z S2 => E.nx (ρ.set i (some z)) S2) _ s1 t1 (rv.ext m.sto x1) r1 w1 fun d2 S2 v2 H2 x2 s2 t2 r2 w2 =>
      k.nx _ S2 _ H2 (x1.trans x2) ⟨(((m.go x1 s1 t1).env.ext s1 x2).set i r2), s2, t2⟩ w2⟩
theorem dAug_mono {o : BO} {x y : D} {P P' : D → Prop} (f : ∀ z, P z → P' z) (h : dAug o x y P) : dAug o x y P' := by
  cases o <;> cases x <;> cases y <;> first | exact h.elim | exact f _ h | exact ⟨h.1, f _ h.2⟩
theorem dIx_mono {S : Sto} {x y : D} {P P' : D → Prop} (f : ∀ z, P z → P' z) (h : dIx S x y P) : dIx S x y P' := by
  cases x <;> cases y <;> first
    | exact h.elim
    | exact (let ⟨d, e, q⟩ := h; ⟨d, e, f _ q⟩)
    | exact (let ⟨xs, d, e0, e, q⟩ := h; ⟨xs, d, e0, e, f _ q⟩)
theorem ds_augs (hp : PyRoom X) {o : BO} {tpos : Pos} (ha : DE X tb X' G a ma) (hb : DE X tb X' G b mb) (he : DE X tb X' G e me)
    (hst : ∀ ov iv new, augStore b ov iv new = (do holding [new, ov, iv] (setItem ov iv new); release [new, ov, iv] []; pure .next)) : DS X tb X' G W (.AugAssign (.Subscript a b tpos) o.op e pos) (.augs ma mb o me) := by
  obtain ⟨r, hr, hsm⟩ := aug_sem (X := X) (tb := tb) hp o
  obtain ⟨rg, hg, hgm⟩ := pget_sem (X := X) (tb := tb)
  obtain ⟨rs, hs, hsem⟩ := set_sem (X := X) (tb := tb)
  exact PS.weak (ps_augS ha hb hg he hr hs hst) fun Dv σ H ⟨Z, ρ, S, E, m, w, k⟩ =>
    ⟨Z, ρ, S, _, m, w, fun d1 S1 v1 H1 x1 s1 t1 r1 w1 => ⟨Z, ρ, S1, _, m.go x1 s1 t1, w1, fun d2 S2 v2 H2 x2 s2 t2 r2 ⟨w2a, w2⟩ =>
      hgm Z d1 d2 v1 v2 S2 H2 (fun old S3 => S3 = S2 ∧ wE X' G me ρ S2 fun z S3 => dAug o old z fun new => dSet d1 d2 new S3 fun S4 => E.nx ρ S4) _ s2 t2 (r1.ext s1 x2) r2 (dIx_mono (fun z h => ⟨rfl, h⟩) w2)
        (fun d3 S3 v3 H3 x3 s3 t3 r3 ⟨es, w3⟩ => by
          subst es
          exact ⟨Z, ρ, S3, _, (m.go x1 s1 t1).go (x2.trans x3) s3 t3, w3, fun d4 S4 v4 H4 x4 s4 t4 r4 w4 =>
            hsm Z d3 d4 v3 v4 S4 H4 (fun new S5 => S5 = S4 ∧ dSet d1 d2 new S4 fun S6 => E.nx ρ S6) _ s4 t4 (r3.ext s3 x4) r4 (dAug_mono (fun z h => ⟨rfl, h⟩) w4) fun d5 S5 v5 H5 x5 s5 t5 r5 ⟨es, w5⟩ => by
              subst es
              exact hsem Z d1 d2 d5 v1 v2 v5 S5 H5 (fun S6 => E.nx ρ S6) _ s5 t5 ((r1.ext s1 x2).ext s2 ((x3.trans x4).trans x5)) (r2.ext s2 ((x3.trans x4).trans x5)) r5 w5 fun S6 H6 x6 s6 t6 w6 =>
                k.nx ρ S6 σ H6 ((((x1.trans x2).trans (x3.trans x4)).trans x5).trans x6) ((m.go x1 s1 t1).go ((((x2.trans x3).trans x4).trans x5).trans x6) s6 t6) w6⟩)
        (by cases d1 <;> first | exact w2a.elim | exact ⟨_, rfl⟩)⟩⟩
theorem ds_sets {spos : Pos} (ha : DE X tb X' G a ma) (hb : DE X tb X' G b mb) (he : DE X tb X' G e me) (hs1 : swapsWithSole [.Subscript a b spos] e pos.line X.env = pure false) (hw : swappedStores [.Subscript a b spos] e X.env = pure none)
    (hasg : ∀ v, assign (.Subscript a b spos) X.env v = (do
      let ov ← holding [v] (eval a X.env)
      let iv ← holding [v, ov] (eval b X.env)
      standAt spos
      holding [v, ov, iv] (setItem ov iv v)
      release [v, ov, iv] [])) : DS X tb X' G W (.Assign [.Subscript a b spos] e pos) (.sets ma mb me) := by
  obtain ⟨rs, hs, hsem⟩ := set_sem (X := X) (tb := tb)
  exact PS.weak (ps_asg he (pg_sub ha hb hs hasg) hs1 hw rfl) fun Dv σ H ⟨Z, ρ, S, E, m, w, k⟩ =>
    ⟨Z, ρ, S, _, m, w, fun d1 S1 v1 H1 x1 s1 t1 r1 w1 => ⟨Z, ρ, S1, _, m.go x1 s1 t1, w1, fun d2 S2 v2 H2 x2 s2 t2 r2 w2 => ⟨Z, ρ, S2, _, (m.go x1 s1 t1).go x2 s2 t2, w2, fun d3 S3 v3 H3 x3 s3 t3 r3 w3 =>
      hsem Z d2 d3 d1 v2 v3 v1 S3 H3 (fun S4 => E.nx ρ S4) _ s3 t3 (r2.ext s2 x3) r3 ((r1.ext s1 x2).ext s2 x3) w3 fun S4 H4 x4 s4 t4 w4 =>
        k.nx ρ S4 σ H4 (((x1.trans x2).trans x3).trans x4) (((m.go x1 s1 t1).go (x2.trans x3) s3 t3).go x4 s4 t4) w4⟩⟩⟩
/-! ### loops -/
theorem ds_while {body : List Stmt} (hp : PassesOwn (model X.prog X.w) X.A X.env X.xe) (hc : DT X tb X' G c mc) (hb : DSs X tb X' G W body ca) : DS X tb X' G W (.While c body [] pos) (.whl mc ca) :=
  PS.weak (ps_while hp hc hb) fun Dv σ H ⟨Z, ρ, S, E, m, ⟨n, w⟩, k⟩ => by
    let P : Nat → L2.St → Hp → Prop := fun n σ' H' => ∃ ρ' S', Ext S H S' H' ∧ Sim X.K tb Z ρ' S' σ' H' ∧ whileN (fun ρ S k => wT X' G mc ρ S k) (fun E ρ S => wC X' G ca E ρ S) E n ρ' S'
    refine ⟨P, ⟨n, ρ, S, Ext.refl, m, w⟩, fun n σ1 H1 ⟨ρ1, S1, x1, m1, w1⟩ => ?_⟩
    cases n with
    | zero => exact w1.elim
    | succ n =>
      refine ⟨Z, ρ1, S1, _, m1, w1, fun b S2 H2 x2 s2 t2 w2 => ?_⟩
      cases b with
      | false => exact k.nx ρ1 S2 σ1 H2 (x1.trans x2) (m1.go x2 s2 t2) w2
      | true =>
        have again : ∀ ρ' S' σ' H', Ext S2 H2 S' H' → Sim X.K tb Z ρ' S' σ' H' → whileN (fun ρ S k => wT X' G mc ρ S k) (fun E ρ S => wC X' G ca E ρ S) E n ρ' S' → P n σ' H' := fun ρ' S' σ' H' x' m' q => ⟨ρ', S', (x1.trans x2).trans x', m', q⟩
        exact ⟨P n, fun σ' H' q => ⟨n, Nat.lt_succ_self n, q⟩, Z, ρ1, S2, _, m1.go x2 s2 t2, w2, ⟨again, (k.ext (x1.trans x2)).rt, (k.ext (x1.trans x2)).nx, again, (k.ext (x1.trans x2)).xt⟩⟩
theorem ds_for {tg iter : Expr} {body : List Stmt} {t : TT'} {mi : M} (hp : PassesOwn (model X.prog X.w) X.A X.env X.xe) (hc : X.calm = true) (hi : DI X tb X' G tg iter mi) (hg : DG X tg t) (hb : DSs X tb X' G W body ca) (hs : ∀ x, foldedSetIterable iter X.env x = pure x) :
    DS X tb X' G W (.For tg iter body [] pos) (.for t mi ca) :=
  PS.weak (ps_for hp hc hi hg hb hs) fun Dv σ H ⟨Z, ρ, S, E, m, w, k⟩ => ⟨Z, ρ, S, _, m, w, fun xs stay S0 J H0 x0 s0 t0 itok w0 => by
    have itok := itok Z (fun _ z => .inl z)
    let P : Nat → Nat → L2.St → Hp → Prop := fun i n σ' H' => n = xs.length - i ∧ i ≤ xs.length ∧ ∃ ρ' S', Ext S0 H0 S' H' ∧ Sim X.K tb Z ρ' S' σ' H' ∧ forL (fun d ρ k => bindT t d ρ k) (fun E ρ S => wC X' G ca E ρ S) stay E (xs.drop i) ρ' S'
    refine ⟨P, ⟨xs.length, rfl, Nat.zero_le _, ρ, S0, Ext.refl, m.go x0 s0 t0, w0⟩, fun i n σ1 H1 ⟨en, hi', ρ1, S1, x1, m1, w1⟩ => ?_⟩
    subst en
    have st' : stay S1 := by
      cases h : xs.drop i with
      | nil => rw [h] at w1; exact w1.1
      | cons _ _ => rw [h] at w1; exact w1.1
    have ok' := itok i S1 H1 x1 m1.sto m1.tab st'
    by_cases hlt : i < xs.length
    · obtain ⟨d, hd, hdrop⟩ := getElem?_range' hlt
      rw [hdrop] at w1
      obtain ⟨hgo, hyld⟩ := ok'.1 d hd
      let P' : L2.St → Hp → Prop := fun σ' H' => i + 1 ≤ xs.length ∧ ∃ ρ' S', Ext S0 H0 S' H' ∧ Sim X.K tb Z ρ' S' σ' H' ∧ forL (fun d ρ k => bindT t d ρ k) (fun E ρ S => wC X' G ca E ρ S) stay E (xs.drop (i + 1)) ρ' S'
      refine .inr ⟨hgo, P', fun σ' H' q => ⟨xs.length - (i + 1), by omega, rfl, q⟩, fun x H2 hy => ?_⟩
      obtain ⟨x2, s2, t2, r2⟩ := hyld x H2 hy
      refine gOf_sem (m1.env.ext m1.sto x2) r2 w1.2 fun ρ3 σ3 e3 _ w3 => ?_
      have again : ∀ ρ' S' σ' H', Ext S1 H2 S' H' → Sim X.K tb Z ρ' S' σ' H' → forL (fun d ρ k => bindT t d ρ k) (fun E ρ S => wC X' G ca E ρ S) stay E (xs.drop (i + 1)) ρ' S' → P' σ' H' := fun ρ' S' σ' H' x' m' q => ⟨hlt, ρ', S', (x1.trans x2).trans x', m', q⟩
      have k2 := k.ext (x0.trans (x1.trans x2))
      exact ⟨Z, ρ3, S1, _, ⟨e3, s2, t2⟩, w3, ⟨again, k2.rt, k2.nx, again, k2.xt⟩⟩
    · have hn : xs.drop i = [] := List.drop_eq_nil_of_le (Nat.le_of_not_lt hlt)
      rw [hn] at w1
      exact .inl ⟨ok'.2 (Nat.le_of_not_lt hlt), k.nx ρ1 S1 σ1 H1 (x0.trans x1) m1 w1.2⟩⟩
/-! ### things raised -/
/-- the reading of an expression whose calls may raise -/
def tDX (K : PySem.W.Frag) (tb : List Addr) (W : XW) (w : Rho → Sto → (D → Sto → Prop) → Prop) : TE := fun σ H Qv => ∃ Z ρ S Q, Sim K tb Z ρ S σ H ∧ w ρ S Q ∧ Aft K tb Z S H Q Qv ∧
  ∀ c S' H', c < W.c.n → Ext S H S' H' → SRep K Z S' H' → Tabs tb H' → Q (.exc c) S' → W.w (W.c.at_ c) none σ H'
abbrev DX (X : Cx) (tb : List Addr) (X' : Mod') (G : Fns) (W : XW) (e : Expr) (m : M) : Prop := PE X e (tDX X.K tb W (wX X' G m))
theorem isX_rep {K : PySem.W.Frag} {Z : Addr → Prop} {S : Sto} {H : Hp} {d : D} {v : V} {k : Nat → Prop} {p : Prop} (r : Rep K Z S H d v) (h : isX d k p) : p := by
  cases r <;> exact h
theorem dx_pl (h : DE X tb X' G e me) : DX X tb X' G W e (.pl me) := PE.weak h fun σ H Qv ⟨Z, ρ, S, Q, m, w, k, _⟩ => ⟨Z, ρ, S, Q, m, w, k⟩
theorem dx_ite (hc : DT X tb X' G c mc) (ha : DX X tb X' G W a ma) (hb : DX X tb X' G W b mb) : DX X tb X' G W (.IfExp c a b pos) (.ite mc ma mb) :=
  PE.weak (pe_ifExp hc ha hb) fun σ H Qv ⟨Z, ρ, S, Q, m, w, k, kx⟩ => ⟨Z, ρ, S, _, m, w, fun c S1 H1 x1 s1 t1 w1 => by
    cases c with
    | true => exact ⟨Z, ρ, S1, Q, m.go x1 s1 t1, w1, k.ext x1, fun c S' H' hc x' s' t' q => kx c S' H' hc (x1.trans x') s' t' q⟩
    | false => exact ⟨Z, ρ, S1, Q, m.go x1 s1 t1, w1, k.ext x1, fun c S' H' hc x' s' t' q => kx c S' H' hc (x1.trans x') s' t' q⟩⟩
theorem dx_call {lev f : Nat} {fa : Addr} {fd : FuncData} {ps : List Str} {x : Str} {p : Pos} {es : List Expr} (tk : Takes X W.w) (F : FnOk X.prog X.w X.K X.mg X.base (L2.CX X.prog X.w) lev fa fd ps (spD X.K tb W.c G (f + 1000))) (hr : Room lev X.A) (hg : Gl X x) (hm : X.mg x = some (.ref fa)) (hk : PySem.W.keepIn X.K (.ref fa) = true)
    (hb : Binds X.K fd ps []) (ha : DA X tb X' G (a :: es) ma) (hdb : (x == ("__debug__" : Str)) = false) (he : starEach (a :: es) X.env = (false, eval a X.env) :: starEach es X.env) (hpl : (backTo pos (starEach es X.env)).any (·.1) = false) :
    DX X tb X' G W (.Call (.Name x p) (a :: es) [] pos) (.callX f ma) :=
  PE.weak (pe_callS F hr hg hm hk hb (passAt tk) ha hdb he hpl) fun σ H Qv ⟨Z, ρ, S, Q, m, w, k, kx⟩ =>
    ⟨Z, ρ, S, _, m, w, fun ds S1 vs H1 x1 s1 t1 r1 w1 => ⟨Z, ds, S1, Q, r1, s1, t1, w1, k.ext x1, fun _ c S' H' hc x' s' t' q => kx c S' H' hc (x1.trans x') s' t' q⟩⟩
theorem run_fnkS {CX : CXT} {pins : List (Addr × Obj)} {σ : L2.St} {H : Hp} {s : Shared} {Q : VK} {us ws : List Value} {vs zs : List V} {k : Nat} {f : Addr} {fd : FuncData} {ps ks : List Str} {sp : Sp} {gv : List V → List V → List V} {gu : List Value → List Value → List Value} {E : XK} (F : FnOk X.prog X.w X.K X.mg X.base CX k f fd ps sp) (hr : Room k X.A) (hb : KBinds X.K fd ps ks gu gv) (hx : PassesAt CX X σ E)
    (I : Inv X pins σ H s) (r : Vals vs us) (rz : Vals zs ws) (h : sp (gv vs zs) H Q E) : wpAny (model X.prog X.w) X.A (call (.ref f) us (ks.zip ws)) (EP X pins σ Q) X.xe s := by
  have r2 := hb.rel r rz
  have hl : (gu us ws).length = ps.length := by rw [← r2.length]; exact F.len _ _ _ _ h
  refine wpAny_call (codeAny_mono (F.run X.A X.stack s H ⟨us, ks.zip ws⟩ (gu us ws) (gv vs zs) Q E hr I.env0 (hb.to s us ws I.kIn hl) r2 h) fun r s' hq => ?_)
  cases r with
  | error e => exact hx pins H s e s' I hq
  | ok fl =>
    cases fl with
    | ret u => exact I.after hq
    | next => exact False.elim hq
    | brk => exact False.elim hq
    | cont => exact False.elim hq
theorem dx_callK {lev f kp n m : Nat} {pr : List Nat} {fa : Addr} {fd : FuncData} {ps ks : List Str} {x : Str} {p : Pos} {es : List Expr} {kws : List Keyword} {mk : M} (tk : Takes X W.w) (F : FnOk X.prog X.w X.K X.mg X.base (L2.CX X.prog X.w) lev fa fd ps (spD X.K tb W.c G (f + 1000))) (hr : Room lev X.A) (hg : Gl X x) (hm : X.mg x = some (.ref fa)) (hk : PySem.W.keepIn X.K (.ref fa) = true)
    (hb : KBinds X.K fd ps ks (arr n m pr) (arr n m pr)) (hkp : X'.kps[kp]? = some (n, m, pr)) (ha : DA X tb X' G (a :: es) ma) (hkw : DK X tb X' G kws mk) (hall : (backToKw pos (keywordEach kws X.env)).all (·.1.isSome) = true) (hks : (backToKw pos (keywordEach kws X.env)).filterMap (·.1) = ks)
    (hdb : (x == ("__debug__" : Str)) = false) (he : starEach (a :: es) X.env = (false, eval a X.env) :: starEach es X.env)
    (hpl : ((backTo pos (starEach (a :: es) X.env)).any (·.1) || (backToKw pos (keywordEach kws X.env)).any (·.1.isNone)) = false) :
    DX X tb X' G W (.Call (.Name x p) (a :: es) kws pos) (.callXK f ma mk kp) := by
  refine ⟨fun pins s σ H Qv I ⟨Z, ρ, S, Q, m, w, k, kx⟩ => ?_⟩
  refine wpAny_Call_Name_kw (ld_glob I hg hm ?_ hdb)
  have go : tDL X.K tb (wL X' G ma) σ H fun vs H1 => tDL X.K tb (wL X' G mk) σ H1 fun zs H2 => spD X.K tb W.c G (f + 1000) (arr n _ pr vs zs) H2 Qv (WE W.w σ) :=
    ⟨Z, ρ, S, _, m, w, fun ds S1 vs H1 x1 s1 t1 r1 w1 => ⟨Z, ρ, S1, _, m.go x1 s1 t1, w1, fun es S2 zs H2 x2 s2 t2 r2 w2 => by
      obtain ⟨n', m', p', e, w2⟩ := w2
      rw [hkp] at e; cases e
      exact ⟨Z, _, S2, Q, (r1.ext s1 x2).arr r2 _ _ _, s2, t2, w2, k.ext (x1.trans x2), fun _ c S' H' hc x' s' t' q => kx c S' H' hc ((x1.trans x2).trans x') s' t' q⟩⟩⟩
  refine PySem.W.callWith_KW (h₀ := X.base) I.ok.mod.kin hk hall (thn (ha.run pos pins s σ H _ I go) fun us s1 ⟨vs, H1, I1, r, q⟩ => ?_) hpl he
  refine thn (hkw.run pos pins s1 σ H1 _ I1 q) fun ws s2 ⟨zs, H2, I2, rz, q2⟩ => ⟨I2.kIn, ?_⟩
  rw [hks]
  exact run_fnkS F hr hb (passAt tk σ) I2 r rz q2
theorem dx_callK0 {lev f kp n m : Nat} {pr : List Nat} {fa : Addr} {fd : FuncData} {ps ks : List Str} {x : Str} {p : Pos} {kws : List Keyword} {mk : M} (tk : Takes X W.w) (F : FnOk X.prog X.w X.K X.mg X.base (L2.CX X.prog X.w) lev fa fd ps (spD X.K tb W.c G (f + 1000))) (hr : Room lev X.A) (hg : Gl X x) (hm : X.mg x = some (.ref fa)) (hk : PySem.W.keepIn X.K (.ref fa) = true)
    (hb : KBinds X.K fd ps ks (arr n m pr) (arr n m pr)) (hkp : X'.kps[kp]? = some (n, m, pr)) (hkw : DK X tb X' G kws mk) (hall : (backToKw pos (keywordEach kws X.env)).all (·.1.isSome) = true) (hks : (backToKw pos (keywordEach kws X.env)).filterMap (·.1) = ks)
    (hdb : (x == ("__debug__" : Str)) = false)
    (hpl : ((backTo pos (starEach [] X.env)).any (·.1) || (backToKw pos (keywordEach kws X.env)).any (·.1.isNone)) = false) :
    DX X tb X' G W (.Call (.Name x p) [] kws pos) (.callXK f .nil mk kp) := by
  refine ⟨fun pins s σ H Qv I ⟨Z, ρ, S, Q, m, w, k, kx⟩ => ?_⟩
  refine wpAny_Call_Name_kw (ld_glob I hg hm ?_ hdb)
  refine PySem.W.callWith_KW0 (h₀ := X.base) I.ok.mod.kin hk hall ?_ hpl
  have go : tDL X.K tb (wL X' G mk) σ H fun zs H1 => spD X.K tb W.c G (f + 1000) (arr n _ pr [] zs) H1 Qv (WE W.w σ) :=
    ⟨Z, ρ, S, _, m, w, fun es S2 zs H2 x2 s2 t2 r2 w2 => by
      obtain ⟨n', m', p', e, w2⟩ := w2
      rw [hkp] at e; cases e
      exact ⟨Z, _, S2, Q, (RepL.nil).arr r2 _ _ _, s2, t2, w2, k.ext x2, fun _ c S' H' hc x' s' t' q => kx c S' H' hc (x2.trans x') s' t' q⟩⟩
  refine thn (hkw.run pos pins s σ H _ I go) fun ws s2 ⟨zs, H2, I2, rz, q2⟩ => ⟨I2.kIn, ?_⟩
  rw [hks]
  exact run_fnkS (us := []) (vs := []) F hr hb (passAt tk σ) I2 .nil rz q2
theorem ds_xret (h : DX X tb X' G W e me) : DS X tb X' G W (.Return (some e) pos) (.xret me) := PS.weak (ps_ret h) fun Dv σ H ⟨Z, ρ, S, E, m, w, k⟩ =>
  ⟨Z, ρ, S, _, m, w, fun d S1 v H1 x1 s1 t1 r1 w1 => k.rt d S1 v H1 x1 s1 t1 r1 (isX_rep r1 w1), fun c S' H' hc x' s' t' q => k.xt c ρ S' σ H' hc x' (m.go x' s' t') q⟩
theorem ds_xex (h : DX X tb X' G W e me) (hs : swapsWith e none pos.line X.env = pure false) : DS X tb X' G W (.Expr e pos) (.xex me) :=
  PS.weak (ps_expr h hs) fun Dv σ H ⟨Z, ρ, S, E, m, w, k⟩ => ⟨Z, ρ, S, _, m, w, fun d S1 v H1 x1 s1 t1 r1 w1 => k.nx ρ S1 σ H1 x1 (m.go x1 s1 t1) (isX_rep r1 w1), fun c S' H' hc x' s' t' q => k.xt c ρ S' σ H' hc x' (m.go x' s' t') q⟩
theorem ds_xasg {tg : Expr} {t : TT'} (he : DX X tb X' G W e me) (hg : DG X tg t) (hs : swapsWithSole [tg] e pos.line X.env = pure false) (hw : swappedStores [tg] e X.env = pure none)
    (h1 : (assignEach [tg] X.env).map (·.2) = [assign tg X.env]) : DS X tb X' G W (.Assign [tg] e pos) (.xasg t me) := PS.weak (ps_asg he hg hs hw h1) fun Dv σ H ⟨Z, ρ, S, E, m, w, k⟩ =>
  ⟨Z, ρ, S, _, m, w, fun d S1 v H1 x1 s1 t1 r1 w1 => gOf_sem (m.go x1 s1 t1).env r1 (isX_rep r1 w1) fun ρ' σ' e' _ w' => k.nx ρ' S1 σ' H1 x1 ⟨e', s1, t1⟩ w', fun c S' H' hc x' s' t' q => k.xt c ρ S' σ H' hc x' (m.go x' s' t') q⟩
/-- X() of a class of one's own without a def of its own -/
theorem pmk_own0 {C : Addr} {bmB : List Value} {B newId initId : String} {x : Str} {p : Pos} (F : ExcBaseFacts B newId initId bmB) (q : PySem.W.excIn X.K C bmB newId = true) (gC : X.mg x = some (.ref C)) (kC : PySem.W.keepIn X.K (.ref C) = true) (r : Raises X (.ref C)) (hg : Gl X x)
    (hdb : (x == ("__debug__" : Str)) = false) : PMk X (.Call (.Name x p) [] [] pos) (fun _ H Q => Q (.ref C) none H) := by
  intro pins s σ H Q I h
  refine wpAny_Call_Name_kw (ld_glob I hg gC ?_ hdb)
  refine PySem.W.callWith_K0 I.kIn kC ?_
  show wpAny _ _ (call (.ref C) []) _ _ _
  obtain ⟨bm, N, nm, qn, bs, hdct, sn, sub, ab, col, dd, k0, k1, k2, k3, k5, mN, hC, hN, hni, T⟩ := exc_obj I.kIn q
  refine wpAny_call_exc_subT F T hC hN hni (fun h' e hm => ?_) (by show 0 ≤ sizeLine; omega)
  exact mk_of I hm r h (I.hok.gone hm.new)
theorem ds_rai {cn : Nat} {C : Addr} {bmB : List Value} {B newId initId : String} {x : Str} {p pos' : Pos} (hc : X.calm = true) (tk : Takes X W.w) (F : ExcBaseFacts B newId initId bmB) (q : PySem.W.excIn X.K C bmB newId = true) (gC : X.mg x = some (.ref C)) (kC : PySem.W.keepIn X.K (.ref C) = true) (r : Raises X (.ref C)) (hg : Gl X x)
    (hdb : (x == ("__debug__" : Str)) = false) (hn : cn < W.c.n) (he : W.c.at_ cn = .ref C) : DS X tb X' G W (.Raise (some (.Call (.Name x p) [] [] pos)) none pos') (.rai cn) :=
  PS.weak (ps_raise hc tk (pmk_own0 F q gC kC r hg hdb)) fun Dv σ H ⟨Z, ρ, S, E, m, w, k⟩ => by
    have := k.xt cn ρ S σ H hn Ext.refl m w
    rw [he] at this
    exact this
/-- try: .. except X: .. -/
theorem ds_try {cs : List Nat} {Cv : Value} {x : Str} {body suite : List Stmt} {b₀ : Stmt} {np pos' : Pos} (hs : X.stack = X.env :: X.outer) (hf : X.env.frame = some X.env.locals) (hc : Names X x Cv) (tk : Takes X W.w)
    (hcs : ∀ c, c < W.c.n → PySem.W.exmOne X.K (W.c.at_ c) Cv = some (decide (c ∈ cs)))
    (hb : ∀ (W' : XW) (pn : List (Addr × Obj)) (xe : Value → Shared → Prop), W'.c = W.c → Takes (X.tr pn xe) W'.w → PassesOwn (model X.prog X.w) X.A X.env xe → DSs (X.tr pn xe) tb X' G W' body ca)
    (hsu : ∀ (a : Addr) (pn : List (Addr × Obj)), DSs (X.suite a pn) tb X' G W (b₀ :: suite) cb) : DS X tb X' G W (.Try body [.ExceptHandler (some (.Name x np)) none (b₀ :: suite) pos'] [] [] pos) (.tr ca cs cb) :=
  PS.weak (ps_try_only (tb := fun W' => tDS X.K tb ⟨W', W.c⟩ (wC X' G ca)) (ts := fun _ _ _ => tDS X.K tb W (wC X' G cb)) hs hf hc tk (fun W' pn xe tk' hp => hb ⟨W', W.c⟩ pn xe rfl tk' hp) (fun a oe cls d pn _ _ => hsu a _)) fun Dv σ H ⟨Z, ρ, S, E, m, w, k⟩ =>
    ⟨Z, ρ, S, _, m, w, ⟨k.nx, k.rt, k.bk, k.ct, fun c ρ' S' σ' H' hn x' m' q => by
      refine ⟨_, hcs c hn, fun hy a _ => ?_, fun hno => ?_⟩
      · have q : if c ∈ cs then wC X' G cb E ρ' S' else E.xt c ρ' S' := q
        rw [if_pos (of_decide_eq_true hy)] at q
        exact ⟨Z, ρ', S', E, m', q, k.ext x'⟩
      · have q : if c ∈ cs then wC X' G cb E ρ' S' else E.xt c ρ' S' := q
        rw [if_neg (of_decide_eq_false hno)] at q
        exact k.xt c ρ' S' σ' H' hn x' m' q⟩⟩
end
end DL

set_option Elab.async false
set_option linter.all false
set_option maxRecDepth 100000
set_option maxHeartbeats 4000000
/-! DL6E: enumerate. -/
namespace DL
open PySem PySem.Spec PyProof.Rows L2 RZ
section
variable {prog : Program} {w : World} {A : Around} {E : Value → Shared → Prop} {s : Shared}
theorem enum_endT {e it l : Addr} {i : Nat} {items : Array Value} {old : Value} {Q : Option Value → Shared → Prop} (hh : A.handled = none)
    (he : IsEnum s.heap e it i old) (hit : s.heap.IsTupleIter it l i) (hl : s.heap.IsTuple l items) (hx : items[i]? = none)
    (hQ : ∀ h', Heap.ExtBut it s.heap h' → Q none { s with heap := h' }) : wpAny (model prog w) A (pyNext (.ref e)) Q E s := by
  have hT : s.TypeIs (.ref e) "enumerate" := ⟨_, he, rfl⟩
  unfold pyNext
  refine wpAny_bind (wpAny_attempt (wpAny_callSpecial?_slot (name := Str.ofString "__next__") hT F.slot_enumerate_next
    (wpAny_call_entry F.slot_enumerate_next hT F.entry_enumerate_next ?_ (F.args_enumerate_next_1 _))))
  show wpAny _ _ (field (.ref e) 2 >>= _) _ _ _
  refine wpAny_bind (wpAny_field he rfl (x := .ref it) rfl ?_)
  refine wpAny_bind (wpAny_nextOf_tuple_end hh hit hl hx fun h' x he' hx' => ?_)
  obtain ⟨o, ho, hc⟩ := hx'
  refine wpAny_bind (wpAny_isInstance (T := "StopIteration") (b := true) ⟨o, ho, hc⟩ isSubtype_stop ?_)
  exact wpAny_pure (hQ _ he')
set_option maxHeartbeats 8000000 in
theorem enum_new1 {v : Value} {o : Obj} {H : Heap → Prop} (B : Begins v o H) :
    Meets (Builtin.«enumerate.__new__» ⟨[.type "enumerate", v], []⟩) (fun _ R s => H s.heap ∧
      R (.ok (.ret (.ref (s.heap.push o).objs.size))) { s with heap := (s.heap.push o).push { cls := .type "enumerate", data := .fields #[.none, .bool false, .ref s.heap.objs.size, rawInt 0, .none, .none] } }) :=
  .of_wp fun prog w A R s h => by
    obtain ⟨hp, g, d, tk, os⟩ := s; obtain ⟨h1, h⟩ := h
    have hsub := sub_enumerate
    have q1 : ∀ {A' : Around} {E : Value → Shared → Prop} {Q : Value → Shared → Prop}, Q (.ref hp.objs.size) ⟨hp.push o, g, d, tk, os⟩ → wpAny (model prog w) A' (pyIter v) Q E ⟨hp, g, d, tk, os⟩ :=
      fun q => B.iter prog w _ _ ⟨hp, g, d, tk, os⟩ _ h1 q
    wp_walk using q1
    refine wpAny_stack_any fun st => wpAny_pure ?_
    split
    · rename_i c _ _ _ _ _
      cases (c == Value.type "enumerate")
      · wp_walk using q1
        exact ⟨_, rfl, h⟩
      · wp_walk using q1
        exact ⟨_, rfl, h⟩
    · wp_walk using q1
      exact ⟨_, rfl, h⟩
theorem call_enumT {l : Addr} {items : Array Value} {Q : Value → Shared → Prop} (hL : s.heap.IsTuple l items)
    (h : ∀ h', IsEnum h' (s.heap.objs.size + 1) s.heap.objs.size 0 .none → h'.IsTupleIter s.heap.objs.size l 0 → h'.objs.size = s.heap.objs.size + 2 →
      (∀ b o, s.heap.get? b = some o → h'.get? b = some o) → Q (.ref (s.heap.objs.size + 1)) { s with heap := h' }) :
    wpAny (model prog w) A (call (.type "enumerate") [.ref l]) Q E s := by
  refine callType_new F.called_enumerate (by decide) (F.typeCall_enumerate_1 _) (F.newCall_enumerate_1 _) (fun obj => F.args_object_init_2 obj _) F.entry_enumerate_new
    (enum_new1 (begins_tuple l items)) ⟨hL, ?_⟩
  have hz : (s.heap.push { cls := .type "tuple_iterator", data := .fields #[.ref l, .int 0 0] }).objs.size = s.heap.objs.size + 1 := Heap.size_push ..
  show _ ∧ _
  rw [hz]
  have he : IsEnum ((s.heap.push { cls := .type "tuple_iterator", data := .fields #[.ref l, .int 0 0] }).push
      { cls := .type "enumerate", data := .fields #[.none, .bool false, .ref s.heap.objs.size, rawInt 0, .none, .none] }) (s.heap.objs.size + 1) s.heap.objs.size 0 .none := by
    have := Heap.get?_push_size (s.heap.push { cls := .type "tuple_iterator", data := .fields #[.ref l, .int 0 0] })
      (o := { cls := .type "enumerate", data := .fields #[.none, .bool false, .ref s.heap.objs.size, rawInt 0, .none, .none] }) rfl
    rw [hz] at this; exact this
  refine ⟨⟨_, he, rfl⟩, h _ he ⟨_, Heap.get?_push_of_some _ (Heap.get?_push_size _ rfl), rfl, rfl⟩ (by rw [Heap.size_push, hz]) fun b o x => Heap.get?_push_of_some _ (Heap.get?_push_of_some _ x)⟩
end
/-- the tuple at a, each item in a new pair -/
def IteT (K : PySem.W.Frag) (a : Addr) : It :=
  ⟨fun i H => ∃ (xs : List V) (x : V), SqT K H a xs ∧ xs[i]? = some x, fun i H v H' => ∃ T x, v = .ref T ∧ H T = none ∧ H' = upd H T (.tup [.int (i : Nat), x]) ∧ ∀ xs, SqT K H a xs → xs[i]? = some x, fun i H => ∃ xs : List V, SqT K H a xs ∧ xs.length ≤ i⟩
theorem turn_enumT {P : Program} {w : World} {K : PySem.W.Frag} {elts : List Expr} {kk : Nat} {tpos : Pos} (a e it : Addr) :
    Turn P w K (.Tuple elts kk tpos) (IteT K a) [e, it] e (fun i h => (∃ old, IsEnum h e it ((i : Nat) : Int) old) ∧ h.IsTupleIter it a i ∧ e ≠ it ∧ e ≠ a ∧ a ≠ it) where
  mem := by simp
  obj := fun i h st b hb => by
    obtain ⟨⟨old, he⟩, ⟨o, ho, hc, hd⟩, _⟩ := st
    have e' : b = e ∨ b = it := by simpa using hb
    rcases e' with z | z
    · rw [z]; exact ⟨_, he, fun v q => nomatch q⟩
    · rw [z]; exact ⟨o, ho, fun v q => by rw [hd] at q; cases q⟩
  keep := fun i h h' st k => let ⟨⟨old, he⟩, hi, hne⟩ := st; ⟨⟨old, k e (by simp) _ he⟩, hi.at fun o q => k it (by simp) o q, hne⟩
  item := by
    intro X hP hw hK hc i pins s σ H E I hf st hg
    subst hP hw hK
    obtain ⟨⟨old, he⟩, hit, hne, hea, hai⟩ := st
    obtain ⟨xs, x, hq, hx⟩ := hg
    obtain ⟨its, rv, p, hz⟩ := I.tuple hq
    obtain ⟨u, hu, ru⟩ := rv.get hx
    have hel : e < s.heap.objs.size := Heap.lt_size he
    have hil : it < s.heap.objs.size := by obtain ⟨_, q, _⟩ := hit; exact Heap.lt_size q
    have hlt : i < its.toArray.size := by
      obtain ⟨h, _⟩ := List.getElem?_eq_some_iff.mp hu
      simpa using h
    refine wpAny_pyNext_enum_itemD (Draws.tuple (A := X.A.in1) (show X.A.in1.handled = none from I.ok.hd hc) it a hai its.toArray) he ⟨hit, p⟩ hlt hne (fun z => (List.mem_cons.mp z).elim hne fun z => hea (List.mem_singleton.mp z)) fun x' h' tk hx' ho st' hT hsz hk => ?_
    have hxu : x' = u := by
      have q : its.toArray[i]? = some u := by simpa using hu
      rw [q] at hx'
      exact (Option.some.inj hx').symm
    subst hxu
    obtain ⟨hit', _⟩ := st'
    refine ⟨_, rfl, wpAny_letOwnedTupleGo_enum (s := { s with heap := h', toks := tk + 1 }) ho fun h'' he' sb => ?_⟩
    have hT2 : h''.get? s.heap.objs.size = some { cls := .type "tuple", data := .seq #[.int i tk, x'] } := (sb.2 _ (Nat.ne_of_gt hel)).trans hT
    have new : ObjOk X.prog X.w (upd H s.heap.objs.size (.tup [.int (i : Nat), x])) h'' s.heap.objs.size (.tup [.int (i : Nat), x]) :=
      ⟨by show 2 ≤ sizeLine; decide, [.int i tk, x'], .cons ⟨_, rfl⟩ (.cons ru .nil), ⟨_, hT2, rfl, _, rfl⟩⟩
    have I1 : Inv X pins σ (upd H s.heap.objs.size (.tup [.int (i : Nat), x])) { s with heap := h'', toks := tk + 1 } :=
      I.turnedNew (ch := [e, it]) (fun b ob hb q => (sb.2 b (fun z => hb (by simp [z]))).trans (hk b ob (fun z => hb (by simp [z])) (fun z => hb (by simp [z])) q)) hf (Nat.le_refl _) new
    refine ⟨.ref s.heap.objs.size, _, I1, rfl, ⟨_, x, rfl, I.hok.fresh (Nat.le_refl _), rfl, fun ys hy => by rw [I.tuple_inj hy hq]; exact hx⟩, ⟨⟨x', ?_⟩, hit'.at fun o q => (sb.2 it (Ne.symm hne)).trans q, hne, hea, hai⟩, fun b hb => ?_⟩
    · have e1 : ((i + 1 : Nat) : Int) = (i : Int) + 1 := by omega
      rw [e1]; exact he'
    · have hb' : b < s.heap.objs.size := by
        have e' : b = e ∨ b = it := by simpa using hb
        rcases e' with z | z
        · rw [z]; exact hel
        · rw [z]; exact hil
      rw [upd_ne (Nat.ne_of_lt hb')]
      exact (hf b hb).1
  done := by
    intro X hP hw hK hc i pins s σ H E I hf st hg
    subst hP hw hK
    obtain ⟨⟨old, he⟩, hit, hne, hea, hai⟩ := st
    obtain ⟨xs, hq, hx⟩ := hg
    obtain ⟨its, rv, p, hz⟩ := I.tuple hq
    obtain ⟨f0, f1, f2, f3, f4, f5⟩ := hf it (by simp)
    have hl := rv.length
    exact enum_endT (I.ok.hd hc) he hit p (by simp; omega) fun h' eb => ⟨rfl, I.turned (t' := s.toks) (fun b o hb q => eb b o hb q) f0 f1 f3 f4 f5⟩
  self := fun A i s Q E st h => let ⟨⟨_, he⟩, _⟩ := st; wpAny_pyIter_enum he h
def iEnumA (K : PySem.W.Frag) (ta : TA) : TI := fun σ H R => ta σ H fun vs H1 => ∃ a xs, vs = [.ref a] ∧ ((SqL K H1 a xs ∧ R (Ite K a) H1) ∨ (SqT K H1 a xs ∧ R (IteT K a) H1))
theorem pi_enumA {X : Cx} {e : Expr} {ta : TA} {p pos tpos : Pos} {elts : List Expr} {kk : Nat} (hg : Gl X "enumerate") (hm : X.mg "enumerate" = none) (ha : PA X [e] ta) (hs : starEach [e] X.env = [(false, eval e X.env)]) :
    PI X (.Tuple elts kk tpos) (.Call (.Name "enumerate" p) [e] [] pos) (iEnumA X.K ta) := by
  refine ⟨fun pins s σ H R I h => ?_⟩
  refine Call_ (ld_blt I hg hm boot_enumerate (PyProof.Rows.callWith_type1 (thn (ha.run pos pins s σ H _ I h) fun us s1 ⟨vs, H1, I1, r1, q1⟩ => ?_) hs rfl))
  obtain ⟨a, xs, ex, q⟩ := q1
  subst ex
  cases r1 with
  | cons r rr =>
    cases rr
    cases r
    have fpo : ∀ {h' : Heap}, Inv X pins σ H1 { s1 with heap := h' } → True := fun _ => trivial
    rcases q with ⟨hq, q⟩ | ⟨hq, q⟩
    · obtain ⟨its, rv, p', hz⟩ := I1.list hq
      refine call_enumerate_list p'.isList fun h' he hit hsz hk => wpAny_pyIter_enum he ?_
      have I2 : Inv X pins σ H1 { s1 with heap := h' } := I1.kept (t' := s1.toks) hk
      refine ⟨s1.heap.objs.size + 1, [s1.heap.objs.size + 1, s1.heap.objs.size], _, _, H1, rfl, I2, turn_enum a (s1.heap.objs.size + 1) s1.heap.objs.size, ⟨⟨.none, he⟩, hit, Nat.succ_ne_self _⟩, fun b hb => ?_, q⟩
      have e' : b = s1.heap.objs.size + 1 ∨ b = s1.heap.objs.size := by simpa using hb
      have hle : s1.heap.objs.size ≤ b := by
        rcases e' with z | z
        · rw [z]; exact Nat.le_add_right _ _
        · rw [z]; exact Nat.le_refl _
      exact I1.fpOk hle (I1.hok.fresh hle)
    · obtain ⟨its, rv, p', hz⟩ := I1.tuple hq
      have hal : a < s1.heap.objs.size := by obtain ⟨o, q, _⟩ := id p'; exact Heap.lt_size q
      refine call_enumT p' fun h' he hit hsz hk => wpAny_pyIter_enum he ?_
      have I2 : Inv X pins σ H1 { s1 with heap := h' } := I1.kept (t' := s1.toks) hk
      refine ⟨s1.heap.objs.size + 1, [s1.heap.objs.size + 1, s1.heap.objs.size], _, _, H1, rfl, I2, turn_enumT a (s1.heap.objs.size + 1) s1.heap.objs.size, ⟨⟨.none, he⟩, hit, Nat.succ_ne_self _, fun z => ?_, fun z => ?_⟩, fun b hb => ?_, q⟩
      · have z : s1.heap.objs.size + 1 = a := z
        exact Nat.lt_asymm hal (z ▸ Nat.lt_succ_self _)
      · exact Nat.ne_of_lt hal z
      have e' : b = s1.heap.objs.size + 1 ∨ b = s1.heap.objs.size := by simpa using hb
      have hle : s1.heap.objs.size ≤ b := by
        rcases e' with z | z
        · rw [z]; exact Nat.le_add_right _ _
        · rw [z]; exact Nat.le_refl _
      exact I1.fpOk hle (I1.hok.fresh hle)
theorem enumD_get : ∀ {xs : List D} {n i : Nat} {d : D}, (enumD n xs)[i]? = some d → ∃ x, xs[i]? = some x ∧ d = .tup [.int ((n + i : Nat) : Int), x]
  | [], _, _, _, e => by cases e
  | x :: xs, n, 0, d, e => by cases e; exact ⟨x, rfl, rfl⟩
  | x :: xs, n, i + 1, d, e => by
    obtain ⟨y, h1, h2⟩ := enumD_get (n := n + 1) (show (enumD (n + 1) xs)[i]? = some d from e)
    exact ⟨y, h1, by rw [h2, show n + 1 + i = n + (i + 1) by omega]⟩
theorem enumD_len : ∀ {xs : List D} {n : Nat}, (enumD n xs).length = xs.length
  | [], _ => rfl
  | x :: xs, n => by show (enumD (n + 1) xs).length + 1 = _; rw [enumD_len]; rfl
section
variable {X : Cx} {tb : List Addr} {X' : Mod'} {G : Fns} {a : Expr} {ma : M} {pos : Pos}
theorem itOk_enumT {K : PySem.W.Frag} {Z : Addr → Prop} {S₀ : Sto} {H₀ : Hp} {a : Addr} {vs : List V} {xs : List D} (h : SqT K H₀ a vs) (s0 : SRep K Z S₀ H₀) (r : RepL K Z S₀ H₀ xs vs) : ItOk K tb Z S₀ H₀ (IteT K a) (enumD 0 xs) (fun _ => True) := by
  intro Z' hz i S H x s t _
  have h1 := sqT_ext s0 x h
  have r1 := (r.zz hz).extN s0.sno x
  refine ⟨fun d e => ?_, fun e => ⟨vs, h1, by rw [← r1.length]; rw [enumD_len] at e; exact e⟩⟩
  obtain ⟨dx, ex, rfl⟩ := enumD_get e
  rw [Nat.zero_add]
  obtain ⟨v, hv, rv⟩ := r1.get ex
  refine ⟨⟨vs, v, h1, hv⟩, fun y H2 hy => ?_⟩
  obtain ⟨T, x', rfl, hT, rfl, hx'⟩ := hy
  have e1 := hx' vs h1
  rw [hv] at e1; cases e1
  exact pair_new s t hT (.int _) rv
theorem itOk_enumL {K : PySem.W.Frag} {Z : Addr → Prop} {S₀ : Sto} {H₀ : Hp} {a : Addr} {vs : List V} {xs : List D} (h : H₀ a = some (.lst vs)) (n : S₀ a = none) (s0 : SRep K Z S₀ H₀) (r : RepL K Z S₀ H₀ xs vs) : ItOk K tb Z S₀ H₀ (Ite K a) (enumD 0 xs) (fun _ => True) := by
  intro Z' hz i S H x s t _
  have h1 : SqL K H a vs := SqL.of (x.keep _ _ h n fun ps e => by cases e).1
  have r1 := (r.zz hz).extN s0.sno x
  refine ⟨fun d e => ?_, fun e => ⟨vs, h1, by rw [← r1.length]; rw [enumD_len] at e; exact e⟩⟩
  obtain ⟨dx, ex, rfl⟩ := enumD_get e
  rw [Nat.zero_add]
  obtain ⟨v, hv, rv⟩ := r1.get ex
  refine ⟨⟨vs, v, h1, hv⟩, fun y H2 hy => ?_⟩
  obtain ⟨T, x', rfl, hT, rfl, hx'⟩ := hy
  have e1 := hx' vs h1
  rw [hv] at e1; cases e1
  exact pair_new s t hT (.int _) rv
theorem di_enum {elts : List Expr} {kk : Nat} {tpos p : Pos} (hg : Gl X "enumerate") (hm : X.mg "enumerate" = none) (ha : DE X tb X' G a ma)
    (h1 : starEach [a] X.env = (false, eval a X.env) :: starEach [] X.env) :
    DI X tb X' G (.Tuple elts kk tpos) (.Call (.Name "enumerate" p) [a] [] pos) (.enum ma) :=
  PI.weak (pi_enumA hg hm (pa_cons ha pa_nil h1) h1) fun σ H R ⟨Z, ρ, S, Q, m, w, k⟩ =>
    ⟨Z, ρ, S, _, m, w, fun d S1 v H1 x1 s1 t1 r1 w1 => by
      cases r1 with
      | @tup p vs ds h r =>
        have w1 : Q (enumD 0 ds) (fun _ => True) S1 := w1
        exact ⟨p, vs, rfl, .inr ⟨h, k _ _ S1 _ H1 x1 s1 t1 (itOk_enumT h s1 r) w1⟩⟩
      | @lst p vs ds h n nz r =>
        have w1 : Q (enumD 0 ds) (fun _ => True) S1 := w1
        exact ⟨p, vs, rfl, .inl ⟨SqL.of h, k _ _ S1 _ H1 x1 s1 t1 (itOk_enumL h n s1 r) w1⟩⟩
      | _ => exact w1.elim⟩
end
end DL

set_option Elab.async false
set_option linter.all false
set_option maxRecDepth 100000
set_option maxHeartbeats 4000000
/-! DL6Z: zip of a tuple and a list. -/
namespace DL
open PySem PySem.Spec PyProof.Rows L2 RZ
/-- what is walked by an iterator of its own kind -/
structure Src (K : PySem.W.Frag) (sq : Hp → Addr → List V → Prop) (itr : Heap → Addr → Addr → Nat → Prop) (mk : Addr → Obj) (there : Heap → Addr → List Value → Prop) : Prop where
  obj : ∀ h it a i, itr h it a i → ∃ o, h.get? it = some o ∧ ∀ v, o.data ≠ .cell v
  at_ : ∀ h h' it a i, itr h it a i → (∀ o, h.get? it = some o → h'.get? it = some o) → itr h' it a i
  made : ∀ h it a, h.get? it = some (mk a) → itr h it a 0
  get : ∀ (X : Cx) (pins : List (Addr × Obj)) (σ : L2.St) (H : Hp) (s : Shared) (a : Addr) (xs : List V), X.K = K → Inv X pins σ H s → sq H a xs → ∃ its, Vals xs its ∧ there s.heap a its
  inj : ∀ (X : Cx) (pins : List (Addr × Obj)) (σ : L2.St) (H : Hp) (s : Shared) (a : Addr) (xs ys : List V), X.K = K → Inv X pins σ H s → sq H a xs → sq H a ys → xs = ys
  lt : ∀ h a its, there h a its → a < h.objs.size
  begins : ∀ a its, Begins (.ref a) (mk a) fun h => there h a its
  draws : ∀ (prog : Program) (w : World) (A : Around) (it a : Addr) (its : List Value), A.handled = none → a ≠ it → Draws prog w A it [it, a] its.length (fun i v => its[i]? = some v) (fun i h => itr h it a i ∧ there h a its)
  ends : ∀ (prog : Program) (w : World) (A : Around) (it a : Addr) (its : List Value) (n : Nat), A.handled = none → a ≠ it → its.length ≤ n → Draws prog w A it [it, a] n (fun _ _ => False) (fun i h => i = n ∧ itr h it a n ∧ there h a its)
theorem srcT {K : PySem.W.Frag} : Src K (SqT K) (fun h it a i => h.IsTupleIter it a i) (fun a => { cls := .type "tuple_iterator", data := .fields #[.ref a, .int 0 0] }) (fun h a its => h.IsTuple a its.toArray) where
  obj := fun h it a i st => let ⟨o, e, _, d⟩ := st; ⟨o, e, fun v q => by rw [d] at q; cases q⟩
  at_ := fun h h' it a i st k => st.at fun o q => k o q
  made := fun h it a e => ⟨_, e, rfl, rfl⟩
  get := fun X pins σ H s a xs hK I hq => by
    subst hK
    obtain ⟨its, rv, p, _⟩ := I.tuple hq
    exact ⟨its, rv, p⟩
  inj := fun X pins σ H s a xs ys hK I h1 h2 => by subst hK; exact I.tuple_inj h1 h2
  lt := fun h a its p => by obtain ⟨o, q, _⟩ := id p; exact Heap.lt_size q
  begins := fun a its => begins_tuple a its.toArray
  draws := fun prog w A it a its hh hne => by
    have D := Draws.tuple (prog := prog) (w := w) (A := A) hh it a hne its.toArray
    rw [List.size_toArray] at D
    exact ⟨D.live, D.frame, fun i s Q E hi st hQ => D.item i s Q E hi st fun x h' tk hx => hQ x h' tk (by simpa using hx), D.done⟩
  ends := fun prog w A it a its n hh hne hl => by
    refine ⟨fun i h st => let ⟨o, e, _⟩ := st.2.1; ⟨o, e⟩, fun i h h' st hk => ⟨st.1, st.2.1.at fun o e => hk it (by simp) o e, st.2.2.at fun o e => hk a (by simp) o e⟩, fun i s Q E hi st => absurd st.1 (Nat.ne_of_lt hi), fun s Q E st hE => ?_⟩
    exact wpAny_nextOf_tuple_end hh st.2.1 st.2.2 (by simpa using hl) hE
theorem srcL {K : PySem.W.Frag} : Src K (SqL K) (fun h it a i => h.IsListIter it a i) (fun a => { cls := .type "list_iterator", data := .fields #[.ref a, .int 0 0] }) (fun h a its => h.IsList a its.toArray) where
  obj := fun h it a i st => let ⟨o, e, _, d⟩ := st; ⟨o, e, fun v q => by rw [d] at q; cases q⟩
  at_ := fun h h' it a i st k => st.at fun o q => k o q
  made := fun h it a e => ⟨_, e, rfl, rfl⟩
  get := fun X pins σ H s a xs hK I hq => by
    subst hK
    obtain ⟨its, rv, p, _⟩ := I.list hq
    exact ⟨its, rv, p.isList⟩
  inj := fun X pins σ H s a xs ys hK I h1 h2 => by subst hK; exact I.list_inj h1 h2
  lt := fun h a its p => by obtain ⟨o, q, _⟩ := id p; exact Heap.lt_size q
  begins := fun a its => begins_list a its.toArray
  draws := fun prog w A it a its hh hne => by
    have D := Draws.list (prog := prog) (w := w) (A := A) hh it a hne its.toArray
    rw [List.size_toArray] at D
    exact ⟨D.live, D.frame, fun i s Q E hi st hQ => D.item i s Q E hi st fun x h' tk hx => hQ x h' tk (by simpa using hx), D.done⟩
  ends := fun prog w A it a its n hh hne hl => by
    refine ⟨fun i h st => let ⟨o, e, _⟩ := st.2.1; ⟨o, e⟩, fun i h h' st hk => ⟨st.1, st.2.1.at fun o e => hk it (by simp) o e, st.2.2.at fun o e => hk a (by simp) o e⟩, fun i s Q E hi st => absurd st.1 (Nat.ne_of_lt hi), fun s Q E st hE => ?_⟩
    exact wpAny_nextOf_list_end hh st.2.1 st.2.2 (by simpa using hl) hE
/-- two sources side by side -/
def ItzG (s1 s2 : Hp → Addr → List V → Prop) (a b : Addr) : It :=
  ⟨fun i H => ∃ (xs ys : List V) (x y : V), s1 H a xs ∧ s2 H b ys ∧ xs[i]? = some x ∧ ys[i]? = some y,
    fun i H v H' => ∃ T x y, v = .ref T ∧ H T = none ∧ H' = upd H T (.tup [x, y]) ∧ (∀ xs, s1 H a xs → xs[i]? = some x) ∧ ∀ ys, s2 H b ys → ys[i]? = some y,
    fun i H => ∃ xs ys : List V, s1 H a xs ∧ s2 H b ys ∧ (xs.length ≤ i ∨ ys.length ≤ i)⟩
section
variable {K : PySem.W.Frag} {q1 q2 : Hp → Addr → List V → Prop} {r1 r2 : Heap → Addr → Addr → Nat → Prop} {m1 m2 : Addr → Obj} {e1 e2 : Heap → Addr → List Value → Prop}
theorem turn_zipG {P : Program} {w : World} {elts : List Expr} {kk : Nat} {tpos : Pos} {a b z TI TO i1 i2 : Addr} (s1 : Src K q1 r1 m1 e1) (s2 : Src K q2 r2 m2 e2) (D : ZipSep2 z TI TO i1 i2 [i1, a] [i2, b]) :
    Turn P w K (.Tuple elts kk tpos) (ItzG q1 q2 a b) [z, TI, TO, i1, i2] z (fun i h => IsZip h z TI TO .none ∧ IsTupOf2 h TI (.ref i1) (.ref i2) ∧ (∃ x y, IsTupOf2 h TO x y) ∧ r1 h i1 a i ∧ r2 h i2 b i ∧ a ≠ i1 ∧ b ≠ i2) where
  mem := by simp
  obj := fun i h st c hc => by
    obtain ⟨hz, hTI, ⟨x, y, hTO⟩, t1, t2, _⟩ := st
    have e' : c = z ∨ c = TI ∨ c = TO ∨ c = i1 ∨ c = i2 := by simpa using hc
    rcases e' with q | q | q | q | q
    · rw [q]; exact ⟨_, hz, fun v q => nomatch q⟩
    · rw [q]; exact ⟨_, hTI, fun v q => nomatch q⟩
    · rw [q]; exact ⟨_, hTO, fun v q => nomatch q⟩
    · rw [q]; exact s1.obj _ _ _ _ t1
    · rw [q]; exact s2.obj _ _ _ _ t2
  keep := fun i h h' st k => by
    obtain ⟨hz, hTI, ⟨x, y, hTO⟩, h1, h2, nn⟩ := st
    exact ⟨k z (by simp) _ hz, k TI (by simp) _ hTI, ⟨x, y, k TO (by simp) _ hTO⟩, s1.at_ _ _ _ _ _ h1 fun o q => k i1 (by simp) o q, s2.at_ _ _ _ _ _ h2 fun o q => k i2 (by simp) o q, nn⟩
  item := by
    intro X hP hw hK hc i pins s σ H E I hf st hg
    subst hP hw
    obtain ⟨hz, hTI, ⟨x0, y0, hTO⟩, t1, t2, n1, n2⟩ := st
    obtain ⟨xs, ys, x, y, hqx, hqy, hx, hy⟩ := hg
    obtain ⟨its, rv, p⟩ := s1.get X pins σ H s a xs hK I hqx
    obtain ⟨its2, rv2, p2⟩ := s2.get X pins σ H s b ys hK I hqy
    obtain ⟨u, hu, ru⟩ := rv.get hx
    obtain ⟨u2, hu2, ru2⟩ := rv2.get hy
    have hzl : z < s.heap.objs.size := Heap.lt_size hz
    have hh : X.A.in1.handled = none := I.ok.hd hc
    refine wpAny_pyNext_zipD2_item D (s1.draws X.prog X.w X.A.in1 i1 a its hh n1) (s2.draws X.prog X.w X.A.in1 i2 b its2 hh n2) hz hTI hTO ⟨t1, p⟩ ⟨t2, p2⟩ (List.getElem?_eq_some_iff.mp hu).1 (List.getElem?_eq_some_iff.mp hu2).1 fun x1 x2 h' tk hx1 hx2 z' TO' st1' st2' hT hsz hk => ?_
    rw [hu] at hx1
    rw [hu2] at hx2
    cases hx1
    cases hx2
    refine ⟨_, rfl, wpAny_letOwnedTupleGo_zip (s := { s with heap := h', toks := tk }) z' fun h'' z'' sb => ?_⟩
    have hT2 : h''.get? s.heap.objs.size = some { cls := .type "tuple", data := .seq #[u, u2] } := (sb.2 _ (Nat.ne_of_gt hzl)).trans hT
    have new : ObjOk X.prog X.w (upd H s.heap.objs.size (.tup [x, y])) h'' s.heap.objs.size (.tup [x, y]) :=
      ⟨by show 2 ≤ sizeLine; decide, [u, u2], .cons ru (.cons ru2 .nil), ⟨_, hT2, rfl, _, rfl⟩⟩
    have I1 : Inv X pins σ (upd H s.heap.objs.size (.tup [x, y])) { s with heap := h'', toks := tk } :=
      I.turnedNew (t' := tk) (ch := [z, TI, TO, i1, i2]) (fun c o hb q => (sb.2 c (fun q' => hb (by simp [q']))).trans (hk c o (fun q' => hb (by simp [q'])) (fun q' => hb (by simp [q'])) (fun q' => hb (by simp [q'])) (fun q' => hb (by simp [q'])) q)) hf (Nat.le_refl _) new
    refine ⟨.ref s.heap.objs.size, _, I1, rfl, ⟨_, x, y, rfl, I.hok.fresh (Nat.le_refl _), rfl, fun l hl => by rw [s1.inj X pins σ H s a l xs hK I hl hqx]; exact hx, fun l hl => by rw [s2.inj X pins σ H s b l ys hK I hl hqy]; exact hy⟩, ⟨z'', ?_, ⟨u, u2, ?_⟩, ?_, ?_, n1, n2⟩, fun c hcm => ?_⟩
    · exact (sb.2 _ D.TIz).trans (hk _ _ D.TIz D.TITO D.TIi1 D.TIi2 hTI)
    · exact (sb.2 _ D.TOz).trans TO'
    · exact s1.at_ _ _ _ _ _ st1'.1 fun o q => (sb.2 _ D.zi1.symm).trans q
    · exact s2.at_ _ _ _ _ _ st2'.1 fun o q => (sb.2 _ D.zi2.symm).trans q
    · have hlt : c < s.heap.objs.size := by
        have e' : c = z ∨ c = TI ∨ c = TO ∨ c = i1 ∨ c = i2 := by simpa using hcm
        rcases e' with q | q | q | q | q
        · rw [q]; exact hzl
        · rw [q]; exact Heap.lt_size hTI
        · rw [q]; exact Heap.lt_size hTO
        · rw [q]; obtain ⟨_, e1, _⟩ := s1.obj _ _ _ _ t1; exact Heap.lt_size e1
        · rw [q]; obtain ⟨_, e2, _⟩ := s2.obj _ _ _ _ t2; exact Heap.lt_size e2
      rw [upd_ne (Nat.ne_of_lt hlt)]
      exact (hf c hcm).1
  done := by
    intro X hP hw hK hc i pins s σ H E I hf st hg
    subst hP hw
    obtain ⟨hz, hTI, ⟨x0, y0, hTO⟩, t1, t2, n1, n2⟩ := st
    obtain ⟨xs, ys, hqx, hqy, hend⟩ := hg
    obtain ⟨its, rv, p⟩ := s1.get X pins σ H s a xs hK I hqx
    obtain ⟨its2, rv2, p2⟩ := s2.get X pins σ H s b ys hK I hqy
    have l1 := rv.length
    have l2 := rv2.length
    have hh : X.A.in1.handled = none := I.ok.hd hc
    have fin : ∀ (h' : Heap) (tk : Tok), (∀ c o, c ≠ z → c ≠ TO → c ≠ i1 → c ≠ i2 → s.heap.get? c = some o → h'.get? c = some o) → Inv X pins σ H { s with heap := h', toks := tk } := fun h' tk hk =>
      I.turnedL (t' := tk) (ch := [z, TI, TO, i1, i2]) (fun c o hb q => hk c o (fun q' => hb (by simp [q'])) (fun q' => hb (by simp [q'])) (fun q' => hb (by simp [q'])) (fun q' => hb (by simp [q'])) q) hf
    by_cases g1 : its.length ≤ i
    · have D1 := s1.ends X.prog X.w X.A.in1 i1 a its i hh n1 g1
      by_cases g2 : its2.length ≤ i
      · exact wpAny_pyNext_zipD2_end D D1 (s2.ends X.prog X.w X.A.in1 i2 b its2 i hh n2 g2) hz hTI hTO ⟨rfl, t1, p⟩ ⟨rfl, t2, p2⟩ (Nat.le_refl _) (Nat.le_refl _) (.inl rfl) fun h' tk hk => ⟨rfl, fin h' tk hk⟩
      · exact wpAny_pyNext_zipD2_end D D1 (s2.draws X.prog X.w X.A.in1 i2 b its2 hh n2) hz hTI hTO ⟨rfl, t1, p⟩ ⟨t2, p2⟩ (Nat.le_refl _) (by omega) (.inl rfl) fun h' tk hk => ⟨rfl, fin h' tk hk⟩
    · have g2 : its2.length ≤ i := by rcases hend with q | q <;> omega
      exact wpAny_pyNext_zipD2_end D (s1.draws X.prog X.w X.A.in1 i1 a its hh n1) (s2.ends X.prog X.w X.A.in1 i2 b its2 i hh n2 g2) hz hTI hTO ⟨t1, p⟩ ⟨rfl, t2, p2⟩ (by omega) (Nat.le_refl _) (.inr rfl) fun h' tk hk => ⟨rfl, fin h' tk hk⟩
  self := fun A i s Q E st h => wpAny_pyIter_zip st.1 h
theorem zip_call {X : Cx} {pins : List (Addr × Obj)} {σ : L2.St} {H : Hp} {s : Shared} {elts : List Expr} {kk : Nat} {tpos : Pos} {a b : Addr} {xs ys : List V} {R : It → Hp → Prop} {E : Value → Shared → Prop} (s1 : Src X.K q1 r1 m1 e1) (s2 : Src X.K q2 r2 m2 e2) (I : Inv X pins σ H s) (hqx : q1 H a xs) (hqy : q2 H b ys)
    (q : R (ItzG q1 q2 a b) H) : wpAny (model X.prog X.w) X.A (call (.type "zip") [.ref a, .ref b]) (fun v s' => wpAny (model X.prog X.w) X.A (pyIter v) (fun u s2 => ∃ it fp tn J H1, u = .ref it ∧ Inv X pins σ H1 s2 ∧ Turn X.prog X.w X.K (.Tuple elts kk tpos) J fp it tn ∧ tn 0 s2.heap ∧ (∀ c ∈ fp, FpOk X pins H1 c) ∧ R J H1) E s') E s := by
  obtain ⟨its, rv, p1⟩ := s1.get X pins σ H s a xs rfl I hqx
  obtain ⟨its2, rv2, p2⟩ := s2.get X pins σ H s b ys rfl I hqy
  have la := s1.lt _ _ _ p1
  have lb := s2.lt _ _ _ p2
  refine zip_begins2 (s1.begins a its) (s2.begins b its2) p1 p2 fun h' hz hTI hTO h1 h2 hsz hk => wpAny_pyIter_zip hz ?_
  have I2 : Inv X pins σ H { s with heap := h' } := I.kept (t' := s.toks) hk
  refine ⟨s.heap.objs.size + 4, [s.heap.objs.size + 4, s.heap.objs.size + 2, s.heap.objs.size + 3, s.heap.objs.size, s.heap.objs.size + 1], _, _, H, rfl, I2,
    turn_zipG s1 s2 (zip_sep2 (N := s.heap.objs.size) (fp1 := [a]) (fp2 := [b]) (fun c hc => by rw [List.mem_singleton.mp hc]; exact la) (fun c hc => by rw [List.mem_singleton.mp hc]; exact lb)),
    ⟨hz, hTI, ⟨_, _, hTO⟩, s1.made _ _ _ h1, s2.made _ _ _ h2, Nat.ne_of_lt la, Nat.ne_of_lt (Nat.lt_trans lb (Nat.lt_succ_self _))⟩, fun c hcm => ?_, q⟩
  have e' : c = s.heap.objs.size + 4 ∨ c = s.heap.objs.size + 2 ∨ c = s.heap.objs.size + 3 ∨ c = s.heap.objs.size ∨ c = s.heap.objs.size + 1 := by simpa using hcm
  have hle : s.heap.objs.size ≤ c := by
    rcases e' with z | z | z | z | z
    · rw [z]; exact Nat.le_add_right _ _
    · rw [z]; exact Nat.le_add_right _ _
    · rw [z]; exact Nat.le_add_right _ _
    · rw [z]; exact Nat.le_refl _
    · rw [z]; exact Nat.le_add_right _ _
  exact I.fpOk hle (I.hok.fresh hle)
end
/-- any of the four -/
def iZipG (K : PySem.W.Frag) (ta : TA) : TI := fun σ H R => ta σ H fun vs H1 => ∃ a b xs ys, vs = [.ref a, .ref b] ∧
  ((SqL K H1 a xs ∧ SqL K H1 b ys ∧ R (ItzG (SqL K) (SqL K) a b) H1) ∨ (SqT K H1 a xs ∧ SqT K H1 b ys ∧ R (ItzG (SqT K) (SqT K) a b) H1) ∨ (SqT K H1 a xs ∧ SqL K H1 b ys ∧ R (ItzG (SqT K) (SqL K) a b) H1) ∨ (SqL K H1 a xs ∧ SqT K H1 b ys ∧ R (ItzG (SqL K) (SqT K) a b) H1))
theorem pi_zipG {X : Cx} {e e2 : Expr} {ta : TA} {p pos tpos : Pos} {elts : List Expr} {kk : Nat} (hg : Gl X "zip") (hm : X.mg "zip" = none) (ha : PA X [e, e2] ta)
    (hs : starEach [e, e2] X.env = (false, eval e X.env) :: starEach [e2] X.env) (hpl : (backTo pos (starEach [e2] X.env)).any (·.1) = false) :
    PI X (.Tuple elts kk tpos) (.Call (.Name "zip" p) [e, e2] [] pos) (iZipG X.K ta) := by
  refine ⟨fun pins s σ H R I h => ?_⟩
  refine Call_ (ld_blt I hg hm PyProof.Rows.boot_zip (PyProof.Rows.callWith_type1 (thn (ha.run pos pins s σ H _ I h) fun us s1 ⟨vs, H1, I1, r1, q1⟩ => ?_) hs hpl))
  obtain ⟨a, b, xs, ys, ex, q1⟩ := q1
  subst ex
  cases r1 with
  | cons r rr =>
    cases rr with
    | cons r' rr =>
      cases rr
      cases r
      cases r'
      rcases q1 with ⟨h1, h2, q⟩ | ⟨h1, h2, q⟩ | ⟨h1, h2, q⟩ | ⟨h1, h2, q⟩
      · exact zip_call srcL srcL I1 h1 h2 q
      · exact zip_call srcT srcT I1 h1 h2 q
      · exact zip_call srcT srcL I1 h1 h2 q
      · exact zip_call srcL srcT I1 h1 h2 q
section
variable {X : Cx} {tb : List Addr} {X' : Mod'} {G : Fns} {a b : Expr} {ma mb : M} {pos : Pos}
/-- a source whose data stay -/
def Stays (K : PySem.W.Frag) (sq : Hp → Addr → List V → Prop) (Z : Addr → Prop) (S₀ : Sto) (H₀ : Hp) (a : Addr) (xs : List D) : Prop := ∀ (Z' : Addr → Prop), (∀ a, Z' a → Z a ∨ H₀ a = none) → ∀ S H, Ext S₀ H₀ S H → SRep K Z' S H → ∃ vs, sq H a vs ∧ RepL K Z' S H xs vs
theorem stays_tup {K : PySem.W.Frag} {Z : Addr → Prop} {S₀ : Sto} {H₀ : Hp} {a : Addr} {vs : List V} {xs : List D} (h : SqT K H₀ a vs) (s0 : SRep K Z S₀ H₀) (r : RepL K Z S₀ H₀ xs vs) : Stays K (SqT K) Z S₀ H₀ a xs := fun Z' hz S H x s => ⟨vs, sqT_ext s0 x h, (r.zz hz).extN s0.sno x⟩
theorem stays_lst {K : PySem.W.Frag} {Z : Addr → Prop} {S₀ : Sto} {H₀ : Hp} {a : Addr} {vs : List V} {xs : List D} (h : H₀ a = some (.lst vs)) (n : S₀ a = none) (s0 : SRep K Z S₀ H₀) (r : RepL K Z S₀ H₀ xs vs) : Stays K (SqL K) Z S₀ H₀ a xs := fun Z' hz S H x s => ⟨vs, SqL.of (x.keep _ _ h n fun ps e => by cases e).1, (r.zz hz).extN s0.sno x⟩
theorem itOk_zipG {K : PySem.W.Frag} {q1 q2 : Hp → Addr → List V → Prop} {Z : Addr → Prop} {S₀ : Sto} {H₀ : Hp} {a b : Addr} {xs ys : List D} (h1 : Stays K q1 Z S₀ H₀ a xs) (h2 : Stays K q2 Z S₀ H₀ b ys) : ItOk K tb Z S₀ H₀ (ItzG q1 q2 a b) (List.zipWith (fun x y => .tup [x, y]) xs ys) (fun _ => True) := by
  intro Z' hz i S H x s t _
  obtain ⟨vs, g1, r1⟩ := h1 Z' hz S H x s
  obtain ⟨us, g2, r2⟩ := h2 Z' hz S H x s
  refine ⟨fun d e => ?_, fun e => ⟨vs, us, g1, g2, by rw [← r1.length, ← r2.length]; exact zip_end e⟩⟩
  obtain ⟨dx, dy, ex, ey, rfl⟩ := zip_get e
  obtain ⟨v, hv, rv⟩ := r1.get ex
  obtain ⟨u, hu, ru⟩ := r2.get ey
  refine ⟨⟨vs, us, v, u, g1, g2, hv, hu⟩, fun y H2 hy => ?_⟩
  obtain ⟨T, x', y', rfl, hT, rfl, hx', hy'⟩ := hy
  have e1 := hx' vs g1
  have e2 := hy' us g2
  rw [hv] at e1; cases e1
  rw [hu] at e2; cases e2
  exact pair_new s t hT rv ru
theorem di_zipG {elts : List Expr} {kk : Nat} {tpos p : Pos} (hg : Gl X "zip") (hm : X.mg "zip" = none) (ha : DE X tb X' G a ma) (hb : DE X tb X' G b mb)
    (h1 : starEach [a, b] X.env = (false, eval a X.env) :: starEach [b] X.env) (h2 : starEach [b] X.env = (false, eval b X.env) :: starEach [] X.env) :
    DI X tb X' G (.Tuple elts kk tpos) (.Call (.Name "zip" p) [a, b] [] pos) (.zip ma mb) :=
  PI.weak (pi_zipG hg hm (pa_cons ha (pa_cons hb pa_nil h2) h1) h1 (by rw [h2]; rfl)) fun σ H R ⟨Z, ρ, S, Q, m, w, k⟩ =>
    ⟨Z, ρ, S, _, m, w, fun d S1 v H1 x1 s1 t1 r1 w1 => ⟨Z, ρ, S1, _, m.go x1 s1 t1, w1, fun d2 S2 v2 H2 x2 s2 t2 r2 w2 => by
      have r1' := r1.ext s1 x2
      cases r1' with
      | @tup p vs ds h r =>
        cases r2 with
        | @tup p2 vs2 ds2 h2 r2 =>
          have w2 : Q (List.zipWith (fun x y => .tup [x, y]) ds ds2) (fun _ => True) S2 := w2
          exact ⟨p, p2, vs, vs2, rfl, .inr (.inl ⟨h, h2, k _ _ S2 _ H2 (x1.trans x2) s2 t2 (itOk_zipG (stays_tup h s2 r) (stays_tup h2 s2 r2)) w2⟩)⟩
        | @lst p2 vs2 ds2 h2 n2 nz2 r2 =>
          have w2 : Q (List.zipWith (fun x y => .tup [x, y]) ds ds2) (fun _ => True) S2 := w2
          exact ⟨p, p2, vs, vs2, rfl, .inr (.inr (.inl ⟨h, SqL.of h2, k _ _ S2 _ H2 (x1.trans x2) s2 t2 (itOk_zipG (stays_tup h s2 r) (stays_lst h2 n2 s2 r2)) w2⟩))⟩
        | _ => exact w2.elim
      | @lst p vs ds h n nz r =>
        cases r2 with
        | @tup p2 vs2 ds2 h2 r2 =>
          have w2 : Q (List.zipWith (fun x y => .tup [x, y]) ds ds2) (fun _ => True) S2 := w2
          exact ⟨p, p2, vs, vs2, rfl, .inr (.inr (.inr ⟨SqL.of h, h2, k _ _ S2 _ H2 (x1.trans x2) s2 t2 (itOk_zipG (stays_lst h n s2 r) (stays_tup h2 s2 r2)) w2⟩))⟩
        | @lst p2 vs2 ds2 h2 n2 nz2 r2 =>
          have w2 : Q (List.zipWith (fun x y => .tup [x, y]) ds ds2) (fun _ => True) S2 := w2
          exact ⟨p, p2, vs, vs2, rfl, .inl ⟨SqL.of h, SqL.of h2, k _ _ S2 _ H2 (x1.trans x2) s2 t2 (itOk_zipG (stays_lst h n s2 r) (stays_lst h2 n2 s2 r2)) w2⟩⟩
        | _ => exact w2.elim
      | _ => cases r2 <;> exact w2.elim⟩⟩
end
end DL

set_option Elab.async false
set_option linter.all false
set_option maxRecDepth 100000
set_option maxHeartbeats 4000000
/-! DL7: from the text to the small language. -/
namespace DL
open PySem PySem.Spec PyProof.Rows L2 RZ

structure Tab where
  fns : List (Str × Nat)
  consts : List (Str × Nat)
  kws : List (Nat × Nat × List Str × List Nat)
  mus : List (Nat × Nat)
  fzs : List (Nat × Nat)
  excs : List (Str × Nat)
  subs : List (Nat × List Nat)
  rs : List Nat
def lkS {α : Type} (x : Str) : List (Str × α) → Option α
  | [] => none
  | (y, a) :: r => if x = y then some a else lkS x r
def ixS (x : Str) : List Str → Option Nat
  | [] => none
  | y :: r => if x = y then some 0 else (ixS x r).map (· + 1)
def visB (sc : Scope) (x : Str) : Bool := match sc.names.lookup x with
  | some .local => true | some .cell => true | some .free => true | _ => false
def locB (sc : Scope) (x : Str) : Bool := match sc.names.lookup x with
  | some .local => true | some .cell => true | _ => false
def lclB (sc : Scope) (x : Str) : Bool := match sc.names.lookup x with
  | some .local => true | _ => false
def glB (sc : Scope) (x : Str) : Bool := match sc.names.lookup x with
  | some .globalImplicit => true | _ => false
def okN (x : Str) : Bool := !(x == ("__debug__" : Str)) && !(x == ("__classdict__" : Str))
def boOf (big : Bool) : Operator → Option BO
  | .Add => some .add | .Sub => some .sub | .Mult => some .mul | .FloorDiv => some (if big then .fdiv else .fdivS) | .Mod => some .mod | .Pow => some .pow | _ => none
def coOf : CmpOp → Option CO
  | .Eq => some .eq | .NotEq => some .ne | .Lt => some .lt | .LtE => some .le | .Gt => some .gt | .GtE => some .ge | .Is => some .isN | .IsNot => some .notN | .In => some .inn | .NotIn => some .nin
def bis : List (Str × BI) := [("len", .len), ("tuple", .tuple), ("abs", .abs), ("int", .int), ("list", .list false), ("sum", .sum), ("max", .max), ("min", .min)]
def bis2 : List (Str × BI) := [("max", .max), ("min", .min)]
def tns : List (Str × TN) := [("int", .int), ("bool", .bool), ("str", .str), ("tuple", .tuple)]
def lms : List (Str × LM) := [("append", .append), ("pop", .pop), ("reverse", .reverse)]
/-- the built-in names that must not be the module's -/
def bnames : List Str := ["len", "tuple", "abs", "int", "list", "bool", "str", "isinstance", "zip", "range", "all", "any", "enumerate", "sorted", "min", "max", "sum"]
def trL (f : Expr → Option M) : List Expr → Option M
  | [] => some .nil
  | e :: es => (f e).bind fun m => (trL f es).bind fun r => some (.cons m r)
def trK (f : Expr → Option M) : List Keyword → Option M
  | [] => some .nil
  | ⟨some _, e, _⟩ :: es => (f e).bind fun m => (trK f es).bind fun r => some (.cons m r)
  | ⟨none, _, _⟩ :: _ => none
def kwNames (ks : List Keyword) : List Str := ks.filterMap (·.arg)
def fold2 (g : M → M → M) (f : Expr → Option M) : List Expr → Option M
  | [] => none
  | [e] => f e
  | e :: es => (f e).bind fun m => (fold2 g f es).bind fun r => some (g m r)
/-- a target; sc: the scope as it is written -/
def trG (N : List Str) (sc : Scope) : Nat → Expr → Option TT'
  | 0, _ => none
  | n + 1, .Name x _ => if locB sc x then (ixS x N).map .n else none
  | n + 1, .Tuple es _ _ => (go (trG N sc n) es).map .t
  | _, _ => none
where go (f : Expr → Option TT') : List Expr → Option TT'
  | [] => some .nil
  | e :: es => (f e).bind fun m => (go f es).bind fun r => some (.cons m r)
def ownOf (N : List Str) (scope : Scope) : List (Str × Nat) := scope.names.filterMap fun y => match y.2 with
  | .local => (ixS y.1 N).map fun i => (y.1, i)
  | .cell => (ixS y.1 N).map fun i => (y.1, i)
  | _ => none
def kwIx (f n : Nat) (ks : List Str) : List (Nat × Nat × List Str × List Nat) → Nat → Option Nat
  | [], _ => none
  | (f', n', ks', _) :: r, i => if f' = f ∧ n' = n ∧ ks' = ks then some i else kwIx f n ks r (i + 1)
/-- the def's table of code objects is known -/
def gxB (N : List Str) : Bool := N.any fun x => decide (x = ("<gx>" : Str))
/-- the names of a generator expression's frame -/
def genC (N : List Str) (sc scope : Scope) (own : List (Str × Nat)) : Bool := blkC N sc scope own && (!scope.isCoroutine && ((scope.names.all fun y => match y.2 with | .cell => false | _ => true) && decide (scope.names.lookup (".0" : Str) = some NameKind.local)))
/-- range(b) -/
def rngArg : Expr → Option (Expr × Pos)
  | .Call (.Name f p2) [b] [] _ => if f = "range" then some (b, p2) else none
  | _ => none
def isLst : Expr → Bool
  | .List .. => true
  | _ => false
/-- what a method may stand at -/
def isBase : Expr → Bool
  | .Name .. => true
  | .Subscript .. => true
  | _ => false
/-- a test of its own kind -/
def testy : Expr → Bool
  | .UnaryOp .Not _ _ => true
  | .BoolOp .. => true
  | .Compare .. => true
  | .IfExp .. => true
  | _ => false
theorem isTrue_of {e : Expr} (h : testy e = false) : ∀ env whole, isTrue e env whole = (do let v ← whole; standAt e.pos; holding [v] (truthy v)) := by
  intro env whole
  cases e <;> first
    | rfl
    | (cases h; done)
    | (rename_i op b pos; cases op <;> first | rfl | (cases h; done))
section
variable (T : Tab) (N : List Str)
def muAt (p : Pos) : Bool := T.mus.any fun q => q.1 == p.line && q.2 == p.col
mutual
def trE : Nat → Bool → Scope → Expr → Option M
  | 0, _, _, _ => none
  | n + 1, big, sc, e => match e with
    | .Name x _ => if okN x then (if visB sc x then (ixS x N).map .v else if glB sc x then (lkS x T.consts).map .g else none) else none
    | .Constant (.int i) _ _ => some (.c (.int i))
    | .Constant (.bool b) _ _ => some (.c (.bl b))
    | .Constant .none _ _ => some (.c .non)
    | .Constant (.str x) _ _ => some (.c (.str x))
    | .Tuple es _ _ => (trL (trE n big sc) es).map .tup
    | .Dict [] [] _ => some .dnew
    | .List es pos => (trL (trE n big sc) es).map (.lst (muAt T pos))
    | .BinOp a o b pos => if o = .Add ∧ muAt T pos = true then (trE n big sc a).bind fun x => (trE n big sc b).bind fun y => some (.cat x y)
        else if o = .Mult ∧ muAt T pos = true then (match a with | .List es _ => (trL (trE n big sc) es).bind fun x => (trE n big sc b).bind fun y => some (.rep (.lst false x) y) | _ => none)
        else (boOf big o).bind fun o' => (trE n big sc a).bind fun x => (trE n big sc b).bind fun y => some (.bin o' x y)
    | .UnaryOp .USub a _ => (trE n big sc a).map .neg
    | .UnaryOp .Not a _ => (trE n big sc a).map .not
    | .Compare a [o] [b] _ => (coOf o).bind fun o' => (trE n big sc a).bind fun x => (trE n big sc b).bind fun y => some (.cmp o' x y)
    | .Compare a [o, o2] [b, c] _ => (coOf o).bind fun o' => (coOf o2).bind fun o2' => (trE n big sc a).bind fun x => (trE n big sc b).bind fun y => (trE n big sc c).bind fun z => some (.chain o' o2' x y z)
    | .BoolOp .And es _ => fold2 .and (trE n big sc) es
    | .BoolOp .Or es _ => fold2 .or (trE n big sc) es
    | .IfExp c a b _ => (trT n big sc c).bind fun x => (trE n big sc a).bind fun y => (trE n big sc b).bind fun z => some (.ite x y z)
    | .Subscript a (.Slice lo hi none _) _ => (trE n big sc a).bind fun x => (trO n big sc lo).bind fun l => (trO n big sc hi).bind fun h => some (.sl x l h)
    | .Subscript a i _ => (trE n big sc a).bind fun x => (trE n big sc i).bind fun y => some (if muAt T i.pos then .dget x y else .ix x y)
    | .ListComp elt [⟨tg, it, ifs, 0⟩] scope pos =>
      if blkC N sc scope (ownOf N scope) then
        (trI n big sc tg it).bind fun mi => (trG N scope 8 tg).bind fun t => if (slots t).all (fun i => (ownOf N scope).any fun p => p.2 == i) then
          (trIf n big (relS scope sc) ifs).bind fun mc => (trE n big (relS scope sc) elt).bind fun me => some (.lc (muAt T pos) ((ownOf N scope).map (·.2)) t me mi mc)
        else none
      else none
    | .Call (.Name f _) [.GeneratorExp elt [⟨tg, it, ifs, 0⟩] scope _] [] _ =>
      if f = "tuple" ∧ (big = true ∧ gxB N = true) ∧ (glB sc f = true ∧ genC N sc scope (ownOf N scope) = true) ∧ isLst it = false then
        (trI n big sc tg it).bind fun mi => (trG N scope 8 tg).bind fun t => if (slots t).all (fun i => (ownOf N scope).any fun p => p.2 == i) then
          (trIf n false scope ifs).bind fun mc => (trE n false scope elt).bind fun me => some (.bi .tuple (.cons (.lc false ((ownOf N scope).map (·.2)) t me mi mc) .nil))
        else none
      else if (f = "all" ∨ f = "any") ∧ (big = true ∧ gxB N = true) ∧ (glB sc f = true ∧ genC N sc scope (ownOf N scope) = true) ∧ isLst it = false then
        (trI n big sc tg it).bind fun mi => (trG N scope 8 tg).bind fun t => if (slots t).all (fun i => (ownOf N scope).any fun p => p.2 == i) then
          (trIf n false scope ifs).bind fun mc => (trE n false scope elt).bind fun me => some (.gall (f == ("any" : Str)) ((ownOf N scope).map (·.2)) t me mi mc)
        else none
      else if f = "sum" ∧ (big = true ∧ gxB N = true) ∧ (glB sc f = true ∧ genC N sc scope (ownOf N scope) = true) ∧ isLst it = false then
        (trI n big sc tg it).bind fun mi => (trG N scope 8 tg).bind fun t => if (slots t).all (fun i => (ownOf N scope).any fun p => p.2 == i) then
          (trIf n false scope ifs).bind fun mc => (trE n false scope elt).bind fun me => some (.gsum ((ownOf N scope).map (·.2)) t me mi mc)
        else none
      else none
    | .Call (.Name f _) args kws pos => if okN f && glB sc f then
        match lkS f T.fns with
        | some i => (match kws with
          | [] => (trL (trE n big sc) args).map (.call i)
          | kws => (kwIx i args.length (kwNames kws) T.kws 0).bind fun kp => (trL (trE n big sc) args).bind fun a => (trK (trE n big sc) kws).bind fun k => some (.callK i a k kp))
        | none => (match kws, args with
          | [], [a, b] => if f = "isinstance" then (match b with | .Name t _ => (if glB sc t then (lkS t tns).bind fun t' => (trE n big sc a).map fun x => .isi x t' else none) | _ => none)
              else (lkS f bis2).bind fun bi => (trE n big sc a).bind fun x => (trE n big sc b).bind fun y => some (.bi bi (.cons x (.cons y .nil)))
          | [], [a] => if f = "sorted" then (trE n big sc a).map .dsort
              else if f = "list" ∧ muAt T a.pos = true then (trE n big sc a).map .dlist
              else if f = "tuple" ∧ (rngArg a).isSome = true then (rngArg a).bind fun y => if glB sc "range" then (trE n big sc y.1).map .trng else none
              else (lkS f bis).bind fun b => (trE n big sc a).map fun x => .bi (match b with | .list _ => .list (muAt T pos) | b => b) (.cons x .nil)
          | _, _ => none)
      else none
    | .Call (.Attribute o m apos) args [] pos => if isBase o && (apos.endLine == pos.line && decide (args.length < 28)) then
        if m = "get" then (match args with | [b, c] => (trE n big sc o).bind fun x => (trE n big sc b).bind fun y => (trE n big sc c).bind fun z => some (.dgeto x y z) | _ => none)
        else (lkS m lms).bind fun m' => (trE n big sc o).bind fun x => (trL (trE n big sc) args).map fun a => .meth m' x a
      else none
    | _ => none
def trT : Nat → Bool → Scope → Expr → Option M
  | 0, _, _, _ => none
  | n + 1, big, sc, e => match e with
    | .UnaryOp .Not a _ => (trT n big sc a).map .not
    | .BoolOp .And es _ => fold2 .and (trT n big sc) es
    | .BoolOp .Or es _ => fold2 .or (trT n big sc) es
    | .Compare a [o] [b] _ => (coOf o).bind fun o' => (trE n big sc a).bind fun x => (trE n big sc b).bind fun y => some (.cmp o' x y)
    | .Compare a [o, o2] [b, c] _ => (coOf o).bind fun o' => (coOf o2).bind fun o2' => (trE n big sc a).bind fun x => (trE n big sc b).bind fun y => (trE n big sc c).bind fun z => some (.chain o' o2' x y z)
    | e => if testy e then none else (trE n big sc e).map .tv
def trO : Nat → Bool → Scope → Option Expr → Option M
  | 0, _, _, _ => none
  | _ + 1, _, _, none => some .nil
  | n + 1, big, sc, some e => (trE n big sc e).map .so
def trIf : Nat → Bool → Scope → List Expr → Option M
  | 0, _, _, _ => none
  | _ + 1, _, _, [] => some .nil
  | n + 1, big, sc, [c] => trT n big sc c
  | _ + 1, _, _, _ => none
def trI : Nat → Bool → Scope → Expr → Expr → Option M
  | 0, _, _, _, _ => none
  | n + 1, big, sc, tg, e => match e with
    | .Call (.Name f _) [a] [] _ => if f = "range" then (if glB sc f then (trE n big sc a).map fun x => .rng (.c (.int 0)) x else none)
        else if f = "enumerate" then (match tg with | .Tuple .. => (if glB sc f then (trE n big sc a).map .enum else none) | _ => none)
        else (trE n big sc e).map .it
    | .Call (.Name f _) [a, b] [] _ => if f = "range" then (if glB sc f then (trE n big sc a).bind fun x => (trE n big sc b).bind fun y => some (.rng x y) else none)
        else if f = "zip" then (match tg with | .Tuple .. => (if glB sc f then (trE n big sc a).bind fun x => (trE n big sc b).bind fun y => some (.zip x y) else none) | _ => none)
        else (trE n big sc e).map .it
    | e => (trE n big sc e).map .it
end
end
end DL

set_option Elab.async false
set_option linter.all false
set_option maxRecDepth 100000
set_option maxHeartbeats 4000000
/-! DL14: generator expressions: the frame of one. -/
namespace DL
open PySem PySem.Spec PyProof.Rows L2 RZ

/-- the names of a generator expression's frame: its own (with their places in N), or captured -/
structure GenOk (N : List Str) (sc scope : Scope) (own : List (Str × Nat)) : Prop where
  kind : scope.kind = .function
  co : scope.isCoroutine = false
  cell : ∀ y ∈ scope.names, y.2 ≠ .cell
  dot : scope.names.lookup (".0" : Str) = some NameKind.local
  uniq : ∀ y ∈ scope.names, scope.names.lookup y.1 = some y.2
  ix : ∀ p ∈ own, N[p.2]? = some p.1
  own : ∀ y ∈ scope.names, y.2 = .local → y.1 ∈ own.map (·.1) ∨ y.1 ∉ N
  free : ∀ y ∈ scope.names, y.2 = .free → sc.names.lookup y.1 = some .cell ∨ sc.names.lookup y.1 = some .free
/-- the context of a generator expression's frame; s: the state ahead of it -/
abbrev gblk (X : Cx) (A : Around) (s : Shared) (H : Hp) (genv : Env) (fp : List Addr) (pn : List (Addr × Obj)) : Cx :=
  { X with A := A, s_0 := s, H_0 := H, env := genv, outer := X.stack, stack := genv :: X.stack, ex := fp, fn := fun _ => false, pn := pn, xe := fun _ _ => False }
section
variable {X : Cx} {pins : List (Addr × Obj)} {σ : L2.St} {H : Hp} {s s5 : Shared} {A : Around} {scope : Scope} {own : List (Str × Nat)} {fp : List Addr} {m0 : Str → Option Value} {code : Value}
theorem gen_clo (I : Inv X pins σ H s) (ok : GenOk X.N X.env.scope scope own) : ∀ y ∈ scope.names, y.2 = .free → ∃ c, X.env.cells.lookup y.1 = some c := fun y hy e =>
  (ok.free y hy e).elim (fun k => I.ok.has _ (.inl k)) (fun k => I.ok.has _ (.inr k))
theorem gen_cells (I : Inv X pins σ H s) (ok : GenOk X.N X.env.scope scope own) {y : Str} {c : Addr} (e : (cloFrom X.env.cells scope.names []).lookup y = some c) : X.env.cells.lookup y = some c ∧ scope.names.lookup y = some .free := by
  rcases cloFrom_mem (PySem.mem_of_lookup e) with z | ⟨z1, z2⟩
  · cases z
  · obtain ⟨d, hd⟩ := gen_clo I ok _ z1 rfl
    have hd : X.env.cells.lookup y = some d := hd
    rw [hd] at z2
    have : c = d := by simpa using z2
    subst this
    exact ⟨hd, ok.uniq _ z1⟩
theorem gen_has (I : Inv X pins σ H s) (ok : GenOk X.N X.env.scope scope own) {y : Str} (e : scope.names.lookup y = some .free) : ∃ c, (cloFrom X.env.cells scope.names []).lookup y = some c ∧ X.env.cells.lookup y = some c := by
  obtain ⟨c, q⟩ := mem_lookup (cloFrom_has (cells := X.env.cells) (acc := []) (PySem.mem_of_lookup e))
  exact ⟨c, q, (gen_cells I ok q).1⟩
/-- the frame as it begins -/
theorem gen_start (I : Inv X pins σ H s) (ok : GenOk X.N X.env.scope scope own) (hN : X.N.Nodup) (hfp : ∀ b ∈ fp, FpOk X pins H b ∧ b < s.heap.objs.size) (hA : A.handled = none)
    (hF : A.frames = some (genEnv scope (cloFrom X.env.cells scope.names []) s.heap.objs.size code builtinsNs X.env :: X.stack)) (ns : s5.heap.Ns s.heap.objs.size m0) (kp : ∀ b o, s.heap.get? b = some o → s5.heap.get? b = some o) (os : s5.os = s.os) (bare : AllBare s5.gens) {pn cp : List (Addr × Obj)} (hp : ∀ p ∈ pn ++ cp, s5.heap.get? p.1 = some p.2 ∧ s.heap.objs.size < p.1 ∧ ∀ v, p.2.data ≠ .cell v) :
    Inv (gblk X A s H (genEnv scope (cloFrom X.env.cells scope.names []) s.heap.objs.size code builtinsNs X.env) fp pn) cp (wipe σ (own.map (·.2))) H s5 := by
  have notC : ∀ y, scope.names.lookup y ≠ some .cell := fun y z => ok.cell _ (PySem.mem_of_lookup z) rfl
  have fpOut : ∀ b ∈ fp, ∀ y c, (cloFrom X.env.cells scope.names []).lookup y = some c → c ≠ b := fun b hb y c e => (hfp b hb).1.2.2.2.2.1 y c (gen_cells I ok e).1
  have okG : (gblk X A s H (genEnv scope (cloFrom X.env.cells scope.names []) s.heap.objs.size code builtinsNs X.env) fp pn).Ok := by
    refine ⟨I.ok.mod, ok.kind, I.ok.glob, rfl, Nat.le_refl _, fun y z c e1 e2 => ?_, fun y hy => ?_, fun y c z _ => absurd z Bool.false_ne_true, fun _ => hA, hF, .inr ⟨rfl, rfl⟩, fun b hb => ⟨Nat.ne_of_lt (hfp b hb).2, fun y c e => fpOut b hb y c e⟩, I.bs, Nat.le_trans I.ok.bsz I.sz, fun b o e hb => ?_, fun b hb z => ?_, I.stack, I.stkFree⟩
    · exact I.ok.inj y z c (gen_cells I ok e1).1 (gen_cells I ok e2).1
    · rcases hy with hy | hy
      · exact absurd hy (notC y)
      · obtain ⟨c, e, _⟩ := gen_has I ok hy
        exact ⟨c, e⟩
    · rcases (hfp b hb).1.2.2.2.1 with z | z
      · exact I.ok.noex b o e z
      · exact absurd (Nat.lt_of_lt_of_le (Heap.lt_size e) (Nat.le_trans I.ok.bsz z)) (Nat.lt_irrefl _)
    · rcases List.mem_cons.mp (I.stkSub b z) with z | z
      · exact (hfp b hb).1.2.1 z
      · exact (hfp b hb).1.2.2.1 z
  refine ⟨okG, os, bare, Un.kept kp, ⟨m0, ns, fun i y v e1 e2 e3 => ?_⟩, fun y c e => ?_, I.hok.fresh (Nat.le_refl _), fun y c e => I.freeC y c (gen_cells I ok e).1, fun p hq => ?_, I.hok.kept kp, by rw [wipe_length]; exact I.len⟩
  · obtain ⟨e2, hne⟩ := wipe_some e2
    have e1 : X.N[i]? = some y := e1
    have fr : scope.names.lookup y = some .free := by
      rcases e3 with z | z | z
      · exfalso
        have z : scope.names.lookup y = some .local := z
        rcases ok.own _ (PySem.mem_of_lookup z) rfl with q | q
        · obtain ⟨p, hp, hpy⟩ := List.mem_map.mp q
          have e := ok.ix p hp
          rw [show p.1 = y from hpy] at e
          exact hne (List.mem_map.mpr ⟨p, hp, nodup_ix hN e e1⟩)
        · exact q (List.mem_of_getElem? e1)
      · exact absurd z (notC y)
      · exact z
    obtain ⟨m, hn, hl⟩ := I.loc
    have hcf := ok.free _ (PySem.mem_of_lookup fr) rfl
    obtain ⟨u, r, q⟩ := hl i y v e1 e2 (hcf.elim (fun k => .inr (.inl k)) (fun k => .inr (.inr k)))
    obtain ⟨c, h1, h2⟩ := gen_has I ok fr
    refine ⟨u, r, .inr ⟨.inr fr, c, h1, ?_⟩⟩
    rcases q with ⟨k, _⟩ | ⟨_, c', e', z⟩
    · have k : X.env.scope.names.lookup y = some .local := k
      rcases hcf with k' | k' <;> rw [show X.env.scope.names.lookup y = _ from k'] at k <;> cases k
    · rw [h2] at e'
      cases e'
      exact z.keeps kp
  · obtain ⟨v, z⟩ := I.cell y c (gen_cells I ok e).1
    exact ⟨v, z.keeps kp⟩
  · obtain ⟨h1, h2, h3⟩ := hp p hq
    refine ⟨h1, I.hok.fresh (Nat.le_of_lt h2), Nat.ne_of_gt h2, fun z => ?_, h3⟩
    rcases List.mem_cons.mp (I.stkSub p.1 z) with q | q
    · rw [q] at h2
      exact absurd (Nat.lt_trans h2 I.lt) (Nat.lt_irrefl _)
    · exact I.nofs (Nat.le_of_lt h2) q
end

/-! ### between two items -/
/-- the consumer's own objects go from cp to cp'; all else is kept -/
structure Sleep (cp cp' : List (Addr × Obj)) (s s' : Shared) : Prop where
  os : s'.os = s.os
  bare : AllBare s'.gens
  adr : cp'.map (·.1) = cp.map (·.1)
  keep : ∀ b o, b ∉ cp.map (·.1) → s.heap.get? b = some o → s'.heap.get? b = some o
  own : ∀ p ∈ cp', s'.heap.get? p.1 = some p.2 ∧ ∀ v, p.2.data ≠ .cell v
/-- the consumer's objects stand apart -/
def Apt (X : Cx) (fp : List Addr) (cp : List (Addr × Obj)) : Prop :=
  (∀ b ∈ cp.map (·.1), X.s_0.heap.objs.size ≤ b ∧ b ≠ X.env.locals ∧ (∀ x c, X.env.cells.lookup x = some c → c ≠ b) ∧ b ∉ fp ∧ ∀ p ∈ X.pn, p.1 ≠ b)
section
variable {X : Cx} {cp cp' : List (Addr × Obj)} {σ : L2.St} {H : Hp} {s s' : Shared} {fp : List Addr}
theorem wake (I : Inv X cp σ H s) (ap : Apt X fp cp) (z : Sleep cp cp' s s') : Inv X cp' σ H s' := by
  have I0 : Inv X [] σ H s := I.pins_of fun p hp => by simp at hp
  have inC : ∀ b ∈ cp.map (·.1), H b = none ∧ b ∉ X.fs := fun b hb => by
    obtain ⟨p, hp, rfl⟩ := List.mem_map.mp hb
    obtain ⟨_, h2, _, h4, _⟩ := I.pin p (List.mem_append_right _ hp)
    exact ⟨h2, h4⟩
  have nt : ∀ b u, H b = some u → b ∉ cp.map (·.1) := fun b u q hb => by rw [(inC b hb).1] at q; cases q
  have nL : X.env.locals ∉ cp.map (·.1) := fun hb => (ap _ hb).2.1 rfl
  obtain ⟨z1, z2, z3, z4, z5⟩ := z
  obtain ⟨hh, g, d, t, o⟩ := s'
  obtain rfl : o = s.os := z1
  have there : ∀ b ob, s.heap.get? b = some ob → ∃ o', hh.get? b = some o' := fun b ob q => by
    by_cases hb : b ∈ cp.map (·.1)
    · rw [← z3] at hb
      obtain ⟨p, hp, rfl⟩ := List.mem_map.mp hb
      exact ⟨_, (z5 p hp).1⟩
    · exact ⟨_, z4 b ob hb q⟩
  have J : Inv X [] σ H { s with heap := hh, gens := g, drawn := d, toks := t } := by
    refine I0.step (g' := g) (t' := t) (d' := d) (ch := cp.map (·.1)) (fun b hb => ?_) (fun b ob _ _ hc q _ => z4 b ob hc q) (fun b ob _ _ hc q _ => ⟨ob.slots, z4 b ob hc q⟩) (fun _ _ _ _ n => n) (fun b ob _ q => there b ob q)
      (fun _ _ q => q) (fun _ _ _ q => q) (fun b ps q => ⟨#[], by rw [q]; simp⟩) (fun m hm => ?_) (fun b u q => ?_) z2
    · obtain ⟨a1, a2, a3, _, a5⟩ := ap b hb
      exact ⟨.inr a1, a2, a3, fun p hp => a5 p (by simpa using hp)⟩
    · obtain ⟨ob, es, ep, ho, r⟩ := hm
      exact ⟨ob, es, ep, z4 _ ob nL ho, r⟩
    · refine (I0.hok b u q).stay (fun c v hc y => z4 c v ?_ y) (fun _ y => y) fun _ _ y => y
      rcases hc with y | y
      · rw [y]; exact nt b u q
      · exact nt c _ y
  refine J.pins_of fun p hp => ?_
  have hb : p.1 ∈ cp.map (·.1) := by rw [← z3]; exact List.mem_map_of_mem hp
  exact ⟨(z5 p hp).1, (inC _ hb).1, (ap _ hb).2.1, (inC _ hb).2, (z5 p hp).2⟩
end

/-! ### the running of it -/
/-- an item is handed out: the rest may go on once the consumer has done its part -/
def GYk (Y : Cx) (fp ca : List Addr) (σw : L2.St) (W : Nat → Nat → List (Addr × Obj) → Hp → Prop) (Cs : Nat → Nat → List (Addr × Obj) → V → Hp → Prop) : Protocol := fun _ s₀ v s kap =>
  ∃ i m y H cp, RelV y v ∧ Inv Y cp σw H s ∧ cp.map (·.1) = ca ∧ (∀ p ∈ cp, s₀.heap.get? p.1 = some p.2) ∧ Cs i m cp y H ∧ ∀ s' cp' m', Sleep cp cp' s s' → m' < m → W (i + 1) m' cp' H → kap (.send .none) s'
/-- the end -/
def GFk (Y : Cx) (ca : List Addr) (σw : L2.St) (Fn : List (Addr × Obj) → Hp → Prop) (_ : Nat) (s₀ s : Shared) : Prop :=
  ∃ H cp, Inv Y cp σw H s ∧ cp.map (·.1) = ca ∧ (∀ p ∈ cp, s₀.heap.get? p.1 = some p.2) ∧ Fn cp H
def GRk (Y : Cx) (ca : List Addr) (σw : L2.St) (Fn : List (Addr × Obj) → Hp → Prop) : GenEnd := fun n s₀ r s =>
  ((r = .ok (.ret .none) ∨ r = .ok .next) ∧ GFk Y ca σw Fn n s₀ s) ∨ ∃ e, r = .error e ∧ False
section
variable {Y : Cx} {Aw : Around} {elt tg iter : Expr} {ifs : List Expr} {scope : Scope} {pos : Pos} {it : Addr} {fp ca : List Addr} {tn : Nat → Heap → Prop} {J : It} {g : TG} {tt : TT} {te : TE} {vs : List Nat} {σ : L2.St}
  {W : Nat → Nat → List (Addr × Obj) → Hp → Prop} {Cs : Nat → Nat → List (Addr × Obj) → V → Hp → Prop} {Fn : List (Addr × Obj) → Hp → Prop}
theorem gen_loop (hover : Aw.over (.compLoop (.GeneratorExp elt [⟨tg, iter, ifs, 0⟩] scope pos) 0 (.ref it) .none Y.env) [] = Y.A) (hc : Y.calm = true) (hco : Y.env.scope.isCoroutine = false) (hxe : Y.xe = fun _ _ => False)
    (T : Turn Y.prog Y.w Y.K tg J fp it tn) (hfx : ∀ b ∈ fp, b ∈ Y.ex) (hpn : ∀ p ∈ Y.pn, p.1 ∉ fp) (pg : PG Y tg g) (pt : PTs Y ifs tt) (pe : PE Y elt te)
    (apt : ∀ cp : List (Addr × Obj), cp.map (·.1) = ca → Apt Y fp cp)
    (turn : ∀ i m cp H, W i m cp H → (J.stop i H ∧ Fn cp H) ∨ (J.go i H ∧ ∃ Nx : Hp → Prop, (∀ H', Nx H' → ∃ m', m' < m ∧ W (i + 1) m' cp H') ∧ ∀ x H', J.yld i H x H' → g x (wipe σ vs) H' fun σ2 H2 => wipe σ2 vs = wipe σ vs ∧ tt σ2 H2 fun b H3 =>
      if b = true then te σ2 H3 fun y H4 => Cs i m cp y H4 else Nx H3)) :
    ∀ (m n i : Nat) (H : Hp) (s s₀ : Shared) (cp : List (Addr × Obj)), m < n → Inv Y cp (wipe σ vs) H s → cp.map (·.1) = ca → tn i s.heap → (∀ b ∈ fp, H b = none) → W i m cp H → (∀ p ∈ cp, s₀.heap.get? p.1 = some p.2) →
      Seg (model Y.prog Y.w) Aw (GRk Y ca (wipe σ vs) Fn) (GYk Y fp ca (wipe σ vs) W Cs) n s₀ (.compLoop (.GeneratorExp elt [⟨tg, iter, ifs, 0⟩] scope pos) 0 (.ref it) .none Y.env)
        ((model Y.prog Y.w).den (.compLoop (.GeneratorExp elt [⟨tg, iter, ifs, 0⟩] scope pos) 0 (.ref it) .none Y.env)) [] s := by
  intro m
  induction m using Nat.strongRecOn with
  | ind m ih =>
    intro n i H s s₀ cp hmn I hca st nfp w hs0
    have ap := apt cp hca
    have stat : ∀ {pins : List (Addr × Obj)} {σ' : L2.St} {H' : Hp} {s' : Shared}, Inv Y pins σ' H' s' → (∀ p ∈ pins, p.1 ∉ fp) → (∀ b ∈ fp, H' b = none) → ∀ b ∈ fp, FpOk Y pins H' b := fun {pins σ' H' s'} I' hp hn b hb =>
      ⟨hn b hb, (I'.ok.exf b (hfx b hb)).1, I'.ok.exfs b (hfx b hb), .inl (hfx b hb), fun x c e => (I'.ok.exf b (hfx b hb)).2 x c e, fun p hq => by
        rcases List.mem_append.mp hq with q | q
        · exact fun z => hpn p q (z ▸ hb)
        · exact fun z => hp p q (z ▸ hb)⟩
    have cpf : ∀ p ∈ cp, p.1 ∉ fp := fun p hp => (ap p.1 (List.mem_map_of_mem hp)).2.2.2.1
    show Seg _ Aw _ _ _ s₀ _ ((compTurn (.GeneratorExp elt [⟨tg, iter, ifs, 0⟩] scope pos) 0 (.ref it) .none Y.env).onRaise (leaving Y.env)) [] s
    rw [compTurn_gen, Sem.onRaise_eq_wrap]
    refine seg_bind_wrap (wpAny_standAt ?_)
    rcases turn i m cp H w with ⟨stop, q⟩ | ⟨go, Nx, hNx, step⟩
    · refine seg_bind_wrap ?_
      rw [hover]
      refine thnF (T.done Y rfl rfl rfl hc i cp s _ H (fun _ _ => False) I (stat I cpf nfp) st stop) fun r s6 ⟨hr, I6⟩ => ?_
      subst hr
      exact seg_end (.ok .next) (.inl ⟨.inr rfl, H, cp, I6, hca, hs0, q⟩)
    · refine seg_bind_wrap ?_
      rw [hover]
      refine thnF (T.item Y rfl rfl rfl hc i cp s _ H (fun _ _ => False) I (stat I cpf nfp) st go) fun r s6 ⟨u, hr, h6⟩ => ?_
      subst hr
      refine seg_bind_wrap ?_
      rw [hover]
      refine thnF h6 fun _ s7 ⟨x, H7, I7, r7, y7, st7, n7⟩ => ?_
      have I7' := I7.pinned (stat I7 cpf n7) (T.obj _ _ st7)
      refine seg_bind_wrap ?_
      rw [hover]
      have pgr := pg.run _ s7 _ H7 x u _ I7' r7 (step x H7 y7)
      rw [hxe] at pgr
      refine thnF pgr fun _ s8 ⟨σ8, H8, I8, hw8, q8⟩ => ?_
      refine seg_bind_wrap ?_
      rw [hover]
      have ptr := pt.run _ s8 σ8 H8 _ I8 q8
      rw [hxe] at ptr
      refine thnF ptr fun b s9 ⟨H9, I9, q9⟩ => ?_
      have back : ∀ {s' : Shared} {H' : Hp}, Inv Y (cp ++ pinsAt fp s7.heap) σ8 H' s' → Inv Y cp (wipe σ vs) H' s' ∧ tn (i + 1) s'.heap ∧ ∀ b ∈ fp, H' b = none := fun {s' H'} I' => by
        have pin' : ∀ b ∈ fp, ∀ o, s7.heap.get? b = some o → s'.heap.get? b = some o ∧ H' b = none := fun b hb o e =>
          let z := I'.pin (b, o) (List.mem_append_right _ (List.mem_append_right _ (mem_pinsAt hb e)))
          ⟨z.1, z.2.1⟩
        have hl : (wipe σ vs).length = σ8.length := by rw [← hw8, wipe_length]
        refine ⟨(I'.unpinned (pins := cp)).weak hl (fun j v e => ?_), T.keep _ _ _ st7 fun b hb o e => (pin' b hb o e).1, fun b hb => ?_⟩
        · rw [← hw8] at e
          exact (wipe_some e).1
        · obtain ⟨o, e, _⟩ := T.obj _ _ st7 b hb
          exact (pin' b hb o e).2
      cases b with
      | false =>
        simp only [Bool.false_eq_true, if_false] at q9 ⊢
        obtain ⟨J1, J2, J3⟩ := back I9
        obtain ⟨m', hm', w'⟩ := hNx _ q9
        exact seg_again rfl (ih m' hm' n (i + 1) H9 s9 s₀ cp (Nat.lt_trans hm' hmn) J1 hca J2 J3 w' hs0)
      | true =>
        simp only [if_true] at q9 ⊢
        have hy : ∀ v, yieldOut Y.env v = yieldValue v := fun v => by simp only [yieldOut, hco, Bool.false_eq_true, if_false]
        simp only [hy]
        rw [Sem.bind_eq_wrap', Sem.bind_eq_wrap', Sem.wrap_wrap, Sem.wrap_wrap]
        refine seg_wrap ?_
        rw [hover]
        have per := pe.run _ s9 σ8 H9 _ I9 q9
        rw [hxe] at per
        refine thnF per fun z s10 ⟨yv, H10, I10, r10, c10⟩ => ?_
        obtain ⟨J1, J2, J3⟩ := back I10
        cases n with
        | zero => omega
        | succ n =>
          refine seg_at (seg_yield rfl rfl rfl ⟨i, m, yv, H10, cp, r10, J1, hca, hs0, c10, fun s' cp' m' sl hm' w' => ?_⟩)
          refine seg_again rfl (ih m' hm' n (i + 1) H10 s' s' cp' (by omega) (wake J1 ap sl) (sl.adr.trans hca) (T.keep _ _ _ J2 fun b hb o e => sl.keep b o (fun z => ?_) e) J3 w' fun p hp => (sl.own p hp).1)
          exact (ap b z).2.2.2.1 hb
theorem gen_begin (hover : Aw.over (.compStart (.GeneratorExp elt [⟨tg, iter, ifs, 0⟩] scope pos) 0 (.ref it) .none Y.env) [] = Y.A) (T : Turn Y.prog Y.w Y.K tg J fp it tn) {n : Nat} {s s₀ : Shared} {i : Nat} (st : tn i s.heap) {R : GenEnd} {P : Protocol}
    (loop : Seg (model Y.prog Y.w) Aw R P n s₀ (.compLoop (.GeneratorExp elt [⟨tg, iter, ifs, 0⟩] scope pos) 0 (.ref it) .none Y.env) ((model Y.prog Y.w).den (.compLoop (.GeneratorExp elt [⟨tg, iter, ifs, 0⟩] scope pos) 0 (.ref it) .none Y.env)) [] s) :
    Seg (model Y.prog Y.w) Aw R P n s₀ (.compStart (.GeneratorExp elt [⟨tg, iter, ifs, 0⟩] scope pos) 0 (.ref it) .none Y.env) ((model Y.prog Y.w).den (.compStart (.GeneratorExp elt [⟨tg, iter, ifs, 0⟩] scope pos) 0 (.ref it) .none Y.env)) [] s := by
  show Seg _ Aw _ _ _ s₀ _ ((compStart (.GeneratorExp elt [⟨tg, iter, ifs, 0⟩] scope pos) 0 (.ref it) .none Y.env).onRaise (leaving Y.env)) [] s
  unfold compStart
  rw [Sem.onRaise_eq_wrap]
  show Seg _ Aw _ _ _ s₀ _ ((ask >>= _).wrap _ _ _ _) [] s
  refine seg_bind_wrap (wpAny_askSetting ?_)
  split
  · exact seg_again rfl loop
  · refine seg_bind_wrap (wpAny_rule ?_)
    show Seg _ Aw _ _ _ s₀ _ ((standAt iter.pos >>= _).wrap _ _ _ _) [] s
    exact seg_bind_wrap (wpAny_standAt (seg_bind_wrap (T.self _ i s _ _ st (seg_again rfl loop))))
theorem over_start {A : Around} {env : Env} : A.over (.compStart (.GeneratorExp elt [⟨tg, iter, ifs, 0⟩] scope pos) 0 (.ref it) .none env) [] = A.deeper env := by
  first
    | rfl
    | (obtain ⟨hd, d, fr, gs, u⟩ := A; simp [Around.over, Around.deeper, marksOver, frameCount, unitsOf, envsOf, guardsOf, pushEnvs, pushGuards, Code.envs, Code.env?, Code.isFrame, Code.guards, Code.isGuard, Code.weight, Code.frames, Code.isCreation, Code.isCaller, Code.cUnits])
theorem over_turn {A : Around} {env : Env} : A.over (.compLoop (.GeneratorExp elt [⟨tg, iter, ifs, 0⟩] scope pos) 0 (.ref it) .none env) [] = A.deeper env := by
  first
    | rfl
    | (obtain ⟨hd, d, fr, gs, u⟩ := A; simp [Around.over, Around.deeper, marksOver, frameCount, unitsOf, envsOf, guardsOf, pushEnvs, pushGuards, Code.envs, Code.env?, Code.isFrame, Code.guards, Code.isGuard, Code.weight, Code.frames, Code.isCreation, Code.isCaller, Code.cUnits])
end
end DL

set_option Elab.async false
set_option linter.all false
set_option maxRecDepth 100000
set_option maxHeartbeats 4000000
/-! DL15: generator expressions are made and consumed. -/
namespace DL
open PySem PySem.Spec PyProof.Rows L2 RZ

/-- a generator that has not begun: what it does when it is woken; H: what is held -/
structure GMk (X : Cx) (pins : List (Addr × Obj)) (σ : L2.St) (H : Hp) (tg elt : Expr) (ifs : List Expr) (scope : Scope) (own : List (Str × Nat)) (J : It) (a : Addr) (g : Nat) (genv : Env) (fp : List Addr) (sc : Shared) (go : Obj) (c : Code) (s' : Shared) : Prop where
  env : ∃ C code, genv = genEnv scope (cloFrom X.env.cells scope.names []) C code builtinsNs X.env
  inv : Inv X pins σ H sc
  fpok : ∀ b ∈ fp, FpOk X pins H b
  size : sc.heap.objs.size < a ∧ a < s'.heap.objs.size
  gen : ∀ h : Heap, h.get? a = some go → h.IsGen a g
  obj : s'.heap.get? a = some go
  gens : s'.gens[g]? = some (.fresh c)
  kept : ∀ b o, sc.heap.get? b = some o → s'.heap.get? b = some o
  os : s'.os = sc.os
  bare : AllBare s'.gens
  run : ∀ (Aw : Around) (cp : List (Addr × Obj)) (s2 : Shared), Aw.handled = none → Aw.frames = some X.stack → (∀ p ∈ cp, s'.heap.objs.size ≤ p.1 ∧ s2.heap.get? p.1 = some p.2 ∧ ∀ v, p.2.data ≠ .cell v) → (∀ b o, s'.heap.get? b = some o → s2.heap.get? b = some o) → s2.os = s'.os → AllBare s2.gens →
    ∀ (gt : TG) (tt : TT) (te : TE), PG (gblk X (Aw.deeper genv) sc H genv fp [(a, go)]) tg gt → PTs (gblk X (Aw.deeper genv) sc H genv fp [(a, go)]) ifs tt → PE (gblk X (Aw.deeper genv) sc H genv fp [(a, go)]) elt te →
    ∀ (W : Nat → Nat → List (Addr × Obj) → Hp → Prop) (Cs : Nat → Nat → List (Addr × Obj) → V → Hp → Prop) (Fn : List (Addr × Obj) → Hp → Prop) (m : Nat),
      (∀ i m cp H, W i m cp H → (J.stop i H ∧ Fn cp H) ∨ (J.go i H ∧ ∃ Nx : Hp → Prop, (∀ H', Nx H' → ∃ m', m' < m ∧ W (i + 1) m' cp H') ∧ ∀ x H', J.yld i H x H' → gt x (wipe σ (own.map (·.2))) H' fun σ2 H2 => wipe σ2 (own.map (·.2)) = wipe σ (own.map (·.2)) ∧ tt σ2 H2 fun b H3 =>
        if b = true then te σ2 H3 fun y H4 => Cs i m cp y H4 else Nx H3)) → W 0 m cp H →
      Seg (model X.prog X.w) Aw (GRk (gblk X (Aw.deeper genv) sc H genv fp [(a, go)]) (cp.map (·.1)) (wipe σ (own.map (·.2))) Fn) (GYk (gblk X (Aw.deeper genv) sc H genv fp [(a, go)]) fp (cp.map (·.1)) (wipe σ (own.map (·.2))) W Cs) (m + 1) s2 c ((model X.prog X.w).den c) [] s2
section
variable {X : Cx} {pins : List (Addr × Obj)} {σ : L2.St} {H : Hp} {s : Shared} {tg elt iter : Expr} {ifs : List Expr} {scope : Scope} {own : List (Str × Nat)} {pos : Pos}
/-- back in the def's own context -/
theorem GMk.leave {J : It} {a : Addr} {g : Nat} {genv : Env} {fp : List Addr} {sc : Shared} {go : Obj} {c : Code} {s' : Shared} (G : GMk X pins σ H tg elt ifs scope own J a g genv fp sc go c s') {A : Around} {cp : List (Addr × Obj)} {σ' : L2.St} {H' : Hp} {s2 : Shared}
    (I : Inv (gblk X A sc H genv fp [(a, go)]) cp σ' H' s2) : Inv X pins σ H' s2 :=
  G.inv.call' (ch := fp) I.os I.base I.hok I.bare fun b hb => ⟨(G.fpok b hb).2.2.2.1, (G.fpok b hb).2.1, (G.fpok b hb).2.2.2.2.1, (G.fpok b hb).2.2.2.2.2⟩
theorem gen_make {wi : TI} {k : Nat} {cA P : Addr} {Q' : Value → Shared → Prop} {R : It → Hp → Prop} (hr : Room k X.A) (TB : GxR.TabB X.base X.mg cA P) (hcode : X.env.code = .ref cA) (ok : GenOk X.N X.env.scope scope own) (hN : X.N.Nodup) (hc : X.calm = true)
    (hi : PI X tg iter wi) (hs : ∀ v, genFold iter X.env v = pure v) (I : Inv X pins σ H s) (h : wi σ H fun J H1 => GxR.TabG H1 P ∧ R J H1)
    (hQ : ∀ J H1 H2 a g genv fp sc go c s', R J H1 → GxR.Tabbed P H1 H2 → GMk X pins σ H2 tg elt ifs scope own J a g genv fp sc go c s' → Q' (.ref a) s') :
    wpAny (model X.prog X.w) X.A (eval (.GeneratorExp elt [⟨tg, iter, ifs, 0⟩] scope pos) X.env) Q' X.xe s := by
  refine wpAny_GeneratorExp_make ok.co (closure_ok (gen_clo I ok)) ok.cell ok.dot ok.kind (by have := hr.dp; omega) ?_ hs
  refine thn (hi.run pins s σ H _ I h) fun xv s1 hx => thn hx fun itv s2 h2 => ?_
  obtain ⟨it, fp, tn, J, H1, rfl, I1, T, st, hf, ⟨ps, hP, ht⟩, q⟩ := h2
  refine ⟨I1.nolimit, ?_⟩
  have hPs : s2.heap.get? P = some { cls := .none, data := .fields ps } := I1.hok P _ hP
  have fpP : ∀ b ∈ fp, b ≠ P := fun b hb z => by
    have := (hf b hb).1
    rw [z, hP] at this
    cases this
  have cd : PySem.W.CodeHd s2.heap cA P := TB.code.keeps fun b u e => I1.bk b u e
  have rest : ∀ (code : Value) (h3 : Heap) (tk : Nat) (more : Array Value), Heap.ExtBut P s2.heap h3 → s2.heap.objs.size ≤ h3.objs.size → h3.get? P = some { cls := .none, data := .fields (ps ++ more) } → TriplesOk (ps ++ more).toList →
      wpAny (model X.prog X.w) X.A (builtinsFor X.env.globals X.env.builtins) (fun bi s₄ => ∀ h', h'.Ns s₄.heap.objs.size (fun y => if y = ".0" then some (.ref it) else none) → Heap.SameBut s₄.heap.objs.size (s₄.heap.push { cls := .type "frame", data := .dict #[] }) h' →
        Q' (.ref h'.objs.size) { s₄ with
          gens := s₄.gens.push (.fresh (.compStart (.GeneratorExp elt [⟨tg, iter, ifs, 0⟩] scope pos) 0 (.ref it) .none (genEnv scope (cloFrom X.env.cells scope.names []) s₄.heap.objs.size code bi X.env))),
          toks := s₄.toks + 1 + 1 + 1,
          heap := h'.push { cls := .type "generator", data := .fields #[.int s₄.gens.size 0, .str "<genexpr>" (s₄.toks + 1), .str (X.env.qual ++ "<genexpr>") (s₄.toks + 1 + 1)] } }) X.xe { s2 with heap := h3, toks := tk } := by
    intro code h3 tk more hx hsz hP3 ht3
    obtain ⟨bm, ob, e1, e2, e3, e4, e5, e6, e7, e8⟩ := TB.bm
    have keep3 : ∀ b u, b ≠ P → s2.heap.get? b = some u → h3.get? b = some u := fun b u hb e => hx b u hb e
    have I3 : Inv X pins σ (upd H1 P (.tbl (ps ++ more))) { s2 with heap := h3, toks := tk } := GxR.inv_tab (g' := s2.gens) (d' := s2.drawn) (t' := tk) I1 hP keep3 hP3 I1.bare
    refine wpAny_builtinsFor (m := X.mg) (by rw [I1.ok.glob]; exact (I1.mod.glob.keeps I1.bk).extBut hx TB.gP) e1 e2 (keep3 _ _ e4 (I1.bk _ _ e5)) e6 e7 e8 ?_
    intro h' hns hsb
    have sz' : h'.objs.size = h3.objs.size + 1 := by rw [hsb.1, Heap.size_push]
    have lt3 : ∀ b o, h3.get? b = some o → b ≠ h3.objs.size := fun b o e => Nat.ne_of_lt (Heap.lt_size e)
    have k4 : ∀ b o, h3.get? b = some o → h'.get? b = some o := fun b o e => (hsb.2 b (lt3 b o e)).trans (Heap.get?_push_of_some _ e)
    have fpl : ∀ b ∈ fp, b < s2.heap.objs.size := fun b hb => by
      obtain ⟨o, e, _⟩ := T.obj _ _ st b hb
      exact Heap.lt_size e
    have fp2 : ∀ b ∈ fp, FpOk X pins (upd H1 P (.tbl (ps ++ more))) b := fun b hb => ⟨by rw [upd_ne (fpP b hb)]; exact (hf b hb).1, (hf b hb).2⟩
    refine hQ J H1 (upd H1 P (.tbl (ps ++ more))) h'.objs.size s2.gens.size (genEnv scope (cloFrom X.env.cells scope.names []) h3.objs.size code builtinsNs X.env) fp { s2 with heap := h3, toks := tk }
      { cls := .type "generator", data := .fields #[.int s2.gens.size 0, .str "<genexpr>" (tk + 1), .str (X.env.qual ++ "<genexpr>") (tk + 1 + 1)] } _ _ q ⟨⟨_, upd_same, ht3⟩, fun b hb => upd_ne hb⟩
      ⟨⟨_, code, rfl⟩, I3, fp2, ⟨by show h3.objs.size < _; omega, by show _ < (h'.push _).objs.size; rw [Heap.size_push]; exact Nat.lt_succ_self _⟩, fun h e => ⟨_, _, _, e, rfl, rfl, rfl⟩, Heap.get?_push_size _ rfl, Array.getElem?_push_size .., fun b o e => Heap.get?_push_of_some _ (k4 b o e), rfl, AllBare.push I1.bare rfl, ?_⟩
    intro Aw cp s9 hh hfr hcp hk hos hba gt tt te pg pt pe W Cs Fn m turn w0
    have ce : ∀ b ∈ cp.map (·.1), h'.objs.size + 1 ≤ b := fun b hb => by
      obtain ⟨p, hp, rfl⟩ := List.mem_map.mp hb
      have z : (h'.push _).objs.size ≤ p.1 := (hcp p hp).1
      rw [Heap.size_push] at z
      exact z
    have IY := gen_start (A := Aw.deeper (genEnv scope (cloFrom X.env.cells scope.names []) h3.objs.size code builtinsNs X.env)) (own := own) (fp := fp) (code := code) (s5 := s9) (m0 := fun y => if y = ".0" then some (.ref it) else none)
      (pn := [(h'.objs.size, { cls := .type "generator", data := .fields #[.int s2.gens.size 0, .str "<genexpr>" (tk + 1), .str (X.env.qual ++ "<genexpr>") (tk + 1 + 1)] })]) (cp := cp)
      I3 ok hN (fun b hb => ⟨fp2 b hb, Nat.lt_of_lt_of_le (fpl b hb) hsz⟩) hh (Around.frames_deeper hfr) ((hns.keeps fun b o e => Heap.get?_push_of_some _ e).keeps hk) (fun b o e => hk b o (Heap.get?_push_of_some _ (k4 b o e))) hos hba (fun p hp => by
        rcases List.mem_append.mp hp with z | z
        · rw [List.mem_singleton.mp z]
          exact ⟨hk _ _ (Heap.get?_push_size _ rfl), by show h3.objs.size < _; omega, fun v q => by cases q⟩
        · have := ce p.1 (List.mem_map_of_mem z)
          exact ⟨(hcp p z).2.1, by show h3.objs.size < _; omega, (hcp p z).2.2⟩)
    have st9 : tn 0 s9.heap := T.keep _ _ _ st fun b hb o e => hk b o (Heap.get?_push_of_some _ (k4 b o (keep3 b o (fpP b hb) e)))
    refine gen_begin (Y := gblk X _ _ _ _ fp _) over_start T st9 (gen_loop (Y := gblk X _ _ _ _ fp _) over_turn hc ok.co rfl T (fun b hb => hb) (fun p hp => ?_) pg pt pe (fun cp' e' => ?_) turn m (m + 1) 0 _ s9 s9 cp (Nat.lt_succ_self _) IY rfl st9 (fun b hb => (fp2 b hb).1) w0 fun p hp => (hcp p hp).2.1)
    · rw [List.mem_singleton.mp hp]
      intro z
      have := fpl _ z
      have z2 : h'.objs.size < s2.heap.objs.size := this
      omega
    · intro b hb
      rw [e'] at hb
      have zb := ce b hb
      refine ⟨by show h3.objs.size ≤ b; omega, by show b ≠ h3.objs.size; omega, fun x c e z => ?_, fun z => ?_, fun p hp z => ?_⟩
      · obtain ⟨v, o, ho, _⟩ := I3.cell x c (gen_cells I3 ok e).1
        have q : c < h3.objs.size := Heap.lt_size ho
        rw [z] at q
        exact absurd (Nat.lt_of_lt_of_le q (Nat.le_trans (Nat.le_of_lt (by omega : h3.objs.size < h'.objs.size + 1)) zb)) (Nat.lt_irrefl _)
      · have q : b < s2.heap.objs.size := fpl b z
        omega
      · rw [List.mem_singleton.mp hp] at z
        have z : h'.objs.size = b := z
        omega
  cases hf2 : codeAmong pos ps.toList with
  | none =>
    refine wpAny_genexprCodeX hcode (cd.code hPs ht) (cd.tab hPs) hf2 fun c' h' tk hx hge hlt hco' _ htab' _ => ?_
    obtain ⟨o1, vs, f1, tf, fl, tg', inF, tx, tt', op, _, _, _, _, _, _, _, _, _, htr, _⟩ := hco'
    exact rest _ h' tk _ hx (Nat.le_trans hge (Nat.le_of_lt hlt)) htab'.2 htr
  | some cv =>
    refine wpAny_genexprCode_hit hcode (cd.code hPs ht) hf2 ?_
    exact rest cv s2.heap s2.toks #[] (Heap.ExtBut.refl _ _) (Nat.le_refl _) (by simpa using hPs) (by simpa using ht)
end
end DL

set_option Elab.async false
set_option linter.all false
set_option maxRecDepth 100000
set_option maxHeartbeats 4000000
/-! DL16: what a generator hands out is put into a list, a tuple. -/
namespace DL
open PySem PySem.Spec PyProof.Rows L2 RZ GenW

section
variable {X : Cx} {pins : List (Addr × Obj)} {σ : L2.St} {H : Hp} {tg elt : Expr} {ifs : List Expr} {scope : Scope} {own : List (Str × Nat)} {J : It} {a : Addr} {g : Nat} {genv : Env} {fp : List Addr} {sc : Shared} {go : Obj} {c : Code} {s' : Shared}
/-- the list is being filled -/
def Wl (S : Addr) (Φ : Nat → Nat → List V → Hp → Prop) : Nat → Nat → List (Addr × Obj) → Hp → Prop := fun i m cp H => ∃ acc n ys, cp = [(S, lstObj acc n)] ∧ Vals ys acc.toList ∧ Φ i m ys H
def Cl' (S : Addr) (Φ : Nat → Nat → List V → Hp → Prop) : Nat → Nat → List (Addr × Obj) → V → Hp → Prop := fun i m cp y H => ∃ acc n ys m', cp = [(S, lstObj acc n)] ∧ Vals ys acc.toList ∧ ys.length < sizeLine ∧ m' < m ∧ Φ (i + 1) m' (ys ++ [y]) H
def Fl (S : Addr) (Fin : List V → Hp → Prop) : List (Addr × Obj) → Hp → Prop := fun cp H => ∃ acc n ys, cp = [(S, lstObj acc n)] ∧ Vals ys acc.toList ∧ ys.length ≤ sizeLine ∧ Fin ys H
theorem fill (G : GMk X pins σ H tg elt ifs scope own J a g genv fp sc go c s') {B A : Around} {S : Addr} {res : Value} {Φ : Nat → Nat → List V → Hp → Prop} {Fin : List V → Hp → Prop} {R : Result → Shared → Prop} (hh : A.handled = none) (hd : A.depth < recursionLimit) (hSa : S ≠ a) (hSc : S ≠ cStatics)
    (hend : ∀ s2 acc n H' ys, s2.heap.get? S = some (lstObj acc n) → Vals ys acc.toList → ys.length ≤ sizeLine → Inv X pins σ H' s2 → H' S = none → Fin ys H' → R (.ok (.ret res)) s2) :
    ∀ (m : Nat) (s : Shared), s.heap.IsGen a g → s.heap.NoLimit →
      (∃ gs, s.gens[g]? = some gs ∧ gs.Goes (model X.prog X.w) A.in1.in1 (GRk (gblk X B sc H genv fp [(a, go)]) [S] (wipe σ (own.map (·.2))) (Fl S Fin)) (GYk (gblk X B sc H genv fp [(a, go)]) fp [S] (wipe σ (own.map (·.2))) (Wl S Φ) (Cl' S Φ)) m (.send .none) (s.setGen g .running)) →
      codeAny (model X.prog X.w) A (.builtin "list.extend.loop" ⟨[.ref S, .ref a, res], []⟩) R s := by
  -- the consumer's part
  have push : ∀ {s₁ : Shared} {H2 : Hp} {acc : Array Value} {n : Nat} {v : Value} {gn : Array GenState}, Inv (gblk X B sc H genv fp [(a, go)]) [(S, lstObj acc n)] (wipe σ (own.map (·.2))) H2 s₁ → AllBare gn →
      ∃ n', Sleep [(S, lstObj acc n)] [(S, lstObj (acc.push v) n')] s₁ { s₁ with gens := gn, heap := s₁.heap.update S (Obj.mapSeq (·.push v)) } := fun {s₁ H2 acc n v gn} I2 hb => by
    have hS := (I2.pin (S, lstObj acc n) (List.mem_append_right _ List.mem_cons_self)).1
    obtain ⟨n', e'⟩ : ∃ n', (s₁.heap.update S (Obj.mapSeq (·.push v))).get? S = some (lstObj (acc.push v) n') := ⟨_, Heap.get?_update_self _ hS rfl⟩
    refine ⟨n', ⟨rfl, hb, rfl, fun b o hb e => (Heap.get?_update_other _ _ (fun z => hb (by rw [← z]; exact List.mem_cons_self))).trans e, fun p hp => ?_⟩⟩
    rw [List.mem_singleton.mp hp]
    exact ⟨e', fun v z => by cases z⟩
  have ends : ∀ {s₀ s₁ : Shared} {m : Nat} {h' : Heap}, GFk (gblk X B sc H genv fp [(a, go)]) [S] (wipe σ (own.map (·.2))) (Fl S Fin) m s₀ s₁ → (∀ b o, s₁.heap.get? b = some o → h'.get? b = some o) → R (.ok (.ret res)) { s₁.setGen g .finished with heap := h' } := fun {s₀ s₁ m h'} hp hk => by
    obtain ⟨H2, cp, I2, hca, hs0, acc, n, ys, rfl, rys, hl, fin⟩ := hp
    obtain ⟨p1, p2, _⟩ := I2.pin (S, lstObj acc n) (List.mem_append_right _ List.mem_cons_self)
    have I3 := G.leave I2
    refine hend _ acc n H2 ys (hk _ _ p1) rys hl ?_ p2 fin
    exact I3.call' (ch := []) rfl (Un.kept hk) (I3.hok.kept hk) (allBare_setGen I3.bare rfl) fun b z => by simp at z
  intro m
  induction m with
  | zero =>
    intro s hg hl ⟨gs, hgs, hgo⟩
    refine codeAny_builtin F.entry_extend_loop ?_
    rw [Around.under_plainId F.plain_extend_loop _]
    show wpAny _ A.in1 (pyNext (.ref a) >>= _) _ _ s
    refine wpAny_bind (next_genG (A := A.in1) hh hl hd hg hgs hgo (fun v s₁ gs' hbare hv => ?_) (fun s₁ hp h' hk => ?_) fun e s₁ he => he.elim)
    · obtain ⟨i, mm, y, H2, cp, r, I2, hca, hs0, ⟨acc, n, ys, m', rfl, rys, hlen, hm', ph⟩, hk⟩ := hv
      obtain ⟨n', sl⟩ := push (v := v) I2 I2.bare
      exact False.elim (hk _ _ m' sl hm' ⟨_, _, _, rfl, by rw [Array.toList_push]; exact rys.append (.cons r .nil), ph⟩)
    · exact wpAny_pure (ends hp hk)
  | succ m ih =>
    intro s hg hl ⟨gs, hgs, hgo⟩
    have hgl : g < s.gens.size := (Array.getElem?_eq_some_iff.mp hgs).1
    refine codeAny_builtin F.entry_extend_loop ?_
    rw [Around.under_plainId F.plain_extend_loop _]
    show wpAny _ A.in1 (pyNext (.ref a) >>= _) _ _ s
    refine wpAny_bind (wpAny_gsz (n := g + 1) hgl (next_genG (A := A.in1) hh hl hd hg hgs hgo (fun v s₁ gs' hbare hv => ?_) (fun s₁ hp h' hk => ?_) fun e s₁ he => he.elim))
    · intro hsz
      obtain ⟨i, mm, y, H2, cp, r, I2, hca, hs0, ⟨acc, n, ys, m', rfl, rys, hlen, hm', ph⟩, hk⟩ := hv
      have hS := (I2.pin (S, lstObj acc n) (List.mem_append_right _ List.mem_cons_self)).1
      have hA := (I2.pin (a, go) (List.mem_append_left _ List.mem_cons_self)).1
      have hacc : acc.size < sizeLine := by
        have := rys.length
        have e : acc.toList.length = acc.size := by simp
        omega
      have keep3 : ∀ b o, b ≠ S → s₁.heap.get? b = some o → (s₁.heap.update S (Obj.mapSeq (·.push v))).get? b = some o := fun b o hb e => (Heap.get?_update_other _ _ (Ne.symm hb)).trans e
      have hsz1 : g < s₁.gens.size := by
        have q : (s₁.setGen g gs').gens.size = s₁.gens.size := setGen_size _ _ _
        have hsz' : g + 1 ≤ (s₁.setGen g gs').gens.size := hsz
        omega
      show wpAny _ A.in1 (updateSeq S (·.push v) >>= _) _ _ _
      refine wpAny_bind ?_
      refine wpAny_updateSeq hS rfl (wpAny_pure ⟨plainId_quiet F.plain_extend_loop _, ?_⟩) (Nat.le_of_lt hacc) (by show (acc.push v).size ≤ sizeLine + 1; rw [Array.size_push]; omega)
      refine ih { s₁.setGen g gs' with heap := s₁.heap.update S (Obj.mapSeq (·.push v)) } (G.gen _ (keep3 a go (Ne.symm hSa) hA)) ?_ ⟨gs', setGen_at hsz1, ?_⟩
      · obtain ⟨mc, hns, hnn⟩ := I2.nolimit
        exact ⟨mc, hns.at' fun o e => keep3 _ o (Ne.symm hSc) e, hnn⟩
      · obtain ⟨n', sl⟩ := push (v := v) (gn := ({ s₁.setGen g gs' with heap := s₁.heap.update S (Obj.mapSeq (·.push v)) } : Shared).setGen g .running |>.gens) I2 (allBare_setGen (s := { s₁.setGen g gs' with heap := _ }) (allBare_setGen I2.bare hbare) rfl)
        exact hk _ _ m' sl hm' ⟨_, _, _, rfl, by rw [Array.toList_push]; exact rys.append (.cons r .nil), ph⟩
    · intro hsz
      exact wpAny_pure (ends hp hk)
/-- what is asked of the generator's parts -/
def Parts (X : Cx) (k : Nat) (sc : Shared) (H : Hp) (genv : Env) (fp : List Addr) (a : Addr) (go : Obj) (tg elt : Expr) (ifs : List Expr) (gt : TG) (tt : TT) (te : TE) : Prop :=
  ∀ Aw : Around, Room k Aw → Aw.frames = some X.stack → PG (gblk X (Aw.deeper genv) sc H genv fp [(a, go)]) tg gt ∧ PTs (gblk X (Aw.deeper genv) sc H genv fp [(a, go)]) ifs tt ∧ PE (gblk X (Aw.deeper genv) sc H genv fp [(a, go)]) elt te
def TurnL (J : It) (S : Addr) (σw : L2.St) (vs : List Nat) (gt : TG) (tt : TT) (te : TE) (Φ : Nat → Nat → List V → Hp → Prop) (Fin : List V → Hp → Prop) : Prop :=
  ∀ i m cp H, Wl S Φ i m cp H → (J.stop i H ∧ Fl S Fin cp H) ∨ (J.go i H ∧ ∃ Nx : Hp → Prop, (∀ H', Nx H' → ∃ m', m' < m ∧ Wl S Φ (i + 1) m' cp H') ∧ ∀ x H', J.yld i H x H' → gt x σw H' fun σ2 H2 => wipe σ2 vs = σw ∧ tt σ2 H2 fun b H3 =>
    if b = true then te σ2 H3 fun y H4 => Cl' S Φ i m cp y H4 else Nx H3)
theorem collectG {k : Nat} (G : GMk X pins σ H tg elt ifs scope own J a g genv fp sc go c s') {A : Around} {gt : TG} {tt : TT} {te : TE} {Φ : Nat → Nat → List V → Hp → Prop} {Fin : List V → Hp → Prop} {m : Nat} {Q : List Value → Shared → Prop} {E : Value → Shared → Prop}
    (hr : Room (k + 3) A) (hfr : A.frames = some X.stack) (pp : Parts X k sc H genv fp a go tg elt ifs gt tt te)
    (turn : ∀ S, H S = none → TurnL J S (wipe σ (own.map (·.2))) (own.map (·.2)) gt tt te Φ Fin) (w0 : Φ 0 m [] H)
    (hend : ∀ s2 ys acc H', Inv X pins σ H' s2 → Vals ys acc → ys.length ≤ sizeLine → Fin ys H' → Q acc s2) : wpAny (model X.prog X.w) A (collect (.ref a)) Q E s' := by
  have hg : s'.heap.IsGen a g := G.gen _ G.obj
  have lim : s'.heap.NoLimit := G.inv.nolimit.keeps G.kept
  have hSI : s'.heap.objs.size ≠ a := Nat.ne_of_gt G.size.2
  have hSc : s'.heap.objs.size ≠ cStatics := Nat.ne_of_gt (let ⟨_, hns, _⟩ := lim; hns.lt)
  unfold collect
  refine wpAny_bind (wpAny_runValue (codeAny_builtin F.entry_proto_collect ?_))
  rw [Around.under_plainId F.plain_proto_collect _]
  show wpAny _ A.in1 (newList [] >>= fun l => again (.builtin "list.__iadd__" ⟨[l, .ref a], []⟩)) _ _ s'
  refine wpAny_bind (wpAny_newObj_type ?_)
  refine wpAny_pure ⟨plainId_quiet F.plain_list_iadd _, codeAny_builtin F.entry_list_iadd ?_⟩
  rw [Around.under_plainId F.plain_list_iadd _]
  have push1 : ∀ b o, s'.heap.get? b = some o → (s'.heap.push { cls := .type "list", data := .seq ([] : List Value).toArray }).get? b = some o := fun b o e => Heap.get?_push_of_some _ e
  have gen1 : (s'.heap.push { cls := .type "list", data := .seq ([] : List Value).toArray }).IsGen a g := G.gen _ (push1 a go G.obj)
  show wpAny _ A.in1 (Builtin.List.listExtendWith (.ref s'.heap.objs.size) (.ref a) (.ref s'.heap.objs.size)) _ _ _
  unfold Builtin.List.listExtendWith
  refine wpAny_bind (wpAny_typeOf (Heap.IsGen.typeIs (s := { s' with heap := _ }) gen1) ?_)
  have e1 : Builtin.List.listSameRef (.ref s'.heap.objs.size) (.ref a) = false := by simp [Builtin.List.listSameRef, hSI]
  have e2 : (Value.type "generator" == Value.type "list") = false := by decide
  have e3 : (Value.type "generator" == Value.type "tuple") = false := by decide
  simp only [e1, e2, e3, Bool.or_false, Bool.false_eq_true, if_false]
  refine wpAny_bind (wpAny_pyIter_gen (s := { s' with heap := _ }) gen1 ?_)
  refine wpAny_bind (wpAny_holding ?_)
  unfold Builtin.List.listLengthHint
  refine wpAny_bind (wpAny_specialOf (Heap.IsGen.typeIs (s := { s' with heap := _ }) gen1) F.gen_no_len ?_)
  show wpAny _ A.in1 (specialOf (Value.ref a) (Str.ofString "__length_hint__") >>= _) _ _ _
  refine wpAny_bind (wpAny_specialOf (Heap.IsGen.typeIs (s := { s' with heap := _ }) gen1) F.gen_no_hint ?_)
  refine wpAny_pure ?_
  show wpAny _ A.in1 (rule "list.extend.makes-room" >>= fun _ => Builtin.List.listTouch (.ref s'.heap.objs.size) >>= fun _ =>
    again (.builtin "list.extend.loop" ⟨[.ref s'.heap.objs.size, .ref a, .ref s'.heap.objs.size], []⟩)) _ _ _
  refine wpAny_bind (wpAny_rule ?_)
  have hS1 : (s'.heap.push { cls := .type "list", data := .seq ([] : List Value).toArray }).get? s'.heap.objs.size = some { cls := .type "list", data := .seq ([] : List Value).toArray } := Heap.get?_push_size _ rfl
  refine wpAny_bind ?_
  show wpAny _ A.in1 (updateSeq s'.heap.objs.size (·.push .none) >>= fun _ => updateSeq s'.heap.objs.size (·.pop)) _ _ _
  refine wpAny_bind (wpAny_updateSeq hS1 rfl ?_)
  have hS2 := Heap.get?_update_self (Obj.mapSeq (·.push Value.none)) hS1 rfl
  refine wpAny_updateSeq hS2 rfl ?_
  have hS3 := Heap.get?_update_self (Obj.mapSeq (·.pop)) hS2 rfl
  have kp : ∀ b o, s'.heap.get? b = some o → (((s'.heap.push { cls := .type "list", data := .seq ([] : List Value).toArray }).update s'.heap.objs.size (Obj.mapSeq (·.push Value.none))).update s'.heap.objs.size (Obj.mapSeq (·.pop))).get? b = some o :=
    fun b o e => (Heap.get?_update_other _ _ (Nat.ne_of_gt (Heap.lt_size e))).trans ((Heap.get?_update_other _ _ (Nat.ne_of_gt (Heap.lt_size e))).trans (push1 b o e))
  have hS4 : ∃ n0, (((s'.heap.push { cls := .type "list", data := .seq ([] : List Value).toArray }).update s'.heap.objs.size (Obj.mapSeq (·.push Value.none))).update s'.heap.objs.size (Obj.mapSeq (·.pop))).get? s'.heap.objs.size = some (lstObj #[] n0) := ⟨_, hS3⟩
  obtain ⟨n0, hS5⟩ := hS4
  have hdp : A.depth < recursionLimit := by have := hr.dp; omega
  have hSn : H s'.heap.objs.size = none := G.inv.hok.fresh (Nat.le_of_lt (Nat.lt_trans G.size.1 G.size.2))
  refine wpAny_pure ⟨plainId_quiet F.plain_extend_loop _, ?_⟩
  refine fill (A := A) (B := A.in1.in1.deeper genv) (S := s'.heap.objs.size) (Φ := Φ) (Fin := Fin) G hr.hd hdp hSI hSc (fun s2 acc n H' ys q1 q2 q3 q4 q5 q6 => ?_) (m + 1) _ (G.gen _ (kp a go G.obj)) (lim.keeps kp) ⟨_, G.gens, rfl, ?_⟩
  · show wpAny _ A (load s'.heap.objs.size >>= _) _ _ s2
    refine wpAny_bind (wpAny_load q1 ?_)
    exact wpAny_pure (hend s2 ys acc.toList H' q4 q2 q3 q6)
  · have hrw : Room k A.in1.in1 := (hr.in1.in1).mono (Nat.le_succ _)
    obtain ⟨pg, pt, pe⟩ := pp A.in1.in1 hrw hfr
    refine G.run A.in1.in1 [(s'.heap.objs.size, lstObj #[] n0)] _ hr.hd hfr ?_ ?_ ?_ ?_ gt tt te pg pt pe _ _ _ m (turn _ hSn) ⟨#[], n0, [], rfl, .nil, w0⟩
    · intro p hp
      rw [List.mem_singleton.mp hp]
      exact ⟨Nat.le_refl _, hS5, fun v z => by cases z⟩
    · exact kp
    · rfl
    · exact allBare_setGen (s := { s' with heap := _ }) G.bare rfl
theorem tupleG {k : Nat} (G : GMk X pins σ H tg elt ifs scope own J a g genv fp sc go c s') {A : Around} {gt : TG} {tt : TT} {te : TE} {Φ : Nat → Nat → List V → Hp → Prop} {Fin : List V → Hp → Prop} {m : Nat} {Q : Value → Shared → Prop} {E : Value → Shared → Prop}
    (hr : Room (k + 5) A) (hfr : A.frames = some X.stack) (pp : Parts X k sc H genv fp a go tg elt ifs gt tt te)
    (turn : ∀ S, H S = none → TurnL J S (wipe σ (own.map (·.2))) (own.map (·.2)) gt tt te Φ Fin) (w0 : Φ 0 m [] H)
    (hend : ∀ p s2 ys H', H' p = none → Inv X pins σ (upd H' p (.tup ys)) s2 → Fin ys H' → Q (.ref p) s2) : wpAny (model X.prog X.w) A (call (.type "tuple") [.ref a]) Q E s' := by
  have hg : s'.heap.IsGen a g := G.gen _ G.obj
  have code : codeAny (model X.prog X.w) A.in1 (.call (.builtin "tuple.__new__") ⟨[.type "tuple", .ref a], []⟩) (wants (fun obj s₁ => s₁.TypeIs obj "tuple" ∧ Q obj s₁) E) s' := by
    refine codeAny_of_tree ?_
    show wpAny _ A.in1.in1 (do checkBuiltinCall "tuple.__new__" ⟨[.type "tuple", .ref a], []⟩; again (.builtin "tuple.__new__" ⟨[.type "tuple", .ref a], []⟩)) _ _ s'
    refine wpAny_bind (wpAny_of_eq (F.newCall_tuple_1 _) (wpAny_pure ⟨plainId_quiet F.plain_tuple_new _, codeAny_builtin F.entry_tuple_new ?_⟩))
    rw [Around.under_plainId F.plain_tuple_new _]
    have hsub := sub_tuple_self
    have hinit := init_tuple_lookup
    have hmh := madeHere_tuple
    have hTI : s'.TypeIs (.ref a) "generator" := hg.typeIs
    wp_walk using wpAny_typeOf hTI, collectG (A := A.in1.in1) G (hr.in1.in1) hfr pp turn w0
    intro s2 ys acc H' I2 rys hl fin
    have hlen : acc.length ≤ sizeLine := by rw [← rys.length]; exact hl
    show wpAny _ _ (Builtin.Tuple.tupleExact acc.toArray >>= fun v => ret v) _ _ _
    unfold Builtin.Tuple.tupleExact
    refine wpAny_bind (wpAny_newObj_type ?_ (by show acc.toArray.size ≤ sizeLine; rw [List.size_toArray]; exact hlen))
    refine wpAny_pure ?_
    refine ⟨⟨_, Heap.get?_push_size _ rfl, rfl⟩, hend s2.heap.objs.size _ ys H' (I2.hok.fresh (Nat.le_refl _)) (I2.laid (t' := s2.toks) (fun b o e => Heap.get?_push_of_some _ e) (Nat.le_refl _) ⟨hl, acc, rys, ?_⟩) fin⟩
    exact IsTup.new _ _
  refine callType_codes (Q₁ := fun obj s₁ => s₁.TypeIs obj "tuple" ∧ Q obj s₁) F.called_tuple (F.typeCall_tuple_1 _) F.entry_object_init code fun obj s₁ h₁ => ?_
  exact ⟨h₁.1, F.args_object_init_2 obj _, object_init_meets F.called_tuple.init.lookup F.called_tuple.made (by decide) X.prog X.w A.in1 _ s₁ ⟨h₁.1, rfl, h₁.2⟩⟩
end
end DL

set_option Elab.async false
set_option linter.all false
set_option maxRecDepth 100000
set_option maxHeartbeats 4000000
/-! DL17: tuple(.. for ..). -/
namespace DL
open PySem PySem.Spec PyProof.Rows L2 RZ GenW

section
variable {K : PySem.W.Frag} {tb : List Addr} {Z : Addr → Prop} {S : Sto} {H1 H2 : Hp} {P : Addr}
/-- a table has grown -/
theorem tabbed_ne (t : GxR.Tabbed P H1 H2) (h : GxR.TabG H1 P) {a : Addr} {o : HO} (e : H1 a = some o) (n : ∀ ps, o ≠ .tbl ps) : H2 a = H1 a := t.2 a fun z => by
  obtain ⟨ps, hP, _⟩ := h
  rw [z, hP] at e
  exact n _ (Option.some.inj e).symm
theorem tabbed_ext (t : GxR.Tabbed P H1 H2) (h : GxR.TabG H1 P) : Ext S H1 S H2 := ⟨fun a o e n nt => by
  refine ⟨?_, n⟩
  rw [t.2 a fun z => ?_]
  · exact e
  · obtain ⟨ps, hP, _⟩ := h
    rw [z, hP] at e
    cases e
    exact nt _ rfl, fun a l => let ⟨vs, e⟩ := l; ⟨vs, by rw [tabbed_ne t h e fun _ z => by cases z]; exact e⟩, fun a l => let ⟨w, ts, e⟩ := l; ⟨w, ts, by rw [tabbed_ne t h e fun _ z => by cases z]; exact e⟩⟩
theorem tabbed_srep (t : GxR.Tabbed P H1 H2) (h : GxR.TabG H1 P) (s : SRep K Z S H1) : SRep K Z S H2 := by
  obtain ⟨ps, hP, _⟩ := id h
  have ne : ∀ a vs, H1 a = some (.lst vs) → a ≠ P := fun a vs e z => by rw [z, hP] at e; cases e
  have bk : ∀ a xs, S a = some xs → H2 a = H1 a := fun a xs e => by
    rcases s.some_at e with ⟨vs, e1⟩ | ⟨w, ts, e1⟩ <;> exact tabbed_ne t h e1 fun _ z => by cases z
  refine ⟨fun a xs e l => ?_, fun a z => ?_, fun a xs e l => ?_⟩
  · obtain ⟨us, eu⟩ := l
    rw [bk a xs e] at eu
    obtain ⟨vs, e1, r⟩ := s.at_ a xs e ⟨us, eu⟩
    exact ⟨vs, by rw [t.2 a (ne a vs e1)]; exact e1, r.ext s (tabbed_ext t h)⟩
  · obtain ⟨⟨o, e⟩, n⟩ := s.hid a z
    exact ⟨⟨o, by rw [t.2 a (ne a o e)]; exact e⟩, n⟩
  · obtain ⟨vs, ⟨w, ts, e1, rr⟩, r⟩ := s.dt a xs e fun l' => l (by obtain ⟨us, eu⟩ := l'; exact ⟨us, by rw [bk a xs e]; exact eu⟩)
    exact ⟨vs, ⟨w, ts, by rw [bk a xs e]; exact e1, rr⟩, r.ext s (tabbed_ext t h)⟩
theorem tabbed_tabs (t : GxR.Tabbed P H1 H2) (ts : Tabs tb H1) : Tabs tb H2 := fun P' hP => by
  by_cases e : P' = P
  · rw [e]; exact t.1
  · obtain ⟨ps, h1, h2⟩ := ts P' hP
    exact ⟨ps, by rw [t.2 P' e]; exact h1, h2⟩
end
section
variable {X : Cx} {tb : List Addr} {X' : Mod'} {G : Fns} {elt tg iter : Expr} {ifs : List Expr} {scope : Scope} {own : List (Str × Nat)} {t : TT'} {me mi mc : M} {p pos gpos : Pos}
/-- tuple(elt for tg in iter if ..) -/
theorem de_gtup {k : Nat} {cA P : Addr} (hr : Room (k + 5) X.A) (TB : GxR.TabB X.base X.mg cA P) (hP : P ∈ tb) (hcode : X.env.code = .ref cA) (ok : GenOk X.N X.env.scope scope own) (hN : X.N.Nodup) (hc : X.calm = true) (hi : DI X tb X' G tg iter mi)
    (hs : ∀ v, genFold iter X.env v = pure v) (hsl : ∀ i ∈ slots t, i ∈ own.map (·.2)) (hg : Gl X "tuple") (hm : X.mg "tuple" = none)
    (pp : ∀ (Aw : Around) (sc : Shared) (H : Hp) (C : Addr) (code : Value) (fp : List Addr) (pn : List (Addr × Obj)), Room k Aw → Aw.frames = some X.stack →
      DG (gblk X (Aw.deeper (genEnv scope (cloFrom X.env.cells scope.names []) C code builtinsNs X.env)) sc H (genEnv scope (cloFrom X.env.cells scope.names []) C code builtinsNs X.env) fp pn) tg t ∧
      PTs (gblk X (Aw.deeper (genEnv scope (cloFrom X.env.cells scope.names []) C code builtinsNs X.env)) sc H (genEnv scope (cloFrom X.env.cells scope.names []) C code builtinsNs X.env) fp pn) ifs (tDT X.K tb (wT X' G mc)) ∧
      DE (gblk X (Aw.deeper (genEnv scope (cloFrom X.env.cells scope.names []) C code builtinsNs X.env)) sc H (genEnv scope (cloFrom X.env.cells scope.names []) C code builtinsNs X.env) fp pn) tb X' G elt me)
    (he : starEach [.GeneratorExp elt [⟨tg, iter, ifs, 0⟩] scope gpos] X.env = (false, eval (.GeneratorExp elt [⟨tg, iter, ifs, 0⟩] scope gpos) X.env) :: starEach [] X.env := by rfl) :
    DE X tb X' G (.Call (.Name "tuple" p) [.GeneratorExp elt [⟨tg, iter, ifs, 0⟩] scope gpos] [] pos) (.bi .tuple (.cons (.lc false (own.map (·.2)) t me mi mc) .nil)) := by
  refine ⟨fun pins s σ H Qv I ⟨Z, ρ, S, Q, m, w, kk⟩ => ?_⟩
  refine wpAny_Call_Name_kw (ld_blt I hg hm (boot_bi .tuple) ?_ (by decide +kernel) (by decide +kernel))
  refine PyProof.Rows.callWith_type1 ?_ he rfl
  rw [he]
  show wpAny _ _ (spliced ((false, eval (.GeneratorExp elt [⟨tg, iter, ifs, 0⟩] scope gpos) X.env) :: backTo pos (starEach [] X.env))) _ _ s
  have w : wI X' G mi ρ S fun xs stay S1 => compL (fun d k => bindT t d (wipeD ρ (own.map (·.2))) k) (fun ρ' S' k => wT X' G mc ρ' S' k) (fun ρ' S' k => wE X' G me ρ' S' k) stay (fun acc S' => Q (.tup acc) S') xs [] S1 := w
  refine Calls.spliced_cons (gen_make (own := own) (R := fun J H1 => ∃ xs stay S1, Ext S H S1 H1 ∧ SRep X.K Z S1 H1 ∧ Tabs tb H1 ∧ ItOk X.K tb Z S1 H1 J xs stay ∧
      compL (fun d k => bindT t d (wipeD ρ (own.map (·.2))) k) (fun ρ' S' k => wT X' G mc ρ' S' k) (fun ρ' S' k => wE X' G me ρ' S' k) stay (fun acc S' => Q (.tup acc) S') xs [] S1) (hr.mono (Nat.le_add_right _ _)) TB hcode ok hN hc hi hs I
    ⟨Z, ρ, S, _, m, w, fun xs stay S1 J H1 x1 s1 t1 it1 w1 => ⟨t1 P hP, xs, stay, S1, x1, s1, t1, it1, w1⟩⟩ fun J H1 H2 a g genv fp sc go c s' hR hT GM => ?_)
  obtain ⟨xs, stay, S1, x1, s1, t1, it1, w1⟩ := hR
  have tg1 := t1 P hP
  have x2 : Ext S1 H1 S1 H2 := tabbed_ext hT tg1
  have s2 := tabbed_srep hT tg1 s1
  have t2 := tabbed_tabs hT t1
  have m1 := m.go (x1.trans x2) s2 t2
  refine Calls.spliced_nil ?_
  obtain ⟨C, code, rfl⟩ := GM.env
  refine tupleG (k := k) (gt := gOf X.K t) (tt := tDT X.K tb (wT X' G mc)) (te := tD X.K tb (wE X' G me)) (m := xs.length)
    (Φ := fun i n ys H' => n = xs.length - i ∧ i ≤ xs.length ∧ ∃ (S' : Sto) (acc : List D), acc.length ≤ LIM ∧ Ext S1 H2 S' H' ∧ SRep X.K Z S' H' ∧ Tabs tb H' ∧ RepL X.K Z S' H' acc ys ∧ EnvR X.K Z S' H' (wipeD ρ (own.map (·.2))) (wipe σ (own.map (·.2))) ∧
      compL (fun d k => bindT t d (wipeD ρ (own.map (·.2))) k) (fun ρ' S' k => wT X' G mc ρ' S' k) (fun ρ' S' k => wE X' G me ρ' S' k) stay (fun acc S' => Q (.tup acc) S') (xs.drop i) acc S')
    (Fin := fun ys H' => ∃ (S' : Sto) (acc : List D), Ext S1 H2 S' H' ∧ SRep X.K Z S' H' ∧ Tabs tb H' ∧ RepL X.K Z S' H' acc ys ∧ Q (.tup acc) S') GM hr I.ok.frames (fun Aw hw hf => pp Aw sc H2 C code fp [(a, go)] hw hf) ?_ ?_ ?_
  · rintro L hL i n cp H' ⟨acc0, n0, ys, rfl, rys, rfl, hi', S', acc, hle, x', s', t', r', e', w'⟩
    have st' : stay S' := by
      cases h : xs.drop i with
      | nil => rw [h] at w'; exact w'.1
      | cons _ _ => rw [h] at w'; exact w'.1
    have ok' := it1 Z (fun _ z => .inl z) i S' H' (x2.trans x') s' t' st'
    by_cases hlt : i < xs.length
    · obtain ⟨d, hd, hdrop⟩ := getElem?_range' hlt
      rw [hdrop] at w'
      obtain ⟨_, hlen, w'⟩ := w'
      obtain ⟨hgo, hyld⟩ := ok'.1 d hd
      refine .inr ⟨hgo, fun H5 => ∃ (S5 : Sto), Ext S1 H2 S5 H5 ∧ SRep X.K Z S5 H5 ∧ Tabs tb H5 ∧ RepL X.K Z S5 H5 acc ys ∧ EnvR X.K Z S5 H5 (wipeD ρ (own.map (·.2))) (wipe σ (own.map (·.2))) ∧
        compL (fun d k => bindT t d (wipeD ρ (own.map (·.2))) k) (fun ρ' S' k => wT X' G mc ρ' S' k) (fun ρ' S' k => wE X' G me ρ' S' k) stay (fun acc S' => Q (.tup acc) S') (xs.drop (i + 1)) acc S5,
        fun H5 ⟨S5, y1, y2, y3, y4, y5, y6⟩ => ⟨xs.length - (i + 1), by omega, acc0, n0, ys, rfl, rys, rfl, hlt, S5, acc, hle, y1, y2, y3, y4, y5, y6⟩, fun x H3 hy => ?_⟩
      obtain ⟨x3, s3, t3, r3⟩ := hyld x H3 hy
      refine gOf_sem (e'.ext s' x3) r3 w' fun ρ3 σ3 e3 o3 w3 => ⟨(o3 _ hsl).trans (wipe_wipe σ _ _ fun _ h => h), ?_⟩
      refine ⟨Z, ρ3, S', _, ⟨e3, s3, t3⟩, w3, fun b S4 H4 x4 s4 t4 w4 => ?_⟩
      cases b with
      | false => exact ⟨S4, (x'.trans x3).trans x4, s4, t4, (r'.ext s' x3).ext s3 x4, (e'.ext s' x3).ext s3 x4, w4⟩
      | true =>
        refine ⟨Z, ρ3, S4, _, ⟨e3.ext s3 x4, s4, t4⟩, w4, fun d5 S5 v5 H5 x5 s5 t5 r5 w5 => ?_⟩
        refine ⟨acc0, n0, ys, xs.length - (i + 1), rfl, rys, by rw [LIM_eq, ← r'.length]; exact hlen, by omega, rfl, hlt, S5, acc ++ [d5], by rw [List.length_append]; exact hlen, ((x'.trans x3).trans x4).trans x5, s5, t5, (((r'.ext s' x3).ext s3 x4).ext s4 x5).snoc r5, ((e'.ext s' x3).ext s3 x4).ext s4 x5, w5⟩
    · have hn : xs.drop i = [] := List.drop_eq_nil_of_le (Nat.le_of_not_lt hlt)
      rw [hn] at w'
      exact .inl ⟨ok'.2 (Nat.le_of_not_lt hlt), acc0, n0, ys, rfl, rys, by rw [LIM_eq, ← r'.length]; exact hle, S', acc, x', s', t', r', w'.2⟩
  · exact ⟨rfl, Nat.zero_le _, S1, [], Nat.zero_le _, Ext.refl, s2, t2, .nil, m1.env.wipe _, w1⟩
  · rintro p s3 ys H' hp I3 ⟨S', acc, x', s', t', r', q⟩
    exact ⟨.ref p, _, I3, rfl, (kk.ext (x1.trans (x2.trans x'))).tup s' t' r' q hp⟩
end
end DL

set_option Elab.async false
set_option linter.all false
set_option maxRecDepth 100000
set_option maxHeartbeats 4000000
/-! DL18: all(.. for ..), any(.. for ..). -/
namespace DL
open PySem PySem.Spec PyProof.Rows L2 RZ GenW

section
variable {X : Cx} {pins : List (Addr × Obj)} {σ : L2.St} {H : Hp} {tg elt : Expr} {ifs : List Expr} {scope : Scope} {own : List (Str × Nat)} {J : It} {a : Addr} {g : Nat} {genv : Env} {fp : List Addr} {sc : Shared} {go : Obj} {c : Code} {s' : Shared}
/-- a bool, or a number, as truth -/
def vTv : V → Bool → Prop
  | .bl b, c => c = b
  | .int i, c => c = (i != 0)
  | _, _ => False
theorem truthy_tv {A : Around} {y : V} {v : Value} {b : Bool} {s : Shared} {Q : Bool → Shared → Prop} {E : Value → Shared → Prop} (r : RelV y v) (t : vTv y b) (h : Q b s) : wpAny (model X.prog X.w) A (truthy v) Q E s := by
  cases y <;> try exact t.elim
  · obtain rfl : v = _ := r
    obtain rfl := t
    exact wpAny_truthy_bool h
  · obtain ⟨u, rfl⟩ := r
    obtain rfl := t
    exact PySem.P.truthy_int h
def Wa (Φ : Nat → Nat → Hp → Prop) : Nat → Nat → List (Addr × Obj) → Hp → Prop := fun i m cp H => cp = [] ∧ Φ i m H
/-- y tells whether it goes on -/
def Ca (end_ : Bool) (Φ : Nat → Nat → Hp → Prop) (St : Hp → Prop) : Nat → Nat → List (Addr × Obj) → V → Hp → Prop := fun i m cp y H => cp = [] ∧ ∃ b, vTv y b ∧ if b = end_ then St H else ∃ m', m' < m ∧ Φ (i + 1) m' H
def Fa (Fin : Hp → Prop) : List (Addr × Obj) → Hp → Prop := fun cp H => cp = [] ∧ Fin H
theorem allG (G : GMk X pins σ H tg elt ifs scope own J a g genv fp sc go c s') {B A : Around} {Φ : Nat → Nat → Hp → Prop} {Fin St : Hp → Prop} {R : Result → Shared → Prop} (hh : A.handled = none) (hd : A.depth < recursionLimit)
    (hend : ∀ s2 H', Inv X pins σ H' s2 → Fin H' → R (.ok (.ret (.bool true))) s2) (hstop : ∀ s2 H', Inv X pins σ H' s2 → St H' → R (.ok (.ret (.bool false))) s2) :
    ∀ (m : Nat) (s : Shared), s.heap.IsGen a g → s.heap.NoLimit →
      (∃ gs, s.gens[g]? = some gs ∧ gs.Goes (model X.prog X.w) A.in1.in1 (GRk (gblk X B sc H genv fp [(a, go)]) [] (wipe σ (own.map (·.2))) (Fa Fin)) (GYk (gblk X B sc H genv fp [(a, go)]) fp [] (wipe σ (own.map (·.2))) (Wa Φ) (Ca false Φ St)) m (.send .none) (s.setGen g .running)) →
      codeAny (model X.prog X.w) A (.builtin "all.loop" ⟨[.ref a], []⟩) R s := by
  have ends : ∀ {s₀ s₁ : Shared} {m : Nat} {h' : Heap}, GFk (gblk X B sc H genv fp [(a, go)]) [] (wipe σ (own.map (·.2))) (Fa Fin) m s₀ s₁ → (∀ b o, s₁.heap.get? b = some o → h'.get? b = some o) → R (.ok (.ret (.bool true))) { s₁.setGen g .finished with heap := h' } := fun {s₀ s₁ m h'} hp hk => by
    obtain ⟨H2, cp, I2, hca, hs0, rfl, fin⟩ := hp
    have I3 := G.leave I2
    refine hend _ H2 ?_ fin
    exact I3.call' (ch := []) rfl (Un.kept hk) (I3.hok.kept hk) (allBare_setGen I3.bare rfl) fun b z => by simp at z
  have stops : ∀ {s₁ : Shared} {H2 : Hp} {gs' : GenState}, Inv (gblk X B sc H genv fp [(a, go)]) [] (wipe σ (own.map (·.2))) H2 s₁ → gs'.bare = true → St H2 → R (.ok (.ret (.bool false))) (s₁.setGen g gs') := fun {s₁ H2 gs'} I2 hb q => by
    have I3 := G.leave I2
    refine hstop _ H2 ?_ q
    exact I3.call' (ch := []) rfl (Un.kept fun b o e => e) (I3.hok.kept fun b o e => e) (allBare_setGen I3.bare hb) fun b z => by simp at z
  intro m
  induction m with
  | zero =>
    intro s hg hl ⟨gs, hgs, hgo⟩
    refine codeAny_builtin F.entry_all_loop ?_
    rw [Around.under_plainId F.plain_all_loop _]
    show wpAny _ A.in1 (pyNext (.ref a) >>= _) _ _ s
    refine wpAny_bind (next_genG (A := A.in1) hh hl hd hg hgs hgo (fun v s₁ gs' hbare hv => ?_) (fun s₁ hp h' hk => ?_) fun e s₁ he => he.elim)
    · obtain ⟨i, mm, y, H2, cp, r, I2, hca, hs0, ⟨rfl, b, tv, ph⟩, hk⟩ := hv
      refine wpAny_bind (wpAny_holding (truthy_tv (X := X) r tv ?_))
      refine wpAny_bind (wpAny_letGo ?_)
      cases b with
      | true =>
        simp only [Bool.true_eq_false, if_false] at ph
        obtain ⟨m', hm', ph⟩ := ph
        have sl : Sleep [] [] s₁ s₁ := ⟨rfl, I2.bare, rfl, fun b o _ e => e, fun p hp => by simp at hp⟩
        exact False.elim (hk _ _ m' sl hm' ⟨rfl, ph⟩)
      | false =>
        simp only [if_true] at ph
        simp only [Bool.false_eq_true, if_false]
        exact wpAny_bind (wpAny_rule (wpAny_pure (stops I2 hbare ph)))
    · exact wpAny_bind (wpAny_rule (wpAny_pure (ends hp hk)))
  | succ m ih =>
    intro s hg hl ⟨gs, hgs, hgo⟩
    have hgl : g < s.gens.size := (Array.getElem?_eq_some_iff.mp hgs).1
    refine codeAny_builtin F.entry_all_loop ?_
    rw [Around.under_plainId F.plain_all_loop _]
    show wpAny _ A.in1 (pyNext (.ref a) >>= _) _ _ s
    refine wpAny_bind (wpAny_gsz (n := g + 1) hgl (next_genG (A := A.in1) hh hl hd hg hgs hgo (fun v s₁ gs' hbare hv => ?_) (fun s₁ hp h' hk => ?_) fun e s₁ he => he.elim))
    · intro hsz
      obtain ⟨i, mm, y, H2, cp, r, I2, hca, hs0, ⟨rfl, b, tv, ph⟩, hk⟩ := hv
      refine wpAny_bind (wpAny_holding (truthy_tv (X := X) r tv ?_))
      refine wpAny_bind (wpAny_letGo ?_)
      cases b with
      | true =>
        simp only [Bool.true_eq_false, if_false] at ph
        obtain ⟨m', hm', ph⟩ := ph
        have hsz1 : g < s₁.gens.size := by
          have q : (s₁.setGen g gs').gens.size = s₁.gens.size := setGen_size _ _ _
          have hsz' : g + 1 ≤ (s₁.setGen g gs').gens.size := hsz
          omega
        have hA := (I2.pin (a, go) (List.mem_append_left _ List.mem_cons_self)).1
        have sl : Sleep [] [] s₁ ((s₁.setGen g gs').setGen g .running) := ⟨rfl, allBare_setGen (allBare_setGen I2.bare hbare) rfl, rfl, fun b o _ e => e, fun p hp => by simp at hp⟩
        simp only [if_true]
        exact wpAny_pure ⟨plainId_quiet F.plain_all_loop _, ih (s₁.setGen g gs') (G.gen _ hA) I2.nolimit ⟨gs', setGen_at hsz1, hk _ _ m' sl hm' ⟨rfl, ph⟩⟩⟩
      | false =>
        simp only [if_true] at ph
        simp only [Bool.false_eq_true, if_false]
        exact wpAny_bind (wpAny_rule (wpAny_pure (stops I2 hbare ph)))
    · intro hsz
      exact wpAny_bind (wpAny_rule (wpAny_pure (ends hp hk)))
theorem anyG (G : GMk X pins σ H tg elt ifs scope own J a g genv fp sc go c s') {B A : Around} {Φ : Nat → Nat → Hp → Prop} {Fin St : Hp → Prop} {R : Result → Shared → Prop} (hh : A.handled = none) (hd : A.depth < recursionLimit)
    (hend : ∀ s2 H', Inv X pins σ H' s2 → Fin H' → R (.ok (.ret (.bool false))) s2) (hstop : ∀ s2 H', Inv X pins σ H' s2 → St H' → R (.ok (.ret (.bool true))) s2) :
    ∀ (m : Nat) (s : Shared), s.heap.IsGen a g → s.heap.NoLimit →
      (∃ gs, s.gens[g]? = some gs ∧ gs.Goes (model X.prog X.w) A.in1.in1 (GRk (gblk X B sc H genv fp [(a, go)]) [] (wipe σ (own.map (·.2))) (Fa Fin)) (GYk (gblk X B sc H genv fp [(a, go)]) fp [] (wipe σ (own.map (·.2))) (Wa Φ) (Ca true Φ St)) m (.send .none) (s.setGen g .running)) →
      codeAny (model X.prog X.w) A (.builtin "any.loop" ⟨[.ref a], []⟩) R s := by
  have ends : ∀ {s₀ s₁ : Shared} {m : Nat} {h' : Heap}, GFk (gblk X B sc H genv fp [(a, go)]) [] (wipe σ (own.map (·.2))) (Fa Fin) m s₀ s₁ → (∀ b o, s₁.heap.get? b = some o → h'.get? b = some o) → R (.ok (.ret (.bool false))) { s₁.setGen g .finished with heap := h' } := fun {s₀ s₁ m h'} hp hk => by
    obtain ⟨H2, cp, I2, hca, hs0, rfl, fin⟩ := hp
    have I3 := G.leave I2
    refine hend _ H2 ?_ fin
    exact I3.call' (ch := []) rfl (Un.kept hk) (I3.hok.kept hk) (allBare_setGen I3.bare rfl) fun b z => by simp at z
  have stops : ∀ {s₁ : Shared} {H2 : Hp} {gs' : GenState}, Inv (gblk X B sc H genv fp [(a, go)]) [] (wipe σ (own.map (·.2))) H2 s₁ → gs'.bare = true → St H2 → R (.ok (.ret (.bool true))) (s₁.setGen g gs') := fun {s₁ H2 gs'} I2 hb q => by
    have I3 := G.leave I2
    refine hstop _ H2 ?_ q
    exact I3.call' (ch := []) rfl (Un.kept fun b o e => e) (I3.hok.kept fun b o e => e) (allBare_setGen I3.bare hb) fun b z => by simp at z
  intro m
  induction m with
  | zero =>
    intro s hg hl ⟨gs, hgs, hgo⟩
    refine codeAny_builtin F.entry_any_loop ?_
    rw [Around.under_plainId F.plain_any_loop _]
    show wpAny _ A.in1 (pyNext (.ref a) >>= _) _ _ s
    refine wpAny_bind (next_genG (A := A.in1) hh hl hd hg hgs hgo (fun v s₁ gs' hbare hv => ?_) (fun s₁ hp h' hk => ?_) fun e s₁ he => he.elim)
    · obtain ⟨i, mm, y, H2, cp, r, I2, hca, hs0, ⟨rfl, b, tv, ph⟩, hk⟩ := hv
      refine wpAny_bind (wpAny_holding (truthy_tv (X := X) r tv ?_))
      refine wpAny_bind (wpAny_letGo ?_)
      cases b with
      | false =>
        simp only [Bool.false_eq_true, if_false] at ph
        obtain ⟨m', hm', ph⟩ := ph
        have sl : Sleep [] [] s₁ s₁ := ⟨rfl, I2.bare, rfl, fun b o _ e => e, fun p hp => by simp at hp⟩
        exact False.elim (hk _ _ m' sl hm' ⟨rfl, ph⟩)
      | true =>
        simp only [if_true] at ph
        simp only [if_true]
        exact wpAny_bind (wpAny_rule (wpAny_pure (stops I2 hbare ph)))
    · exact wpAny_bind (wpAny_rule (wpAny_pure (ends hp hk)))
  | succ m ih =>
    intro s hg hl ⟨gs, hgs, hgo⟩
    have hgl : g < s.gens.size := (Array.getElem?_eq_some_iff.mp hgs).1
    refine codeAny_builtin F.entry_any_loop ?_
    rw [Around.under_plainId F.plain_any_loop _]
    show wpAny _ A.in1 (pyNext (.ref a) >>= _) _ _ s
    refine wpAny_bind (wpAny_gsz (n := g + 1) hgl (next_genG (A := A.in1) hh hl hd hg hgs hgo (fun v s₁ gs' hbare hv => ?_) (fun s₁ hp h' hk => ?_) fun e s₁ he => he.elim))
    · intro hsz
      obtain ⟨i, mm, y, H2, cp, r, I2, hca, hs0, ⟨rfl, b, tv, ph⟩, hk⟩ := hv
      refine wpAny_bind (wpAny_holding (truthy_tv (X := X) r tv ?_))
      refine wpAny_bind (wpAny_letGo ?_)
      cases b with
      | false =>
        simp only [Bool.false_eq_true, if_false] at ph
        obtain ⟨m', hm', ph⟩ := ph
        have hsz1 : g < s₁.gens.size := by
          have q : (s₁.setGen g gs').gens.size = s₁.gens.size := setGen_size _ _ _
          have hsz' : g + 1 ≤ (s₁.setGen g gs').gens.size := hsz
          omega
        have hA := (I2.pin (a, go) (List.mem_append_left _ List.mem_cons_self)).1
        have sl : Sleep [] [] s₁ ((s₁.setGen g gs').setGen g .running) := ⟨rfl, allBare_setGen (allBare_setGen I2.bare hbare) rfl, rfl, fun b o _ e => e, fun p hp => by simp at hp⟩
        simp only [Bool.false_eq_true, if_false]
        exact wpAny_pure ⟨plainId_quiet F.plain_any_loop _, ih (s₁.setGen g gs') (G.gen _ hA) I2.nolimit ⟨gs', setGen_at hsz1, hk _ _ m' sl hm' ⟨rfl, ph⟩⟩⟩
      | true =>
        simp only [if_true] at ph
        simp only [if_true]
        exact wpAny_bind (wpAny_rule (wpAny_pure (stops I2 hbare ph)))
    · intro hsz
      exact wpAny_bind (wpAny_rule (wpAny_pure (ends hp hk)))
def TurnA (end_ : Bool) (J : It) (σw : L2.St) (vs : List Nat) (gt : TG) (tt : TT) (te : TE) (Φ : Nat → Nat → Hp → Prop) (Fin St : Hp → Prop) : Prop :=
  ∀ i m cp H, Wa Φ i m cp H → (J.stop i H ∧ Fa Fin cp H) ∨ (J.go i H ∧ ∃ Nx : Hp → Prop, (∀ H', Nx H' → ∃ m', m' < m ∧ Wa Φ (i + 1) m' cp H') ∧ ∀ x H', J.yld i H x H' → gt x σw H' fun σ2 H2 => wipe σ2 vs = σw ∧ tt σ2 H2 fun b H3 =>
    if b = true then te σ2 H3 fun y H4 => Ca end_ Φ St i m cp y H4 else Nx H3)
theorem allC {k : Nat} (G : GMk X pins σ H tg elt ifs scope own J a g genv fp sc go c s') {A : Around} {gt : TG} {tt : TT} {te : TE} {Φ : Nat → Nat → Hp → Prop} {Fin St : Hp → Prop} {m : Nat} {Q : Value → Shared → Prop} {E : Value → Shared → Prop}
    (hr : Room (k + 3) A) (hfr : A.frames = some X.stack) (pp : Parts X k sc H genv fp a go tg elt ifs gt tt te)
    (turn : TurnA false J (wipe σ (own.map (·.2))) (own.map (·.2)) gt tt te Φ Fin St) (w0 : Φ 0 m H)
    (hend : ∀ s2 H', Inv X pins σ H' s2 → Fin H' → Q (.bool true) s2) (hstop : ∀ s2 H', Inv X pins σ H' s2 → St H' → Q (.bool false) s2) : wpAny (model X.prog X.w) A (call (.builtin "all") [.ref a]) Q E s' := by
  have hdp : A.depth < recursionLimit := by have := hr.dp; omega
  refine call_function_tree F.kind_all F.plain_all F.entry_all (F.args_all1 _) ?_
  unfold Builtin.«all»
  refine wpAny_bind (m := oneArg "all" _) (wpAny_pure ?_)
  have gen1 : s'.heap.IsGen a g := G.gen _ G.obj
  refine wpAny_bind (wpAny_pyIter_gen gen1 ?_)
  refine wpAny_pure ⟨plainId_quiet F.plain_all_loop _, ?_⟩
  refine allG (A := A) (B := A.in1.in1.deeper genv) (Φ := Φ) (Fin := Fin) (St := St) G hr.hd hdp (fun s2 H' I f => ?_) (fun s2 H' I f => ?_) (m + 1) _ gen1 (G.inv.nolimit.keeps G.kept) ⟨_, G.gens, rfl, ?_⟩
  · exact hend s2 H' I f
  · exact hstop s2 H' I f
  · have hrw : Room k A.in1.in1 := (hr.in1.in1).mono (Nat.le_succ _)
    obtain ⟨pg, pt, pe⟩ := pp A.in1.in1 hrw hfr
    exact G.run A.in1.in1 [] (s'.setGen g .running) hr.hd hfr (fun p hp => by simp at hp) (fun b o e => e) rfl (allBare_setGen G.bare rfl) gt tt te pg pt pe _ _ _ m turn ⟨rfl, w0⟩
theorem anyC {k : Nat} (G : GMk X pins σ H tg elt ifs scope own J a g genv fp sc go c s') {A : Around} {gt : TG} {tt : TT} {te : TE} {Φ : Nat → Nat → Hp → Prop} {Fin St : Hp → Prop} {m : Nat} {Q : Value → Shared → Prop} {E : Value → Shared → Prop}
    (hr : Room (k + 3) A) (hfr : A.frames = some X.stack) (pp : Parts X k sc H genv fp a go tg elt ifs gt tt te)
    (turn : TurnA true J (wipe σ (own.map (·.2))) (own.map (·.2)) gt tt te Φ Fin St) (w0 : Φ 0 m H)
    (hend : ∀ s2 H', Inv X pins σ H' s2 → Fin H' → Q (.bool false) s2) (hstop : ∀ s2 H', Inv X pins σ H' s2 → St H' → Q (.bool true) s2) : wpAny (model X.prog X.w) A (call (.builtin "any") [.ref a]) Q E s' := by
  have hdp : A.depth < recursionLimit := by have := hr.dp; omega
  refine call_function_tree F.kind_any F.plain_any F.entry_any (F.args_any1 _) ?_
  unfold Builtin.«any»
  refine wpAny_bind (m := oneArg "any" _) (wpAny_pure ?_)
  have gen1 : s'.heap.IsGen a g := G.gen _ G.obj
  refine wpAny_bind (wpAny_pyIter_gen gen1 ?_)
  refine wpAny_pure ⟨plainId_quiet F.plain_any_loop _, ?_⟩
  refine anyG (A := A) (B := A.in1.in1.deeper genv) (Φ := Φ) (Fin := Fin) (St := St) G hr.hd hdp (fun s2 H' I f => ?_) (fun s2 H' I f => ?_) (m + 1) _ gen1 (G.inv.nolimit.keeps G.kept) ⟨_, G.gens, rfl, ?_⟩
  · exact hend s2 H' I f
  · exact hstop s2 H' I f
  · have hrw : Room k A.in1.in1 := (hr.in1.in1).mono (Nat.le_succ _)
    obtain ⟨pg, pt, pe⟩ := pp A.in1.in1 hrw hfr
    exact G.run A.in1.in1 [] (s'.setGen g .running) hr.hd hfr (fun p hp => by simp at hp) (fun b o e => e) rfl (allBare_setGen G.bare rfl) gt tt te pg pt pe _ _ _ m turn ⟨rfl, w0⟩
end
end DL

set_option Elab.async false
set_option linter.all false
set_option maxRecDepth 100000
set_option maxHeartbeats 4000000
/-! DL19: all(.. for ..), any(.. for ..), over data. -/
namespace DL
open PySem PySem.Spec PyProof.Rows L2 RZ GenW
section
variable {X : Cx} {tb : List Addr} {X' : Mod'} {G : Fns} {elt tg iter : Expr} {ifs : List Expr} {scope : Scope} {own : List (Str × Nat)} {t : TT'} {me mi mc : M} {p pos gpos : Pos}
theorem boot_all' : bootBuiltins "all" = some (.builtin "all") := by decide +kernel
theorem boot_any' : bootBuiltins "any" = some (.builtin "any") := by decide +kernel
theorem vTv_of {Z : Addr → Prop} {S : Sto} {H : Hp} {d : D} {v : V} {c : Bool} (r : Rep X.K Z S H d v) (t : dTv d c) : vTv v c := by
  cases r <;> try exact t.elim
  · exact t
  · exact t.trans (by simp [bne, Bool.beq_eq_decide_eq])
/-- all(elt for tg in iter if ..) -/
theorem de_gall {k : Nat} {cA P : Addr} (hr : Room (k + 5) X.A) (TB : GxR.TabB X.base X.mg cA P) (hP : P ∈ tb) (hcode : X.env.code = .ref cA) (ok : GenOk X.N X.env.scope scope own) (hN : X.N.Nodup) (hc : X.calm = true) (hi : DI X tb X' G tg iter mi)
    (hs : ∀ v, genFold iter X.env v = pure v) (hsl : ∀ i ∈ slots t, i ∈ own.map (·.2)) (hg : Gl X "all") (hm : X.mg "all" = none)
    (pp : ∀ (Aw : Around) (sc : Shared) (H : Hp) (C : Addr) (code : Value) (fp : List Addr) (pn : List (Addr × Obj)), Room k Aw → Aw.frames = some X.stack →
      DG (gblk X (Aw.deeper (genEnv scope (cloFrom X.env.cells scope.names []) C code builtinsNs X.env)) sc H (genEnv scope (cloFrom X.env.cells scope.names []) C code builtinsNs X.env) fp pn) tg t ∧
      PTs (gblk X (Aw.deeper (genEnv scope (cloFrom X.env.cells scope.names []) C code builtinsNs X.env)) sc H (genEnv scope (cloFrom X.env.cells scope.names []) C code builtinsNs X.env) fp pn) ifs (tDT X.K tb (wT X' G mc)) ∧
      DE (gblk X (Aw.deeper (genEnv scope (cloFrom X.env.cells scope.names []) C code builtinsNs X.env)) sc H (genEnv scope (cloFrom X.env.cells scope.names []) C code builtinsNs X.env) fp pn) tb X' G elt me)
    (he : starEach [.GeneratorExp elt [⟨tg, iter, ifs, 0⟩] scope gpos] X.env = (false, eval (.GeneratorExp elt [⟨tg, iter, ifs, 0⟩] scope gpos) X.env) :: starEach [] X.env := by rfl) :
    DE X tb X' G (.Call (.Name "all" p) [.GeneratorExp elt [⟨tg, iter, ifs, 0⟩] scope gpos] [] pos) (.gall false (own.map (·.2)) t me mi mc) := by
  refine ⟨fun pins s σ H Qv I ⟨Z, ρ, S, Q, m, w, kk⟩ => ?_⟩
  refine wpAny_Call_Name_kw (ld_blt I hg hm boot_all' ?_ (by decide +kernel) (by decide +kernel))
  refine PyProof.Rows.callWith_builtin1 ?_ he rfl
  rw [he]
  show wpAny _ _ (spliced ((false, eval (.GeneratorExp elt [⟨tg, iter, ifs, 0⟩] scope gpos) X.env) :: backTo pos (starEach [] X.env))) _ _ s
  have w : wI X' G mi ρ S fun xs stay S1 => allL false (fun d k => bindT t d (wipeD ρ (own.map (·.2))) k) (fun ρ' S' k => wT X' G mc ρ' S' k) (fun ρ' S' k => wE X' G me ρ' S' k) stay (fun b S' => Q (.bl b) S') xs S1 := w
  refine Calls.spliced_cons (gen_make (own := own) (R := fun J H1 => ∃ xs stay S1, Ext S H S1 H1 ∧ SRep X.K Z S1 H1 ∧ Tabs tb H1 ∧ ItOk X.K tb Z S1 H1 J xs stay ∧
      allL false (fun d k => bindT t d (wipeD ρ (own.map (·.2))) k) (fun ρ' S' k => wT X' G mc ρ' S' k) (fun ρ' S' k => wE X' G me ρ' S' k) stay (fun b S' => Q (.bl b) S') xs S1) (hr.mono (Nat.le_add_right _ _)) TB hcode ok hN hc hi hs I
    ⟨Z, ρ, S, _, m, w, fun xs stay S1 J H1 x1 s1 t1 it1 w1 => ⟨t1 P hP, xs, stay, S1, x1, s1, t1, it1, w1⟩⟩ fun J H1 H2 a g genv fp sc go c s' hR hT GM => ?_)
  obtain ⟨xs, stay, S1, x1, s1, t1, it1, w1⟩ := hR
  have tg1 := t1 P hP
  have x2 : Ext S1 H1 S1 H2 := tabbed_ext hT tg1
  have s2 := tabbed_srep hT tg1 s1
  have t2 := tabbed_tabs hT t1
  have m1 := m.go (x1.trans x2) s2 t2
  refine Calls.spliced_nil ?_
  obtain ⟨C, code, rfl⟩ := GM.env
  refine allC (k := k) (gt := gOf X.K t) (tt := tDT X.K tb (wT X' G mc)) (te := tD X.K tb (wE X' G me)) (m := xs.length)
    (Φ := fun i n H' => n = xs.length - i ∧ i ≤ xs.length ∧ ∃ (S' : Sto), Ext S1 H2 S' H' ∧ SRep X.K Z S' H' ∧ Tabs tb H' ∧ EnvR X.K Z S' H' (wipeD ρ (own.map (·.2))) (wipe σ (own.map (·.2))) ∧
      allL false (fun d k => bindT t d (wipeD ρ (own.map (·.2))) k) (fun ρ' S' k => wT X' G mc ρ' S' k) (fun ρ' S' k => wE X' G me ρ' S' k) stay (fun b S' => Q (.bl b) S') (xs.drop i) S')
    (Fin := fun H' => ∃ (S' : Sto), Ext S1 H2 S' H' ∧ SRep X.K Z S' H' ∧ Tabs tb H' ∧ Q (.bl true) S')
    (St := fun H' => ∃ (S' : Sto), Ext S1 H2 S' H' ∧ SRep X.K Z S' H' ∧ Tabs tb H' ∧ Q (.bl false) S') GM (hr.mono (by omega)) I.ok.frames (fun Aw hw hf => pp Aw sc H2 C code fp [(a, go)] hw hf) ?_ ?_ ?_ ?_
  · rintro i n cp H' ⟨rfl, rfl, hi', S', x', s', t', e', w'⟩
    have st' : stay S' := by
      cases h : xs.drop i with
      | nil => rw [h] at w'; exact w'.1
      | cons _ _ => rw [h] at w'; exact w'.1
    have ok' := it1 Z (fun _ z => .inl z) i S' H' (x2.trans x') s' t' st'
    by_cases hlt : i < xs.length
    · obtain ⟨d, hd, hdrop⟩ := getElem?_range' hlt
      rw [hdrop] at w'
      obtain ⟨_, w'⟩ := w'
      obtain ⟨hgo, hyld⟩ := ok'.1 d hd
      refine .inr ⟨hgo, fun H5 => ∃ (S5 : Sto), Ext S1 H2 S5 H5 ∧ SRep X.K Z S5 H5 ∧ Tabs tb H5 ∧ EnvR X.K Z S5 H5 (wipeD ρ (own.map (·.2))) (wipe σ (own.map (·.2))) ∧
        allL false (fun d k => bindT t d (wipeD ρ (own.map (·.2))) k) (fun ρ' S' k => wT X' G mc ρ' S' k) (fun ρ' S' k => wE X' G me ρ' S' k) stay (fun b S' => Q (.bl b) S') (xs.drop (i + 1)) S5,
        fun H5 ⟨S5, y1, y2, y3, y5, y6⟩ => ⟨xs.length - (i + 1), by omega, rfl, rfl, hlt, S5, y1, y2, y3, y5, y6⟩, fun x H3 hy => ?_⟩
      obtain ⟨x3, s3, t3, r3⟩ := hyld x H3 hy
      refine gOf_sem (e'.ext s' x3) r3 w' fun ρ3 σ3 e3 o3 w3 => ⟨(o3 _ hsl).trans (wipe_wipe σ _ _ fun _ h => h), ?_⟩
      refine ⟨Z, ρ3, S', _, ⟨e3, s3, t3⟩, w3, fun b S4 H4 x4 s4 t4 w4 => ?_⟩
      cases b with
      | false => exact ⟨S4, (x'.trans x3).trans x4, s4, t4, (e'.ext s' x3).ext s3 x4, w4⟩
      | true =>
        refine ⟨Z, ρ3, S4, _, ⟨e3.ext s3 x4, s4, t4⟩, w4, fun d5 S5 v5 H5 x5 s5 t5 r5 w5 => ?_⟩
        obtain ⟨c5, tv, w5⟩ := w5
        refine ⟨rfl, c5, vTv_of r5 tv, ?_⟩
        have x6 := ((x'.trans x3).trans x4).trans x5
        cases c5 with
        | false => exact ⟨S5, x6, s5, t5, w5⟩
        | true => exact ⟨xs.length - (i + 1), by omega, rfl, hlt, S5, x6, s5, t5, ((e'.ext s' x3).ext s3 x4).ext s4 x5, w5⟩
    · have hn : xs.drop i = [] := List.drop_eq_nil_of_le (Nat.le_of_not_lt hlt)
      rw [hn] at w'
      exact .inl ⟨ok'.2 (Nat.le_of_not_lt hlt), rfl, S', x', s', t', w'.2⟩
  · exact ⟨rfl, Nat.zero_le _, S1, Ext.refl, s2, t2, m1.env.wipe _, w1⟩
  · rintro s3 H' I3 ⟨S', x', s', t', q⟩
    exact ⟨.bl true, H', I3, rfl, kk _ S' _ H' (x1.trans (x2.trans x')) s' t' (.bl true) q⟩
  · rintro s3 H' I3 ⟨S', x', s', t', q⟩
    exact ⟨.bl false, H', I3, rfl, kk _ S' _ H' (x1.trans (x2.trans x')) s' t' (.bl false) q⟩
/-- any(elt for tg in iter if ..) -/
theorem de_gany {k : Nat} {cA P : Addr} (hr : Room (k + 5) X.A) (TB : GxR.TabB X.base X.mg cA P) (hP : P ∈ tb) (hcode : X.env.code = .ref cA) (ok : GenOk X.N X.env.scope scope own) (hN : X.N.Nodup) (hc : X.calm = true) (hi : DI X tb X' G tg iter mi)
    (hs : ∀ v, genFold iter X.env v = pure v) (hsl : ∀ i ∈ slots t, i ∈ own.map (·.2)) (hg : Gl X "any") (hm : X.mg "any" = none)
    (pp : ∀ (Aw : Around) (sc : Shared) (H : Hp) (C : Addr) (code : Value) (fp : List Addr) (pn : List (Addr × Obj)), Room k Aw → Aw.frames = some X.stack →
      DG (gblk X (Aw.deeper (genEnv scope (cloFrom X.env.cells scope.names []) C code builtinsNs X.env)) sc H (genEnv scope (cloFrom X.env.cells scope.names []) C code builtinsNs X.env) fp pn) tg t ∧
      PTs (gblk X (Aw.deeper (genEnv scope (cloFrom X.env.cells scope.names []) C code builtinsNs X.env)) sc H (genEnv scope (cloFrom X.env.cells scope.names []) C code builtinsNs X.env) fp pn) ifs (tDT X.K tb (wT X' G mc)) ∧
      DE (gblk X (Aw.deeper (genEnv scope (cloFrom X.env.cells scope.names []) C code builtinsNs X.env)) sc H (genEnv scope (cloFrom X.env.cells scope.names []) C code builtinsNs X.env) fp pn) tb X' G elt me)
    (he : starEach [.GeneratorExp elt [⟨tg, iter, ifs, 0⟩] scope gpos] X.env = (false, eval (.GeneratorExp elt [⟨tg, iter, ifs, 0⟩] scope gpos) X.env) :: starEach [] X.env := by rfl) :
    DE X tb X' G (.Call (.Name "any" p) [.GeneratorExp elt [⟨tg, iter, ifs, 0⟩] scope gpos] [] pos) (.gall true (own.map (·.2)) t me mi mc) := by
  refine ⟨fun pins s σ H Qv I ⟨Z, ρ, S, Q, m, w, kk⟩ => ?_⟩
  refine wpAny_Call_Name_kw (ld_blt I hg hm boot_any' ?_ (by decide +kernel) (by decide +kernel))
  refine PyProof.Rows.callWith_builtin1 ?_ he rfl
  rw [he]
  show wpAny _ _ (spliced ((false, eval (.GeneratorExp elt [⟨tg, iter, ifs, 0⟩] scope gpos) X.env) :: backTo pos (starEach [] X.env))) _ _ s
  have w : wI X' G mi ρ S fun xs stay S1 => allL true (fun d k => bindT t d (wipeD ρ (own.map (·.2))) k) (fun ρ' S' k => wT X' G mc ρ' S' k) (fun ρ' S' k => wE X' G me ρ' S' k) stay (fun b S' => Q (.bl b) S') xs S1 := w
  refine Calls.spliced_cons (gen_make (own := own) (R := fun J H1 => ∃ xs stay S1, Ext S H S1 H1 ∧ SRep X.K Z S1 H1 ∧ Tabs tb H1 ∧ ItOk X.K tb Z S1 H1 J xs stay ∧
      allL true (fun d k => bindT t d (wipeD ρ (own.map (·.2))) k) (fun ρ' S' k => wT X' G mc ρ' S' k) (fun ρ' S' k => wE X' G me ρ' S' k) stay (fun b S' => Q (.bl b) S') xs S1) (hr.mono (Nat.le_add_right _ _)) TB hcode ok hN hc hi hs I
    ⟨Z, ρ, S, _, m, w, fun xs stay S1 J H1 x1 s1 t1 it1 w1 => ⟨t1 P hP, xs, stay, S1, x1, s1, t1, it1, w1⟩⟩ fun J H1 H2 a g genv fp sc go c s' hR hT GM => ?_)
  obtain ⟨xs, stay, S1, x1, s1, t1, it1, w1⟩ := hR
  have tg1 := t1 P hP
  have x2 : Ext S1 H1 S1 H2 := tabbed_ext hT tg1
  have s2 := tabbed_srep hT tg1 s1
  have t2 := tabbed_tabs hT t1
  have m1 := m.go (x1.trans x2) s2 t2
  refine Calls.spliced_nil ?_
  obtain ⟨C, code, rfl⟩ := GM.env
  refine anyC (k := k) (gt := gOf X.K t) (tt := tDT X.K tb (wT X' G mc)) (te := tD X.K tb (wE X' G me)) (m := xs.length)
    (Φ := fun i n H' => n = xs.length - i ∧ i ≤ xs.length ∧ ∃ (S' : Sto), Ext S1 H2 S' H' ∧ SRep X.K Z S' H' ∧ Tabs tb H' ∧ EnvR X.K Z S' H' (wipeD ρ (own.map (·.2))) (wipe σ (own.map (·.2))) ∧
      allL true (fun d k => bindT t d (wipeD ρ (own.map (·.2))) k) (fun ρ' S' k => wT X' G mc ρ' S' k) (fun ρ' S' k => wE X' G me ρ' S' k) stay (fun b S' => Q (.bl b) S') (xs.drop i) S')
    (Fin := fun H' => ∃ (S' : Sto), Ext S1 H2 S' H' ∧ SRep X.K Z S' H' ∧ Tabs tb H' ∧ Q (.bl false) S')
    (St := fun H' => ∃ (S' : Sto), Ext S1 H2 S' H' ∧ SRep X.K Z S' H' ∧ Tabs tb H' ∧ Q (.bl true) S') GM (hr.mono (by omega)) I.ok.frames (fun Aw hw hf => pp Aw sc H2 C code fp [(a, go)] hw hf) ?_ ?_ ?_ ?_
  · rintro i n cp H' ⟨rfl, rfl, hi', S', x', s', t', e', w'⟩
    have st' : stay S' := by
      cases h : xs.drop i with
      | nil => rw [h] at w'; exact w'.1
      | cons _ _ => rw [h] at w'; exact w'.1
    have ok' := it1 Z (fun _ z => .inl z) i S' H' (x2.trans x') s' t' st'
    by_cases hlt : i < xs.length
    · obtain ⟨d, hd, hdrop⟩ := getElem?_range' hlt
      rw [hdrop] at w'
      obtain ⟨_, w'⟩ := w'
      obtain ⟨hgo, hyld⟩ := ok'.1 d hd
      refine .inr ⟨hgo, fun H5 => ∃ (S5 : Sto), Ext S1 H2 S5 H5 ∧ SRep X.K Z S5 H5 ∧ Tabs tb H5 ∧ EnvR X.K Z S5 H5 (wipeD ρ (own.map (·.2))) (wipe σ (own.map (·.2))) ∧
        allL true (fun d k => bindT t d (wipeD ρ (own.map (·.2))) k) (fun ρ' S' k => wT X' G mc ρ' S' k) (fun ρ' S' k => wE X' G me ρ' S' k) stay (fun b S' => Q (.bl b) S') (xs.drop (i + 1)) S5,
        fun H5 ⟨S5, y1, y2, y3, y5, y6⟩ => ⟨xs.length - (i + 1), by omega, rfl, rfl, hlt, S5, y1, y2, y3, y5, y6⟩, fun x H3 hy => ?_⟩
      obtain ⟨x3, s3, t3, r3⟩ := hyld x H3 hy
      refine gOf_sem (e'.ext s' x3) r3 w' fun ρ3 σ3 e3 o3 w3 => ⟨(o3 _ hsl).trans (wipe_wipe σ _ _ fun _ h => h), ?_⟩
      refine ⟨Z, ρ3, S', _, ⟨e3, s3, t3⟩, w3, fun b S4 H4 x4 s4 t4 w4 => ?_⟩
      cases b with
      | false => exact ⟨S4, (x'.trans x3).trans x4, s4, t4, (e'.ext s' x3).ext s3 x4, w4⟩
      | true =>
        refine ⟨Z, ρ3, S4, _, ⟨e3.ext s3 x4, s4, t4⟩, w4, fun d5 S5 v5 H5 x5 s5 t5 r5 w5 => ?_⟩
        obtain ⟨c5, tv, w5⟩ := w5
        refine ⟨rfl, c5, vTv_of r5 tv, ?_⟩
        have x6 := ((x'.trans x3).trans x4).trans x5
        cases c5 with
        | true => exact ⟨S5, x6, s5, t5, w5⟩
        | false => exact ⟨xs.length - (i + 1), by omega, rfl, hlt, S5, x6, s5, t5, ((e'.ext s' x3).ext s3 x4).ext s4 x5, w5⟩
    · have hn : xs.drop i = [] := List.drop_eq_nil_of_le (Nat.le_of_not_lt hlt)
      rw [hn] at w'
      exact .inl ⟨ok'.2 (Nat.le_of_not_lt hlt), rfl, S', x', s', t', w'.2⟩
  · exact ⟨rfl, Nat.zero_le _, S1, Ext.refl, s2, t2, m1.env.wipe _, w1⟩
  · rintro s3 H' I3 ⟨S', x', s', t', q⟩
    exact ⟨.bl false, H', I3, rfl, kk _ S' _ H' (x1.trans (x2.trans x')) s' t' (.bl false) q⟩
  · rintro s3 H' I3 ⟨S', x', s', t', q⟩
    exact ⟨.bl true, H', I3, rfl, kk _ S' _ H' (x1.trans (x2.trans x')) s' t' (.bl true) q⟩
end
end DL

set_option Elab.async false
set_option linter.all false
set_option maxRecDepth 100000
set_option maxHeartbeats 4000000
/-! DL20: sum(.. for ..). -/
namespace DL
open PySem PySem.Spec PyProof.Rows L2 RZ GenW

section
variable {X : Cx} {pins : List (Addr × Obj)} {σ : L2.St} {H : Hp} {tg elt : Expr} {ifs : List Expr} {scope : Scope} {own : List (Str × Nat)} {J : It} {a : Addr} {g : Nat} {genv : Env} {fp : List Addr} {sc : Shared} {go : Obj} {c : Code} {s' : Shared}
/-- the list that keeps the sum -/
def Wsm (S : Addr) (Φ : Nat → Nat → Int → Hp → Prop) : Nat → Nat → List (Addr × Obj) → Hp → Prop := fun i m cp H => ∃ t tk n, cp = [(S, lstObj #[.int t tk] n)] ∧ Φ i m t H
def Csm (S : Addr) (Φ : Nat → Nat → Int → Hp → Prop) : Nat → Nat → List (Addr × Obj) → V → Hp → Prop := fun i m cp y H => ∃ t tk n j m', cp = [(S, lstObj #[.int t tk] n)] ∧ y = .int j ∧ m' < m ∧ Φ (i + 1) m' (t + j) H
def Fsm (S : Addr) (Fin : Int → Hp → Prop) : List (Addr × Obj) → Hp → Prop := fun cp H => ∃ t tk n, cp = [(S, lstObj #[.int t tk] n)] ∧ Fin t H
theorem one_eq {t t1 : Int} {tk tk1 : Tok} {n n1 : Nat} (e2 : some (lstObj #[.int t1 tk1] n1) = some (lstObj #[.int t tk] n)) : t1 = t := by
  have := Option.some.inj e2
  simp only [lstObj, Obj.mk.injEq, true_and, and_true] at this
  injection this with q _
  simp at q
  exact q.1
theorem one_eq2 {t t1 : Int} {tk tk1 : Tok} {n n1 : Nat} (e2 : some (lstObj #[.int t1 tk1] n1) = some (lstObj #[.int t tk] n)) : tk1 = tk := by
  have := Option.some.inj e2
  simp only [lstObj, Obj.mk.injEq, true_and, and_true] at this
  injection this with q _
  simp at q
  exact q.2
theorem sumG (G : GMk X pins σ H tg elt ifs scope own J a g genv fp sc go c s') {B A : Around} {S : Addr} {Φ : Nat → Nat → Int → Hp → Prop} {Fin : Int → Hp → Prop} {R : Result → Shared → Prop} (hh : A.handled = none) (hd : A.depth < recursionLimit) (hSa : S ≠ a) (hSc : S ≠ cStatics)
    (hend : ∀ s2 t tk H', Inv X pins σ H' s2 → Fin t H' → R (.ok (.ret (.int t tk))) s2) :
    ∀ (m : Nat) (s : Shared) (t : Int) (tk : Tok) (n : Nat) (st : Int), (st = 0 ∨ st = 2) → s.heap.get? S = some (lstObj #[.int t tk] n) → s.heap.IsGen a g → s.heap.NoLimit →
      (∃ gs, s.gens[g]? = some gs ∧ gs.Goes (model X.prog X.w) A.in1.in1 (GRk (gblk X B sc H genv fp [(a, go)]) [S] (wipe σ (own.map (·.2))) (Fsm S Fin)) (GYk (gblk X B sc H genv fp [(a, go)]) fp [S] (wipe σ (own.map (·.2))) (Wsm S Φ) (Csm S Φ)) m (.send .none) (s.setGen g .running)) →
      codeAny (model X.prog X.w) A (.builtin "sum.loop" ⟨[.ref a, .ref S, rawInt st, rawInt 0], []⟩) R s := by
  have ends : ∀ {s₀ s₁ : Shared} {m : Nat} {h' : Heap} {t : Int} {tk : Tok} {n : Nat}, s₀.heap.get? S = some (lstObj #[.int t tk] n) → GFk (gblk X B sc H genv fp [(a, go)]) [S] (wipe σ (own.map (·.2))) (Fsm S Fin) m s₀ s₁ → (∀ b o, s₁.heap.get? b = some o → h'.get? b = some o) → R (.ok (.ret (.int t tk))) { s₁.setGen g .finished with heap := h' } := fun {s₀ s₁ m h' t tk n} hS hp hk => by
    obtain ⟨H2, cp, I2, hca, hs0, t1, tk1, n1, rfl, fin⟩ := hp
    have e3 : t1 = t := one_eq ((hs0 (S, lstObj #[.int t1 tk1] n1) List.mem_cons_self).symm.trans hS)
    have e4 : tk1 = tk := one_eq2 ((hs0 (S, lstObj #[.int t1 tk1] n1) List.mem_cons_self).symm.trans hS)
    subst e3 e4
    have I3 := G.leave I2
    refine hend _ t1 tk1 H2 ?_ fin
    exact I3.call' (ch := []) rfl (Un.kept hk) (I3.hok.kept hk) (allBare_setGen I3.bare rfl) fun b z => by simp at z
  have push : ∀ {s₁ : Shared} {H2 : Hp} {t t2 : Int} {tk tk2 : Tok} {n : Nat} {gn : Array GenState} {tks : Tok}, Inv (gblk X B sc H genv fp [(a, go)]) [(S, lstObj #[.int t tk] n)] (wipe σ (own.map (·.2))) H2 s₁ → AllBare gn →
      ∃ n', (s₁.heap.update S (Obj.mapSeq fun _ => #[.int t2 tk2])).get? S = some (lstObj #[.int t2 tk2] n') ∧ Sleep [(S, lstObj #[.int t tk] n)] [(S, lstObj #[.int t2 tk2] n')] s₁ { s₁ with toks := tks, gens := gn, heap := s₁.heap.update S (Obj.mapSeq fun _ => #[.int t2 tk2]) } := fun {s₁ H2 t t2 tk tk2 n gn tks} I2 hb => by
    have hS := (I2.pin (S, lstObj #[.int t tk] n) (List.mem_append_right _ List.mem_cons_self)).1
    obtain ⟨n', e'⟩ : ∃ n', (s₁.heap.update S (Obj.mapSeq fun _ => #[.int t2 tk2])).get? S = some (lstObj #[.int t2 tk2] n') := ⟨_, Heap.get?_update_self _ hS rfl⟩
    refine ⟨n', e', ⟨rfl, hb, rfl, fun b o hb e => (Heap.get?_update_other _ _ (fun z => hb (by rw [← z]; exact List.mem_cons_self))).trans e, fun p hp => ?_⟩⟩
    rw [List.mem_singleton.mp hp]
    exact ⟨e', fun v z => by cases z⟩
  intro m
  induction m with
  | zero =>
    intro s t tk n st hst hS hg hl ⟨gs, hgs, hgo⟩
    refine codeAny_builtin F.entry_sum_loop ?_
    rw [Around.under_plainId F.plain_sum_loop _]
    show wpAny _ A.in1 (seqItems? (.ref S) >>= _) _ _ s
    refine wpAny_bind (wpAny_seqItems hS rfl ?_)
    show wpAny _ A.in1 (tryCatch (pyNext (.ref a)) _ >>= _) _ _ s
    refine wpAny_bind (wpAny_tryCatch (next_genG (A := A.in1) hh hl hd hg hgs hgo (fun v s₁ gs' hbare hv => ?_) (fun s₁ hp h' hk => ?_) fun e s₁ he => he.elim))
    · obtain ⟨i, mm, y, H2, cp, r, I2, hca, hs0, ⟨t1, tk1, n1, j, m', rfl, rfl, hm', ph⟩, hk⟩ := hv
      obtain ⟨n', _, sl⟩ := push (t2 := t1 + j) (tk2 := 0) (tks := s₁.toks) I2 I2.bare
      exact False.elim (hk _ _ m' sl hm' ⟨_, _, _, rfl, ph⟩)
    · exact wpAny_pure (ends (s₀ := s.setGen g .running) hS hp hk)
  | succ m ih =>
    intro s t tk n st hst hS hg hl ⟨gs, hgs, hgo⟩
    have hgl : g < s.gens.size := (Array.getElem?_eq_some_iff.mp hgs).1
    refine codeAny_builtin F.entry_sum_loop ?_
    rw [Around.under_plainId F.plain_sum_loop _]
    show wpAny _ A.in1 (seqItems? (.ref S) >>= _) _ _ s
    refine wpAny_bind (wpAny_seqItems hS rfl ?_)
    show wpAny _ A.in1 (tryCatch (pyNext (.ref a)) _ >>= _) _ _ s
    refine wpAny_bind (wpAny_tryCatch (wpAny_gsz (n := g + 1) hgl (next_genG (A := A.in1) hh hl hd hg hgs hgo (fun v s₁ gs' hbare hv => ?_) (fun s₁ hp h' hk => ?_) fun e s₁ he => he.elim)))
    · intro hsz
      obtain ⟨i, mm, y, H2, cp, r, I2, hca, hs0, ⟨t1, tk1, n1, j, m', rfl, rfl, hm', ph⟩, hk⟩ := hv
      obtain ⟨tj, rfl⟩ : ∃ tj, v = .int j tj := r
      have e3 : t1 = t := one_eq ((hs0 (S, lstObj #[.int t1 tk1] n1) List.mem_cons_self).symm.trans hS)
      subst e3
      have hS1 := (I2.pin (S, lstObj #[.int t1 tk1] n1) (List.mem_append_right _ List.mem_cons_self)).1
      have hA := (I2.pin (a, go) (List.mem_append_left _ List.mem_cons_self)).1
      have hsz1 : g < s₁.gens.size := by
        have q : (s₁.setGen g gs').gens.size = s₁.gens.size := setGen_size _ _ _
        have hsz' : g + 1 ≤ (s₁.setGen g gs').gens.size := hsz
        omega
      have nxt : ∀ (tks : Tok) (h' : Heap) (n' : Nat) (tk2 : Tok) (st : Int), (st = 0 ∨ st = 2) → h'.get? S = some (lstObj #[.int (t1 + j) tk2] n') → (∀ b o, b ≠ S → s₁.heap.get? b = some o → h'.get? b = some o) →
          codeAny (model X.prog X.w) A (.builtin "sum.loop" ⟨[.ref a, .ref S, rawInt st, rawInt 0], []⟩) R { s₁.setGen g gs' with toks := tks, heap := h' } := fun tks h' n' tk2 st hst e' keep => by
        refine ih _ (t1 + j) tk2 n' st hst e' (G.gen _ (keep a go (Ne.symm hSa) hA)) ?_ ⟨gs', setGen_at hsz1, ?_⟩
        · obtain ⟨mc, hns, hnn⟩ := I2.nolimit
          exact ⟨mc, hns.at' fun o e => keep _ o (Ne.symm hSc) e, hnn⟩
        · refine hk _ [(S, lstObj #[.int (t1 + j) tk2] n')] m' ⟨rfl, allBare_setGen (s := { s₁.setGen g gs' with toks := tks, heap := h' }) (allBare_setGen I2.bare hbare) rfl, rfl, fun b o hb e => keep b o (fun z => hb (by rw [z]; exact List.mem_cons_self)) e, fun p hp => ?_⟩ hm' ⟨_, _, _, rfl, ph⟩
          rw [List.mem_singleton.mp hp]
          exact ⟨e', fun v z => by cases z⟩
      have keep1 : ∀ (f : Array Value → Array Value) b o, b ≠ S → s₁.heap.get? b = some o → (s₁.heap.update S (Obj.mapSeq f)).get? b = some o := fun f b o hb e => (Heap.get?_update_other _ _ (Ne.symm hb)).trans e
      rcases hst with rfl | rfl
      · show wpAny _ A.in1 (if (_ : Bool) = true then (mkInt (t1 + j) >>= _) else _) _ _ _
        split
        · refine wpAny_bind (wpAny_mkInt ?_)
          show wpAny _ A.in1 (updateSeq S (fun _ => #[.int (t1 + j) s₁.toks]) >>= _) _ _ _
          refine wpAny_bind ?_
          refine wpAny_updateSeq hS1 rfl (wpAny_pure ⟨plainId_quiet F.plain_sum_loop _, ?_⟩)
          exact nxt _ _ _ s₁.toks 0 (.inl rfl) (Heap.get?_update_self _ hS1 rfl) (keep1 _)
        · refine wpAny_bind (wpAny_rule ?_)
          refine wpAny_bind (wpAny_attempt (wpAny_holding (wpAny_add_int ?_)))
          show wpAny _ A.in1 (updateSeq S (fun _ => #[.int (t1 + j) s₁.toks]) >>= _) _ _ _
          refine wpAny_bind (wpAny_updateSeq hS1 rfl ?_)
          have hS2 := Heap.get?_update_self (Obj.mapSeq fun _ => #[Value.int (t1 + j) s₁.toks]) hS1 rfl
          refine wpAny_bind (wpAny_letGo ?_)
          refine wpAny_bind (wpAny_updateSeq hS2 rfl (wpAny_pure ⟨plainId_quiet F.plain_sum_loop _, ?_⟩))
          exact nxt _ _ _ s₁.toks 2 (.inr rfl) (Heap.get?_update_self _ hS2 rfl) (fun b o hb e => (Heap.get?_update_other _ _ (Ne.symm hb)).trans (keep1 _ b o hb e))
      · show wpAny _ A.in1 ((holding [Value.int j tj] (binaryOp .Add (.int t1 tk) (.int j tj))).attempt >>= _) _ _ _
        refine wpAny_bind (wpAny_attempt (wpAny_holding (wpAny_add_int ?_)))
        show wpAny _ A.in1 (updateSeq S (fun _ => #[.int (t1 + j) s₁.toks]) >>= _) _ _ _
        refine wpAny_bind (wpAny_updateSeq hS1 rfl ?_)
        have hS2 := Heap.get?_update_self (Obj.mapSeq fun _ => #[Value.int (t1 + j) s₁.toks]) hS1 rfl
        refine wpAny_bind (wpAny_letGo ?_)
        refine wpAny_bind (wpAny_updateSeq hS2 rfl (wpAny_pure ⟨plainId_quiet F.plain_sum_loop _, ?_⟩))
        exact nxt _ _ _ s₁.toks 2 (.inr rfl) (Heap.get?_update_self _ hS2 rfl) (fun b o hb e => (Heap.get?_update_other _ _ (Ne.symm hb)).trans (keep1 _ b o hb e))
    · intro hsz
      exact wpAny_pure (ends (s₀ := s.setGen g .running) hS hp hk)
def TurnS (J : It) (S : Addr) (σw : L2.St) (vs : List Nat) (gt : TG) (tt : TT) (te : TE) (Φ : Nat → Nat → Int → Hp → Prop) (Fin : Int → Hp → Prop) : Prop :=
  ∀ i m cp H, Wsm S Φ i m cp H → (J.stop i H ∧ Fsm S Fin cp H) ∨ (J.go i H ∧ ∃ Nx : Hp → Prop, (∀ H', Nx H' → ∃ m', m' < m ∧ Wsm S Φ (i + 1) m' cp H') ∧ ∀ x H', J.yld i H x H' → gt x σw H' fun σ2 H2 => wipe σ2 vs = σw ∧ tt σ2 H2 fun b H3 =>
    if b = true then te σ2 H3 fun y H4 => Csm S Φ i m cp y H4 else Nx H3)
theorem sumC {k : Nat} (G : GMk X pins σ H tg elt ifs scope own J a g genv fp sc go c s') {A : Around} {gt : TG} {tt : TT} {te : TE} {Φ : Nat → Nat → Int → Hp → Prop} {Fin : Int → Hp → Prop} {m : Nat} {Q : Value → Shared → Prop} {E : Value → Shared → Prop}
    (hr : Room (k + 3) A) (hfr : A.frames = some X.stack) (pp : Parts X k sc H genv fp a go tg elt ifs gt tt te)
    (turn : ∀ S, H S = none → TurnS J S (wipe σ (own.map (·.2))) (own.map (·.2)) gt tt te Φ Fin) (w0 : Φ 0 m 0 H)
    (hend : ∀ s2 t tk H', Inv X pins σ H' s2 → Fin t H' → Q (.int t tk) s2) : wpAny (model X.prog X.w) A (call (.builtin "sum") [.ref a]) Q E s' := by
  have hdp : A.depth < recursionLimit := by have := hr.dp; omega
  have lim : s'.heap.NoLimit := G.inv.nolimit.keeps G.kept
  have hSI : s'.heap.objs.size ≠ a := Nat.ne_of_gt G.size.2
  have hSc : s'.heap.objs.size ≠ cStatics := Nat.ne_of_gt (let ⟨_, hns, _⟩ := lim; hns.lt)
  refine call_function_tree F.kind_sum F.plain_sum F.entry_sum (F.args_sum1 _) ?_
  unfold Builtin.«sum»
  simp only [List.length_cons, List.length_nil]
  rw [if_neg (by decide)]
  refine wpAny_bind (wpAny_of_eq (show Builtin.Builtins.bindParams "sum" ["start"] 0 { } = pure [none] from rfl) ?_)
  have gen1 : s'.heap.IsGen a g := G.gen _ G.obj
  refine wpAny_bind (wpAny_pyIter_gen gen1 ?_)
  refine wpAny_bind (wpAny_mkInt ?_)
  refine wpAny_bind (wpAny_pure ?_)
  simp only [List.forIn_cons, List.forIn_nil]
  refine wpAny_bind (wpAny_bind (wpAny_bind (wpAny_isInstance (T := "int") (b := false) (typeIs_int _ _ _) PySem.sub_int_str ?_)))
  simp only [Bool.false_eq_true, if_false]
  refine wpAny_pure (wpAny_bind (wpAny_bind (wpAny_isInstance (T := "int") (b := false) (typeIs_int _ _ _) PySem.sub_int_bytes ?_)))
  simp only [Bool.false_eq_true, if_false]
  refine wpAny_pure (wpAny_bind (wpAny_bind (wpAny_isInstance (T := "int") (b := false) (typeIs_int _ _ _) PySem.sub_int_bytearray ?_)))
  simp only [Bool.false_eq_true, if_false]
  refine wpAny_pure (wpAny_pure ?_)
  refine wpAny_bind (wpAny_newObj_type ?_)
  have kp : ∀ b o, s'.heap.get? b = some o → (s'.heap.push { cls := .type "list", data := .seq #[Value.int 0 s'.toks] }).get? b = some o := fun b o e => Heap.get?_push_of_some _ e
  have hS : (s'.heap.push { cls := .type "list", data := .seq #[Value.int 0 s'.toks] }).get? s'.heap.objs.size = some (lstObj #[.int 0 s'.toks] 0) := Heap.get?_push_size _ rfl
  have hSn : H s'.heap.objs.size = none := G.inv.hok.fresh (Nat.le_of_lt (Nat.lt_trans G.size.1 G.size.2))
  refine wpAny_pure ⟨plainId_quiet F.plain_sum_loop _, ?_⟩
  refine sumG (A := A) (B := A.in1.in1.deeper genv) (S := s'.heap.objs.size) (Φ := Φ) (Fin := Fin) G hr.hd hdp hSI hSc hend (m + 1) _ 0 s'.toks _ 0 (.inl rfl) hS (G.gen _ (kp a go G.obj)) (lim.keeps kp) ⟨_, G.gens, rfl, ?_⟩
  have hrw : Room k A.in1.in1 := (hr.in1.in1).mono (Nat.le_succ _)
  obtain ⟨pg, pt, pe⟩ := pp A.in1.in1 hrw hfr
  refine G.run A.in1.in1 [(s'.heap.objs.size, lstObj #[.int 0 s'.toks] 0)] _ hr.hd hfr ?_ ?_ ?_ ?_ gt tt te pg pt pe _ _ _ m (turn _ hSn) ⟨0, s'.toks, 0, rfl, w0⟩
  · intro p hp
    rw [List.mem_singleton.mp hp]
    exact ⟨Nat.le_refl _, hS, fun v z => by cases z⟩
  · exact kp
  · rfl
  · exact allBare_setGen (s := { s' with heap := _, toks := _ }) G.bare rfl
end
end DL

set_option Elab.async false
set_option linter.all false
set_option maxRecDepth 100000
set_option maxHeartbeats 4000000
/-! DL21: sum(.. for ..), over data. -/
namespace DL
open PySem PySem.Spec PyProof.Rows L2 RZ GenW
section
variable {X : Cx} {tb : List Addr} {X' : Mod'} {G : Fns} {elt tg iter : Expr} {ifs : List Expr} {scope : Scope} {own : List (Str × Nat)} {t : TT'} {me mi mc : M} {p pos gpos : Pos}
theorem boot_sum' : bootBuiltins "sum" = some (.builtin "sum") := by decide +kernel
/-- sum(elt for tg in iter if ..) -/
theorem de_gsum {k : Nat} {cA P : Addr} (hr : Room (k + 5) X.A) (TB : GxR.TabB X.base X.mg cA P) (hP : P ∈ tb) (hcode : X.env.code = .ref cA) (ok : GenOk X.N X.env.scope scope own) (hN : X.N.Nodup) (hc : X.calm = true) (hi : DI X tb X' G tg iter mi)
    (hs : ∀ v, genFold iter X.env v = pure v) (hsl : ∀ i ∈ slots t, i ∈ own.map (·.2)) (hg : Gl X "sum") (hm : X.mg "sum" = none)
    (pp : ∀ (Aw : Around) (sc : Shared) (H : Hp) (C : Addr) (code : Value) (fp : List Addr) (pn : List (Addr × Obj)), Room k Aw → Aw.frames = some X.stack →
      DG (gblk X (Aw.deeper (genEnv scope (cloFrom X.env.cells scope.names []) C code builtinsNs X.env)) sc H (genEnv scope (cloFrom X.env.cells scope.names []) C code builtinsNs X.env) fp pn) tg t ∧
      PTs (gblk X (Aw.deeper (genEnv scope (cloFrom X.env.cells scope.names []) C code builtinsNs X.env)) sc H (genEnv scope (cloFrom X.env.cells scope.names []) C code builtinsNs X.env) fp pn) ifs (tDT X.K tb (wT X' G mc)) ∧
      DE (gblk X (Aw.deeper (genEnv scope (cloFrom X.env.cells scope.names []) C code builtinsNs X.env)) sc H (genEnv scope (cloFrom X.env.cells scope.names []) C code builtinsNs X.env) fp pn) tb X' G elt me)
    (he : starEach [.GeneratorExp elt [⟨tg, iter, ifs, 0⟩] scope gpos] X.env = (false, eval (.GeneratorExp elt [⟨tg, iter, ifs, 0⟩] scope gpos) X.env) :: starEach [] X.env := by rfl) :
    DE X tb X' G (.Call (.Name "sum" p) [.GeneratorExp elt [⟨tg, iter, ifs, 0⟩] scope gpos] [] pos) (.gsum (own.map (·.2)) t me mi mc) := by
  refine ⟨fun pins s σ H Qv I ⟨Z, ρ, S, Q, m, w, kk⟩ => ?_⟩
  refine wpAny_Call_Name_kw (ld_blt I hg hm boot_sum' ?_ (by decide +kernel) (by decide +kernel))
  refine PyProof.Rows.callWith_builtin1 ?_ he rfl
  rw [he]
  show wpAny _ _ (spliced ((false, eval (.GeneratorExp elt [⟨tg, iter, ifs, 0⟩] scope gpos) X.env) :: backTo pos (starEach [] X.env))) _ _ s
  have w : wI X' G mi ρ S fun xs stay S1 => sumL (fun d k => bindT t d (wipeD ρ (own.map (·.2))) k) (fun ρ' S' k => wT X' G mc ρ' S' k) (fun ρ' S' k => wE X' G me ρ' S' k) stay (fun n S' => Q (.int n) S') xs 0 S1 := w
  refine Calls.spliced_cons (gen_make (own := own) (R := fun J H1 => ∃ xs stay S1, Ext S H S1 H1 ∧ SRep X.K Z S1 H1 ∧ Tabs tb H1 ∧ ItOk X.K tb Z S1 H1 J xs stay ∧
      sumL (fun d k => bindT t d (wipeD ρ (own.map (·.2))) k) (fun ρ' S' k => wT X' G mc ρ' S' k) (fun ρ' S' k => wE X' G me ρ' S' k) stay (fun n S' => Q (.int n) S') xs 0 S1) (hr.mono (Nat.le_add_right _ _)) TB hcode ok hN hc hi hs I
    ⟨Z, ρ, S, _, m, w, fun xs stay S1 J H1 x1 s1 t1 it1 w1 => ⟨t1 P hP, xs, stay, S1, x1, s1, t1, it1, w1⟩⟩ fun J H1 H2 a g genv fp sc go c s' hR hT GM => ?_)
  obtain ⟨xs, stay, S1, x1, s1, t1, it1, w1⟩ := hR
  have tg1 := t1 P hP
  have x2 : Ext S1 H1 S1 H2 := tabbed_ext hT tg1
  have s2 := tabbed_srep hT tg1 s1
  have t2 := tabbed_tabs hT t1
  have m1 := m.go (x1.trans x2) s2 t2
  refine Calls.spliced_nil ?_
  obtain ⟨C, code, rfl⟩ := GM.env
  refine sumC (k := k) (gt := gOf X.K t) (tt := tDT X.K tb (wT X' G mc)) (te := tD X.K tb (wE X' G me)) (m := xs.length)
    (Φ := fun i n tot H' => n = xs.length - i ∧ i ≤ xs.length ∧ ∃ (S' : Sto), Ext S1 H2 S' H' ∧ SRep X.K Z S' H' ∧ Tabs tb H' ∧ EnvR X.K Z S' H' (wipeD ρ (own.map (·.2))) (wipe σ (own.map (·.2))) ∧
      sumL (fun d k => bindT t d (wipeD ρ (own.map (·.2))) k) (fun ρ' S' k => wT X' G mc ρ' S' k) (fun ρ' S' k => wE X' G me ρ' S' k) stay (fun n S' => Q (.int n) S') (xs.drop i) tot S')
    (Fin := fun tot H' => ∃ (S' : Sto), Ext S1 H2 S' H' ∧ SRep X.K Z S' H' ∧ Tabs tb H' ∧ Q (.int tot) S') GM (hr.mono (by omega)) I.ok.frames (fun Aw hw hf => pp Aw sc H2 C code fp [(a, go)] hw hf) ?_ ?_ ?_
  · rintro L hL i n cp H' ⟨tot, tk0, n0, rfl, rfl, hi', S', x', s', t', e', w'⟩
    have st' : stay S' := by
      cases h : xs.drop i with
      | nil => rw [h] at w'; exact w'.1
      | cons _ _ => rw [h] at w'; exact w'.1
    have ok' := it1 Z (fun _ z => .inl z) i S' H' (x2.trans x') s' t' st'
    by_cases hlt : i < xs.length
    · obtain ⟨d, hd, hdrop⟩ := getElem?_range' hlt
      rw [hdrop] at w'
      obtain ⟨_, w'⟩ := w'
      obtain ⟨hgo, hyld⟩ := ok'.1 d hd
      refine .inr ⟨hgo, fun H5 => ∃ (S5 : Sto), Ext S1 H2 S5 H5 ∧ SRep X.K Z S5 H5 ∧ Tabs tb H5 ∧ EnvR X.K Z S5 H5 (wipeD ρ (own.map (·.2))) (wipe σ (own.map (·.2))) ∧
        sumL (fun d k => bindT t d (wipeD ρ (own.map (·.2))) k) (fun ρ' S' k => wT X' G mc ρ' S' k) (fun ρ' S' k => wE X' G me ρ' S' k) stay (fun n S' => Q (.int n) S') (xs.drop (i + 1)) tot S5,
        fun H5 ⟨S5, y1, y2, y3, y5, y6⟩ => ⟨xs.length - (i + 1), by omega, tot, tk0, n0, rfl, rfl, hlt, S5, y1, y2, y3, y5, y6⟩, fun x H3 hy => ?_⟩
      obtain ⟨x3, s3, t3, r3⟩ := hyld x H3 hy
      refine gOf_sem (e'.ext s' x3) r3 w' fun ρ3 σ3 e3 o3 w3 => ⟨(o3 _ hsl).trans (wipe_wipe σ _ _ fun _ h => h), ?_⟩
      refine ⟨Z, ρ3, S', _, ⟨e3, s3, t3⟩, w3, fun b S4 H4 x4 s4 t4 w4 => ?_⟩
      cases b with
      | false => exact ⟨S4, (x'.trans x3).trans x4, s4, t4, (e'.ext s' x3).ext s3 x4, w4⟩
      | true =>
        refine ⟨Z, ρ3, S4, _, ⟨e3.ext s3 x4, s4, t4⟩, w4, fun d5 S5 v5 H5 x5 s5 t5 r5 w5 => ?_⟩
        obtain ⟨c5, rfl, w5⟩ := w5
        cases r5
        exact ⟨tot, tk0, n0, c5, xs.length - (i + 1), rfl, rfl, by omega, rfl, hlt, S5, ((x'.trans x3).trans x4).trans x5, s5, t5, ((e'.ext s' x3).ext s3 x4).ext s4 x5, w5⟩
    · have hn : xs.drop i = [] := List.drop_eq_nil_of_le (Nat.le_of_not_lt hlt)
      rw [hn] at w'
      exact .inl ⟨ok'.2 (Nat.le_of_not_lt hlt), tot, tk0, n0, rfl, S', x', s', t', w'.2⟩
  · exact ⟨rfl, Nat.zero_le _, S1, Ext.refl, s2, t2, m1.env.wipe _, w1⟩
  · rintro s3 tot tk H' I3 ⟨S', x', s', t', q⟩
    exact ⟨.int tot, H', I3, ⟨_, rfl⟩, kk _ S' _ H' (x1.trans (x2.trans x')) s' t' (.int tot) q⟩
end
end DL

set_option Elab.async false
set_option linter.all false
set_option maxRecDepth 100000
set_option maxHeartbeats 4000000
/-! DL22: dicts. -/
namespace DL
open PySem PySem.Spec PyProof.Rows L2 RZ

/-! ### keys -/
mutual
theorem hash_w (w w' : World) : ∀ (d : D) (k : NestedKey), keyOf d = some k → k.hash w = k.hash w'
  | .int i, k, h => by cases h; rfl
  | .tup xs, k, h => by
    obtain ⟨ks, hk, rfl⟩ := Option.map_eq_some_iff.mp h
    show reduceHash (Builtin.Tuple.tupleHashOf (NestedKey.hashes w ks)) = reduceHash (Builtin.Tuple.tupleHashOf (NestedKey.hashes w' ks))
    rw [hashes_w w w' xs ks hk]
  | .non, _, h => by cases h
  | .bl _, _, h => by cases h
  | .str _, _, h => by cases h
  | .lst _, _, h => by cases h
  | .scr _, _, h => by cases h
  | .ref _, _, h => by cases h
  | .dct _, _, h => by cases h
theorem hashes_w (w w' : World) : ∀ (ds : List D) (ks : List NestedKey), keysOf ds = some ks → NestedKey.hashes w ks = NestedKey.hashes w' ks
  | [], _, h => by cases h; rfl
  | d :: ds, ks, h => by
    unfold keysOf at h
    cases h1 : keyOf d with
    | none => rw [h1] at h; cases h
    | some k =>
      cases h2 : keysOf ds with
      | none => rw [h1, h2] at h; cases h
      | some r =>
        rw [h1, h2] at h
        cases h
        show k.hash w :: NestedKey.hashes w r = k.hash w' :: NestedKey.hashes w' r
        rw [hash_w w w' d k h1, hashes_w w w' ds r h2]
end
section
variable {X : Cx} {pins : List (Addr × Obj)} {σ : L2.St} {H : Hp} {s : Shared} {Z : Addr → Prop} {S : Sto}
mutual
theorem rep_key (I : Inv X pins σ H s) : ∀ {d : D} {k : NestedKey} {v : V} {u : Value}, Rep X.K Z S H d v → RelV v u → keyOf d = some k → NestedIs s.heap k u
  | .int i, k, _, u, .int _, r, h => by
    cases h
    obtain ⟨t, rfl⟩ := r
    exact .int i t
  | .tup xs, k, _, u, .tup hT rr, r, h => by
    obtain ⟨ks, hk, rfl⟩ := Option.map_eq_some_iff.mp h
    cases r
    obtain ⟨its, rv, ⟨o, h1, h2, n, h3⟩, _⟩ := I.tuple hT
    exact .tup h1 h2 h3 (reps_key I rr rv hk)
  | .non, _, _, _, _, _, h => by cases h
  | .bl _, _, _, _, _, _, h => by cases h
  | .str _, _, _, _, _, _, h => by cases h
  | .lst _, _, _, _, _, _, h => by cases h
  | .scr _, _, _, _, _, _, h => by cases h
  | .ref _, _, _, _, _, _, h => by cases h
  | .dct _, _, _, _, _, _, h => by cases h
theorem reps_key (I : Inv X pins σ H s) : ∀ {ds : List D} {ks : List NestedKey} {vs : List V} {us : List Value}, RepL X.K Z S H ds vs → Vals vs us → keysOf ds = some ks → NestedAll s.heap ks us
  | [], _, _, _, .nil, .nil, h => by cases h; exact .nil
  | d :: ds, ks, _, _, .cons r rr, .cons q qq, h => by
    unfold keysOf at h
    cases h1 : keyOf d with
    | none => rw [h1] at h; cases h
    | some k =>
      cases h2 : keysOf ds with
      | none => rw [h1, h2] at h; cases h
      | some rk =>
        rw [h1, h2] at h
        cases h
        exact .cons (rep_key I r q h1) (reps_key I rr qq h2)
end
/-- what an entry is -/
theorem mt_keys (I : Inv X pins σ H s) : ∀ {xs : List D} {vs : List V} {ts : List (NestedKey × Addr × Value)}, Mt xs vs ts → RepL X.K Z S H xs vs → ∀ x ∈ ts, (∃ d, keyOf d = some x.1) ∧ NestedIs s.heap x.1 (.ref x.2.1) ∧ x.1.depth ≤ 8
  | _, _, _, .nil, _, x, hx => by cases hx
  | _, _, _, .cons hk hd rv m, .cons r (.cons r2 rr), x, hx => by
    rcases List.mem_cons.mp hx with rfl | hx
    · exact ⟨⟨_, hk⟩, rep_key I r rfl hk, hd⟩
    · exact mt_keys I m rr x hx
theorem cell_of (I : Inv X pins σ H s) {a : Addr} {w : World} {ts : List (NestedKey × Addr × Value)} {xs : List D} {vs : List V} (h : H a = some (dctO w a ts)) (nd : (ts.map (·.1)).Nodup) (m : Mt xs vs ts) (r : RepL X.K Z S H xs vs) :
    s.heap.DictOfH (nestedKind X.prog X.w) a ts := by
  obtain ⟨⟨o, es, ep, h1, h2, h3, h4⟩, _⟩ := I.hok a _ h
  have kk := mt_keys I m r
  refine ⟨o, es, ep, h1, h2, h3, ?_, fun x hx => ⟨(kk x hx).2.1, (kk x hx).2.2⟩, nd⟩
  rw [h4]
  refine List.map_congr_left fun x hx => ?_
  obtain ⟨⟨d, hd⟩, _⟩ := kk x hx
  show (⟨x.1.hash w, .ref x.2.1, x.2.2⟩ : DictEntry) = ⟨x.1.hash X.w, .ref x.2.1, x.2.2⟩
  rw [hash_w w X.w d _ hd]
end

/-! ### tables -/
section
variable {K : PySem.W.Frag} {Z : Addr → Prop} {S : Sto} {H : Hp}
theorem at_nil (k : NestedKey) : atKey ([] : List (NestedKey × Addr × Value)) k = none := rfl
theorem at_pos {x : NestedKey × Addr × Value} {r : List (NestedKey × Addr × Value)} {k : NestedKey} (e : x.1 = k) : atKey (x :: r) k = some x.2 := by simp [atKey, List.find?_cons, e]
theorem at_neg {x : NestedKey × Addr × Value} {r : List (NestedKey × Addr × Value)} {k : NestedKey} (e : x.1 ≠ k) : atKey (x :: r) k = atKey r k := by simp [atKey, List.find?_cons, e]
theorem mt_find (k : NestedKey) : ∀ {xs : List D} {vs : List V} {ts : List (NestedKey × Addr × Value)}, Mt xs vs ts → RepL K Z S H xs vs →
    (∀ d, dFind k xs = some d → ∃ p v, atKey ts k = some p ∧ RelV v p.2 ∧ Rep K Z S H d v) ∧ (dFind k xs = none → atKey ts k = none)
  | _, _, _, .nil, _ => ⟨fun d e => (by cases e), fun _ => rfl⟩
  | _, _, _, .cons (d := d0) (e := e0) (k := k0) (ds := ds) (ts := ts) hk hd rv m, .cons r (.cons r2 rr) => by
    have ih := mt_find k m rr
    by_cases e : k0 = k
    · subst e
      rw [at_pos rfl]
      have f : dFind k0 (d0 :: e0 :: ds) = some e0 := if_pos hk
      rw [f]
      exact ⟨fun d ed => (by cases ed; exact ⟨_, _, rfl, rv, r2⟩), fun z => (by cases z)⟩
    · rw [at_neg e]
      have f : dFind k (d0 :: e0 :: ds) = dFind k ds := if_neg (by rw [hk]; exact fun z => e (Option.some.inj z))
      rw [f]
      exact ih
theorem put_id (k : NestedKey) (u : Value) : ∀ ts : List (NestedKey × Addr × Value), k ∉ ts.map (·.1) → ts.map (putAt k u) = ts
  | [], _ => rfl
  | x :: ts, h => by
    rw [List.map_cons, List.mem_cons, not_or] at h
    rw [List.map_cons, put_id k u ts h.2]
    unfold putAt
    rw [if_neg (fun z => h.1 z.symm)]
theorem at_mem (k : NestedKey) : ∀ ts : List (NestedKey × Addr × Value), atKey ts k = none → k ∉ ts.map (·.1)
  | [], _ => fun z => by cases z
  | x :: ts, h => by
    by_cases e : x.1 = k
    · rw [at_pos e] at h; cases h
    · rw [at_neg e] at h
      rw [List.map_cons, List.mem_cons, not_or]
      exact ⟨fun z => e z.symm, at_mem k ts h⟩
theorem stored_pos {x : NestedKey × Addr × Value} {r : List (NestedKey × Addr × Value)} {k : NestedKey} {b : Addr} {u : Value} (e : x.1 = k) (nd : ((x :: r).map (·.1)).Nodup) : storedH (x :: r) k b u = (x.1, x.2.1, u) :: r := by
  unfold storedH
  rw [at_pos e, if_pos (show (some x.snd).isSome = true from rfl), List.map_cons]
  rw [List.map_cons, List.nodup_cons] at nd
  rw [put_id k u r (by rw [← e]; exact nd.1)]
  unfold putAt
  rw [if_pos e]
theorem stored_neg {x : NestedKey × Addr × Value} {r : List (NestedKey × Addr × Value)} {k : NestedKey} {b : Addr} {u : Value} (e : x.1 ≠ k) : storedH (x :: r) k b u = x :: storedH r k b u := by
  unfold storedH
  rw [at_neg e]
  split
  · rw [List.map_cons]
    unfold putAt
    rw [if_neg e]
  · rfl
theorem mt_store {k : NestedKey} {y e : D} {b : Addr} {v : V} {u : Value} (hy : keyOf y = some k) (hd : k.depth ≤ 8) (ry : Rep K Z S H y (.ref b)) (rv : RelV v u) (re : Rep K Z S H e v) : ∀ {xs : List D} {vs : List V} {ts : List (NestedKey × Addr × Value)}, Mt xs vs ts → RepL K Z S H xs vs → (ts.map (·.1)).Nodup →
    ∃ vs', Mt (dStore y k e xs) vs' (storedH ts k b u) ∧ RepL K Z S H (dStore y k e xs) vs' ∧ ((storedH ts k b u).map (·.1)).Nodup ∧ ∀ j, j ∈ (storedH ts k b u).map (·.1) → j = k ∨ j ∈ ts.map (·.1)
  | _, _, _, .nil, _, _ => ⟨[.ref b, v], .cons hy hd rv .nil, .cons ry (.cons re .nil), by simp [storedH, at_nil], fun j hj => by
    left
    simpa [storedH, at_nil] using hj⟩
  | _, _, _, .cons (d := d0) (e := e0) (p := p0) (k := k0) (v := v0) (u := u0) (ds := ds) (vs := vs) (ts := ts) hk hd0 rv0 m, .cons r (.cons r2 rr), nd => by
    by_cases q : k0 = k
    · subst q
      have f : dStore y k0 e (d0 :: e0 :: ds) = d0 :: e :: ds := if_pos hk
      rw [f, stored_pos rfl nd]
      exact ⟨.ref p0 :: v :: vs, .cons hk hd0 rv m, .cons r (.cons re rr), nd, fun j hj => .inr hj⟩
    · have f : dStore y k e (d0 :: e0 :: ds) = d0 :: e0 :: dStore y k e ds := if_neg (by rw [hk]; exact fun z => q (Option.some.inj z))
      have nd' := nd
      rw [List.map_cons, List.nodup_cons] at nd
      obtain ⟨vs', m', r', n', j'⟩ := mt_store hy hd ry rv re m rr nd.2
      rw [f, stored_neg q]
      refine ⟨.ref p0 :: v0 :: vs', .cons hk hd0 rv0 m', .cons r (.cons r2 r'), ?_, fun j hj => ?_⟩
      · rw [List.map_cons, List.nodup_cons]
        refine ⟨fun z => ?_, n'⟩
        rcases j' _ z with z | z
        · exact q z
        · exact nd.1 z
      · rw [List.map_cons, List.mem_cons] at hj
        rcases hj with rfl | hj
        · exact .inr List.mem_cons_self
        · rcases j' _ hj with z | z
          · exact .inl z
          · exact .inr (List.mem_cons_of_mem _ z)
theorem mt_len : ∀ {xs : List D} {vs : List V} {ts : List (NestedKey × Addr × Value)}, Mt xs vs ts → xs.length = 2 * ts.length
  | _, _, _, .nil => rfl
  | _, _, _, .cons _ _ _ m => by simp only [List.length_cons]; rw [mt_len m]; omega
end

/-! ### rules -/
section
variable {X : Cx} {tb : List Addr} {X' : Mod'} {G : Fns} {a b c e : Expr} {ma mb mc me : M} {pos : Pos}
theorem dct_ok {P : Program} {w : World} {H' : Hp} {h : Heap} {d : Addr} {ts : List (NestedKey × Addr × Value)} (x : h.DictOfH (nestedKind P w) d ts) : ObjOk P w H' h d (dctO w d ts) := by
  obtain ⟨o, es, ep, h1, h2, h3, h4, _, _⟩ := x
  exact ⟨⟨o, es, ep, h1, h2, h3, h4⟩, ⟨o, h1⟩, fun g1 g2 ⟨o', es', ep', e1, e2, e3, e4⟩ k => ⟨o', es', ep', k _ e1, e2, e3, e4⟩⟩
theorem de_dnew : DE X tb X' G (.Dict [] [] pos) .dnew := by
  refine ⟨fun pins s σ H Qv I ⟨Z, ρ, S, Q, m, w, k⟩ => wpAny_Dict_empty ?_⟩
  have hp := I.hok.fresh (Nat.le_refl s.heap.objs.size)
  have np : s.heap.objs.size ≠ sysModules := Ne.symm (Nat.ne_of_lt I.big)
  have x := Ext.newS (S := S) (o := dctO X.w s.heap.objs.size []) (xs := []) hp
  exact ⟨.ref s.heap.objs.size, _, I.laid (a := s.heap.objs.size) (o := dctO X.w s.heap.objs.size []) (t' := s.toks) (fun _ _ q => Heap.get?_push_of_some _ q) (Nat.le_refl _) (dct_ok (Heap.DictOfH.new s.heap)), rfl,
    k _ _ _ _ x (m.sto.newD hp np) (m.tab.new hp) (.dct ⟨X.w, [], upd_same⟩) (w _ (m.sto.free hp))⟩
/-- a dict that stands -/
theorem dct_at {K : PySem.W.Frag} {Z : Addr → Prop} {S : Sto} {H : Hp} {x : D} {v : V} (s : SRep K Z S H) (r : Rep K Z S H x v) (w : dRefD S x) : ∃ d xs vs, x = .dct d ∧ v = .ref d ∧ S d = some xs ∧ DctH H d ∧ CellD H d xs vs ∧ RepL K Z S H xs vs := by
  cases r <;> first | exact w.elim | skip
  rename_i d l
  obtain ⟨xs, e⟩ := w
  obtain ⟨vs, c, r⟩ := s.dt d xs e l.not
  exact ⟨d, xs, vs, rfl, rfl, e, l, c, r⟩
theorem key_ref {K : PySem.W.Frag} {Z : Addr → Prop} {S : Sto} {H : Hp} {y : D} {v : V} {k : NestedKey} (r : Rep K Z S H y v) (h : KeyOk y k) : ∃ b, v = .ref b := by
  obtain ⟨⟨xs, rfl⟩, _⟩ := h
  cases r
  exact ⟨_, rfl⟩
theorem dGet_ref {S : Sto} {x y : D} {Q : D → Prop} (w : dGet S x y Q) : dRefD S x := by
  cases x <;> first | exact w.elim | skip
  obtain ⟨xs, k, d, e, _⟩ := w
  exact ⟨xs, e⟩
theorem beq_sys {d : Addr} (h : d ≠ sysModules) : (d == sysModules) = false := beq_eq_false_iff_ne.mpr h
/-- one expression, then another -/
theorem two_run {pins : List (Addr × Obj)} {σ : L2.St} {H : Hp} {s : Shared} {Z : Addr → Prop} {ρ : Rho} {S : Sto} {W : D → D → Sto → Prop} (ha : DE X tb X' G a ma) (hb : DE X tb X' G b mb) (I : Inv X pins σ H s) (m : Sim X.K tb Z ρ S σ H) (w : wE X' G ma ρ S fun x S1 => wE X' G mb ρ S1 fun y S2 => W x y S2) :
    wpAny (model X.prog X.w) X.A (eval a X.env) (fun u s1 => wpAny (model X.prog X.w) X.A (eval b X.env) (fun u2 s2 => ∃ S2 H2 d d2 v v2, Inv X pins σ H2 s2 ∧ RelV v u ∧ RelV v2 u2 ∧ Ext S H S2 H2 ∧ SRep X.K Z S2 H2 ∧ Tabs tb H2 ∧ Rep X.K Z S2 H2 d v ∧ Rep X.K Z S2 H2 d2 v2 ∧ W d d2 S2) X.xe s1) X.xe s :=
  thn (ha.run pins s σ H (fun v H1 => ∃ d S1, Ext S H S1 H1 ∧ SRep X.K Z S1 H1 ∧ Tabs tb H1 ∧ Rep X.K Z S1 H1 d v ∧ wE X' G mb ρ S1 fun y S2 => W d y S2) I ⟨Z, ρ, S, _, m, w, fun d S1 v H1 x1 s1 t1 r1 w1 => ⟨d, S1, x1, s1, t1, r1, w1⟩⟩) fun u s1 ⟨v, H1, I1, rv, d, S1, x1, sr1, t1, r1, w1⟩ =>
    thn (hb.run pins s1 σ H1 (fun v2 H2 => ∃ S2 d2, Ext S H S2 H2 ∧ SRep X.K Z S2 H2 ∧ Tabs tb H2 ∧ Rep X.K Z S2 H2 d v ∧ Rep X.K Z S2 H2 d2 v2 ∧ W d d2 S2) I1 ⟨Z, ρ, S1, _, m.go x1 sr1 t1, w1, fun d2 S2 v2 H2 x2 s2 t2 r2 w2 => ⟨S2, d2, x1.trans x2, s2, t2, r1.ext sr1 x2, r2, w2⟩⟩) fun u2 s2 ⟨v2, H2, I2, rv2, S2, d2, x2, sr2, t2, r1, r2, w2⟩ =>
      ⟨S2, H2, d, d2, v, v2, I2, rv, rv2, x2, sr2, t2, r1, r2, w2⟩
theorem de_dget (hu : X.A.units + 64 < cLine) (ha : DE X tb X' G a ma) (hb : DE X tb X' G b mb) (hs : PlainIx b) : DE X tb X' G (.Subscript a b pos) (.dget ma mb) := by
  refine ⟨fun pins s σ H Qv I ⟨Z, ρ, S, Q, m, w, k⟩ => ?_⟩
  refine subD_of PySem.F.slot_dict_getitem.lookup hs (thn (two_run (W := fun x y S2 => dGet S2 x y fun z => Q z S2) ha hb I m w) fun u s1 h => thn h fun u2 s2 ⟨S2, H2, d, d2, v, v2, I2, rv, rv2, x2, sr2, t2, r1, r2, w2⟩ => ?_)
  obtain ⟨p, xs, vs, rfl, rfl, hS, hD, ⟨wd, ts, hH, np, nd, mt⟩, rl⟩ := dct_at sr2 r1 (dGet_ref w2)
  obtain ⟨xs', key, dd, hS', hk, hf, q⟩ := w2
  rw [hS] at hS'; cases hS'
  obtain ⟨bb, rfl⟩ := key_ref r2 hk
  cases rv
  have cell := cell_of I2 hH nd mt rl
  have hkey := rep_key I2 r2 rv2 hk.2.1
  cases rv2
  obtain ⟨pp, v3, hat, rv3, r3⟩ := (mt_find key mt rl).1 dd hf
  refine ⟨cell.typeIs, wpAny_getItem_heap (knd := nestedKind X.prog X.w) (by show X.A.units + 1 + 8 < cLine; omega) ⟨hkey, hk.2.2⟩ cell hat ?_⟩
  exact ⟨v3, H2, I2.tok _, rv3, (k.ext x2).same sr2 t2 r3 q⟩
/-- d.get(k, x) -/
theorem de_dgeto {apos : Pos} (hu : X.A.units + 64 < cLine) (ha : DE X tb X' G a ma) (hb : DE X tb X' G b mb) (hc : DE X tb X' G c mc) (m2 : M2 X a "get" apos b c pos) : DE X tb X' G (.Call (.Attribute a "get" apos) [b, c] [] pos) (.dgeto ma mb mc) := by
  refine ⟨fun pins s σ H Qv I ⟨Z, ρ, S, Q, m, w, k⟩ => ?_⟩
  refine wpAny_Call_method m2.base m2.few m2.line PySem.F.plainAttrs_dict PySem.F.slot_dict_get PySem.F.type_dict_get (thn (ha.run pins s σ H (fun v H1 => ∃ d S1, Ext S H S1 H1 ∧ SRep X.K Z S1 H1 ∧ Tabs tb H1 ∧ Rep X.K Z S1 H1 d v ∧ dRefD S1 d ∧ wE X' G mb ρ S1 fun y S2 => wE X' G mc ρ S2 fun z S3 => dGetO S3 d y z fun d => Q d S3) I ⟨Z, ρ, S, _, m, w, fun d S1 v H1 x1 s1 t1 r1 w1 => ⟨d, S1, x1, s1, t1, r1, w1⟩⟩) fun u s1 ⟨v, H1, I1, rv, d, S1, x1, sr1, t1, r1, wr, w1⟩ => ?_)
  obtain ⟨p, xs, vs, rfl, rfl, hS, hD, ⟨wd, ts, hH, np, nd, mt⟩, rl⟩ := dct_at sr1 r1 wr
  cases rv
  have cell := cell_of I1 hH nd mt rl
  obtain ⟨o, es, ep, h1, h2, h3, _⟩ := id cell
  refine ⟨cell.typeIs, fun b q => ?_, ?_⟩
  · cases q
    exact ⟨o, h1, h2.2.1⟩
  rw [m2.trees]
  refine Calls.callWith_builtin rfl (Calls.evalArgs_plain (Calls.spliced_cons (thn (two_run (W := fun y z S3 => dGetO S3 (.dct p) y z fun d => Q d S3) hb hc I1 (m.go x1 sr1 t1) w1) fun u2 s2 h => Calls.spliced_cons (thn h fun u3 s3 ⟨S3, H3, d2, d3, v2, v3, I3, rv2, rv3, x3, sr3, t3, r2, r3, w3⟩ => Calls.spliced_nil ?_))))
  have rp : Rep X.K Z S3 H3 (.dct p) (.ref p) := .dct (x3.ds _ hD)
  obtain ⟨xs', key, hS', hk, q⟩ := w3
  obtain ⟨p', xs', vs', e1, e2, hS2, hD, ⟨wd, ts, hH, np, nd, mt⟩, rl⟩ := dct_at sr3 rp ⟨_, hS'⟩
  cases e1
  rw [hS2] at hS'; cases hS'
  obtain ⟨bb, rfl⟩ := key_ref r2 hk
  have cell := cell_of I3 hH nd mt rl
  have hkey := rep_key I3 r2 rv2 hk.2.1
  cases rv2
  refine call_meetsIn PySem.F.slot_dict_get cell.typeIs PySem.F.entry_dict_get (PySem.F.args_dict_get_3 _ _ _) (meetsH_dict_get_default (nestedKind X.prog X.w) p bb (beq_sys np) u3) ⟨(by show X.A.units + 1 + 8 < cLine; omega), key, ts, ⟨hkey, hk.2.2⟩, cell, ?_⟩
  have kx := k.ext (x1.trans x3)
  cases hf : dFind key xs' with
  | none =>
    rw [hf] at q
    rw [(mt_find key mt rl).2 hf]
    exact ⟨v3, H3, I3.tok _, rv3, kx.same sr3 t3 r3 q⟩
  | some dd =>
    rw [hf] at q
    obtain ⟨pp, v4, hat, rv4, r4⟩ := (mt_find key mt rl).1 dd hf
    rw [hat]
    exact ⟨v4, H3, I3.tok _, rv4, kx.same sr3 t3 r4 q⟩
/-- d[k] = v -/
def tPut (K : PySem.W.Frag) (tb : List Addr) : TSet := fun o i v H Qv => ∃ Z S x y d Q, SRep K Z S H ∧ Tabs tb H ∧ Rep K Z S H x o ∧ Rep K Z S H y i ∧ Rep K Z S H d v ∧ dPut x y d S Q ∧ ∀ S' H', Ext S H S' H' → SRep K Z S' H' → Tabs tb H' → Q S' → Qv H'
theorem put_set (hu : X.A.units + 64 < cLine) : PSet X (tPut X.K tb) := by
  intro pins s σ H o i v ov iv u Qv I ro ri rv ⟨Z, S, x, y, d, Q, sr, t, rx, ry, rd, w, k⟩
  have wr : dRefD S x := by
    cases x <;> first | exact w.elim | skip
    obtain ⟨xs, k, e, _⟩ := w
    exact ⟨xs, e⟩
  obtain ⟨p, xs, vs, rfl, rfl, hS, hD, ⟨wd, ts, hH, np, nd, mt⟩, rl⟩ := dct_at sr rx wr
  obtain ⟨xs', key, hS', hk, hl, q⟩ := w
  rw [hS] at hS'; cases hS'
  obtain ⟨bb, rfl⟩ := key_ref ry hk
  cases ro
  have cell := cell_of I hH nd mt rl
  have hkey := rep_key I ry ri hk.2.1
  cases ri
  obtain ⟨vs', mt', rl', nd', _⟩ := mt_store hk.2.1 hk.2.2 ry rv rd mt rl nd
  have len := mt_len mt
  refine wpAny_setItem_heap (knd := nestedKind X.prog X.w) (by show X.A.units + 1 + 8 < cLine; omega) ⟨hkey, hk.2.2⟩ cell (fun h' hm' hs => ?_) (by rw [LIM_eq]; unfold LIM; omega)
  obtain ⟨o', es', ep', g1, _⟩ := id hm'
  exact ⟨_, I.write (x := p) (e := p) (o := dctO X.w p (storedH ts key bb u)) (by rw [hH]; trivial) (.inl rfl) (fun b q hb z => (hs.2 b hb).trans z) ⟨o', g1⟩ (dct_ok hm'), k _ _ (Ext.chgD hD hS) (sr.chgD hD hS rl' np nd' mt') (t.chgO sr hS) q⟩
theorem ds_dput {spos : Pos} (hu : X.A.units + 64 < cLine) (ha : DE X tb X' G a ma) (hb : DE X tb X' G b mb) (he : DE X tb X' G e me) (hs1 : swapsWith e (some (.Subscript a b spos)) pos.line X.env = pure false) (hw : swappedStores [.Subscript a b spos] e X.env = pure none)
    (hasg : ∀ v, assign (.Subscript a b spos) X.env v = (do
      let ov ← holding [v] (eval a X.env)
      let iv ← holding [v, ov] (eval b X.env)
      standAt spos
      holding [v, ov, iv] (setItem ov iv v)
      release [v, ov, iv] [])) : DS X tb X' G W (.Assign [.Subscript a b spos] e pos) (.dput ma mb me) :=
  PS.weak (ps_asg he (pg_sub ha hb (put_set hu) hasg) hs1 hw rfl) fun Dv σ H ⟨Z, ρ, S, E, m, w, k⟩ =>
    ⟨Z, ρ, S, _, m, w, fun d1 S1 v1 H1 x1 s1 t1 r1 w1 => ⟨Z, ρ, S1, _, m.go x1 s1 t1, w1, fun d2 S2 v2 H2 x2 s2 t2 r2 w2 => ⟨Z, ρ, S2, _, (m.go x1 s1 t1).go x2 s2 t2, w2, fun d3 S3 v3 H3 x3 s3 t3 r3 w3 =>
      ⟨Z, S3, d2, d3, d1, _, s3, t3, r2.ext s2 x3, r3, (r1.ext s1 x2).ext s2 x3, w3, fun S4 H4 x4 s4 t4 w4 =>
        k.nx ρ S4 σ H4 (((x1.trans x2).trans x3).trans x4) (((m.go x1 s1 t1).go (x2.trans x3) s3 t3).go x4 s4 t4) w4⟩⟩⟩⟩
end
end DL

set_option Elab.async false
set_option linter.all false
set_option maxRecDepth 100000
set_option maxHeartbeats 4000000
/-! DL23: sorted(d), the keys planes. -/
namespace DL
open PySem PySem.Spec PyProof.Rows L2 RZ

/-! ### ranks -/
def rkI (B M : Int) (l : List Int) : Int := TS.code B (l.map (· + M))
def In (M : Int) (l : List Int) : Prop := ∀ m ∈ l, -M ≤ m ∧ m ≤ M
theorem In.bd {M : Int} {l : List Int} (h : In M l) : TS.Bd (2 * M + 1) (l.map (· + M)) := fun m hm => by
  obtain ⟨x, hx, rfl⟩ := List.mem_map.mp hm
  have := h x hx
  show 0 ≤ x + M ∧ x + M < 2 * M + 1
  omega
theorem In.tail {M a : Int} {l : List Int} (h : In M (a :: l)) : In M l := fun m hm => h m (List.mem_cons_of_mem _ hm)
theorem rk_same {B M a : Int} {l r : List Int} (hl : l.length = r.length) : rkI B M (a :: l) < rkI B M (a :: r) ↔ rkI B M l < rkI B M r := TS.code_same (by rw [List.length_map, List.length_map]; exact hl)
theorem rk_lt {M a b : Int} {l r : List Int} (hl : l.length = r.length) (h1 : In M l) (h2 : In M r) (h : a < b) : rkI (2 * M + 1) M (a :: l) < rkI (2 * M + 1) M (b :: r) := TS.code_lt (by rw [List.length_map, List.length_map]; exact hl) h1.bd h2.bd (by show a + M < b + M; omega)
theorem rk_le {M : Int} : ∀ {l r : List Int}, l.length = r.length → In M l → In M r → rkI (2 * M + 1) M l ≤ rkI (2 * M + 1) M r → lexLe l r
  | [], _, _, _, _, _ => trivial
  | a :: l, [], h, _, _, _ => by cases h
  | a :: l, b :: r, h, h1, h2, h3 => by
    have hl : l.length = r.length := by simpa using h
    rcases Int.lt_trichotomy a b with c | c | c
    · exact .inl c
    · subst c
      refine .inr ⟨rfl, rk_le hl h1.tail h2.tail ?_⟩
      have := rk_same (B := 2 * M + 1) (M := M) (a := a) hl.symm
      omega
    · have := rk_lt hl.symm h2.tail h1.tail c
      omega
/-- the last number decides between like rows -/
theorem rk_last {B M : Int} : ∀ (l : List Int) (a b : Int), rkI B M (l ++ [a]) < rkI B M (l ++ [b]) ↔ a < b
  | [], a, b => by
    show (a + M) * B ^ 0 + 0 < (b + M) * B ^ 0 + 0 ↔ _
    rw [Int.pow_zero]
    omega
  | x :: l, a, b => by
    rw [List.cons_append, List.cons_append, rk_same (by simp), rk_last l a b]
theorem rk_first {M : Int} : ∀ {l r : List Int} {a b : Int}, l.length = r.length → l ≠ r → In M (l ++ [a]) → In M (r ++ [b]) → (rkI (2 * M + 1) M (l ++ [a]) < rkI (2 * M + 1) M (r ++ [b]) ↔ HT.lexLt l r = true)
  | [], [], _, _, _, h, _, _ => absurd rfl h
  | [], _ :: _, _, _, h, _, _, _ => by cases h
  | _ :: _, [], _, _, h, _, _, _ => by cases h
  | x :: l, y :: r, a, b, h, hn, h1, h2 => by
    have hl : l.length = r.length := by simpa using h
    have hl' : (l ++ [a]).length = (r ++ [b]).length := by simp [hl]
    rw [List.cons_append] at h1 h2 ⊢
    rw [List.cons_append, HT.lexLt_cons]
    by_cases e : x = y
    · subst e
      rw [if_pos rfl, rk_same hl', rk_first hl (fun z => hn (by rw [z])) h1.tail h2.tail]
    · rw [if_neg e, decide_eq_true_eq]
      refine ⟨fun z => ?_, fun z => rk_lt hl' h1.tail h2.tail z⟩
      rcases Int.lt_trichotomy x y with c | c | c
      · exact c
      · exact absurd c e
      · have := rk_lt hl'.symm h2.tail h1.tail c
        omega
/-- a bound for all -/
theorem bound_of : ∀ l : List Int, ∃ M : Int, 0 ≤ M ∧ In M l
  | [] => ⟨0, Int.le_refl 0, fun m hm => by cases hm⟩
  | a :: l => by
    obtain ⟨M, h0, h⟩ := bound_of l
    refine ⟨M + a.natAbs, by omega, fun m hm => ?_⟩
    rcases List.mem_cons.mp hm with rfl | hm
    · omega
    · have := h m hm
      omega

theorem dec_bool {p : Prop} [Decidable p] {b : Bool} (h : p ↔ b = true) : decide p = b := by
  cases b with
  | true => exact decide_eq_true (h.mpr rfl)
  | false => exact decide_eq_false fun z => Bool.false_ne_true (h.mp z)

/-! ### planes in the heap -/
def PlIs (h : Heap) (v : Value) (as : List Int) (b : Int) : Prop := ∃ a a2 xs t, v = .ref a ∧ IsTup h a #[.ref a2, .int b t] ∧ IsTup h a2 xs ∧ IntsAre xs.toList as
theorem PlIs.keeps {h h' : Heap} {v : Value} {as : List Int} {b : Int} (x : PlIs h v as b) (k : ∀ b o, h.get? b = some o → o.cls = .type "tuple" → h'.get? b = some o) : PlIs h' v as b := by
  obtain ⟨a, a2, xs, t, e, ⟨o, ho, hc, hd⟩, ⟨o2, ho2, hc2, hd2⟩, i⟩ := x
  exact ⟨a, a2, xs, t, e, ⟨o, k _ _ ho hc, hc, hd⟩, ⟨o2, k _ _ ho2 hc2, hc2, hd2⟩, i⟩
theorem PlIs.inj {h : Heap} {v : Value} {as as' : List Int} {b b' : Int} (x : PlIs h v as b) (y : PlIs h v as' b') : as = as' ∧ b = b' := by
  obtain ⟨a, a2, xs, t, e, ⟨o, ho, hc, n, hd⟩, ⟨o2, ho2, hc2, n2, hd2⟩, i⟩ := x
  obtain ⟨a', a2', xs', t', e', ⟨o', ho', hc', n', hd'⟩, ⟨o2', ho2', hc2', n2', hd2'⟩, i'⟩ := y
  subst e
  cases e'
  rw [ho] at ho'
  cases ho'
  rw [hd] at hd'
  injection hd' with e1 e2
  have e3 : a2 = a2' ∧ b = b' := by
    have := congrArg Array.toList e1
    simp only [List.cons.injEq, Value.ref.injEq, Value.int.injEq] at this
    exact ⟨this.1, this.2.1.1⟩
  obtain ⟨rfl, rfl⟩ := e3
  rw [ho2] at ho2'
  cases ho2'
  rw [hd2] at hd2'
  injection hd2' with e4 e5
  subst e4
  exact ⟨i.nums.symm.trans i'.nums, rfl⟩
open Classical in
noncomputable def plRk (h : Heap) (M : Int) (v : Value) : Int := if x : ∃ p : List Int × Int, PlIs h v p.1 p.2 then rkI (2 * M + 1) M (x.choose.1 ++ [x.choose.2]) else 0
theorem plRk_of {h : Heap} {M : Int} {v : Value} {as : List Int} {b : Int} (x : PlIs h v as b) : plRk h M v = rkI (2 * M + 1) M (as ++ [b]) := by
  have hx : ∃ p : List Int × Int, PlIs h v p.1 p.2 := ⟨(as, b), x⟩
  unfold plRk
  rw [dif_pos hx]
  obtain ⟨e1, e2⟩ := hx.choose_spec.inj x
  rw [e1, e2]
def numK (as : List Int) : NestedKey := .tup (as.map .num)
theorem ints_key {h : Heap} : ∀ {xs : List Value} {as : List Int}, IntsAre xs as → NestedAll h (as.map .num) xs
  | _, _, .nil => .nil
  | _, _, .cons n t r => .cons (.int n t) (ints_key r)
theorem numK_inj {as bs : List Int} : numK as = numK bs ↔ as = bs := by
  refine ⟨fun h => ?_, fun h => by rw [h]⟩
  injection h with h
  exact List.map_inj_right (fun x y e => by injection e) |>.mp h
theorem depth_num : ∀ as : List Int, NestedKey.depthAll (as.map .num) = 0
  | [] => rfl
  | a :: as => by
    show max 0 (NestedKey.depthAll (as.map .num)) = 0
    rw [depth_num as]; rfl
theorem numK_is {h : Heap} {a : Addr} {xs : Array Value} {as : List Int} (t : IsTup h a xs) (i : IntsAre xs.toList as) {prog : Program} {w : World} : (nestedKind prog w).is h (numK as) a := by
  obtain ⟨o, ho, hc, n, hd⟩ := t
  refine ⟨.tup ho hc hd (ints_key i), ?_⟩
  show NestedKey.depthAll (as.map .num) + 1 ≤ 8
  rw [depth_num]; omega
section
variable {prog : Program} {w : World} {A : Around} {E : Value → Shared → Prop} {s : Shared}
theorem firsts_pl {h : Heap} : ∀ vs : List Value, (∀ v ∈ vs, ∃ as b, PlIs h v as b) → ∃ fs, PySem.W.KatTups h vs fs ∧ fs.length = vs.length ∧ ∀ f ∈ fs, ∃ a2 xs, f = Value.ref a2 ∧ IsTup h a2 xs
  | [], _ => ⟨[], PySem.W.KatTups.nil, rfl, fun f hf => by cases hf⟩
  | v :: vs, x => by
    obtain ⟨fs, k, hl, hi⟩ := firsts_pl vs fun u hu => x u (List.mem_cons_of_mem _ hu)
    obtain ⟨as, b, a, a2, xs, t, rfl, ⟨o, ho, hc, n, hd⟩, t2, i⟩ := x v List.mem_cons_self
    refine ⟨.ref a2 :: fs, PySem.W.KatTups.cons ho hc hd rfl k, by simp [hl], fun f hf => ?_⟩
    rcases List.mem_cons.mp hf with rfl | hf
    · exact ⟨a2, xs, rfl, t2⟩
    · exact hi f hf
theorem kind_pl {vs : List Value} {M : Int} {n : Nat} (hu : A.units + 8 < cLine) (h2 : 2 ≤ vs.length) (x : ∀ v ∈ vs, ∃ as b, PlIs s.heap v as b ∧ as.length = n ∧ In M (as ++ [b])) (r : Value → Int) (hr : ∀ v ∈ vs, ∀ as b, PlIs s.heap v as b → r v = rkI (2 * M + 1) M (as ++ [b])) (Q : SortKind → Shared → Prop)
    (h : ∀ κ, TS.Cmp prog w A s κ (pairsOf vs) r → Q κ s) : wpAny (model prog w) A (keyKind' vs.toArray) Q E s := by
  obtain ⟨fs, k, hl, hi⟩ := firsts_pl vs fun v hv => let ⟨as, b, p, _⟩ := x v hv; ⟨as, b, p⟩
  refine PySem.W.kat_kind (T := Value.type "tuple") k (by omega) (fun f hf => ?_) rfl (h _ ?_)
  · obtain ⟨a2, xs, rfl, o, ho, hc, _⟩ := hi f hf
    rw [← hc]
    exact (PySem.W.Looks.ld ho).andThen .now
  · intro p q hp hq Q' E' hQ
    rw [pairsOf_toList] at hp hq
    obtain ⟨as, b, tp, lp, bp⟩ := x _ (mem_zip_self hp).2
    obtain ⟨cs, d, tq, lq, bq⟩ := x _ (mem_zip_self hq).2
    rw [hr _ (mem_zip_self hp).2 _ _ tp, hr _ (mem_zip_self hq).2 _ _ tq] at hQ
    obtain ⟨a, a2, xs, t, e1, ⟨o, ho, hc, m, hdt⟩, t2, i⟩ := tp
    obtain ⟨a', a2', ys, t', e2, ⟨o', ho', hc', m', hdt'⟩, t2', i'⟩ := tq
    rw [e1, e2]
    refine PySem.W.kat_lt ho hdt ho' hdt' ?_
    show PySem.W.KatLex prog w A (Value.type "tuple" != Value.type "tuple") _ Q' [(Value.ref a2, Value.ref a2'), (Value.int b t, Value.int d t')] 0 s
    rw [show (Value.type "tuple" != Value.type "tuple") = false from rfl]
    refine PySem.W.kat_cons ((nestedKind prog w).eqBool (by show A.units + 8 < cLine; omega) (numK_is t2 i) (numK_is t2' i') ?_)
    by_cases e : as = cs
    · subst e
      rw [decide_eq_true rfl]
      refine PySem.W.kat_yes (PySem.W.kat_cons (wpAny_eqBool_int ?_))
      have hq2 : Q' (decide (b < d)) s := by
        rw [← decide_eq_decide.mpr (rk_last (B := 2 * M + 1) (M := M) as b d)]; exact hQ
      by_cases eb : b = d
      · subst eb
        rw [beq_self_eq_true]
        rw [decide_eq_false (Int.lt_irrefl b)] at hq2
        exact PySem.W.kat_yes (PySem.W.kat_nil hq2)
      · rw [beq_eq_false_iff_ne.mpr eb]
        exact PySem.W.kat_no (TS.oneLt_ints _ hq2)
    · rw [decide_eq_false (fun z => e (numK_inj.mp z))]
      refine PySem.W.kat_no (PySem.W.kat_one _ _ (HT.lt_tupInts t2 t2' i i' (by omega) ?_))
      show Q' (HT.lexLt as cs) s
      have hq2 : decide (rkI (2 * M + 1) M (as ++ [b]) < rkI (2 * M + 1) M (cs ++ [d])) = HT.lexLt as cs := dec_bool (rk_first (lp.trans lq.symm) e bp bq)
      rw [hq2] at hQ
      exact hQ
end

/-! ### rows of keys -/
theorem perm_pair {α β : Type} {R : α → β → Prop} {out vs : List β} (h : out.Perm vs) : ∀ {ks : List α}, Paired R ks vs → ∃ ps, ps.Perm ks ∧ Paired R ps out := by
  induction h with
  | nil => intro ks r; cases r; exact ⟨[], .nil, .nil⟩
  | cons x _ ih =>
    intro ks r
    cases r with
    | cons q r =>
      obtain ⟨ps, h1, h2⟩ := ih r
      exact ⟨_ :: ps, h1.cons _, .cons q h2⟩
  | swap x y l =>
    intro ks r
    cases r with
    | cons q r =>
      cases r with
      | cons q2 r => exact ⟨_, List.Perm.swap _ _ _, .cons q2 (.cons q r)⟩
  | trans _ _ ih1 ih2 =>
    intro ks r
    obtain ⟨ps, h1, h2⟩ := ih2 r
    obtain ⟨qs, h3, h4⟩ := ih1 h2
    exact ⟨qs, h3.trans h1, h4⟩
theorem pair_mem {α β : Type} {R : α → β → Prop} : ∀ {ps : List α} {out : List β}, Paired R ps out → ∀ v ∈ out, ∃ k ∈ ps, R k v
  | _, _, .nil, v, hv => by cases hv
  | _, _, .cons q r, v, hv => by
    rcases List.mem_cons.mp hv with rfl | hv
    · exact ⟨_, List.mem_cons_self, q⟩
    · obtain ⟨k, h1, h2⟩ := pair_mem r v hv
      exact ⟨k, List.mem_cons_of_mem _ h1, h2⟩
theorem pair_mem' {α β : Type} {R : α → β → Prop} : ∀ {ps : List α} {out : List β}, Paired R ps out → ∀ k ∈ ps, ∃ v ∈ out, R k v
  | _, _, .nil, v, hv => by cases hv
  | _, _, .cons q r, v, hv => by
    rcases List.mem_cons.mp hv with rfl | hv
    · exact ⟨_, List.mem_cons_self, q⟩
    · obtain ⟨k, h1, h2⟩ := pair_mem' r v hv
      exact ⟨k, List.mem_cons_of_mem _ h1, h2⟩
theorem pair_pw {α β : Type} {R : α → β → Prop} {F : α → α → Prop} {G : β → β → Prop} : ∀ {ps : List α} {out : List β}, Paired R ps out → (∀ k k' v v', R k v → R k' v' → k ∈ ps → k' ∈ ps → G v v' → F k k') → out.Pairwise G → ps.Pairwise F
  | _, _, .nil, _, _ => List.Pairwise.nil
  | _, _, .cons q r, f, h => by
    rw [List.pairwise_cons] at h ⊢
    refine ⟨fun k hk => ?_, pair_pw r (fun k k' v v' a b hk hk' => f k k' v v' a b (List.mem_cons_of_mem _ hk) (List.mem_cons_of_mem _ hk')) h.2⟩
    obtain ⟨v, hv, rv⟩ := pair_mem' r k hk
    exact f _ _ _ _ q rv List.mem_cons_self (List.mem_cons_of_mem _ hk) (h.1 v hv)
section
variable {X : Cx} {pins : List (Addr × Obj)} {σ : L2.St} {H : Hp} {s : Shared} {Z : Addr → Prop} {S : Sto}
theorem rep_pl (I : Inv X pins σ H s) {as : List Int} {b : Int} {v : V} {u : Value} (r : Rep X.K Z S H (plD as b) v) (ru : RelV v u) : PlIs s.heap u as b := by
  cases r with
  | tup h r =>
    cases r with
    | cons r1 r2 =>
      cases r2 with
      | cons r2 r3 =>
        cases r3
        cases r2
        cases r1 with
        | tup h2 r2 =>
          have e := repInts r2
          subst e
          cases ru
          obtain ⟨its, rv, t1, _⟩ := I.tuple h
          obtain ⟨its2, rv2, t2, _⟩ := I.tuple h2
          cases rv with
          | cons q1 q2 =>
            cases q2 with
            | cons q2 q3 =>
              cases q3
              cases q1
              obtain ⟨t, rfl⟩ := q2
              exact ⟨_, _, _, t, rfl, t1, t2, Vals.ints rv2⟩
/-- a key and the value that stands for it -/
def KeyR (K : PySem.W.Frag) (Z : Addr → Prop) (S : Sto) (H : Hp) (k : List Int × Int) (u : Value) : Prop := ∃ b, u = .ref b ∧ Rep K Z S H (plD k.1 k.2) (.ref b)
theorem mt_refs {K : PySem.W.Frag} : ∀ {xs : List D} {vs : List V} {ts : List (NestedKey × Addr × Value)} {ks : List (List Int × Int)}, Mt xs vs ts → RepL K Z S H xs vs → dKeys xs = ks.map (fun k => plD k.1 k.2) → Paired (KeyR K Z S H) ks (ts.map fun x => Value.ref x.2.1)
  | _, _, _, [], .nil, _, _ => .nil
  | _, _, _, _ :: _, .nil, _, h => by cases h
  | _, _, _, [], .cons _ _ _ _, _, h => by cases h
  | _, _, _, k :: ks, .cons hk hd rv m, .cons r (.cons r2 rr), h => by
    rw [List.map_cons] at h
    injection h with h1 h2
    rw [h1] at r
    exact .cons ⟨_, rfl, r⟩ (mt_refs m rr h2)
theorem keyR_reps {K : PySem.W.Frag} : ∀ {ps : List (List Int × Int)} {out : List Value}, Paired (KeyR K Z S H) ps out → RepL K Z S H (ps.map fun k => plD k.1 k.2) (out.map bkV)
  | _, _, .nil => .nil
  | _, _, .cons ⟨b, e, r⟩ rr => by subst e; exact .cons r (keyR_reps rr)
end
section
variable {X : Cx} {tb : List Addr}
theorem raw_keys {P : Program} {w : World} {es : Array DictEntry} {ts : List (NestedKey × Addr × Value)} {acc : Array Value} (hes : es.toList = ts.map (entryOfKey (nestedKind P w))) (hacc : ItemsOf (fun i v => ∃ hi : i < es.size, v = es[i].key) acc es.size) : acc.toList = ts.map fun x => Value.ref x.2.1 := by
  have hsz : es.size = ts.length := size_of_entries hes
  refine List.ext_getElem? fun j => ?_
  rw [Array.getElem?_toList, List.getElem?_map]
  by_cases hj : j < acc.size
  · obtain ⟨hi, e⟩ := hacc.2 j acc[j] (getElem?_pos acc j hj)
    rw [getElem?_pos acc j hj, e]
    have e2 := entry_at hes j
    rw [getElem?_pos es j hi] at e2
    cases e3 : ts[j]? with
    | none => rw [e3] at e2; cases e2
    | some y =>
      rw [e3] at e2
      have e4 : es[j] = entryOfKey (nestedKind P w) y := Option.some.inj e2
      rw [e4]; rfl
  · rw [getElem?_neg acc j hj, List.getElem?_eq_none (by have := hacc.1; omega)]; rfl
theorem lst_keys {K : PySem.W.Frag} {Z : Addr → Prop} {S : Sto} {H : Hp} : ∀ {ks : List (List Int × Int)} {vs : List V} {us : List Value}, RepL K Z S H (ks.map fun k => plD k.1 k.2) vs → Vals vs us → Paired (KeyR K Z S H) ks us
  | [], _, _, .nil, .nil => .nil
  | k :: ks, _, _, .cons r rr, .cons q qq => by
    have rt := r
    cases rt with
    | tup _ _ =>
      cases q
      exact .cons ⟨_, rfl, r⟩ (lst_keys rr qq)
/-- what sorted collects -/
theorem collect_keys {pins : List (Addr × Obj)} {σ : L2.St} {H : Hp} {s : Shared} {Z : Addr → Prop} {S : Sto} {x : D} {v : V} {Q : D → Sto → Prop} (I : Inv X pins σ H s) (sr : SRep X.K Z S H) (rx : Rep X.K Z S H x v) (w : dSort S x fun z => Q z S) :
    ∃ p ks n acc, v = .ref p ∧ Paired (KeyR X.K Z S H) ks acc ∧ ks.length < 64 ∧ (∀ k ∈ ks, k.1.length = n) ∧ (∀ ps : List (List Int × Int), ps.Perm ks → ps.Pairwise (fun x y => lexLe (x.1 ++ [x.2]) (y.1 ++ [y.2])) → Q (.lst (ps.map fun k => plD k.1 k.2)) S) ∧
      ∀ {A : Around} {E : Value → Shared → Prop} {R : List Value → Shared → Prop}, A.handled = none → (∀ h' tk, (∀ b o, s.heap.get? b = some o → h'.get? b = some o) → R acc { s with heap := h', toks := tk }) → wpAny (model X.prog X.w) A (collect (.ref p)) R E s := by
  cases x <;> first | exact w.elim | skip
  · obtain ⟨n, ks, hks, h64, hn, q⟩ := w
    subst hks
    cases rx with
    | @lst p vs ds h0 hn0 nz r =>
      obtain ⟨its, rv, pl, hz⟩ := I.list (SqL.of h0)
      have pr := lst_keys r rv
      have hl : its.length = ks.length := by rw [← Paired.length pr]
      refine ⟨p, ks, n, its, rfl, pr, h64, hn, q, fun {A E R} _ hR => ?_⟩
      refine collect_list pl.isList ?_ (by rw [hl, LIM_eq]; unfold LIM; omega)
      refine hR _ s.toks fun b o e => ?_
      have hlt : b < s.heap.objs.size := Heap.lt_size e
      rw [Heap.get?_update_ne _ _ _ _ (Nat.ne_of_lt hlt)]
      exact Heap.get?_push_of_some _ e
  · rename_i da
    have wr : dRefD S (.dct da) := by
      obtain ⟨xs, n, ks, e, _⟩ := w
      exact ⟨xs, e⟩
    obtain ⟨p, xs, vs, ex, rfl, hS, hD, ⟨wd, ts, hH, np, nd, mt⟩, rl⟩ := dct_at sr rx wr
    obtain rfl := D.dct.inj ex
    obtain ⟨xs', n, ks, hS', hks, h64, hn, q⟩ := w
    rw [hS] at hS'; cases hS'
    have cell := cell_of I hH nd mt rl
    obtain ⟨ob, es, ep, ho, hx, hdat, hes, _, _⟩ := id cell
    have raw : s.heap.DictRaw da es ep := ⟨ob, ho, hx, hdat⟩
    have pr := mt_refs mt rl hks
    have hlen : ks.length = ts.length := by rw [Paired.length pr, List.length_map]
    have hsz : es.size = ts.length := size_of_entries hes
    refine ⟨da, ks, n, _, rfl, pr, h64, hn, q, fun {A E R} hh hR => ?_⟩
    refine PySem.W.kdu_collect (KdlSrc.rawDict (es := es) (ep := ep) (beq_sys np)) hh raw (by rw [LIM_eq]; unfold LIM; omega) fun h' tk acc hk hacc => ?_
    have eacc : acc.toList = ts.map fun x => Value.ref x.2.1 := raw_keys hes hacc
    rw [eacc]
    exact hR h' tk hk
def rSortD (K : PySem.W.Frag) (tb : List Addr) : List V → Hp → VK → Prop := fun vs H Qv => ∃ Z S x v Q, vs = [v] ∧ SRep K Z S H ∧ Tabs tb H ∧ Rep K Z S H x v ∧ dSort S x (fun z => Q z S) ∧ Aft K tb Z S H Q Qv
theorem cr_sortD (hc : X.calm = true) (hu : X.A.units + 64 < cLine) : CallR X (.builtin "sorted") (rSortD X.K tb) := by
  intro pins s σ H vs us Qv I r ⟨Z, S, x, v, Q, ev, sr, t, rx, w, k⟩
  subst ev
  obtain ⟨p, ks, n, acc, rfl, pr, h64, hn, q, hcol⟩ := collect_keys I sr rx w
  rw [Vals.ref1 r]
  have hh : X.A.handled = none := I.ok.hd hc
  refine Calls.call_function_entry PyProof.Rows.kind_sorted PyProof.Rows.plain_sorted PyProof.Rows.entry_sorted (PyProof.Rows.args_sorted1 _) ?_
  unfold Builtin.«sorted»
  refine wpAny_bind (m := checkCount "sorted" 1 1 _) (wpAny_pure ?_)
  refine wpAny_bind (hcol (A := X.A.in1) hh fun h' tk hk => ?_)
  have I1 : Inv X pins σ H { s with heap := h', toks := tk } := I.kept hk
  have hal : acc.length = ks.length := by rw [← Paired.length pr]
  refine wpAny_bind (wpAny_newList ?_ (by rw [hal, LIM_eq]; unfold LIM; omega))
  have hoL : (h'.push (seqObj "list" acc.toArray 0)).get? h'.objs.size = some (seqObj "list" acc.toArray 0) := Heap.get?_push_size _ rfl
  show wpAny _ _ _ _ _ { s with heap := h'.push (seqObj "list" acc.toArray 0), toks := tk }
  obtain ⟨M, hM, hin⟩ := bound_of (ks.flatMap fun k => k.1 ++ [k.2])
  have keep : ∀ b o, h'.get? b = some o → (h'.push (seqObj "list" acc.toArray 0)).get? b = some o := fun b o e => Heap.get?_push_of_some _ e
  have ne0 : ∀ b o, h'.get? b = some o → b ≠ h'.objs.size := fun b o e => Nat.ne_of_lt (Heap.lt_size e)
  -- what stands at a value
  have pls : ∀ v ∈ acc, ∃ k ∈ ks, KeyR X.K Z S H k v ∧ PlIs h' v k.1 k.2 := fun v hv => by
    obtain ⟨k, hk1, b, rfl, rb⟩ := pair_mem pr v hv
    exact ⟨k, hk1, ⟨b, rfl, rb⟩, rep_pl I1 rb rfl⟩
  have mid : ∀ b o, h'.get? b = some o → o.cls = .type "tuple" → (TS.midHeap (h'.push (seqObj "list" acc.toArray 0)) h'.objs.size acc).get? b = some o := fun b o e _ => TS.midHeap_old (ne0 b o e) (keep b o e)
  have inK : ∀ k ∈ ks, In M (k.1 ++ [k.2]) := fun k hk1 m hm => hin m (List.mem_flatMap.mpr ⟨k, hk1, hm⟩)
  refine wpAny_bind (wpAny_holding (wpAny_call_entry PyProof.Rows.slot_list_sort ⟨_, hoL, rfl⟩ PyProof.Rows.entry_list_sort
    (SK.plain_sort (s := { s with heap := h'.push (seqObj "list" acc.toArray 0), toks := tk }) (r := plRk h' M) hoL (by rw [hal]; omega) (fun h2 Qk hQk => ?_) fun ps out o1 o2 o3 => ⟨_, rfl, ?_⟩)
    (PyProof.Rows.args_list_sort _)))
  · refine kind_pl (s := { s with heap := TS.midHeap (h'.push (seqObj "list" acc.toArray 0)) h'.objs.size acc, toks := tk }) (M := M) (n := n) (by show X.A.units + 1 + 1 + 8 < cLine; omega) h2 (fun v hv => ?_) _ (fun v hv as b hp => ?_) Qk hQk
    · obtain ⟨k, hk1, _, hp⟩ := pls v hv
      exact ⟨k.1, k.2, hp.keeps mid, hn k hk1, inK k hk1⟩
    · obtain ⟨k, hk1, _, hp'⟩ := pls v hv
      obtain ⟨e1, e2⟩ := hp.inj (hp'.keeps mid)
      rw [e1, e2]
      exact plRk_of hp'
  · obtain ⟨g1, g2⟩ := TS.out_rank o1 o2 o3
    obtain ⟨qs, p1, p2⟩ := perm_pair g1 pr
    have hsort : qs.Pairwise (fun x y => lexLe (x.1 ++ [x.2]) (y.1 ++ [y.2])) := by
      refine pair_pw p2 (fun k k' v v' ⟨b, eb, rb⟩ ⟨b', eb', rb'⟩ hk1 hk2 hle => ?_) g2
      have m1 := p1.mem_iff.mp hk1
      have m2 := p1.mem_iff.mp hk2
      subst eb
      subst eb'
      rw [plRk_of (rep_pl I1 rb rfl), plRk_of (rep_pl I1 rb' rfl)] at hle
      exact rk_le (by rw [List.length_append, List.length_append, hn k m1, hn k' m2]; rfl) (inK k m1) (inK k' m2) hle
    obtain ⟨e', he'⟩ := PyProof.Rows.sortedHeap_at (vs := acc) (out := out) hoL
    have refs : ∀ u ∈ out.toList, ∃ a, u = Value.ref a := fun u hu' => by
      obtain ⟨k, _, b, e, _⟩ := pair_mem p2 u hu'
      exact ⟨b, e⟩
    have hl2 : (out.toList.map bkV).length ≤ sizeLine := by
      rw [List.length_map, g1.length_eq, hal, LIM_eq]; unfold LIM; omega
    refine wpAny_pure ⟨_, rfl, .ref h'.objs.size, upd H h'.objs.size (.lst (out.toList.map bkV)), I1.laid (t' := tk) (fun b u e => ?_) (Nat.le_refl _)
      (show ObjOk X.prog X.w _ _ _ (.lst (out.toList.map bkV)) from ⟨hl2, out.toList, e', bkV_vals refs, by rw [Array.toArray_toList]; exact he'⟩), rfl,
      k.lst sr t (keyR_reps p2) (q qs p1 hsort) (I1.hok.fresh (Nat.le_refl _))⟩
    have hb : b < h'.objs.size := Heap.lt_size e
    rw [PyProof.Rows.sortedHeap_old (Nat.ne_of_lt hb) (by rw [size_push']; exact Nat.lt_succ_of_lt hb)]
    exact Heap.get?_push_of_some _ e
end
section
variable {X : Cx} {tb : List Addr} {X' : Mod'} {G : Fns} {a : Expr} {ma : M} {pos : Pos}
theorem boot_srt : bootBuiltins ("sorted" : Str) = some (.builtin "sorted") := by decide +kernel
theorem de_dsort {p : Pos} (hc : X.calm = true) (hu : X.A.units + 64 < cLine) (hg : Gl X "sorted") (hm : X.mg "sorted" = none) (ha : DE X tb X' G a ma) (he : starEach [a] X.env = (false, eval a X.env) :: starEach [] X.env) :
    DE X tb X' G (.Call (.Name "sorted" p) [a] [] pos) (.dsort ma) :=
  PE.weak (pe_callB (cr_sortD (X := X) (tb := tb) hc hu) hg hm boot_srt (da_cons ha da_nil he) (by decide +kernel) (by decide +kernel) he (by rfl)) fun σ H Qv ⟨Z, ρ, S, Q, m, w, k⟩ =>
    ⟨Z, ρ, S, fun ds S1 => match ds with | [d] => dSort S1 d (fun z => Q z S1) | _ => False, m, (show wE X' G ma ρ S fun d S1 => dSort S1 d fun z => Q z S1 from w), fun ds S1 vs H1 x1 s1 t1 r1 w1 => by
      cases r1 with
      | nil => exact w1.elim
      | cons r1 r2 =>
        cases r2 with
        | nil => exact ⟨Z, S1, _, _, Q, rfl, s1, t1, r1, w1, k.ext x1⟩
        | cons _ _ => exact w1.elim⟩

/-! ### list(d), tuple(range(n)) -/
theorem mt_dkeys {K : PySem.W.Frag} {Z : Addr → Prop} {S : Sto} {H : Hp} : ∀ {xs : List D} {vs : List V} {ts : List (NestedKey × Addr × Value)}, Mt xs vs ts → RepL K Z S H xs vs → RepL K Z S H (dKeys xs) (ts.map fun x => V.ref x.2.1)
  | _, _, _, .nil, _ => .nil
  | _, _, _, .cons _ _ _ m, .cons r (.cons _ rr) => .cons r (mt_dkeys m rr)
theorem refs_vals : ∀ ts : List (NestedKey × Addr × Value), Vals (ts.map fun x => V.ref x.2.1) (ts.map fun x => Value.ref x.2.1)
  | [] => .nil
  | _ :: ts => .cons rfl (refs_vals ts)
def rListD (K : PySem.W.Frag) (tb : List Addr) : List V → Hp → VK → Prop := fun vs H Qv => ∃ Z S x v Q, vs = [v] ∧ SRep K Z S H ∧ Tabs tb H ∧ Rep K Z S H x v ∧ dList S x (fun z => Q z S) ∧ Aft K tb Z S H Q Qv
theorem cr_listD (hc : X.calm = true) : CallR X (.type "list") (rListD X.K tb) := by
  intro pins s σ H vs us Qv I r ⟨Z, S, x, v, Q, ev, sr, t, rx, w, k⟩
  subst ev
  have wr : dRefD S x := by
    cases x <;> first | exact w.elim | skip
    obtain ⟨xs, e, _⟩ := w
    exact ⟨xs, e⟩
  obtain ⟨p, xs, vs, rfl, rfl, hS, hD, ⟨wd, ts, hH, np, nd, mt⟩, rl⟩ := dct_at sr rx wr
  obtain ⟨xs', hS', hl, q⟩ := w
  rw [hS] at hS'; cases hS'
  rw [Vals.ref1 r]
  have cell := cell_of I hH nd mt rl
  obtain ⟨ob, es, ep, ho, hx, hdat, hes, _, _⟩ := id cell
  have raw : s.heap.DictRaw p es ep := ⟨ob, ho, hx, hdat⟩
  have hsz : es.size = ts.length := size_of_entries hes
  have lts := mt_len mt
  have hln : (ts.map fun x => V.ref x.2.1).length ≤ sizeLine := by rw [List.length_map, LIM_eq]; unfold LIM; omega
  refine PySem.W.kdl_call (KdlSrc.rawDict (es := es) (ep := ep) (beq_sys np)) (I.ok.hd hc) raw (by rw [LIM_eq]; unfold LIM; omega) fun h' tk acc c' hk hD2 hacc => ?_
  have eacc : acc.toList = ts.map fun x => Value.ref x.2.1 := raw_keys hes hacc
  exact ⟨.ref s.heap.objs.size, upd H s.heap.objs.size (.lst (ts.map fun x => V.ref x.2.1)), I.laid (t' := tk) hk (Nat.le_refl _)
    (show ObjOk X.prog X.w _ _ _ (.lst (ts.map fun x => V.ref x.2.1)) from ⟨hln, acc.toList, c', by rw [eacc]; exact refs_vals ts, by rw [Array.toArray_toList]; exact hD2⟩), rfl, k.lst sr t (mt_dkeys mt rl) q (I.hok.fresh (Nat.le_refl _))⟩
theorem de_dlist {p : Pos} (hc : X.calm = true) (hg : Gl X "list") (hm : X.mg "list" = none) (ha : DE X tb X' G a ma) (he : starEach [a] X.env = (false, eval a X.env) :: starEach [] X.env) :
    DE X tb X' G (.Call (.Name "list" p) [a] [] pos) (.dlist ma) :=
  PE.weak (pe_callTy (cr_listD (X := X) (tb := tb) hc) hg hm (boot_bi (.list false)) (da_cons ha da_nil he) (by decide +kernel) (by decide +kernel) he (by rfl)) fun σ H Qv ⟨Z, ρ, S, Q, m, w, k⟩ =>
    ⟨Z, ρ, S, fun ds S1 => match ds with | [d] => dList S1 d (fun z => Q z S1) | _ => False, m, (show wE X' G ma ρ S fun d S1 => dList S1 d fun z => Q z S1 from w), fun ds S1 vs H1 x1 s1 t1 r1 w1 => by
      cases r1 with
      | nil => exact w1.elim
      | cons r1 r2 =>
        cases r2 with
        | nil => exact ⟨Z, S1, _, _, Q, rfl, s1, t1, r1, w1, k.ext x1⟩
        | cons _ _ => exact w1.elim⟩
theorem rg_rep {K : PySem.W.Frag} {Z : Addr → Prop} {S : Sto} {H : Hp} (i : Int) : RepL K Z S H (rangeD 0 i) (rgV 0 i) := by
  unfold rangeD rgV
  have : ∀ l : List Nat, RepL K Z S H (l.map fun (k : Nat) => D.int (0 + k)) (l.map fun (k : Nat) => V.int (0 + (k : Nat))) := fun l => by
    induction l with
    | nil => exact .nil
    | cons a l ih => exact .cons (.int _) ih
  exact this _
theorem de_trng {p p2 pos2 : Pos} (hc : X.calm = true) (hg : Gl X "tuple") (hm : X.mg "tuple" = none) (hg2 : Gl X "range") (hm2 : X.mg "range" = none) (ha : DE X tb X' G a ma) (he : starEach [a] X.env = (false, eval a X.env) :: starEach [] X.env) :
    DE X tb X' G (.Call (.Name "tuple" p) [.Call (.Name "range" p2) [a] [] pos2] [] pos) (.trng ma) :=
  PE.weak (pe_tupRg hc hg hm (prg_1 hg2 hm2 ha he)) fun σ H Qv ⟨Z, ρ, S, Q, m, w, k⟩ => ⟨Z, ρ, S, _, m, w, fun d S1 v H1 x1 s1 t1 r1 w1 => by
    cases r1 <;> first | exact w1.elim | skip
    obtain ⟨h0, h1, q⟩ := w1
    unfold LIM at h1
    exact ⟨_, rfl, RgOk.of_le (by decide) (by omega) (by decide) h0, fun p hp => (k.ext x1).tup s1 t1 (rg_rep _) q hp⟩⟩
end
end DL

set_option Elab.async false
set_option linter.all false
set_option maxRecDepth 100000
set_option maxHeartbeats 8000000
/-! DL8: what was made of the text asks enough. -/
namespace DL
open PySem PySem.Spec PyProof.Rows L2 RZ

/-! ### names -/
theorem ixS_get {x : Str} : ∀ {N : List Str} {i : Nat}, ixS x N = some i → N[i]? = some x
  | [], _, h => by cases h
  | y :: r, i, h => by
    unfold ixS at h
    by_cases e : x = y
    · rw [if_pos e] at h; cases h; simp [e]
    · rw [if_neg e] at h
      obtain ⟨j, hj, rfl⟩ := Option.map_eq_some_iff.mp h
      simpa using ixS_get hj
theorem lkS_mem {α : Type} {x : Str} : ∀ {l : List (Str × α)} {a : α}, lkS x l = some a → (x, a) ∈ l
  | [], _, h => by cases h
  | (y, b) :: r, a, h => by
    unfold lkS at h
    by_cases e : x = y
    · rw [if_pos e] at h; cases h; rw [e]; exact List.mem_cons_self
    · rw [if_neg e] at h; exact List.mem_cons_of_mem _ (lkS_mem h)
theorem visB_vis {sc : Scope} {x : Str} (h : visB sc x = true) : Vis sc x := by
  unfold visB at h
  unfold Vis
  split at h <;> first | exact .inl (by assumption) | exact .inr (.inl (by assumption)) | exact .inr (.inr (by assumption)) | cases h
theorem locB_loc {sc : Scope} {x : Str} (h : locB sc x = true) : sc.names.lookup x = some .local ∨ sc.names.lookup x = some .cell := by
  unfold locB at h
  split at h <;> first | exact .inl (by assumption) | exact .inr (by assumption) | cases h
theorem glB_gl {sc : Scope} {x : Str} (h : glB sc x = true) : sc.names.lookup x = some .globalImplicit := by
  unfold glB at h
  split at h <;> first | assumption | cases h
theorem okN_d {x : Str} (h : okN x = true) : (x == ("__debug__" : Str)) = false ∧ (x == ("__classdict__" : Str)) = false := by
  unfold okN at h
  rw [Bool.and_eq_true] at h
  exact ⟨by simpa using h.1, by simpa using h.2⟩
theorem bo_op {big : Bool} {o : Operator} {b : BO} (h : boOf big o = some b) : o = b.op ∧ (big = false → b ≠ .fdiv) := by
  cases big <;> (unfold boOf at h; split at h <;> cases h <;> refine ⟨rfl, fun e z => ?_⟩ <;> first | (cases e; done) | (cases z; done))
theorem co_op {o : CmpOp} {b : CO} (h : coOf o = some b) : o = b.op := by
  unfold coOf at h
  split at h <;> cases h <;> rfl
theorem lms_ok {x : Str} {m : LM} (h : lkS x lms = some m) : x = m.nm := by
  have := lkS_mem h
  unfold lms at this
  simp only [List.mem_cons, Prod.mk.injEq, List.not_mem_nil, or_false] at this
  rcases this with ⟨rfl, rfl⟩ | ⟨rfl, rfl⟩ | ⟨rfl, rfl⟩ <;> rfl
theorem tns_ok {x : Str} {t : TN} (h : lkS x tns = some t) : x = t.nm := by
  have := lkS_mem h
  unfold tns at this
  simp only [List.mem_cons, Prod.mk.injEq, List.not_mem_nil, or_false] at this
  rcases this with ⟨rfl, rfl⟩ | ⟨rfl, rfl⟩ | ⟨rfl, rfl⟩ | ⟨rfl, rfl⟩ <;> rfl
theorem bis_ok {x : Str} {b : BI} (h : lkS x bis = some b) : x = b.nm := by
  have := lkS_mem h
  unfold bis at this
  simp only [List.mem_cons, Prod.mk.injEq, List.not_mem_nil, or_false] at this
  rcases this with ⟨rfl, rfl⟩ | ⟨rfl, rfl⟩ | ⟨rfl, rfl⟩ | ⟨rfl, rfl⟩ | ⟨rfl, rfl⟩ | ⟨rfl, rfl⟩ | ⟨rfl, rfl⟩ | ⟨rfl, rfl⟩ <;> rfl
theorem bis2_ok {x : Str} {b : BI} (h : lkS x bis2 = some b) : x = b.nm := by
  have := lkS_mem h
  unfold bis2 at this
  simp only [List.mem_cons, Prod.mk.injEq, List.not_mem_nil, or_false] at this
  rcases this with ⟨rfl, rfl⟩ | ⟨rfl, rfl⟩ <;> rfl
theorem bi_in : ∀ b : BI, b.nm ∈ bnames
  | .abs => by simp [bnames, BI.nm]
  | .len => by simp [bnames, BI.nm]
  | .int => by simp [bnames, BI.nm]
  | .tuple => by simp [bnames, BI.nm]
  | .list _ => by simp [bnames, BI.nm]
  | .sum => by simp [bnames, BI.nm]
  | .max => by simp [bnames, BI.nm]
  | .min => by simp [bnames, BI.nm]
theorem tn_in : ∀ b : TN, b.nm ∈ bnames
  | .int => by simp [bnames, TN.nm]
  | .bool => by simp [bnames, TN.nm]
  | .str => by simp [bnames, TN.nm]
  | .tuple => by simp [bnames, TN.nm]

/-! ### the context -/
structure ModD where
  fa : Nat → Addr
  fd : Nat → FuncData
  ps : Nat → List Str
  xc : XC
/-- a class of things raised -/
structure ExcOk (K : PySem.W.Frag) (mg : Str → Option Value) (xc : XC) (T : Tab) (x : Str) (c : Nat) : Prop where
  n : c < xc.n
  ex : ∃ (C : Addr) (bmB : List Value) (B newId initId : String), xc.at_ c = .ref C ∧ ExcBaseFacts B newId initId bmB ∧ PySem.W.excIn K C bmB newId = true ∧ mg x = some (.ref C) ∧ PySem.W.keepIn K (.ref C) = true ∧ PySem.W.subIn K (.ref C) (.type "BaseException") = some true ∧ PySem.W.typeIn K (.ref C) = some (.type "type")
  cat : ∀ cs, T.subs.lookup c = some cs → ∀ c', c' < xc.n → PySem.W.exmOne K (xc.at_ c') (xc.at_ c) = some (decide (c' ∈ cs))
structure GOk (X : Cx) (tb : List Addr) (T : Tab) (X' : Mod') (G : Fns) (Md : ModD) (lev : Nat) : Prop where
  fn : ∀ x f, lkS x T.fns = some f → f < 1000 ∧ X.mg x = some (.ref (Md.fa f)) ∧ PySem.W.keepIn X.K (.ref (Md.fa f)) = true ∧ Binds X.K (Md.fd f) (Md.ps f) [] ∧ FnOk X.prog X.w X.K X.mg X.base (L2.CX X.prog X.w) lev (Md.fa f) (Md.fd f) (Md.ps f) (spD X.K tb Md.xc G f)
  fx : ∀ x f, lkS x T.fns = some f → FnOk X.prog X.w X.K X.mg X.base (L2.CX X.prog X.w) lev (Md.fa f) (Md.fd f) (Md.ps f) (spD X.K tb Md.xc G (f + 1000))
  ex : ∀ x c, lkS x T.excs = some c → ExcOk X.K X.mg Md.xc T x c
  kw : ∀ (kp f n : Nat) (ks : List Str) (p : List Nat), T.kws[kp]? = some (f, n, ks, p) → KBinds X.K (Md.fd f) (Md.ps f) ks (arr n ks.length p) (arr n ks.length p) ∧ X'.kps[kp]? = some (n, ks.length, p)
  ct : ∀ x i, lkS x T.consts = some i → ∃ (u : Value) (v : V) (d : D), X.mg x = some u ∧ RelV v u ∧ X'.consts[i]? = some d ∧ ∀ Z S H, Rep X.K Z S H d v
  bi : ∀ x ∈ bnames, X.mg x = none
  room : Room lev X.A
/-- what a division by _pylong asks of the context -/
structure Seer (X : Cx) : Prop where
  ns : X.base.NoSeer
  tree : X.prog.given.tree = none
  stk : ∃ env l, X.stack = env :: l ∧ env.scope.isGenerator = false ∧ env.scope.isCoroutine = false ∧ env.builtins = builtinsNs ∧ env.globals = mainGlobals
  dep : X.A.depth + Builtin.pylongFrames < recursionLimit
theorem Seer.room {X : Cx} (h : Seer X) : PyRoom X := fun pins s σ H I => by
  obtain ⟨env, l, e, h1, h2, h3, h4⟩ := h.stk
  exact PylongRoom.of I.nolimit h.dep (SeerAt.of (h.ns.keeps I.bk) h.tree (by rw [I.ok.frames, e]) h1 h2 h3 h4)
structure XOk (X : Cx) (tb : List Addr) (lev : Nat) (N : List Str) (sc : Scope) (big : Bool) : Prop where
  gx : big = true → gxB N = true → Room (lev + 6) X.A ∧ ∃ cA P, GxR.TabB X.base X.mg cA P ∧ P ∈ tb ∧ X.env.code = .ref cA
  hN : X.N = N
  nd : N.Nodup
  hsc : X.env.scope = sc
  calm : X.calm = true
  py : big = true → Seer X
/-- where a target may store -/
def StOk (X : Cx) (sc0 : Scope) : Prop := ∀ x, locB sc0 x = true → Loc X.env.scope x ∧ (X.fn x = true ∨ X.env.scope.names.lookup x = some .local)

section
variable {tb : List Addr} {T : Tab} {X' : Mod'} {G : Fns} {Md : ModD} {lev : Nat} {N : List Str}
theorem GOk.blk {X : Cx} (g : GOk X tb T X' G Md lev) (s : Shared) (H : Hp) (scope : Scope) (env : Env) (fp : List Addr) : GOk (X.blk s H scope env fp) tb T X' G Md lev := ⟨g.fn, g.fx, g.ex, g.kw, g.ct, g.bi, g.room⟩
theorem Seer.blk {X : Cx} (g : Seer X) (s : Shared) (H : Hp) (scope : Scope) (env : Env) (fp : List Addr) : Seer (X.blk s H scope env fp) := ⟨g.ns, g.tree, g.stk, g.dep⟩
theorem XOk.blk {X : Cx} {sc : Scope} {big : Bool} (x : XOk X tb lev N sc big) (s : Shared) (H : Hp) (scope : Scope) (C : Addr) (cl : List (Str × Addr)) (fp : List Addr) : XOk (X.blk s H scope (compEnvC scope cl C X.env) fp) tb lev N (relS scope sc) big :=
  ⟨x.gx, x.hN, x.nd, by rw [← x.hsc]; rfl, x.calm, fun h => (x.py h).blk s H scope _ fp⟩
theorem StOk.blk {X : Cx} {sc : Scope} {big : Bool} (x : XOk X tb lev N sc big) (s : Shared) (H : Hp) (scope : Scope) (C : Addr) (cl : List (Str × Addr)) (fp : List Addr) : StOk (X.blk s H scope (compEnvC scope cl C X.env) fp) scope := fun y h => by
  have e : (X.blk s H scope (compEnvC scope cl C X.env) fp).env.scope = relS scope X.env.scope := rfl
  rcases locB_loc h with h | h
  · have h2 : (relS scope X.env.scope).names.lookup y = some .local := lookup_relS_keep (by decide) h
    exact ⟨.inl (by rw [e]; exact h2), .inr (by rw [e]; exact h2)⟩
  · have h2 : (relS scope X.env.scope).names.lookup y = some .cell := lookup_relS_keep (by decide) h
    refine ⟨.inr (by rw [e]; exact h2), .inl ?_⟩
    show (scope.names.lookup y == some NameKind.cell) = true
    rw [h]; rfl

/-! ### the pieces of text -/
theorem trE_star {n : Nat} {big : Bool} {sc : Scope} {e : Expr} {m : M} (h : trE T N n big sc e = some m) : ∀ (es : List Expr) (env : Env), starEach (e :: es) env = (false, eval e env) :: starEach es env := by
  intro es env
  cases n with
  | zero => cases h
  | succ n => cases e <;> first | rfl | (simp [trE] at h)
theorem trL_plain {n : Nat} {big : Bool} {sc : Scope} : ∀ {es : List Expr} {m : M}, trL (trE T N n big sc) es = some m → ∀ (env : Env) (pos : Pos), (backTo pos (starEach es env)).any (·.1) = false
  | [], _, _, _, _ => rfl
  | e :: es, m, h, env, pos => by
    unfold trL at h
    obtain ⟨m1, h1, h⟩ := Option.bind_eq_some_iff.mp h
    obtain ⟨m2, h2, h⟩ := Option.bind_eq_some_iff.mp h
    rw [trE_star h1]
    show (false || (backTo pos (starEach es env)).any (·.1)) = false
    rw [trL_plain h2, Bool.or_false]
theorem trL_allF {n : Nat} {big : Bool} {sc : Scope} : ∀ {es : List Expr} {m : M}, trL (trE T N n big sc) es = some m → ∀ (env : Env) (pos : Pos), (backTo pos (starEach es env)).all (fun x => !x.1) = true
  | [], _, _, _, _ => rfl
  | e :: es, m, h, env, pos => by
    unfold trL at h
    obtain ⟨m1, h1, h⟩ := Option.bind_eq_some_iff.mp h
    obtain ⟨m2, h2, h⟩ := Option.bind_eq_some_iff.mp h
    rw [trE_star h1]
    show (!false && (backTo pos (starEach es env)).all (fun x => !x.1)) = true
    rw [trL_allF h2]; rfl
theorem trE_ix {n : Nat} {big : Bool} {sc : Scope} {e : Expr} {m : M} (h : trE T N n big sc e = some m) : PlainIx e := by
  cases n with
  | zero => cases h
  | succ n => cases e <;> first | (intro o i; rfl) | (simp [trE] at h)
theorem trE_aug {n : Nat} {big : Bool} {sc : Scope} {e : Expr} {m : M} (h : trE T N n big sc e = some m) : ∀ ov iv new, augStore e ov iv new = (do holding [new, ov, iv] (setItem ov iv new); release [new, ov, iv] []; pure .next) := by
  cases n with
  | zero => cases h
  | succ n => cases e <;> first | (intro o i w; rfl) | (simp [trE] at h)
theorem trE_set {n : Nat} {big : Bool} {sc : Scope} {e : Expr} {m : M} (h : trE T N n big sc e = some m) : ∀ env x, foldedSetIterable e env x = pure x := by
  cases n with
  | zero => cases h
  | succ n => cases e <;> first | (intro o i; rfl) | (simp [trE] at h)
theorem trE_mark {n : Nat} {big : Bool} {sc : Scope} {e : Expr} {m : M} (h : trE T N n big sc e = some m) (op : CmpOp) : behindInMarks op e = false := by
  cases n with
  | zero => cases h
  | succ n => cases e <;> first | rfl | (simp [trE] at h)
theorem da_of {X : Cx} {n : Nat} {big : Bool} {sc : Scope} (ih : ∀ e m, trE T N n big sc e = some m → DE X tb X' G e m) : ∀ {es : List Expr} {m : M}, trL (trE T N n big sc) es = some m → DA X tb X' G es m
  | [], m, h => by cases h; exact da_nil
  | e :: es, m, h => by
    unfold trL at h
    obtain ⟨m1, h1, h⟩ := Option.bind_eq_some_iff.mp h
    obtain ⟨m2, h2, h⟩ := Option.bind_eq_some_iff.mp h
    cases h
    exact da_cons (ih _ _ h1) (da_of ih h2) (trE_star h1 es X.env)
theorem dk_of {X : Cx} {n : Nat} {big : Bool} {sc : Scope} (ih : ∀ e m, trE T N n big sc e = some m → DE X tb X' G e m) : ∀ {es : List Keyword} {m : M}, trK (trE T N n big sc) es = some m → DK X tb X' G es m
  | [], m, h => by cases h; exact dk_nil
  | ⟨some nm, e, kp⟩ :: es, m, h => by
    unfold trK at h
    obtain ⟨m1, h1, h⟩ := Option.bind_eq_some_iff.mp h
    obtain ⟨m2, h2, h⟩ := Option.bind_eq_some_iff.mp h
    cases h
    exact dk_cons (ih _ _ h1) (dk_of ih h2)
  | ⟨none, e, kp⟩ :: es, m, h => by cases h
theorem trK_names {n : Nat} {big : Bool} {sc : Scope} : ∀ {es : List Keyword} {m : M}, trK (trE T N n big sc) es = some m → ∀ (env : Env) (pos : Pos), (backToKw pos (keywordEach es env)).all (·.1.isSome) = true ∧ (backToKw pos (keywordEach es env)).filterMap (·.1) = kwNames es ∧ (backToKw pos (keywordEach es env)).any (·.1.isNone) = false
  | [], m, h, _, _ => ⟨rfl, rfl, rfl⟩
  | ⟨some nm, e, kp⟩ :: es, m, h, env, pos => by
    unfold trK at h
    obtain ⟨m1, h1, h⟩ := Option.bind_eq_some_iff.mp h
    obtain ⟨m2, h2, h⟩ := Option.bind_eq_some_iff.mp h
    obtain ⟨a1, a2, a3⟩ := trK_names h2 env pos
    refine ⟨?_, ?_, ?_⟩
    · show (true && (backToKw pos (keywordEach es env)).all (·.1.isSome)) = true
      rw [a1]; rfl
    · show nm :: (backToKw pos (keywordEach es env)).filterMap (·.1) = nm :: kwNames es
      rw [a2]
    · show (false || (backToKw pos (keywordEach es env)).any (·.1.isNone)) = false
      rw [a3]; rfl
  | ⟨none, e, kp⟩ :: es, m, h, _, _ => by cases h
theorem kwIx_get {f n : Nat} {ks : List Str} : ∀ {l : List (Nat × Nat × List Str × List Nat)} {i kp : Nat}, kwIx f n ks l i = some kp → ∃ j p, kp = i + j ∧ l[j]? = some (f, n, ks, p)
  | [], _, _, h => by cases h
  | (f', n', ks', p) :: r, i, kp, h => by
    unfold kwIx at h
    split at h
    · rename_i e
      cases h
      obtain ⟨rfl, rfl, rfl⟩ := e
      exact ⟨0, p, rfl, rfl⟩
    · obtain ⟨j, p', e, h'⟩ := kwIx_get h
      exact ⟨j + 1, p', by omega, h'⟩
theorem fold_and {X : Cx} {n : Nat} {big : Bool} {sc : Scope} {pos : Pos} (ih : ∀ e m, trE T N n big sc e = some m → DE X tb X' G e m) : ∀ {es : List Expr} {m : M}, fold2 .and (trE T N n big sc) es = some m → DE X tb X' G (.BoolOp .And es pos) m
  | [], m, h => by cases h
  | [e], m, h => de_one (ih _ _ h)
  | e :: e2 :: es, m, h => by
    unfold fold2 at h
    obtain ⟨m1, h1, h⟩ := Option.bind_eq_some_iff.mp h
    obtain ⟨m2, h2, h⟩ := Option.bind_eq_some_iff.mp h
    cases h
    exact de_and (ih _ _ h1) (fold_and ih h2)
theorem fold_or {X : Cx} {n : Nat} {big : Bool} {sc : Scope} {pos : Pos} (ih : ∀ e m, trE T N n big sc e = some m → DE X tb X' G e m) : ∀ {es : List Expr} {m : M}, fold2 .or (trE T N n big sc) es = some m → DE X tb X' G (.BoolOp .Or es pos) m
  | [], m, h => by cases h
  | [e], m, h => de_one (ih _ _ h)
  | e :: e2 :: es, m, h => by
    unfold fold2 at h
    obtain ⟨m1, h1, h⟩ := Option.bind_eq_some_iff.mp h
    obtain ⟨m2, h2, h⟩ := Option.bind_eq_some_iff.mp h
    cases h
    exact de_or (ih _ _ h1) (fold_or ih h2)
theorem fold_andT {X : Cx} {n : Nat} {big : Bool} {sc : Scope} {pos : Pos} (ih : ∀ e m, trT T N n big sc e = some m → DT X tb X' G e m) : ∀ {es : List Expr} {m : M}, fold2 .and (trT T N n big sc) es = some m → DW X tb X' G (.BoolOp .And es pos) m
  | [], m, h => by cases h
  | [e], m, h => dw_and1 (ih _ _ h)
  | e :: e2 :: es, m, h => by
    unfold fold2 at h
    obtain ⟨m1, h1, h⟩ := Option.bind_eq_some_iff.mp h
    obtain ⟨m2, h2, h⟩ := Option.bind_eq_some_iff.mp h
    cases h
    exact dw_and (ih _ _ h1) (fold_andT ih h2)
theorem fold_orT {X : Cx} {n : Nat} {big : Bool} {sc : Scope} {pos : Pos} (ih : ∀ e m, trT T N n big sc e = some m → DT X tb X' G e m) : ∀ {es : List Expr} {m : M}, fold2 .or (trT T N n big sc) es = some m → DW X tb X' G (.BoolOp .Or es pos) m
  | [], m, h => by cases h
  | [e], m, h => dw_or1 (ih _ _ h)
  | e :: e2 :: es, m, h => by
    unfold fold2 at h
    obtain ⟨m1, h1, h⟩ := Option.bind_eq_some_iff.mp h
    obtain ⟨m2, h2, h⟩ := Option.bind_eq_some_iff.mp h
    cases h
    exact dw_or (ih _ _ h1) (fold_orT ih h2)
/-! ### targets -/
theorem trG_star {n : Nat} {sc : Scope} {e : Expr} {t : TT'} (h : trG N sc n e = some t) : ∀ (es : List Expr) (env : Env), assignEach (e :: es) env = (false, assign e env) :: assignEach es env := by
  intro es env
  cases n with
  | zero => cases h
  | succ n => cases e <;> first | rfl | (simp [trG] at h)
theorem goG_facts {n : Nat} {sc : Scope} : ∀ {es : List Expr} {t : TT'}, trG.go (trG N sc n) es = some t → ∀ env, (assignEach es env).length = tlen t ∧ (assignEach es env).findIdx? (·.1) = none
  | [], t, h, env => by cases h; exact ⟨rfl, rfl⟩
  | e :: es, t, h, env => by
    unfold trG.go at h
    obtain ⟨m1, h1, h⟩ := Option.bind_eq_some_iff.mp h
    obtain ⟨m2, h2, h⟩ := Option.bind_eq_some_iff.mp h
    cases h
    obtain ⟨a1, a2⟩ := goG_facts h2 env
    rw [trG_star h1]
    refine ⟨by rw [List.length_cons, a1]; rfl, ?_⟩
    rw [List.findIdx?_cons]
    simp [a2]
mutual
theorem trG_ok {X : Cx} {sc0 : Scope} (hN : X.N = N) (nd : N.Nodup) (hc : X.calm = true) (st : StOk X sc0) : ∀ (n : Nat) {e : Expr} {t : TT'}, trG N sc0 n e = some t → DG X e t
  | 0, _, _, h => by cases h
  | n + 1, e, t, h => by
    unfold trG at h
    split at h
    · cases h
    · rename_i x _ _
      split at h
      · rename_i hl
        obtain ⟨i, hi, rfl⟩ := Option.map_eq_some_iff.mp h
        obtain ⟨h1, h2⟩ := st x hl
        exact dg_name (by rw [hN]; exact nd) (by rw [hN]; exact ixS_get hi) h1 h2
      · cases h
    · rename_i es _ _ _ heq
      try cases heq
      obtain ⟨u, hu, rfl⟩ := Option.map_eq_some_iff.mp h
      obtain ⟨a1, a2⟩ := goG_facts hu X.env
      exact dg_tup hc (goG_ok hN nd hc st n hu) a1 a2
    · cases h
theorem goG_ok {X : Cx} {sc0 : Scope} (hN : X.N = N) (nd : N.Nodup) (hc : X.calm = true) (st : StOk X sc0) : ∀ (n : Nat) {es : List Expr} {t : TT'}, trG.go (trG N sc0 n) es = some t → DGs X es t
  | n, [], t, h => by cases h; exact dgs_nil
  | n, e :: es, t, h => by
    unfold trG.go at h
    obtain ⟨m1, h1, h⟩ := Option.bind_eq_some_iff.mp h
    obtain ⟨m2, h2, h⟩ := Option.bind_eq_some_iff.mp h
    cases h
    exact dgs_cons (trG_ok hN nd hc st n h1) (goG_ok hN nd hc st n h2) (by rw [trG_star h1]; rfl)
end
end
end DL

set_option Elab.async false
set_option linter.all false
set_option maxRecDepth 100000
set_option maxHeartbeats 16000000
/-! DL9: expressions of the text. -/
namespace DL
open PySem PySem.Spec PyProof.Rows L2 RZ
section
variable {tb : List Addr} {T : Tab} {X' : Mod'} {G : Fns} {Md : ModD} {lev : Nat} {N : List Str}
structure TrOk (tb : List Addr) (T : Tab) (X' : Mod') (G : Fns) (Md : ModD) (lev : Nat) (N : List Str) (n : Nat) : Prop where
  e : ∀ (X : Cx) (sc : Scope) (big : Bool), GOk X tb T X' G Md lev → XOk X tb lev N sc big → ∀ e m, trE T N n big sc e = some m → DE X tb X' G e m
  t : ∀ (X : Cx) (sc : Scope) (big : Bool), GOk X tb T X' G Md lev → XOk X tb lev N sc big → ∀ e m, trT T N n big sc e = some m → DT X tb X' G e m
  o : ∀ (X : Cx) (sc : Scope) (big : Bool), GOk X tb T X' G Md lev → XOk X tb lev N sc big → ∀ e m, trO T N n big sc e = some m → DO X tb X' G e m
  f : ∀ (X : Cx) (sc : Scope) (big : Bool), GOk X tb T X' G Md lev → XOk X tb lev N sc big → ∀ e m, trIf T N n big sc e = some m → PTs X e (tDT X.K tb (wT X' G m))
  i : ∀ (X : Cx) (sc : Scope) (big : Bool), GOk X tb T X' G Md lev → XOk X tb lev N sc big → ∀ tg e m, trI T N n big sc tg e = some m → DI X tb X' G tg e m
theorem XOk.gl {X : Cx} {sc : Scope} {big : Bool} (x : XOk X tb lev N sc big) {y : Str} (h : glB sc y = true) : Gl X y := by
  show X.env.scope.names.lookup y = _
  rw [x.hsc]; exact glB_gl h
theorem XOk.vis {X : Cx} {sc : Scope} {big : Bool} (x : XOk X tb lev N sc big) {y : Str} (h : visB sc y = true) : Vis X.env.scope y := by
  rw [x.hsc]; exact visB_vis h
theorem hu64 {X : Cx} (g : GOk X tb T X' G Md lev) : X.A.units + 64 < cLine := g.room.units
theorem bin_ok {X : Cx} {sc : Scope} {big : Bool} (x : XOk X tb lev N sc big) {a b : Expr} {o : Operator} {o' : BO} {ma mb : M} {pos : Pos} (h : boOf big o = some o') (ha : DE X tb X' G a ma) (hb : DE X tb X' G b mb) : DE X tb X' G (.BinOp a o b pos) (.bin o' ma mb) := by
  obtain ⟨rfl, h2⟩ := bo_op h
  cases big with
  | true => exact de_bin (x.py rfl).room ha hb
  | false => exact de_binS (h2 rfl) ha hb
theorem bi_set (b : BI) (mu : Bool) : (match b with | .list _ => BI.list mu | b => b).nm = b.nm := by cases b <;> rfl
theorem str_isi : ("isinstance" : Str) ∈ bnames := by simp [bnames]
theorem str_range : ("range" : Str) ∈ bnames := by simp [bnames]
theorem str_zip : ("zip" : Str) ∈ bnames := by simp [bnames]
theorem base_ok {b : Expr} (h : isBase b = true) (y : Str) (env : Env) : attributeBase b y env (eval b env) = eval b env := by
  cases b <;> first | rfl | (cases h; done)
theorem own_ix {own : List (Str × Nat)} {t : TT'} (h : (slots t).all (fun i => own.any fun p => p.2 == i) = true) : ∀ i ∈ slots t, i ∈ own.map (·.2) := fun i hi => by
  have q := List.all_eq_true.mp h i hi
  obtain ⟨p, hp, e⟩ := List.any_eq_true.mp q
  exact List.mem_map.mpr ⟨p, hp, by simpa using e⟩

theorem rngArg_ok {e b : Expr} {p2 : Pos} (h : rngArg e = some (b, p2)) : ∃ p3, e = .Call (.Name "range" p2) [b] [] p3 := by
  unfold rngArg at h
  split at h
  · split at h
    · rename_i ef
      subst ef
      cases h
      exact ⟨_, rfl⟩
    · cases h
  · cases h
theorem trI_set {n : Nat} {big : Bool} {sc : Scope} {tg e : Expr} {m : M} (h : trI T N n big sc tg e = some m) : ∀ env x, foldedSetIterable e env x = pure x := by
  cases n with
  | zero => cases h
  | succ n =>
    cases e <;> first
      | (intro o i; rfl)
      | (exfalso; unfold trI at h; split at h <;> first
          | (rename_i hh; cases hh; done)
          | (obtain ⟨a, ha, _⟩ := Option.map_eq_some_iff.mp h; cases n with
              | zero => cases ha
              | succ n => simp [trE] at ha))
theorem genOk_by {sc scope : Scope} {own : List (Str × Nat)} (h : genC N sc scope own = true) : GenOk N sc scope own := by
  unfold genC at h
  simp only [Bool.and_eq_true, Bool.not_eq_true', List.all_eq_true, decide_eq_true_eq] at h
  obtain ⟨h1, h2, h3, h4⟩ := h
  have b := blkOk_by h1
  have nc : ∀ y ∈ scope.names, y.2 ≠ .cell := fun y hy z => by
    have := h3 y hy
    rw [z] at this
    cases this
  exact ⟨b.kind, h2, nc, h4, b.uniq, b.ix, fun y hy e => b.own y hy (.inl e), b.free⟩
theorem genFold_ok {n : Nat} {big : Bool} {sc : Scope} {tg e : Expr} {m : M} (hl : isLst e = false) (h : trI T N n big sc tg e = some m) (env : Env) (v : Value) : genFold e env v = pure v := by
  have := trI_set h env v
  cases e <;> first
    | (cases hl; done)
    | exact this
theorem GOk.gblk {X : Cx} (g : GOk X tb T X' G Md lev) {A : Around} {sc' : Shared} {H : Hp} {genv : Env} {fp : List Addr} {pn : List (Addr × Obj)} (hr : Room lev A) : GOk (DL.gblk X A sc' H genv fp pn) tb T X' G Md lev := ⟨g.fn, g.fx, g.ex, g.kw, g.ct, g.bi, hr⟩
theorem XOk.gblk {X : Cx} {sc : Scope} {big : Bool} (x : XOk X tb lev N sc big) {Aw : Around} {sc' : Shared} {H : Hp} {genv : Env} {fp : List Addr} {pn : List (Addr × Obj)} : XOk (DL.gblk X Aw sc' H genv fp pn) tb lev N genv.scope false :=
  ⟨fun h => (Bool.false_ne_true h).elim, x.hN, x.nd, rfl, x.calm, fun h => (Bool.false_ne_true h).elim⟩
theorem StOk.gblk {X : Cx} {sc scope : Scope} {own : List (Str × Nat)} (ok : GenOk N sc scope own) {Aw : Around} {sc' : Shared} {H : Hp} {cl : List (Str × Addr)} {C : Addr} {code : Value} {fp : List Addr} {pn : List (Addr × Obj)} : StOk (DL.gblk X Aw sc' H (genEnv scope cl C code builtinsNs X.env) fp pn) scope := fun y h => by
  rcases locB_loc h with h | h
  · exact ⟨.inl h, .inr h⟩
  · exact absurd rfl (ok.cell _ (PySem.mem_of_lookup h))
theorem trE_step {n : Nat} (ih : TrOk tb T X' G Md lev N n) (X : Cx) (sc : Scope) (big : Bool) (g : GOk X tb T X' G Md lev) (x : XOk X tb lev N sc big) (e : Expr) (m : M) (h : trE T N (n + 1) big sc e = some m) : DE X tb X' G e m := by
  have E := ih.e X sc big g x
  have TT := ih.t X sc big g x
  have O := ih.o X sc big g x
  unfold trE at h
  split at h
  · -- Name
    rename_i y pos
    split at h
    · rename_i hok
      obtain ⟨d1, d2⟩ := okN_d hok
      split at h
      · rename_i hv
        obtain ⟨i, hi, rfl⟩ := Option.map_eq_some_iff.mp h
        exact de_v (by rw [x.hN]; exact ixS_get hi) (x.vis hv) d1 d2
      · split at h
        · rename_i hg
          obtain ⟨i, hi, rfl⟩ := Option.map_eq_some_iff.mp h
          obtain ⟨u, v, d, h1, h2, h3, h4⟩ := g.ct _ _ hi
          exact de_g (x.gl hg) h1 h2 d1 h3 h4
        · cases h
    · cases h
  · cases h; exact de_int
  · cases h; exact de_bl
  · cases h; exact de_non
  · cases h; exact de_str
  · obtain ⟨a, ha, rfl⟩ := Option.map_eq_some_iff.mp h
    exact de_tup (da_of E ha)
  · cases h; exact de_dnew
  · obtain ⟨a, ha, rfl⟩ := Option.map_eq_some_iff.mp h
    exact de_lst (da_of E ha)
  · split at h
    · rename_i hq
      obtain ⟨m1, h1, h⟩ := Option.bind_eq_some_iff.mp h
      obtain ⟨m2, h2, h⟩ := Option.bind_eq_some_iff.mp h
      cases h
      rw [hq.1]
      exact de_cat (E _ _ h1) (E _ _ h2)
    split at h
    · rename_i hq
      split at h
      · obtain ⟨m1, h1, h⟩ := Option.bind_eq_some_iff.mp h
        obtain ⟨m2, h2, h⟩ := Option.bind_eq_some_iff.mp h
        cases h
        rw [hq.1]
        exact de_rep (de_lst (da_of E h1)) (E _ _ h2)
      · cases h
    obtain ⟨o', ho, h⟩ := Option.bind_eq_some_iff.mp h
    obtain ⟨m1, h1, h⟩ := Option.bind_eq_some_iff.mp h
    obtain ⟨m2, h2, h⟩ := Option.bind_eq_some_iff.mp h
    cases h
    exact bin_ok x ho (E _ _ h1) (E _ _ h2)
  · obtain ⟨a, ha, rfl⟩ := Option.map_eq_some_iff.mp h
    exact de_neg (E _ _ ha)
  · obtain ⟨a, ha, rfl⟩ := Option.map_eq_some_iff.mp h
    exact de_not (E _ _ ha)
  · obtain ⟨o', ho, h⟩ := Option.bind_eq_some_iff.mp h
    obtain ⟨m1, h1, h⟩ := Option.bind_eq_some_iff.mp h
    obtain ⟨m2, h2, h⟩ := Option.bind_eq_some_iff.mp h
    cases h
    obtain rfl := co_op ho
    exact de_cmp (hu64 g) (trE_mark h2 _) (E _ _ h1) (E _ _ h2)
  · obtain ⟨o', ho, h⟩ := Option.bind_eq_some_iff.mp h
    obtain ⟨o2', ho2, h⟩ := Option.bind_eq_some_iff.mp h
    obtain ⟨m1, h1, h⟩ := Option.bind_eq_some_iff.mp h
    obtain ⟨m2, h2, h⟩ := Option.bind_eq_some_iff.mp h
    obtain ⟨m3, h3, h⟩ := Option.bind_eq_some_iff.mp h
    cases h
    obtain rfl := co_op ho
    obtain rfl := co_op ho2
    exact de_chain (hu64 g) (trE_mark h3 _) (E _ _ h1) (E _ _ h2) (E _ _ h3)
  · exact fold_and E h
  · exact fold_or E h
  · obtain ⟨m1, h1, h⟩ := Option.bind_eq_some_iff.mp h
    obtain ⟨m2, h2, h⟩ := Option.bind_eq_some_iff.mp h
    obtain ⟨m3, h3, h⟩ := Option.bind_eq_some_iff.mp h
    cases h
    exact de_ite (TT _ _ h1) (E _ _ h2) (E _ _ h3)
  · obtain ⟨m1, h1, h⟩ := Option.bind_eq_some_iff.mp h
    obtain ⟨m2, h2, h⟩ := Option.bind_eq_some_iff.mp h
    obtain ⟨m3, h3, h⟩ := Option.bind_eq_some_iff.mp h
    cases h
    exact de_sl (E _ _ h1) (O _ _ h2) (O _ _ h3)
  · obtain ⟨m1, h1, h⟩ := Option.bind_eq_some_iff.mp h
    obtain ⟨m2, h2, h⟩ := Option.bind_eq_some_iff.mp h
    cases h
    split
    · exact de_dget (hu64 g) (E _ _ h1) (E _ _ h2) (trE_ix h2)
    · exact de_ix (E _ _ h1) (E _ _ h2) (trE_ix h2)
  · -- ListComp
    rename_i elt tg it ifs scope pos
    split at h
    · rename_i hblk
      obtain ⟨mi, hi, h⟩ := Option.bind_eq_some_iff.mp h
      obtain ⟨t, ht, h⟩ := Option.bind_eq_some_iff.mp h
      split at h
      · rename_i hsl
        obtain ⟨mc, hc, h⟩ := Option.bind_eq_some_iff.mp h
        obtain ⟨me, he, h⟩ := Option.bind_eq_some_iff.mp h
        cases h
        refine de_lc x.calm (by rw [x.hN]; exact x.nd) (ih.i X sc big g x _ _ _ hi) (by rw [x.hN, x.hsc]; exact blkOk_by hblk) (fun s H C cl fp => trG_ok (X := X.blk s H scope (compEnvC scope cl C X.env) fp) x.hN x.nd x.calm (StOk.blk x s H scope C cl fp) 8 ht) (own_ix hsl)
          (fun s H C cl fp => ih.f _ _ _ (g.blk s H scope _ fp) (x.blk s H scope C cl fp) _ _ hc) (fun s H C cl fp => ih.e _ _ _ (g.blk s H scope _ fp) (x.blk s H scope C cl fp) _ _ he) (trI_set hi X.env)
      · cases h
    · cases h
  · -- tuple of a generator expression
    rename_i f fp' elt tg it ifs scope gp cp
    split at h
    · rename_i hh
      obtain ⟨rfl, ⟨hb, hx⟩, ⟨hgl, hgc⟩, hl⟩ := hh
      obtain ⟨mi, hi, h⟩ := Option.bind_eq_some_iff.mp h
      obtain ⟨t, ht, h⟩ := Option.bind_eq_some_iff.mp h
      split at h
      · rename_i hsl
        obtain ⟨mc, hcn, h⟩ := Option.bind_eq_some_iff.mp h
        obtain ⟨me, hme, h⟩ := Option.bind_eq_some_iff.mp h
        cases h
        obtain ⟨rm, cA, P, TB, hP, hcd⟩ := x.gx hb hx
        have gok : GenOk X.N X.env.scope scope (ownOf N scope) := by rw [x.hN, x.hsc]; exact genOk_by hgc
        refine de_gtup (k := lev + 1) rm TB hP hcd gok (by rw [x.hN]; exact x.nd) x.calm (ih.i X sc big g x _ _ _ hi) (fun v => genFold_ok hl hi X.env v) (own_ix hsl) (x.gl hgl) (g.bi _ (by simp [bnames])) (fun Aw sc' H C code fp pn hw hf => ?_)
        have gi := g.gblk (sc' := sc') (H := H) (genv := genEnv scope (cloFrom X.env.cells scope.names []) C code builtinsNs X.env) (fp := fp) (pn := pn) (hw.deeper (genEnv scope (cloFrom X.env.cells scope.names []) C code builtinsNs X.env))
        have xi := x.gblk (Aw := Aw.deeper (genEnv scope (cloFrom X.env.cells scope.names []) C code builtinsNs X.env)) (sc' := sc') (H := H) (genv := genEnv scope (cloFrom X.env.cells scope.names []) C code builtinsNs X.env) (fp := fp) (pn := pn)
        exact ⟨trG_ok (X := DL.gblk X (Aw.deeper (genEnv scope (cloFrom X.env.cells scope.names []) C code builtinsNs X.env)) sc' H (genEnv scope (cloFrom X.env.cells scope.names []) C code builtinsNs X.env) fp pn) x.hN x.nd x.calm (StOk.gblk (N := X.N) gok) 8 ht, ih.f _ _ _ gi xi _ _ hcn, ih.e _ _ _ gi xi _ _ hme⟩
      · cases h
    · split at h
      · rename_i hnt hh
        obtain ⟨hf, ⟨hb, hx⟩, ⟨hgl, hgc⟩, hl⟩ := hh
        obtain ⟨mi, hi, h⟩ := Option.bind_eq_some_iff.mp h
        obtain ⟨t, ht, h⟩ := Option.bind_eq_some_iff.mp h
        split at h
        · rename_i hsl
          obtain ⟨mc, hcn, h⟩ := Option.bind_eq_some_iff.mp h
          obtain ⟨me, hme, h⟩ := Option.bind_eq_some_iff.mp h
          cases h
          obtain ⟨rm, cA, P, TB, hP, hcd⟩ := x.gx hb hx
          have gok : GenOk X.N X.env.scope scope (ownOf N scope) := by rw [x.hN, x.hsc]; exact genOk_by hgc
          have pp : ∀ (Aw : Around) (sc' : Shared) (H : Hp) (C : Addr) (code : Value) (fp : List Addr) (pn : List (Addr × Obj)), Room (lev + 1) Aw → Aw.frames = some X.stack →
              DG (DL.gblk X (Aw.deeper (genEnv scope (cloFrom X.env.cells scope.names []) C code builtinsNs X.env)) sc' H (genEnv scope (cloFrom X.env.cells scope.names []) C code builtinsNs X.env) fp pn) tg t ∧
              PTs (DL.gblk X (Aw.deeper (genEnv scope (cloFrom X.env.cells scope.names []) C code builtinsNs X.env)) sc' H (genEnv scope (cloFrom X.env.cells scope.names []) C code builtinsNs X.env) fp pn) ifs (tDT X.K tb (wT X' G mc)) ∧
              DE (DL.gblk X (Aw.deeper (genEnv scope (cloFrom X.env.cells scope.names []) C code builtinsNs X.env)) sc' H (genEnv scope (cloFrom X.env.cells scope.names []) C code builtinsNs X.env) fp pn) tb X' G elt me := fun Aw sc' H C code fp pn hw hf => by
            have gi := g.gblk (sc' := sc') (H := H) (genv := genEnv scope (cloFrom X.env.cells scope.names []) C code builtinsNs X.env) (fp := fp) (pn := pn) (hw.deeper (genEnv scope (cloFrom X.env.cells scope.names []) C code builtinsNs X.env))
            have xi := x.gblk (Aw := Aw.deeper (genEnv scope (cloFrom X.env.cells scope.names []) C code builtinsNs X.env)) (sc' := sc') (H := H) (genv := genEnv scope (cloFrom X.env.cells scope.names []) C code builtinsNs X.env) (fp := fp) (pn := pn)
            exact ⟨trG_ok (X := DL.gblk X (Aw.deeper (genEnv scope (cloFrom X.env.cells scope.names []) C code builtinsNs X.env)) sc' H (genEnv scope (cloFrom X.env.cells scope.names []) C code builtinsNs X.env) fp pn) x.hN x.nd x.calm (StOk.gblk (N := X.N) gok) 8 ht, ih.f _ _ _ gi xi _ _ hcn, ih.e _ _ _ gi xi _ _ hme⟩
          rcases hf with rfl | rfl
          · exact de_gall (k := lev + 1) rm TB hP hcd gok (by rw [x.hN]; exact x.nd) x.calm (ih.i X sc big g x _ _ _ hi) (fun v => genFold_ok hl hi X.env v) (own_ix hsl) (x.gl hgl) (g.bi _ (by simp [bnames])) pp
          · exact de_gany (k := lev + 1) rm TB hP hcd gok (by rw [x.hN]; exact x.nd) x.calm (ih.i X sc big g x _ _ _ hi) (fun v => genFold_ok hl hi X.env v) (own_ix hsl) (x.gl hgl) (g.bi _ (by simp [bnames])) pp
        · cases h
      · split at h
        · rename_i hnt2 hh
          obtain ⟨hf, ⟨hb, hx⟩, ⟨hgl, hgc⟩, hl⟩ := hh
          obtain ⟨mi, hi, h⟩ := Option.bind_eq_some_iff.mp h
          obtain ⟨t, ht, h⟩ := Option.bind_eq_some_iff.mp h
          split at h
          · rename_i hsl
            obtain ⟨mc, hcn, h⟩ := Option.bind_eq_some_iff.mp h
            obtain ⟨me, hme, h⟩ := Option.bind_eq_some_iff.mp h
            cases h
            obtain ⟨rm, cA, P, TB, hP, hcd⟩ := x.gx hb hx
            have gok : GenOk X.N X.env.scope scope (ownOf N scope) := by rw [x.hN, x.hsc]; exact genOk_by hgc
            have pp : ∀ (Aw : Around) (sc' : Shared) (H : Hp) (C : Addr) (code : Value) (fp : List Addr) (pn : List (Addr × Obj)), Room (lev + 1) Aw → Aw.frames = some X.stack →
                DG (DL.gblk X (Aw.deeper (genEnv scope (cloFrom X.env.cells scope.names []) C code builtinsNs X.env)) sc' H (genEnv scope (cloFrom X.env.cells scope.names []) C code builtinsNs X.env) fp pn) tg t ∧
                PTs (DL.gblk X (Aw.deeper (genEnv scope (cloFrom X.env.cells scope.names []) C code builtinsNs X.env)) sc' H (genEnv scope (cloFrom X.env.cells scope.names []) C code builtinsNs X.env) fp pn) ifs (tDT X.K tb (wT X' G mc)) ∧
                DE (DL.gblk X (Aw.deeper (genEnv scope (cloFrom X.env.cells scope.names []) C code builtinsNs X.env)) sc' H (genEnv scope (cloFrom X.env.cells scope.names []) C code builtinsNs X.env) fp pn) tb X' G elt me := fun Aw sc' H C code fp pn hw hf => by
              have gi := g.gblk (sc' := sc') (H := H) (genv := genEnv scope (cloFrom X.env.cells scope.names []) C code builtinsNs X.env) (fp := fp) (pn := pn) (hw.deeper (genEnv scope (cloFrom X.env.cells scope.names []) C code builtinsNs X.env))
              have xi := x.gblk (Aw := Aw.deeper (genEnv scope (cloFrom X.env.cells scope.names []) C code builtinsNs X.env)) (sc' := sc') (H := H) (genv := genEnv scope (cloFrom X.env.cells scope.names []) C code builtinsNs X.env) (fp := fp) (pn := pn)
              exact ⟨trG_ok (X := DL.gblk X (Aw.deeper (genEnv scope (cloFrom X.env.cells scope.names []) C code builtinsNs X.env)) sc' H (genEnv scope (cloFrom X.env.cells scope.names []) C code builtinsNs X.env) fp pn) x.hN x.nd x.calm (StOk.gblk (N := X.N) gok) 8 ht, ih.f _ _ _ gi xi _ _ hcn, ih.e _ _ _ gi xi _ _ hme⟩
            subst hf
            exact de_gsum (k := lev + 1) rm TB hP hcd gok (by rw [x.hN]; exact x.nd) x.calm (ih.i X sc big g x _ _ _ hi) (fun v => genFold_ok hl hi X.env v) (own_ix hsl) (x.gl hgl) (g.bi _ (by simp [bnames])) pp
          · cases h
        · cases h
  · -- Call of a name
    rename_i f p args kws pos hno
    split at h
    · rename_i hfl
      rw [Bool.and_eq_true] at hfl
      obtain ⟨hok, hgl⟩ := hfl
      obtain ⟨d1, d2⟩ := okN_d hok
      split at h
      · -- a def
        rename_i i hf
        obtain ⟨q0, q1, q2, q3, q4⟩ := g.fn _ _ hf
        split at h
        · obtain ⟨a, ha, rfl⟩ := Option.map_eq_some_iff.mp h
          cases args with
          | nil =>
            cases ha
            exact de_call0 q4 q0 g.room (x.gl hgl) q1 q2 q3 d1
          | cons e1 es =>
            have ha0 := ha
            unfold trL at ha
            obtain ⟨m1, h1, ha⟩ := Option.bind_eq_some_iff.mp ha
            obtain ⟨m2, h2, ha⟩ := Option.bind_eq_some_iff.mp ha
            exact de_call q4 q0 g.room (x.gl hgl) q1 q2 q3 (da_of E ha0) d1 (trE_star h1 es X.env) (trL_plain h2 X.env pos)
        · rename_i kws hne
          obtain ⟨kp, hkp, h⟩ := Option.bind_eq_some_iff.mp h
          obtain ⟨a, ha, h⟩ := Option.bind_eq_some_iff.mp h
          obtain ⟨k, hk, h⟩ := Option.bind_eq_some_iff.mp h
          cases h
          obtain ⟨j, pr, e, hj⟩ := kwIx_get hkp
          rw [Nat.zero_add] at e
          subst e
          obtain ⟨k1, k2⟩ := g.kw _ _ _ _ _ hj
          obtain ⟨n1, n2, n3⟩ := trK_names hk X.env pos
          cases args with
          | nil =>
            cases ha
            refine de_callK0 q4 q0 g.room (x.gl hgl) q1 q2 k1 k2 (dk_of E hk) n1 n2 d1 ?_
            rw [n3, Bool.or_false]
            rfl
          | cons e1 es =>
            have ha0 := ha
            unfold trL at ha
            obtain ⟨m1, h1, ha⟩ := Option.bind_eq_some_iff.mp ha
            obtain ⟨m2, h2, ha⟩ := Option.bind_eq_some_iff.mp ha
            refine de_callK q4 q0 g.room (x.gl hgl) q1 q2 k1 k2 (da_of E ha0) (dk_of E hk) n1 n2 d1 (trE_star h1 es X.env) ?_
            rw [trE_star h1 es X.env, n3, Bool.or_false]
            show (false || (backTo pos (starEach es X.env)).any (·.1)) = false
            rw [trL_plain h2, Bool.or_false]
      · -- a built-in
        split at h
        · rename_i a e2
          split at h
          · rename_i e1
            subst e1
            split at h
            · rename_i t p2
              split at h
              · rename_i hg2
                obtain ⟨t', ht, h⟩ := Option.bind_eq_some_iff.mp h
                obtain ⟨m1, h1, rfl⟩ := Option.map_eq_some_iff.mp h
                obtain rfl := tns_ok ht
                exact de_isi (x.gl hgl) (g.bi _ str_isi) (x.gl hg2) (g.bi _ (tn_in t')) (E _ _ h1) (trE_star h1 _ X.env)
              · cases h
            · cases h
          · obtain ⟨b, hb, h⟩ := Option.bind_eq_some_iff.mp h
            obtain ⟨m1, h1, h⟩ := Option.bind_eq_some_iff.mp h
            obtain ⟨m2, h2, h⟩ := Option.bind_eq_some_iff.mp h
            cases h
            obtain rfl := bis2_ok hb
            exact de_bi x.calm (x.gl hgl) (g.bi _ (bi_in b)) (da_cons (E _ _ h1) (da_cons (E _ _ h2) da_nil (trE_star h2 [] X.env)) (trE_star h1 [e2] X.env)) (trE_star h1 [e2] X.env) (by rw [trE_star h2 [] X.env]; rfl)
        · rename_i a
          split at h
          · rename_i ef
            subst ef
            obtain ⟨m1, h1, rfl⟩ := Option.map_eq_some_iff.mp h
            exact de_dsort x.calm (hu64 g) (x.gl hgl) (g.bi _ (by simp [bnames])) (E _ _ h1) (trE_star h1 [] X.env)
          split at h
          · rename_i ef
            obtain ⟨ef, _⟩ := ef
            subst ef
            obtain ⟨m1, h1, rfl⟩ := Option.map_eq_some_iff.mp h
            exact de_dlist x.calm (x.gl hgl) (g.bi _ (by simp [bnames])) (E _ _ h1) (trE_star h1 [] X.env)
          split at h
          · rename_i ef
            obtain ⟨ef, _⟩ := ef
            subst ef
            obtain ⟨y, hy, h⟩ := Option.bind_eq_some_iff.mp h
            split at h
            · rename_i hg2
              obtain ⟨m1, h1, rfl⟩ := Option.map_eq_some_iff.mp h
              obtain ⟨b, p2⟩ := y
              obtain ⟨p3, rfl⟩ := rngArg_ok hy
              exact de_trng x.calm (x.gl hgl) (g.bi _ (by simp [bnames])) (x.gl hg2) (g.bi _ str_range) (E _ _ h1) (trE_star h1 [] X.env)
            · cases h
          obtain ⟨b, hb, h⟩ := Option.bind_eq_some_iff.mp h
          obtain ⟨m1, h1, rfl⟩ := Option.map_eq_some_iff.mp h
          obtain rfl := bis_ok hb
          have key : ∀ b' : BI, b'.nm = b.nm → DE X tb X' G (.Call (.Name b.nm p) [a] [] pos) (.bi b' (.cons m1 .nil)) := fun b' eb => by
            rw [← eb]
            exact de_bi x.calm (by rw [eb]; exact x.gl hgl) (g.bi _ (bi_in b')) (da_cons (E _ _ h1) da_nil (trE_star h1 [] X.env)) (trE_star h1 [] X.env) rfl
          exact key _ (bi_set b _)
        · cases h
    · cases h
  · -- a method
    rename_i o m' apos args pos
    split at h
    · rename_i hl
      rw [Bool.and_eq_true, Bool.and_eq_true] at hl
      obtain ⟨l0, l1, l2⟩ := hl
      split at h
      · rename_i em
        subst em
        split at h
        · rename_i b c
          obtain ⟨m1, h1, h⟩ := Option.bind_eq_some_iff.mp h
          obtain ⟨m2, h2, h⟩ := Option.bind_eq_some_iff.mp h
          obtain ⟨m3, h3, h⟩ := Option.bind_eq_some_iff.mp h
          cases h
          have st : starEach [b, c] X.env = [(false, eval b X.env), (false, eval c X.env)] := by rw [trE_star h2, trE_star h3]; rfl
          exact de_dgeto (hu64 g) (E _ _ h1) (E _ _ h2) (E _ _ h3) ⟨base_ok l0 _ _, by rw [st]; rfl, l1, by rw [st]; rfl⟩
        · cases h
      obtain ⟨lm, hlm, h⟩ := Option.bind_eq_some_iff.mp h
      obtain ⟨mo, ho, h⟩ := Option.bind_eq_some_iff.mp h
      obtain ⟨a, ha, rfl⟩ := Option.map_eq_some_iff.mp h
      obtain rfl := lms_ok hlm
      cases args with
      | nil =>
        cases ha
        exact de_meth0 (E _ _ ho) (base_ok l0 _ _) l1
      | cons e1 es =>
        have ha0 := ha
        unfold trL at ha
        obtain ⟨m1, h1, ha⟩ := Option.bind_eq_some_iff.mp ha
        obtain ⟨m2, h2, ha⟩ := Option.bind_eq_some_iff.mp ha
        refine de_meth (E _ _ ho) (da_of E ha0) (base_ok l0 _ _) ?_ l1 (trE_star h1 es X.env) (trL_plain h2 X.env pos)
        rw [trL_allF ha0 X.env pos]
        have l3 : (e1 :: es).length < 28 := of_decide_eq_true l2
        rw [Bool.true_and]
        show (true && decide ((e1 :: es).length + 0 + 0 < 30)) = true
        rw [Bool.true_and]
        exact decide_eq_true (by omega)
    · cases h
  · cases h

theorem trT_step {n : Nat} (ih : TrOk tb T X' G Md lev N n) (X : Cx) (sc : Scope) (big : Bool) (g : GOk X tb T X' G Md lev) (x : XOk X tb lev N sc big) (e : Expr) (m : M) (h : trT T N (n + 1) big sc e = some m) : DT X tb X' G e m := by
  have E := ih.e X sc big g x
  have TT := ih.t X sc big g x
  unfold trT at h
  split at h
  · obtain ⟨a, ha, rfl⟩ := Option.map_eq_some_iff.mp h
    exact dt_not (TT _ _ ha)
  · exact (fold_andT TT h).pt
  · exact (fold_orT TT h).pt
  · obtain ⟨o', ho, h⟩ := Option.bind_eq_some_iff.mp h
    obtain ⟨m1, h1, h⟩ := Option.bind_eq_some_iff.mp h
    obtain ⟨m2, h2, h⟩ := Option.bind_eq_some_iff.mp h
    cases h
    obtain rfl := co_op ho
    exact dt_cmp (hu64 g) (trE_mark h2 _) (E _ _ h1) (E _ _ h2)
  · obtain ⟨o', ho, h⟩ := Option.bind_eq_some_iff.mp h
    obtain ⟨o2', ho2, h⟩ := Option.bind_eq_some_iff.mp h
    obtain ⟨m1, h1, h⟩ := Option.bind_eq_some_iff.mp h
    obtain ⟨m2, h2, h⟩ := Option.bind_eq_some_iff.mp h
    obtain ⟨m3, h3, h⟩ := Option.bind_eq_some_iff.mp h
    cases h
    obtain rfl := co_op ho
    obtain rfl := co_op ho2
    exact dt_chain (hu64 g) (trE_mark h3 _) (E _ _ h1) (E _ _ h2) (E _ _ h3)
  · split at h
    · cases h
    · rename_i ht
      obtain ⟨a, ha, rfl⟩ := Option.map_eq_some_iff.mp h
      exact dt_tv (E _ _ ha) (isTrue_of (Bool.eq_false_iff.mpr ht) X.env)
theorem trI_step {n : Nat} (ih : TrOk tb T X' G Md lev N n) (X : Cx) (sc : Scope) (big : Bool) (g : GOk X tb T X' G Md lev) (x : XOk X tb lev N sc big) (tg e : Expr) (m : M) (h : trI T N (n + 1) big sc tg e = some m) : DI X tb X' G tg e m := by
  have E := ih.e X sc big g x
  unfold trI at h
  split at h
  · rename_i f p a pos
    split at h
    · rename_i ef
      subst ef
      split at h
      · rename_i hg
        obtain ⟨m1, h1, rfl⟩ := Option.map_eq_some_iff.mp h
        exact di_rng1 (x.gl hg) (g.bi _ str_range) (E _ _ h1) (trE_star h1 [] X.env)
      · cases h
    · split at h
      · rename_i ef
        subst ef
        split at h
        · split at h
          · rename_i hg
            obtain ⟨m1, h1, rfl⟩ := Option.map_eq_some_iff.mp h
            exact di_enum (x.gl hg) (g.bi _ (by simp [bnames])) (E _ _ h1) (trE_star h1 [] X.env)
          · cases h
        · cases h
      · obtain ⟨m1, h1, rfl⟩ := Option.map_eq_some_iff.mp h
        exact di_it (E _ _ h1)
  · rename_i f p a b pos
    split at h
    · rename_i ef
      subst ef
      split at h
      · rename_i hg
        obtain ⟨m1, h1, h⟩ := Option.bind_eq_some_iff.mp h
        obtain ⟨m2, h2, h⟩ := Option.bind_eq_some_iff.mp h
        cases h
        exact di_rng2 (x.gl hg) (g.bi _ str_range) (E _ _ h1) (E _ _ h2) (by rw [trE_star h1, trE_star h2]; rfl) (by rw [trE_star h2]; rfl)
      · cases h
    · split at h
      · rename_i ef
        subst ef
        split at h
        · split at h
          · rename_i hg
            obtain ⟨m1, h1, h⟩ := Option.bind_eq_some_iff.mp h
            obtain ⟨m2, h2, h⟩ := Option.bind_eq_some_iff.mp h
            cases h
            exact di_zipG (x.gl hg) (g.bi _ str_zip) (E _ _ h1) (E _ _ h2) (trE_star h1 _ _) (trE_star h2 _ _)
          · cases h
        · cases h
      · obtain ⟨m1, h1, rfl⟩ := Option.map_eq_some_iff.mp h
        exact di_it (E _ _ h1)
  · obtain ⟨m1, h1, rfl⟩ := Option.map_eq_some_iff.mp h
    exact di_it (E _ _ h1)
theorem tr_ok : ∀ n : Nat, TrOk tb T X' G Md lev N n
  | 0 => ⟨fun _ _ _ _ _ _ _ h => (by cases h), fun _ _ _ _ _ _ _ h => (by cases h), fun _ _ _ _ _ _ _ h => (by cases h), fun _ _ _ _ _ _ _ h => (by cases h), fun _ _ _ _ _ _ _ _ h => (by cases h)⟩
  | n + 1 => by
    have ih := tr_ok n
    refine ⟨trE_step ih, trT_step ih, fun X sc big g x e m h => ?_, fun X sc big g x e m h => ?_, trI_step ih⟩
    · cases e with
      | none => cases h; exact do_none
      | some e =>
        obtain ⟨m1, h1, rfl⟩ := Option.map_eq_some_iff.mp h
        exact do_some (ih.e X sc big g x _ _ h1)
    · unfold trIf at h
      split at h
      · cases h
      · cases h; exact dts_nil
      · rename_i heq
        first | cases heq | skip
        exact dts_one (ih.t X _ _ g x _ _ h)
      · cases h
end
end DL

set_option Elab.async false
set_option linter.all false
set_option maxRecDepth 100000
set_option maxHeartbeats 16000000
/-! DL10: statements of the text, defs. -/
namespace DL
open PySem PySem.Spec PyProof.Rows L2 RZ
/-- an env of this scope -/
def env0 (sc : Scope) : Env := { scope := sc, locals := 0, globals := 0, cells := [], qual := "", func := none, code := .none, frame := none, builtins := 0 }
/-- how the model stores a pair or a triple -/
def swS (sc : Scope) (ts : List Expr) (e : Expr) : Option (Option (List Str)) := match swappedStores ts e (env0 sc) with
  | .pure r => some r
  | _ => none
theorem sw_of {env : Env} {ts : List Expr} {e : Expr} {r : Option (List Str)} (h : swS env.scope ts e = some r) : swappedStores ts e env = pure r := by
  have q : swappedStores ts e env = swappedStores ts e (env0 env.scope) := rfl
  rw [q]
  unfold swS at h
  split at h
  · rename_i heq
    cases h
    exact heq
  · cases h
/-- whether the model stores a comprehension on its own road -/
def swW (sc : Scope) (e : Expr) (tg : Expr) (line : Nat) : Option Bool := match swapsWith e (some tg) line (env0 sc) with
  | .pure r => some r
  | _ => none
theorem sww_of {env : Env} {e tg : Expr} {line : Nat} {r : Bool} (h : swW env.scope e tg line = some r) : swapsWith e (some tg) line env = pure r := by
  have q : swapsWith e (some tg) line env = swapsWith e (some tg) line (env0 env.scope) := rfl
  rw [q]
  unfold swW at h
  split at h
  · rename_i heq
    cases h
    exact heq
  · cases h
def isCall : Expr → Bool
  | .Call .. => true
  | _ => false
section
variable (T : Tab) (N : List Str)
def frzC (is : List Nat) (c : C) : C := is.foldr (fun i r => .seq (.frz i) r) c
def trCs (f : Stmt → Option C) : List Stmt → Option C
  | [] => some .done
  | s :: r => (f s).bind fun a => (trCs f r).bind fun b => some (frzC ((T.fzs.filter fun q => q.1 == s.pos.line).map (·.2)) (.seq a b))
/-- a call that may raise stands outermost -/
def hasX : Nat → Expr → Bool
  | 0, _ => false
  | _ + 1, .Call (.Name f _) _ _ _ => (match lkS f T.fns with | some i => T.rs.contains i | none => false)
  | n + 1, .IfExp _ a b _ => hasX n a || hasX n b
  | _, _ => false
def trX : Nat → Scope → Expr → Option M
  | 0, _, _ => none
  | n + 1, sc, e => match e with
    | .IfExp c a b _ => (trT T N n true sc c).bind fun x => (trX n sc a).bind fun y => (trX n sc b).bind fun z => some (.ite x y z)
    | .Call (.Name f _) (e1 :: es) [] _ => if okN f && glB sc f then (lkS f T.fns).bind fun i => (trL (trE T N n true sc) (e1 :: es)).map (.callX i) else none
    | .Call (.Name f _) args kws _ => if okN f && glB sc f then (lkS f T.fns).bind fun i => (kwIx i args.length (kwNames kws) T.kws 0).bind fun kp => (trL (trE T N n true sc) args).bind fun a => (trK (trE T N n true sc) kws).bind fun k => some (.callXK i a k kp) else none
    | e => (trE T N n true sc e).map .pl
/-- what a handler gives back -/
def trH : List Stmt → Option C
  | [.Return (some (.Constant (.bool b) _ _)) _] => some (.seq (.ret (.c (.bl b))) .done)
  | [.Return (some (.Constant .none _ _)) _] => some (.seq (.ret (.c .non)) .done)
  | [.Return (some (.Constant (.str x) _ _)) _] => some (.seq (.ret (.c (.str x))) .done)
  | [.Return (some (.Constant (.int i) _ _)) _] => some (.seq (.ret (.c (.int i))) .done)
  | _ => none
def trC : Nat → Scope → Stmt → Option C
  | 0, _, _ => none
  | n + 1, sc, st => match st with
    | .Assign [.Subscript a b sp] e pos => if swS sc [.Subscript a b sp] e = some none ∧ swW sc e (.Subscript a b sp) pos.line = some false then
        (trE T N n true sc a).bind fun ma => (trE T N n true sc b).bind fun mb => (trE T N n true sc e).bind fun me => some (if muAt T b.pos then .dput ma mb me else .sets ma mb me) else none
    | .Assign [.Tuple [.Name x px, .Name y py] kt pt] (.Tuple [a, b] k2 pt2) pos =>
      if swS sc [.Tuple [.Name x px, .Name y py] kt pt] (.Tuple [a, b] k2 pt2) = some (some [x, y]) then
        (if lclB sc x && lclB sc y then (ixS x N).bind fun i => (ixS y N).bind fun j => if i ≠ j then (trE T N n true sc a).bind fun ma => (trE T N n true sc b).bind fun mb => some (.swap i j ma mb) else none else none)
      else if swS sc [.Tuple [.Name x px, .Name y py] kt pt] (.Tuple [a, b] k2 pt2) = some none then
        (trG N sc 8 (.Tuple [.Name x px, .Name y py] kt pt)).bind fun t => (trE T N n true sc (.Tuple [a, b] k2 pt2)).bind fun me => some (.asg t me)
      else none
    | .Assign [.Tuple [.Name x px, .Name y py, .Name z pz] kt pt] (.Tuple [a, b, c] k2 pt2) pos =>
      if swS sc [.Tuple [.Name x px, .Name y py, .Name z pz] kt pt] (.Tuple [a, b, c] k2 pt2) = some (some [x, y, z]) then
        (if lclB sc x && (lclB sc y && lclB sc z) then (ixS x N).bind fun i => (ixS y N).bind fun j => (ixS z N).bind fun l => if i ≠ j ∧ i ≠ l ∧ j ≠ l then (trE T N n true sc a).bind fun ma => (trE T N n true sc b).bind fun mb => (trE T N n true sc c).bind fun mc => some (.swap3 i j l ma mb mc) else none else none)
      else if swS sc [.Tuple [.Name x px, .Name y py, .Name z pz] kt pt] (.Tuple [a, b, c] k2 pt2) = some none then
        (trG N sc 8 (.Tuple [.Name x px, .Name y py, .Name z pz] kt pt)).bind fun t => (trE T N n true sc (.Tuple [a, b, c] k2 pt2)).bind fun me => some (.asg t me)
      else none
    | .Assign [.Name y py] (.ListComp elt [⟨tg, it, ifs, 0⟩] scope p) pos =>
      (match swW sc (.ListComp elt [⟨tg, it, ifs, 0⟩] scope p) (.Name y py) pos.line with
      | some true => if lclB sc y then (ixS y N).bind fun i => (trE T N n true sc (.ListComp elt [⟨tg, it, ifs, 0⟩] scope p)).bind fun me => some (.asg (.n i) me) else none
      | some false => if swS sc [.Name y py] (.ListComp elt [⟨tg, it, ifs, 0⟩] scope p) = some none then (trG N sc 8 (.Name y py)).bind fun t => (trE T N n true sc (.ListComp elt [⟨tg, it, ifs, 0⟩] scope p)).bind fun me => some (.asg t me) else none
      | none => none)
    | .Assign [tg] e pos => if swS sc [tg] e = some none ∧ swW sc e tg pos.line = some false then (trG N sc 8 tg).bind fun t => if hasX T 8 e then (trX T N n sc e).bind fun me => some (.xasg t me) else (trE T N n true sc e).bind fun me => some (.asg t me) else none
    | .AugAssign (.Name x _) o e _ => if locB sc x then (ixS x N).bind fun i => (boOf true o).bind fun o' => (trE T N n true sc e).bind fun me => some (.augv i o' me) else none
    | .AugAssign (.Subscript a b _) o e _ => (trE T N n true sc a).bind fun ma => (trE T N n true sc b).bind fun mb => (boOf true o).bind fun o' => (trE T N n true sc e).bind fun me => some (.augs ma mb o' me)
    | .Return none _ => some .retN
    | .Return (some e) _ => if hasX T 8 e then (trX T N n sc e).map .xret else (trE T N n true sc e).map .ret
    | .Expr e _ => if isCall e then (if hasX T 8 e then (trX T N n sc e).map .xex else (trE T N n true sc e).map .ex) else none
    | .Raise (some (.Call (.Name x _) [] [] _)) none _ => if okN x && glB sc x then (lkS x T.excs).map .rai else none
    | .Try body [.ExceptHandler (some (.Name x _)) none (b0 :: suite) _] [] [] _ => if okN x && glB sc x then (lkS x T.excs).bind fun c => (T.subs.lookup c).bind fun cs => (trCs T (trC n sc) body).bind fun ca => (trH (b0 :: suite)).bind fun cb => some (.tr ca cs cb) else none
    | .If c a b _ => (trT T N n true sc c).bind fun mc => (trCs T (trC n sc) a).bind fun ca => (trCs T (trC n sc) b).bind fun cb => some (.ite mc ca cb)
    | .While c a [] _ => (trT T N n true sc c).bind fun mc => (trCs T (trC n sc) a).bind fun ca => some (.whl mc ca)
    | .For tg it a [] _ => (trI T N n true sc tg it).bind fun mi => (trG N sc 8 tg).bind fun t => (trCs T (trC n sc) a).bind fun ca => some (.for t mi ca)
    | .Pass _ => some .done
    | .Break _ => some .brk
    | .Continue _ => some .cont
    | _ => none
end
section
variable {tb : List Addr} {T : Tab} {X' : Mod'} {G : Fns} {Md : ModD} {lev : Nat} {N : List Str}
theorem lclB_l {sc : Scope} {x : Str} (h : lclB sc x = true) : sc.names.lookup x = some .local := by
  unfold lclB at h
  split at h <;> first | assumption | cases h
theorem dss_frzC {X : Cx} {W : XW} {sts : List Stmt} {c : C} (is : List Nat) (h : DSs X tb X' G W sts c) : DSs X tb X' G W sts (frzC is c) := by
  induction is with
  | nil => exact h
  | cons i r ih => exact dss_frz ih
theorem dss_of {X : Cx} {W : XW} {f : Stmt → Option C} (ih : ∀ s c, f s = some c → DS X tb X' G W s c) : ∀ {ss : List Stmt} {c : C}, trCs T f ss = some c → DSs X tb X' G W ss c
  | [], c, h => by cases h; exact dss_nil
  | s :: r, c, h => by
    unfold trCs at h
    obtain ⟨a, ha, h⟩ := Option.bind_eq_some_iff.mp h
    obtain ⟨b, hb, h⟩ := Option.bind_eq_some_iff.mp h
    cases h
    exact dss_frzC _ (dss_cons (ih _ _ ha) (dss_of ih hb))
theorem trE_sub {n : Nat} {big : Bool} {sc : Scope} {a b : Expr} {m : M} {sp : Pos} (h : trE T N n big sc b = some m) (env : Env) : ∀ v, assign (.Subscript a b sp) env v = (do
      let ov ← holding [v] (eval a env)
      let iv ← holding [v, ov] (eval b env)
      standAt sp
      holding [v, ov, iv] (setItem ov iv v)
      release [v, ov, iv] []) := by
  cases n with
  | zero => cases h
  | succ n => cases b <;> first | (intro v; rfl) | (simp [trE] at h)
theorem swE {e : Expr} (h : isCall e = true) (line : Nat) (env : Env) : swapsWith e none line env = pure false := by
  cases e <;> first | (cases h; done) | rfl
theorem GOk.tr {X : Cx} (g : GOk X tb T X' G Md lev) (pn : List (Addr × Obj)) (xe : Value → Shared → Prop) : GOk (X.tr pn xe) tb T X' G Md lev := ⟨g.fn, g.fx, g.ex, g.kw, g.ct, g.bi, g.room⟩
theorem Seer.tr {X : Cx} (g : Seer X) (pn : List (Addr × Obj)) (xe : Value → Shared → Prop) : Seer (X.tr pn xe) := ⟨g.ns, g.tree, g.stk, g.dep⟩
theorem XOk.tr {X : Cx} {sc : Scope} {big : Bool} (x : XOk X tb lev N sc big) (pn : List (Addr × Obj)) (xe : Value → Shared → Prop) : XOk (X.tr pn xe) tb lev N sc big := ⟨x.gx, x.hN, x.nd, x.hsc, x.calm, fun h => (x.py h).tr pn xe⟩
theorem trX_ok (X : Cx) (W : XW) (sc : Scope) (g : GOk X tb T X' G Md lev) (x : XOk X tb lev N sc true) (hW : W.c = Md.xc) (tk : Takes X W.w) : ∀ (n : Nat) (e : Expr) (m : M), trX T N n sc e = some m → DX X tb X' G W e m
  | 0, _, _, h => by cases h
  | n + 1, e, m, h => by
    have ih := trX_ok X W sc g x hW tk n
    have E := (tr_ok n).e X sc true g x
    have TT := (tr_ok n).t X sc true g x
    unfold trX at h
    split at h
    · obtain ⟨mc, hc, h⟩ := Option.bind_eq_some_iff.mp h
      obtain ⟨ma, ha, h⟩ := Option.bind_eq_some_iff.mp h
      obtain ⟨mb, hb, h⟩ := Option.bind_eq_some_iff.mp h
      cases h
      exact dx_ite (TT _ _ hc) (ih _ _ ha) (ih _ _ hb)
    · split at h
      · rename_i f p1 e1 es pos hfl
        rw [Bool.and_eq_true] at hfl
        obtain ⟨hok, hgl⟩ := hfl
        obtain ⟨d1, d2⟩ := okN_d hok
        obtain ⟨i, hf, h⟩ := Option.bind_eq_some_iff.mp h
        obtain ⟨a, ha, rfl⟩ := Option.map_eq_some_iff.mp h
        obtain ⟨q0, q1, q2, q3, _⟩ := g.fn _ _ hf
        have q4 := g.fx _ _ hf
        rw [← hW] at q4
        have ha0 := ha
        unfold trL at ha
        obtain ⟨m1, h1, ha⟩ := Option.bind_eq_some_iff.mp ha
        obtain ⟨m2, h2, ha⟩ := Option.bind_eq_some_iff.mp ha
        exact dx_call tk q4 g.room (x.gl hgl) q1 q2 q3 (da_of E ha0) d1 (trE_star h1 es X.env) (trL_plain h2 X.env pos)
      · cases h
    · split at h
      · rename_i f p1 args kws pos _ hfl
        rw [Bool.and_eq_true] at hfl
        obtain ⟨hok, hgl⟩ := hfl
        obtain ⟨d1, d2⟩ := okN_d hok
        obtain ⟨i, hf, h⟩ := Option.bind_eq_some_iff.mp h
        obtain ⟨kp, hkp, h⟩ := Option.bind_eq_some_iff.mp h
        obtain ⟨a, ha, h⟩ := Option.bind_eq_some_iff.mp h
        obtain ⟨k, hk, h⟩ := Option.bind_eq_some_iff.mp h
        cases h
        obtain ⟨q0, q1, q2, q3, _⟩ := g.fn _ _ hf
        have q4 := g.fx _ _ hf
        rw [← hW] at q4
        obtain ⟨j, pr, e, hj⟩ := kwIx_get hkp
        rw [Nat.zero_add] at e
        subst e
        obtain ⟨k1, k2⟩ := g.kw _ _ _ _ _ hj
        obtain ⟨n1, n2, n3⟩ := trK_names hk X.env pos
        cases args with
        | nil =>
          cases ha
          refine dx_callK0 tk q4 g.room (x.gl hgl) q1 q2 k1 k2 (dk_of E hk) n1 n2 d1 ?_
          rw [n3, Bool.or_false]
          rfl
        | cons e1 es =>
          have ha0 := ha
          unfold trL at ha
          obtain ⟨m1, h1, ha⟩ := Option.bind_eq_some_iff.mp ha
          obtain ⟨m2, h2, ha⟩ := Option.bind_eq_some_iff.mp ha
          refine dx_callK tk q4 g.room (x.gl hgl) q1 q2 k1 k2 (da_of E ha0) (dk_of E hk) n1 n2 d1 (trE_star h1 es X.env) ?_
          rw [trE_star h1 es X.env, n3, Bool.or_false]
          show (false || (backTo pos (starEach es X.env)).any (·.1)) = false
          rw [trL_plain h2, Bool.or_false]
      · cases h
    · obtain ⟨me, he, rfl⟩ := Option.map_eq_some_iff.mp h
      exact dx_pl (E _ _ he)
theorem trH_ok {X : Cx} {W : XW} {ss : List Stmt} {c : C} (h : trH ss = some c) : DSs X tb X' G W ss c := by
  unfold trH at h
  split at h <;> cases h
  · exact dss_cons (ds_ret de_bl) dss_nil
  · exact dss_cons (ds_ret de_non) dss_nil
  · exact dss_cons (ds_ret de_str) dss_nil
  · exact dss_cons (ds_ret de_int) dss_nil
theorem trC_ok (X : Cx) (W : XW) (sc : Scope) (g : GOk X tb T X' G Md lev) (x : XOk X tb lev N sc true) (st : StOk X sc) (hW : W.c = Md.xc) (tk : Takes X W.w) (hp : PassesOwn (model X.prog X.w) X.A X.env X.xe) (hs : X.stack = X.env :: X.outer) (hf : X.env.frame = some X.env.locals) : ∀ (n : Nat) (s : Stmt) (c : C), trC T N n sc s = some c → DS X tb X' G W s c
  | 0, _, _, h => by cases h
  | n + 1, s, c, h => by
    have ih := trC_ok X W sc g x st hW tk hp hs hf n
    have XX := trX_ok X W sc g x hW tk n
    have E := (tr_ok n).e X sc true g x
    have TT := (tr_ok n).t X sc true g x
    have nd : X.N.Nodup := by rw [x.hN]; exact x.nd
    have at_ : ∀ {y : Str} {i : Nat}, ixS y N = some i → X.N[i]? = some y := fun h => by rw [x.hN]; exact ixS_get h
    have GG : ∀ {tg : Expr} {t : TT'}, trG N sc 8 tg = some t → DG X tg t := fun h => trG_ok x.hN x.nd x.calm st 8 h
    have a1 : ∀ {tg : Expr} {t : TT'}, trG N sc 8 tg = some t → (assignEach [tg] X.env).map (·.2) = [assign tg X.env] := fun h => by rw [trG_star h]; rfl
    have S1 : ∀ {ts : List Expr} {e : Expr} {r : Option (List Str)}, swS sc ts e = some r → swappedStores ts e X.env = pure r := fun h => sw_of (by rw [x.hsc]; exact h)
    have S2 : ∀ {e tg : Expr} {l : Nat} {r : Bool}, swW sc e tg l = some r → swapsWith e (some tg) l X.env = pure r := fun h => sww_of (by rw [x.hsc]; exact h)
    have lc : ∀ {y : Str}, lclB sc y = true → X.env.scope.names.lookup y = some .local := fun h => by rw [x.hsc]; exact lclB_l h
    unfold trC at h
    split at h
    · split at h
      · rename_i hh
        obtain ⟨h1, h2⟩ := hh
        obtain ⟨ma, ha, h⟩ := Option.bind_eq_some_iff.mp h
        obtain ⟨mb, hb, h⟩ := Option.bind_eq_some_iff.mp h
        obtain ⟨me, he, h⟩ := Option.bind_eq_some_iff.mp h
        cases h
        split
        · exact ds_dput (hu64 g) (E _ _ ha) (E _ _ hb) (E _ _ he) (S2 h2) (S1 h1) (trE_sub hb X.env)
        · exact ds_sets (E _ _ ha) (E _ _ hb) (E _ _ he) (S2 h2) (S1 h1) (trE_sub hb X.env)
      · cases h
    · -- two
      split at h
      · rename_i h1
        split at h
        · rename_i hl
          rw [Bool.and_eq_true] at hl
          obtain ⟨i, hi, h⟩ := Option.bind_eq_some_iff.mp h
          obtain ⟨j, hj, h⟩ := Option.bind_eq_some_iff.mp h
          split at h
          · rename_i hij
            obtain ⟨ma, ha, h⟩ := Option.bind_eq_some_iff.mp h
            obtain ⟨mb, hb, h⟩ := Option.bind_eq_some_iff.mp h
            cases h
            exact ds_swap x.calm nd (at_ hi) (at_ hj) hij (lc hl.1) (lc hl.2) (E _ _ ha) (E _ _ hb) (trE_star ha _ _) (trE_star hb _ _) (S1 h1)
          · cases h
        · cases h
      · split at h
        · rename_i h1
          obtain ⟨t, ht, h⟩ := Option.bind_eq_some_iff.mp h
          obtain ⟨me, he, h⟩ := Option.bind_eq_some_iff.mp h
          cases h
          exact ds_asg (E _ _ he) (GG ht) rfl (S1 h1) (a1 ht)
        · cases h
    · -- three
      split at h
      · rename_i h1
        split at h
        · rename_i hl
          rw [Bool.and_eq_true, Bool.and_eq_true] at hl
          obtain ⟨i, hi, h⟩ := Option.bind_eq_some_iff.mp h
          obtain ⟨j, hj, h⟩ := Option.bind_eq_some_iff.mp h
          obtain ⟨l, hll, h⟩ := Option.bind_eq_some_iff.mp h
          split at h
          · rename_i hij
            obtain ⟨ma, ha, h⟩ := Option.bind_eq_some_iff.mp h
            obtain ⟨mb, hb, h⟩ := Option.bind_eq_some_iff.mp h
            obtain ⟨mc, hc, h⟩ := Option.bind_eq_some_iff.mp h
            cases h
            exact ds_swap3 x.calm nd (at_ hi) (at_ hj) (at_ hll) hij.1 hij.2.1 hij.2.2 (lc hl.1) (lc hl.2.1) (lc hl.2.2) (E _ _ ha) (E _ _ hb) (E _ _ hc) (trE_star ha _ _) (trE_star hb _ _) (trE_star hc _ _) (S1 h1)
          · cases h
        · cases h
      · split at h
        · rename_i h1
          obtain ⟨t, ht, h⟩ := Option.bind_eq_some_iff.mp h
          obtain ⟨me, he, h⟩ := Option.bind_eq_some_iff.mp h
          cases h
          exact ds_asg (E _ _ he) (GG ht) rfl (S1 h1) (a1 ht)
        · cases h
    · -- name = [..]
      rename_i y py elt tg it ifs scope p pos
      split at h
      · rename_i hw
        split at h
        · rename_i hl
          obtain ⟨i, hi, h⟩ := Option.bind_eq_some_iff.mp h
          obtain ⟨me, he, h⟩ := Option.bind_eq_some_iff.mp h
          cases h
          cases n with
          | zero => cases he
          | succ n =>
            unfold trE at he
            simp only at he
            split at he
            · rename_i hblk
              obtain ⟨mi, hmi, he⟩ := Option.bind_eq_some_iff.mp he
              obtain ⟨t, ht, he⟩ := Option.bind_eq_some_iff.mp he
              split at he
              · rename_i hsl
                obtain ⟨mc, hc, he⟩ := Option.bind_eq_some_iff.mp he
                obtain ⟨me, hme, he⟩ := Option.bind_eq_some_iff.mp he
                cases he
                have ihn := tr_ok (tb := tb) (T := T) (X' := X') (G := G) (Md := Md) (lev := lev) (N := N) n
                exact ds_setLc x.calm nd (at_ hi) (lc hl) (S2 hw) (ihn.i X sc true g x _ _ _ hmi) (by rw [x.hN, x.hsc]; exact blkOk_by hblk) (fun s H C cl fp => trG_ok (X := X.blk s H scope (compEnvC scope cl C X.env) fp) x.hN x.nd x.calm (StOk.blk x s H scope C cl fp) 8 ht) (own_ix hsl)
                  (fun s H C cl fp => ihn.f _ _ _ (g.blk s H scope _ fp) (x.blk s H scope C cl fp) _ _ hc) (fun s H C cl fp => ihn.e _ _ _ (g.blk s H scope _ fp) (x.blk s H scope C cl fp) _ _ hme) (trI_set hmi X.env)
              · cases he
            · cases he
        · cases h
      · rename_i hw
        split at h
        · rename_i h1
          obtain ⟨t, ht, h⟩ := Option.bind_eq_some_iff.mp h
          obtain ⟨me, he, h⟩ := Option.bind_eq_some_iff.mp h
          cases h
          exact ds_asg (E _ _ he) (GG ht) (S2 hw) (S1 h1) (a1 ht)
        · cases h
      · cases h
    · split at h
      · rename_i hh
        obtain ⟨h1, h2⟩ := hh
        obtain ⟨t, ht, h⟩ := Option.bind_eq_some_iff.mp h
        split at h
        · obtain ⟨me, he, h⟩ := Option.bind_eq_some_iff.mp h
          cases h
          exact ds_xasg (XX _ _ he) (GG ht) (S2 h2) (S1 h1) (a1 ht)
        · obtain ⟨me, he, h⟩ := Option.bind_eq_some_iff.mp h
          cases h
          exact ds_asg (E _ _ he) (GG ht) (S2 h2) (S1 h1) (a1 ht)
      · cases h
    · split at h
      · rename_i hl
        obtain ⟨i, hi, h⟩ := Option.bind_eq_some_iff.mp h
        obtain ⟨o', ho, h⟩ := Option.bind_eq_some_iff.mp h
        obtain ⟨me, he, h⟩ := Option.bind_eq_some_iff.mp h
        cases h
        obtain ⟨rfl, _⟩ := bo_op ho
        obtain ⟨q1, q2⟩ := st _ hl
        exact ds_augv (x.py rfl).room nd (at_ hi) q1 (E _ _ he) q2
      · cases h
    · obtain ⟨ma, ha, h⟩ := Option.bind_eq_some_iff.mp h
      obtain ⟨mb, hb, h⟩ := Option.bind_eq_some_iff.mp h
      obtain ⟨o', ho, h⟩ := Option.bind_eq_some_iff.mp h
      obtain ⟨me, he, h⟩ := Option.bind_eq_some_iff.mp h
      cases h
      obtain ⟨rfl, _⟩ := bo_op ho
      exact ds_augs (x.py rfl).room (E _ _ ha) (E _ _ hb) (E _ _ he) (trE_aug hb)
    · cases h; exact ds_retN
    · split at h
      · obtain ⟨me, he, rfl⟩ := Option.map_eq_some_iff.mp h
        exact ds_xret (XX _ _ he)
      · obtain ⟨me, he, rfl⟩ := Option.map_eq_some_iff.mp h
        exact ds_ret (E _ _ he)
    · split at h
      · rename_i hcl
        split at h
        · obtain ⟨me, he, rfl⟩ := Option.map_eq_some_iff.mp h
          exact ds_xex (XX _ _ he) (swE hcl _ _)
        · obtain ⟨me, he, rfl⟩ := Option.map_eq_some_iff.mp h
          exact ds_ex (E _ _ he) (swE hcl _ _)
      · cases h
    · split at h
      · rename_i hfl
        rw [Bool.and_eq_true] at hfl
        obtain ⟨hok, hgl⟩ := hfl
        obtain ⟨d1, d2⟩ := okN_d hok
        obtain ⟨c, hc, rfl⟩ := Option.map_eq_some_iff.mp h
        obtain ⟨nn, ⟨Ca, bm, B, nid, iid, e1, e2, e3, e4, e5, e6, e7⟩, _⟩ := g.ex _ _ hc
        exact ds_rai x.calm tk e2 e3 e4 e5 (raises_own e6 e7) (x.gl hgl) d1 (by rw [hW]; exact nn) (by rw [hW]; exact e1)
      · cases h
    · split at h
      · rename_i hfl
        rw [Bool.and_eq_true] at hfl
        obtain ⟨hok, hgl⟩ := hfl
        obtain ⟨d1, d2⟩ := okN_d hok
        obtain ⟨c, hc, h⟩ := Option.bind_eq_some_iff.mp h
        obtain ⟨cs, hcs, h⟩ := Option.bind_eq_some_iff.mp h
        obtain ⟨ca, ha, h⟩ := Option.bind_eq_some_iff.mp h
        obtain ⟨cb, hb, h⟩ := Option.bind_eq_some_iff.mp h
        cases h
        obtain ⟨nn, ⟨Ca, bm, B, nid, iid, e1, e2, e3, e4, e5, e6, e7⟩, cat⟩ := g.ex _ _ hc
        refine ds_try hs hf ⟨x.gl hgl, d1, .inl e4⟩ tk (fun c' hn => ?_) (fun W' pn xe eW tk' hp' => dss_of (trC_ok (X.tr pn xe) W' sc (g.tr pn xe) (x.tr pn xe) st (eW.trans hW) tk' hp' hs hf n) ha) fun a pn => trH_ok hb
        rw [hW] at hn ⊢
        rw [← e1]
        exact cat cs hcs c' hn
      · cases h
    · obtain ⟨mc, hc, h⟩ := Option.bind_eq_some_iff.mp h
      obtain ⟨ca, ha, h⟩ := Option.bind_eq_some_iff.mp h
      obtain ⟨cb, hb, h⟩ := Option.bind_eq_some_iff.mp h
      cases h
      exact ds_if (TT _ _ hc) (dss_of ih ha) (dss_of ih hb)
    · obtain ⟨mc, hc, h⟩ := Option.bind_eq_some_iff.mp h
      obtain ⟨ca, ha, h⟩ := Option.bind_eq_some_iff.mp h
      cases h
      exact ds_while hp (TT _ _ hc) (dss_of ih ha)
    · obtain ⟨mi, hi, h⟩ := Option.bind_eq_some_iff.mp h
      obtain ⟨t, ht, h⟩ := Option.bind_eq_some_iff.mp h
      obtain ⟨ca, ha, h⟩ := Option.bind_eq_some_iff.mp h
      cases h
      exact ds_for hp x.calm ((tr_ok n).i X sc true g x _ _ _ hi) (GG ht) (dss_of ih ha) (trI_set hi X.env)
    · cases h; exact ds_pass
    · cases h; exact ds_brk
    · cases h; exact ds_cont
    · cases h
end
end DL

set_option Elab.async false
set_option linter.all false
set_option maxRecDepth 100000
set_option maxHeartbeats 4000000
/-! DL11: the defs of the text keep their promises. -/
namespace DL
open PySem PySem.Spec PyProof.Rows L2 RZ

/-- a def as it is translated -/
structure DefI where
  x : Str
  st : Stmt
  N : List Str
  ps : List Str
  body : C
def DefI.fn (d : DefI) : FnD := ⟨d.ps.length, d.N.length, d.body⟩
section
variable {P : Program} {w : World} {K : PySem.W.Frag} {mg : Str → Option Value} {base : Heap} {tb : List Addr} {T : Tab} {X' : Mod'} {Md : ModD}
theorem stOk_cx {CX : CXT} {N : List Str} {qual : Str} {sc : Scope} {f : Addr} {cd : Value} {A : Around} {outer : List Env} {s : Shared} {H : Hp} {E : XK} : StOk (cxOf CX P w K mg base N qual sc f cd A outer s H E) sc := fun x h => ⟨locB_loc h, .inl rfl⟩
theorem start_env {Z : Addr → Prop} {S : Sto} {H : Hp} {N : List Str} {vs : List V} {ds : List D} (r : RepL K Z S H ds vs) : EnvR K Z S H (startD N.length ds) (start N vs) := by
  refine ⟨by rw [startD, L2.start, List.length_append, List.length_append, List.length_map, List.length_map, List.length_replicate, List.length_replicate, r.length], fun i d h => ?_⟩
  unfold startD at h
  unfold L2.start
  by_cases hi : i < ds.length
  · rw [List.getElem?_append_left (by simpa using hi), List.getElem?_map] at h
    obtain ⟨d', hd, e⟩ := Option.map_eq_some_iff.mp h
    cases e
    obtain ⟨v, h1, h2⟩ := r.get hd
    exact ⟨v, by rw [List.getElem?_append_left (by rw [List.length_map, ← r.length]; exact hi), List.getElem?_map, h1]; rfl, h2⟩
  · rw [List.getElem?_append_right (by simpa using hi), List.getElem?_replicate] at h
    split at h <;> cases h
/-- what is asked of the module and the defs -/
structure DefsOk (P : Program) (w : World) (K : PySem.W.Frag) (mg : Str → Option Value) (base : Heap) (tb : List Addr) (T : Tab) (X' : Mod') (Md : ModD) (fuel : Nat) (defs : List DefI) : Prop where
  gx : ∀ (i : Nat) (d : DefI), defs[i]? = some d → gxB d.N = true → ∃ cA P, GxR.TabB base mg cA P ∧ P ∈ tb ∧ (Md.fd i).code = .ref cA
  d : ∀ (i : Nat) (d : DefI), defs[i]? = some d → Fun K d.x d.x d.st (Md.fa i) (Md.fd i) ∧ FnScope d.N d.ps (defScope d.st) ∧ Md.ps i = d.ps ∧ trCs T (trC T d.N fuel (defScope d.st)) (defBody d.st) = some d.body
  len : defs.length ≤ 1000
  ex : ∀ x c, lkS x T.excs = some c → ExcOk K mg Md.xc T x c
  fn : ∀ x f, lkS x T.fns = some f → f < 1000 ∧ mg x = some (.ref (Md.fa f)) ∧ PySem.W.keepIn K (.ref (Md.fa f)) = true ∧ Binds K (Md.fd f) (Md.ps f) []
  kw : ∀ (kp f n : Nat) (ks : List Str) (p : List Nat), T.kws[kp]? = some (f, n, ks, p) → KBinds K (Md.fd f) (Md.ps f) ks (arr n ks.length p) (arr n ks.length p) ∧ X'.kps[kp]? = some (n, ks.length, p)
  ct : ∀ x i, lkS x T.consts = some i → ∃ (u : Value) (v : V) (d : D), mg x = some u ∧ RelV v u ∧ X'.consts[i]? = some d ∧ ∀ Z S H, Rep K Z S H d v
  bi : ∀ x ∈ bnames, mg x = none
  ns : base.NoSeer
  tree : P.given.tree = none
theorem defs_ok {fuel : Nat} {defs : List DefI} (O : DefsOk P w K mg base tb T X' Md fuel defs) : ∀ (k f : Nat) (r : Bool), f < 1000 → FnOk P w K mg base (L2.CX P w) (32 + 8 * k) (Md.fa f) (Md.fd f) (Md.ps f) (spD K tb Md.xc (callD X' (defs.map DefI.fn) k) (if r = true then f + 1000 else f))
  | 0, f, r, _ => ⟨fun vs H Q E h => by obtain ⟨_, _, _, _, _, _, _, h, _⟩ := h; exact h.elim, fun A outer s H args us vs Q E _ _ _ _ h => by obtain ⟨_, _, _, _, _, _, _, h, _⟩ := h; exact h.elim⟩
  | k + 1, f, r, hf => by
    have red : ∀ ds S Q, callD X' (defs.map DefI.fn) (k + 1) (if r = true then f + 1000 else f) ds S Q → ∃ fd, (defs.map DefI.fn)[f]? = some fd ∧ ds.length = fd.ps ∧
        wC X' (callD X' (defs.map DefI.fn) k) fd.body { nx := fun _ S1 => Give Q .non S1, rt := Give Q, bk := fun _ _ => False, ct := fun _ _ => False, xt := fun c _ S1 => r = true ∧ Give Q (.exc c) S1 } (startD fd.slots ds) S := fun ds S Q h => by
      cases r with
      | false =>
        have h : if f < 1000 then _ else _ := h
        rw [if_pos hf] at h
        obtain ⟨fd, h1, h2, h3⟩ := h
        refine ⟨fd, h1, h2, ?_⟩
        have e : (fun (c : Nat) (_ : Rho) (S1 : Sto) => (false = true ∧ Give Q (.exc c) S1)) = fun _ _ _ => False := by
          funext c ρ S1
          exact propext ⟨fun z => (Bool.false_ne_true z.1).elim, fun z => z.elim⟩
        rw [e]
        exact h3
      | true =>
        have h : if f + 1000 < 1000 then _ else _ := h
        rw [if_neg (by omega)] at h
        obtain ⟨fd, h1, h2, h3⟩ := h
        rw [if_pos rfl, show f + 1000 - 1000 = f by omega] at h1
        refine ⟨fd, h1, h2, ?_⟩
        have e : (fun (c : Nat) (_ : Rho) (S1 : Sto) => (true = true ∧ Give Q (.exc c) S1)) = fun c _ S1 => Give Q (.exc c) S1 := by
          funext c ρ S1
          exact propext ⟨fun z => z.2, fun z => ⟨rfl, z⟩⟩
        rw [e]
        exact h3
    have big : r = true → 1000 ≤ (if r = true then f + 1000 else f) := fun z => by rw [if_pos z]; omega
    cases hd : defs[f]? with
    | none =>
      have no : ∀ vs H Q E, ¬ spD K tb Md.xc (callD X' (defs.map DefI.fn) (k + 1)) (if r = true then f + 1000 else f) vs H Q E := fun vs H Q E h => by
        obtain ⟨_, _, _, _, _, _, _, h, _⟩ := h
        obtain ⟨fd, h, _⟩ := red _ _ _ h
        rw [List.getElem?_map, hd] at h
        cases h
      exact ⟨fun vs H Q E h => (no _ _ _ _ h).elim, fun A outer s H args us vs Q E _ _ _ _ h => (no _ _ _ _ h).elim⟩
    | some d =>
      obtain ⟨F, FS, hps, htr⟩ := O.d f d hd
      rw [hps]
      have ih := defs_ok O k
      rw [show 32 + 8 * (k + 1) = 39 + 8 * k + 1 by omega]
      have gx := O.gx f d hd
      obtain ⟨oc, od, kV, doc, pm, an, cdv, ct, osl, efd, lk, hcd⟩ := F.ex
      rw [efd] at gx ⊢
      rw [efd] at lk
      refine fn_of (k := 39 + 8 * k) lk hcd FS (fun vs H Q E h => ?_) fun A outer s H vs Q E hr h => ?_
      · obtain ⟨Z, ds, S, Qd, rr, _, _, h, _⟩ := h
        obtain ⟨fd, hf, hl, _⟩ := red _ _ _ h
        rw [List.getElem?_map, hd] at hf
        cases hf
        rw [← rr.length]; exact hl
      · obtain ⟨Z, ds, S, Qd, rr, sr, tt, h, aft, kx⟩ := h
        obtain ⟨fd, hf, hl, hw⟩ := red _ _ _ h
        rw [List.getElem?_map, hd] at hf
        cases hf
        have g : GOk (cxOf (L2.CX P w) P w K mg base d.N d.x (defScope d.st) (Md.fa f) cdv A outer s H E) tb T X' (callD X' (defs.map DefI.fn) k) Md (32 + 8 * k) :=
          ⟨fun x i hx => ⟨(O.fn x i hx).1, (O.fn x i hx).2.1, (O.fn x i hx).2.2.1, (O.fn x i hx).2.2.2, ih i false (O.fn x i hx).1⟩, fun x i hx => ih i true (O.fn x i hx).1, O.ex, O.kw, O.ct, O.bi, hr.mono (by omega)⟩
        have xo : XOk (cxOf (L2.CX P w) P w K mg base d.N d.x (defScope d.st) (Md.fa f) cdv A outer s H E) tb (32 + 8 * k) d.N (defScope d.st) true :=
          ⟨fun _ hx => ⟨hr.mono (by omega), gx hx⟩, rfl, FS.nd, rfl, rfl, fun _ => ⟨O.ns, O.tree, ⟨_, _, rfl, FS.gen, FS.co, rfl, rfl⟩, by have := hr.dp; show (A.deeper (envOfC d.x (defScope d.st) s.heap.objs.size (Md.fa f) cdv)).depth + 100 < recursionLimit; omega⟩⟩
        refine ⟨_, dss_of (trC_ok _ ⟨fun cls dd _ H => E cls dd H, Md.xc⟩ _ g xo stOk_cx rfl (takes_of rfl rfl rfl rfl) (passes_of rfl) rfl rfl fuel) htr, Z, _, S, _, ⟨start_env rr, sr, tt⟩, hw, ?_⟩
        refine ⟨fun ρ' S' σ' H' x m q => ?_, fun dd S' v H' x s' t' r' q => ?_, fun _ _ _ _ _ _ q => q.elim, fun _ _ _ _ _ _ q => q.elim, fun c ρ' S' σ' H' hn x m q => ?_⟩
        · obtain ⟨S2, d2, sub, fz, q⟩ := q
          exact aft _ _ _ _ (x.sub sub) (m.sto.sub sub) m.tab (Rep.frz m.sto sub fz .non) q
        · obtain ⟨S2, d2, sub, fz, q⟩ := q
          exact aft _ _ _ _ (x.sub sub) (s'.sub sub) t' (r'.frz s' sub fz) q
        · obtain ⟨hr1, S2, d2, sub, fz, q⟩ := q
          cases fz
          exact kx (big hr1) c S2 H' hn (x.sub sub) (m.sto.sub sub) m.tab q
end
end DL

set_option Elab.async false
set_option linter.all false
set_option maxRecDepth 100000
set_option maxHeartbeats 4000000
/-! DL12: the end: the law's def is called with the script. -/
namespace DL
open PySem PySem.Spec PyProof.Rows L2 RZ

/-- the heap as it is told at the end: the script locked unless it is the text's own, the tables, nothing else -/
noncomputable def endH (a : Addr) (own : Bool) (o : Obj) (xs : List V) (ts : List Addr) : Hp := fun b => if b = a ∧ own = false then some (.frz o (.lst xs)) else if b ∈ ts then some (.tbl #[]) else none
section
variable {P : Program} {w : World} {K : PySem.W.Frag} {mg mb : Str → Option Value} {k : Nat} {fa a : Addr} {cs : List (Addr × Addr)} {fd : FuncData} {x : Str} {sp : Sp} {t : Shared} {us : List Value} {zs : List Int}
theorem law_go (inK : K.In t.heap) (nG : t.heap.Ns mainGlobals mg) (nB : t.heap.Ns builtinsNs mb) (boot : ∀ y : Str, y ≠ "__name__" → mb y = bootBuiltins y) (noL : t.heap.NoLimit) (noS : t.heap.NoSeer) (g0 : t.gens = #[])
    (tabs : ∀ p ∈ cs, t.heap.get? p.2 = some { cls := .none, data := .fields #[] } ∧ K.lookup p.2 = none ∧ PySem.W.CodeHd t.heap p.1 p.2)
    (bmod : ∃ (m : Addr) (o : Obj), mg "__builtins__" = some (.ref m) ∧ m ≠ builtinsNs ∧ t.heap.get? m = some o ∧ o.cls = .type "module" ∧ o.dict = some builtinsNs ∧ o.data = .plain)
    (atA : t.heap.get? a = some { cls := .type "list", data := .seq us.toArray }) (hin : IntsAre us zs) (few : zs.length ≤ sizeLine) (room : Room k callerA)
    (F : ∀ b : Heap, K.In b → b.Ns mainGlobals mg → b.NoSeer → (∀ p ∈ cs, GxR.TabB b mg p.1 p.2) → FnOk P w K mg b (L2.CX P w) k fa fd [x] sp) (bnd : ∀ (s : Shared) (u : Value), BindsTo s fd ⟨[u], []⟩ [(x, u)])
    (prm : ∀ H : Hp, (∀ p ∈ cs, H p.2 = some (.tbl #[])) → ScrV K H a (zs.map V.int) → sp [.ref a] H (fun v _ => v = .bl true) E0) :
    codeAny (model P w) callerA (.call (.ref fa) ⟨[.ref a], []⟩) (fun r t' => r = .ok (.ret (.bool true)) ∧ OldK t.heap t'.heap ∧ t'.os = t.os ∧ AllBare t'.gens) t := by
  obtain ⟨ts, hts⟩ : ∃ ts, ts = cs.map (·.2) := ⟨_, rfl⟩
  obtain ⟨ob, hob⟩ : ∃ ob : Obj, ob = { cls := .type "list", data := .seq us.toArray } := ⟨_, rfl⟩
  obtain ⟨own, hown⟩ : ∃ own : Bool, own = (K.lookup a).isSome := ⟨_, rfl⟩
  have tabD : ∀ b ∈ ts, t.heap.get? b = some { cls := .none, data := .fields #[] } ∧ K.lookup b = none := fun b hb => by
    rw [hts] at hb
    obtain ⟨p, hp, rfl⟩ := List.mem_map.mp hb
    exact ⟨(tabs p hp).1, (tabs p hp).2.1⟩
  have isTab : ∀ p ∈ cs, p.2 ∈ ts := fun p hp => by rw [hts]; exact List.mem_map_of_mem hp
  have a_ts : a ∉ ts := fun hb => by
    have e := (tabD a hb).1
    rw [atA] at e
    have e' : Data.seq us.toArray _ = Data.fields #[] := congrArg Obj.data (Option.some.inj e)
    cases e'
  obtain ⟨H, hH⟩ : ∃ H : Hp, H = endH a own ob (zs.map V.int) ts := ⟨_, rfl⟩
  have H_ts : ∀ b ∈ ts, H b = some (.tbl #[]) := fun b hb => by
    rw [hH]
    unfold endH
    rw [if_neg (show ¬ (b = a ∧ own = false) from fun q => a_ts (q.1 ▸ hb)), if_pos hb]
  -- what is told of a place
  have kinds : ∀ b, H b = none ∨ (b ∈ ts ∧ H b = some (.tbl #[])) ∨ (b = a ∧ own = false ∧ H b = some (.frz ob (.lst (zs.map V.int)))) := fun b => by
    by_cases q1 : b = a ∧ own = false
    · exact .inr (.inr ⟨q1.1, q1.2, by rw [hH]; unfold endH; rw [if_pos q1]⟩)
    · by_cases q2 : b ∈ ts
      · exact .inr (.inl ⟨q2, H_ts b q2⟩)
      · exact .inl (by rw [hH]; unfold endH; rw [if_neg q1, if_neg q2])
  -- what is no list and no table is not told
  have quiet : ∀ {b : Addr} {o : Obj}, t.heap.get? b = some o → (∀ vs n, o.data ≠ .seq vs n) → (∀ ps, o.data ≠ .fields ps) → H b = none := fun {b o} e h1 h2 => by
    rcases kinds b with q | ⟨q, _⟩ | ⟨rfl, _, _⟩
    · exact q
    · rw [(tabD b q).1] at e
      cases e
      exact absurd rfl (h2 _)
    · rw [atA] at e
      cases e
      exact absurd rfl (h1 _ _)
  have shows : ∀ {b : Addr} {o : Obj}, t.heap.get? b = some o → (∀ vs n, o.data ≠ .seq vs n) → (∀ ps, o.data ≠ .fields ps) → (hidT t.heap H).get? b = some o := fun e h1 h2 => hidT_get e (quiet e h1 h2)
  have spaces : ∀ {b : Addr} {m : Str → Option Value}, t.heap.Ns b m → (hidT t.heap H).Ns b m := fun {b m} ⟨o, es, ep, e, d, r⟩ =>
    ⟨o, es, ep, shows e (fun _ _ z => by rw [d] at z; cases z) (fun _ z => by rw [d] at z; cases z), d, r⟩
  have inKb : K.In (hidT t.heap H) := fun b o e => hidT_get (inK b o e) (by
    rcases kinds b with q | ⟨q, _⟩ | ⟨rfl, q, _⟩
    · exact q
    · rw [(tabD b q).2] at e; cases e
    · rw [hown, e] at q; cases q)
  obtain ⟨bm, bo, m1, m2, m3, m4, m5, m6⟩ := bmod
  have bmShown : (hidT t.heap H).get? bm = some bo := shows m3 (fun _ _ z => by rw [m6] at z; cases z) (fun _ z => by rw [m6] at z; cases z)
  have modK : L2.Mod K mg (hidT t.heap H) := ⟨inKb, spaces nG, ⟨mb, spaces nB, boot⟩, let ⟨mc, q1, q2⟩ := noL; ⟨mc, spaces q1, q2⟩⟩
  have seer : (hidT t.heap H).NoSeer := by
    refine ⟨?_, ?_, ⟨mb, spaces nB, boot⟩, ⟨mg, bm, bo, spaces nG, m1, bmShown, m4, m5⟩⟩
    · obtain ⟨mc, q1, q2⟩ := noS.statics
      exact ⟨mc, spaces q1, q2⟩
    · obtain ⟨mc, q1, q2⟩ := noS.mods
      exact ⟨mc, spaces q1, q2⟩
  have tabB : ∀ p ∈ cs, GxR.TabB (hidT t.heap H) mg p.1 p.2 := fun p hp => by
    obtain ⟨q1, _, q2⟩ := tabs p hp
    refine ⟨?_, ⟨bm, bo, m1, m2, fun q => ?_, fun q => ?_, bmShown, m4, m5, m6⟩, fun q => ?_⟩
    · obtain ⟨o, ws, file, tf, flags, tg, inF, text, tt, e1, r1, r2, r3⟩ := q2
      refine ⟨o, ws, file, tf, flags, tg, inF, text, tt, hidT_get e1 ?_, r1, r2, r3⟩
      rcases kinds p.1 with z | ⟨z, _⟩ | ⟨z, _, _⟩
      · exact z
      · rw [(tabD _ z).1] at e1
        cases e1
        cases r2
        simp at r3
      · rw [z, atA] at e1
        cases e1
        cases r2
    · obtain ⟨o, es, ep, e, d, _⟩ := nG
      rw [← q, m3] at e
      cases e
      rw [m6] at d
      cases d
    · rw [q, q1] at m3
      cases m3
      cases m4
    · obtain ⟨o, es, ep, e, d, _⟩ := nG
      rw [q, q1] at e
      cases e
      cases d
  have len : us.length = zs.length := by rw [hin.length]
  have hok : HOk P w H t.heap := fun b u e => by
    rcases kinds b with z | ⟨z, z2⟩ | ⟨rfl, _, z2⟩
    · rw [z] at e; cases e
    · rw [z2] at e
      cases e
      exact (tabD b z).1
    · rw [z2] at e
      cases e
      rw [hob]
      exact ⟨atA, by rw [List.length_map]; exact few, us, _, vals_ints hin, atA⟩
  have scr : ScrV K H a (zs.map V.int) := by
    cases q : K.lookup a with
    | none =>
      rcases kinds a with z | ⟨z, _⟩ | ⟨_, _, z⟩
      · rw [q] at hown
        rw [hH, hown] at z
        unfold endH at z
        rw [if_pos ⟨rfl, rfl⟩] at z
        cases z
      · exact absurd z a_ts
      · exact .frz _ z
    | some o =>
      have e := inK a o q
      rw [atA] at e
      cases e
      exact .txt _ us.toArray _ q rfl rfl rfl (by rw [List.size_toArray, len]; exact few) (by simpa using vals_ints hin)
  have e0 : Env0 P w K mg (hidT t.heap H) callerA [] t H := ⟨rfl, modK, fun b o e => of_hidT e, Nat.le_of_eq (hidT_size _ _), trivial, fun b hb => absurd (show b ∈ ([] : List Addr) from hb) (by simp), hok, .of_eq g0⟩
  refine codeAny_mono ((F _ inKb (spaces nG) seer tabB).run callerA [] t H ⟨[.ref a], []⟩ [.ref a] [.ref a] _ _ room e0 (bnd t (.ref a)) (.cons rfl .nil) (prm H (fun p hp => H_ts _ (isTab p hp)) scr)) fun r t' hr => ?_
  match r, hr with
  | .error e, hr => obtain ⟨_, _, _, _, _, _, _, _, _, _, _, _, z⟩ := hr; exact z.elim
  | .ok (.ret u), hr =>
    obtain ⟨v, H', os, bare, un, hok', rv, ev⟩ := hr
    have ev' : v = .bl true := ev
    subst ev'
    obtain rfl : u = Value.bool true := rv
    have kept : ∀ b o, b ∉ ts → t.heap.get? b = some o → t'.heap.get? b = some o := fun b o nb e => by
      rcases kinds b with z | ⟨z, _⟩ | ⟨rfl, _, z⟩
      · exact un.keep b o e z (fun q => absurd (show b ∈ ([] : List Addr) from q) (by simp)) (by simp)
      · exact absurd z nb
      · obtain ⟨y1, _⟩ := hok b _ z
        obtain ⟨y2, _⟩ := hok' b _ (un.frzs b _ _ z)
        rw [e] at y1
        cases y1
        exact y2
    have more : ∀ b ∈ ts, ∃ ps : Array Value, t'.heap.get? b = some { cls := .none, data := .fields ps } := fun b hb => by
      obtain ⟨ps, z⟩ := un.tbls b #[] (H_ts b hb)
      exact ⟨_, hok' b _ z⟩
    refine ⟨rfl, ⟨fun b o e => ?_, fun b o e => ?_⟩, os, bare⟩
    · by_cases q : b ∈ ts
      · obtain ⟨ps, hps⟩ := more b q
        rw [hts] at q
        obtain ⟨p, hp, rfl⟩ := List.mem_map.mp q
        rw [(tabs p hp).1] at e
        cases e
        exact .inr (.inl ⟨((tabs p hp).2.2.tab (tabs p hp).1).isCodeTable, rfl, #[], ps, rfl, by rw [Array.empty_append]; exact hps⟩)
      · exact .inl (kept b o q e)
    · by_cases q : b ∈ ts
      · obtain ⟨ps, hps⟩ := more b q
        exact ⟨_, hps⟩
      · exact ⟨o, kept b o q e⟩
end

/-- what is known of the law's def behind the top -/
def LawD (l : PySem.W.OpenLaw) (w : World) (K : PySem.W.Frag) (k n : Nat) (x : Str) (mg : Str → Option Value) (fa : Addr) (h : Heap) : Prop :=
  ∃ (fd : FuncData) (cs : List (Addr × Addr)) (sp : Sp), (∀ p ∈ cs, h.get? p.2 = some { cls := .none, data := .fields #[] } ∧ K.lookup p.2 = none ∧ PySem.W.CodeHd h p.1 p.2) ∧ (∀ (s : Shared) (u : Value), BindsTo s fd ⟨[u], []⟩ [(x, u)]) ∧
    (∀ (H : Hp) (a : Addr) (zs : List Int), zs.length ≤ n → (∀ z ∈ zs, Builtin.Int.intBits z ≤ 1048576) → (∀ p ∈ cs, H p.2 = some (.tbl #[])) → ScrV K H a (zs.map V.int) → sp [.ref a] H (fun v _ => v = .bl true) E0) ∧
    ∀ b : Heap, K.In b → b.Ns mainGlobals mg → b.NoSeer → (∀ p ∈ cs, GxR.TabB b mg p.1 p.2) → FnOk l.prog w K mg b (L2.CX l.prog w) k fa fd [x] sp
/-- the tables of the code objects of the text's defs, as the head leaves them -/
def Recs (q : Program) (mg : Str → Option Value) (h : Heap) : Prop := ∀ d ∈ recsOf q, ∃ a o fd c P, mg d.name = some (.ref a) ∧ h.get? a = some o ∧ o.data = .func fd ∧ fd.code = .ref c ∧ h.IsCode c P #[] ∧ h.TableAt c P #[]
theorem walk_D {l : PySem.W.OpenLaw} {n k : Nat} {q : Program} {loose : List Str} {XP : (Str → Option Value) → Heap → Prop} {YP : World → Heap → Prop} {d : DefRec} {K : Params → PySem.W.Frag} {x : Str}
    (few : l.most = some n) (line : n ≤ sizeLine) (plain : d.params.defaults = []) (room : Room k callerA) (imps : importsNone q = true) (inK : ∀ (w : World) (h : Heap), YP w h → (K w.params).In h)
    (F : ∀ (w : World) (mg : Str → Option Value) (fa : Addr) (h : Heap), YP w h → (K w.params).In h → h.Ns mainGlobals mg → mg d.name = some (.ref fa) → Recs q mg h → LawD l w (K w.params) k n x mg fa h) :
    PySem.W.WalkO q loose XP YP l.row.toRowW d [] (fun f vs => PySem.call f vs) := by
  refine Att.attach_callB few plain fun w s t mg mb fa o pm cd doc a us zs G Y _ _ _ hmg hobj hints hlen hbits hg => ?_
  obtain ⟨fd, cs, sp, tabs, bnd, prm, hF⟩ := F w mg fa _ Y (inK w _ Y) G.T.g hmg G.T.tab
  exact law_go (inK w _ Y) G.T.g G.T.b G.T.builtins G.T.nolimit (G.T.seer imps) hg tabs G.T.bmain hobj hints (Nat.le_trans hlen line) room hF bnd fun H h1 h2 => prm H a zs hlen hbits h1 h2

theorem rep_ints {K : PySem.W.Frag} {Z : Addr → Prop} {S : Sto} {H : Hp} : ∀ zs : List Int, RepL K Z S H (zs.map D.int) (zs.map V.int)
  | [] => .nil
  | z :: zs => .cons (.int z) (rep_ints zs)
theorem tabs_nil {H : Hp} : Tabs [] H := fun P h => nomatch h
theorem tabs_of {H : Hp} {cs : List (Addr × Addr)} (h : ∀ p ∈ cs, H p.2 = some (.tbl #[])) : Tabs (cs.map (·.2)) H := fun P hP => by
  obtain ⟨p, hp, rfl⟩ := List.mem_map.mp hP
  exact ⟨#[], h p hp, trivial⟩
def S0 : Sto := fun _ => none
/-- the law's promise from its meaning -/
theorem sp_law {K : PySem.W.Frag} {G : Fns} {f : Nat} {H : Hp} {a : Addr} {zs : List Int} {tb : List Addr} {xc : XC} (hf : f < 1000) (t : Tabs tb H) (h : ScrV K H a (zs.map V.int)) (m : G f [.scr (zs.map .int)] S0 fun d _ => d = .bl true) : spD K tb xc G f [.ref a] H (fun v _ => v = .bl true) E0 :=
  ⟨fun _ => False, [.scr (zs.map .int)], S0, _, .cons (.scr h (rep_ints zs)) .nil, ⟨(fun _ _ e => by cases e), (fun _ z => z.elim), (fun _ _ e => by cases e)⟩, t, m, fun d S' v H' _ _ _ r e => by
    subst e
    cases r
    rfl, noX hf⟩
end DL

set_option Elab.async false
set_option linter.all false
set_option maxRecDepth 100000
set_option maxHeartbeats 4000000
/-! DL13: what is asked of a law's text, put together. -/
namespace DL
open PySem PySem.Spec PyProof.Rows L2 RZ

def FunAt (K : PySem.W.Frag) (d : DefI) : Prop := ∃ f fd, PySem.W.nsIn K mainGlobals d.x = some (some (.ref f)) ∧ Fun K d.x d.x d.st f fd
theorem funAt {K : PySem.W.Frag} {x : Str} {st : Stmt} {N ps : List Str} {body : C} {f : Addr} {oc : Value} {od an : Option Addr} {osl : Array (Option Value)} {kV doc pm cdv ct : Value} (a : PySem.W.nsIn K mainGlobals x = some (some (.ref f)))
    (l : K.lookup f = some ⟨oc, od, .func (PySem.W.fnOf x x (defArgs st) (defBody st) (defScope st) .none kV doc pm an cdv ct), osl⟩) (c : PySem.W.codeIn K cdv x = true) (k : PySem.W.keepIn K (.ref f) = true) : FunAt K ⟨x, st, N, ps, body⟩ :=
  ⟨f, _, a, fun_mk l c k⟩
theorem all_nil {α : Type} {P : α → Prop} : ∀ d ∈ ([] : List α), P d := fun d h => nomatch h
theorem all_cons {α : Type} {P : α → Prop} {a : α} {l : List α} (h : P a) (r : ∀ d ∈ l, P d) : ∀ d ∈ a :: l, P d := fun d hd => by
  rcases List.mem_cons.mp hd with e | e
  · rw [e]; exact h
  · exact r d e
theorem vals_perm {vs : List V} {us : List Value} (r : Vals vs us) : ∀ p : List Nat, Vals (permD p vs) (permD p us)
  | [] => .nil
  | i :: p => by
    have ih := vals_perm r p
    unfold permD at ih ⊢
    rw [List.filterMap_cons, List.filterMap_cons]
    cases e : vs[i]? with
    | none =>
      have : us[i]? = none := by
        rw [List.getElem?_eq_none_iff] at e ⊢; rw [← r.length]; exact e
      rw [this]; exact ih
    | some d =>
      obtain ⟨v, h1, h2⟩ := r.get e
      rw [h1]; exact .cons h2 ih
theorem vals_app {vs zs : List V} {us ws : List Value} (r : Vals vs us) (r2 : Vals zs ws) : Vals (vs ++ zs) (us ++ ws) := by
  induction r with
  | nil => exact r2
  | cons h _ ih => exact .cons h ih
theorem vals_arr {vs zs : List V} {us ws : List Value} (r : Vals vs us) (r2 : Vals zs ws) (n m : Nat) (p : List Nat) : Vals (arr n m p vs zs) (arr n m p us ws) := by
  unfold arr
  rw [r.length, r2.length]
  split
  · exact vals_perm (vals_app r r2) p
  · exact .nil
/-- how a call with keywords binds, from the def's head -/
theorem kbinds_mk {K : PySem.W.Frag} {fd : FuncData} {ps ks : List Str} {n m : Nat} {p : List Nat} (h0 : ps ≠ []) (h : ∀ us ws : List Value, us.length = n → ws.length = m → bindArgs fd ⟨us, ks.zip ws⟩ = pure (ps.zip (permD p (us ++ ws)))) : KBinds K fd ps ks (arr n m p) (arr n m p) :=
  ⟨fun s us ws _ hl => by
    unfold arr at hl ⊢
    by_cases q : us.length = n ∧ ws.length = m
    · rw [if_pos q] at hl ⊢
      exact .of_eq (h us ws q.1 q.2)
    · rw [if_neg q] at hl
      exact absurd (List.length_eq_zero_iff.mp hl.symm) h0, fun r r2 => vals_arr r r2 n m p⟩
theorem mg_free {K : PySem.W.Frag} {h : Heap} {mg : Str → Option Value} (X : K.In h) (G : h.Ns mainGlobals mg) {l : List Str} (z : ∀ x ∈ l, PySem.W.nsIn K mainGlobals x = some none) : ∀ x ∈ l, mg x = none := fun x hx => PySem.W.mg_none_of X G (z x hx)
/-- a constant of the module -/
def ConAt (K : PySem.W.Frag) (mg : Str → Option Value) (X' : Mod') (x : Str) (i : Nat) : Prop := ∃ (u : Value) (v : V) (d : D), mg x = some u ∧ RelV v u ∧ X'.consts[i]? = some d ∧ ∀ Z S H, Rep K Z S H d v
/-- a constant that is a pair of whole numbers -/
theorem conPair {K : PySem.W.Frag} {mg : Str → Option Value} {h : Heap} {X' : Mod'} {x : Str} {n : Nat} {a : Addr} {dd : Option Addr} {its : Array Value} {m : Nat} {sl : Array (Option Value)} {i j : Int} {t u : Tok} (KX : K.In h) (G : h.Ns mainGlobals mg) (e : PySem.W.nsIn K mainGlobals x = some (some (.ref a)))
    (l : K.lookup a = some ⟨.type "tuple", dd, .seq its m, sl⟩) (hi : its = #[.int i t, .int j u]) (hx : X'.consts[n]? = some (.tup [.int i, .int j])) : ConAt K mg X' x n := by
  subst hi
  refine ⟨_, .ref a, _, PySem.W.mg_of KX G e, rfl, hx, fun Z S H => .tup (vs := [.int i, .int j]) (.inr ⟨_, _, _, l, rfl, rfl, by rw [sizeLine_eq]; show 2 ≤ _; decide, ?_⟩) (.cons (.int i) (.cons (.int j) .nil))⟩
  exact .cons ⟨t, rfl⟩ (.cons ⟨u, rfl⟩ .nil)
/-- the law's frame -/
theorem law_frame {l : PySem.W.OpenLaw} {w : World} {K : PySem.W.Frag} {n m j : Nat} {x : Str} {mg : Str → Option Value} {fa : Addr} {h : Heap} {T : Tab} {X' : Mod'} {fuel : Nat} {defs : List DefI} {fs : List FnD} {dl : DefI}
    (cs : List (Addr × Addr)) (hcs : ∀ p ∈ cs, h.get? p.2 = some { cls := .none, data := .fields #[] } ∧ K.lookup p.2 = none ∧ PySem.W.CodeHd h p.1 p.2)
    (hgx : ∀ d ∈ defs, gxB d.N = true → ∀ f fd, mg d.x = some (.ref f) → Fun K d.x d.x d.st f fd → ∃ c P, fd.code = .ref c ∧ (c, P) ∈ cs)
    (KX : K.In h) (G : h.Ns mainGlobals mg) (hfa : mg dl.x = some (.ref fa)) (A : ∀ d ∈ defs, FunAt K d)
    (chk : ∀ d ∈ defs, FnScope d.N d.ps (defScope d.st) ∧ trCs T (trC T d.N fuel (defScope d.st)) (defBody d.st) = some d.body)
    (bnd : ∀ d ∈ defs, ∀ f fd, Fun K d.x d.x d.st f fd → Binds K fd d.ps [])
    (nm : (T.fns.all fun y => match defs[y.2]? with | some d => decide (d.x = y.1) | none => false) = true)
    (kw : ∀ (kp f n : Nat) (ks : List Str) (p : List Nat), T.kws[kp]? = some (f, n, ks, p) → X'.kps[kp]? = some (n, ks.length, p) ∧ ∀ d, defs[f]? = some d → ∀ fa fd, Fun K d.x d.x d.st fa fd → KBinds K fd d.ps ks (arr n ks.length p) (arr n ks.length p))
    (kwl : ∀ (kp f n : Nat) (ks : List Str) (p : List Nat), T.kws[kp]? = some (f, n, ks, p) → ∃ d, defs[f]? = some d)
    (hlen : defs.length ≤ 1000) (xc : XC) (hex : ∀ x c, lkS x T.excs = some c → ExcOk K mg xc T x c)
    (ct : ∀ x i, lkS x T.consts = some i → ConAt K mg X' x i) (bi : ∀ x ∈ bnames, PySem.W.nsIn K mainGlobals x = some none) (tree : l.prog.given.tree = none)
    (hj : defs[j]? = some dl) (hps : dl.ps = [x]) (bl : ∀ f fd, Fun K dl.x dl.x dl.st f fd → ∀ (s : Shared) (u : Value), BindsTo s fd ⟨[u], []⟩ [(x, u)]) (hfs : defs.map DefI.fn = fs)
    (sem : ∀ zs : List Int, zs.length ≤ n → (∀ z ∈ zs, Builtin.Int.intBits z ≤ 1048576) → callD X' fs m j [.scr (zs.map .int)] S0 fun d _ => d = .bl true) : LawD l w K (32 + 8 * m) n x mg fa h := by
  subst hfs
  have B : ∀ i : Nat, ∃ (f : Addr) (fd : FuncData), ∀ d : DefI, defs[i]? = some d → mg d.x = some (.ref f) ∧ Fun K d.x d.x d.st f fd := fun i => by
    cases e : defs[i]? with
    | none => exact ⟨0, default, fun d z => by cases z⟩
    | some d =>
      obtain ⟨f, fd, a, F⟩ := A d (List.mem_of_getElem? e)
      exact ⟨f, fd, fun d' z => by cases z; exact ⟨PySem.W.mg_of KX G a, F⟩⟩
  obtain ⟨Md, hMd, hxc⟩ : ∃ Md : ModD, (∀ (i : Nat) (d : DefI), defs[i]? = some d → mg d.x = some (.ref (Md.fa i)) ∧ Fun K d.x d.x d.st (Md.fa i) (Md.fd i) ∧ Md.ps i = d.ps) ∧ Md.xc = xc :=
    ⟨⟨fun i => (B i).choose, fun i => (B i).choose_spec.choose, fun i => (defs[i]?.map (·.ps)).getD [], xc⟩, fun i d e => ⟨((B i).choose_spec.choose_spec d e).1, ((B i).choose_spec.choose_spec d e).2, by show (defs[i]?.map (·.ps)).getD [] = d.ps; rw [e]; rfl⟩, rfl⟩
  obtain ⟨g1, g2, g3⟩ := hMd j dl hj
  have efa : fa = Md.fa j := by
    have := hfa.symm.trans g1
    cases this
    rfl
  subst efa
  have hj1 : j < 1000 := Nat.lt_of_lt_of_le (List.getElem?_eq_some_iff.mp hj).1 hlen
  refine ⟨Md.fd j, cs, spD K (cs.map (·.2)) Md.xc (callD X' (defs.map DefI.fn) m) j, hcs, bl _ _ g2, fun H a zs h1 h2 h4 h3 => sp_law hj1 (tabs_of h4) h3 (sem zs h1 h2), fun b Kb Gb seer htb => ?_⟩
  have O : DefsOk l.prog w K mg b (cs.map (·.2)) T X' Md fuel defs := by
    refine ⟨fun i d e hx => ?_, fun i d e => ?_, hlen, (by rw [hxc]; exact hex), fun y f e => ?_, fun kp f n ks p e => ?_, ct, mg_free KX G bi, seer, tree⟩
    · obtain ⟨q1, q2, _⟩ := hMd i d e
      obtain ⟨c, P, e1, e2⟩ := hgx d (List.mem_of_getElem? e) hx _ _ q1 q2
      exact ⟨c, P, htb _ e2, List.mem_map.mpr ⟨_, e2, rfl⟩, e1⟩
    · obtain ⟨_, q2, q3⟩ := hMd i d e
      have c := chk d (List.mem_of_getElem? e)
      exact ⟨q2, c.1, q3, c.2⟩
    · have q := List.all_eq_true.mp nm _ (lkS_mem e)
      simp only at q
      split at q
      · rename_i d hd
        have ex : d.x = y := of_decide_eq_true q
        obtain ⟨q1, q2, q3⟩ := hMd f d hd
        rw [ex] at q1
        exact ⟨Nat.lt_of_lt_of_le (List.getElem?_eq_some_iff.mp hd).1 hlen, q1, q2.kp, by rw [q3]; exact bnd d (List.mem_of_getElem? hd) _ _ q2⟩
      · cases q
    · obtain ⟨k1, k2⟩ := kw kp f n ks p e
      obtain ⟨d, hd⟩ := kwl kp f n ks p e
      obtain ⟨q1, q2, q3⟩ := hMd f d hd
      exact ⟨by rw [q3]; exact k2 d hd _ _ q2, k1⟩
  have := defs_ok O m j false hj1
  rw [g3, hps] at this
  exact this

/-- no table of a code object that is empty is written out -/
def noTab (K : PySem.W.Frag) : Bool := K.all fun p => match p.2 with | ⟨.none, none, .fields #[], #[]⟩ => false | _ => true
theorem noTab_none {K : PySem.W.Frag} {h : Heap} {P : Addr} (z : noTab K = true) (KX : K.In h) (e : h.get? P = some { cls := .none, data := .fields #[] }) : K.lookup P = none := by
  cases q : K.lookup P with
  | none => rfl
  | some o =>
    have e2 := KX P o q
    rw [e] at e2
    cases e2
    obtain ⟨l1, l2, el, _⟩ := List.lookup_eq_some_iff.mp q
    have := List.all_eq_true.mp z (P, { cls := .none, data := .fields #[] }) (by rw [el]; simp)
    exact absurd (show false = true from this) Bool.false_ne_true
/-- the tables of these defs -/
theorem gx_tabs {q : Program} {K : PySem.W.Frag} {mg : Str → Option Value} {h : Heap} (R : Recs q mg h) (KX : K.In h) (z : noTab K = true) : ∀ (xs : List Str), (xs.all fun x => (recsOf q).any fun d => d.name == x) = true →
    ∃ cs : List (Addr × Addr), (∀ p ∈ cs, h.get? p.2 = some { cls := .none, data := .fields #[] } ∧ K.lookup p.2 = none ∧ PySem.W.CodeHd h p.1 p.2) ∧ ∀ x ∈ xs, ∀ f o fd, mg x = some (.ref f) → h.get? f = some o → o.data = .func fd → ∃ c P, fd.code = .ref c ∧ (c, P) ∈ cs
  | [], _ => ⟨[], (fun p h => nomatch h), fun x h => nomatch h⟩
  | x :: xs, hn => by
    rw [List.all_cons, Bool.and_eq_true] at hn
    obtain ⟨cs, h1, h2⟩ := gx_tabs R KX z xs hn.2
    obtain ⟨d, hd, hx⟩ := List.any_eq_true.mp hn.1
    have hx : d.name = x := beq_iff_eq.mp hx
    obtain ⟨a, o, fd, c, P, e1, e2, e3, e4, e5, e6⟩ := R d hd
    refine ⟨(c, P) :: cs, fun p hp => ?_, fun y hy f o' fd' f1 f2 f3 => ?_⟩
    · rcases List.mem_cons.mp hp with q | q
      · rw [q]
        exact ⟨e6.2, noTab_none z KX e6.2, .of e5 e6⟩
      · exact h1 p q
    · rcases List.mem_cons.mp hy with q | q
      · subst q
        rw [hx] at e1
        rw [e1] at f1
        cases f1
        rw [e2] at f2
        cases f2
        rw [e3] at f3
        cases f3
        exact ⟨c, P, e4, List.mem_cons_self⟩
      · obtain ⟨c', P', g1, g2⟩ := h2 y q f o' fd' f1 f2 f3
        exact ⟨c', P', g1, List.mem_cons_of_mem _ g2⟩
/-- no class is raised -/
def xc0 : XC := ⟨0, fun _ => .none⟩
theorem hex0 {K : PySem.W.Frag} {mg : Str → Option Value} {T : Tab} (h : T.excs = []) : ∀ x c, lkS x T.excs = some c → ExcOk K mg xc0 T x c := fun x c e => by rw [h] at e; cases e
/-- a constant that is a whole number -/
theorem conInt {K : PySem.W.Frag} {mg : Str → Option Value} {h : Heap} {X' : Mod'} {x : Str} {n : Nat} {i : Int} {t : Tok} (KX : K.In h) (G : h.Ns mainGlobals mg) (e : PySem.W.nsIn K mainGlobals x = some (some (.int i t))) (hx : X'.consts[n]? = some (.int i)) : ConAt K mg X' x n :=
  ⟨_, .int i, _, PySem.W.mg_of KX G e, ⟨t, rfl⟩, hx, fun Z S H => .int i⟩
theorem exm_of {K : PySem.W.Frag} {S R : Addr} {b : Bool} (h1 : PySem.W.subIn K (.ref S) (.type "BaseException") = some true) (h2 : PySem.W.isClsIn K S = true) (h3 : PySem.W.typeIn K (.ref S) = some (.type "type")) (h4 : PySem.W.subIn K (.ref R) (.ref S) = some b) :
    PySem.W.exmOne K (.ref R) (.ref S) = some b := by
  have e1 : (PySem.W.subIn K (.ref S) (.type "BaseException") == some true) = true := by rw [h1] <;> rfl
  have e2 : ((PySem.W.clsIn K S).isSome && PySem.W.typeIn K (.ref S) == some (.type "type")) = true := by
    have h2' : (PySem.W.clsIn K S).isSome = true := h2
    rw [h2', h3] <;> rfl
  show (if (PySem.W.subIn K (.ref S) (.type "BaseException") == some true) = true then (if ((PySem.W.clsIn K S).isSome && PySem.W.typeIn K (.ref S) == some (.type "type")) = true then PySem.W.subIn K (.ref R) (.ref S) else none) else none) = some b
  rw [if_pos e1, if_pos e2]
  exact h4
end DL

set_option Elab.async false
set_option linter.all false
set_option maxRecDepth 100000
/-! DLA: plain arithmetic of fractions. -/
namespace DL
open PySem PySem.Spec PyProof.Rows L2
/-- a fraction as the program holds it -/
def fr (x : Rat) : D := .tup [.int x.num, .int (x.den : Int)]
def FB (B : Nat) (x : Rat) : Prop := x.num.natAbs < 2 ^ B ∧ x.den < 2 ^ B
theorem FB.mono {B C : Nat} {x : Rat} (h : FB B x) (l : B ≤ C) : FB C x := by
  have := Nat.pow_le_pow_right (n := 2) (by decide) l
  exact ⟨Nat.lt_of_lt_of_le h.1 this, Nat.lt_of_lt_of_le h.2 this⟩
theorem natAbs_div_le (a : Int) (n : Nat) : (a / (n : Int)).natAbs ≤ a.natAbs ∨ n = 0 := by
  rcases Nat.eq_zero_or_pos n with h | h
  · exact .inr h
  · left
    rcases Int.lt_or_le a 0 with q | q
    · have h1 : a ≤ a / (n : Int) := by
        have := Int.le_ediv_of_mul_le (a := a) (b := a) (c := (n : Int)) (by omega) (by
          have : a * (n : Int) ≤ a * 1 := Int.mul_le_mul_of_nonpos_left (by omega) (by omega)
          omega)
        exact this
      have h2 : a / (n : Int) < 0 := Int.ediv_neg_of_neg_of_pos q (by omega)
      omega
    · have h1 : a / (n : Int) ≤ a := Int.ediv_le_self _ q
      have h2 : 0 ≤ a / (n : Int) := Int.ediv_nonneg q (by omega)
      omega
theorem FB_divInt {B : Nat} {a b : Int} (hb : b ≠ 0) (h1 : a.natAbs < 2 ^ B) (h2 : b.natAbs < 2 ^ B) : FB B (Rat.divInt a b) := by
  have g : b.gcd a ≠ 0 := by
    intro e
    exact hb (Int.gcd_eq_zero_iff.mp e).1
  constructor
  · rw [Rat.num_divInt]
    rcases natAbs_div_le (b.sign * a) (b.gcd a) with h | h
    · refine Nat.lt_of_le_of_lt h ?_
      rw [Int.natAbs_mul, Int.natAbs_sign_of_ne_zero hb, Nat.one_mul]
      exact h1
    · exact absurd h g
  · rw [Rat.den_divInt, if_neg hb]
    exact Nat.lt_of_le_of_lt (Nat.div_le_self _ _) h2
theorem fdiv_of_dvd {a b : Int} (h : b ∣ a) : a.fdiv b = a / b := by
  obtain ⟨c, rfl⟩ := h
  by_cases hb : b = 0
  · subst hb; simp
  · rw [Int.mul_fdiv_cancel_left _ hb, Int.mul_ediv_cancel_left _ hb]
theorem fr_low (a b : Int) (hb : b ≠ 0) : fr (Rat.divInt a b) = .tup [.int (a.fdiv (if b < 0 then -(Int.gcd a b : Int) else (Int.gcd a b : Int))), .int (b.fdiv (if b < 0 then -(Int.gcd a b : Int) else (Int.gcd a b : Int)))] := by
  have da : ((Int.gcd a b : Nat) : Int) ∣ a := Int.gcd_dvd_left ..
  have db : ((Int.gcd a b : Nat) : Int) ∣ b := Int.gcd_dvd_right ..
  have gc : b.gcd a = a.gcd b := Int.gcd_comm _ _
  unfold fr
  rw [Rat.num_divInt, Rat.den_divInt, if_neg hb, gc]
  by_cases q : b < 0
  · rw [if_pos q, fdiv_of_dvd (Int.neg_dvd.mpr da), fdiv_of_dvd (Int.neg_dvd.mpr db), Int.ediv_neg, Int.ediv_neg, Int.sign_eq_neg_one_of_neg q, ← Int.neg_ediv_of_dvd da, ← Int.neg_ediv_of_dvd db, Int.natCast_ediv]
    congr 3
    · congr 1; omega
    · congr 2; congr 1; omega
  · have q' : 0 < b := by omega
    rw [if_neg q, fdiv_of_dvd da, fdiv_of_dvd db, Int.sign_eq_one_of_pos q', Int.one_mul, Int.natCast_ediv]
    congr 4; congr 1; omega
theorem lt_pow_mul {a b B C : Nat} (h1 : a < 2 ^ B) (h2 : b < 2 ^ C) : a * b < 2 ^ (B + C) := by
  rw [Nat.pow_add]
  exact Nat.mul_lt_mul_of_lt_of_le h1 (Nat.le_of_lt h2) (Nat.pow_pos (by decide))
theorem add_eq (x y : Rat) : x + y = Rat.divInt (x.num * (y.den : Int) + y.num * (x.den : Int)) ((x.den : Int) * (y.den : Int)) := by
  rw [Rat.add_def', ← Rat.divInt_ofNat, Int.natCast_mul]
theorem mul_eq (x y : Rat) : x * y = Rat.divInt (x.num * y.num) ((x.den : Int) * (y.den : Int)) := by
  rw [Rat.mul_def', ← Rat.divInt_ofNat, Int.natCast_mul]
theorem den_ne (x : Rat) : (x.den : Int) ≠ 0 := by have := x.den_nz; omega
theorem dens_ne (x y : Rat) : (x.den : Int) * (y.den : Int) ≠ 0 := Int.mul_ne_zero (den_ne x) (den_ne y)
theorem FB.add_num {B C : Nat} {x y : Rat} (h1 : FB B x) (h2 : FB C y) : (x.num * (y.den : Int) + y.num * (x.den : Int)).natAbs < 2 ^ (B + C + 1) := by
  have a1 : (x.num * (y.den : Int)).natAbs < 2 ^ (B + C) := by rw [Int.natAbs_mul, Int.natAbs_natCast]; exact lt_pow_mul h1.1 h2.2
  have a2 : (y.num * (x.den : Int)).natAbs < 2 ^ (B + C) := by rw [Int.natAbs_mul, Int.natAbs_natCast, Nat.add_comm B C]; exact lt_pow_mul h2.1 h1.2
  have := Int.natAbs_add_le (x.num * (y.den : Int)) (y.num * (x.den : Int))
  rw [Nat.pow_succ]
  omega
theorem FB.dens {B C : Nat} {x y : Rat} (h1 : FB B x) (h2 : FB C y) : ((x.den : Int) * (y.den : Int)).natAbs < 2 ^ (B + C) := by
  rw [Int.natAbs_mul, Int.natAbs_natCast, Int.natAbs_natCast]; exact lt_pow_mul h1.2 h2.2
theorem FB.nums {B C : Nat} {x y : Rat} (h1 : FB B x) (h2 : FB C y) : (x.num * y.num).natAbs < 2 ^ (B + C) := by
  rw [Int.natAbs_mul]; exact lt_pow_mul h1.1 h2.1
theorem pow2_mono {a B C : Nat} (h : a < 2 ^ B) (l : B ≤ C) : a < 2 ^ C := Nat.lt_of_lt_of_le h (Nat.pow_le_pow_right (by decide) l)
theorem FB.add {B C : Nat} {x y : Rat} (h1 : FB B x) (h2 : FB C y) : FB (B + C + 1) (x + y) := by
  rw [add_eq]
  exact FB_divInt (dens_ne x y) (h1.add_num h2) (pow2_mono (h1.dens h2) (by omega))
theorem FB.mul {B C : Nat} {x y : Rat} (h1 : FB B x) (h2 : FB C y) : FB (B + C) (x * y) := by
  rw [mul_eq]
  exact FB_divInt (dens_ne x y) (h1.nums h2) (h1.dens h2)
theorem FB.neg {B : Nat} {x : Rat} (h : FB B x) : FB B (-x) := ⟨by rw [Rat.neg_num, Int.natAbs_neg]; exact h.1, h.2⟩
theorem log2_lt' {a B : Nat} (h : a < 2 ^ B) : a.log2 ≤ B := by
  rcases Nat.eq_zero_or_pos a with q | q
  · subst q; simp
  · have := (Nat.log2_lt (by omega)).mpr h
    omega
/-- a product's size -/
theorem mulok {i j : Int} {B C : Nat} (h1 : i.natAbs < 2 ^ B) (h2 : j.natAbs < 2 ^ C) (l : B + C < 1000000) : MulOk i j := by
  refine CMulW.ok ?_
  unfold CMulW
  have := log2_lt' h1
  have := log2_lt' h2
  omega
theorem mulok_r {i j : Int} (h : -(2 ^ 64) < j ∧ j < 2 ^ 64) : MulOk i j := CMul.ok (.inr h)
theorem mulok_l {i j : Int} (h : -(2 ^ 64) < i ∧ i < 2 ^ 64) : MulOk i j := CMul.ok (.inl h)
theorem FB.mn {B C : Nat} {x y : Rat} (h1 : FB B x) (h2 : FB C y) (l : B + C < 1000000) : MulOk x.num y.num := mulok h1.1 h2.1 l
theorem FB.md {B C : Nat} {x y : Rat} (h1 : FB B x) (h2 : FB C y) (l : B + C < 1000000) : MulOk x.num (y.den : Int) := mulok h1.1 (by rw [Int.natAbs_natCast]; exact h2.2) l
theorem FB.dd {B C : Nat} {x y : Rat} (h1 : FB B x) (h2 : FB C y) (l : B + C < 1000000) : MulOk (x.den : Int) (y.den : Int) := mulok (by rw [Int.natAbs_natCast]; exact h1.2) (by rw [Int.natAbs_natCast]; exact h2.2) l
theorem gcd_step {a b : Int} (ha : 0 ≤ a) (hb : 0 ≤ b) : Int.gcd b (a.fmod b) = Int.gcd a b := by
  obtain ⟨m, rfl⟩ := Int.eq_ofNat_of_zero_le ha
  obtain ⟨n, rfl⟩ := Int.eq_ofNat_of_zero_le hb
  rw [Int.fmod_eq_emod_of_nonneg _ hb, ← Int.natCast_emod]
  show Nat.gcd n (m % n) = Nat.gcd m n
  rw [Nat.gcd_comm m n, Nat.gcd_rec n m, Nat.gcd_comm]
theorem fmod_bounds {a b : Int} (hb : 0 < b) : 0 ≤ a.fmod b ∧ a.fmod b < b := by
  rw [Int.fmod_eq_emod_of_nonneg _ (by omega)]
  exact ⟨Int.emod_nonneg a (by omega), Int.emod_lt_of_pos a hb⟩
theorem abs_eq (i : Int) : (if i < 0 then -i else i) = (i.natAbs : Int) := by split <;> omega
/-- Euclid: the product is halved -/
theorem euclid_half {a b : Int} {n : Nat} (hb : 0 < b) (hba : b ≤ a) (h : a * b < 2 ^ (n + 1)) : b * (a.fmod b) < 2 ^ n := by
  have h1 := fmod_bounds (a := a) hb
  have e : a = b * (a.fdiv b) + a.fmod b := (Int.mul_fdiv_add_fmod a b).symm
  have q : 1 ≤ a.fdiv b := by
    refine Int.not_lt.mp fun z => ?_
    have : b * a.fdiv b ≤ 0 := Int.mul_nonpos_of_nonneg_of_nonpos (by omega) (by omega)
    omega
  have q2 : b * 1 ≤ b * a.fdiv b := Int.mul_le_mul_of_nonneg_left q (by omega)
  have q3 : 2 * (a.fmod b) ≤ a := by omega
  have q4 : b * (2 * a.fmod b) ≤ b * a := Int.mul_le_mul_of_nonneg_left q3 (by omega)
  rw [Int.mul_comm b a] at q4
  have e2 : b * (2 * a.fmod b) = 2 * (b * a.fmod b) := by rw [Int.mul_left_comm]
  rw [Int.pow_succ] at h
  omega
theorem frE {x : Rat} {i j : Int} (h1 : i = x.num) (h2 : j = (x.den : Int)) : D.tup [.int i, .int j] = fr x := by rw [h1, h2]; rfl
/-! ### what is read at concrete places -/
theorem rangeD_len {a b : Int} : (rangeD a b).length = (b - a).toNat := by simp [rangeD]
theorem atI_nat {α : Type} {l : List α} {n : Nat} {d : α} (h : l[n]? = some d) : atI l (n : Int) = some d := by
  have hn : n < l.length := (List.getElem?_eq_some_iff.mp h).1
  unfold atI ixN
  rw [if_pos (by omega), if_pos (by omega)]
  exact h
theorem atI_some {α : Type} {l : List α} {i : Int} {d : α} (h0 : 0 ≤ i) (h : l[i.toNat]? = some d) : atI l i = some d := by
  have := atI_nat h
  rw [Int.toNat_of_nonneg h0] at this
  exact this
section
variable {S : Sto} {k : D → Prop} {a b c d e f : D} {l : List D}
theorem ixT {i : Int} (h0 : 0 ≤ i) (h : l[i.toNat]? = some d) : dIx S (.tup l) (.int i) k = k d := by
  show (∃ d', atI l i = some d' ∧ k d') = _
  rw [atI_some h0 h]; simp
theorem ixL {i : Int} (h0 : 0 ≤ i) (h : l[i.toNat]? = some d) : dIx S (.lst l) (.int i) k = k d := by
  show (∃ d', atI l i = some d' ∧ k d') = _
  rw [atI_some h0 h]; simp
theorem ixC {i : Int} (h0 : 0 ≤ i) (h : l[i.toNat]? = some d) : dIx S (.scr l) (.int i) k = k d := by
  show (∃ d', atI l i = some d' ∧ k d') = _
  rw [atI_some h0 h]; simp
theorem ixR {i : Int} {p : Addr} (hp : S p = some l) (h0 : 0 ≤ i) (h : l[i.toNat]? = some d) : dIx S (.ref p) (.int i) k = k d := by
  show (∃ xs d', S p = some xs ∧ atI xs i = some d' ∧ k d') = _
  rw [hp]
  simp [atI_some h0 h]
theorem ix0 : dIx S (.tup (a :: l)) (.int 0) k = k a := ixT (by decide) rfl
theorem ix1 : dIx S (.tup (a :: b :: l)) (.int 1) k = k b := ixT (by decide) rfl
theorem ix2 : dIx S (.tup (a :: b :: c :: l)) (.int 2) k = k c := ixT (by decide) rfl
theorem ix3 : dIx S (.tup (a :: b :: c :: d :: l)) (.int 3) k = k d := ixT (by decide) rfl
theorem ix4 : dIx S (.tup (a :: b :: c :: d :: e :: l)) (.int 4) k = k e := ixT (by decide) rfl
theorem ixf0 {x : Rat} : dIx S (fr x) (.int 0) k = k (.int x.num) := ixT (by decide) rfl
theorem ixf1 {x : Rat} : dIx S (fr x) (.int 1) k = k (.int (x.den : Int)) := ixT (by decide) rfl
end
section
variable {S : Sto} {k : D → Prop} {i j : Int} {q : Bool → Prop}
theorem cEq : dCmp S .eq (.int i) (.int j) k = k (.bl (decide (i = j))) := rfl
theorem cNe : dCmp S .ne (.int i) (.int j) k = k (.bl !(decide (i = j))) := rfl
theorem cLt : dCmp S .lt (.int i) (.int j) k = k (.bl (decide (i < j))) := rfl
theorem cLe : dCmp S .le (.int i) (.int j) k = k (.bl (decide (i ≤ j))) := rfl
theorem cGt : dCmp S .gt (.int i) (.int j) k = k (.bl (decide (j < i))) := rfl
theorem cGe : dCmp S .ge (.int i) (.int j) k = k (.bl (decide (j ≤ i))) := rfl
theorem cIs : dCmp S .isN (.tup l) .non k = k (.bl false) := rfl
theorem bAdd : dBin .add (.int i) (.int j) k = k (.int (i + j)) := rfl
theorem bSub : dBin .sub (.int i) (.int j) k = k (.int (i - j)) := rfl
theorem bMul : dBin .mul (.int i) (.int j) k = (MulOk i j ∧ k (.int (i * j))) := rfl
theorem bDiv : dBin .fdiv (.int i) (.int j) k = (j ≠ 0 ∧ k (.int (i.fdiv j))) := rfl
theorem bMod : dBin .mod (.int i) (.int j) k = (j ≠ 0 ∧ k (.int (i.fmod j))) := rfl
theorem bPow (h : PowOk i j) : dBin .pow (.int i) (.int j) k = k (.int (i ^ j.toNat)) := by
  show (PowOk i j ∧ k _) = _
  simp [h]
@[irreducible] def E6 : Int := 1000000
@[irreducible] def E9 : Int := 1000000000
@[irreducible] def E18 : Int := 1000000000000000000
@[irreducible] def E20 : Int := 100000000000000000000
theorem E6_eq : E6 = 1000000 := by unfold E6; rfl
theorem E9_eq : E9 = 1000000000 := by unfold E9; rfl
theorem E18_eq : E18 = 1000000000000000000 := by unfold E18; rfl
theorem E20_eq : E20 = 100000000000000000000 := by unfold E20; rfl
theorem bP6 : dBin .pow (.int 10) (.int 6) k = k (.int E6) := by unfold E6; exact bPow (by unfold PowOk CPow; decide)
theorem bP9 : dBin .pow (.int 10) (.int 9) k = k (.int E9) := by unfold E9; exact bPow (by unfold PowOk CPow; decide)
theorem bP18 : dBin .pow (.int 10) (.int 18) k = k (.int E18) := by unfold E18; exact bPow (by unfold PowOk CPow; decide)
theorem bP20 : dBin .pow (.int 10) (.int 20) k = k (.int E20) := by unfold E20; exact bPow (by unfold PowOk CPow; decide)
theorem ernd {P : Int → Int → Prop} : (∃ c d, D.int i = D.int c ∧ D.int j = D.int d ∧ P c d) = P i j := by simp
theorem iInt {S : Sto} {K : D → Sto → Prop} : dBi .int [.int i] S K = K (.int i) S := rfl
theorem iBool {S : Sto} {K : D → Sto → Prop} {b : Bool} : dBi .int [.bl b] S K = K (.int (if b = true then 1 else 0)) S := rfl
theorem iAbs {S : Sto} {K : D → Sto → Prop} : dBi .abs [.int i] S K = K (.int (i.natAbs : Int)) S := by rw [← abs_eq]; rfl
theorem iLenT {S : Sto} {K : D → Sto → Prop} {l : List D} : dBi .len [.tup l] S K = K (.int l.length) S := rfl
theorem iLenL {S : Sto} {K : D → Sto → Prop} {l : List D} : dBi .len [.lst l] S K = K (.int l.length) S := rfl
theorem iLenC {S : Sto} {K : D → Sto → Prop} {l : List D} : dBi .len [.scr l] S K = K (.int l.length) S := rfl
theorem iTupL {S : Sto} {K : D → Sto → Prop} {l : List D} : dBi .tuple [.lst l] S K = K (.tup l) S := rfl
theorem iTupT {S : Sto} {K : D → Sto → Prop} {l : List D} : dBi .tuple [.tup l] S K = K (.tup l) S := rfl
theorem tInt : dTru S (.int i) q = q (decide (i ≠ 0)) := rfl
theorem ebl {b : Bool} {P : Bool → Prop} : (∃ c, D.bl b = D.bl c ∧ P c) = P b := by simp
theorem eint {P : Int → Prop} : (∃ c, D.int i = D.int c ∧ P c) = P i := by simp
theorem esome {d : D} {P : D → Prop} : (∃ c, (some (some d) : Option (Option D)) = some (some c) ∧ P c) = P d := by simp
theorem esm {d : D} {P : D → Prop} : (∃ c, (some d : Option D) = some c ∧ P c) = P d := by simp
end
theorem lim0 : (0 ≤ LIM) = True := eq_true (by unfold LIM; decide)
theorem lim1 : (1 ≤ LIM) = True := eq_true (by unfold LIM; decide)
theorem lim2 : (2 ≤ LIM) = True := eq_true (by unfold LIM; decide)
theorem lim3 : (3 ≤ LIM) = True := eq_true (by unfold LIM; decide)
theorem lim4 : (4 ≤ LIM) = True := eq_true (by unfold LIM; decide)
theorem lim5 : (5 ≤ LIM) = True := eq_true (by unfold LIM; decide)
theorem lim6 : (6 ≤ LIM) = True := eq_true (by unfold LIM; decide)
theorem lim7 : (7 ≤ LIM) = True := eq_true (by unfold LIM; decide)
theorem lim8 : (8 ≤ LIM) = True := eq_true (by unfold LIM; decide)
theorem lim9 : (9 ≤ LIM) = True := eq_true (by unfold LIM; decide)
theorem cIsT {S : Sto} {l : List D} {k : D → Prop} : dCmp S .isN (.tup l) .non k = k (.bl false) := rfl
theorem cIsI {S : Sto} {i : Int} {k : D → Prop} : dCmp S .isN (.int i) .non k = k (.bl false) := rfl
theorem isTb {S : Sto} {l : List D} {k : Bool → Prop} : dIsi S (.tup l) .bool k = k false := rfl
theorem isTi {S : Sto} {l : List D} {k : Bool → Prop} : dIsi S (.tup l) .int k = k false := rfl
theorem isTs {S : Sto} {l : List D} {k : Bool → Prop} : dIsi S (.tup l) .str k = k false := rfl
theorem isTt {S : Sto} {l : List D} {k : Bool → Prop} : dIsi S (.tup l) .tuple k = k true := rfl
theorem isIb {S : Sto} {i : Int} {k : Bool → Prop} : dIsi S (.int i) .bool k = k false := rfl
theorem isIi {S : Sto} {i : Int} {k : Bool → Prop} : dIsi S (.int i) .int k = k true := rfl
theorem isIs {S : Sto} {i : Int} {k : Bool → Prop} : dIsi S (.int i) .str k = k false := rfl
theorem isIt {S : Sto} {i : Int} {k : Bool → Prop} : dIsi S (.int i) .tuple k = k false := rfl
theorem tBl {S : Sto} {b : Bool} {q : Bool → Prop} : dTru S (.bl b) q = q b := rfl
theorem esml {l : List D} {P : List D → Prop} : (∃ c, (some l : Option (List D)) = some c ∧ P c) = P l := by simp
theorem esmt {l : List D} : (∃ c, (some l : Option (List D)) = some c) = True := by simp
theorem rRef {S : Sto} {p : Addr} : dRef S (.ref p) = ∃ xs, S p = some xs := rfl
theorem ixRef {S : Sto} {p : Addr} {i : Int} {k : D → Prop} : dIx S (.ref p) (.int i) k = ∃ xs, S p = some xs ∧ dIx S (.lst xs) (.int i) k := by
  show (∃ xs d, S p = some xs ∧ atI xs i = some d ∧ k d) = ∃ xs, S p = some xs ∧ ∃ d, atI xs i = some d ∧ k d
  simp
def dSetL (xs : List D) (i : Int) (d : D) (k : List D → Prop) : Prop := ∃ j, ixN xs.length i = some j ∧ k (xs.set j d)
theorem setRef {S : Sto} {p : Addr} {i : Int} {d : D} {k : Sto → Prop} : dSet (.ref p) (.int i) d S k = ∃ xs, S p = some xs ∧ dSetL xs i d fun ys => k (S.put p ys) := by
  show (∃ xs j, S p = some xs ∧ ixN xs.length i = some j ∧ k (S.put p (xs.set j d))) = ∃ xs, S p = some xs ∧ ∃ j, ixN xs.length i = some j ∧ k (S.put p (xs.set j d))
  simp
theorem dSetL_of {xs : List D} {i : Int} {d : D} {k : List D → Prop} {j : Nat} (h : ixN xs.length i = some j) : dSetL xs i d k = k (xs.set j d) := by
  unfold dSetL
  rw [h]; simp
section
variable {S : Sto} {k : D → Prop} {q : List D → Prop} {a b c d e f z : D} {l : List D}
theorem iy0 : dIx S (.lst (a :: l)) (.int 0) k = k a := ixL (by decide) rfl
theorem iy1 : dIx S (.lst (a :: b :: l)) (.int 1) k = k b := ixL (by decide) rfl
theorem iy2 : dIx S (.lst (a :: b :: c :: l)) (.int 2) k = k c := ixL (by decide) rfl
theorem iy3 : dIx S (.lst (a :: b :: c :: d :: l)) (.int 3) k = k d := ixL (by decide) rfl
theorem iy4 : dIx S (.lst (a :: b :: c :: d :: e :: l)) (.int 4) k = k e := ixL (by decide) rfl
theorem iy5 : dIx S (.lst (a :: b :: c :: d :: e :: f :: l)) (.int 5) k = k f := ixL (by decide) rfl
theorem ixN0 {n : Nat} {i : Int} (h0 : 0 ≤ i) (h : i < n) : ixN n i = some i.toNat := by unfold ixN; rw [if_pos h0, if_pos h]
theorem iz0 : dSetL (a :: l) 0 z q = q (z :: l) := dSetL_of (ixN0 (by decide) (by simp only [List.length_cons]; omega))
theorem iz1 : dSetL (a :: b :: l) 1 z q = q (a :: z :: l) := dSetL_of (ixN0 (by decide) (by simp only [List.length_cons]; omega))
theorem iz2 : dSetL (a :: b :: c :: l) 2 z q = q (a :: b :: z :: l) := dSetL_of (ixN0 (by decide) (by simp only [List.length_cons]; omega))
theorem iz3 : dSetL (a :: b :: c :: d :: l) 3 z q = q (a :: b :: c :: z :: l) := dSetL_of (ixN0 (by decide) (by simp only [List.length_cons]; omega))
theorem iz4 : dSetL (a :: b :: c :: d :: e :: l) 4 z q = q (a :: b :: c :: d :: z :: l) := dSetL_of (ixN0 (by decide) (by simp only [List.length_cons]; omega))
theorem iz5 : dSetL (a :: b :: c :: d :: e :: f :: l) 5 z q = q (a :: b :: c :: d :: e :: z :: l) := dSetL_of (ixN0 (by decide) (by simp only [List.length_cons]; omega))
theorem ag1 {i j : Int} : dAug .add (.int i) (.int j) k = k (.int (i + j)) := rfl
theorem ag2 {i j : Int} : dAug .sub (.int i) (.int j) k = k (.int (i - j)) := rfl
end
theorem iTupR {S : Sto} {a : Addr} {K : D → Sto → Prop} : dBi .tuple [.ref a] S K = ∃ xs, S a = some xs ∧ K (.tup xs) S := rfl
theorem iLenR {S : Sto} {a : Addr} {K : D → Sto → Prop} : dBi .len [.ref a] S K = ∃ xs, S a = some xs ∧ K (.int xs.length) S := rfl
theorem iLstL {S : Sto} {l : List D} {K : D → Sto → Prop} : dBi (.list false) [.lst l] S K = K (.lst l) S := rfl
theorem iLstT {S : Sto} {l : List D} {K : D → Sto → Prop} : dBi (.list false) [.tup l] S K = K (.lst l) S := rfl
theorem iLstC {S : Sto} {l : List D} {K : D → Sto → Prop} : dBi (.list false) [.scr l] S K = K (.lst l) S := rfl
theorem mApp {S : Sto} {a : Addr} {d : D} {K : D → Sto → Prop} : dMeth .append (.ref a) [d] S K = ∃ xs, S a = some xs ∧ xs.length < LIM ∧ K .non (S.put a (xs ++ [d])) := rfl
theorem mPop {S : Sto} {a : Addr} {K : D → Sto → Prop} : dMeth .pop (.ref a) [] S K = ∃ xs, S a = some xs ∧ ∃ d, xs[xs.length - 1]? = some d ∧ K d (S.put a xs.dropLast) := by
  show (∃ xs d, S a = some xs ∧ xs[xs.length - 1]? = some d ∧ K d (S.put a xs.dropLast)) = _
  simp
theorem mRev {S : Sto} {a : Addr} {K : D → Sto → Prop} : dMeth .reverse (.ref a) [] S K = ∃ xs, S a = some xs ∧ K .non (S.put a xs.reverse) := rfl
theorem slT {S : Sto} {l : List D} {lo hi : Option Int} {k : D → Prop} : dSl S (.tup l) lo hi k = k (.tup (cutD l lo hi)) := rfl
theorem slL {S : Sto} {l : List D} {lo hi : Option Int} {k : D → Prop} : dSl S (.lst l) lo hi k = k (.lst (cutD l lo hi)) := rfl
theorem slC {S : Sto} {l : List D} {lo hi : Option Int} {k : D → Prop} : dSl S (.scr l) lo hi k = k (.lst (cutD l lo hi)) := rfl
theorem bAddT {l m : List D} {k : D → Prop} : dBin .add (.tup l) (.tup m) k = (l.length + m.length ≤ LIM ∧ k (.tup (l ++ m))) := rfl
theorem cat_rl {S : Sto} {a : Addr} {ys : List D} {Q : D → Sto → Prop} : dCat (.ref a) (.lst ys) S Q = ∃ xs, S a = some xs ∧ xs.length + ys.length ≤ LIM ∧ ∀ p, S p = none → Q (.ref p) (S.put p (xs ++ ys)) :=
  propext ⟨fun ⟨xs, ys', h1, h2, h⟩ => by cases h2; exact ⟨xs, h1, h⟩, fun ⟨xs, h1, h⟩ => ⟨xs, ys, h1, rfl, h⟩⟩
theorem cat_ll {S : Sto} {xs ys : List D} {Q : D → Sto → Prop} : dCat (.lst xs) (.lst ys) S Q = (xs.length + ys.length ≤ LIM ∧ ∀ p, S p = none → Q (.ref p) (S.put p (xs ++ ys))) :=
  propext ⟨fun ⟨xs', ys', h1, h2, h⟩ => by cases h1; cases h2; exact h, fun h => ⟨xs, ys, rfl, rfl, h⟩⟩
theorem rep_li {S : Sto} {xs : List D} {n : Int} {Q : D → Sto → Prop} : dRep (.lst xs) (.int n) S Q = ((-(2 ^ 63) ≤ n ∧ n < 2 ^ 63 ∧ xs.length * n.toNat ≤ LIM) ∧ ∀ p, S p = none → Q (.ref p) (S.put p (List.replicate n.toNat xs).flatten)) := rfl
theorem bAddL {l m : List D} {k : D → Prop} : dBin .add (.lst l) (.lst m) k = (l.length + m.length ≤ LIM ∧ k (.lst (l ++ m))) := rfl
theorem bMulL {l : List D} {n : Int} {k : D → Prop} : dBin .mul (.lst l) (.int n) k = ((-(2 ^ 63) ≤ n ∧ n < 2 ^ 63 ∧ l.length * n.toNat ≤ LIM) ∧ k (.lst (List.replicate n.toNat l).flatten)) := rfl
theorem bMulT {l : List D} {n : Int} {k : D → Prop} : dBin .mul (.tup l) (.int n) k = ((l ≠ [] ∧ -(2 ^ 63) ≤ n ∧ n ≤ 1000 ∧ l.length ≤ 1000) ∧ k (.tup (List.replicate n.toNat l).flatten)) := rfl
theorem bT_n {i : Nat} {d : D} {ρ : Rho} {k : Rho → Prop} : bindT (.n i) d ρ k = k (ρ.set i (some d)) := rfl
theorem bT_t {a : TT'} {xs : List D} {ρ : Rho} {k : Rho → Prop} : bindT (.t a) (.tup xs) ρ k = bindT.bindTs a xs ρ k := rfl
theorem bT_nil {ρ : Rho} {k : Rho → Prop} : bindT.bindTs .nil [] ρ k = k ρ := rfl
theorem bT_cons {a b : TT'} {x : D} {xs : List D} {ρ : Rho} {k : Rho → Prop} : bindT.bindTs (.cons a b) (x :: xs) ρ k = bindT a x ρ fun ρ' => bindT.bindTs b xs ρ' k := rfl
theorem ite3 {c A B : Prop} {i : Decidable c} (h1 : c → A) (h2 : ¬ c → B) : @ite Prop c i A B := by
  by_cases h : c
  · rw [if_pos h]
    exact h1 h
  · rw [if_neg h]
    exact h2 h
theorem cut_hi {α : Type} {xs : List α} {v : Int} (h : 0 ≤ v) : cutD xs none (some v) = xs.take v.toNat := by
  unfold cutD HT.sIx
  simp only [List.drop_zero, Nat.sub_zero]
  rw [if_neg (by omega)]
  rcases Nat.le_total v.toNat xs.length with q | q
  · rw [Nat.min_eq_left q]
  · rw [Nat.min_eq_right q, List.take_length, List.take_of_length_le q]
theorem cut_lo {α : Type} {xs : List α} {v : Int} (h : 0 ≤ v) : cutD xs (some v) none = xs.drop v.toNat := by
  unfold cutD HT.sIx
  simp only
  rw [if_neg (by omega)]
  rcases Nat.le_total v.toNat xs.length with q | q
  · rw [Nat.min_eq_left q, List.take_of_length_le]
    rw [List.length_drop]; omega
  · rw [Nat.min_eq_right q, List.drop_eq_nil_of_le (Nat.le_refl _), List.drop_eq_nil_of_le q]
    simp
theorem cut1 {α : Type} {x : α} {l : List α} : cutD (x :: l) (some 1) none = l := cut_lo (by decide)
theorem fr_mk {i j : Int} (hj : 0 < j) (hc : Nat.gcd i.natAbs j.natAbs = 1) : ∃ y : Rat, D.tup [.int i, .int j] = fr y ∧ y.num = i ∧ (y.den : Int) = j :=
  ⟨⟨i, j.natAbs, by omega, hc⟩, by unfold fr; simp only; rw [show ((j.natAbs : Nat) : Int) = j by omega], rfl, by show ((j.natAbs : Nat) : Int) = j; omega⟩
/-- whole numbers and tuples of such -/
inductive Pl : Nat → D → Prop
  | int (n : Nat) (i : Int) : Pl (n + 1) (.int i)
  | tup (n : Nat) (ds : List D) : (∀ d ∈ ds, Pl n d) → ds.length ≤ 1000 → Pl (n + 1) (.tup ds)
theorem pl_py {n : Nat} {d : D} (h : Pl n d) : ∃ p, toPy d = some p ∧ p.canLay0 = true ∧ p.depth ≤ n := by
  induction h with
  | int n i => exact ⟨.int i, rfl, rfl, by simp [PyData.depth]⟩
  | tup n ds hd hl ih =>
    have : ∃ ps, toPy.toPys ds = some ps ∧ PyData.canLayAll0 ps = true ∧ PyData.depthAll ps ≤ n := by
      clear hl hd
      induction ds with
      | nil => exact ⟨[], rfl, rfl, by simp [PyData.depthAll]⟩
      | cons x xs ihx =>
        obtain ⟨p, h1, h2, h3⟩ := ih x List.mem_cons_self
        obtain ⟨ps, h4, h5, h6⟩ := ihx fun d h => ih d (List.mem_cons_of_mem _ h)
        exact ⟨p :: ps, by simp only [toPy.toPys, h1, h4], by simp [PyData.canLayAll0, h2, h5], by simp [PyData.depthAll]; omega⟩
    obtain ⟨ps, h1, h2, h3⟩ := this
    exact ⟨.tuple ps, by simp only [toPy, h1]; rfl, by simpa [PyData.canLay0] using h2, by simp only [PyData.depth]; omega⟩
theorem pls_py {n : Nat} {ds : List D} (h : ∀ d ∈ ds, Pl n d) : ∃ ps, toPy.toPys ds = some ps ∧ PyData.canLayAll0 ps = true ∧ PyData.depthAll ps ≤ n ∧ ps.isEmpty = ds.isEmpty := by
  induction ds with
  | nil => exact ⟨[], rfl, rfl, by simp [PyData.depthAll], rfl⟩
  | cons x xs ihx =>
    obtain ⟨p, h1, h2, h3⟩ := pl_py (h x List.mem_cons_self)
    obtain ⟨ps, h4, h5, h6, _⟩ := ihx fun d z => h d (List.mem_cons_of_mem _ z)
    exact ⟨p :: ps, by simp only [toPy.toPys, h1, h4], by simp [PyData.canLayAll0, h2, h5], by simp [PyData.depthAll]; omega, rfl⟩
/-- a list that is changed against [] -/
theorem ne_nil {S : Sto} {a : Addr} {xs : List D} {k : D → Prop} {n : Nat} (e : S a = some xs) (h : ∀ d ∈ xs, Pl n d) (hn : n ≤ 60) (g : k (.bl !xs.isEmpty)) : dCmp S .ne (.ref a) (.lst []) k := by
  obtain ⟨ps, h1, h2, h3, h4⟩ := pls_py h
  show dEq S (.ref a) (.lst []) (fun b => k (.bl !b))
  refine ⟨.list ps, .list [], ?_, rfl, ?_, by simp [SeqAt.shaped, PyData.canLay0, PyData.canLayAll0, PyData.depth, PyData.depthAll], ?_⟩
  · simp only [look, e, toPy, h1]; rfl
  · simp only [SeqAt.shaped, PyData.canLay0, PyData.depth, h2, Bool.true_and]; exact decide_eq_true (by omega)
  · have : PyData.eqv (.list ps) (.list []) = xs.isEmpty := by
      rw [← h4]
      cases ps <;> simp [PyData.eqv, PyData.eqvAll]
    rw [this]; exact g
theorem fr_same {S : Sto} {x : Rat} {k : D → Prop} (g : k (.bl false)) : dCmp S .ne (fr x) (fr x) k := by
  refine ⟨.tuple [.int x.num, .int x.den], .tuple [.int x.num, .int x.den], rfl, rfl, by simp [SeqAt.shaped, PyData.canLay0, PyData.canLayAll0, PyData.depth, PyData.depthAll], by simp [SeqAt.shaped, PyData.canLay0, PyData.canLayAll0, PyData.depth, PyData.depthAll], ?_⟩
  have : PyData.eqv (.tuple [.int x.num, .int x.den]) (.tuple [.int x.num, .int x.den]) = true := by simp [PyData.eqv, PyData.eqvAll]
  rw [this]; exact g
theorem ite_join {c : Prop} {i : Decidable c} {P : D → Prop} {d1 d2 : D} (d : D) (h1 : c → d1 = d) (h2 : ¬ c → d2 = d) (h : P d) : @ite Prop c i (P d1) (P d2) := ite3 (fun q => by rw [h1 q]; exact h) (fun q => by rw [h2 q]; exact h)
/-! ### loops -/
section
variable (X : Mod') (G : Fns)
@[irreducible] def loopF (tg : TT') (a : C) (stay : Sto → Prop) (E : ED) (xs : List D) (ρ : Rho) (S : Sto) : Prop := forL (fun d ρ k => bindT tg d ρ k) (fun E ρ S => wC X G a E ρ S) stay E xs ρ S
def loopN (c : M) (a : C) (E : ED) (n : Nat) (ρ : Rho) (S : Sto) : Prop := whileN (fun ρ S k => wT X G c ρ S k) (fun E ρ S => wC X G a E ρ S) E n ρ S
@[irreducible] def loopW (c : M) (a : C) (E : ED) (ρ : Rho) (S : Sto) : Prop := ∃ n, loopN X G c a E n ρ S
@[irreducible] def loopC (own : List Nat) (tg : TT') (elt cond : M) (ρ : Rho) (stay : Sto → Prop) (fin : List D → Sto → Prop) (xs acc : List D) (S : Sto) : Prop :=
  compL (fun d k => bindT tg d (wipeD ρ own) k) (fun ρ' S' k => wT X G cond ρ' S' k) (fun ρ' S' k => wE X G elt ρ' S' k) stay fin xs acc S
variable {X G}
set_option autoImplicit true in
theorem wE_v : wE X G (.v i) ρ S Q = (∃ d, ρ[i]? = some (some d) ∧ Q d S) := rfl
set_option autoImplicit true in
theorem wE_c : wE X G (.c x) ρ S Q = (Q x.d S) := rfl
set_option autoImplicit true in
theorem wE_g : wE X G (.g i) ρ S Q = (∃ d, X.consts[i]? = some d ∧ Q d S) := rfl
set_option autoImplicit true in
theorem wE_tup : wE X G (.tup a) ρ S Q = (wL X G a ρ S fun ds S1 => ds.length ≤ LIM ∧ Q (.tup ds) S1) := rfl
set_option autoImplicit true in
theorem wE_lst : wE X G (.lst mu a) ρ S Q = (wL X G a ρ S fun ds S1 => ds.length ≤ LIM ∧ if mu = true then ∀ p, S1 p = none → Q (.ref p) (S1.put p ds) else Q (.lst ds) S1) := rfl
set_option autoImplicit true in
theorem wE_bin : wE X G (.bin o a b) ρ S Q = (wE X G a ρ S fun x S1 => wE X G b ρ S1 fun y S2 => dBin o x y fun z => Q z S2) := rfl
set_option autoImplicit true in
theorem wE_cat : wE X G (.cat a b) ρ S Q = (wE X G a ρ S fun x S1 => wE X G b ρ S1 fun y S2 => dCat x y S2 Q) := rfl
theorem wE_rep : wE X G (.rep a b) ρ S Q = (wE X G a ρ S fun x S1 => wE X G b ρ S1 fun y S2 => dRep x y S2 Q) := rfl
set_option autoImplicit true in
theorem wE_neg : wE X G (.neg a) ρ S Q = (wE X G a ρ S fun x S1 => ∃ i, x = .int i ∧ Q (.int (-i)) S1) := rfl
set_option autoImplicit true in
theorem wE_not : wE X G (.not a) ρ S Q = (wE X G a ρ S fun x S1 => dTru S1 x fun b => Q (.bl !b) S1) := rfl
set_option autoImplicit true in
theorem wE_cmp : wE X G (.cmp o a b) ρ S Q = (wE X G a ρ S fun x S1 => wE X G b ρ S1 fun y S2 => dCmp S2 o x y fun z => Q z S2) := rfl
set_option autoImplicit true in
theorem wE_chain : wE X G (.chain o o' a b c) ρ S Q = (wE X G a ρ S fun x S1 => wE X G b ρ S1 fun y S2 => dCmp S2 o x y fun z => ∃ k, z = .bl k ∧ if k = true then wE X G c ρ S2 fun u S3 => dCmp S3 o' y u fun z' => Q z' S3 else Q (.bl false) S2) := rfl
set_option autoImplicit true in
theorem wE_and : wE X G (.and a b) ρ S Q = (wE X G a ρ S fun x S1 => ∃ c, x = .bl c ∧ if c = true then wE X G b ρ S1 Q else Q (.bl false) S1) := rfl
set_option autoImplicit true in
theorem wE_or : wE X G (.or a b) ρ S Q = (wE X G a ρ S fun x S1 => ∃ c, x = .bl c ∧ if c = true then Q (.bl true) S1 else wE X G b ρ S1 Q) := rfl
set_option autoImplicit true in
theorem wE_ite : wE X G (.ite c a b) ρ S Q = (wT X G c ρ S fun t S1 => if t = true then wE X G a ρ S1 Q else wE X G b ρ S1 Q) := rfl
set_option autoImplicit true in
theorem wE_call : wE X G (.call f a) ρ S Q = (wL X G a ρ S fun ds S1 => G f ds S1 Q) := rfl
set_option autoImplicit true in
theorem wE_callK : wE X G (.callK f a ks kp) ρ S Q = (wL X G a ρ S fun ds S1 => wL X G ks ρ S1 fun es S2 => ∃ n m p, X.kps[kp]? = some (n, m, p) ∧ G f (arr n m p ds es) S2 Q) := rfl
set_option autoImplicit true in
theorem wE_bi : wE X G (.bi b a) ρ S Q = (wL X G a ρ S fun ds S1 => dBi b ds S1 Q) := rfl
set_option autoImplicit true in
theorem wE_isi : wE X G (.isi a t) ρ S Q = (wE X G a ρ S fun x S1 => dIsi S1 x t fun b => Q (.bl b) S1) := rfl
set_option autoImplicit true in
theorem wE_ix : wE X G (.ix a i) ρ S Q = (wE X G a ρ S fun x S1 => wE X G i ρ S1 fun y S2 => dIx S2 x y fun z => Q z S2) := rfl
set_option autoImplicit true in
theorem wE_sl : wE X G (.sl a l1 l2) ρ S Q = (wE X G a ρ S fun x S1 => wO X G l1 ρ S1 fun l S2 => wO X G l2 ρ S2 fun h S3 => dSl S3 x l h fun z => Q z S3) := rfl
set_option autoImplicit true in
theorem wE_meth : wE X G (.meth m o a) ρ S Q = (wE X G o ρ S fun x S1 => dRef S1 x ∧ wL X G a ρ S1 fun ds S2 => dMeth m x ds S2 Q) := rfl
set_option autoImplicit true in
theorem wC_done : wC X G (.done) E ρ S = (E.nx ρ S) := rfl
set_option autoImplicit true in
theorem wC_seq : wC X G (.seq a b) E ρ S = (wC X G a { nx := fun ρ1 S1 => wC X G b E ρ1 S1, rt := E.rt, bk := E.bk, ct := E.ct, xt := E.xt } ρ S) := rfl
set_option autoImplicit true in
theorem wC_asg : wC X G (.asg tg e) E ρ S = (wE X G e ρ S fun d S1 => bindT tg d ρ fun ρ1 => E.nx ρ1 S1) := rfl
set_option autoImplicit true in
theorem wC_swap : wC X G (.swap i j a b) E ρ S = (wE X G a ρ S fun d S1 => wE X G b ρ S1 fun e S2 => E.nx ((ρ.set i (some d)).set j (some e)) S2) := rfl
set_option autoImplicit true in
theorem wC_swap3 : wC X G (.swap3 i j l a b c) E ρ S = (wE X G a ρ S fun d S1 => wE X G b ρ S1 fun e S2 => wE X G c ρ S2 fun f S3 => E.nx (((ρ.set i (some d)).set j (some e)).set l (some f)) S3) := rfl
set_option autoImplicit true in
theorem wC_augv : wC X G (.augv i o e) E ρ S = (∃ x, ρ[i]? = some (some x) ∧ wE X G e ρ S fun y S1 => dAug o x y fun z => E.nx (ρ.set i (some z)) S1) := rfl
set_option autoImplicit true in
theorem wC_augs : wC X G (.augs a i o e) E ρ S = (wE X G a ρ S fun x S1 => wE X G i ρ S1 fun y S2 => dRef S2 x ∧ dIx S2 x y fun old => wE X G e ρ S2 fun z S3 => dAug o old z fun new => dSet x y new S3 fun S4 => E.nx ρ S4) := rfl
set_option autoImplicit true in
theorem wC_sets : wC X G (.sets a i e) E ρ S = (wE X G e ρ S fun z S1 => wE X G a ρ S1 fun x S2 => wE X G i ρ S2 fun y S3 => dSet x y z S3 fun S4 => E.nx ρ S4) := rfl
set_option autoImplicit true in
theorem wC_frz : wC X G (.frz i) E ρ S = (∃ a xs, ρ[i]? = some (some (.ref a)) ∧ S a = some xs ∧ E.nx (ρ.set i (some (.lst xs))) (S.del a)) := rfl
set_option autoImplicit true in
theorem wC_ret : wC X G (.ret e) E ρ S = (wE X G e ρ S E.rt) := rfl
set_option autoImplicit true in
theorem wC_retN : wC X G (.retN) E ρ S = (E.rt .non S) := rfl
set_option autoImplicit true in
theorem wC_brk : wC X G (.brk) E ρ S = (E.bk ρ S) := rfl
set_option autoImplicit true in
theorem wC_cont : wC X G (.cont) E ρ S = (E.ct ρ S) := rfl
set_option autoImplicit true in
theorem wC_ex : wC X G (.ex e) E ρ S = (wE X G e ρ S fun _ S1 => E.nx ρ S1) := rfl
set_option autoImplicit true in
theorem wC_ite : wC X G (.ite c a b) E ρ S = (wT X G c ρ S fun t S1 => if t = true then wC X G a E ρ S1 else wC X G b E ρ S1) := rfl
set_option autoImplicit true in
theorem wC_xasg : wC X G (.xasg tg e) E ρ S = (wX X G e ρ S fun d S1 => isX d (fun c => E.xt c ρ S1) (bindT tg d ρ fun ρ1 => E.nx ρ1 S1)) := rfl
set_option autoImplicit true in
theorem wC_xret : wC X G (.xret e) E ρ S = (wX X G e ρ S fun d S1 => isX d (fun c => E.xt c ρ S1) (E.rt d S1)) := rfl
set_option autoImplicit true in
theorem wC_xex : wC X G (.xex e) E ρ S = (wX X G e ρ S fun d S1 => isX d (fun c => E.xt c ρ S1) (E.nx ρ S1)) := rfl
set_option autoImplicit true in
theorem wC_rai : wC X G (.rai c) E ρ S = (E.xt c ρ S) := rfl
set_option autoImplicit true in
theorem wC_tr : wC X G (.tr a cs b) E ρ S = (wC X G a { nx := E.nx, rt := E.rt, bk := E.bk, ct := E.ct, xt := fun c ρ1 S1 => if c ∈ cs then wC X G b E ρ1 S1 else E.xt c ρ1 S1 } ρ S) := rfl
set_option autoImplicit true in
theorem wX_call : wX X G (.callX f a) ρ S Q = (wL X G a ρ S fun ds S1 => G (f + 1000) ds S1 Q) := rfl
set_option autoImplicit true in
theorem wX_callK : wX X G (.callXK f a ks kp) ρ S Q = (wL X G a ρ S fun ds S1 => wL X G ks ρ S1 fun es S2 => ∃ n m p, X.kps[kp]? = some (n, m, p) ∧ G (f + 1000) (arr n m p ds es) S2 Q) := rfl
set_option autoImplicit true in
theorem wX_ite : wX X G (.ite c a b) ρ S Q = (wT X G c ρ S fun t S1 => if t = true then wX X G a ρ S1 Q else wX X G b ρ S1 Q) := rfl
set_option autoImplicit true in
theorem wX_pl : wX X G (.pl a) ρ S Q = (wE X G a ρ S Q) := rfl
theorem isX_tup {l : List D} {k : Nat → Prop} {p : Prop} : isX (.tup l) k p = p := rfl
theorem isX_lst {l : List D} {k : Nat → Prop} {p : Prop} : isX (.lst l) k p = p := rfl
theorem isX_int {i : Int} {k : Nat → Prop} {p : Prop} : isX (.int i) k p = p := rfl
theorem isX_bl {b : Bool} {k : Nat → Prop} {p : Prop} : isX (.bl b) k p = p := rfl
theorem isX_non {k : Nat → Prop} {p : Prop} : isX .non k p = p := rfl
theorem isX_str {x : Str} {k : Nat → Prop} {p : Prop} : isX (.str x) k p = p := rfl
theorem isX_exc {c : Nat} {k : Nat → Prop} {p : Prop} : isX (.exc c) k p = k c := rfl
theorem wC_whl {c : M} {a : C} {E : ED} {ρ : Rho} {S : Sto} : wC X G (.whl c a) E ρ S = loopW X G c a E ρ S := by unfold loopW; rfl
theorem wC_for {tg : TT'} {it : M} {a : C} {E : ED} {ρ : Rho} {S : Sto} : wC X G (.for tg it a) E ρ S = wI X G it ρ S fun xs stay S1 => loopF X G tg a stay E xs ρ S1 := by unfold loopF; rfl
theorem wE_lc {mu : Bool} {own : List Nat} {tg : TT'} {elt it cond : M} {ρ : Rho} {S : Sto} {Q : D → Sto → Prop} : wE X G (.lc mu own tg elt it cond) ρ S Q = wI X G it ρ S fun xs stay S1 =>
    loopC X G own tg elt cond ρ stay (fun acc S' => if mu = true then ∀ p, S' p = none → Q (.ref p) (S'.put p acc) else Q (.lst acc) S') xs [] S1 := by unfold loopC; rfl
variable (X G) in
@[irreducible] def loopS (own : List Nat) (tg : TT') (elt cond : M) (ρ : Rho) (stay : Sto → Prop) (fin : Int → Sto → Prop) (xs : List D) (n : Int) (S : Sto) : Prop :=
  sumL (fun d k => bindT tg d (wipeD ρ own) k) (fun ρ' S' k => wT X G cond ρ' S' k) (fun ρ' S' k => wE X G elt ρ' S' k) stay fin xs n S
theorem wE_gsum {own : List Nat} {tg : TT'} {elt it cond : M} {ρ : Rho} {S : Sto} {Q : D → Sto → Prop} : wE X G (.gsum own tg elt it cond) ρ S Q = wI X G it ρ S fun xs stay S1 =>
    loopS X G own tg elt cond ρ stay (fun n S' => Q (.int n) S') xs 0 S1 := by unfold loopS; rfl
theorem loopS_ind {own : List Nat} {tg : TT'} {elt cond : M} {ρ : Rho} {stay : Sto → Prop} {fin : Int → Sto → Prop} {xs : List D} {n : Int} {S : Sto} (I : List D → Int → Sto → Prop) (h0 : I xs n S) (nil : ∀ n S, I [] n S → stay S ∧ fin n S)
    (step : ∀ (x : D) (xs : List D) (next : Int → Sto → Prop), (∀ n S, I xs n S → next n S) → ∀ n S, I (x :: xs) n S → stay S ∧ bindT tg x (wipeD ρ own) fun ρ' => wT X G cond ρ' S fun b S1 => if b = true then wE X G elt ρ' S1 fun d S2 => ∃ j, d = .int j ∧ next (n + j) S2 else next n S1) :
    loopS X G own tg elt cond ρ stay fin xs n S := by
  induction xs generalizing n S with
  | nil => unfold loopS; exact nil _ _ h0
  | cons x xs ih =>
    have := step x xs (fun n S => loopS X G own tg elt cond ρ stay fin xs n S) (fun n S h => ih h) _ _ h0
    unfold loopS at this ⊢
    exact this
theorem iSumL {S : Sto} {xs : List D} {k : D → Sto → Prop} : dBi .sum [.lst xs] S k = ∃ ns : List Int, xs = ns.map D.int ∧ k (.int ns.sum) S := rfl
theorem iMaxL {S : Sto} {xs : List D} {k : D → Sto → Prop} : dBi .max [.lst xs] S k = ∃ ns : List Int, xs = ns.map D.int ∧ 0 < ns.length ∧ ∀ m, m ∈ ns → (∀ y, y ∈ ns → y ≤ m) → k (.int m) S := rfl
theorem iMinL {S : Sto} {xs : List D} {k : D → Sto → Prop} : dBi .min [.lst xs] S k = ∃ ns : List Int, xs = ns.map D.int ∧ 0 < ns.length ∧ ∀ m, m ∈ ns → (∀ y, y ∈ ns → m ≤ y) → k (.int m) S := rfl
theorem iMax2 {S : Sto} {i j : Int} {k : D → Sto → Prop} : dBi .max [.int i, .int j] S k = k (.int (if j > i then j else i)) S := rfl
theorem iMin2 {S : Sto} {i j : Int} {k : D → Sto → Prop} : dBi .min [.int i, .int j] S k = k (.int (if j < i then j else i)) S := rfl
variable (X G) in
@[irreducible] def loopA (any : Bool) (own : List Nat) (tg : TT') (elt cond : M) (ρ : Rho) (stay : Sto → Prop) (fin : Bool → Sto → Prop) (xs : List D) (S : Sto) : Prop :=
  allL any (fun d k => bindT tg d (wipeD ρ own) k) (fun ρ' S' k => wT X G cond ρ' S' k) (fun ρ' S' k => wE X G elt ρ' S' k) stay fin xs S
theorem wE_gall {any : Bool} {own : List Nat} {tg : TT'} {elt it cond : M} {ρ : Rho} {S : Sto} {Q : D → Sto → Prop} : wE X G (.gall any own tg elt it cond) ρ S Q = wI X G it ρ S fun xs stay S1 =>
    loopA X G any own tg elt cond ρ stay (fun b S' => Q (.bl b) S') xs S1 := by unfold loopA; rfl
theorem tv_bl {b : Bool} {P : Bool → Prop} : (∃ c, dTv (.bl b) c ∧ P c) = P b := propext ⟨fun ⟨c, e, h⟩ => by cases e; exact h, fun h => ⟨b, rfl, h⟩⟩
theorem tv_int {i : Int} {P : Bool → Prop} : (∃ c, dTv (.int i) c ∧ P c) = P (decide (i ≠ 0)) := propext ⟨fun ⟨c, e, h⟩ => by cases e; exact h, fun h => ⟨_, rfl, h⟩⟩
theorem loopA_ind {any : Bool} {own : List Nat} {tg : TT'} {elt cond : M} {ρ : Rho} {stay : Sto → Prop} {fin : Bool → Sto → Prop} {xs : List D} {S : Sto} (I : List D → Sto → Prop) (h0 : I xs S) (nil : ∀ S, I [] S → stay S ∧ fin (!any) S)
    (step : ∀ (x : D) (xs : List D) (next : Sto → Prop), (∀ S, I xs S → next S) → ∀ S, I (x :: xs) S → stay S ∧ bindT tg x (wipeD ρ own) fun ρ' => wT X G cond ρ' S fun b S1 => if b = true then wE X G elt ρ' S1 fun d S2 => ∃ c, dTv d c ∧ if c = any then fin any S2 else next S2 else next S1) :
    loopA X G any own tg elt cond ρ stay fin xs S := by
  induction xs generalizing S with
  | nil => unfold loopA; exact nil _ h0
  | cons x xs ih =>
    have := step x xs (fun S => loopA X G any own tg elt cond ρ stay fin xs S) (fun S h => ih h) _ h0
    unfold loopA at this ⊢
    exact this
def dIt (S : Sto) (x : D) (Q : List D → (Sto → Prop) → Sto → Prop) : Prop := match x with
      | .tup xs => Q xs (fun _ => True) S
      | .lst xs => Q xs (fun _ => True) S
      | .scr xs => Q xs (fun _ => True) S
      | .ref a => ∃ xs, S a = some xs ∧ Q xs (fun S2 => S2 a = some xs) S
      | _ => False
def dZip (S : Sto) (x y : D) (Q : List D → (Sto → Prop) → Sto → Prop) : Prop := match x, y with
      | .tup xs, .tup ys => Q (List.zipWith (fun x y => .tup [x, y]) xs ys) (fun _ => True) S
      | .lst xs, .lst ys => Q (List.zipWith (fun x y => .tup [x, y]) xs ys) (fun _ => True) S
      | .tup xs, .lst ys => Q (List.zipWith (fun x y => .tup [x, y]) xs ys) (fun _ => True) S
      | .lst xs, .tup ys => Q (List.zipWith (fun x y => .tup [x, y]) xs ys) (fun _ => True) S
      | _, _ => False
def dEnum (S : Sto) (x : D) (Q : List D → (Sto → Prop) → Sto → Prop) : Prop := match x with
      | .tup xs => Q (enumD 0 xs) (fun _ => True) S
      | .lst xs => Q (enumD 0 xs) (fun _ => True) S
      | _ => False
def dRng (S : Sto) (x y : D) (Q : List D → (Sto → Prop) → Sto → Prop) : Prop := ∃ i j, x = .int i ∧ y = .int j ∧ RngOk i j ∧ Q (rangeD i j) (fun _ => True) S
section
variable {S : Sto} {ρ : Rho} {Q : List D → (Sto → Prop) → Sto → Prop} {a b : M} {l m : List D} {p : Addr} {i j : Int}
theorem wI_it : wI X G (.it a) ρ S Q = wE X G a ρ S fun x S1 => dIt S1 x Q := rfl
theorem wI_zip : wI X G (.zip a b) ρ S Q = wE X G a ρ S fun x S1 => wE X G b ρ S1 fun y S2 => dZip S2 x y Q := rfl
theorem wI_rng : wI X G (.rng a b) ρ S Q = wE X G a ρ S fun x S1 => wE X G b ρ S1 fun y S2 => dRng S2 x y Q := rfl
theorem wI_enum : wI X G (.enum a) ρ S Q = wE X G a ρ S fun x S1 => dEnum S1 x Q := rfl
theorem enum_tup : dEnum S (.tup l) Q = Q (enumD 0 l) (fun _ => True) S := rfl
theorem enum_lst : dEnum S (.lst l) Q = Q (enumD 0 l) (fun _ => True) S := rfl
theorem it_tup : dIt S (.tup l) Q = Q l (fun _ => True) S := rfl
theorem it_lst : dIt S (.lst l) Q = Q l (fun _ => True) S := rfl
theorem it_scr : dIt S (.scr l) Q = Q l (fun _ => True) S := rfl
theorem it_ref : dIt S (.ref p) Q = ∃ xs, S p = some xs ∧ Q xs (fun S2 => S2 p = some xs) S := rfl
theorem zip_tup : dZip S (.tup l) (.tup m) Q = Q (List.zipWith (fun x y => .tup [x, y]) l m) (fun _ => True) S := rfl
theorem zip_lst : dZip S (.lst l) (.lst m) Q = Q (List.zipWith (fun x y => .tup [x, y]) l m) (fun _ => True) S := rfl
theorem zip_tl : dZip S (.tup l) (.lst m) Q = Q (List.zipWith (fun x y => .tup [x, y]) l m) (fun _ => True) S := rfl
theorem zip_lt : dZip S (.lst l) (.tup m) Q = Q (List.zipWith (fun x y => .tup [x, y]) l m) (fun _ => True) S := rfl
theorem rng_int : dRng S (.int i) (.int j) Q = (RngOk i j ∧ Q (rangeD i j) (fun _ => True) S) := by simp [dRng]
end
theorem loopF_ind {tg : TT'} {a : C} {stay : Sto → Prop} {E : ED} {xs : List D} {ρ : Rho} {S : Sto} (I : List D → Rho → Sto → Prop) (h0 : I xs ρ S) (nil : ∀ ρ S, I [] ρ S → stay S ∧ E.nx ρ S)
    (step : ∀ (x : D) (xs : List D) (next : Rho → Sto → Prop), (∀ ρ S, I xs ρ S → next ρ S) → ∀ ρ S, I (x :: xs) ρ S → stay S ∧ bindT tg x ρ fun ρ1 => wC X G a { nx := next, ct := next, bk := E.nx, rt := E.rt, xt := E.xt } ρ1 S) : loopF X G tg a stay E xs ρ S := by
  induction xs generalizing ρ S with
  | nil => unfold loopF; exact nil _ _ h0
  | cons x xs ih =>
    have := step x xs (fun ρ S => loopF X G tg a stay E xs ρ S) (fun ρ S h => ih h) _ _ h0
    unfold loopF at this ⊢
    exact this
theorem loopW_ind {c : M} {a : C} {E : ED} {ρ : Rho} {S : Sto} (I : Nat → Rho → Sto → Prop) (m : Nat) (h0 : I m ρ S)
    (step : ∀ (m : Nat) (next : Rho → Sto → Prop), (∀ m' ρ S, m = m' + 1 → I m' ρ S → next ρ S) → ∀ ρ S, I m ρ S → wT X G c ρ S fun t S1 => if t = true then wC X G a { nx := next, ct := next, bk := E.nx, rt := E.rt, xt := E.xt } ρ S1 else E.nx ρ S1) : loopW X G c a E ρ S := by
  unfold loopW
  refine ⟨m + 1, ?_⟩
  induction m generalizing ρ S with
  | zero => exact step 0 _ (fun m' _ _ e => by omega) _ _ h0
  | succ m ih => exact step (m + 1) _ (fun m' ρ S e h => by cases e; exact ih h) _ _ h0
theorem loopC_ind {own : List Nat} {tg : TT'} {elt cond : M} {ρ : Rho} {stay : Sto → Prop} {fin : List D → Sto → Prop} {xs acc : List D} {S : Sto} (I : List D → List D → Sto → Prop) (h0 : I xs acc S) (nil : ∀ acc S, I [] acc S → stay S ∧ fin acc S)
    (step : ∀ (x : D) (xs : List D) (next : List D → Sto → Prop), (∀ acc S, I xs acc S → next acc S) → ∀ acc S, I (x :: xs) acc S → stay S ∧ acc.length < LIM ∧ bindT tg x (wipeD ρ own) fun ρ' => wT X G cond ρ' S fun b S1 => if b = true then wE X G elt ρ' S1 fun d S2 => next (acc ++ [d]) S2 else next acc S1) :
    loopC X G own tg elt cond ρ stay fin xs acc S := by
  induction xs generalizing acc S with
  | nil => unfold loopC; exact nil _ _ h0
  | cons x xs ih =>
    have := step x xs (fun acc S => loopC X G own tg elt cond ρ stay fin xs acc S) (fun acc S h => ih h) _ _ h0
    unfold loopC at this ⊢
    exact this
theorem loopF_congr {tg : TT'} {a : C} {stay : Sto → Prop} {E : ED} {xs ys : List D} {ρ ρ' : Rho} {S : Sto} (h1 : xs = ys) (h2 : ρ = ρ') : loopF X G tg a stay E xs ρ S = loopF X G tg a stay E ys ρ' S := by subst h1; subst h2; rfl
theorem loopW_congr {c : M} {a : C} {E : ED} {ρ ρ' : Rho} {S : Sto} (h2 : ρ = ρ') : loopW X G c a E ρ S = loopW X G c a E ρ' S := by subst h2; rfl
theorem loopC_congr {own : List Nat} {tg : TT'} {elt cond : M} {ρ ρ' : Rho} {stay : Sto → Prop} {fin : List D → Sto → Prop} {xs ys acc : List D} {S : Sto} (h1 : xs = ys) (h2 : ρ = ρ') : loopC X G own tg elt cond ρ stay fin xs acc S = loopC X G own tg elt cond ρ' stay fin ys acc S := by subst h1; subst h2; rfl
theorem callD_congr {fs : List FnD} {k f : Nat} {ds es : List D} {S : Sto} {Q : D → Sto → Prop} (h : ds = es) : callD X fs k f ds S Q = callD X fs k f es S Q := by subst h; rfl
end
-- the running of straight text

end DL
local macro_rules | `(tactic| wp_walk using RUN) => `(tactic| simp only [↓DL.wC_done, ↓DL.wC_xasg, ↓DL.wC_xret, ↓DL.wC_xex, ↓DL.wC_rai, ↓DL.wC_tr, ↓DL.wX_call, ↓DL.wX_callK, ↓DL.wX_ite, ↓DL.wX_pl, DL.isX_tup, DL.isX_lst, DL.isX_int, DL.isX_bl, DL.isX_non, DL.isX_str, DL.isX_exc, ↓DL.wC_seq, ↓DL.wC_asg, ↓DL.wC_swap, ↓DL.wC_swap3, ↓DL.wC_augv, ↓DL.wC_augs, ↓DL.wC_sets, ↓DL.wC_frz, ↓DL.wC_ret, ↓DL.wC_retN, ↓DL.wC_brk, ↓DL.wC_cont, ↓DL.wC_ex, ↓DL.wC_ite, ↓DL.wC_whl, ↓DL.wC_for, ↓DL.wE_v, ↓DL.wE_c, ↓DL.wE_g, ↓DL.wE_tup, ↓DL.wE_lst, ↓DL.wE_bin, ↓DL.wE_cat, ↓DL.cat_rl, ↓DL.cat_ll, ↓DL.wE_rep, ↓DL.rep_li, ↓DL.wE_neg, ↓DL.wE_not, ↓DL.wE_cmp, ↓DL.wE_chain, ↓DL.wE_and, ↓DL.wE_or, ↓DL.wE_ite, ↓DL.wE_call, ↓DL.wE_callK, ↓DL.wE_bi, ↓DL.wE_isi, ↓DL.wE_ix, ↓DL.wE_sl, ↓DL.wE_meth, ↓DL.wE_lc, ↓DL.wE_gall, ↓DL.tv_bl, ↓DL.tv_int, ↓DL.wE_gsum, ↓DL.iSumL, ↓DL.iMaxL, ↓DL.iMinL, ↓DL.iMax2, ↓DL.iMin2, ↓DL.wT, ↓DL.wL, ↓DL.wO, ↓DL.wI_it, ↓DL.wI_zip, ↓DL.wI_rng, ↓DL.wI_enum, ↓DL.enum_tup, ↓DL.enum_lst, ↓DL.it_tup, ↓DL.it_lst, ↓DL.it_scr, ↓DL.it_ref, ↓DL.zip_tup, ↓DL.zip_lst, ↓DL.zip_tl, ↓DL.zip_lt, ↓DL.rng_int, DL.lim0, DL.lim1, DL.lim2, DL.lim3, DL.lim4, DL.lim5, DL.lim6, DL.lim7, DL.lim8, DL.lim9, true_and, ↓DL.bMulL, ↓DL.bMulT, ↓DL.bAddT, ↓DL.bAddL, DL.cut1, ↓DL.iTupR, ↓DL.iLenR, ↓DL.iLstL, ↓DL.iLstT, ↓DL.iLstC, ↓DL.mApp, ↓DL.mPop, ↓DL.mRev, ↓DL.slT, ↓DL.slL, ↓DL.slC, ↓DL.cIsT, ↓DL.cIsI, ↓DL.isTb, ↓DL.isTi, ↓DL.isTs, ↓DL.isTt, ↓DL.isIb, ↓DL.isIi, ↓DL.isIs, ↓DL.isIt, ↓DL.tBl, DL.esml, DL.esmt, ↓DL.rRef, ↓DL.ixRef, ↓DL.setRef, ↓DL.iy0, ↓DL.iy1, ↓DL.iy2, ↓DL.iy3, ↓DL.iy4, ↓DL.iy5, ↓DL.iz0, ↓DL.iz1, ↓DL.iz2, ↓DL.iz3, ↓DL.iz4, ↓DL.iz5, ↓DL.ag1, ↓DL.ag2, DL.Sto.put_same, DL.Sto.put_put, Bool.not_false, Bool.not_true, eq_self, decide_true, decide_false, ↓DL.bT_n, ↓DL.bT_t, ↓DL.bT_nil, ↓DL.bT_cons, DL.startD, DL.wipeD, List.map_cons, List.map_nil, List.length_cons, List.length_nil, List.cons_append, List.nil_append, List.replicate, Nat.reduceAdd, Nat.reduceSub, Nat.zero_add, Nat.add_zero, Nat.sub_self, List.getElem?_cons_zero, List.getElem?_cons_succ, List.set_cons_zero, List.set_cons_succ, List.replicate_zero, List.replicate_succ, DL.SC.d, ↓DL.ix0, ↓DL.ix1, ↓DL.ix2, ↓DL.ix3, ↓DL.ix4, ↓DL.ixf0, ↓DL.ixf1, ↓DL.cEq, ↓DL.cNe, ↓DL.cLt, ↓DL.cLe, ↓DL.cGt, ↓DL.cGe, ↓DL.bAdd, ↓DL.bSub, ↓DL.bMul, ↓DL.bDiv, ↓DL.bMod, ↓DL.bP6, ↓DL.bP9, ↓DL.bP18, ↓DL.bP20, DL.ernd, ↓DL.iInt, ↓DL.iBool, ↓DL.iAbs, ↓DL.iLenT, ↓DL.iLenL, ↓DL.iLenC, ↓DL.iTupL, ↓DL.iTupT, ↓DL.tInt, DL.ebl, DL.eint, DL.esome, DL.esm, decide_eq_true_eq, Bool.not_eq_true', decide_eq_false_iff_not, ↓reduceIte, Bool.false_eq_true])
local macro_rules | `(tactic| wp_walk using RUN, $ts,*) => `(tactic| simp only [↓DL.wC_done, ↓DL.wC_xasg, ↓DL.wC_xret, ↓DL.wC_xex, ↓DL.wC_rai, ↓DL.wC_tr, ↓DL.wX_call, ↓DL.wX_callK, ↓DL.wX_ite, ↓DL.wX_pl, DL.isX_tup, DL.isX_lst, DL.isX_int, DL.isX_bl, DL.isX_non, DL.isX_str, DL.isX_exc, ↓DL.wC_seq, ↓DL.wC_asg, ↓DL.wC_swap, ↓DL.wC_swap3, ↓DL.wC_augv, ↓DL.wC_augs, ↓DL.wC_sets, ↓DL.wC_frz, ↓DL.wC_ret, ↓DL.wC_retN, ↓DL.wC_brk, ↓DL.wC_cont, ↓DL.wC_ex, ↓DL.wC_ite, ↓DL.wC_whl, ↓DL.wC_for, ↓DL.wE_v, ↓DL.wE_c, ↓DL.wE_g, ↓DL.wE_tup, ↓DL.wE_lst, ↓DL.wE_bin, ↓DL.wE_cat, ↓DL.cat_rl, ↓DL.cat_ll, ↓DL.wE_rep, ↓DL.rep_li, ↓DL.wE_neg, ↓DL.wE_not, ↓DL.wE_cmp, ↓DL.wE_chain, ↓DL.wE_and, ↓DL.wE_or, ↓DL.wE_ite, ↓DL.wE_call, ↓DL.wE_callK, ↓DL.wE_bi, ↓DL.wE_isi, ↓DL.wE_ix, ↓DL.wE_sl, ↓DL.wE_meth, ↓DL.wE_lc, ↓DL.wE_gall, ↓DL.tv_bl, ↓DL.tv_int, ↓DL.wE_gsum, ↓DL.iSumL, ↓DL.iMaxL, ↓DL.iMinL, ↓DL.iMax2, ↓DL.iMin2, ↓DL.wT, ↓DL.wL, ↓DL.wO, ↓DL.wI_it, ↓DL.wI_zip, ↓DL.wI_rng, ↓DL.wI_enum, ↓DL.enum_tup, ↓DL.enum_lst, ↓DL.it_tup, ↓DL.it_lst, ↓DL.it_scr, ↓DL.it_ref, ↓DL.zip_tup, ↓DL.zip_lst, ↓DL.zip_tl, ↓DL.zip_lt, ↓DL.rng_int, DL.lim0, DL.lim1, DL.lim2, DL.lim3, DL.lim4, DL.lim5, DL.lim6, DL.lim7, DL.lim8, DL.lim9, true_and, ↓DL.bMulL, ↓DL.bMulT, ↓DL.bAddT, ↓DL.bAddL, DL.cut1, ↓DL.iTupR, ↓DL.iLenR, ↓DL.iLstL, ↓DL.iLstT, ↓DL.iLstC, ↓DL.mApp, ↓DL.mPop, ↓DL.mRev, ↓DL.slT, ↓DL.slL, ↓DL.slC, ↓DL.cIsT, ↓DL.cIsI, ↓DL.isTb, ↓DL.isTi, ↓DL.isTs, ↓DL.isTt, ↓DL.isIb, ↓DL.isIi, ↓DL.isIs, ↓DL.isIt, ↓DL.tBl, DL.esml, DL.esmt, ↓DL.rRef, ↓DL.ixRef, ↓DL.setRef, ↓DL.iy0, ↓DL.iy1, ↓DL.iy2, ↓DL.iy3, ↓DL.iy4, ↓DL.iy5, ↓DL.iz0, ↓DL.iz1, ↓DL.iz2, ↓DL.iz3, ↓DL.iz4, ↓DL.iz5, ↓DL.ag1, ↓DL.ag2, DL.Sto.put_same, DL.Sto.put_put, Bool.not_false, Bool.not_true, eq_self, decide_true, decide_false, ↓DL.bT_n, ↓DL.bT_t, ↓DL.bT_nil, ↓DL.bT_cons, DL.startD, DL.wipeD, List.map_cons, List.map_nil, List.length_cons, List.length_nil, List.cons_append, List.nil_append, List.replicate, Nat.reduceAdd, Nat.reduceSub, Nat.zero_add, Nat.add_zero, Nat.sub_self, List.getElem?_cons_zero, List.getElem?_cons_succ, List.set_cons_zero, List.set_cons_succ, List.replicate_zero, List.replicate_succ, DL.SC.d, ↓DL.ix0, ↓DL.ix1, ↓DL.ix2, ↓DL.ix3, ↓DL.ix4, ↓DL.ixf0, ↓DL.ixf1, ↓DL.cEq, ↓DL.cNe, ↓DL.cLt, ↓DL.cLe, ↓DL.cGt, ↓DL.cGe, ↓DL.bAdd, ↓DL.bSub, ↓DL.bMul, ↓DL.bDiv, ↓DL.bMod, ↓DL.bP6, ↓DL.bP9, ↓DL.bP18, ↓DL.bP20, DL.ernd, ↓DL.iInt, ↓DL.iBool, ↓DL.iAbs, ↓DL.iLenT, ↓DL.iLenL, ↓DL.iLenC, ↓DL.iTupL, ↓DL.iTupT, ↓DL.tInt, DL.ebl, DL.eint, DL.esome, DL.esm, decide_eq_true_eq, Bool.not_eq_true', decide_eq_false_iff_not, ↓reduceIte, Bool.false_eq_true, $[$ts:term],*])

set_option Elab.async false
set_option linter.all false
set_option maxRecDepth 100000
/-! DLP: planes with whole numbers. -/
namespace DL
open PySem
def lcmF (l : Nat) (r : List Rat) : Nat := r.foldl (fun f x => Nat.lcm f x.den) l
abbrev numsL (L : Nat) (r : List Rat) : List Int := r.map fun x => x.num * ((L / x.den : Nat) : Int)
def gcdF (g : Nat) (ns : List Int) : Nat := ns.foldl (fun g n => Int.gcd (g : Int) n) g
def lead : List Int → Int
  | [] => 0
  | n :: r => if n = 0 then lead r else n
theorem lcmF_dvd {l : Nat} {r : List Rat} : l ∣ lcmF l r ∧ ∀ x ∈ r, x.den ∣ lcmF l r := by
  induction r generalizing l with
  | nil => exact ⟨Nat.dvd_refl _, fun x h => nomatch h⟩
  | cons a r ih =>
    have := @ih (Nat.lcm l a.den)
    refine ⟨Nat.dvd_trans (Nat.dvd_lcm_left ..) this.1, fun x h => ?_⟩
    rcases List.mem_cons.mp h with q | q
    · rw [q]; exact Nat.dvd_trans (Nat.dvd_lcm_right ..) this.1
    · exact this.2 x q
theorem lcmF_pos {l : Nat} {r : List Rat} (h : 0 < l) : 0 < lcmF l r := by
  induction r generalizing l with
  | nil => exact h
  | cons a r ih => exact ih (Nat.lcm_pos h a.den_pos)
theorem lcmF_lt {l b B : Nat} {r : List Rat} (h : l < 2 ^ b) (g : ∀ x ∈ r, FB B x) : lcmF l r < 2 ^ (b + B * r.length) := by
  induction r generalizing l b with
  | nil => exact h
  | cons a r ih =>
    have h1 : Nat.lcm l a.den < 2 ^ (b + B) := Nat.lt_of_le_of_lt (Nat.div_le_self _ _) (lt_pow_mul h (g a List.mem_cons_self).2)
    have := @ih (Nat.lcm l a.den) (b + B) h1 fun x h => g x (List.mem_cons_of_mem _ h)
    refine pow2_mono this ?_
    rw [List.length_cons, Nat.mul_add]; omega
theorem gcdF_dvd {g : Nat} {ns : List Int} : gcdF g ns ∣ g ∧ ∀ n ∈ ns, (gcdF g ns : Int) ∣ n := by
  induction ns generalizing g with
  | nil => exact ⟨Nat.dvd_refl _, fun x h => nomatch h⟩
  | cons a r ih =>
    have := @ih (Int.gcd (g : Int) a)
    refine ⟨Nat.dvd_trans this.1 ?_, fun x h => ?_⟩
    · have := Int.gcd_dvd_left (g : Int) a
      exact Int.natCast_dvd_natCast.mp this
    · rcases List.mem_cons.mp h with q | q
      · rw [q]; exact Int.dvd_trans (Int.natCast_dvd_natCast.mpr this.1) (Int.gcd_dvd_right (g : Int) a)
      · exact this.2 x q
theorem gcdF_mul {c : Int} {g : Nat} {ns : List Int} : gcdF (c.natAbs * g) (ns.map (c * ·)) = c.natAbs * gcdF g ns := by
  induction ns generalizing g with
  | nil => rfl
  | cons a r ih =>
    have e : Int.gcd ((c.natAbs * g : Nat) : Int) (c * a) = c.natAbs * Int.gcd (g : Int) a := by
      show Nat.gcd (c.natAbs * g) (c * a).natAbs = c.natAbs * Nat.gcd g a.natAbs
      rw [Int.natAbs_mul, Nat.gcd_mul_left]
    show gcdF (Int.gcd ((c.natAbs * g : Nat) : Int) (c * a)) (r.map (c * ·)) = _
    rw [e, ih]; rfl
theorem gcdF_le {g B : Nat} {ns : List Int} (h : g < 2 ^ B) (hn : ∀ n ∈ ns, n.natAbs < 2 ^ B) : gcdF g ns < 2 ^ B := by
  induction ns generalizing g with
  | nil => exact h
  | cons a r ih =>
    refine ih ?_ fun n q => hn n (List.mem_cons_of_mem _ q)
    have ha := hn a List.mem_cons_self
    by_cases z : g = 0
    · subst z; show Nat.gcd 0 a.natAbs < _; rw [Nat.gcd_zero_left]; exact ha
    · exact Nat.lt_of_le_of_lt (Nat.gcd_le_left _ (by omega)) h
theorem lead_zero {ns : List Int} : lead ns = 0 ↔ ∀ n ∈ ns, n = 0 := by
  induction ns with
  | nil => exact ⟨fun _ n h => (nomatch h), fun _ => rfl⟩
  | cons a r ih =>
    unfold lead
    split
    · rename_i q
      rw [ih]
      exact ⟨fun h n z => by rcases List.mem_cons.mp z with w | w; rw [w]; exact q; exact h n w, fun h n z => h n (List.mem_cons_of_mem _ z)⟩
    · rename_i q
      exact ⟨fun h => absurd h q, fun h => h a List.mem_cons_self⟩
theorem lead_map {f : Int → Int} {ns : List Int} (h0 : f 0 = 0) (h : ∀ n ∈ ns, f n = 0 → n = 0) : lead (ns.map f) = f (lead ns) := by
  induction ns with
  | nil => exact h0.symm
  | cons a r ih =>
    have ih := ih fun n q => h n (List.mem_cons_of_mem _ q)
    show (if f a = 0 then lead (r.map f) else f a) = f (if a = 0 then lead r else a)
    by_cases q : a = 0
    · subst q; rw [if_pos h0, if_pos rfl, ih]
    · rw [if_neg q, if_neg fun z => q (h a List.mem_cons_self z)]
theorem lead_filter {ns : List Int} : (lead ns = 0 ∧ ns.filter (fun n => decide (n ≠ 0)) = []) ∨ (lead ns ≠ 0 ∧ ∃ l, ns.filter (fun n => decide (n ≠ 0)) = lead ns :: l) := by
  induction ns with
  | nil => exact .inl ⟨rfl, rfl⟩
  | cons a r ih =>
    unfold lead
    by_cases q : a = 0
    · rw [if_pos q, List.filter_cons_of_neg (by simpa using q)]; exact ih
    · rw [if_neg q, List.filter_cons_of_pos (by simpa using q)]; exact .inr ⟨q, _, rfl⟩
theorem lead_append {a b : List Int} (h : lead a ≠ 0) : lead (a ++ b) = lead a := by
  induction a with
  | nil => exact absurd rfl h
  | cons x a ih =>
    show (if x = 0 then lead (a ++ b) else x) = if x = 0 then lead a else x
    by_cases q : x = 0
    · rw [if_pos q, if_pos q]; refine ih ?_; unfold lead at h; rw [if_pos q] at h; exact h
    · rw [if_neg q, if_neg q]
/-- s times the whole row is the row; no common divisor, the first that is not 0 above 0 -/
structure IsPl (r : List Rat) (ps : List Int) (s : Rat) : Prop where
  nz : s ≠ 0
  eq : r = ps.map fun p : Int => s * (p : Rat)
  one : gcdF 0 ps = 1
  pos : 0 < lead ps
def planeN (r : List Rat) : List Int := numsL (lcmF 1 r) r
def planeBy (r : List Rat) : Int := if lead (planeN r) < 0 then -(gcdF 0 (planeN r) : Int) else gcdF 0 (planeN r)
def planeP (r : List Rat) : List Int := (planeN r).map fun n => n.fdiv (planeBy r)
def planeS (r : List Rat) : Rat := Rat.divInt (planeBy r) (lcmF 1 r)
theorem numsL_at {L : Nat} {x : Rat} (h : x.den ∣ L) (hL : L ≠ 0) : Rat.divInt (x.num * ((L / x.den : Nat) : Int)) L = x := by
  obtain ⟨c, rfl⟩ := h
  have hc : c ≠ 0 := by rintro rfl; simp at hL
  rw [Nat.mul_div_cancel_left _ x.den_pos, Int.natCast_mul, Rat.divInt_mul_right (by omega)]
  exact Rat.num_divInt_den x
theorem planeBy_abs {r : List Rat} : (planeBy r).natAbs = gcdF 0 (planeN r) := by unfold planeBy; split <;> simp
theorem planeBy_ne {r : List Rat} (h : lead (planeN r) ≠ 0) : planeBy r ≠ 0 := fun z => by
  have e : gcdF 0 (planeN r) = 0 := by rw [← planeBy_abs, z]; rfl
  refine h (lead_zero.mpr fun n hn => ?_)
  have := (gcdF_dvd (g := 0)).2 n hn
  rw [e] at this
  exact Int.zero_dvd.mp this
theorem planeBy_dvd {r : List Rat} {n : Int} (h : n ∈ planeN r) : planeBy r ∣ n := by
  have := (gcdF_dvd (g := 0)).2 n h
  unfold planeBy
  split
  · exact Int.neg_dvd.mpr this
  · exact this
theorem planeP_mul {r : List Rat} (h : lead (planeN r) ≠ 0) : (planeP r).map (planeBy r * ·) = planeN r := by
  unfold planeP
  rw [List.map_map]
  conv => rhs; rw [← List.map_id (planeN r)]
  refine List.map_congr_left fun n hn => ?_
  show planeBy r * n.fdiv (planeBy r) = n
  rw [fdiv_of_dvd (planeBy_dvd hn)]
  exact Int.mul_ediv_cancel' (planeBy_dvd hn)
theorem planeN_lead {r : List Rat} (h : ∃ x ∈ r, x ≠ 0) : lead (planeN r) ≠ 0 := fun z => by
  obtain ⟨x, hx, h⟩ := h
  have := lead_zero.mp z _ (List.mem_map_of_mem hx)
  have e := numsL_at ((lcmF_dvd (l := 1)).2 x hx) (Nat.ne_of_gt (lcmF_pos (by decide)))
  rw [this, Rat.zero_divInt] at e
  exact h e.symm
theorem plane_is {r : List Rat} (h : ∃ x ∈ r, x ≠ 0) : IsPl r (planeP r) (planeS r) := by
  have hl := planeN_lead h
  have hb := planeBy_ne hl
  have hL : lcmF 1 r ≠ 0 := Nat.ne_of_gt (lcmF_pos (by decide))
  have hL' : (lcmF 1 r : Int) ≠ 0 := by omega
  have em := planeP_mul hl
  have hG : gcdF 0 (planeN r) ≠ 0 := fun z => hb (by have := planeBy_abs (r := r); omega)
  refine ⟨?_, ?_, ?_, ?_⟩
  · intro z
    unfold planeS at z
    rw [← Rat.zero_divInt 1, Rat.divInt_eq_divInt_iff hL' (by decide)] at z
    omega
  · have e : (planeP r).map (fun p : Int => planeS r * (p : Rat)) = (planeN r).map fun n => Rat.divInt n (lcmF 1 r) := by
      rw [← em, List.map_map]
      refine List.map_congr_left fun p _ => ?_
      show Rat.divInt (planeBy r) (lcmF 1 r) * (p : Rat) = Rat.divInt (planeBy r * p) (lcmF 1 r)
      rw [show ((p : Int) : Rat) = Rat.divInt p 1 from by rw [Rat.divInt_eq_div]; grind, Rat.divInt_mul_divInt, Int.mul_one]
    rw [e]
    unfold planeN
    rw [List.map_map]
    conv => lhs; rw [← List.map_id r]
    refine List.map_congr_left fun x hx => ?_
    exact (numsL_at ((lcmF_dvd (l := 1)).2 x hx) hL).symm
  · have e := gcdF_mul (c := planeBy r) (g := 0) (ns := planeP r)
    rw [Nat.mul_zero, em, planeBy_abs] at e
    have : gcdF 0 (planeN r) * gcdF 0 (planeP r) = gcdF 0 (planeN r) * 1 := by omega
    exact Nat.eq_of_mul_eq_mul_left (by omega) this
  · have e : lead (planeN r) = planeBy r * lead (planeP r) := by
      conv => lhs; rw [← em]
      exact lead_map (Int.mul_zero _) fun n _ z => (Int.mul_eq_zero.mp z).resolve_left hb
    refine Int.not_le.mp fun q => ?_
    by_cases s : lead (planeN r) < 0
    · have b0 : planeBy r < 0 := by unfold planeBy; rw [if_pos s]; omega
      have := Int.mul_nonneg_of_nonpos_of_nonpos (show planeBy r ≤ 0 by omega) q
      omega
    · have b0 : 0 < planeBy r := by unfold planeBy; rw [if_neg s]; omega
      have := Int.mul_nonpos_of_nonneg_of_nonpos (show 0 ≤ planeBy r by omega) q
      omega
theorem den_num (q : Rat) : q * ((q.den : Int) : Rat) = (q.num : Rat) := by
  have e := Rat.num_divInt_den q
  rw [Rat.divInt_eq_div] at e
  have nz : ((q.den : Int) : Rat) ≠ 0 := fun z => den_ne q (Rat.intCast_eq_zero_iff.mp z)
  grind
theorem map_inj' {α β : Type} {f : α → β} (h : ∀ a b, f a = f b → a = b) : ∀ {l m : List α}, l.map f = m.map f → l = m
  | [], [], _ => rfl
  | a :: l, [], e => nomatch e
  | [], a :: l, e => nomatch e
  | a :: l, b :: m, e => by
    rw [List.map_cons, List.map_cons] at e
    injection e with e1 e2
    rw [h a b e1, map_inj' h e2]
theorem plane_one {r : List Rat} {ps qs : List Int} {s s' t : Rat} (ht : t ≠ 0) (h : IsPl r ps s) (g : IsPl (r.map (t * ·)) qs s') : qs = ps ∧ s' = s * t := by
  have hq : (t * s / s') * s' = t * s := Rat.div_mul_cancel g.nz
  revert hq
  generalize t * s / s' = q
  intro hq
  have hv : (q.den : Int) ≠ 0 := den_ne q
  have e : qs.map ((q.den : Int) * ·) = ps.map (q.num * ·) := by
    refine map_inj' (f := fun n : Int => (n : Rat)) (fun a b e => Rat.intCast_inj.mp e) ?_
    have e := g.eq
    rw [h.eq, List.map_map] at e
    rw [List.map_map, List.map_map]
    have e2 := congrArg (List.map fun x : Rat => x * ((q.den : Int) : Rat) / s') e
    rw [List.map_map, List.map_map] at e2
    have qd : q * ((q.den : Int) : Rat) = (q.num : Rat) := den_num q
    refine Eq.trans (List.map_congr_left fun p _ => ?_) (e2.symm.trans (List.map_congr_left fun p _ => ?_))
    · show (((q.den : Int) * p : Int) : Rat) = s' * (p : Rat) * ((q.den : Int) : Rat) / s'
      rw [Rat.intCast_mul]
      have := g.nz
      grind
    · show t * (s * (p : Rat)) * ((q.den : Int) : Rat) / s' = ((q.num * p : Int) : Rat)
      rw [Rat.intCast_mul, ← qd]
      have := g.nz
      grind
  have e1 := gcdF_mul (c := (q.den : Int)) (g := 0) (ns := qs)
  have e2 := gcdF_mul (c := q.num) (g := 0) (ns := ps)
  rw [Nat.mul_zero, g.one] at e1
  rw [Nat.mul_zero, h.one] at e2
  rw [e, e2] at e1
  have hd := q.den_pos
  have e3 : q.num.natAbs = q.den := by omega
  rcases Int.lt_or_le q.num 0 with z | z
  · exfalso
    have l1 := lead_map (f := ((q.den : Int) * ·)) (ns := qs) (Int.mul_zero _) fun n _ z => (Int.mul_eq_zero.mp z).resolve_left hv
    have l2 := lead_map (f := (q.num * ·)) (ns := ps) (Int.mul_zero _) fun n _ z => (Int.mul_eq_zero.mp z).resolve_left (by omega)
    rw [e, l2] at l1
    have p1 := Int.mul_pos (show (0 : Int) < q.den by omega) g.pos
    have p2 := Int.mul_neg_of_neg_of_pos z h.pos
    have l1 : q.num * lead ps = (q.den : Int) * lead qs := l1
    omega
  · have en : q.num = (q.den : Int) := by omega
    rw [en] at e
    have eqs : qs = ps := map_inj' (fun a b (z : (q.den : Int) * a = (q.den : Int) * b) => Int.eq_of_mul_eq_mul_left hv z) e
    refine ⟨eqs, ?_⟩
    have q1 : q = 1 := by
      have qd : q * ((q.den : Int) : Rat) = (q.num : Rat) := den_num q
      rw [en] at qd
      have nz : ((q.den : Int) : Rat) ≠ 0 := fun z => hv (Rat.intCast_eq_zero_iff.mp z)
      grind
    rw [q1] at hq
    grind
/-- bounds -/
theorem planeN_lt {r : List Rat} {B : Nat} (h : ∀ x ∈ r, FB B x) : ∀ n ∈ planeN r, n.natAbs < 2 ^ (B + (1 + B * r.length)) := fun n hn => by
  obtain ⟨x, hx, rfl⟩ := List.mem_map.mp hn
  rw [Int.natAbs_mul, Int.natAbs_natCast]
  exact lt_pow_mul (h x hx).1 (Nat.lt_of_le_of_lt (Nat.div_le_self _ _) (lcmF_lt (by decide) h))
end DL
namespace DL
open PySem PySem.Spec L2
@[irreducible] def E19 : Int := 10000000000000000000
theorem E19_eq : E19 = 10000000000000000000 := by unfold E19; rfl
theorem bP19 {k : D → Prop} : dBin .pow (.int 10) (.int 19) k = k (.int E19) := by unfold E19; exact bPow (by unfold PowOk CPow; decide)
theorem pl_eqv {n : Nat} {d : D} (h : Pl n d) : ∀ p, toPy d = some p → PyData.eqv p p = true := by
  induction h with
  | int n i => intro p e; cases e; simp [PyData.eqv]
  | tup n ds hd hl ih =>
    intro p e
    have : ∀ (l : List D) (ps : List PyData), (∀ d ∈ l, ∀ p, toPy d = some p → PyData.eqv p p = true) → toPy.toPys l = some ps → PyData.eqvAll ps ps = true := by
      intro l
      induction l with
      | nil => intro ps _ e; cases e; simp [PyData.eqvAll]
      | cons x xs ihx =>
        intro ps hx e
        simp only [toPy.toPys] at e
        cases h1 : toPy x with
        | none => rw [h1] at e; cases e
        | some y =>
          cases h2 : toPy.toPys xs with
          | none => rw [h1, h2] at e; cases e
          | some ys =>
            rw [h1, h2] at e
            cases e
            simp only [PyData.eqvAll, hx x List.mem_cons_self y h1, ihx ys (fun d h => hx d (List.mem_cons_of_mem _ h)) h2, Bool.and_true]
    simp only [toPy] at e
    cases h1 : toPy.toPys ds with
    | none => rw [h1] at e; cases e
    | some ps =>
      rw [h1] at e
      cases e
      simp only [PyData.eqv]
      exact this ds ps ih h1
theorem tup_same {S : Sto} {n : Nat} {ds : List D} {k : D → Prop} (h : Pl n (.tup ds)) (hn : n ≤ 60) (g : k (.bl false)) : dCmp S .ne (.tup ds) (.tup ds) k := by
  obtain ⟨p, h1, h2, h3⟩ := pl_py h
  refine ⟨p, p, h1, h1, ?_, ?_, ?_⟩
  · simp only [SeqAt.shaped, h2, Bool.true_and]; exact decide_eq_true (by omega)
  · simp only [SeqAt.shaped, h2, Bool.true_and]; exact decide_eq_true (by omega)
  · rw [pl_eqv h p h1]; exact g
theorem bTfr {a b : TT'} {x : Rat} {ρ : Rho} {k : Rho → Prop} : bindT (.t (.cons a (.cons b .nil))) (fr x) ρ k = bindT a (.int x.num) ρ fun ρ1 => bindT b (.int (x.den : Int)) ρ1 k := rfl
theorem cut_m1 {α : Type} {l : List α} {z : α} : cutD (l ++ [z]) none (some (-1)) = l := by
  unfold cutD HT.sIx
  simp only [List.drop_zero, Nat.sub_zero, List.length_append, List.length_singleton]
  rw [if_pos (by decide)]
  rw [show (-1 + ((l.length + 1 : Nat) : Int)).toNat = l.length by omega]
  simp
theorem ix_m1 {S : Sto} {l : List D} {z : D} {k : D → Prop} : dIx S (.lst (l ++ [z])) (.int (-1)) k = k z := by
  show (∃ d', atI (l ++ [z]) (-1) = some d' ∧ k d') = _
  have : atI (l ++ [z]) (-1) = some z := by
    unfold atI ixN
    rw [if_neg (by decide), List.length_append, List.length_singleton, if_pos (by omega), show (-1 + ((l.length + 1 : Nat) : Int)).toNat = l.length by omega]
    simp
  rw [this]; simp
theorem ixt_m1 {S : Sto} {l : List D} {z : D} {k : D → Prop} : dIx S (.tup (l ++ [z])) (.int (-1)) k = k z := ix_m1 (S := S)
end DL

set_option Elab.async false
set_option linter.all false
set_option maxRecDepth 100000
/-! DLC: fractions with a common number below, and of a size. -/
namespace DL
open PySem
/-- what is below divides M; less than 2^k -/
structure CD (M k : Nat) (x : Rat) : Prop where
  dv : x.den ∣ M
  lt : x.num.natAbs < 2 ^ k * x.den
theorem CD.fb {M m k : Nat} {x : Rat} (h : CD M k x) (h0 : 0 < M) (hM : M < 2 ^ m) : FB (m + k) x := by
  have hd := Nat.le_of_dvd h0 h.dv
  have h2 : x.den < 2 ^ m := Nat.lt_of_le_of_lt hd hM
  refine ⟨?_, pow2_mono h2 (by omega)⟩
  refine Nat.lt_of_lt_of_le h.lt ?_
  rw [Nat.add_comm, Nat.pow_add]
  exact Nat.mul_le_mul_left _ (Nat.le_of_lt h2)
theorem CD.mono {M M' k k' : Nat} {x : Rat} (h : CD M k x) (d : M ∣ M') (l : k ≤ k') : CD M' k' x :=
  ⟨Nat.dvd_trans h.dv d, Nat.lt_of_lt_of_le h.lt (Nat.mul_le_mul_right _ (Nat.pow_le_pow_right (by decide) l))⟩
theorem divInt_den_dvd (a b : Int) : (Rat.divInt a b).den ∣ b.natAbs := by
  rw [Rat.den_divInt]
  split
  · exact Nat.one_dvd _
  · exact Nat.div_dvd_of_dvd (by rw [← Int.natAbs_natCast (Int.gcd b a)]; exact Int.natAbs_dvd_natAbs.mpr (Int.gcd_dvd_left ..))
theorem cross {a b : Int} (hb : b ≠ 0) : (Rat.divInt a b).num * b = a * ((Rat.divInt a b).den : Int) := by
  have := Rat.num_divInt_den (Rat.divInt a b)
  exact (Rat.divInt_eq_divInt_iff (den_ne _) hb).mp this
theorem mag_of {a b : Int} {K : Nat} (hb : b ≠ 0) (h : a.natAbs < K * b.natAbs) : (Rat.divInt a b).num.natAbs < K * (Rat.divInt a b).den := by
  have c := congrArg Int.natAbs (cross (a := a) hb)
  rw [Int.natAbs_mul, Int.natAbs_mul, Int.natAbs_natCast] at c
  have hb' : 0 < b.natAbs := by omega
  have hd := (Rat.divInt a b).den_pos
  refine Nat.lt_of_mul_lt_mul_right (a := b.natAbs) ?_
  rw [c, Nat.mul_right_comm]
  exact Nat.mul_lt_mul_of_pos_right h hd
theorem den_into {x : Rat} {M : Nat} (h : x.den ∣ M) (h0 : 0 < M) : ∃ i : Int, x = Rat.divInt i (M : Int) := by
  obtain ⟨c, rfl⟩ := h
  have hc : (c : Int) ≠ 0 := by
    intro z
    have z : c = 0 := by omega
    rw [z, Nat.mul_zero] at h0
    omega
  refine ⟨x.num * c, ?_⟩
  rw [Int.natCast_mul, Rat.divInt_mul_right hc, Rat.num_divInt_den]
theorem den_add {x y : Rat} {M : Nat} (h1 : x.den ∣ M) (h2 : y.den ∣ M) (h0 : 0 < M) : (x + y).den ∣ M := by
  obtain ⟨i, rfl⟩ := den_into h1 h0
  obtain ⟨j, rfl⟩ := den_into h2 h0
  have hM : (M : Int) ≠ 0 := by omega
  have : Rat.divInt i (M : Int) + Rat.divInt j (M : Int) = Rat.divInt (i + j) (M : Int) := by
    rw [Rat.divInt_eq_div, Rat.divInt_eq_div, Rat.divInt_eq_div, Rat.intCast_add]
    grind
  rw [this]
  have := divInt_den_dvd (i + j) (M : Int)
  rwa [Int.natAbs_natCast] at this
theorem CD.add {M k : Nat} {x y : Rat} (h0 : 0 < M) (h1 : CD M k x) (h2 : CD M k y) : CD M (k + 1) (x + y) := by
  refine ⟨den_add h1.dv h2.dv h0, ?_⟩
  rw [add_eq]
  refine mag_of (dens_ne x y) ?_
  rw [Int.natAbs_mul, Int.natAbs_natCast, Int.natAbs_natCast]
  have a1 : (x.num * (y.den : Int)).natAbs < 2 ^ k * x.den * y.den := by
    rw [Int.natAbs_mul, Int.natAbs_natCast]
    exact Nat.mul_lt_mul_of_pos_right h1.lt y.den_pos
  have a2 : (y.num * (x.den : Int)).natAbs < 2 ^ k * x.den * y.den := by
    rw [Int.natAbs_mul, Int.natAbs_natCast, Nat.mul_right_comm]
    exact Nat.mul_lt_mul_of_pos_right h2.lt x.den_pos
  have := Int.natAbs_add_le (x.num * (y.den : Int)) (y.num * (x.den : Int))
  rw [Nat.pow_succ, Nat.mul_right_comm, ← Nat.mul_assoc]
  omega
theorem CD.mul {M N k l : Nat} {x y : Rat} (h1 : CD M k x) (h2 : CD N l y) : CD (M * N) (k + l) (x * y) := by
  constructor
  · rw [mul_eq]
    have := divInt_den_dvd (x.num * y.num) ((x.den : Int) * (y.den : Int))
    rw [Int.natAbs_mul, Int.natAbs_natCast, Int.natAbs_natCast] at this
    exact Nat.dvd_trans this (Nat.mul_dvd_mul h1.dv h2.dv)
  · rw [mul_eq]
    refine mag_of (dens_ne x y) ?_
    rw [Int.natAbs_mul, Int.natAbs_mul, Int.natAbs_natCast, Int.natAbs_natCast, Nat.pow_add]
    have := Nat.mul_lt_mul'' h1.lt h2.lt
    rwa [Nat.mul_mul_mul_comm] at this
theorem CD.neg {M k : Nat} {x : Rat} (h : CD M k x) : CD M k (-x) := ⟨by rw [Rat.neg_den]; exact h.dv, by rw [Rat.neg_num, Int.natAbs_neg, Rat.neg_den]; exact h.lt⟩
theorem CD.sub {M k : Nat} {x y : Rat} (h0 : 0 < M) (h1 : CD M k x) (h2 : CD M k y) : CD M (k + 1) (x - y) := by
  rw [Rat.sub_eq_add_neg]; exact h1.add h0 h2.neg
theorem CD0 {M k : Nat} : CD M k 0 := ⟨Nat.one_dvd _, by show 0 < 2 ^ k * 1; rw [Nat.mul_one]; exact Nat.pow_pos (by decide)⟩
theorem CD.of {B : Nat} {x : Rat} (h : FB B x) : CD x.den B x := ⟨Nat.dvd_refl _, Nat.lt_of_lt_of_le h.1 (Nat.le_mul_of_pos_right _ x.den_pos)⟩
end DL

set_option Elab.async false
set_option linter.all false
set_option maxRecDepth 100000
/-! DLD: tables of planes. -/
namespace DL
open PySem
abbrev Pl2 := List Int × Int
abbrev pkD (p : Pl2) : D := plD p.1 p.2
def plK (p : Pl2) : NestedKey := .tup [.tup (p.1.map .num), .num p.2]
theorem keys_num : ∀ l : List Int, keysOf (l.map .int) = some (l.map .num)
  | [] => rfl
  | a :: l => by
    show (match some (NestedKey.num a), keysOf (l.map .int) with | some k, some ks => some (k :: ks) | _, _ => none) = _
    rw [keys_num l]; rfl
theorem key_pl (p : Pl2) : keyOf (pkD p) = some (plK p) := by
  show (keysOf [.tup (p.1.map .int), .int p.2]).map NestedKey.tup = _
  have e : keyOf (.tup (p.1.map .int)) = some (.tup (p.1.map .num)) := by
    show (keysOf (p.1.map .int)).map NestedKey.tup = _
    rw [keys_num]; rfl
  have e2 : keysOf [.tup (p.1.map .int), .int p.2] = some [.tup (p.1.map .num), .num p.2] := by
    show (match keyOf (.tup (p.1.map .int)), keysOf [.int p.2] with | some k, some ks => some (k :: ks) | _, _ => none) = _
    rw [e]; rfl
  rw [e2]; rfl
theorem plK_inj {p q : Pl2} : plK p = plK q ↔ p = q := by
  refine ⟨fun h => ?_, fun h => by rw [h]⟩
  obtain ⟨a, b⟩ := p
  obtain ⟨c, d⟩ := q
  injection h with h
  injection h with h1 h2
  injection h2 with h2 _
  injection h1 with h1
  injection h2 with h2
  have : a = c := List.map_inj_right (fun x y e => by injection e) |>.mp h1
  exact Prod.ext this h2
theorem depth_nums : ∀ l : List Int, NestedKey.depthAll (l.map .num) = 0
  | [] => rfl
  | a :: l => by
    show max 0 (NestedKey.depthAll (l.map .num)) = 0
    rw [depth_nums l]; rfl
theorem key_ok (p : Pl2) : KeyOk (pkD p) (plK p) := by
  refine ⟨⟨_, rfl⟩, key_pl p, ?_⟩
  show max (NestedKey.depthAll (p.1.map .num) + 1) (max 0 0) + 1 ≤ 8
  rw [depth_nums]; decide
/-! ### tables -/
abbrev Tb := List (Pl2 × Rat)
def flat (m : Tb) : List D := m.flatMap fun e => [pkD e.1, fr e.2]
def aget (p : Pl2) : Tb → Option Rat
  | [] => none
  | e :: r => if e.1 = p then some e.2 else aget p r
def aput (p : Pl2) (x : Rat) : Tb → Tb
  | [] => [(p, x)]
  | e :: r => if e.1 = p then (e.1, x) :: r else e :: aput p x r
abbrev aval (p : Pl2) (m : Tb) : Rat := (aget p m).getD 0
def sumA (g : Pl2 → Rat) : Tb → Rat
  | [] => 0
  | e :: r => e.2 * g e.1 + sumA g r
theorem flat_len (m : Tb) : (flat m).length = 2 * m.length := by
  induction m with
  | nil => rfl
  | cons e r ih => show (flat r).length + 1 + 1 = _; rw [ih, List.length_cons]; omega
theorem find_flat (p : Pl2) : ∀ m : Tb, dFind (plK p) (flat m) = (aget p m).map fr
  | [] => rfl
  | e :: r => by
    show (if keyOf (pkD e.1) = some (plK p) then some (fr e.2) else dFind (plK p) (flat r)) = (if e.1 = p then some e.2 else aget p r).map fr
    rw [key_pl]
    by_cases q : e.1 = p
    · rw [if_pos (by rw [q]), if_pos q]; rfl
    · rw [if_neg (fun z => q (plK_inj.mp (Option.some.inj z))), if_neg q, find_flat p r]
theorem store_flat (p : Pl2) (x : Rat) : ∀ m : Tb, dStore (pkD p) (plK p) (fr x) (flat m) = flat (aput p x m)
  | [] => rfl
  | e :: r => by
    show (if keyOf (pkD e.1) = some (plK p) then pkD e.1 :: fr x :: flat r else pkD e.1 :: fr e.2 :: dStore (pkD p) (plK p) (fr x) (flat r)) = flat (if e.1 = p then (e.1, x) :: r else e :: aput p x r)
    rw [key_pl]
    by_cases q : e.1 = p
    · rw [if_pos (by rw [q]), if_pos q]; rfl
    · rw [if_neg (fun z => q (plK_inj.mp (Option.some.inj z))), if_neg q, store_flat p x r]; rfl
theorem keys_flat : ∀ m : Tb, dKeys (flat m) = (m.map (·.1)).map fun k => plD k.1 k.2
  | [] => rfl
  | e :: r => by
    show pkD e.1 :: dKeys (flat r) = _
    rw [keys_flat r]; rfl
theorem mem_put {p : Pl2} {x : Rat} : ∀ {m : Tb} {e : Pl2 × Rat}, e ∈ aput p x m → e = (p, x) ∨ e ∈ m
  | [], e, h => .inl (List.mem_singleton.mp h)
  | f :: r, e, h => by
    unfold aput at h
    by_cases q : f.1 = p
    · rw [if_pos q] at h
      rcases List.mem_cons.mp h with h | h
      · exact .inl (by rw [h, q])
      · exact .inr (List.mem_cons_of_mem _ h)
    · rw [if_neg q] at h
      rcases List.mem_cons.mp h with h | h
      · exact .inr (by rw [h]; exact List.mem_cons_self)
      · rcases mem_put h with h | h
        · exact .inl h
        · exact .inr (List.mem_cons_of_mem _ h)
theorem len_put {p : Pl2} {x : Rat} : ∀ {m : Tb}, (aput p x m).length ≤ m.length + 1
  | [] => Nat.le_refl _
  | f :: r => by
    unfold aput
    split
    · show r.length + 1 ≤ r.length + 1 + 1; omega
    · have := len_put (p := p) (x := x) (m := r)
      show (aput p x r).length + 1 ≤ r.length + 1 + 1; omega
theorem nodup_put {p : Pl2} {x : Rat} : ∀ {m : Tb}, (m.map (·.1)).Nodup → ((aput p x m).map (·.1)).Nodup
  | [], _ => by simp [aput]
  | f :: r, h => by
    rw [List.map_cons, List.nodup_cons] at h
    unfold aput
    by_cases q : f.1 = p
    · rw [if_pos q, List.map_cons, List.nodup_cons]; exact h
    · rw [if_neg q, List.map_cons, List.nodup_cons]
      refine ⟨fun z => ?_, nodup_put h.2⟩
      obtain ⟨e, he, e1⟩ := List.mem_map.mp z
      rcases mem_put he with w | w
      · rw [w] at e1; exact q e1.symm
      · exact h.1 (List.mem_map.mpr ⟨e, w, e1⟩)
theorem aget_mem {p : Pl2} {x : Rat} : ∀ {m : Tb}, aget p m = some x → (p, x) ∈ m
  | [], h => by cases h
  | f :: r, h => by
    unfold aget at h
    by_cases q : f.1 = p
    · rw [if_pos q] at h; cases h; rw [← q]; exact List.mem_cons_self
    · rw [if_neg q] at h; exact List.mem_cons_of_mem _ (aget_mem h)
theorem aget_of {e : Pl2 × Rat} : ∀ {m : Tb}, (m.map (·.1)).Nodup → e ∈ m → aget e.1 m = some e.2
  | [], _, h => by cases h
  | f :: r, n, h => by
    rw [List.map_cons, List.nodup_cons] at n
    unfold aget
    rcases List.mem_cons.mp h with h | h
    · rw [h, if_pos rfl]
    · rw [if_neg fun z => n.1 (by rw [z]; exact List.mem_map_of_mem h), aget_of n.2 h]
theorem sum_put {g : Pl2 → Rat} {p : Pl2} {x : Rat} : ∀ m : Tb, sumA g (aput p x m) = sumA g m + (x - aval p m) * g p
  | [] => by
    show x * g p + 0 = 0 + (x - 0) * g p
    grind
  | e :: r => by
    unfold aput aval aget
    by_cases q : e.1 = p
    · rw [if_pos q, if_pos q]
      show x * g e.1 + sumA g r = e.2 * g e.1 + sumA g r + (x - e.2) * g p
      rw [q]; grind
    · rw [if_neg q, if_neg q]
      show e.2 * g e.1 + sumA g (aput p x r) = e.2 * g e.1 + sumA g r + (x - aval p r) * g p
      rw [sum_put r]; grind
theorem sum_perm {g : Pl2 → Rat} {m m' : Tb} (h : m.Perm m') : sumA g m = sumA g m' := by
  induction h with
  | nil => rfl
  | cons x _ ih => show x.2 * g x.1 + _ = x.2 * g x.1 + _; rw [ih]
  | swap x y l => show y.2 * g y.1 + (x.2 * g x.1 + sumA g l) = x.2 * g x.1 + (y.2 * g y.1 + sumA g l); grind
  | trans _ _ a b => rw [a, b]
theorem sum_filter {g : Pl2 → Rat} : ∀ m : Tb, sumA g (m.filter fun e => decide (e.2 ≠ 0)) = sumA g m
  | [] => rfl
  | e :: r => by
    by_cases q : e.2 = 0
    · rw [List.filter_cons_of_neg (by simpa using q), sum_filter r]
      show _ = e.2 * g e.1 + sumA g r
      rw [q]; grind
    · rw [List.filter_cons_of_pos (by simpa using q)]
      show e.2 * g e.1 + sumA g (r.filter _) = e.2 * g e.1 + sumA g r
      rw [sum_filter r]
/-- the rows in the order of the planes -/
def rowsA (m : Tb) (ps : List Pl2) : Tb := (ps.map fun p => (p, aval p m)).filter fun e => decide (e.2 ≠ 0)
theorem vals_of {m : Tb} (n : (m.map (·.1)).Nodup) : (m.map (·.1)).map (fun p => (p, aval p m)) = m := by
  rw [List.map_map]
  conv => rhs; rw [← List.map_id m]
  refine List.map_congr_left fun e he => ?_
  show (e.1, (aget e.1 m).getD 0) = e
  rw [aget_of n he]; rfl
theorem sum_rows {g : Pl2 → Rat} {m : Tb} {ps : List Pl2} (n : (m.map (·.1)).Nodup) (h : ps.Perm (m.map (·.1))) : sumA g (rowsA m ps) = sumA g m := by
  unfold rowsA
  rw [sum_filter]
  have := (h.map fun p => (p, aval p m))
  rw [vals_of n] at this
  exact sum_perm this
theorem rows_mem {m : Tb} {ps : List Pl2} (n : (m.map (·.1)).Nodup) (h : ps.Perm (m.map (·.1))) {e : Pl2 × Rat} (he : e ∈ rowsA m ps) : e ∈ m := by
  have h1 := (List.mem_filter.mp he).1
  have := (h.map fun p => (p, aval p m))
  rw [vals_of n] at this
  exact this.mem_iff.mp h1
/-! ### the small language -/
section
variable {S : Sto} {a : Addr} {p : Pl2} {m : Tb} {Q : D → Prop}
theorem dget_tb (h : S a = some (flat m)) {x : Rat} (e : aget p m = some x) (q : Q (fr x)) : dGet S (.dct a) (pkD p) Q := ⟨_, _, _, h, key_ok p, by rw [find_flat, e]; rfl, q⟩
theorem dgeto_tb (h : S a = some (flat m)) (q : Q (fr (aval p m))) : dGetO S (.dct a) (pkD p) (fr 0) Q := ⟨_, _, h, key_ok p, by
  rw [find_flat]
  cases e : aget p m with
  | none => rw [show aval p m = 0 by rw [show aval p m = (aget p m).getD 0 from rfl, e]; rfl] at q; exact q
  | some x => rw [show aval p m = x by rw [show aval p m = (aget p m).getD 0 from rfl, e]; rfl] at q; exact q⟩
theorem dput_tb {x : Rat} {Q : Sto → Prop} (h : S a = some (flat m)) (l : m.length ≤ 400) (q : Q (S.put a (flat (aput p x m)))) : dPut (.dct a) (pkD p) (fr x) S Q := ⟨_, _, h, key_ok p, by rw [flat_len]; omega, by rw [store_flat]; exact q⟩
theorem dsort_tb {n : Nat} (h : S a = some (flat m)) (l : m.length < 64) (hn : ∀ e ∈ m, e.1.1.length = n) (q : ∀ ps : List Pl2, ps.Perm (m.map (·.1)) → ps.Pairwise (fun x y => lexLe (x.1 ++ [x.2]) (y.1 ++ [y.2])) → Q (.lst (ps.map pkD))) : dSort S (.dct a) Q :=
  ⟨_, n, m.map (·.1), h, keys_flat m, by rw [List.length_map]; exact l, fun k hk => by obtain ⟨e, he, rfl⟩ := List.mem_map.mp hk; exact hn e he, q⟩
theorem dsort_lst {n : Nat} {ks : List Pl2} (l : ks.length < 64) (hn : ∀ k ∈ ks, k.1.length = n) (q : ∀ ps : List Pl2, ps.Perm ks → ps.Pairwise (fun x y => lexLe (x.1 ++ [x.2]) (y.1 ++ [y.2])) → Q (.lst (ps.map pkD))) : dSort S (.lst (ks.map pkD)) Q :=
  ⟨n, ks, rfl, l, hn, q⟩
theorem dlist_tb (h : S a = some (flat m)) (l : m.length ≤ 400) (q : Q (.lst ((m.map (·.1)).map pkD))) : dList S (.dct a) Q :=
  ⟨_, h, by rw [flat_len]; omega, by rw [keys_flat]; exact q⟩
end
section
variable {X : Mod'} {G : Fns} {ρ : Rho} {S : Sto} {Q : D → Sto → Prop} {a i u e : M}
theorem wE_dnew : wE X G .dnew ρ S Q = ∀ p, S p = none → Q (.dct p) (S.put p []) := rfl
theorem wE_dget : wE X G (.dget a i) ρ S Q = wE X G a ρ S fun x S1 => wE X G i ρ S1 fun y S2 => dGet S2 x y fun z => Q z S2 := rfl
theorem wE_dgeto : wE X G (.dgeto a i u) ρ S Q = wE X G a ρ S fun x S1 => dRefD S1 x ∧ wE X G i ρ S1 fun y S2 => wE X G u ρ S2 fun z S3 => dGetO S3 x y z fun d => Q d S3 := rfl
theorem wE_dsort : wE X G (.dsort a) ρ S Q = wE X G a ρ S fun x S1 => dSort S1 x fun z => Q z S1 := rfl
theorem wE_dlist : wE X G (.dlist a) ρ S Q = wE X G a ρ S fun x S1 => dList S1 x fun z => Q z S1 := rfl
theorem wE_trng : wE X G (.trng a) ρ S Q = wE X G a ρ S fun x S1 => dTrng x fun z => Q z S1 := rfl
theorem wC_dput {E : ED} : wC X G (.dput a i e) E ρ S = wE X G e ρ S fun z S1 => wE X G a ρ S1 fun x S2 => wE X G i ρ S2 fun y S3 => dPut x y z S3 fun S4 => E.nx ρ S4 := rfl
theorem rRefD {p : Addr} : dRefD S (.dct p) = ∃ xs, S p = some xs := rfl
end
end DL

set_option Elab.async false
set_option linter.all false
set_option maxRecDepth 100000
namespace K61
open PySem DL
/-- divisor -/
def b_divisor : C := (.seq (.swap 0 1 (.bi .abs (.cons (.v 0) .nil)) (.bi .abs (.cons (.v 1) .nil))) (.seq (.whl (.tv (.v 1)) (.seq (.swap 0 1 (.v 1) (.bin .mod (.v 0) (.v 1))) .done)) (.seq (.ret (.v 0)) .done)))
/-- lowest -/
def b_lowest : C := (.seq (.asg (.n 2) (.call 0 (.cons (.v 0) (.cons (.v 1) .nil)))) (.seq (.ite (.cmp .lt (.v 1) (.c (.int 0))) (.seq (.asg (.n 2) (.neg (.v 2))) .done) .done) (.seq (.ret (.tup (.cons (.bin .fdiv (.v 0) (.v 2)) (.cons (.bin .fdiv (.v 1) (.v 2)) .nil)))) .done)))
/-- plus -/
def b_plus : C := (.seq (.ite (.cmp .eq (.ix (.v 0) (.c (.int 0))) (.c (.int 0))) (.seq (.ret (.v 1)) .done) .done) (.seq (.ite (.cmp .eq (.ix (.v 1) (.c (.int 0))) (.c (.int 0))) (.seq (.ret (.v 0)) .done) .done) (.seq (.ret (.call 1 (.cons (.bin .add (.bin .mul (.ix (.v 0) (.c (.int 0))) (.ix (.v 1) (.c (.int 1)))) (.bin .mul (.ix (.v 1) (.c (.int 0))) (.ix (.v 0) (.c (.int 1))))) (.cons (.bin .mul (.ix (.v 0) (.c (.int 1))) (.ix (.v 1) (.c (.int 1)))) .nil)))) .done)))
/-- minus -/
def b_minus : C := (.seq (.ret (.call 2 (.cons (.v 0) (.cons (.tup (.cons (.neg (.ix (.v 1) (.c (.int 0)))) (.cons (.ix (.v 1) (.c (.int 1))) .nil))) .nil)))) .done)
/-- product -/
def b_product : C := (.seq (.ret (.call 1 (.cons (.bin .mul (.ix (.v 0) (.c (.int 0))) (.ix (.v 1) (.c (.int 0)))) (.cons (.bin .mul (.ix (.v 0) (.c (.int 1))) (.ix (.v 1) (.c (.int 1)))) .nil)))) .done)
/-- added_rows -/
def b_added_rows : C := (.seq (.ret (.bi .tuple (.cons (.lc false [2, 3, 4] (.t (.cons (.n 3) (.cons (.n 4) .nil))) (.call 2 (.cons (.v 3) (.cons (.v 4) .nil))) (.zip (.v 0) (.v 1)) .nil) .nil))) .done)
/-- scaled_row -/
def b_scaled_row : C := (.seq (.ret (.bi .tuple (.cons (.lc false [2, 3] (.n 3) (.call 4 (.cons (.v 0) (.cons (.v 3) .nil))) (.it (.v 1)) .nil) .nil))) .done)
/-- unit_row -/
def b_unit_row : C := (.seq (.ret (.bi .tuple (.cons (.lc false [2, 3] (.n 3) (.ite (.cmp .eq (.v 3) (.v 1)) (.g 1) (.g 0)) (.rng (.c (.int 0)) (.v 0)) .nil) .nil))) .done)
/-- signed_pair -/
def b_signed_pair : C := (.seq (.ret (.tup (.cons (.tup (.cons (.v 0) (.cons (.g 0) .nil))) (.cons (.tup (.cons (.call 6 (.cons (.tup (.cons (.neg (.c (.int 1))) (.cons (.c (.int 1)) .nil))) (.cons (.v 0) .nil))) (.cons (.g 0) .nil))) .nil)))) .done)
/-- greater -/
def b_greater : C := (.seq (.asg (.n 2) (.ix (.v 0) (.c (.int 0)))) (.seq (.ite (.cmp .gt (.bin .add (.bi .len (.cons (.ix (.v 0) (.c (.int 1))) .nil)) (.bi .len (.cons (.ix (.v 1) (.c (.int 1))) .nil))) (.bin .sub (.g 2) (.c (.int 2)))) (.seq (.rai 1) .done) .done) (.seq (.asg (.n 3) (.call 5 (.cons (.ix (.ix (.v 0) (.c (.int 2))) (.c (.int 0))) (.cons (.call 6 (.cons (.tup (.cons (.neg (.c (.int 1))) (.cons (.c (.int 1)) .nil))) (.cons (.ix (.ix (.v 1) (.c (.int 2))) (.c (.int 0))) .nil))) .nil)))) (.seq (.asg (.n 4) (.bin .add (.bi .tuple (.cons (.lc false [11, 12, 13, 14] (.t (.cons (.n 12) (.cons (.n 13) (.cons (.n 14) .nil)))) (.tup (.cons (.v 12) (.cons (.v 13) .nil))) (.it (.bin .add (.ix (.v 0) (.c (.int 1))) (.ix (.v 1) (.c (.int 1))))) .nil) .nil)) (.call 8 (.cons (.v 3) .nil)))) (.seq (.asg (.n 5) (.bi .len (.cons (.v 4) .nil))) (.seq (.swap 6 7 (.bi .tuple (.cons (.lc false [11, 12, 13, 14] (.t (.cons (.n 12) (.cons (.n 13) (.cons (.n 14) .nil)))) (.v 14) (.it (.ix (.v 0) (.c (.int 1)))) .nil) .nil)) (.bi .tuple (.cons (.lc false [11, 12, 13, 14] (.t (.cons (.n 12) (.cons (.n 13) (.cons (.n 14) .nil)))) (.v 14) (.it (.ix (.v 1) (.c (.int 1)))) .nil) .nil))) (.seq (.asg (.n 8) (.bin .add (.bin .add (.v 6) (.call 6 (.cons (.tup (.cons (.neg (.c (.int 1))) (.cons (.c (.int 1)) .nil))) (.cons (.v 7) .nil)))) (.tup (.cons (.g 1) (.cons (.tup (.cons (.neg (.c (.int 1))) (.cons (.c (.int 1)) .nil))) .nil))))) (.seq (.asg (.n 9) (.lst true (.cons (.tup (.cons (.v 8) (.cons (.call 3 (.cons (.ix (.ix (.v 0) (.c (.int 2))) (.c (.int 1))) (.cons (.ix (.ix (.v 1) (.c (.int 2))) (.c (.int 1))) .nil))) .nil))) .nil))) (.seq (.for (.n 10) (.rng (.c (.int 0)) (.bi .len (.cons (.v 7) .nil))) (.seq (.ex (.meth .append (.v 9) (.cons (.tup (.cons (.call 7 (.cons (.v 5) (.cons (.bin .add (.bi .len (.cons (.v 6) .nil)) (.v 10)) .nil))) (.cons (.g 0) .nil))) .nil))) .done)) (.seq (.ret (.tup (.cons (.v 2) (.cons (.tup (.cons (.v 4) (.cons (.bi .tuple (.cons (.v 9) .nil)) .nil))) (.cons (.tup (.cons (.bin .add (.tup (.cons (.g 1) .nil)) (.v 7)) (.cons (.ix (.ix (.v 1) (.c (.int 2))) (.c (.int 0))) (.cons (.ix (.ix (.v 1) (.c (.int 2))) (.c (.int 1))) .nil)))) .nil))))) .done))))))))))
/-- added -/
def b_added : C := (.seq (.asg (.n 4) (.bin .add (.bi .tuple (.cons (.lc false [6, 7, 8, 9] (.t (.cons (.n 7) (.cons (.n 8) (.cons (.n 9) .nil)))) (.tup (.cons (.v 7) (.cons (.v 8) (.cons (.call 4 (.cons (.v 2) (.cons (.v 9) .nil))) .nil)))) (.it (.ix (.v 0) (.c (.int 1)))) .nil) .nil)) (.bi .tuple (.cons (.lc false [6, 7, 8, 9] (.t (.cons (.n 7) (.cons (.n 8) (.cons (.n 9) .nil)))) (.tup (.cons (.v 7) (.cons (.v 8) (.cons (.call 4 (.cons (.v 3) (.cons (.v 9) .nil))) .nil)))) (.it (.ix (.v 1) (.c (.int 1)))) .nil) .nil)))) (.seq (.ite (.cmp .gt (.bi .len (.cons (.v 4) .nil)) (.g 3)) (.seq (.rai 1) .done) .done) (.seq (.asg (.n 5) (.call 5 (.cons (.call 6 (.cons (.v 2) (.cons (.ix (.ix (.v 0) (.c (.int 2))) (.c (.int 0))) .nil))) (.cons (.call 6 (.cons (.v 3) (.cons (.ix (.ix (.v 1) (.c (.int 2))) (.c (.int 0))) .nil))) .nil)))) (.seq (.ret (.tup (.cons (.ix (.v 0) (.c (.int 0))) (.cons (.v 4) (.cons (.tup (.cons (.v 5) (.cons (.call 2 (.cons (.call 4 (.cons (.v 2) (.cons (.ix (.ix (.v 0) (.c (.int 2))) (.c (.int 1))) .nil))) (.cons (.call 4 (.cons (.v 3) (.cons (.ix (.ix (.v 1) (.c (.int 2))) (.c (.int 1))) .nil))) .nil))) .nil))) .nil))))) .done))))
/-- _law_bag -/
def b__law_bag : C := (.seq (.asg (.n 1) (.bin .add (.lc false [3, 4] (.n 4) (.bi .abs (.cons (.bi .int (.cons (.v 4) .nil)) .nil)) (.it (.v 0)) .nil) (.lst false (.cons (.c (.int 7)) .nil)))) (.seq (.asg (.n 2) (.lst true .nil)) (.seq (.ite (.cmp .eq (.bin .mod (.bi .int (.cons (.ix (.v 1) (.c (.int 0))) .nil)) (.c (.int 2))) (.c (.int 0))) (.seq (.asg (.n 2) (.lc true [3, 4] (.n 4) (.bin .fdiv (.v 4) (.c (.int 2))) (.it (.v 1)) (.cmp .ge (.v 4) (.bin .pow (.c (.int 10)) (.c (.int 18)))))) (.seq (.ex (.meth .reverse (.v 2) .nil)) .done)) .done) (.seq (.ret (.lst true (.cons (.c (.int 0)) (.cons (.c (.int 0)) (.cons (.v 2) (.cons (.lc false [3, 4] (.n 4) (.bin .mod (.bi .int (.cons (.v 4) .nil)) (.c (.int 2147483647))) (.it (.v 1)) .nil) .nil)))))) .done))))
/-- _law_draw -/
def b__law_draw : C := (.seq (.sets (.v 0) (.c (.int 1)) (.bin .add (.ix (.v 0) (.c (.int 1))) (.c (.int 1)))) (.seq (.ite (.and (.cmp .eq (.ix (.v 0) (.c (.int 0))) (.c (.int 0))) (.cmp .gt (.bi .len (.cons (.ix (.v 0) (.c (.int 2))) .nil)) (.c (.int 0)))) (.seq (.sets (.v 0) (.c (.int 0)) (.meth .pop (.ix (.v 0) (.c (.int 2))) .nil)) .done) .done) (.seq (.ite (.cmp .gt (.ix (.v 0) (.c (.int 0))) (.c (.int 0))) (.seq (.asg (.n 2) (.bin .mod (.bi .int (.cons (.ix (.v 0) (.c (.int 0))) .nil)) (.v 1))) (.seq (.sets (.v 0) (.c (.int 0)) (.bin .fdiv (.ix (.v 0) (.c (.int 0))) (.v 1))) (.seq (.ret (.v 2)) .done))) .done) (.seq (.asg (.n 3) (.ix (.ix (.v 0) (.c (.int 3))) (.bin .mod (.bi .int (.cons (.ix (.v 0) (.c (.int 1))) .nil)) (.bi .len (.cons (.ix (.v 0) (.c (.int 3))) .nil))))) (.seq (.asg (.n 4) (.bin .mod (.bi .int (.cons (.bin .add (.bin .add (.bin .mul (.v 3) (.c (.int 48271))) (.bin .mul (.ix (.v 0) (.c (.int 1))) (.c (.int 69621)))) (.c (.int 1))) .nil)) (.c (.int 2147483647)))) (.seq (.ret (.bin .mod (.bin .fdiv (.bin .mod (.bi .int (.cons (.bin .add (.bin .add (.bin .mul (.v 4) (.v 4)) (.bin .mul (.v 4) (.c (.int 16807)))) (.bin .mul (.ix (.v 0) (.c (.int 1))) (.c (.int 40014)))) .nil)) (.c (.int 2147483629))) (.c (.int 32))) (.v 1))) .done))))))
/-- _law_pick -/
def b__law_pick : C := (.seq (.ret (.ix (.v 1) (.call 12 (.cons (.v 0) (.cons (.bi .len (.cons (.v 1) .nil)) .nil))))) .done)
/-- _law_same -/
def b__law_same : C := (.seq (.ite (.cmp .isN (.v 1) (.c .non)) (.seq (.ret (.cmp .isN (.v 0) (.c .non))) .done) .done) (.seq (.ite (.or (.tv (.isi (.v 1) .bool)) (.tv (.isi (.v 0) .bool))) (.seq (.ret (.and (.isi (.v 1) .bool) (.and (.isi (.v 0) .bool) (.cmp .eq (.v 0) (.v 1))))) .done) .done) (.seq (.ite (.tv (.isi (.v 1) .int)) (.seq (.ret (.and (.isi (.v 0) .int) (.cmp .eq (.v 0) (.v 1)))) .done) .done) (.seq (.ite (.tv (.isi (.v 1) .str)) (.seq (.ret (.and (.isi (.v 0) .str) (.cmp .eq (.v 0) (.v 1)))) .done) .done) (.seq (.ite (.or (.not (.tv (.isi (.v 1) .tuple))) (.or (.not (.tv (.isi (.v 0) .tuple))) (.cmp .ne (.bi .len (.cons (.v 0) .nil)) (.bi .len (.cons (.v 1) .nil))))) (.seq (.ret (.c (.bl false))) .done) .done) (.seq (.for (.n 2) (.rng (.c (.int 0)) (.bi .len (.cons (.v 1) .nil))) (.seq (.ite (.not (.tv (.call 14 (.cons (.ix (.v 0) (.v 2)) (.cons (.ix (.v 1) (.v 2)) .nil))))) (.seq (.ret (.c (.bl false))) .done) .done) .done)) (.seq (.ret (.c (.bl true))) .done)))))))
/-- _law_gcd -/
def b__law_gcd : C := (.seq (.swap 0 1 (.bi .abs (.cons (.v 0) .nil)) (.bi .abs (.cons (.v 1) .nil))) (.seq (.for (.n 2) (.rng (.c (.int 0)) (.c (.int 100000))) (.seq (.ite (.cmp .eq (.v 1) (.c (.int 0))) (.seq .brk .done) .done) (.seq (.swap 0 1 (.v 1) (.bin .mod (.bi .int (.cons (.v 0) .nil)) (.v 1))) .done))) (.seq (.ret (.v 0)) .done)))
/-- _law_fr -/
def b__law_fr : C := (.seq (.asg (.n 2) (.ite (.cmp .gt (.v 1) (.c (.int 0))) (.call 15 (.cons (.v 0) (.cons (.v 1) .nil))) (.bin .sub (.c (.int 0)) (.call 15 (.cons (.v 0) (.cons (.v 1) .nil)))))) (.seq (.ret (.tup (.cons (.bin .fdiv (.v 0) (.v 2)) (.cons (.bin .fdiv (.v 1) (.v 2)) .nil)))) .done))
/-- _law_plus -/
def b__law_plus : C := (.seq (.ret (.call 16 (.cons (.bin .add (.bin .mul (.ix (.v 0) (.c (.int 0))) (.ix (.v 1) (.c (.int 1)))) (.bin .mul (.ix (.v 1) (.c (.int 0))) (.ix (.v 0) (.c (.int 1))))) (.cons (.bin .mul (.ix (.v 0) (.c (.int 1))) (.ix (.v 1) (.c (.int 1)))) .nil)))) .done)
/-- _law_times -/
def b__law_times : C := (.seq (.ret (.call 16 (.cons (.bin .mul (.ix (.v 0) (.c (.int 0))) (.ix (.v 1) (.c (.int 0)))) (.cons (.bin .mul (.ix (.v 0) (.c (.int 1))) (.ix (.v 1) (.c (.int 1)))) .nil)))) .done)
/-- _law_less -/
def b__law_less : C := (.seq (.ret (.cmp .lt (.bin .mul (.ix (.v 0) (.c (.int 0))) (.ix (.v 1) (.c (.int 1)))) (.bin .mul (.ix (.v 1) (.c (.int 0))) (.ix (.v 0) (.c (.int 1)))))) .done)
/-- _law_dot -/
def b__law_dot : C := (.seq (.asg (.n 2) (.tup (.cons (.c (.int 0)) (.cons (.c (.int 1)) .nil)))) (.seq (.for (.n 3) (.rng (.c (.int 0)) (.bi .len (.cons (.v 0) .nil))) (.seq (.ite (.cmp .ne (.ix (.ix (.v 0) (.v 3)) (.c (.int 0))) (.c (.int 0))) (.seq (.asg (.n 2) (.call 17 (.cons (.v 2) (.cons (.call 18 (.cons (.ix (.v 0) (.v 3)) (.cons (.ix (.v 1) (.v 3)) .nil))) .nil)))) .done) .done) .done)) (.seq (.ret (.v 2)) .done)))
/-- _law_taken -/
def b__law_taken : C := (.seq (.ret (.bi .tuple (.cons (.lc false [2, 3] (.n 3) (.call 18 (.cons (.v 0) (.cons (.v 3) .nil))) (.it (.v 1)) .nil) .nil))) .done)
/-- _law_answer -/
def b__law_answer : C := (.seq (.asg (.n 2) (.call 17 (.cons (.call 20 (.cons (.ix (.ix (.v 0) (.c (.int 2))) (.c (.int 0))) (.cons (.v 1) .nil))) (.cons (.ix (.ix (.v 0) (.c (.int 2))) (.c (.int 1))) .nil)))) (.seq (.for (.t (.cons (.n 3) (.cons (.n 4) (.cons (.n 5) .nil)))) (.it (.ix (.v 0) (.c (.int 1)))) (.seq (.asg (.n 6) (.call 17 (.cons (.call 20 (.cons (.v 3) (.cons (.v 1) .nil))) (.cons (.v 4) .nil)))) (.seq (.ite (.cmp .gt (.ix (.v 6) (.c (.int 0))) (.c (.int 0))) (.seq (.asg (.n 2) (.call 17 (.cons (.v 2) (.cons (.call 18 (.cons (.v 5) (.cons (.v 6) .nil))) .nil)))) .done) .done) .done))) (.seq (.ret (.v 2)) .done)))
/-- _law_draw_fr -/
def b__law_draw_fr : C := (.seq (.ret (.call 16 (.cons (.bin .sub (.call 12 (.cons (.v 0) (.cons (.bin .add (.bin .mul (.c (.int 2)) (.v 1)) (.c (.int 1))) .nil))) (.v 1)) (.cons (.call 13 (.cons (.v 0) (.cons (.v 2) .nil))) .nil)))) .done)
/-- _law_draw_row -/
def b__law_draw_row : C := (.seq (.ret (.bi .tuple (.cons (.lc false [4, 5] (.n 5) (.call 23 (.cons (.v 0) (.cons (.v 2) (.cons (.v 3) .nil)))) (.rng (.c (.int 0)) (.v 1)) .nil) .nil))) .done)
/-- _law_net -/
def b__law_net : C := (.seq (.asg (.n 5) (.lst true .nil)) (.seq (.for (.n 6) (.rng (.c (.int 0)) (.call 12 (.cons (.v 0) (.cons (.bin .add (.v 2) (.c (.int 1))) .nil)))) (.seq (.swap 7 8 (.call 24 (.cons (.v 0) (.cons (.v 1) (.cons (.v 3) (.cons (.v 4) .nil))))) (.call 23 (.cons (.v 0) (.cons (.v 3) (.cons (.v 4) .nil))))) (.seq (.ite (.and (.cmp .ne (.v 5) (.lst false .nil)) (.cmp .eq (.call 12 (.cons (.v 0) (.cons (.c (.int 3)) .nil))) (.c (.int 0)))) (.seq (.asg (.n 9) (.call 13 (.cons (.v 0) (.cons (.v 5) .nil)))) (.seq (.asg (.n 10) (.call 13 (.cons (.v 0) (.cons (.lst false (.cons (.tup (.cons (.c (.int 1)) (.cons (.c (.int 1)) .nil))) (.cons (.tup (.cons (.c (.int 2)) (.cons (.c (.int 1)) .nil))) (.cons (.tup (.cons (.c (.int 1)) (.cons (.c (.int 2)) .nil))) (.cons (.tup (.cons (.neg (.c (.int 1))) (.cons (.c (.int 1)) .nil))) (.cons (.tup (.cons (.neg (.c (.int 1))) (.cons (.c (.int 3)) .nil))) .nil)))))) .nil)))) (.seq (.swap 7 8 (.call 21 (.cons (.v 10) (.cons (.ix (.v 9) (.c (.int 0))) .nil))) (.call 18 (.cons (.v 10) (.cons (.ix (.v 9) (.c (.int 1))) .nil)))) .done))) .done) (.seq (.ex (.meth .append (.v 5) (.cons (.tup (.cons (.v 7) (.cons (.v 8) (.cons (.call 23 (.cons (.v 0) (.cons (.v 3) (.cons (.v 4) .nil)))) .nil)))) .nil))) .done)))) (.seq (.ret (.tup (.cons (.v 1) (.cons (.bi .tuple (.cons (.v 5) .nil)) (.cons (.tup (.cons (.call 24 (.cons (.v 0) (.cons (.v 1) (.cons (.v 3) (.cons (.v 4) .nil))))) (.cons (.call 23 (.cons (.v 0) (.cons (.v 3) (.cons (.v 4) .nil)))) .nil))) .nil))))) .done)))
/-- _law_is_fraction -/
def b__law_is_fraction : C := (.seq (.ite (.or (.not (.tv (.isi (.v 0) .tuple))) (.or (.cmp .ne (.bi .len (.cons (.v 0) .nil)) (.c (.int 2))) (.cmp .ne (.lc false [1, 2] (.n 2) (.v 2) (.it (.v 0)) (.or (.not (.tv (.isi (.v 2) .int))) (.tv (.isi (.v 2) .bool)))) (.lst false .nil)))) (.seq (.ret (.c (.bl false))) .done) .done) (.seq (.ret (.and (.cmp .ge (.ix (.v 0) (.c (.int 1))) (.c (.int 1))) (.cmp .eq (.call 15 (.cons (.ix (.v 0) (.c (.int 0))) (.cons (.ix (.v 0) (.c (.int 1))) .nil))) (.c (.int 1))))) .done))
/-- _law_is_row -/
def b__law_is_row : C := (.seq (.ret (.and (.isi (.v 0) .tuple) (.and (.cmp .eq (.bi .len (.cons (.v 0) .nil)) (.v 1)) (.cmp .eq (.lc false [2, 3] (.n 3) (.v 3) (.it (.v 0)) (.not (.tv (.call 26 (.cons (.v 3) .nil))))) (.lst false .nil))))) .done)
/-- _law_deep -/
def b__law_deep : C := (.seq (.asg (.n 2) (.v 1)) (.seq (.for (.n 3) (.it (.ix (.v 0) (.c (.int 1)))) (.seq (.asg (.n 4) (.lst true .nil)) (.seq (.for (.t (.cons (.n 5) (.cons (.n 6) .nil))) (.it (.v 3)) (.seq (.asg (.n 7) (.call 17 (.cons (.call 20 (.cons (.v 5) (.cons (.v 2) .nil))) (.cons (.v 6) .nil)))) (.seq (.ex (.meth .append (.v 4) (.cons (.ite (.cmp .gt (.ix (.v 7) (.c (.int 0))) (.c (.int 0))) (.v 7) (.tup (.cons (.c (.int 0)) (.cons (.c (.int 1)) .nil)))) .nil))) .done))) (.seq (.asg (.n 2) (.bi .tuple (.cons (.v 4) .nil))) .done)))) (.seq (.asg (.t (.cons (.n 8) (.cons (.n 9) (.cons (.n 10) .nil)))) (.ix (.v 0) (.c (.int 2)))) (.seq (.ret (.call 17 (.cons (.call 17 (.cons (.call 20 (.cons (.v 8) (.cons (.v 2) .nil))) (.cons (.call 20 (.cons (.v 9) (.cons (.v 1) .nil))) .nil))) (.cons (.v 10) .nil)))) .done))))
/-- _law_is_deep -/
def b__law_is_deep : C := (.seq (.ite (.or (.not (.tv (.isi (.v 0) .tuple))) (.or (.cmp .ne (.bi .len (.cons (.v 0) .nil)) (.c (.int 3))) (.or (.not (.tv (.call 14 (.cons (.ix (.v 0) (.c (.int 0))) (.cons (.v 1) .nil))))) (.or (.not (.tv (.isi (.ix (.v 0) (.c (.int 1))) .tuple))) (.not (.chain .le .le (.c (.int 1)) (.bi .len (.cons (.ix (.v 0) (.c (.int 1))) .nil)) (.c (.int 12)))))))) (.seq (.ret (.c (.bl false))) .done) .done) (.seq (.asg (.n 2) (.v 1)) (.seq (.for (.n 3) (.it (.ix (.v 0) (.c (.int 1)))) (.seq (.ite (.or (.not (.tv (.isi (.v 3) .tuple))) (.not (.chain .le .le (.c (.int 1)) (.bi .len (.cons (.v 3) .nil)) (.c (.int 200))))) (.seq (.ret (.c (.bl false))) .done) .done) (.seq (.for (.n 4) (.it (.v 3)) (.seq (.ite (.or (.not (.tv (.isi (.v 4) .tuple))) (.or (.cmp .ne (.bi .len (.cons (.v 4) .nil)) (.c (.int 2))) (.or (.not (.tv (.call 27 (.cons (.ix (.v 4) (.c (.int 0))) (.cons (.v 2) .nil))))) (.not (.tv (.call 26 (.cons (.ix (.v 4) (.c (.int 1))) .nil))))))) (.seq (.ret (.c (.bl false))) .done) .done) .done)) (.seq (.asg (.n 2) (.bi .len (.cons (.v 3) .nil))) .done)))) (.seq (.asg (.n 5) (.ix (.v 0) (.c (.int 2)))) (.seq (.ret (.and (.isi (.v 5) .tuple) (.and (.cmp .eq (.bi .len (.cons (.v 5) .nil)) (.c (.int 3))) (.and (.call 27 (.cons (.ix (.v 5) (.c (.int 0))) (.cons (.v 2) .nil))) (.and (.call 27 (.cons (.ix (.v 5) (.c (.int 1))) (.cons (.v 1) .nil))) (.call 26 (.cons (.ix (.v 5) (.c (.int 2))) .nil))))))) .done)))))
/-- _law_points -/
def b__law_points : C := (.seq (.ret (.lc false [3, 4] (.n 4) (.call 24 (.cons (.v 0) (.cons (.v 1) (.cons (.call 13 (.cons (.v 0) (.cons (.lst false (.cons (.c (.int 1)) (.cons (.c (.int 3)) (.cons (.c (.int 9)) .nil)))) .nil))) (.cons (.lst false (.cons (.c (.int 1)) (.cons (.c (.int 1)) (.cons (.c (.int 2)) (.cons (.c (.int 3)) .nil))))) .nil))))) (.rng (.c (.int 0)) (.v 2)) .nil)) .done)
/-- _law_plain_net -/
def b__law_plain_net : C := (.seq (.asg (.n 3) (.lst true .nil)) (.seq (.for (.n 4) (.rng (.c (.int 0)) (.v 1)) (.seq (.ex (.meth .append (.v 3) (.cons (.tup (.cons (.bin .add (.bi .tuple (.cons (.lc false [5, 6] (.n 6) (.tup (.cons (.bin .sub (.bin .mod (.bi .int (.cons (.bin .add (.bin .add (.v 4) (.v 6)) (.v 2)) .nil)) (.c (.int 5))) (.c (.int 2))) (.cons (.c (.int 1)) .nil))) (.rng (.c (.int 0)) (.bin .sub (.v 0) (.c (.int 1)))) .nil) .nil)) (.tup (.cons (.tup (.cons (.c (.int 1)) (.cons (.bin .add (.c (.int 1)) (.v 4)) .nil))) .nil))) (.cons (.tup (.cons (.bin .sub (.bin .mod (.bi .int (.cons (.bin .add (.bin .mul (.c (.int 3)) (.v 4)) (.v 2)) .nil)) (.c (.int 7))) (.c (.int 3))) (.cons (.c (.int 1)) .nil))) (.cons (.tup (.cons (.ite (.cmp .eq (.bin .mod (.bi .int (.cons (.bin .add (.v 4) (.v 2)) .nil)) (.c (.int 2))) (.c (.int 0))) (.bin .add (.c (.int 1)) (.bin .mod (.bi .int (.cons (.v 4) .nil)) (.c (.int 3)))) (.neg (.c (.int 1)))) (.cons (.c (.int 1)) .nil))) .nil)))) .nil))) .done)) (.seq (.ret (.tup (.cons (.v 0) (.cons (.bi .tuple (.cons (.v 3) .nil)) (.cons (.tup (.cons (.bin .mul (.tup (.cons (.tup (.cons (.bin .sub (.c (.int 1)) (.v 2)) (.cons (.c (.int 1)) .nil))) .nil)) (.v 0)) (.cons (.tup (.cons (.v 2) (.cons (.c (.int 1)) .nil))) .nil))) .nil))))) .done)))
/-- _law_great_net -/
def b__law_great_net : C := (.seq (.asg (.n 3) (.call 31 (.cons (.v 0) (.cons (.bin .mod (.bi .int (.cons (.v 1) .nil)) (.c (.int 24))) (.cons (.v 2) .nil))))) (.seq (.for (.n 4) (.rng (.c (.int 0)) (.bin .fdiv (.v 1) (.c (.int 24)))) (.seq (.xasg (.n 3) (.callX 10 (.cons (.v 3) (.cons (.call 31 (.cons (.v 0) (.cons (.c (.int 24)) (.cons (.bin .add (.v 2) (.v 4)) .nil)))) (.cons (.tup (.cons (.c (.int 1)) (.cons (.c (.int 1)) .nil))) (.cons (.tup (.cons (.c (.int 1)) (.cons (.c (.int 1)) .nil))) .nil)))))) .done)) (.seq (.ret (.v 3)) .done)))
/-- _law_is_wide -/
def b__law_is_wide : C := (.seq (.ite (.or (.not (.tv (.isi (.v 0) .tuple))) (.or (.cmp .ne (.bi .len (.cons (.v 0) .nil)) (.c (.int 3))) (.or (.not (.tv (.isi (.ix (.v 0) (.c (.int 1))) .tuple))) (.not (.chain .le .le (.c (.int 1)) (.bi .len (.cons (.ix (.v 0) (.c (.int 1))) .nil)) (.c (.int 12))))))) (.seq (.ret (.c (.bl false))) .done) .done) (.seq (.asg (.n 1) (.ix (.v 0) (.c (.int 0)))) (.seq (.for (.n 2) (.it (.ix (.v 0) (.c (.int 1)))) (.seq (.ite (.or (.not (.tv (.isi (.v 2) .tuple))) (.not (.chain .le .le (.c (.int 1)) (.bi .len (.cons (.v 2) .nil)) (.c (.int 200))))) (.seq (.ret (.c (.bl false))) .done) .done) (.seq (.for (.n 3) (.it (.v 2)) (.seq (.ite (.or (.not (.tv (.isi (.v 3) .tuple))) (.or (.cmp .ne (.bi .len (.cons (.v 3) .nil)) (.c (.int 2))) (.or (.not (.tv (.isi (.ix (.v 3) (.c (.int 0))) .tuple))) (.cmp .ne (.bi .len (.cons (.ix (.v 3) (.c (.int 0))) .nil)) (.v 1))))) (.seq (.ret (.c (.bl false))) .done) .done) .done)) (.seq (.asg (.n 1) (.bi .len (.cons (.v 2) .nil))) .done)))) (.seq (.ret (.cmp .eq (.bi .len (.cons (.ix (.ix (.v 0) (.c (.int 2))) (.c (.int 0))) .nil)) (.v 1))) .done))))
/-- _law_greater_of -/
def b__law_greater_of : C := (.seq (.swap 3 4 (.call 22 (.cons (.v 0) (.cons (.v 2) .nil))) (.call 22 (.cons (.v 1) (.cons (.v 2) .nil)))) (.seq (.ret (.ite (.tv (.call 19 (.cons (.v 3) (.cons (.v 4) .nil)))) (.v 4) (.v 3))) .done))
/-- _law_is_greater -/
def b__law_is_greater : C := (.seq (.ite (.not (.tv (.call 29 (.cons (.v 2) (.cons (.ix (.v 0) (.c (.int 0))) .nil))))) (.seq (.ret (.c (.bl false))) .done) .done) (.seq (.for (.n 4) (.it (.v 3)) (.seq (.ite (.cmp .ne (.call 28 (.cons (.v 2) (.cons (.v 4) .nil))) (.call 34 (.cons (.v 0) (.cons (.v 1) (.cons (.v 4) .nil))))) (.seq (.ret (.c (.bl false))) .done) .done) .done)) (.seq (.ret (.c (.bl true))) .done)))
/-- _law_is_far -/
def b__law_is_far : C := (.seq (.tr (.seq (.xex (.callX 9 (.cons (.v 0) (.cons (.v 1) .nil)))) .done) [1] (.seq (.ret (.c (.bl true))) .done)) (.seq (.ret (.c (.bl false))) .done))
/-- law -/
def b_law : C := (.seq (.asg (.n 1) (.call 11 (.cons (.v 0) .nil))) (.seq (.for (.n 2) (.rng (.c (.int 0)) (.c (.int 2))) (.seq (.asg (.n 3) (.bin .add (.c (.int 1)) (.call 12 (.cons (.v 1) (.cons (.c (.int 4)) .nil))))) (.seq (.asg (.n 4) (.call 25 (.cons (.v 1) (.cons (.v 3) (.cons (.c (.int 4)) (.cons (.c (.int 4)) (.cons (.lst false (.cons (.c (.int 1)) (.cons (.c (.int 1)) (.cons (.c (.int 2)) .nil)))) .nil))))))) (.seq (.asg (.n 5) (.call 13 (.cons (.v 1) (.cons (.lst false (.cons (.call 25 (.cons (.v 1) (.cons (.v 3) (.cons (.c (.int 4)) (.cons (.c (.int 4)) (.cons (.lst false (.cons (.c (.int 1)) (.cons (.c (.int 1)) (.cons (.c (.int 2)) .nil)))) .nil)))))) (.cons (.v 4) (.cons (.tup (.cons (.v 3) (.cons (.ix (.v 4) (.c (.int 1))) (.cons (.tup (.cons (.ix (.ix (.v 4) (.c (.int 2))) (.c (.int 0))) (.cons (.call 17 (.cons (.ix (.ix (.v 4) (.c (.int 2))) (.c (.int 1))) (.cons (.tup (.cons (.neg (.c (.int 1))) (.cons (.c (.int 2)) .nil))) .nil))) .nil))) .nil)))) (.cons (.tup (.cons (.v 3) (.cons (.tup .nil) (.cons (.tup (.cons (.bin .mul (.tup (.cons (.tup (.cons (.c (.int 0)) (.cons (.c (.int 1)) .nil))) .nil)) (.v 3)) (.cons (.tup (.cons (.c (.int 1)) (.cons (.c (.int 1)) .nil))) .nil))) .nil)))) .nil))))) .nil)))) (.seq (.asg (.n 6) (.bin .add (.call 30 (.cons (.v 1) (.cons (.v 3) (.cons (.c (.int 8)) .nil)))) (.lst false (.cons (.bin .mul (.tup (.cons (.tup (.cons (.c (.int 0)) (.cons (.c (.int 1)) .nil))) .nil)) (.v 3)) (.cons (.bin .mul (.tup (.cons (.tup (.cons (.c (.int 100)) (.cons (.c (.int 1)) .nil))) .nil)) (.v 3)) (.cons (.bin .mul (.tup (.cons (.tup (.cons (.neg (.c (.int 100))) (.cons (.c (.int 1)) .nil))) .nil)) (.v 3)) .nil)))))) (.seq (.xasg (.n 7) (.ite (.cmp .gt (.v 2) (.c (.int 0))) (.callX 9 (.cons (.v 4) (.cons (.v 5) .nil))) (.callXK 9 .nil (.cons (.v 4) (.cons (.v 5) .nil)) 0))) (.seq (.ite (.or (.not (.tv (.call 35 (.cons (.v 4) (.cons (.v 5) (.cons (.v 7) (.cons (.v 6) .nil))))))) (.not (.tv (.call 35 (.cons (.v 4) (.cons (.v 5) (.cons (.call 9 (.cons (.v 5) (.cons (.v 4) .nil))) (.cons (.sl (.v 6) .nil (.so (.c (.int 5)))) .nil)))))))) (.seq (.ret (.c (.bl false))) .done) .done) .done))))))) (.seq (.ite (.cmp .gt (.call 12 (.cons (.v 1) (.cons (.c (.int 3)) .nil))) (.c (.int 0))) (.seq (.ret (.c (.bl true))) .done) .done) (.seq (.asg (.n 3) (.bin .add (.c (.int 1)) (.call 12 (.cons (.v 1) (.cons (.c (.int 2)) .nil))))) (.seq (.for (.t (.cons (.n 8) (.cons (.n 9) .nil))) (.it (.lst false (.cons (.call 13 (.cons (.v 1) (.cons (.lst false (.cons (.tup (.cons (.c (.int 99)) (.cons (.c (.int 99)) .nil))) (.cons (.tup (.cons (.c (.int 120)) (.cons (.c (.int 78)) .nil))) (.cons (.tup (.cons (.c (.int 8)) (.cons (.c (.int 190)) .nil))) (.cons (.tup (.cons (.c (.int 190)) (.cons (.c (.int 8)) .nil))) (.cons (.tup (.cons (.c (.int 198)) (.cons (.c (.int 0)) .nil))) (.cons (.tup (.cons (.c (.int 0)) (.cons (.c (.int 198)) .nil))) .nil))))))) .nil))) (.cons (.call 13 (.cons (.v 1) (.cons (.lst false (.cons (.tup (.cons (.c (.int 99)) (.cons (.c (.int 100)) .nil))) (.cons (.tup (.cons (.c (.int 100)) (.cons (.c (.int 99)) .nil))) (.cons (.tup (.cons (.c (.int 199)) (.cons (.c (.int 0)) .nil))) (.cons (.tup (.cons (.c (.int 0)) (.cons (.c (.int 199)) .nil))) (.cons (.tup (.cons (.c (.int 24)) (.cons (.c (.int 175)) .nil))) .nil)))))) .nil))) .nil)))) (.seq (.asg (.t (.cons (.n 4) (.cons (.n 5) .nil))) (.tup (.cons (.call 32 (.cons (.v 3) (.cons (.v 8) (.cons (.c (.int 0)) .nil)))) (.cons (.call 32 (.cons (.v 3) (.cons (.v 9) (.cons (.c (.int 1)) .nil)))) .nil)))) (.seq (.ite (.cmp .ne (.call 36 (.cons (.v 4) (.cons (.v 5) .nil))) (.cmp .gt (.bin .add (.bi .len (.cons (.ix (.v 4) (.c (.int 1))) .nil)) (.bi .len (.cons (.ix (.v 5) (.c (.int 1))) .nil))) (.c (.int 198)))) (.seq (.ret (.c (.bl false))) .done) .done) (.seq (.ite (.cmp .le (.bin .add (.bi .len (.cons (.ix (.v 4) (.c (.int 1))) .nil)) (.bi .len (.cons (.ix (.v 5) (.c (.int 1))) .nil))) (.c (.int 198))) (.seq (.xasg (.n 7) (.callX 9 (.cons (.v 4) (.cons (.v 5) .nil)))) (.seq (.ite (.or (.not (.tv (.call 33 (.cons (.v 7) .nil)))) (.cmp .ne (.lc false [10, 11] (.n 11) (.v 11) (.it (.call 30 (.cons (.v 1) (.cons (.v 3) (.cons (.c (.int 2)) .nil))))) (.cmp .ne (.call 28 (.cons (.v 7) (.cons (.v 11) .nil))) (.call 34 (.cons (.v 4) (.cons (.v 5) (.cons (.v 11) .nil)))))) (.lst false .nil))) (.seq (.ret (.c (.bl false))) .done) .done) .done)) .done) .done)))) (.seq (.ret (.c (.bl true))) .done))))))
def fs : List FnD := [⟨2, 2, b_divisor⟩, ⟨2, 3, b_lowest⟩, ⟨2, 2, b_plus⟩, ⟨2, 2, b_minus⟩, ⟨2, 2, b_product⟩, ⟨2, 6, b_added_rows⟩, ⟨2, 5, b_scaled_row⟩, ⟨2, 5, b_unit_row⟩, ⟨1, 1, b_signed_pair⟩, ⟨2, 16, b_greater⟩, ⟨4, 11, b_added⟩, ⟨1, 5, b__law_bag⟩, ⟨2, 5, b__law_draw⟩, ⟨2, 2, b__law_pick⟩, ⟨2, 3, b__law_same⟩, ⟨2, 3, b__law_gcd⟩, ⟨2, 3, b__law_fr⟩, ⟨2, 2, b__law_plus⟩, ⟨2, 2, b__law_times⟩, ⟨2, 2, b__law_less⟩, ⟨2, 4, b__law_dot⟩, ⟨2, 4, b__law_taken⟩, ⟨2, 7, b__law_answer⟩, ⟨3, 3, b__law_draw_fr⟩, ⟨4, 6, b__law_draw_row⟩, ⟨5, 11, b__law_net⟩, ⟨1, 3, b__law_is_fraction⟩, ⟨2, 4, b__law_is_row⟩, ⟨2, 11, b__law_deep⟩, ⟨2, 6, b__law_is_deep⟩, ⟨3, 5, b__law_points⟩, ⟨3, 7, b__law_plain_net⟩, ⟨3, 5, b__law_great_net⟩, ⟨1, 4, b__law_is_wide⟩, ⟨3, 5, b__law_greater_of⟩, ⟨4, 5, b__law_is_greater⟩, ⟨2, 2, b__law_is_far⟩, ⟨1, 12, b_law⟩]
def kps : List (Nat × Nat × List Nat) := [(0, 2, [0, 1])]
abbrev f_divisor : Nat := 0
abbrev f_lowest : Nat := 1
abbrev f_plus : Nat := 2
abbrev f_minus : Nat := 3
abbrev f_product : Nat := 4
abbrev f_added_rows : Nat := 5
abbrev f_scaled_row : Nat := 6
abbrev f_unit_row : Nat := 7
abbrev f_signed_pair : Nat := 8
abbrev f_greater : Nat := 9
abbrev f_added : Nat := 10
abbrev f__law_bag : Nat := 11
abbrev f__law_draw : Nat := 12
abbrev f__law_pick : Nat := 13
abbrev f__law_same : Nat := 14
abbrev f__law_gcd : Nat := 15
abbrev f__law_fr : Nat := 16
abbrev f__law_plus : Nat := 17
abbrev f__law_times : Nat := 18
abbrev f__law_less : Nat := 19
abbrev f__law_dot : Nat := 20
abbrev f__law_taken : Nat := 21
abbrev f__law_answer : Nat := 22
abbrev f__law_draw_fr : Nat := 23
abbrev f__law_draw_row : Nat := 24
abbrev f__law_net : Nat := 25
abbrev f__law_is_fraction : Nat := 26
abbrev f__law_is_row : Nat := 27
abbrev f__law_deep : Nat := 28
abbrev f__law_is_deep : Nat := 29
abbrev f__law_points : Nat := 30
abbrev f__law_plain_net : Nat := 31
abbrev f__law_great_net : Nat := 32
abbrev f__law_is_wide : Nat := 33
abbrev f__law_greater_of : Nat := 34
abbrev f__law_is_greater : Nat := 35
abbrev f__law_is_far : Nat := 36
abbrev f_law : Nat := 37
def X : Mod' := ⟨[.tup [.int 0, .int 1], .tup [.int 1, .int 1], .int 200, .int 2000], kps⟩
theorem Xc : X.consts = [.tup [.int 0, .int 1], .tup [.int 1, .int 1], .int 200, .int 2000] := rfl
abbrev Cl (k f : Nat) (ds : List D) (S : Sto) (Q : D → Sto → Prop) : Prop := callD X fs k f ds S Q
section
variable {k : Nat} {x y : Rat} {S : Sto} {Q : D → Sto → Prop}
theorem divisor_ok {a b : Int} (h : Q (.int (Int.gcd a b : Nat)) S) : Cl (k + 1) f_divisor [.int a, .int b] S Q := by
  refine ⟨_, rfl, rfl, ?_⟩
  wp_walk using RUN, b_divisor
  refine loopW_ind (fun m ρ S' => S' = S ∧ ∃ c d : Int, 0 ≤ c ∧ 0 ≤ d ∧ d.toNat ≤ m ∧ Int.gcd c d = Int.gcd a b ∧ ρ = [some (.int c), some (.int d)]) b.natAbs ⟨rfl, a.natAbs, b.natAbs, by omega, by omega, by omega, by simp [Int.gcd], rfl⟩ ?_
  rintro m next ih ρ S' ⟨rfl, c, d, hc, hd, hm, hg, rfl⟩
  wp_walk using RUN
  split
  · rename_i q
    have b := fmod_bounds (a := c) (show 0 < d by omega)
    exact ⟨q, ih (m - 1) _ _ (by omega) ⟨rfl, d, c.fmod d, hd, b.1, by omega, by rw [gcd_step hc hd, hg], rfl⟩⟩
  · rename_i q
    have q' : d = 0 := by omega
    subst q'
    rw [Int.gcd_zero_right] at hg
    rw [← hg, Int.natAbs_of_nonneg hc] at h
    exact .same h
theorem lowest_ok {a b : Int} (hb : b ≠ 0) (h : Q (fr (Rat.divInt a b)) S) : Cl (k + 2) f_lowest [.int a, .int b] S Q := by
  refine ⟨_, rfl, rfl, ?_⟩
  have g : (Int.gcd a b : Int) ≠ 0 := by
    have : Int.gcd a b ≠ 0 := fun e => hb (Int.gcd_eq_zero_iff.mp e).2
    omega
  wp_walk using RUN, b_lowest
  refine divisor_ok ?_
  rw [fr_low a b hb] at h
  wp_walk using RUN
  split
  · rename_i q
    rw [if_pos q] at h
    exact ⟨by omega, by omega, .same h⟩
  · rename_i q
    rw [if_neg q] at h
    exact ⟨by omega, by omega, .same h⟩
theorem plus_ok {B C : Nat} (h1 : FB B x) (h2 : FB C y) (l : B + C < 1000000) (h : Q (fr (x + y)) S) : Cl (k + 3) f_plus [fr x, fr y] S Q := by
  refine ⟨_, rfl, rfl, ?_⟩
  wp_walk using RUN, b_plus
  split
  · rename_i q
    rw [Rat.num_eq_zero.mp q, Rat.zero_add] at h
    exact .same h
  · split
    · rename_i q
      rw [Rat.num_eq_zero.mp q, Rat.add_zero] at h
      exact .same h
    · refine ⟨h1.md h2 l, h2.md h1 (by omega), h1.dd h2 l, lowest_ok (dens_ne x y) ?_⟩
      rw [← add_eq]
      exact .same h
theorem product_ok {B C : Nat} (h1 : FB B x) (h2 : FB C y) (l : B + C < 1000000) (h : Q (fr (x * y)) S) : Cl (k + 3) f_product [fr x, fr y] S Q := by
  refine ⟨_, rfl, rfl, ?_⟩
  wp_walk using RUN, b_product
  refine ⟨h1.mn h2 l, h1.dd h2 l, lowest_ok (dens_ne x y) ?_⟩
  rw [← mul_eq]
  exact .same h
end


section
variable {k : Nat} {x y : Rat} {S : Sto} {Q : D → Sto → Prop}
theorem lgcd_ok {a b : Int} {B : Nat} (h1 : a.natAbs < 2 ^ B) (h2 : b.natAbs < 2 ^ B) (l : B < 49998) (h : Q (.int (Int.gcd a b : Nat)) S) : Cl (k + 1) f__law_gcd [.int a, .int b] S Q := by
  refine ⟨_, rfl, rfl, ?_⟩
  wp_walk using RUN, b__law_gcd
  refine ⟨by unfold RngOk; omega, ?_⟩
  refine loopF_ind (fun xs ρ S' => S' = S ∧ ∃ (c d : Int) (n : Nat) (t : Option D), 0 ≤ c ∧ 0 ≤ d ∧ Int.gcd c d = Int.gcd a b ∧ c * d < 2 ^ n ∧ (if d ≤ c then n < xs.length else n + 1 < xs.length) ∧ ρ = [some (.int c), some (.int d), t])
    ?_ ?_ ?_
  · refine ⟨rfl, a.natAbs, b.natAbs, B + B, none, by omega, by omega, by simp [Int.gcd], ?_, ?_, rfl⟩
    rotate_left
    · have e : (rangeD 0 100000).length = 100000 := rangeD_len
      rw [e]
      split <;> omega
    have := lt_pow_mul h1 h2
    rw [← Int.natCast_mul]
    have e : ((2 : Int) ^ (B + B)) = ((2 ^ (B + B) : Nat) : Int) := by simp
    rw [e]
    omega
  · rintro ρ S' ⟨rfl, c, d, n, t, _, _, _, _, e, _⟩
    split at e <;> simp at e
  · rintro x xs next ih ρ S' ⟨rfl, c, d, n, t, hc, hd, hg, hp, hl, rfl⟩
    wp_walk using RUN
    rw [List.length_cons] at hl
    split
    · rename_i q
      subst q
      rw [Int.gcd_zero_right] at hg
      rw [← hg, Int.natAbs_of_nonneg hc] at h
      exact .same h
    · rename_i q
      refine ⟨q, ih _ _ ?_⟩
      have b := fmod_bounds (a := c) (show 0 < d by omega)
      split at hl
      · rename_i hdc
        cases n with
        | zero =>
          have : 1 * 1 ≤ c * d := Int.mul_le_mul (by omega) (by omega) (by omega) (by omega)
          simp at hp
          omega
        | succ n => exact ⟨rfl, d, c.fmod d, n, _, hd, b.1, by rw [gcd_step hc hd, hg], euclid_half (by omega) hdc hp, by rw [if_pos (by omega)]; omega, rfl⟩
      · rename_i hdc
        have e : c.fmod d = c := by rw [Int.fmod_eq_emod_of_nonneg _ hd]; exact Int.emod_eq_of_lt hc (by omega)
        exact ⟨rfl, d, c.fmod d, n, _, hd, b.1, by rw [gcd_step hc hd, hg], by rw [e, Int.mul_comm]; exact hp, by rw [if_pos (by omega)]; omega, rfl⟩
theorem lfr_ok {a b : Int} {B : Nat} (h1 : a.natAbs < 2 ^ B) (h2 : b.natAbs < 2 ^ B) (l : B < 49998) (hb : b ≠ 0) (h : Q (fr (Rat.divInt a b)) S) : Cl (k + 2) f__law_fr [.int a, .int b] S Q := by
  refine ⟨_, rfl, rfl, ?_⟩
  have g : (Int.gcd a b : Int) ≠ 0 := by
    have : Int.gcd a b ≠ 0 := fun e => by have := (Int.gcd_eq_zero_iff.mp e).2; omega
    omega
  wp_walk using RUN, b__law_fr
  rw [fr_low a b hb] at h
  refine ite3 (fun q => ?_) (fun q => ?_)
  · refine lgcd_ok h1 h2 l ?_
    try wp_walk using RUN
    rw [if_neg (by omega)] at h
    exact ⟨g, g, .same h⟩
  · refine lgcd_ok h1 h2 l ?_
    try wp_walk using RUN
    rw [if_pos (by omega)] at h
    rw [Int.zero_sub]
    exact ⟨by omega, by omega, .same h⟩
theorem lplus_ok {B C : Nat} (h1 : FB B x) (h2 : FB C y) (l : B + C < 49988) (h : Q (fr (x + y)) S) : Cl (k + 3) f__law_plus [fr x, fr y] S Q := by
  refine ⟨_, rfl, rfl, ?_⟩
  wp_walk using RUN, b__law_plus
  refine ⟨h1.md h2 (by omega), h2.md h1 (by omega), h1.dd h2 (by omega), lfr_ok (h1.add_num h2) (pow2_mono (h1.dens h2) (by omega)) (by omega) (dens_ne x y) ?_⟩
  rw [← add_eq]
  exact .same h
theorem ltimes_ok {B C : Nat} (h1 : FB B x) (h2 : FB C y) (l : B + C < 49988) (h : Q (fr (x * y)) S) : Cl (k + 3) f__law_times [fr x, fr y] S Q := by
  refine ⟨_, rfl, rfl, ?_⟩
  wp_walk using RUN, b__law_times
  refine ⟨h1.mn h2 (by omega), h1.dd h2 (by omega), lfr_ok (h1.nums h2) (h1.dens h2) (by omega) (dens_ne x y) ?_⟩
  rw [← mul_eq]
  exact .same h
end


section
variable {k : Nat} {x y : Rat} {S : Sto} {Q : D → Sto → Prop}
abbrev row (r : List Rat) : D := .tup (r.map fr)
def dotR : List Rat → List Rat → Rat
  | a :: r, b :: s => a * b + dotR r s
  | _, _ => 0
theorem FB0 : FB 1 0 := ⟨by decide, by decide⟩
theorem tup01 : D.tup [.int 0, .int 1] = fr 0 := rfl
theorem dotR_nil {r s : List Rat} (h : r = [] ∨ s = []) : dotR r s = 0 := by
  rcases h with h | h
  · subst h; unfold dotR; rfl
  · subst h; cases r <;> rfl
end


/-! ### sizes of a dot, number by number -/
def DB : List Rat → List Rat → Nat → Prop
  | a :: r, b :: s, n => ∃ B C m, FB B a ∧ FB C b ∧ DB r s m ∧ B + C + 1 + m ≤ n
  | _, _, n => 1 ≤ n
theorem DB_nil {r s : List Rat} {n : Nat} (h : r = [] ∨ s = []) : DB r s n = (1 ≤ n) := by
  rcases h with h | h
  · subst h; unfold DB; rfl
  · subst h; cases r <;> rfl
theorem DB.mono {r s : List Rat} {n m : Nat} (h : DB r s n) (l : n ≤ m) : DB r s m := by
  cases r with
  | nil => rw [DB_nil (.inl rfl)] at h ⊢; omega
  | cons a r =>
    cases s with
    | nil => rw [DB_nil (.inr rfl)] at h ⊢; omega
    | cons b s => obtain ⟨B, C, k, h1, h2, h3, h4⟩ := h; exact ⟨B, C, k, h1, h2, h3, by omega⟩
theorem DB_all {B C : Nat} {r s : List Rat} (h1 : ∀ a ∈ r, FB B a) (h2 : ∀ a ∈ s, FB C a) : DB r s ((B + C + 1) * r.length + 1) := by
  induction r generalizing s with
  | nil => rw [DB_nil (.inl rfl)]; omega
  | cons a r ih =>
    cases s with
    | nil => rw [DB_nil (.inr rfl)]; omega
    | cons b s =>
      refine ⟨B, C, _, h1 a List.mem_cons_self, h2 b List.mem_cons_self, ih (fun a h => h1 a (List.mem_cons_of_mem _ h)) (fun a h => h2 a (List.mem_cons_of_mem _ h)), ?_⟩
      rw [List.length_cons, Nat.mul_add]; omega
theorem DB_app {r r' s s' : List Rat} {n m : Nat} (h1 : DB r s n) (hl : r.length = s.length) (h2 : DB r' s' m) : DB (r ++ r') (s ++ s') (n + m) := by
  induction r generalizing s n with
  | nil =>
    cases s with
    | nil => exact h2.mono (by omega)
    | cons b s => cases hl
  | cons a r ih =>
    cases s with
    | nil => cases hl
    | cons b s =>
      obtain ⟨B, C, k, g1, g2, g3, g4⟩ := h1
      exact ⟨B, C, k + m, g1, g2, ih g3 (by simpa using hl), by omega⟩
theorem DB.fb {r s : List Rat} {n : Nat} (h : DB r s n) : FB n (dotR r s) := by
  induction r generalizing s n with
  | nil => rw [dotR_nil (.inl rfl)]; rw [DB_nil (.inl rfl)] at h; exact FB0.mono h
  | cons a r ih =>
    cases s with
    | nil => rw [dotR_nil (.inr rfl)]; rw [DB_nil (.inr rfl)] at h; exact FB0.mono h
    | cons b s =>
      obtain ⟨B, C, k, g1, g2, g3, g4⟩ := h
      show FB _ (a * b + dotR r s)
      exact ((g1.mul g2).add (ih g3)).mono (by omega)
theorem dotR_mul {t : Rat} {r s : List Rat} : dotR (r.map (t * ·)) s = t * dotR r s := by
  induction r generalizing s with
  | nil => rw [List.map_nil, dotR_nil (.inl rfl), Rat.mul_zero]
  | cons a r ih =>
    cases s with
    | nil => rw [dotR_nil (.inr rfl), dotR_nil (.inr rfl), Rat.mul_zero]
    | cons b s =>
      show t * a * b + dotR (r.map (t * ·)) s = t * (a * b + dotR r s)
      rw [ih]; grind
theorem dotR_app {r r' s s' : List Rat} (hl : r.length = s.length) : dotR (r ++ r') (s ++ s') = dotR r s + dotR r' s' := by
  induction r generalizing s with
  | nil =>
    cases s with
    | nil => rw [dotR_nil (.inl rfl), Rat.zero_add]; rfl
    | cons b s => cases hl
  | cons a r ih =>
    cases s with
    | nil => cases hl
    | cons b s =>
      show a * b + dotR (r ++ r') (s ++ s') = a * b + dotR r s + dotR r' s'
      rw [ih (by simpa using hl), Rat.add_assoc]
theorem rangeD_nil {a b : Int} (h : b ≤ a) : rangeD a b = [] := by
  unfold rangeD
  rw [show (b - a).toNat = 0 by omega]; rfl
theorem rangeD_cons {a b : Int} (h : a < b) : rangeD a b = .int a :: rangeD (a + 1) b := by
  unfold rangeD
  rw [show (b - a).toNat = (b - (a + 1)).toNat + 1 by omega, List.range_succ_eq_map]
  simp only [List.map_cons, List.map_map]
  congr 1
  · simp
  · refine List.map_congr_left fun i _ => ?_
    simp only [Function.comp_apply]
    congr 1
    omega
section
variable {k : Nat} {x : List Rat} {S : Sto} {Q : D → Sto → Prop}
theorem ldot_ok {r : List Rat} {n : Nat} (hd : DB r x n) (l : n < 49978) (l2 : r.length ≤ 1000) (hl : r.length ≤ x.length) (h : Q (fr (dotR r x)) S) : Cl (k + 4) f__law_dot [row r, row x] S Q := by
  refine ⟨_, rfl, rfl, ?_⟩
  wp_walk using RUN, b__law_dot, List.length_map
  refine ⟨by unfold RngOk; omega, ?_⟩
  rw [tup01]
  refine loopF_ind (fun xs ρ S' => S' = S ∧ ∃ (i T m : Nat) (t : Rat) (u : Option D), xs = rangeD i r.length ∧ i ≤ r.length ∧ t + dotR (r.drop i) (x.drop i) = dotR r x ∧ FB T t ∧ DB (r.drop i) (x.drop i) m ∧ T + m ≤ n + 1 ∧ ρ = [some (row r), some (row x), some (fr t), u]) ?_ ?_ ?_
  · exact ⟨rfl, 0, 1, n, 0, none, rfl, by omega, Rat.zero_add _, FB0, hd, by omega, rfl⟩
  · rintro ρ S' ⟨rfl, i, T, m, t, u, e, hi, e2, _, _, _, rfl⟩
    have : ¬ (i : Int) < (r.length : Int) := fun q => by rw [rangeD_cons q] at e; cases e
    have : i = r.length := by omega
    subst this
    rw [dotR_nil (.inl (by simp)), Rat.add_zero] at e2
    subst e2
    try wp_walk using RUN
    exact .same h
  · rintro y xs next ih ρ S' ⟨rfl, i, T, m, t, u, e, hi, e2, ft, hm, hT, rfl⟩
    by_cases q : (i : Int) < (r.length : Int)
    · rw [rangeD_cons q] at e
      cases e
      have hi' : i < r.length := by omega
      have hx : i < x.length := by omega
      rw [List.drop_eq_getElem_cons hi', List.drop_eq_getElem_cons hx] at hm e2
      obtain ⟨B, C, m', fa, fb, hm', hn⟩ := hm
      have ea : ∀ k : D → Prop, dIx S' (row r) (.int (i : Int)) k = k (fr r[i]) := fun k => ixT (by omega) (by simp [hi'])
      have eb : ∀ k : D → Prop, dIx S' (row x) (.int (i : Int)) k = k (fr x[i]) := fun k => ixT (by omega) (by simp [hx])
      have e3 : t + r[i] * x[i] + dotR (r.drop (i + 1)) (x.drop (i + 1)) = dotR r x := by rw [← e2, Rat.add_assoc]; rfl
      wp_walk using RUN, ea, eb
      refine ite3 (fun _ => ?_) (fun q0 => ?_)
      · refine ltimes_ok fa fb (by omega) ?_
        try wp_walk using RUN
        refine lplus_ok ft (fa.mul fb) (by omega) ?_
        try wp_walk using RUN
        exact ih _ _ ⟨rfl, i + 1, _, m', _, _, by rw [Int.natCast_add]; rfl, hi', e3, ft.add (fa.mul fb), hm', by omega, rfl⟩
      · have z : r[i] = 0 := Rat.num_eq_zero.mp (Classical.not_not.mp q0)
        rw [z, Rat.zero_mul, Rat.add_zero] at e3
        try wp_walk using RUN
        exact ih _ _ ⟨rfl, i + 1, T, m', t, _, by rw [Int.natCast_add]; rfl, hi', e3, ft, hm', by omega, rfl⟩
    · rw [rangeD_nil (by omega)] at e
      cases e
theorem lless_ok {x y : Rat} {B C : Nat} (h1 : FB B x) (h2 : FB C y) (l : B + C < 900000) (h : Q (.bl (decide (x < y))) S) : Cl (k + 1) f__law_less [fr x, fr y] S Q := by
  refine ⟨_, rfl, rfl, ?_⟩
  wp_walk using RUN, b__law_less
  refine ⟨h1.md h2 (by omega), h2.md h1 (by omega), ?_⟩
  have : decide (x.num * (y.den : Int) < y.num * (x.den : Int)) = decide (x < y) := by rw [decide_eq_decide, Rat.lt_iff]
  rw [this]
  exact .same h
end

section
variable {k : Nat} {x : List Rat} {S : Sto} {Q : D → Sto → Prop}
theorem taken_ok {t : Rat} {r : List Rat} {B C : Nat} (h1 : FB C t) (h2 : ∀ a ∈ r, FB B a) (hB : C + B < 49988) (hl : r.length ≤ 1000) (h : Q (row (r.map fun a => t * a)) S) : Cl (k + 4) f__law_taken [fr t, row r] S Q := by
  refine ⟨_, rfl, rfl, ?_⟩
  wp_walk using RUN, b__law_taken
  refine loopC_ind (fun xs acc S' => S' = S ∧ ∃ (r1 r2 : List Rat), xs = r2.map fr ∧ r = r1 ++ r2 ∧ acc = (r1.map fun a => t * a).map fr) ?_ ?_ ?_
  · exact ⟨rfl, [], r, rfl, rfl, rfl⟩
  · rintro acc S' ⟨rfl, r1, r2, e, e2, rfl⟩
    cases r2 with
    | cons a r => cases e
    | nil =>
      rw [List.append_nil] at e2
      subst e2
      try wp_walk using RUN
      exact .same h
  · rintro y xs next ih acc S' ⟨rfl, r1, r2, e, e2, rfl⟩
    cases r2 with
    | nil => cases e
    | cons a r2 =>
      cases e
      wp_walk using RUN, List.length_map
      refine ⟨?_, ?_⟩
      · have := congrArg List.length e2
        simp at this
        show _ < 16777216
        omega
      · refine ltimes_ok h1 (h2 a (by rw [e2]; simp)) (by omega) ?_
        try wp_walk using RUN
        exact ih _ _ ⟨rfl, r1 ++ [a], r2, rfl, by rw [e2]; simp, by simp⟩
end


section
variable {k : Nat} {x y : Rat} {S : Sto} {Q : D → Sto → Prop}
theorem scaled_ok {t : Rat} {r : List Rat} {B C : Nat} (h1 : FB C t) (h2 : ∀ a ∈ r, FB B a) (hB : C + B < 1000000) (hl : r.length ≤ 1000) (h : Q (row (r.map fun a => t * a)) S) : Cl (k + 4) f_scaled_row [fr t, row r] S Q := by
  refine ⟨_, rfl, rfl, ?_⟩
  wp_walk using RUN, b_scaled_row
  refine loopC_ind (fun xs acc S' => S' = S ∧ ∃ (r1 r2 : List Rat), xs = r2.map fr ∧ r = r1 ++ r2 ∧ acc = (r1.map fun a => t * a).map fr) ?_ ?_ ?_
  · exact ⟨rfl, [], r, rfl, rfl, rfl⟩
  · rintro acc S' ⟨rfl, r1, r2, e, e2, rfl⟩
    cases r2 with
    | cons a r => cases e
    | nil =>
      rw [List.append_nil] at e2
      subst e2
      try wp_walk using RUN
      exact .same h
  · rintro y xs next ih acc S' ⟨rfl, r1, r2, e, e2, rfl⟩
    cases r2 with
    | nil => cases e
    | cons a r2 =>
      cases e
      wp_walk using RUN, List.length_map
      refine ⟨?_, ?_⟩
      · have := congrArg List.length e2
        simp at this
        show _ < 16777216
        omega
      · refine product_ok h1 (h2 a (by rw [e2]; simp)) (by omega) ?_
        try wp_walk using RUN
        exact ih _ _ ⟨rfl, r1 ++ [a], r2, rfl, by rw [e2]; simp, by simp⟩
end


section
variable {k : Nat} {S : Sto} {Q : D → Sto → Prop}
theorem same_ok {n : Nat} {d : D} (hp : Pl n d) : ∀ {k : Nat} {Q : D → Sto → Prop}, Q (.bl true) S → Cl (k + n) f__law_same [d, d] S Q := by
  induction hp with
  | int n i =>
    intro k Q h
    show Cl (k + n + 1) _ _ _ _
    refine ⟨_, rfl, rfl, ?_⟩
    wp_walk using RUN, b__law_same
    exact .same h
  | tup n ds hd hl ihd =>
    intro k Q h
    show Cl (k + n + 1) _ _ _ _
    refine ⟨_, rfl, rfl, ?_⟩
    wp_walk using RUN, b__law_same
    refine ⟨by unfold RngOk; omega, ?_⟩
    refine loopF_ind (fun xs ρ S' => S' = S ∧ ∃ (i : Nat) (u : Option D), xs = rangeD i ds.length ∧ i ≤ ds.length ∧ ρ = [some (.tup ds), some (.tup ds), u]) ?_ ?_ ?_
    · exact ⟨rfl, 0, none, rfl, by omega, rfl⟩
    · rintro ρ S' ⟨rfl, i, u, e, hi, rfl⟩
      try wp_walk using RUN
      exact .same h
    · rintro y xs next ih ρ S' ⟨rfl, i, u, e, hi, rfl⟩
      by_cases q : (i : Int) < (ds.length : Int)
      · rw [rangeD_cons q] at e
        cases e
        have hi' : i < ds.length := by omega
        have ea : ∀ k : D → Prop, dIx S' (.tup ds) (.int (i : Int)) k = k ds[i] := fun k => ixT (by omega) (by simp [hi'])
        wp_walk using RUN, ea
        refine ihd _ (List.getElem_mem hi') ?_
        try wp_walk using RUN
        exact ih _ _ ⟨rfl, i + 1, _, by rw [Int.natCast_add]; rfl, hi', rfl⟩
      · rw [rangeD_nil (by omega)] at e
        cases e
theorem pl_fr (x : Rat) : Pl 2 (fr x) := .tup 1 _ (fun d h => by
  simp only [List.mem_cons, List.not_mem_nil, or_false] at h
  rcases h with rfl | rfl
  · exact .int 0 _
  · exact .int 0 _) (by simp)
end


def St (p g : Addr) (S : Sto) : Prop := p ≠ g ∧ ∃ (b0 b1 : Int) (great cells : List Int), S p = some [.int b0, .int b1, .ref g, .lst (cells.map .int)] ∧ S g = some (great.map .int) ∧ cells ≠ []
def Upd (p g : Addr) (S S' : Sto) : Prop := ∀ q, q ≠ p → q ≠ g → S' q = S q
theorem Upd.refl {p g : Addr} {S : Sto} : Upd p g S S := fun _ _ _ => rfl
theorem Upd.trans {p g : Addr} {S S1 S2 : Sto} (a : Upd p g S S1) (b : Upd p g S1 S2) : Upd p g S S2 := fun q h h2 => (b q h h2).trans (a q h h2)
theorem Upd.putp {p g : Addr} {S S1 : Sto} {xs : List D} (a : Upd p g S S1) : Upd p g S (S1.put p xs) := fun q h h2 => (Sto.put_ne h).trans (a q h h2)
theorem Upd.putg {p g : Addr} {S S1 : Sto} {xs : List D} (a : Upd p g S S1) : Upd p g S (S1.put g xs) := fun q h h2 => (Sto.put_ne h2).trans (a q h h2)
/-- one more list is changed, too -/
def UpdA (p g a : Addr) (S S' : Sto) : Prop := ∀ q, q ≠ p → q ≠ g → q ≠ a → S' q = S q
theorem UpdA.upd {p g a : Addr} {S S1 S2 : Sto} (x : UpdA p g a S S1) (y : Upd p g S1 S2) : UpdA p g a S S2 := fun q h1 h2 h3 => (y q h1 h2).trans (x q h1 h2 h3)
theorem UpdA.put {p g a : Addr} {S S1 : Sto} {xs : List D} (x : UpdA p g a S S1) : UpdA p g a S (S1.put a xs) := fun q h1 h2 h3 => by rw [Sto.put_ne h3]; exact x q h1 h2 h3
theorem UpdA.del {p g a : Addr} {S S1 : Sto} (x : UpdA p g a S S1) (h : S a = none) : Upd p g S (S1.del a) := fun q h1 h2 => by
  by_cases e : q = a
  · subst e; rw [Sto.del_same, h]
  · unfold Sto.del; rw [if_neg e]; exact x q h1 h2 e
theorem St.ne {p g a : Addr} {S : Sto} (x : St p g S) (h : S a = none) : a ≠ p ∧ a ≠ g := by
  obtain ⟨_, b0, b1, great, cells, e, e2, _⟩ := x
  exact ⟨fun z => (by rw [z, e] at h; cases h), fun z => (by rw [z, e2] at h; cases h)⟩
theorem St.of {p g : Addr} {S S' : Sto} (x : St p g S) (h1 : S' p = S p) (h2 : S' g = S g) : St p g S' := by
  obtain ⟨n, b0, b1, great, cells, e, e2, e3⟩ := x
  exact ⟨n, b0, b1, great, cells, h1.trans e, h2.trans e2, e3⟩
theorem St.put {p g a : Addr} {S : Sto} {xs : List D} (x : St p g S) (h : a ≠ p ∧ a ≠ g) : St p g (S.put a xs) := x.of (Sto.put_ne fun z => h.1 z.symm) (Sto.put_ne fun z => h.2 z.symm)
theorem St.del {p g a : Addr} {S : Sto} (x : St p g S) (h : a ≠ p ∧ a ≠ g) : St p g (S.del a) := x.of (by unfold Sto.del; rw [if_neg fun z => h.1 z.symm]) (by unfold Sto.del; rw [if_neg fun z => h.2 z.symm])
section
variable {k : Nat} {S : Sto} {Q : D → Sto → Prop}
theorem draw_ok {p g : Addr} {lim : Int} (hS : St p g S) (hl : 0 < lim) (h : ∀ v S', 0 ≤ v → v < lim → St p g S' → Upd p g S S' → Q (.int v) S') : Cl (k + 1) f__law_draw [.ref p, .int lim] S Q := by
  obtain ⟨hpg, b0, b1, great, cells, e, eg, hc⟩ := hS
  have hgp : g ≠ p := fun z => hpg z.symm
  refine ⟨_, rfl, rfl, ?_⟩
  have nl : lim ≠ 0 := by omega
  have fin : ∀ (v b0 b1 : Int) (great : List Int) (S' : Sto), S' p = some [.int b0, .int b1, .ref g, .lst (cells.map .int)] → S' g = some (great.map .int) → Upd p g S S' → Give Q (.int (v.fmod lim)) S' := fun v b0 b1 great S' h1 h2 h3 =>
    .same (h _ _ (fmod_bounds hl).1 (fmod_bounds hl).2 ⟨hpg, _, _, _, _, h1, h2, hc⟩ h3)
  have hcl : (cells.length : Int) ≠ 0 := by have := List.length_pos_iff.mpr hc; omega
  have pn : ∀ (S : Sto) (xs : List D), (S.put p xs) g = S g := fun _ _ => Sto.put_ne hgp
  have gn : ∀ (S : Sto) (xs : List D), (S.put g xs) p = S p := fun _ _ => Sto.put_ne hpg
  have pick : ∀ (b1 : Int), ∃ c : Int, ∀ (S : Sto) (k : D → Prop), dIx S (.lst (cells.map .int)) (.int (b1.fmod (cells.length : Int))) k = k (.int c) := fun b1 => by
    have hb := fmod_bounds (a := b1) (b := (cells.length : Int)) (by omega)
    have hi : (b1.fmod cells.length).toNat < cells.length := by omega
    exact ⟨cells[(b1.fmod cells.length).toNat], fun S k => ixL hb.1 (by simp [hi])⟩
  obtain ⟨c, ec⟩ := pick (b1 + 1)
  have fm := fun c b1 => fmod_bounds (a := c * 48271 + b1 * 69621 + 1) (b := (2147483647 : Int)) (by decide)
  have fin2 : ∀ (c b1 m : Int) (S' : Sto) (great : List Int) (b0 : Int), 0 ≤ m → m < 2147483647 → S' p = some [.int b0, .int b1, .ref g, .lst (cells.map .int)] → S' g = some (great.map .int) → Upd p g S S' →
      MulOk m m ∧ MulOk m 16807 ∧ MulOk b1 40014 ∧ (2147483629 : Int) ≠ 0 ∧ (32 : Int) ≠ 0 ∧ lim ≠ 0 ∧ Give Q (.int ((((m * m + m * 16807 + b1 * 40014).fmod 2147483629).fdiv 32).fmod lim)) S' := fun c b1 m S' great b0 h0 h1 h2 h3 h4 =>
    ⟨mulok_l (by omega), mulok_r (by omega), mulok_r (by omega), by decide, by decide, nl, fin _ _ _ great S' h2 h3 h4⟩
  wp_walk using RUN, b__law_draw, pn, gn, e, eg, mPop, List.length_map, ec
  refine ite3 (fun q0 => ?_) (fun q0 => ?_)
  · refine ite3 (fun q1 => ?_) (fun q1 => ?_)
    · have hl1 : great.length - 1 < great.length := by omega
      refine ⟨.int great[great.length - 1], by simp [hl1], ?_⟩
      wp_walk using RUN, pn, gn, List.length_map
      have ed : (List.map D.int great).dropLast = List.map D.int great.dropLast := by simp [List.map_dropLast]
      refine ite3 (fun q2 => ?_) (fun q2 => ?_)
      · exact ⟨nl, nl, fin _ _ _ great.dropLast _ Sto.put_same ((pn _ _).trans (Sto.put_same.trans (by rw [ed]))) (Upd.refl.putp.putg.putp)⟩
      · refine ⟨hcl, ?_⟩
        try wp_walk using RUN, ec
        exact ⟨mulok_r (by omega), mulok_r (by omega), by decide, fin2 c _ _ _ great.dropLast _ (fm c _).1 (fm c _).2 Sto.put_same ((pn _ _).trans (Sto.put_same.trans (by rw [ed]))) (Upd.refl.putp.putg.putp)⟩
    · refine ite3 (fun q2 => ?_) (fun q2 => ?_)
      · exact ⟨nl, nl, fin _ _ _ great _ Sto.put_same ((pn _ _).trans eg) Upd.refl.putp⟩
      · exact ⟨hcl, mulok_r (by omega), mulok_r (by omega), by decide, fin2 c _ _ _ great _ (fm c _).1 (fm c _).2 Sto.put_same ((pn _ _).trans eg) Upd.refl.putp⟩
  · refine ite3 (fun q2 => ?_) (fun q2 => ?_)
    · exact ⟨nl, nl, fin _ _ _ great _ Sto.put_same ((pn _ _).trans eg) Upd.refl.putp⟩
    · exact ⟨hcl, mulok_r (by omega), mulok_r (by omega), by decide, fin2 c _ _ _ great _ (fm c _).1 (fm c _).2 Sto.put_same ((pn _ _).trans eg) Upd.refl.putp⟩
theorem pick_ok {p g : Addr} {ds : List D} (hS : St p g S) (hl : ds ≠ []) (h : ∀ d S', d ∈ ds → St p g S' → Upd p g S S' → Q d S') : Cl (k + 2) f__law_pick [.ref p, .tup ds] S Q := by
  refine ⟨_, rfl, rfl, ?_⟩
  have hn : 0 < ds.length := List.length_pos_iff.mpr hl
  wp_walk using RUN, b__law_pick
  refine draw_ok hS (by omega) fun v S' h0 h1 hS' hU => ?_
  have hi : v.toNat < ds.length := by omega
  have ea : ∀ (k : D → Prop), dIx S' (.tup ds) (.int v) k = k ds[v.toNat] := fun k => ixT h0 (by simp [hi])
  wp_walk using RUN, ea
  exact .same (h _ _ (List.getElem_mem hi) hS' hU)
theorem pick_okL {p g : Addr} {ds : List D} (hS : St p g S) (hl : ds ≠ []) (h : ∀ d S', d ∈ ds → St p g S' → Upd p g S S' → Q d S') : Cl (k + 2) f__law_pick [.ref p, .lst ds] S Q := by
  refine ⟨_, rfl, rfl, ?_⟩
  have hn : 0 < ds.length := List.length_pos_iff.mpr hl
  wp_walk using RUN, b__law_pick
  refine draw_ok hS (by omega) fun v S' h0 h1 hS' hU => ?_
  have hi : v.toNat < ds.length := by omega
  have ea : ∀ (k : D → Prop), dIx S' (.lst ds) (.int v) k = k ds[v.toNat] := fun k => ixL h0 (by simp [hi])
  wp_walk using RUN, ea
  exact .same (h _ _ (List.getElem_mem hi) hS' hU)
theorem pick_okR {p g a : Addr} {ds : List D} (hS : St p g S) (ap : a ≠ p ∧ a ≠ g) (ea : S a = some ds) (hl : ds ≠ []) (h : ∀ d S', d ∈ ds → St p g S' → Upd p g S S' → Q d S') : Cl (k + 2) f__law_pick [.ref p, .ref a] S Q := by
  refine ⟨_, rfl, rfl, ?_⟩
  have hn : 0 < ds.length := List.length_pos_iff.mpr hl
  wp_walk using RUN, b__law_pick, ea
  refine draw_ok hS (by omega) fun v S' h0 h1 hS' hU => ?_
  have hi : v.toNat < ds.length := by omega
  have ea' : S' a = some ds := by rw [hU a ap.1 ap.2]; exact ea
  have ed : ∀ (k : D → Prop), dIx S' (.lst ds) (.int v) k = k ds[v.toNat] := fun k => ixL h0 (by simp [hi])
  wp_walk using RUN, ea', ed
  exact .same (h _ _ (List.getElem_mem hi) hS' hU)
theorem mod_loop {G : Fns} {ρ : Rho} {fin : List D → Sto → Prop} {cells : List Int} (hρ : ρ.length = 5) (hl : cells.length ≤ 1000) (h : ∀ l : List Int, l.length = cells.length → fin (l.map .int) S) :
    loopC X G [3, 4] (TT'.n 4) (M.bin .mod (M.bi .int (M.cons (M.v 4) M.nil)) (M.c (.int 2147483647))) M.nil ρ (fun _ => True) fin (cells.map .int) [] S := by
  refine loopC_ind (fun xs acc S' => S' = S ∧ ∃ l1 l2 : List Int, xs = l2.map .int ∧ acc = l1.map .int ∧ l1.length + l2.length = cells.length) ?_ ?_ ?_
  · exact ⟨rfl, [], cells, rfl, rfl, by simp⟩
  · rintro acc S' ⟨rfl, l1, l2, e, rfl, hl⟩
    cases l2 with
    | cons a l => cases e
    | nil => exact ⟨trivial, h l1 (by simpa using hl)⟩
  · rintro x xs next ih acc S' ⟨rfl, l1, l2, e, rfl, hl2⟩
    cases l2 with
    | nil => cases e
    | cons z l2 =>
      cases e
      rw [List.length_cons] at hl2
      have hv : (((ρ.set 4 none).set 3 none).set 4 (some (D.int z)))[4]? = some (some (D.int z)) := by
        rw [List.getElem?_set_self]
        simp [hρ]
      wp_walk using RUN, hv
      exact ⟨by rw [List.length_map]; unfold LIM; omega, by decide, ih _ _ ⟨rfl, l1 ++ [z.fmod 2147483647], l2, rfl, by simp, by simp; omega⟩⟩
theorem great_loop {G : Fns} {ρ : Rho} {fin : List D → Sto → Prop} {cells : List Int} (hρ : ρ.length = 5) (hl : cells.length ≤ 1000) (h : ∀ l : List Int, fin (l.map .int) S) :
    loopC X G [3, 4] (TT'.n 4) (M.bin BO.fdiv (M.v 4) (M.c (SC.int 2))) (M.cmp CO.ge (M.v 4) (M.bin BO.pow (M.c (SC.int 10)) (M.c (SC.int 18)))) ρ (fun _ => True) fin (cells.map .int) [] S := by
  refine loopC_ind (fun xs acc S' => S' = S ∧ ∃ l1 l2 : List Int, xs = l2.map .int ∧ acc = l1.map .int ∧ l1.length + l2.length ≤ cells.length) ?_ ?_ ?_
  · exact ⟨rfl, [], cells, rfl, rfl, by simp⟩
  · rintro acc S' ⟨rfl, l1, l2, e, rfl, hl⟩
    exact ⟨trivial, h l1⟩
  · rintro x xs next ih acc S' ⟨rfl, l1, l2, e, rfl, hl2⟩
    cases l2 with
    | nil => cases e
    | cons z l2 =>
      cases e
      rw [List.length_cons] at hl2
      have hv : (((ρ.set 4 none).set 3 none).set 4 (some (D.int z)))[4]? = some (some (D.int z)) := by
        rw [List.getElem?_set_self]
        simp [hρ]
      wp_walk using RUN, hv
      refine ⟨by rw [List.length_map]; unfold LIM; omega, ite3 (fun _ => ⟨by decide, ih _ _ ⟨rfl, l1 ++ [z.fdiv 2], l2, rfl, by simp, by simp; omega⟩⟩) (fun _ => ih _ _ ⟨rfl, l1, l2, rfl, rfl, by omega⟩)⟩
/-- the cells' own loop -/
theorem bag_ok {zs : List Int} (hz : zs.length ≤ 63) (h : ∀ p g S', S p = none → St p g S' → Upd p g S S' → Q (.ref p) S') : Cl (k + 1) f__law_bag [.scr (zs.map .int)] S Q := by
  refine ⟨_, rfl, rfl, ?_⟩
  wp_walk using RUN, b__law_bag
  refine loopC_ind (fun xs acc S' => S' = S ∧ ∃ l1 l2 : List Int, xs = l2.map .int ∧ acc = l1.map .int ∧ l1.length + l2.length ≤ 63) ?_ ?_ ?_
  · exact ⟨rfl, [], zs, rfl, rfl, by simpa using hz⟩
  · rintro acc S' ⟨rfl, l1, l2, e, rfl, hl⟩
    try wp_walk using RUN, List.length_map
    refine ⟨by unfold LIM; omega, ?_⟩
    rw [show List.map D.int l1 ++ [D.int 7] = (l1 ++ [7]).map .int by simp]
    have hlen : (l1 ++ [7]).length ≤ 64 := by rw [List.length_append, List.length_singleton]; omega
    have hne : l1 ++ [7] ≠ [] := by simp
    generalize l1 ++ [7] = cells at *
    have hc0 : ∀ (S : Sto) (k : D → Prop), dIx S (.lst (cells.map .int)) (.int 0) k = k (.int (cells.head hne)) := fun S k => ixL (by decide) (by cases cells with | nil => exact absurd rfl hne | cons a l => rfl)
    intro g hg
    wp_walk using RUN, hc0
    refine ⟨by decide, ite3 (fun _ => ?_) (fun _ => ?_)⟩
    · refine great_loop rfl (by omega) fun great => ?_
      intro g2 hg2
      refine mod_loop rfl (by omega) fun l hl2 => ?_
      intro p hp
      have n1 : g2 ≠ g := fun z => by rw [z, Sto.put_same] at hg2; cases hg2
      have n2 : p ≠ g2 := fun z => by rw [z, Sto.put_same] at hp; cases hp
      rw [Sto.put_ne n2] at hp
      have n3 : p ≠ g := fun z => by rw [z, Sto.put_same] at hp; cases hp
      rw [Sto.put_ne n3] at hp
      rw [Sto.put_ne n1] at hg2
      have dn : ∀ (S : Sto) (q : Addr), q ≠ g → S.del g q = S q := fun S q h => by unfold Sto.del; rw [if_neg h]
      refine .sub (S2 := Sto.del _ g) .del (h p g2 _ hp ⟨n2, 0, 0, great.reverse, l, (dn _ _ n3).trans Sto.put_same, (dn _ _ n1).trans ((Sto.put_ne (fun z => n2 z.symm)).trans (Sto.put_same.trans (by rw [List.map_reverse]))), fun z => by rw [z] at hl2; exact hne (List.eq_nil_of_length_eq_zero hl2.symm)⟩ fun q q1 q2 => ?_)
      by_cases q3 : q = g
      · rw [q3, Sto.del_same, hg]
      · rw [dn _ _ q3, Sto.put_ne q1, Sto.put_ne q2, Sto.put_ne q3]
    · refine mod_loop rfl (by omega) fun l hl2 => ?_
      intro p hp
      have n3 : p ≠ g := fun z => by rw [z, Sto.put_same] at hp; cases hp
      rw [Sto.put_ne n3] at hp
      refine .same (h p g _ hp ⟨n3, 0, 0, [], l, Sto.put_same, (Sto.put_ne (fun z => n3 z.symm)).trans Sto.put_same, fun z => by rw [z] at hl2; exact hne (List.eq_nil_of_length_eq_zero hl2.symm)⟩ fun q q1 q2 => ?_)
      rw [Sto.put_ne q1, Sto.put_ne q2]
  · rintro x xs next ih acc S' ⟨rfl, l1, l2, e, rfl, hl⟩
    cases l2 with
    | nil => cases e
    | cons z l2 =>
      cases e
      rw [List.length_cons] at hl
      try wp_walk using RUN
      refine ⟨by rw [List.length_map]; unfold LIM; omega, ih _ _ ⟨rfl, l1 ++ [(z.natAbs : Int)], l2, rfl, by simp, by simp; omega⟩⟩
end


/-- what may stand below; all of it goes into L -/
structure Bel (L : Nat) (bs : List Int) : Prop where
  ne : bs ≠ []
  lt : ∀ b ∈ bs, 0 < b ∧ b < 2 ^ 20
  dv : ∀ b ∈ bs, b.natAbs ∣ L
theorem den_dvd (a b : Int) : (Rat.divInt a b).den ∣ b.natAbs := by
  rw [Rat.den_divInt]
  split
  · exact Nat.one_dvd _
  · exact Nat.div_dvd_of_dvd (by rw [← Int.natAbs_natCast (Int.gcd b a)]; exact Int.natAbs_dvd_natAbs.mpr (Int.gcd_dvd_left ..))
theorem den_mul_dvd (x y : Rat) : (x * y).den ∣ x.den * y.den := by
  rw [mul_eq]
  have := den_dvd (x.num * y.num) ((x.den : Int) * (y.den : Int))
  rwa [Int.natAbs_mul, Int.natAbs_natCast, Int.natAbs_natCast] at this
section
variable {k L : Nat} {S : Sto} {Q : D → Sto → Prop}
abbrev inl (l : List Int) : D := .lst (l.map .int)
theorem mem_inl {l : List Int} {d : D} (h : d ∈ l.map D.int) : ∃ z ∈ l, d = .int z := by
  obtain ⟨z, hz, rfl⟩ := List.mem_map.mp h
  exact ⟨z, hz, rfl⟩
theorem fraction_ok {p g : Addr} {size : Int} {bs : List Int} (hS : St p g S) (h0 : 0 < size) (h1 : size < 2 ^ 18) (hb : Bel L bs) (h : ∀ x S', FB 20 x → x.den ∣ L → St p g S' → Upd p g S S' → Q (fr x) S') : Cl (k + 3) f__law_draw_fr [.ref p, .int size, inl bs] S Q := by
  refine ⟨_, rfl, rfl, ?_⟩
  wp_walk using RUN, b__law_draw_fr
  refine ⟨mulok_l (by omega), ?_⟩
  refine draw_ok hS (by omega) fun v S1 v0 v1 hS1 u1 => ?_
  try wp_walk using RUN
  refine pick_okL hS1 (by simpa using hb.ne) fun d S2 hd hS2 u2 => ?_
  obtain ⟨b, hbm, rfl⟩ := mem_inl hd
  obtain ⟨b0, b8⟩ := hb.lt b hbm
  try wp_walk using RUN
  have z1 : (v - size).natAbs < 2 ^ 20 := by omega
  have z2 : b.natAbs < 2 ^ 20 := by omega
  exact lfr_ok z1 z2 (by omega) (by omega) (.same (h _ _ (FB_divInt (by omega) z1 z2) (Nat.dvd_trans (den_dvd _ _) (hb.dv b hbm)) hS2 (u1.trans u2)))
theorem row_ok {p g : Addr} {size n : Int} {bs : List Int} (hS : St p g S) (h0 : 0 < size) (h1 : size < 2 ^ 18) (hb : Bel L bs) (n0 : 0 ≤ n) (n7 : n ≤ 7)
    (h : ∀ r S', (r.length : Int) = n → (∀ a ∈ r, FB 20 a ∧ a.den ∣ L) → St p g S' → Upd p g S S' → Q (row r) S') : Cl (k + 4) f__law_draw_row [.ref p, .int n, .int size, inl bs] S Q := by
  refine ⟨_, rfl, rfl, ?_⟩
  wp_walk using RUN, b__law_draw_row
  refine ⟨by unfold RngOk; omega, ?_⟩
  refine loopC_ind (fun xs acc S' => ∃ (r : List Rat), acc = r.map fr ∧ (∀ a ∈ r, FB 20 a ∧ a.den ∣ L) ∧ St p g S' ∧ Upd p g S S' ∧ (r.length : Int) ≤ n ∧ xs = rangeD r.length n) ?_ ?_ ?_
  · exact ⟨[], rfl, (fun a h => nomatch h), hS, .refl, n0, rfl⟩
  · rintro acc S' ⟨r, rfl, gr, hS', u, hl, e⟩
    have : ¬ (r.length : Int) < n := fun q => by rw [rangeD_cons q] at e; cases e
    try wp_walk using RUN
    exact .same (h r S' (by omega) gr hS' u)
  · rintro y xs next ih acc S' ⟨r, rfl, gr, hS', u, hl, e⟩
    by_cases q : (r.length : Int) < n
    · rw [rangeD_cons q] at e
      cases e
      wp_walk using RUN, List.length_map
      refine ⟨by unfold LIM; omega, ?_⟩
      refine fraction_ok hS' h0 h1 hb fun x S1 fx dx hS1 u1 => ?_
      try wp_walk using RUN
      refine ih _ _ ⟨r ++ [x], by simp, fun a ha => ?_, hS1, u.trans u1, by simp; omega, by simp⟩
      rcases List.mem_append.mp ha with z | z
      · exact gr a z
      · rw [List.mem_singleton.mp z]; exact ⟨fx, dx⟩
    · rw [rangeD_nil (by omega)] at e
      cases e
end


theorem pl_row (r : List Rat) (h : r.length ≤ 1000) : Pl 3 (row r) := .tup 2 _ (fun d hd => by
  obtain ⟨x, _, rfl⟩ := List.mem_map.mp hd
  exact pl_fr x) (by simpa using h)
theorem plUp {n : Nat} {d : D} (h : Pl n d) : Pl (n + 1) d := by
  induction h with
  | int n i => exact .int _ i
  | tup n ds hd hl ih => exact .tup _ ds ih hl
structure Hg where
  a : List Rat
  b : Rat
  c : Rat
def hg (h : Hg) : D := .tup [row h.a, fr h.b, fr h.c]
abbrev str (sa : List Rat) (sb : Rat) : D := .tup [row sa, fr sb]
abbrev netD (n : Int) (hs : List Hg) (sa : List Rat) (sb : Rat) : D := .tup [.int n, .tup (hs.map hg), str sa sb]
structure HBn (n : Int) (m : Nat) (L : Nat) (h : Hg) : Prop where
  a : ∀ a ∈ h.a, FB m a ∧ a.den ∣ L
  len : (h.a.length : Int) = n
  b : FB m h.b
  c : FB m h.c
  bd : h.b.den ∣ L
  cd : h.c.den ∣ L
theorem HBn.mono {n : Int} {m m' L L' : Nat} {h : Hg} (x : HBn n m L h) (l : m ≤ m') (d : L ∣ L') : HBn n m' L' h := ⟨fun a h => ⟨(x.a a h).1.mono l, Nat.dvd_trans (x.a a h).2 d⟩, x.len, x.b.mono l, x.c.mono l, Nat.dvd_trans x.bd d, Nat.dvd_trans x.cd d⟩
theorem pl_hg (h : Hg) (l : h.a.length ≤ 1000) : Pl 4 (hg h) := .tup 3 _ (fun d hd => by
  simp only [List.mem_cons, List.not_mem_nil, or_false] at hd
  rcases hd with rfl | rfl | rfl
  · exact pl_row _ l
  · exact plUp (pl_fr _)
  · exact plUp (pl_fr _)) (by simp)
/-- the picked factors -/
theorem fives {d : D} (h : d ∈ [D.tup [.int 1, .int 1], .tup [.int 2, .int 1], .tup [.int 1, .int 2], .tup [.int (-1), .int 1], .tup [.int (-1), .int 3]]) : ∃ t : Rat, d = fr t ∧ FB 2 t ∧ t ≠ 0 ∧ t.den ∣ 6 := by
  simp only [List.mem_cons, List.not_mem_nil, or_false] at h
  rcases h with rfl | rfl | rfl | rfl | rfl
  · exact ⟨1, frE (by decide +kernel) (by decide +kernel), by unfold FB; decide +kernel, by decide +kernel, by decide +kernel⟩
  · exact ⟨2, frE (by decide +kernel) (by decide +kernel), by unfold FB; decide +kernel, by decide +kernel, by decide +kernel⟩
  · exact ⟨mkRat 1 2, frE (by decide +kernel) (by decide +kernel), by unfold FB; decide +kernel, by decide +kernel, by decide +kernel⟩
  · exact ⟨-1, frE (by decide +kernel) (by decide +kernel), by unfold FB; decide +kernel, by decide +kernel, by decide +kernel⟩
  · exact ⟨mkRat (-1) 3, frE (by decide +kernel) (by decide +kernel), by unfold FB; decide +kernel, by decide +kernel, by decide +kernel⟩
section
variable {k L : Nat} {S : Sto} {Q : D → Sto → Prop}
theorem net_ok {p g : Addr} {size n top : Int} {bs : List Int} (hS : St p g S) (h0 : 0 < size) (h1 : size < 2 ^ 18) (hb : Bel L bs) (n0 : 0 ≤ n) (n7 : n ≤ 7) (t0 : 0 ≤ top) (t1 : top ≤ 10)
    (h : ∀ hs sa sb S', (∀ h ∈ hs, HBn n 40 (L * 6 ^ top.toNat) h) → hs.length ≤ top.toNat → (sa.length : Int) = n → (∀ a ∈ sa, FB 20 a ∧ a.den ∣ L) → FB 20 sb → St p g S' → Upd p g S S' → Q (netD n hs sa sb) S') : Cl (k + 5) f__law_net [.ref p, .int n, .int top, .int size, inl bs] S Q := by
  refine ⟨_, rfl, rfl, ?_⟩
  wp_walk using RUN, b__law_net
  intro a ha
  have ap := hS.ne ha
  refine draw_ok (hS.put ap) (by omega) fun v S0 v0 v1 hS0 u0 => ?_
  have ea0 : S0 a = some [] := by rw [u0 a ap.1 ap.2]; exact Sto.put_same
  have u0' : UpdA p g a S S0 := (UpdA.put fun _ _ _ _ => rfl).upd u0
  try wp_walk using RUN
  refine ⟨by unfold RngOk; omega, ?_⟩
  refine loopF_ind (fun xs ρ S' => ∃ (hs : List Hg) (u1 u2 u3 u4 u5 : Option D), (∀ h ∈ hs, HBn n (20 + 2 * hs.length) (L * 6 ^ hs.length) h) ∧ hs.length + xs.length ≤ top.toNat ∧ St p g S' ∧ UpdA p g a S S' ∧ S' a = some (hs.map hg) ∧
    ρ = [some (.ref p), some (.int n), some (.int top), some (.int size), some (inl bs), some (.ref a), u1, u2, u3, u4, u5]) ?_ ?_ ?_
  · exact ⟨[], _, _, _, _, _, (fun h z => nomatch z), by rw [rangeD_len]; simp; omega, hS0, u0', ea0, rfl⟩
  · rintro ρ S' ⟨hs, u1, u2, u3, u4, u5, gr, gl, hS', u', ea, rfl⟩
    wp_walk using RUN, ea
    refine row_ok hS' h0 h1 hb n0 n7 fun sa S1 la fa hS1 w1 => ?_
    try wp_walk using RUN
    refine fraction_ok hS1 h0 h1 hb fun sb S2 fb db hS2 w2 => ?_
    try wp_walk using RUN
    refine .sub (S2 := S2.del a) .del (h hs sa sb _ (fun x z => (gr x z).mono (by omega) (Nat.mul_dvd_mul_left _ (Nat.pow_dvd_pow 6 (by omega)))) (by omega) la fa fb (hS2.del ap) ((u'.upd (w1.trans w2)).del ha))
  · rintro y xs next ih ρ S' ⟨hs, u1, u2, u3, u4, u5, gr, gl, hS', u', ea, rfl⟩
    rw [List.length_cons] at gl
    have fin : ∀ (x : Hg) (S1 : Sto) u1 u2 u3 u4 u5, HBn n (22 + 2 * hs.length) (L * 6 ^ (hs.length + 1)) x → St p g S1 → Upd p g S' S1 → (∃ xs, S1 a = some xs ∧ xs.length < LIM ∧ next [some (.ref p), some (.int n), some (.int top), some (.int size), some (inl bs), some (.ref a), u1, u2, u3, u4, u5] (S1.put a (xs ++ [hg x]))) := fun x S1 u1 u2 u3 u4 u5 hx hS1 w => by
      refine ⟨hs.map hg, by rw [w a ap.1 ap.2]; exact ea, by rw [List.length_map]; unfold LIM; omega, ih _ _ ⟨hs ++ [x], _, _, _, _, _, fun z hz => ?_, by simp; omega, hS1.put ap, (u'.upd w).put, by rw [Sto.put_same]; simp, rfl⟩⟩
      rw [List.length_append, List.length_singleton]
      rcases List.mem_append.mp hz with q | q
      · exact (gr z q).mono (by omega) (Nat.mul_dvd_mul_left _ (Nat.pow_dvd_pow 6 (by omega)))
      · rw [List.mem_singleton.mp q]; exact hx.mono (by omega) (Nat.dvd_refl _)
    try wp_walk using RUN
    refine row_ok hS' h0 h1 hb n0 n7 fun a1 S1 la fa hS1 w1 => ?_
    try wp_walk using RUN
    refine fraction_ok hS1 h0 h1 hb fun b1 S2 fb db hS2 w2 => ?_
    have ea2 : S2 a = some (hs.map hg) := by rw [(w1.trans w2) a ap.1 ap.2]; exact ea
    try wp_walk using RUN
    refine ne_nil ea2 (n := 4) (fun d hd => ?_) (by omega) ?_
    · obtain ⟨z, hz, rfl⟩ := List.mem_map.mp hd
      exact pl_hg z (by have := (gr z hz).len; omega)
    have plain : ∀ (S3 : Sto) (w3 : Upd p g S' S3) (hS3 : St p g S3) u3 u4 (a1 : List Rat) (b1 : Rat), (a1.length : Int) = n → (∀ x ∈ a1, FB (22 + 2 * hs.length) x ∧ x.den ∣ L * 6 ^ (hs.length + 1)) → FB (22 + 2 * hs.length) b1 → b1.den ∣ L * 6 ^ (hs.length + 1) → (∃ xs, S3 a = some xs) ∧ callD X fs (k + 4) f__law_draw_fr [.ref p, .int size, inl bs] S3 fun d S1 =>
        (∃ xs, S1 a = some xs ∧ xs.length < LIM ∧ next [some (.ref p), some (.int n), some (.int top), some (.int size), some (inl bs), some (.ref a), some y, some (row a1), some (fr b1), u3, u4] (S1.put a (xs ++ [.tup [row a1, fr b1, d]]))) := fun S3 w3 hS3 u3 u4 a1 b1 l1 f1 f2 d2 =>
      ⟨⟨_, by rw [w3 a ap.1 ap.2]; exact ea⟩, fraction_ok hS3 h0 h1 hb fun c1 S4 fc dc hS4 w4 => fin ⟨a1, b1, c1⟩ S4 _ _ _ _ _ ⟨f1, l1, f2, fc.mono (by omega), d2, Nat.dvd_trans dc (Nat.dvd_mul_right _ _)⟩ hS4 (w3.trans w4)⟩
    try wp_walk using RUN
    refine ite3 (fun q => ?_) (fun q => ?_)
    · refine draw_ok hS2 (by decide) fun v S4 _ _ hS4 w4 => ?_
      try wp_walk using RUN
      refine ite3 (fun _ => ?_) (fun _ => ?_)
      · have ea4 : S4 a = some (hs.map hg) := by rw [w4 a ap.1 ap.2]; exact ea2
        have hne : hs.map hg ≠ [] := fun z => by rw [z] at q; simp at q
        refine pick_okR hS4 ap ea4 hne fun d S5 hd hS5 w5 => ?_
        obtain ⟨old, hold, rfl⟩ := List.mem_map.mp hd
        have go := gr old hold
        try wp_walk using RUN
        refine pick_okL hS5 (by simp) fun d S6 hd6 hS6 w6 => ?_
        obtain ⟨t, rfl, ft, _, dt⟩ := fives hd6
        have dm : ∀ x : Rat, x.den ∣ L * 6 ^ hs.length → (t * x).den ∣ L * 6 ^ (hs.length + 1) := fun x hx => by
          rw [Nat.pow_succ, ← Nat.mul_assoc, Nat.mul_comm _ 6]
          exact Nat.dvd_trans (den_mul_dvd t x) (Nat.mul_dvd_mul dt hx)
        wp_walk using RUN, hg
        have l7 : old.a.length ≤ 7 := by have := go.len; omega
        refine taken_ok ft (fun x hx => (go.a x hx).1) (by omega) (by omega) ?_
        try wp_walk using RUN
        refine ltimes_ok ft go.b (by omega) ?_
        try wp_walk using RUN
        refine plain S6 (((w1.trans w2).trans w4).trans (w5.trans w6)) hS6 _ _ _ _ (by rw [List.length_map]; exact go.len) (fun x hx => ?_) ((ft.mul go.b).mono (by omega)) (dm _ go.bd)
        obtain ⟨z, hz, rfl⟩ := List.mem_map.mp hx
        exact ⟨(ft.mul (go.a z hz).1).mono (by omega), dm _ (go.a z hz).2⟩
      · exact plain S4 ((w1.trans w2).trans w4) hS4 _ _ _ _ la (fun x hx => ⟨(fa x hx).1.mono (by omega), Nat.dvd_trans (fa x hx).2 (Nat.dvd_mul_right _ _)⟩) (fb.mono (by omega)) (Nat.dvd_trans db (Nat.dvd_mul_right _ _))
    · exact plain S2 (w1.trans w2) hS2 _ _ _ _ la (fun x hx => ⟨(fa x hx).1.mono (by omega), Nat.dvd_trans (fa x hx).2 (Nat.dvd_mul_right _ _)⟩) (fb.mono (by omega)) (Nat.dvd_trans db (Nat.dvd_mul_right _ _))
end


def cut (x : Rat) : Rat := if 0 < x.num then x else 0
def high (x : List Rat) (h : Hg) : Rat := dotR h.a x + h.b
def sumH (x : List Rat) : List Hg → Rat
  | [] => 0
  | h :: r => h.c * cut (high x h) + sumH x r
abbrev ansR (hs : List Hg) (sa : List Rat) (sb : Rat) (x : List Rat) : Rat := dotR sa x + sb + sumH x hs
theorem FB_cut {B : Nat} {y : Rat} (h : FB B y) (hB : 1 ≤ B) : FB B (cut y) := by
  unfold cut
  split
  · exact h
  · exact FB0.mono hB
theorem num_pos {a : Rat} : 0 < a.num ↔ 0 < a := by rw [Rat.lt_iff]; simp
theorem cut_mul {t y : Rat} (h : 0 < t) : cut (t * y) = t * cut y := by
  unfold cut
  by_cases q : 0 < y
  · rw [if_pos (num_pos.mpr (Rat.mul_pos h q)), if_pos (num_pos.mpr q)]
  · rw [if_neg fun z => q ?_, if_neg fun z => q (num_pos.mp z), Rat.mul_zero]
    have z := num_pos.mp z
    refine Rat.not_le.mp fun w => ?_
    have := Rat.mul_le_mul_of_nonneg_left w (Rat.le_of_lt h)
    rw [Rat.mul_zero] at this
    exact Rat.not_lt.mpr this z


def addR (a b : List Rat) : List Rat := List.zipWith (· + ·) a b
abbrev smul (t : Rat) (x : List Rat) : List Rat := x.map fun a => t * a
structure Ex where
  x : List Rat
  y : Rat
def exD (e : Ex) : D := .tup [row e.x, fr e.y]
structure Pu where
  r : List Rat
  o : Rat
  l : Rat
def pD (p : Pu) : D := .tup [row p.r, fr p.o, fr p.l]
theorem FB_addR {B C : Nat} {a b : List Rat} (h1 : ∀ x ∈ a, FB B x) (h2 : ∀ x ∈ b, FB C x) : ∀ x ∈ addR a b, FB (B + C + 1) x := by
  induction a generalizing b with
  | nil => intro x h; cases h
  | cons a r ih =>
    cases b with
    | nil => intro x h; cases h
    | cons b s =>
      intro x hx
      rcases List.mem_cons.mp (show x ∈ (a + b) :: addR r s from hx) with q | q
      · rw [q]; exact (h1 a List.mem_cons_self).add (h2 b List.mem_cons_self)
      · exact ih (fun x h => h1 x (List.mem_cons_of_mem _ h)) (fun x h => h2 x (List.mem_cons_of_mem _ h)) x q
theorem addR_len {a b : List Rat} (h : a.length = b.length) : (addR a b).length = a.length := by
  unfold addR; rw [List.length_zipWith]; omega
theorem FB_smul {B C : Nat} {t : Rat} {x : List Rat} (h1 : FB B t) (h2 : ∀ a ∈ x, FB C a) : ∀ a ∈ smul t x, FB (B + C) a := fun a ha => by
  obtain ⟨b, hb, rfl⟩ := List.mem_map.mp ha
  exact h1.mul (h2 b hb)
theorem neg_tup (x : Rat) : D.tup [.int (-x.num), .int (x.den : Int)] = fr (-x) := rfl
section
variable {k : Nat} {x y : Rat} {S : Sto} {Q : D → Sto → Prop}
theorem minus_ok {B C : Nat} (h1 : FB B x) (h2 : FB C y) (l : B + C < 1000000) (h : Q (fr (x - y)) S) : Cl (k + 4) f_minus [fr x, fr y] S Q := by
  refine ⟨_, rfl, rfl, ?_⟩
  wp_walk using RUN, b_minus
  rw [neg_tup]
  refine plus_ok h1 h2.neg l ?_
  rw [← Rat.sub_eq_add_neg]
  exact .same h
theorem zeros_eq (q : Rat) (m : Nat) : (List.replicate m [fr q]).flatten = (List.replicate m q).map fr := by
  induction m with
  | zero => rfl
  | succ m ih => rw [List.replicate_succ, List.replicate_succ, List.flatten_cons, List.map_cons, ih]; rfl
theorem added_ok {a b : List Rat} {B C : Nat} (h1 : ∀ x ∈ a, FB B x) (h2 : ∀ x ∈ b, FB C x) (l : B + C < 1000000) (hl : a.length ≤ 1000) (h : Q (row (addR a b)) S) : Cl (k + 4) f_added_rows [row a, row b] S Q := by
  refine ⟨_, rfl, rfl, ?_⟩
  wp_walk using RUN, b_added_rows
  refine loopC_ind (fun xs acc S' => S' = S ∧ ∃ (c r s : List Rat), xs = List.zipWith (fun x y => D.tup [x, y]) (r.map fr) (s.map fr) ∧ (∀ x ∈ r, FB B x) ∧ (∀ x ∈ s, FB C x) ∧ c ++ addR r s = addR a b ∧ acc = c.map fr ∧ c.length + r.length ≤ a.length) ?_ ?_ ?_
  · exact ⟨rfl, [], a, b, rfl, h1, h2, rfl, rfl, by simp⟩
  · rintro acc S' ⟨rfl, c, r, s, e, _, _, e2, rfl, _⟩
    have e3 : addR r s = [] := by
      cases r with
      | nil => rfl
      | cons x r =>
        cases s with
        | nil => rfl
        | cons y s => cases e
    rw [e3, List.append_nil] at e2
    subst e2
    try wp_walk using RUN
    exact .same h
  · rintro x xs next ih acc S' ⟨rfl, c, r, s, e, f1, f2, e2, rfl, hc⟩
    cases r with
    | nil => cases e
    | cons x r =>
      cases s with
      | nil => cases e
      | cons y s =>
        cases e
        rw [List.length_cons] at hc
        wp_walk using RUN, List.length_map
        refine ⟨by unfold LIM; omega, plus_ok (f1 x List.mem_cons_self) (f2 y List.mem_cons_self) l ?_⟩
        try wp_walk using RUN
        refine ih _ _ ⟨rfl, c ++ [x + y], r, s, rfl, fun z h => f1 z (List.mem_cons_of_mem _ h), fun z h => f2 z (List.mem_cons_of_mem _ h), ?_, by simp, by rw [List.length_append, List.length_singleton]; omega⟩
        rw [← e2, List.append_assoc]; rfl
end


/-! ### nets and deep nets, what they answer -/
theorem ne_nilL {S : Sto} {k : D → Prop} (g : k (.bl false)) : dCmp S .ne (.lst []) (.lst []) k := by
  show dEq S (.lst []) (.lst []) (fun b => k (.bl !b))
  exact ⟨.list [], .list [], rfl, rfl, by simp [SeqAt.shaped, PyData.canLay0, PyData.canLayAll0, PyData.depth, PyData.depthAll], by simp [SeqAt.shaped, PyData.canLay0, PyData.canLayAll0, PyData.depth, PyData.depthAll], by simpa [PyData.eqv, PyData.eqvAll] using g⟩
theorem eq_nilE {S : Sto} {k : D → Prop} (g : k (.bl true)) : dCmp S .eq (.lst []) (.lst []) k := by
  show dEq S (.lst []) (.lst []) (fun b => k (.bl b))
  exact ⟨.list [], .list [], rfl, rfl, by simp [SeqAt.shaped, PyData.canLay0, PyData.canLayAll0, PyData.depth, PyData.depthAll], by simp [SeqAt.shaped, PyData.canLay0, PyData.canLayAll0, PyData.depth, PyData.depthAll], by simpa [PyData.eqv, PyData.eqvAll] using g⟩
/-- a layer's numbers at y -/
def layR (y : List Rat) (l : List Ex) : List Rat := l.map fun e => cut (dotR e.x y + e.y)
abbrev layD (l : List Ex) : D := .tup (l.map exD)
abbrev dpD (n : Int) (ls : List (List Ex)) (c d : List Rat) (e : Rat) : D := .tup [.int n, .tup (ls.map layD), .tup [row c, row d, fr e]]
/-- all sizes on the way of y through a layer -/
structure LB (y : List Rat) (l : List Ex) (N : Nat) : Prop where
  x : ∀ e ∈ l, DB e.x y N ∧ FB N e.y ∧ e.x.length ≤ y.length
  yl : y.length ≤ 1000
  ll : l.length ≤ 1000
  n : 2 * N < 49000
section
variable {k : Nat} {S : Sto} {Q : D → Sto → Prop}
theorem lanswer_ok {n : Int} {hs : List Hg} {sa x : List Rat} {sb : Rat} {N C M : Nat} (h1 : DB sa x N) (hsl : sa.length = x.length) (h2 : FB N sb) (l7 : x.length ≤ 7) (hh : ∀ h ∈ hs, h.a.length = x.length ∧ DB h.a x N ∧ FB N h.b ∧ FB C h.c) (hM : (2 * N + C + 3) * (hs.length + 1) ≤ M) (M0 : M ≤ 40000) (h : FB M (ansR hs sa sb x) → Q (fr (ansR hs sa sb x)) S) : Cl (k + 5) f__law_answer [netD n hs sa sb, row x] S Q := by
  refine ⟨_, rfl, rfl, ?_⟩
  have hm : (2 * N + C + 3) * (hs.length + 1) = (2 * N + C + 3) * hs.length + (2 * N + C + 3) := by rw [Nat.mul_add, Nat.mul_one]
  wp_walk using RUN, b__law_answer
  refine ldot_ok h1 (by omega) (by omega) (by omega) ?_
  try wp_walk using RUN
  refine lplus_ok h1.fb h2 (by omega) ?_
  try wp_walk using RUN
  refine loopF_ind (fun xs ρ S' => S' = S ∧ ∃ (hs' : List Hg) (t : Rat) (T : Nat) (u v z q : Option D), xs = hs'.map hg ∧ (∀ h ∈ hs', h.a.length = x.length ∧ DB h.a x N ∧ FB N h.b ∧ FB C h.c) ∧ t + sumH x hs' = dotR sa x + sb + sumH x hs ∧ FB T t ∧ T + (2 * N + C + 3) * hs'.length ≤ M ∧
    ρ = [some (netD n hs sa sb), some (row x), some (fr t), u, v, z, q]) ?_ ?_ ?_
  · exact ⟨rfl, hs, _, _, none, none, none, none, rfl, hh, rfl, h1.fb.add h2, by omega, rfl⟩
  · rintro ρ S' ⟨rfl, hs', t, T, u, v, z, q, e, _, e2, ft, hT, rfl⟩
    cases hs' with
    | cons a r => cases e
    | nil =>
      have e3 : t = dotR sa x + sb + sumH x hs := by rw [← e2]; exact (Rat.add_zero t).symm
      subst e3
      try wp_walk using RUN
      exact .same (h (ft.mono (by omega)))
  · rintro y xs next ih ρ S' ⟨rfl, hs', t, T, u, v, z, q, e, g, e2, ft, hT, rfl⟩
    cases hs' with
    | nil => cases e
    | cons a r =>
      cases e
      obtain ⟨al, ad, ab, ac⟩ := g a List.mem_cons_self
      rw [List.length_cons, Nat.mul_add, Nat.mul_one] at hT
      have fh : FB (2 * N + 1) (high x a) := (ad.fb.add ab).mono (by omega)
      have fp : FB (2 * N + C + 1) (a.c * cut (high x a)) := (ac.mul (FB_cut fh (by omega))).mono (by omega)
      have next' : ∀ u v z q, next [some (netD n hs sa sb), some (row x), some (fr (t + a.c * cut (high x a))), u, v, z, q] S' := fun u v z q => by
        refine ih _ _ ⟨rfl, r, t + a.c * cut (high x a), _, _, _, _, _, rfl, fun h q => g h (List.mem_cons_of_mem _ q), ?_, ft.add fp, by omega, rfl⟩
        rw [← e2, Rat.add_assoc]
        rfl
      wp_walk using RUN, hg
      refine ldot_ok ad (by omega) (by omega) (by omega) ?_
      try wp_walk using RUN
      refine lplus_ok ad.fb ab (by omega) ?_
      try wp_walk using RUN
      refine ite3 (fun q => ?_) (fun q => ?_)
      · have ec : cut (high x a) = high x a := if_pos q
        rw [ec] at next' fp
        refine ltimes_ok ac fh (by omega) ?_
        try wp_walk using RUN
        refine lplus_ok ft fp (by omega) ?_
        try wp_walk using RUN
        exact next' _ _ _ _
      · have ec : cut (high x a) = 0 := if_neg q
        rw [ec, Rat.mul_zero, Rat.add_zero] at next'
        exact next' _ _ _ _
/-- one layer -/
theorem layer_loop {y : List Rat} {l : List Ex} {N : Nat} {st : Sto → Prop} {E : ED} {a : Addr} {u0 u1 u3 u5 u6 u7 u8 u9 u10 : Option D} (A : LB y l N) (hst : ∀ ys, st (S.put a ys)) (ha : S a = some [])
    (h : ∀ u5 u6 u7, E.nx [u0, u1, some (row y), u3, some (.ref a), u5, u6, u7, u8, u9, u10] (S.put a ((layR y l).map fr))) :
    loopF X (callD X fs (k + 4)) (.t (.cons (.n 5) (.cons (.n 6) .nil))) (.seq (.asg (.n 7) (.call 17 (.cons (.call 20 (.cons (.v 5) (.cons (.v 2) .nil))) (.cons (.v 6) .nil)))) (.seq (.ex (.meth .append (.v 4) (.cons (.ite (.cmp .gt (.ix (.v 7) (.c (.int 0))) (.c (.int 0))) (.v 7) (.tup (.cons (.c (.int 0)) (.cons (.c (.int 1)) .nil)))) .nil))) .done)) st E (l.map exD)
      [u0, u1, some (row y), u3, some (.ref a), u5, u6, u7, u8, u9, u10] S := by
  have An := A.n
  refine loopF_ind (fun xs ρ S' => ∃ (l1 l2 : List Ex) (u5 u6 u7 : Option D), xs = l2.map exD ∧ l = l1 ++ l2 ∧ S' = S.put a ((layR y l1).map fr) ∧ ρ = [u0, u1, some (row y), u3, some (.ref a), u5, u6, u7, u8, u9, u10]) ?_ ?_ ?_
  · refine ⟨[], l, _, _, _, rfl, rfl, ?_, rfl⟩
    funext q
    by_cases e : q = a
    · rw [e, Sto.put_same, ha]; rfl
    · rw [Sto.put_ne e]
  · rintro ρ S' ⟨l1, l2, u5, u6, u7, e, e2, rfl, rfl⟩
    cases l2 with
    | cons b r => cases e
    | nil =>
      rw [List.append_nil] at e2
      subst e2
      exact ⟨hst _, h _ _ _⟩
  · rintro z xs next ih ρ S' ⟨l1, l2, u5, u6, u7, e, e2, rfl, rfl⟩
    cases l2 with
    | nil => cases e
    | cons b r =>
      cases e
      obtain ⟨bd, bf, bl⟩ := A.x b (by rw [e2]; simp)
      have e3 : (S.put a ((layR y l1).map fr)) a = some ((layR y l1).map fr) := Sto.put_same
      have lim : ((layR y l1).map fr).length < LIM := by
        unfold layR LIM
        rw [List.length_map, List.length_map]
        have := congrArg List.length e2
        rw [List.length_append, List.length_cons] at this
        have := A.ll
        omega
      have fin : ∀ u5 u6 u7, next [u0, u1, some (row y), u3, some (.ref a), u5, u6, u7, u8, u9, u10] (S.put a ((layR y l1).map fr ++ [fr (cut (dotR b.x y + b.y))])) := fun u5 u6 u7 => by
        refine ih _ _ ⟨l1 ++ [b], r, _, _, _, rfl, by rw [e2]; simp, ?_, rfl⟩
        unfold layR
        simp
      wp_walk using RUN, exD
      refine ⟨hst _, ?_⟩
      refine ldot_ok bd (by omega) (by have := A.yl; omega) bl ?_
      try wp_walk using RUN
      refine lplus_ok bd.fb bf (by omega) ?_
      wp_walk using RUN, e3
      unfold cut at fin
      refine ite3 (fun q => ?_) (fun q => ?_)
      · rw [if_pos q] at fin
        exact ⟨lim, fin _ _ _⟩
      · rw [if_neg q] at fin
        exact ⟨lim, fin _ _ _⟩
end


/-! ### the answer of a deep net -/
def LBs : List Rat → List (List Ex) → Prop
  | _, [] => True
  | y, l :: ls => (∃ N, LB y l N) ∧ LBs (layR y l) ls
section
variable {k : Nat} {S : Sto} {Q : D → Sto → Prop}
theorem layR_len {y : List Rat} {l : List Ex} : (layR y l).length = l.length := by unfold layR; rw [List.length_map]
theorem ldeep_ok {n : Int} {ls : List (List Ex)} {c d x : List Rat} {e : Rat} {N N2 N3 : Nat} (A : LBs x ls) (hc : DB c (ls.foldl layR x) N) (hd : DB d x N2) (he : FB N3 e) (lc : c.length ≤ 1000) (lc2 : c.length ≤ (ls.foldl layR x).length) (ld : d.length ≤ 1000) (ld2 : d.length ≤ x.length) (hN : N + N2 + N3 < 49000)
    (h : Q (fr (dotR c (ls.foldl layR x) + dotR d x + e)) S) : Cl (k + 5) f__law_deep [dpD n ls c d e, row x] S Q := by
  refine ⟨_, rfl, rfl, ?_⟩
  wp_walk using RUN, b__law_deep
  refine loopF_ind (fun xs ρ S' => Sub S S' ∧ ∃ (y : List Rat) (ls' : List (List Ex)) (u3 u4 u5 u6 u7 : Option D), xs = ls'.map layD ∧ LBs y ls' ∧ ls'.foldl layR y = ls.foldl layR x ∧ ρ = [some (dpD n ls c d e), some (row x), some (row y), u3, u4, u5, u6, u7, none, none, none]) ?_ ?_ ?_
  · exact ⟨.refl _, x, ls, _, _, _, _, _, rfl, A, rfl, rfl⟩
  · rintro ρ S' ⟨sb, y, ls', u3, u4, u5, u6, u7, e1, A', e2, rfl⟩
    cases ls' with
    | cons b r => cases e1
    | nil =>
      have e2 : y = ls.foldl layR x := e2
      wp_walk using RUN
      rw [e2]
      refine ldot_ok hc (by omega) lc lc2 ?_
      try wp_walk using RUN
      refine ldot_ok hd (by omega) ld ld2 ?_
      try wp_walk using RUN
      refine lplus_ok hc.fb hd.fb (by omega) ?_
      try wp_walk using RUN
      refine lplus_ok (hc.fb.add hd.fb) he (by omega) (.sub sb ?_)
      exact h
  · rintro z xs next ih ρ S' ⟨sb, y, ls', u3, u4, u5, u6, u7, e1, A', e2, rfl⟩
    cases ls' with
    | nil => cases e1
    | cons l r =>
      cases e1
      obtain ⟨⟨N', Al⟩, Ar⟩ := A'
      wp_walk using RUN
      intro a ha
      refine layer_loop Al (fun _ => trivial) Sto.put_same fun u5 u6 u7 => ?_
      rw [Sto.put_put]
      wp_walk using RUN
      exact ih _ _ ⟨sb.trans (.put ha), layR y l, r, _, _, _, _, _, rfl, Ar, e2, rfl⟩
end


/-! ### greater -/
abbrev gapR (sa oa : List Rat) : List Rat := addR sa (smul (-1) oa)
def un (h : Hg) : Ex := ⟨h.a, h.b⟩
def firstL (hs os : List Hg) (sa oa : List Rat) : List Ex := (hs ++ os).map un ++ [⟨gapR sa oa, 0⟩, ⟨smul (-1) (gapR sa oa), 0⟩]
def cs (hs : List Hg) : List Rat := hs.map (·.c)
def rowR (hs os : List Hg) : List Rat := cs hs ++ smul (-1) (cs os) ++ [1, -1]
def unitR (n j : Nat) : List Rat := (List.replicate n (0 : Rat)).set j 1
def secondL (hs os : List Hg) (sb ob : Rat) : List Ex := ⟨rowR hs os, sb - ob⟩ :: (List.range os.length).map fun k => ⟨unitR (hs.length + os.length + 2) (hs.length + k), 0⟩
abbrev greatD (n : Int) (hs os : List Hg) (sa oa : List Rat) (sb ob : Rat) : D := dpD n [firstL hs os sa oa, secondL hs os sb ob] (1 :: cs os) oa ob
theorem un_eq (h : Hg) : exD (un h) = .tup [row h.a, fr h.b] := rfl
theorem m1_eq : D.tup [.int (-1), .int 1] = fr (-1) := frE (by decide +kernel) (by decide +kernel)
theorem p1_eq : D.tup [.int 1, .int 1] = fr 1 := frE (by decide +kernel) (by decide +kernel)
theorem FB1 : FB 1 1 := by unfold FB; decide +kernel
theorem FBm1 : FB 1 (-1) := by unfold FB; decide +kernel
section
variable {k : Nat} {S : Sto} {Q : D → Sto → Prop}
theorem unit_row_ok {n j : Nat} (h0 : n ≤ 1000) (h : Q (row (unitR n j)) S) : Cl (k + 1) f_unit_row [.int (n : Nat), .int (j : Nat)] S Q := by
  have lu : (unitR n j).length = n := by unfold unitR; rw [List.length_set, List.length_replicate]
  refine ⟨_, rfl, rfl, ?_⟩
  wp_walk using RUN, b_unit_row
  refine ⟨by unfold RngOk; omega, ?_⟩
  refine loopC_ind (fun xs acc S' => S' = S ∧ ∃ i : Nat, i ≤ n ∧ xs = rangeD i n ∧ acc = ((unitR n j).take i).map fr) ⟨rfl, 0, by omega, rfl, rfl⟩ ?_ ?_
  · rintro acc S' ⟨rfl, i, hi, e, rfl⟩
    have : ¬ (i : Int) < (n : Int) := fun q => by rw [rangeD_cons q] at e; cases e
    rw [List.take_of_length_le (by omega)]
    try wp_walk using RUN
    exact .same h
  · rintro y xs next ih acc S' ⟨rfl, i, hi, e, rfl⟩
    by_cases q : (i : Int) < (n : Int)
    · rw [rangeD_cons q] at e
      cases e
      have li : i < (unitR n j).length := by omega
      have tk : (unitR n j).take (i + 1) = (unitR n j).take i ++ [(unitR n j)[i]] := List.take_succ_eq_append_getElem li
      have gv : (unitR n j)[i] = if j = i then 1 else 0 := by
        unfold unitR at li ⊢
        rw [List.getElem_set, List.getElem_replicate]
      wp_walk using RUN, Xc, List.length_map, List.length_take
      refine ⟨by unfold LIM; omega, ite3 (fun w => ?_) (fun w => ?_)⟩
      · refine ih _ _ ⟨rfl, i + 1, by omega, by rw [Int.natCast_add]; rfl, ?_⟩
        rw [tk, List.map_append, gv, if_pos (by omega)]; rfl
      · refine ih _ _ ⟨rfl, i + 1, by omega, by rw [Int.natCast_add]; rfl, ?_⟩
        rw [tk, List.map_append, gv, if_neg (by omega)]; rfl
    · rw [rangeD_nil (by omega)] at e
      cases e
theorem signed_ok {r : List Rat} {B : Nat} (h1 : ∀ a ∈ r, FB B a) (hB : B < 100000) (hl : r.length ≤ 1000) (h : Q (.tup [exD ⟨r, 0⟩, exD ⟨smul (-1) r, 0⟩]) S) : Cl (k + 5) f_signed_pair [row r] S Q := by
  refine ⟨_, rfl, rfl, ?_⟩
  wp_walk using RUN, b_signed_pair, Xc
  rw [m1_eq]
  refine scaled_ok FBm1 h1 (by omega) hl ?_
  exact .same h
/-- the numbers of the hinges without their weights -/
theorem ab_loop {G : Fns} {ρ : Rho} {st : Sto → Prop} {fin : List D → Sto → Prop} {hs : List Hg} (hρ : ρ.length = 16) (hl : hs.length ≤ 1000) (hst : st S) (h : fin ((hs.map un).map exD) S) :
    loopC X G [11, 12, 13, 14] (.t (.cons (.n 12) (.cons (.n 13) (.cons (.n 14) .nil)))) (.tup (.cons (.v 12) (.cons (.v 13) .nil))) .nil ρ st fin (hs.map hg) [] S := by
  obtain ⟨r0, r1, r2, r3, r4, r5, r6, r7, r8, r9, r10, r11, r12, r13, r14, r15, rfl⟩ : ∃ r0 r1 r2 r3 r4 r5 r6 r7 r8 r9 r10 r11 r12 r13 r14 r15 : Option D, ρ = [r0, r1, r2, r3, r4, r5, r6, r7, r8, r9, r10, r11, r12, r13, r14, r15] := by
    match ρ, hρ with
    | [r0, r1, r2, r3, r4, r5, r6, r7, r8, r9, r10, r11, r12, r13, r14, r15], _ => exact ⟨_, _, _, _, _, _, _, _, _, _, _, _, _, _, _, _, rfl⟩
  refine loopC_ind (fun xs acc S' => S' = S ∧ ∃ h1 h2 : List Hg, xs = h2.map hg ∧ hs = h1 ++ h2 ∧ acc = (h1.map un).map exD) ⟨rfl, [], hs, rfl, rfl, rfl⟩ ?_ ?_
  · rintro acc S' ⟨rfl, h1, h2, e, e2, rfl⟩
    cases h2 with
    | cons a r => cases e
    | nil => rw [List.append_nil] at e2; subst e2; exact ⟨hst, h⟩
  · rintro y xs next ih acc S' ⟨rfl, h1, h2, e, e2, rfl⟩
    cases h2 with
    | nil => cases e
    | cons a r =>
      cases e
      have := congrArg List.length e2
      rw [List.length_append, List.length_cons] at this
      wp_walk using RUN, hg, List.length_map
      exact ⟨hst, by unfold LIM; omega, ih _ _ ⟨rfl, h1 ++ [a], r, rfl, by rw [e2]; simp, by simp [un_eq]⟩⟩
theorem c_loop {G : Fns} {ρ : Rho} {st : Sto → Prop} {fin : List D → Sto → Prop} {hs : List Hg} (hρ : ρ.length = 16) (hl : hs.length ≤ 1000) (hst : st S) (h : fin ((cs hs).map fr) S) :
    loopC X G [11, 12, 13, 14] (.t (.cons (.n 12) (.cons (.n 13) (.cons (.n 14) .nil)))) (.v 14) .nil ρ st fin (hs.map hg) [] S := by
  obtain ⟨r0, r1, r2, r3, r4, r5, r6, r7, r8, r9, r10, r11, r12, r13, r14, r15, rfl⟩ : ∃ r0 r1 r2 r3 r4 r5 r6 r7 r8 r9 r10 r11 r12 r13 r14 r15 : Option D, ρ = [r0, r1, r2, r3, r4, r5, r6, r7, r8, r9, r10, r11, r12, r13, r14, r15] := by
    match ρ, hρ with
    | [r0, r1, r2, r3, r4, r5, r6, r7, r8, r9, r10, r11, r12, r13, r14, r15], _ => exact ⟨_, _, _, _, _, _, _, _, _, _, _, _, _, _, _, _, rfl⟩
  refine loopC_ind (fun xs acc S' => S' = S ∧ ∃ h1 h2 : List Hg, xs = h2.map hg ∧ hs = h1 ++ h2 ∧ acc = (cs h1).map fr) ⟨rfl, [], hs, rfl, rfl, rfl⟩ ?_ ?_
  · rintro acc S' ⟨rfl, h1, h2, e, e2, rfl⟩
    cases h2 with
    | cons a r => cases e
    | nil => rw [List.append_nil] at e2; subst e2; exact ⟨hst, h⟩
  · rintro y xs next ih acc S' ⟨rfl, h1, h2, e, e2, rfl⟩
    cases h2 with
    | nil => cases e
    | cons a r =>
      cases e
      have := congrArg List.length e2
      rw [List.length_append, List.length_cons] at this
      wp_walk using RUN, hg, List.length_map, cs
      exact ⟨hst, by unfold LIM; omega, ih _ _ ⟨rfl, h1 ++ [a], r, rfl, by rw [e2]; simp, by simp [cs]⟩⟩
theorem greater_body {n : Int} {hs os : List Hg} {sa oa : List Rat} {sb ob : Rat} {B : Nat} {E : ED} (h1 : ∀ a ∈ sa, FB B a) (h2 : ∀ a ∈ oa, FB B a) (h3 : FB B sb) (h4 : FB B ob) (h5 : ∀ h ∈ os, FB B h.c) (hB : B < 20000) (l1 : sa.length ≤ 1000) (l2 : oa.length ≤ 1000) (l3 : hs.length ≤ 1000) (l4 : os.length ≤ 1000)
    (ok : hs.length + os.length ≤ 198 → ∀ S', Sub S S' → E.rt (greatD n hs os sa oa sb ob) S') (no : ¬ hs.length + os.length ≤ 198 → ∀ ρ, E.xt 1 ρ S) : wC X (callD X fs (k + 5)) b_greater E (startD 16 [netD n hs sa sb, netD n os oa ob]) S := by
  wp_walk using RUN, b_greater, Xc, List.length_map
  refine ite3 (fun q => no (by omega) _) fun q => ?_
  have q : hs.length + os.length ≤ 198 := by omega
  rw [m1_eq]
  refine scaled_ok FBm1 h2 (by omega) l2 ?_
  try wp_walk using RUN
  have f2 := FB_smul FBm1 h2
  refine added_ok h1 f2 (by omega) l1 ?_
  have fg : ∀ a ∈ gapR sa oa, FB (B + (1 + B) + 1) a := FB_addR h1 f2
  try wp_walk using RUN
  refine ⟨by unfold LIM; omega, ?_⟩
  rw [← List.map_append]
  refine ab_loop (by rfl) (by rw [List.length_append]; omega) trivial ?_
  try wp_walk using RUN
  have lg : (gapR sa oa).length ≤ 1000 := by
    show (addR sa (smul (-1) oa)).length ≤ 1000
    unfold addR; rw [List.length_zipWith]; omega
  refine signed_ok (B := 60000) (fun a ha => (fg a ha).mono (by omega)) (by omega) lg ?_
  wp_walk using RUN, List.length_map
  have ef : List.map exD (List.map un (hs ++ os)) ++ [exD { x := gapR sa oa, y := 0 }, exD { x := smul (-1) (gapR sa oa), y := 0 }] = (firstL hs os sa oa).map exD := by simp [firstL]
  rw [ef]
  have lf : ((firstL hs os sa oa).map exD).length = hs.length + os.length + 2 := by rw [← ef]; simp; omega
  rw [lf]
  refine ⟨by unfold LIM; rw [List.length_append]; omega, ?_⟩
  refine c_loop (by rfl) l3 trivial ?_
  refine c_loop (by rfl) l4 trivial ?_
  have hc : ∀ a ∈ cs os, FB B a := fun a ha => by
    obtain ⟨h, hh, rfl⟩ := List.mem_map.mp ha
    exact h5 h hh
  have lc : (cs hs).length = hs.length := List.length_map ..
  have lo : (cs os).length = os.length := List.length_map ..
  refine scaled_ok FBm1 hc (by omega) (by omega) ?_
  wp_walk using RUN, List.length_map, List.length_append
  rw [lc, lo]
  refine ⟨by unfold LIM; omega, by unfold LIM; omega, ?_⟩
  refine minus_ok h3 h4 (by omega) ?_
  intro p hp
  have pe : D.tup [D.int 1, D.int 1] = fr 1 := p1_eq
  have er : (cs hs).map fr ++ (smul (-1) (cs os)).map fr ++ [D.tup [D.int 1, D.int 1], fr (-1)] = (rowR hs os).map fr := by rw [pe]; unfold rowR; rw [List.map_append, List.map_append]; rfl
  refine ⟨by unfold RngOk; omega, ?_⟩
  refine loopF_ind (fun xs ρ S' => ∃ (i : Nat) (u : Option D), xs = rangeD i os.length ∧ i ≤ os.length ∧ S' = S.put p (exD ⟨rowR hs os, sb - ob⟩ :: (((List.range i).map fun k => (⟨unitR (hs.length + os.length + 2) (hs.length + k), 0⟩ : Ex)).map exD)) ∧
    ρ = [some (netD n hs sa sb), some (netD n os oa ob), some (.int n), some (row (gapR sa oa)), some (.tup ((firstL hs os sa oa).map exD)), some (.int (hs.length + os.length + 2 : Nat)), some (row (cs hs)), some (row (cs os)), some (row (rowR hs os)), some (.ref p), u, none, none, none, none, none]) ?_ ?_ ?_
  · refine ⟨0, none, rfl, by omega, ?_, ?_⟩
    · show S.put p [D.tup [D.tup ((cs hs).map fr ++ (smul (-1) (cs os)).map fr ++ [D.tup [D.int 1, D.int 1], fr (-1)]), fr (sb - ob)]] = S.put p [D.tup [D.tup ((rowR hs os).map fr), fr (sb - ob)]]
      rw [er]
    · exact congrArg (fun z => [some (netD n hs sa sb), some (netD n os oa ob), some (D.int n), some (row (gapR sa oa)), some (D.tup (List.map exD (firstL hs os sa oa))), some (D.int (hs.length + os.length + 2 : Nat)), some (row (cs hs)), some (row (cs os)), some (D.tup z), some (D.ref p), none, none, none, none, none, none]) er
  · rintro ρ S' ⟨i, u, e, hi, rfl, rfl⟩
    have : ¬ (i : Int) < (os.length : Int) := fun q => by rw [rangeD_cons q] at e; cases e
    have : i = os.length := by omega
    subst this
    wp_walk using RUN, List.length_map
    rw [lo]
    refine ⟨by unfold LIM; omega, ?_⟩
    rw [pe]
    exact ok q _ (.put hp)
  · rintro y xs next ih ρ S' ⟨i, u, e, hi, rfl, rfl⟩
    by_cases q2 : (i : Int) < (os.length : Int)
    · rw [rangeD_cons q2] at e
      cases e
      wp_walk using RUN, List.length_map
      rw [lc]
      rw [show (hs.length : Int) + (i : Int) = ((hs.length + i : Nat) : Int) by omega]
      refine unit_row_ok (by omega) ?_
      wp_walk using RUN, Xc, List.length_map, List.length_range
      refine ⟨by unfold LIM; omega, ih _ _ ⟨i + 1, _, by rw [Int.natCast_add]; rfl, by omega, ?_, rfl⟩⟩
      rw [List.range_succ, List.map_append, List.map_append]; rfl
    · rw [rangeD_nil (by omega)] at e
      cases e
theorem greater_ok {n : Int} {hs os : List Hg} {sa oa : List Rat} {sb ob : Rat} {B : Nat} (h1 : ∀ a ∈ sa, FB B a) (h2 : ∀ a ∈ oa, FB B a) (h3 : FB B sb) (h4 : FB B ob) (h5 : ∀ h ∈ os, FB B h.c) (hB : B < 20000) (l1 : sa.length ≤ 1000) (l2 : oa.length ≤ 1000) (l : hs.length + os.length ≤ 198)
    (h : Q (greatD n hs os sa oa sb ob) S) : Cl (k + 6) f_greater [netD n hs sa sb, netD n os oa ob] S Q := by
  refine ⟨_, rfl, rfl, ?_⟩
  exact greater_body h1 h2 h3 h4 h5 hB l1 l2 (by omega) (by omega) (fun _ S' s => .sub s h) (fun z => absurd l z)
theorem greater_okX {n : Int} {hs os : List Hg} {sa oa : List Rat} {sb ob : Rat} {B : Nat} (h1 : ∀ a ∈ sa, FB B a) (h2 : ∀ a ∈ oa, FB B a) (h3 : FB B sb) (h4 : FB B ob) (h5 : ∀ h ∈ os, FB B h.c) (hB : B < 20000) (l1 : sa.length ≤ 1000) (l2 : oa.length ≤ 1000) (l3 : hs.length ≤ 1000) (l4 : os.length ≤ 1000)
    (ok : hs.length + os.length ≤ 198 → Q (greatD n hs os sa oa sb ob) S) (no : ¬ hs.length + os.length ≤ 198 → Q (.exc 1) S) : Cl (k + 6) (f_greater + 1000) [netD n hs sa sb, netD n os oa ob] S Q := by
  refine ⟨_, rfl, rfl, ?_⟩
  exact greater_body h1 h2 h3 h4 h5 hB l1 l2 l3 l4 (fun z S' s => .sub s (ok z)) (fun z _ => .same (no z))
end


/-! ### the form of deep nets -/
def LO (B : Nat) : Nat → List (List Ex) → Nat → Prop
  | m, [], m' => m = m'
  | m, l :: ls, m' => 1 ≤ l.length ∧ l.length ≤ 200 ∧ (∀ e ∈ l, e.x.length = m ∧ (∀ a ∈ e.x, FB B a) ∧ FB B e.y) ∧ LO B l.length ls m'
section
variable {k : Nat} {S : Sto} {Q : D → Sto → Prop}
theorem lis_fraction_ok {x : Rat} {B : Nat} (hx : FB B x) (hB : B < 49998) (h : Q (.bl true) S) : Cl (k + 3) f__law_is_fraction [fr x] S Q := by
  have hp := x.den_pos
  refine ⟨_, rfl, rfl, ?_⟩
  have i1 : ∀ (S : Sto) (k : Bool → Prop), dIsi S (fr x) .tuple k = k true := fun _ _ => rfl
  have i2 : ∀ (S : Sto) (K : D → Sto → Prop), dBi .len [fr x] S K = K (.int 2) S := fun _ _ => rfl
  wp_walk using RUN, b__law_is_fraction, i1, i2
  refine loopC_ind (fun xs acc S' => S' = S ∧ acc = [] ∧ ∃ is : List Int, xs = is.map .int) ⟨rfl, rfl, [x.num, x.den], rfl⟩ ?_ ?_
  · rintro acc S' ⟨rfl, rfl, is, e⟩
    try wp_walk using RUN
    refine ne_nilL ?_
    try wp_walk using RUN
    refine ite3 (fun q => ?_) fun q => by omega
    refine lgcd_ok hx.1 (by rw [Int.natAbs_natCast]; exact hx.2) hB ?_
    have : Int.gcd x.num (x.den : Int) = 1 := x.reduced
    rw [this]
    try wp_walk using RUN
    exact .same h
  · rintro y ys next ih acc S' ⟨rfl, rfl, is, e⟩
    cases is with
    | nil => cases e
    | cons i is =>
      cases e
      wp_walk using RUN
      exact ⟨by unfold LIM; simp, ih _ _ ⟨rfl, rfl, is, rfl⟩⟩
theorem lis_row_ok {r : List Rat} {B m : Nat} (hr : ∀ x ∈ r, FB B x) (hB : B < 49998) (hl : r.length = m) (h : Q (.bl true) S) : Cl (k + 4) f__law_is_row [row r, .int (m : Nat)] S Q := by
  refine ⟨_, rfl, rfl, ?_⟩
  wp_walk using RUN, b__law_is_row, List.length_map, hl
  refine loopC_ind (fun xs acc S' => S' = S ∧ acc = [] ∧ ∃ r' : List Rat, xs = r'.map fr ∧ ∀ x ∈ r', FB B x) ⟨rfl, rfl, r, rfl, hr⟩ ?_ ?_
  · rintro acc S' ⟨rfl, rfl, r', e, _⟩
    try wp_walk using RUN
    refine eq_nilE ?_
    exact .same h
  · rintro y ys next ih acc S' ⟨rfl, rfl, r', e, g⟩
    cases r' with
    | nil => cases e
    | cons a r' =>
      cases e
      wp_walk using RUN
      refine ⟨by unfold LIM; simp, lis_fraction_ok (g a List.mem_cons_self) hB ?_⟩
      try wp_walk using RUN
      exact ih [] S' ⟨rfl, rfl, r', rfl, fun x hx => g x (List.mem_cons_of_mem _ hx)⟩
theorem lis_deep_ok {n : Nat} {ls : List (List Ex)} {c d : List Rat} {e : Rat} {B m : Nat} (A : LO B n ls m) (l1 : 1 ≤ ls.length) (l2 : ls.length ≤ 12) (hc : ∀ a ∈ c, FB B a) (hd : ∀ a ∈ d, FB B a) (he : FB B e) (lc : c.length = m) (ld : d.length = n) (hB : B < 49998)
    (h : Q (.bl true) S) : Cl (k + 5) f__law_is_deep [dpD n ls c d e, .int (n : Nat)] S Q := by
  refine ⟨_, rfl, rfl, ?_⟩
  wp_walk using RUN, b__law_is_deep, List.length_map
  refine same_ok (k := k + 3) (.int 0 _) ?_
  try wp_walk using RUN, List.length_map
  refine ite3 (fun q => by simp at q) fun _ => ?_
  refine ite3 (fun q => by simp at q) fun _ => ?_
  refine ite3 (fun _ => ?_) fun q => by omega
  refine ite3 (fun q => by omega) fun _ => ?_
  refine loopF_ind (fun xs ρ S' => S' = S ∧ ∃ (ls' : List (List Ex)) (m' : Nat) (u3 u4 : Option D), xs = ls'.map layD ∧ LO B m' ls' m ∧ ρ = [some (dpD n ls c d e), some (.int (n : Nat)), some (.int (m' : Nat)), u3, u4, none]) ?_ ?_ ?_
  · exact ⟨rfl, ls, n, _, _, rfl, A, rfl⟩
  · rintro ρ S' ⟨rfl, ls', m', u3, u4, e1, A', rfl⟩
    cases ls' with
    | cons b r => cases e1
    | nil =>
      have A' : m' = m := A'
      subst A'
      wp_walk using RUN
      refine lis_row_ok hc hB lc ?_
      try wp_walk using RUN
      refine lis_row_ok hd hB ld ?_
      try wp_walk using RUN
      refine lis_fraction_ok he hB ?_
      exact .same h
  · rintro z xs next ih ρ S' ⟨rfl, ls', m', u3, u4, e1, A', rfl⟩
    cases ls' with
    | nil => cases e1
    | cons l r =>
      cases e1
      obtain ⟨a1, a2, ax, ar⟩ := A'
      wp_walk using RUN, List.length_map
      refine ite3 (fun q => by simp at q) fun _ => ?_
      refine ite3 (fun _ => ?_) fun q => by omega
      refine ite3 (fun q => by omega) fun _ => ?_
      refine loopF_ind (fun xs ρ S2 => S2 = S' ∧ ∃ (l' : List Ex) (u4 : Option D), xs = l'.map exD ∧ (∀ e ∈ l', e.x.length = m' ∧ (∀ a ∈ e.x, FB B a) ∧ FB B e.y) ∧ ρ = [some (dpD n ls c d e), some (.int (n : Nat)), some (.int (m' : Nat)), some (layD l), u4, none]) ?_ ?_ ?_
      · exact ⟨rfl, l, _, rfl, ax, rfl⟩
      · rintro ρ S2 ⟨rfl, l', u4, e2, _, rfl⟩
        wp_walk using RUN, List.length_map
        exact ih _ _ ⟨rfl, r, l.length, _, _, rfl, ar, rfl⟩
      · rintro z ys next2 ih2 ρ S2 ⟨rfl, l', u4, e2, g, rfl⟩
        cases l' with
        | nil => cases e2
        | cons b l' =>
          cases e2
          obtain ⟨bl, bx, bf⟩ := g b List.mem_cons_self
          wp_walk using RUN, exD
          refine lis_row_ok bx hB bl ?_
          try wp_walk using RUN
          refine lis_fraction_ok bf hB ?_
          try wp_walk using RUN
          exact ih2 _ _ ⟨rfl, l', _, rfl, fun e he => g e (List.mem_cons_of_mem _ he), rfl⟩
end


/-! ### what a great net's deep net is: wide, the greater of two -/
section
variable {k : Nat} {S : Sto} {Q : D → Sto → Prop}
theorem lis_wide_ok {n : Nat} {ls : List (List Ex)} {c d : List Rat} {e : Rat} {B m : Nat} (A : LO B n ls m) (l1 : 1 ≤ ls.length) (l2 : ls.length ≤ 12) (lc : c.length = m)
    (h : Q (.bl true) S) : Cl (k + 5) f__law_is_wide [dpD n ls c d e] S Q := by
  refine ⟨_, rfl, rfl, ?_⟩
  wp_walk using RUN, b__law_is_wide, List.length_map
  refine ite3 (fun q => by simp at q) fun _ => ?_
  refine ite3 (fun q => by simp at q) fun _ => ?_
  refine ite3 (fun q => by simp at q) fun _ => ?_
  refine ite3 (fun _ => ?_) fun q => by omega
  refine ite3 (fun q => by omega) fun _ => ?_
  refine loopF_ind (fun xs ρ S' => S' = S ∧ ∃ (ls' : List (List Ex)) (m' : Nat) (u3 u4 : Option D), xs = ls'.map layD ∧ LO B m' ls' m ∧ ρ = [some (dpD n ls c d e), some (.int (m' : Nat)), u3, u4]) ?_ ?_ ?_
  · exact ⟨rfl, ls, n, _, _, rfl, A, rfl⟩
  · rintro ρ S' ⟨rfl, ls', m', u3, u4, e1, A', rfl⟩
    cases ls' with
    | cons b r => cases e1
    | nil =>
      have A' : m' = m := A'
      subst A'
      wp_walk using RUN, List.length_map, lc
      exact .same h
  · rintro z xs next ih ρ S' ⟨rfl, ls', m', u3, u4, e1, A', rfl⟩
    cases ls' with
    | nil => cases e1
    | cons l r =>
      cases e1
      obtain ⟨a1, a2, ax, ar⟩ := A'
      wp_walk using RUN, List.length_map
      refine ite3 (fun q => by simp at q) fun _ => ?_
      refine ite3 (fun _ => ?_) fun q => by omega
      refine ite3 (fun q => by omega) fun _ => ?_
      refine loopF_ind (fun xs ρ S2 => S2 = S' ∧ ∃ (l' : List Ex) (u4 : Option D), xs = l'.map exD ∧ (∀ e ∈ l', e.x.length = m' ∧ (∀ a ∈ e.x, FB B a) ∧ FB B e.y) ∧ ρ = [some (dpD n ls c d e), some (.int (m' : Nat)), some (layD l), u4]) ?_ ?_ ?_
      · exact ⟨rfl, l, _, rfl, ax, rfl⟩
      · rintro ρ S2 ⟨rfl, l', u4, e2, _, rfl⟩
        wp_walk using RUN, List.length_map
        exact ih _ _ ⟨rfl, r, l.length, _, _, rfl, ar, rfl⟩
      · rintro z ys next2 ih2 ρ S2 ⟨rfl, l', u4, e2, g, rfl⟩
        cases l' with
        | nil => cases e2
        | cons b l' =>
          cases e2
          obtain ⟨bl, bx, bf⟩ := g b List.mem_cons_self
          wp_walk using RUN, exD, List.length_map, bl
          exact ih2 _ _ ⟨rfl, l', _, rfl, fun e he => g e (List.mem_cons_of_mem _ he), rfl⟩
end
/-! ### the plain law -/
theorem cut_pos {y : Rat} (h : 0 < y) : cut y = y := if_pos (num_pos.mpr h)
theorem cut_neg {y : Rat} (h : ¬ 0 < y) : cut y = 0 := if_neg fun q => h (num_pos.mp q)
theorem cut_nn (y : Rat) : 0 ≤ cut y := by
  by_cases h : 0 < y
  · rw [cut_pos h]; exact Rat.le_of_lt h
  · rw [cut_neg h]; exact Rat.le_refl
theorem cut_cut (y : Rat) : cut (cut y) = cut y := by
  by_cases h : 0 < y
  · rw [cut_pos h, cut_pos h]
  · rw [cut_neg h]; rfl
theorem cut_two (z : Rat) : cut z - cut (-z) = z := by
  by_cases h : 0 < z
  · rw [cut_pos h, cut_neg (fun q => by grind)]; grind
  · rw [cut_neg h]
    by_cases q : 0 < -z
    · rw [cut_pos q]; grind
    · rw [cut_neg q]; grind
theorem dot_addR {r s x : List Rat} (h : r.length = s.length) : dotR (addR r s) x = dotR r x + dotR s x := by
  induction r generalizing s x with
  | nil =>
    cases s with
    | nil => rw [show addR [] [] = [] from rfl, dotR_nil (.inl rfl)]; grind
    | cons b s => cases h
  | cons a r ih =>
    cases s with
    | nil => cases h
    | cons b s =>
      cases x with
      | nil => rw [dotR_nil (.inr rfl), dotR_nil (.inr rfl), dotR_nil (.inr rfl)]; grind
      | cons y x =>
        show (a + b) * y + dotR (addR r s) x = (a * y + dotR r x) + (b * y + dotR s x)
        rw [ih (by simpa using h)]; grind
theorem dot_cs {hs : List Hg} {x : List Rat} : dotR (cs hs) (hs.map fun h => cut (high x h)) = sumH x hs := by
  induction hs with
  | nil => rfl
  | cons h r ih =>
    show h.c * cut (high x h) + dotR (cs r) (r.map fun h => cut (high x h)) = _
    rw [ih]; rfl
theorem dot_zero {n : Nat} {x : List Rat} : dotR (List.replicate n 0) x = 0 := by
  induction n generalizing x with
  | zero => exact dotR_nil (.inl rfl)
  | succ n ih =>
    cases x with
    | nil => exact dotR_nil (.inr rfl)
    | cons y x =>
      show 0 * y + dotR (List.replicate n 0) x = 0
      rw [ih]; grind
theorem dot_unit {n j : Nat} {x : List Rat} (hj : j < n) (hx : j < x.length) : dotR (unitR n j) x = x[j] := by
  induction n generalizing j x with
  | zero => omega
  | succ n ih =>
    cases x with
    | nil => simp at hx
    | cons y x =>
      cases j with
      | zero =>
        show 1 * y + dotR (List.replicate n 0) x = y
        rw [dot_zero]; grind
      | succ j =>
        have hx' : j < x.length := by simpa using hx
        show 0 * y + dotR (unitR n j) x = x[j]
        rw [ih (by omega) (by simpa using hx)]; grind
/-- the first layer's numbers -/
def y1 (hs os : List Hg) (z : Rat) (x : List Rat) : List Rat := (hs.map fun h => cut (high x h)) ++ (os.map fun h => cut (high x h)) ++ [cut z, cut (-z)]
theorem first_eq {hs os : List Hg} {sa oa x : List Rat} (hl : sa.length = oa.length) : layR x (firstL hs os sa oa) = y1 hs os (dotR sa x - dotR oa x) x := by
  have e1 : dotR (gapR sa oa) x = dotR sa x - dotR oa x := by
    show dotR (addR sa (smul (-1) oa)) x = _
    rw [dot_addR (by rw [List.length_map]; exact hl), dotR_mul]; grind
  unfold layR firstL y1
  rw [List.map_append, List.map_map, List.map_append]
  congr 1
  show [cut (dotR (gapR sa oa) x + 0), cut (dotR (smul (-1) (gapR sa oa)) x + 0)] = _
  rw [dotR_mul, e1]
  congr 2
  · grind
  · congr 1; grind
theorem len_y1 {hs os : List Hg} {z : Rat} {x : List Rat} : (y1 hs os z x).length = hs.length + os.length + 2 := by unfold y1; simp; omega
theorem second_eq {hs os : List Hg} {z sb ob : Rat} {x : List Rat} : layR (y1 hs os z x) (secondL hs os sb ob) = cut (sumH x hs - sumH x os + z + (sb - ob)) :: os.map fun h => cut (high x h) := by
  have e1 : dotR (rowR hs os) (y1 hs os z x) = sumH x hs - sumH x os + z := by
    unfold rowR y1
    rw [dotR_app (by simp [cs]), dotR_app (by simp [cs]), dot_cs, dotR_mul, dot_cs]
    show _ + (1 * cut z + (-1 * cut (-z) + 0)) = _
    have := cut_two z
    grind
  show cut (dotR (rowR hs os) (y1 hs os z x) + (sb - ob)) :: layR (y1 hs os z x) ((List.range os.length).map fun k => ⟨unitR (hs.length + os.length + 2) (hs.length + k), 0⟩) = _
  rw [e1]
  congr 1
  unfold layR
  refine List.ext_getElem (by simp) fun i h1 h2 => ?_
  have hi : i < os.length := by simpa using h2
  simp only [List.getElem_map, List.getElem_range]
  rw [dot_unit (by omega) (by rw [len_y1]; omega), Rat.add_zero]
  have : (y1 hs os z x)[hs.length + i]'(by rw [len_y1]; omega) = cut (high x os[i]) := by
    unfold y1
    rw [List.getElem_append_left (by simp; omega), List.getElem_append_right (by simp)]
    simp
  rw [this, cut_cut]
theorem deep_eq {hs os : List Hg} {sa oa x : List Rat} {sb ob : Rat} (hl : sa.length = oa.length) :
    dotR (1 :: cs os) ([firstL hs os sa oa, secondL hs os sb ob].foldl layR x) + dotR oa x + ob = if ansR hs sa sb x < ansR os oa ob x then ansR os oa ob x else ansR hs sa sb x := by
  show dotR (1 :: cs os) (layR (layR x (firstL hs os sa oa)) (secondL hs os sb ob)) + dotR oa x + ob = _
  rw [first_eq hl, second_eq]
  show 1 * cut _ + dotR (cs os) (os.map fun h => cut (high x h)) + _ + _ = _
  rw [dot_cs]
  have e : sumH x hs - sumH x os + (dotR sa x - dotR oa x) + (sb - ob) = ansR hs sa sb x - ansR os oa ob x := by unfold ansR; grind
  rw [e]
  by_cases q : ansR hs sa sb x < ansR os oa ob x
  · rw [if_pos q, cut_neg (fun z => by grind)]
    show _ = dotR oa x + ob + sumH x os
    grind
  · rw [if_neg q]
    by_cases q2 : 0 < ansR hs sa sb x - ansR os oa ob x
    · rw [cut_pos q2]
      show _ = _
      have : ansR os oa ob x = dotR oa x + ob + sumH x os := rfl
      grind
    · rw [cut_neg q2]
      have : ansR os oa ob x = dotR oa x + ob + sumH x os := rfl
      grind


/-! ### sizes -/
structure NZ (n B C : Nat) (hs : List Hg) (sa : List Rat) (sb : Rat) : Prop where
  h : ∀ h ∈ hs, h.a.length = n ∧ (∀ a ∈ h.a, FB B a) ∧ FB B h.b ∧ FB C h.c
  sl : sa.length = n
  a : ∀ a ∈ sa, FB B a
  b : FB B sb
structure PZ (n P : Nat) (x : List Rat) : Prop where
  len : x.length = n
  x : ∀ a ∈ x, FB P a
/-- all numbers that bound: H dots of the first layer, Y the first layer's numbers, R the second's dots -/
structure SZ (n B C P H Y R hl ol : Nat) : Prop where
  h : (2 * B + P + 4) * n + 1 ≤ H
  y : H + B + 2 ≤ Y
  r : (C + Y + 2) * (hl + ol + 2) + 1 ≤ R
  t : R + 4 * B + 20 + (C + Y + 1) * ol + H < 48900
  r2 : 2 * R < 48000
  n7 : n ≤ 7
  few : hl + ol ≤ 198
  b : 1 ≤ B
  c : 1 ≤ C
  bh : B + 1 ≤ H
  br : 2 * B + 1 ≤ R
  hh : H ≤ 20000
  m1 : (2 * H + C + 3) * (hl + 1) ≤ 40000
  m2 : (2 * H + C + 3) * (ol + 1) ≤ 40000
theorem layR_FB {y : List Rat} {l : List Ex} {N M : Nat} (h : ∀ e ∈ l, DB e.x y N ∧ FB M e.y) : ∀ a ∈ layR y l, FB (N + M + 1) a := fun a ha => by
  obtain ⟨e, he, rfl⟩ := List.mem_map.mp ha
  exact FB_cut ((h e he).1.fb.add (h e he).2) (by omega)
theorem unitR_FB {n j : Nat} : ∀ a ∈ unitR n j, FB 1 a := fun a ha => by
  unfold unitR at ha
  rcases List.mem_or_eq_of_mem_set ha with q | q
  · rw [(List.mem_replicate.mp q).2]; exact FB0
  · rw [q]; exact FB1
section
variable {k n B C P H Y R : Nat} {S : Sto} {Q : D → Sto → Prop} {hs os : List Hg} {sa oa x : List Rat} {sb ob : Rat}
theorem NZ.cs (A : NZ n B C hs sa sb) : ∀ a ∈ cs hs, FB C a := fun a ha => by
  obtain ⟨h, hh, rfl⟩ := List.mem_map.mp ha
  exact (A.h h hh).2.2.2
theorem NZ.gap (A : NZ n B C hs sa sb) (A2 : NZ n B C os oa ob) : ∀ a ∈ gapR sa oa, FB (2 * B + 2) a := fun a ha => (FB_addR A.a (FB_smul FBm1 A2.a) a ha).mono (by omega)
theorem NZ.gapl (A : NZ n B C hs sa sb) (A2 : NZ n B C os oa ob) : (gapR sa oa).length = n := by
  show (addR sa (smul (-1) oa)).length = n
  rw [addR_len (by rw [List.length_map, A.sl, A2.sl])]; exact A.sl
theorem NZ.first (A : NZ n B C hs sa sb) (A2 : NZ n B C os oa ob) : ∀ e ∈ firstL hs os sa oa, e.x.length = n ∧ (∀ a ∈ e.x, FB (2 * B + 3) a) ∧ FB (B + 1) e.y := fun e he => by
  have g := A.gap A2
  have gl := A.gapl A2
  rcases List.mem_append.mp he with q | q
  · obtain ⟨h, hh, rfl⟩ := List.mem_map.mp q
    have : h.a.length = n ∧ (∀ a ∈ h.a, FB B a) ∧ FB B h.b ∧ FB C h.c := by
      rcases List.mem_append.mp hh with z | z
      · exact A.h h z
      · exact A2.h h z
    exact ⟨this.1, fun a ha => (this.2.1 a ha).mono (by omega), this.2.2.1.mono (by omega)⟩
  · simp only [List.mem_cons, List.not_mem_nil, or_false] at q
    rcases q with rfl | rfl
    · exact ⟨gl, fun a ha => (g a ha).mono (by omega), FB0.mono (by omega)⟩
    · exact ⟨by rw [List.length_map]; exact gl, fun a ha => (FB_smul FBm1 g a ha).mono (by omega), FB0.mono (by omega)⟩
theorem firstL_len : (firstL hs os sa oa).length = hs.length + os.length + 2 := by simp [firstL]; omega
theorem rowR_len : (rowR hs os).length = hs.length + os.length + 2 := by simp [rowR, cs]; omega
theorem rowR_FB (A : NZ n B C hs sa sb) (A2 : NZ n B C os oa ob) (c1 : 1 ≤ C) : ∀ a ∈ rowR hs os, FB (C + 1) a := fun a ha => by
  rcases List.mem_append.mp ha with q | q
  · rcases List.mem_append.mp q with z | z
    · exact (A.cs a z).mono (by omega)
    · exact (FB_smul FBm1 A2.cs a z).mono (by omega)
  · simp only [List.mem_cons, List.not_mem_nil, or_false] at q
    rcases q with rfl | rfl
    · exact FB1.mono (by omega)
    · exact FBm1.mono (by omega)
theorem FB_sub {B C : Nat} {x y : Rat} (h1 : FB B x) (h2 : FB C y) : FB (B + C + 1) (x - y) := by
  rw [Rat.sub_eq_add_neg]; exact h1.add h2.neg
theorem second_mem {e : Ex} (he : e ∈ secondL hs os sb ob) : (e = ⟨rowR hs os, sb - ob⟩) ∨ ∃ j, e = ⟨unitR (hs.length + os.length + 2) j, 0⟩ := by
  rcases List.mem_cons.mp he with q | q
  · exact .inl q
  · obtain ⟨k, _, rfl⟩ := List.mem_map.mp q
    exact .inr ⟨_, rfl⟩
theorem secondL_len : (secondL hs os sb ob).length = os.length + 1 := by simp [secondL]
theorem unitR_len {n j : Nat} : (unitR n j).length = n := by unfold unitR; rw [List.length_set, List.length_replicate]
theorem great_deep (A : NZ n B C hs sa sb) (A2 : NZ n B C os oa ob) (X : PZ n P x) (Z : SZ n B C P H Y R hs.length os.length)
    (h : Q (fr (if ansR hs sa sb x < ansR os oa ob x then ansR os oa ob x else ansR hs sa sb x)) S) : Cl (k + 5) f__law_deep [greatD (n : Nat) hs os sa oa sb ob, row x] S Q := by
  have zh := Z.h
  have zy := Z.y
  have zr := Z.r
  have zt := Z.t
  have z2 := Z.r2
  have z7 := Z.n7
  have zf := Z.few
  have zb := Z.b
  have zc := Z.c
  have F := A.first A2
  have zbh := Z.bh
  have zbr := Z.br
  have zhh := Z.hh
  have d1 : ∀ e ∈ firstL hs os sa oa, DB e.x x H ∧ FB (B + 1) e.y := fun e he => by
    refine ⟨(DB_all (F e he).2.1 X.x).mono ?_, (F e he).2.2⟩
    rw [(F e he).1, show 2 * B + 3 + P + 1 = 2 * B + P + 4 by omega]
    exact zh
  have L1 : LB x (firstL hs os sa oa) H := ⟨fun e he => ⟨(d1 e he).1, (d1 e he).2.mono zbh, by rw [(F e he).1, X.len]; omega⟩, by rw [X.len]; omega, by rw [firstL_len]; omega, by omega⟩
  have fy : ∀ a ∈ layR x (firstL hs os sa oa), FB Y a := fun a ha => (layR_FB d1 a ha).mono (by omega)
  have ly : (layR x (firstL hs os sa oa)).length = hs.length + os.length + 2 := by rw [layR_len, firstL_len]
  have rF := rowR_FB A A2 zc
  have dr : DB (rowR hs os) (layR x (firstL hs os sa oa)) R := by
    refine (DB_all rF fy).mono ?_
    rw [rowR_len, show C + 1 + Y + 1 = C + Y + 2 by omega]
    exact zr
  have L2 : LB (layR x (firstL hs os sa oa)) (secondL hs os sb ob) R := ⟨fun e he => by
    rcases second_mem he with rfl | ⟨j, rfl⟩
    · exact ⟨dr, (FB_sub A.b A2.b).mono (by omega), by rw [rowR_len, ly]; omega⟩
    · refine ⟨(DB_all unitR_FB fy).mono ?_, FB0.mono (by omega), by rw [unitR_len, ly]; omega⟩
      have : (1 + Y + 1) * (unitR (hs.length + os.length + 2) j).length ≤ (C + Y + 2) * (hs.length + os.length + 2) := by rw [unitR_len]; exact Nat.mul_le_mul_right _ (by omega)
      omega, by rw [ly]; omega, by rw [secondL_len]; omega, by omega⟩
  have e2 : [firstL hs os sa oa, secondL hs os sb ob].foldl layR x = layR (layR x (firstL hs os sa oa)) (secondL hs os sb ob) := rfl
  have hd : FB (R + (2 * B + 1) + 1) (cut (dotR (rowR hs os) (layR x (firstL hs os sa oa)) + (sb - ob))) := FB_cut ((dr.fb.add (FB_sub A.b A2.b)).mono (by omega)) (by omega)
  have tl : ∀ a ∈ os.map (fun h => cut (high x h)), FB Y a := fun a ha => by
    obtain ⟨h, hh, rfl⟩ := List.mem_map.mp ha
    have := d1 (un h) (List.mem_append_left _ (List.mem_map.mpr ⟨h, List.mem_append_right _ hh, rfl⟩))
    exact (FB_cut (this.1.fb.add this.2) (by omega)).mono (by omega)
  have e3 := second_eq (hs := hs) (os := os) (z := dotR sa x - dotR oa x) (sb := sb) (ob := ob) (x := x)
  have e4 : layR (layR x (firstL hs os sa oa)) (secondL hs os sb ob) = cut (dotR (rowR hs os) (layR x (firstL hs os sa oa)) + (sb - ob)) :: os.map (fun h => cut (high x h)) := by
    have : layR (layR x (firstL hs os sa oa)) (secondL hs os sb ob) = cut (dotR (rowR hs os) (layR x (firstL hs os sa oa)) + (sb - ob)) :: layR (layR x (firstL hs os sa oa)) ((List.range os.length).map fun k => ⟨unitR (hs.length + os.length + 2) (hs.length + k), 0⟩) := rfl
    rw [this]
    congr 1
    rw [first_eq (by rw [A.sl, A2.sl])] at this ⊢
    rw [this] at e3
    exact (List.cons.inj e3).2
  refine ldeep_ok (N := 1 + (R + (2 * B + 1) + 1) + 1 + ((C + Y + 1) * os.length + 1)) (N2 := H) (N3 := B) ⟨⟨_, L1⟩, ⟨_, L2⟩, trivial⟩ ?_ ?_ A2.b ?_ ?_ ?_ ?_ ?_ ?_
  · rw [e2, e4]
    refine ⟨1, _, _, FB1, hd, ?_, Nat.le_refl _⟩
    exact (DB_all A2.cs tl).mono (by rw [show (cs os).length = os.length from List.length_map ..]; omega)
  · refine (DB_all A2.a X.x).mono ?_
    rw [A2.sl]
    have : (B + P + 1) * n ≤ (2 * B + P + 4) * n := Nat.mul_le_mul_right _ (by omega)
    omega
  · simp [cs]; omega
  · rw [e2, layR_len, secondL_len]; simp [cs]
  · rw [A2.sl]; omega
  · rw [A2.sl, X.len]; omega
  · omega
  · rw [deep_eq (by rw [A.sl, A2.sl])]
    exact h
end


/-! ### the looks of the law -/
section
variable {k n B C P H Y R : Nat} {S : Sto} {Q : D → Sto → Prop} {hs os : List Hg} {sa oa x : List Rat} {sb ob : Rat}
theorem lo_great (A : NZ n B C hs sa sb) (A2 : NZ n B C os oa ob) (few : hs.length + os.length ≤ 198) (c1 : 1 ≤ C) : LO (2 * B + C + 5) n [firstL hs os sa oa, secondL hs os sb ob] (os.length + 1) := by
  have F := A.first A2
  refine ⟨by rw [firstL_len]; omega, by rw [firstL_len]; omega, fun e he => ⟨(F e he).1, fun a ha => ((F e he).2.1 a ha).mono (by omega), (F e he).2.2.mono (by omega)⟩, by rw [secondL_len]; omega, by rw [secondL_len]; omega, fun e he => ?_, secondL_len⟩
  rcases second_mem he with rfl | ⟨j, rfl⟩
  · exact ⟨by rw [rowR_len, firstL_len], fun a ha => (rowR_FB A A2 c1 a ha).mono (by omega), (FB_sub A.b A2.b).mono (by omega)⟩
  · exact ⟨by rw [unitR_len, firstL_len], fun a ha => (unitR_FB a ha).mono (by omega), FB0.mono (by omega)⟩
theorem net_answer (A : NZ n B C hs sa sb) (X : PZ n P x) {H hl : Nat} (h1 : (2 * B + P + 4) * n + 1 ≤ H) (h2 : B + 1 ≤ H) (hh : hs.length = hl) (h3 : (2 * H + C + 3) * (hl + 1) ≤ 40000) (n7 : n ≤ 7) (h : FB 40000 (ansR hs sa sb x) → Q (fr (ansR hs sa sb x)) S) : Cl (k + 5) f__law_answer [netD (n : Nat) hs sa sb, row x] S Q := by
  subst hh
  have hm : (B + P + 1) * n ≤ (2 * B + P + 4) * n := Nat.mul_le_mul_right _ (by omega)
  have dx : ∀ {r : List Rat}, r.length = n → (∀ a ∈ r, FB B a) → DB r x H := fun hl hr => (DB_all hr X.x).mono (by rw [hl]; omega)
  refine lanswer_ok (N := H) (C := C) (M := 40000) (dx A.sl A.a) (by rw [A.sl, X.len]) (A.b.mono (by omega)) (by rw [X.len]; exact n7) (fun h hh => ?_) h3 (Nat.le_refl _) h
  obtain ⟨z1, z2, z3, z4⟩ := A.h h hh
  exact ⟨by rw [z1, X.len], dx z1 z2, z3.mono (by omega), z4⟩
theorem greater_of_ok (A : NZ n B C hs sa sb) (A2 : NZ n B C os oa ob) (X : PZ n P x) (Z : SZ n B C P H Y R hs.length os.length)
    (h : Q (fr (if ansR hs sa sb x < ansR os oa ob x then ansR os oa ob x else ansR hs sa sb x)) S) : Cl (k + 6) f__law_greater_of [netD (n : Nat) hs sa sb, netD (n : Nat) os oa ob, row x] S Q := by
  refine ⟨_, rfl, rfl, ?_⟩
  wp_walk using RUN, b__law_greater_of
  refine net_answer A X Z.h Z.bh rfl Z.m1 Z.n7 fun f1 => ?_
  try wp_walk using RUN
  refine net_answer A2 X Z.h Z.bh rfl Z.m2 Z.n7 fun f2 => ?_
  try wp_walk using RUN
  refine lless_ok f1 f2 (by omega) ?_
  try wp_walk using RUN
  refine ite3 (fun q => ?_) fun q => ?_
  · rw [if_pos q] at h
    exact .same h
  · rw [if_neg q] at h
    exact .same h
theorem is_greater_gen {ps : List (List Rat)} {fd : D} (A : NZ n B C hs sa sb) (A2 : NZ n B C os oa ob) (X : ∀ x ∈ ps, PZ n P x) (Z : SZ n B C P H Y R hs.length os.length)
    (h1 : ∀ {k : Nat} {S : Sto} {Q : D → Sto → Prop}, Q (.bl true) S → Cl (k + 5) f__law_is_deep [fd, .int (n : Nat)] S Q)
    (h2 : ∀ x, PZ n P x → ∀ {k : Nat} {S : Sto} {Q : D → Sto → Prop}, Q (fr (if ansR hs sa sb x < ansR os oa ob x then ansR os oa ob x else ansR hs sa sb x)) S → Cl (k + 5) f__law_deep [fd, row x] S Q)
    (h : Q (.bl true) S) : Cl (k + 7) f__law_is_greater [netD (n : Nat) hs sa sb, netD (n : Nat) os oa ob, fd, .lst (ps.map row)] S Q := by
  refine ⟨_, rfl, rfl, ?_⟩
  wp_walk using RUN, b__law_is_greater
  refine h1 (k := k + 1) ?_
  wp_walk using RUN
  refine loopF_ind (fun xs ρ S' => S' = S ∧ ∃ (ps' : List (List Rat)) (u4 : Option D), xs = ps'.map row ∧ (∀ x ∈ ps', PZ n P x) ∧ ρ = [some (netD (n : Nat) hs sa sb), some (netD (n : Nat) os oa ob), some fd, some (.lst (ps.map row)), u4]) ⟨rfl, ps, _, rfl, X, rfl⟩ ?_ ?_
  · rintro ρ S' ⟨rfl, ps', u4, e, _, rfl⟩
    try wp_walk using RUN
    exact .same h
  · rintro y ys next ih ρ S' ⟨rfl, ps', u4, e, g, rfl⟩
    cases ps' with
    | nil => cases e
    | cons x r =>
      cases e
      have gx := g x List.mem_cons_self
      wp_walk using RUN
      refine h2 x gx (k := k + 1) ?_
      try wp_walk using RUN
      refine greater_of_ok A A2 gx Z ?_
      refine fr_same ?_
      wp_walk using RUN
      exact ih _ _ ⟨rfl, r, _, rfl, fun x hx => g x (List.mem_cons_of_mem _ hx), rfl⟩
theorem is_deep_great (A : NZ n B C hs sa sb) (A2 : NZ n B C os oa ob) (few : hs.length + os.length ≤ 198) (c1 : 1 ≤ C) (b1 : 2 * B + C + 5 < 40000) (h : Q (.bl true) S) : Cl (k + 5) f__law_is_deep [greatD (n : Nat) hs os sa oa sb ob, .int (n : Nat)] S Q := by
  refine lis_deep_ok (lo_great A A2 few c1) (by simp) (by simp) (c := 1 :: cs os) (fun a ha => ?_) (fun a ha => (A2.a a ha).mono (by omega)) (A2.b.mono (by omega)) (by simp [cs]) A2.sl (by omega) h
  rcases List.mem_cons.mp ha with q | q
  · rw [q]; exact FB1.mono (by omega)
  · exact (A2.cs a q).mono (by omega)
theorem is_greater_ok {ps : List (List Rat)} (A : NZ n B C hs sa sb) (A2 : NZ n B C os oa ob) (X : ∀ x ∈ ps, PZ n P x) (Z : SZ n B C P H Y R hs.length os.length) (b1 : 2 * B + C + 5 < 40000)
    (h : Q (.bl true) S) : Cl (k + 7) f__law_is_greater [netD (n : Nat) hs sa sb, netD (n : Nat) os oa ob, greatD (n : Nat) hs os sa oa sb ob, .lst (ps.map row)] S Q :=
  is_greater_gen A A2 X Z (fun h => is_deep_great A A2 Z.few Z.c b1 h) (fun x gx {k S Q} h => great_deep A A2 gx Z h) h
theorem max_comm (a b : Rat) : (if a < b then b else a) = if b < a then a else b := by
  by_cases q : a < b
  · rw [if_pos q, if_neg (Rat.not_lt.mpr (Rat.le_of_lt q))]
  · rw [if_neg q]
    by_cases q2 : b < a
    · rw [if_pos q2]
    · rw [if_neg q2]; exact Rat.le_antisymm (Rat.not_lt.mp q2) (Rat.not_lt.mp q)
theorem is_greater_rev {ps : List (List Rat)} {H2 Y2 R2 : Nat} (A : NZ n B C hs sa sb) (A2 : NZ n B C os oa ob) (X : ∀ x ∈ ps, PZ n P x) (Z : SZ n B C P H Y R hs.length os.length) (Z2 : SZ n B C P H2 Y2 R2 os.length hs.length) (b1 : 2 * B + C + 5 < 40000)
    (h : Q (.bl true) S) : Cl (k + 7) f__law_is_greater [netD (n : Nat) hs sa sb, netD (n : Nat) os oa ob, greatD (n : Nat) os hs oa sa ob sb, .lst (ps.map row)] S Q :=
  is_greater_gen A A2 X Z (fun h => is_deep_great A2 A Z2.few Z2.c b1 h) (fun x gx {k S Q} h => great_deep A2 A gx Z2 (by rw [max_comm]; exact h)) h
theorem points_ok {p g : Addr} {m : Nat} (hS : St p g S) (n7 : n ≤ 7) (hm : m ≤ 100) (h : ∀ (ps : List (List Rat)) S', ps.length = m → (∀ x ∈ ps, PZ n 20 x) → St p g S' → Upd p g S S' → Q (.lst (ps.map row)) S') : Cl (k + 5) f__law_points [.ref p, .int (n : Nat), .int (m : Nat)] S Q := by
  refine ⟨_, rfl, rfl, ?_⟩
  have hb : Bel 6 [1, 1, 2, 3] := ⟨by simp, by simp, by simp⟩
  wp_walk using RUN, b__law_points
  refine ⟨by unfold RngOk; omega, ?_⟩
  refine loopC_ind (fun xs acc S' => ∃ (i : Nat) (ps : List (List Rat)), xs = rangeD i m ∧ ps.length = i ∧ i ≤ m ∧ acc = ps.map row ∧ (∀ x ∈ ps, PZ n 20 x) ∧ St p g S' ∧ Upd p g S S') ⟨0, [], rfl, rfl, by omega, rfl, fun x hx => (nomatch hx), hS, .refl⟩ ?_ ?_
  · rintro acc S' ⟨i, ps, e, hi, hm, rfl, gp, hS', u⟩
    have : ¬ (i : Int) < (m : Int) := fun q => by rw [rangeD_cons q] at e; cases e
    try wp_walk using RUN
    exact .same (h ps S' (by omega) gp hS' u)
  · rintro y ys next ih acc S' ⟨i, ps, e, hi, hm, rfl, gp, hS', u⟩
    by_cases q : (i : Int) < (m : Int)
    · rw [rangeD_cons q] at e
      cases e
      wp_walk using RUN, List.length_map
      refine ⟨by unfold LIM; omega, ?_⟩
      refine pick_okL hS' (by simp) fun d S1 hd hS1 u1 => ?_
      have hd : ∃ z : Int, d = .int z ∧ 0 < z ∧ z < 2 ^ 18 := by
        simp only [List.mem_cons, List.not_mem_nil, or_false] at hd
        rcases hd with rfl | rfl | rfl
        · exact ⟨_, rfl, by decide, by decide⟩
        · exact ⟨_, rfl, by decide, by decide⟩
        · exact ⟨_, rfl, by decide, by decide⟩
      obtain ⟨z, rfl, z0, z1⟩ := hd
      try wp_walk using RUN
      refine row_ok hS1 z0 z1 hb (by omega) (by omega) fun r S2 lr gr hS2 u2 => ?_
      try wp_walk using RUN
      refine ih _ _ ⟨i + 1, ps ++ [r], by rw [Int.natCast_add]; rfl, by simp [hi], by omega, by simp, fun x hx => ?_, hS2, (u.trans u1).trans u2⟩
      rcases List.mem_append.mp hx with w | w
      · exact gp x w
      · rw [List.mem_singleton.mp w]; exact ⟨by omega, fun a ha => (gr a ha).1⟩
    · rw [rangeD_nil (by omega)] at e
      cases e
end


/-! ### great nets -/
theorem frI (v : Int) : D.tup [.int v, .int 1] = fr (v : Rat) := frE (Rat.num_intCast v).symm (by rw [Rat.den_intCast]; rfl)
theorem FBI {v : Int} {B : Nat} (h : v.natAbs < 2 ^ B) (hB : 1 ≤ B) : FB B (v : Rat) := ⟨by rw [Rat.num_intCast]; exact h, by rw [Rat.den_intCast]; exact Nat.lt_of_lt_of_le (by decide : 1 < 2 ^ 1) (Nat.pow_le_pow_right (by decide) hB)⟩
theorem p1_smul (x : List Rat) : smul 1 x = x := by
  unfold smul
  rw [show (fun a : Rat => 1 * a) = id from funext fun a => Rat.one_mul a, List.map_id]
section
variable {k n : Nat} {S : Sto} {Q : D → Sto → Prop} {hs os : List Hg} {sa oa : List Rat} {sb ob : Rat}
theorem ac_loop {ρ : Rho} {q : Nat} {st : Sto → Prop} {fin : List D → Sto → Prop} {hs : List Hg} (hρ : ρ.length = 11) (hq : ρ[q]? = some (some (fr 1))) (q5 : q ≤ 5) (hl : hs.length ≤ 1000) (hf : ∀ h ∈ hs, FB 10 h.c) (hst : st S) (h : fin (hs.map hg) S) :
    loopC X (callD X fs (k + 3)) [6, 7, 8, 9] (.t (.cons (.n 7) (.cons (.n 8) (.cons (.n 9) .nil)))) (.tup (.cons (.v 7) (.cons (.v 8) (.cons (.call f_product (.cons (.v q) (.cons (.v 9) .nil))) .nil)))) .nil ρ st fin (hs.map hg) [] S := by
  obtain ⟨r0, r1, r2, r3, r4, r5, r6, r7, r8, r9, r10, rfl⟩ : ∃ r0 r1 r2 r3 r4 r5 r6 r7 r8 r9 r10 : Option D, ρ = [r0, r1, r2, r3, r4, r5, r6, r7, r8, r9, r10] := by
    match ρ, hρ with
    | [r0, r1, r2, r3, r4, r5, r6, r7, r8, r9, r10], _ => exact ⟨_, _, _, _, _, _, _, _, _, _, _, rfl⟩
  refine loopC_ind (fun xs acc S' => S' = S ∧ ∃ h1 h2 : List Hg, xs = h2.map hg ∧ hs = h1 ++ h2 ∧ acc = h1.map hg) ⟨rfl, [], hs, rfl, rfl, rfl⟩ ?_ ?_
  · rintro acc S' ⟨rfl, h1, h2, e, e2, rfl⟩
    cases h2 with
    | cons a r => cases e
    | nil => rw [List.append_nil] at e2; subst e2; exact ⟨hst, h⟩
  · rintro y xs next ih acc S' ⟨rfl, h1, h2, e, e2, rfl⟩
    cases h2 with
    | nil => cases e
    | cons a r =>
      cases e
      have := congrArg List.length e2
      rw [List.length_append, List.length_cons] at this
      have fc := hf a (by rw [e2]; simp)
      have hq' : [r0, r1, r2, r3, r4, r5, none, some (row a.a), some (fr a.b), some (fr a.c), r10][q]? = some (some (fr 1)) := by
        match q, q5, hq with
        | 0, _, h => exact h
        | 1, _, h => exact h
        | 2, _, h => exact h
        | 3, _, h => exact h
        | 4, _, h => exact h
        | 5, _, h => exact h
      wp_walk using RUN, hg, List.length_map, hq'
      refine ⟨hst, by unfold LIM; omega, product_ok FB1 fc (by omega) ?_⟩
      try wp_walk using RUN
      rw [Rat.one_mul]
      exact ih _ _ ⟨rfl, h1 ++ [a], r, rfl, by rw [e2]; simp, by simp [hg]⟩
theorem nadded_okX {n' : Int} {B : Nat} (h1 : ∀ h ∈ hs, FB 10 h.c) (h2 : ∀ h ∈ os, FB 10 h.c) (h3 : ∀ a ∈ sa, FB B a) (h4 : ∀ a ∈ oa, FB B a) (h5 : FB B sb) (h6 : FB B ob) (hB : B < 1000) (l1 : sa.length ≤ 1000) (l2 : oa.length ≤ 1000) (l : hs.length + os.length ≤ 1000)
    (h : Q (netD n hs1 (addR sa oa) (sb + ob)) S) (e1 : hs1 = hs ++ os) : Cl (k + 5) (f_added + 1000) [netD n hs sa sb, netD n' os oa ob, fr 1, fr 1] S Q := by
  subst e1
  refine ⟨_, rfl, rfl, ?_⟩
  wp_walk using RUN, b_added, Xc
  refine ac_loop (q := 2) (by rfl) (by rfl) (by omega) (by omega) h1 trivial ?_
  try wp_walk using RUN
  refine ac_loop (q := 3) (by rfl) (by rfl) (by omega) (by omega) h2 trivial ?_
  wp_walk using RUN, List.length_map, List.length_append, Xc
  refine ⟨by unfold LIM; omega, ite3 (fun q => by omega) fun _ => ?_⟩
  refine scaled_ok FB1 h3 (by omega) l1 ?_
  try wp_walk using RUN
  refine scaled_ok FB1 h4 (by omega) l2 ?_
  try wp_walk using RUN
  refine added_ok (B := B) (C := B) (a := smul 1 sa) (b := smul 1 oa) (by rw [p1_smul]; exact h3) (by rw [p1_smul]; exact h4) (by omega) (by rw [p1_smul]; exact l1) ?_
  rw [p1_smul, p1_smul]
  try wp_walk using RUN
  refine product_ok FB1 h5 (by omega) ?_
  try wp_walk using RUN
  refine product_ok FB1 h6 (by omega) ?_
  try wp_walk using RUN
  rw [Rat.one_mul, Rat.one_mul]
  refine plus_ok h5 h6 (by omega) ?_
  rw [← List.map_append]
  exact .same h
theorem plain_ok {m b : Nat} (n1 : 1 ≤ n) (n7 : n ≤ 7) (m24 : m ≤ 24) (hb : b ≤ 20)
    (h : ∀ hs, hs.length = m → (∀ h ∈ hs, h.a.length = n ∧ (∀ a ∈ h.a, FB 10 a) ∧ FB 10 h.b ∧ FB 3 h.c) → ∀ S', Sub S S' → Q (netD n hs (List.replicate n ((1 - (b : Int) : Int) : Rat)) ((b : Int) : Rat)) S') : Cl (k + 1) f__law_plain_net [.int (n : Nat), .int (m : Nat), .int (b : Nat)] S Q := by
  refine ⟨_, rfl, rfl, ?_⟩
  wp_walk using RUN, b__law_plain_net
  intro p hp
  refine ⟨by unfold RngOk; omega, ?_⟩
  refine loopF_ind (fun xs ρ S' => ∃ (i : Nat) (hs : List Hg) (u4 : Option D), xs = rangeD i m ∧ i ≤ m ∧ hs.length = i ∧ (∀ h ∈ hs, h.a.length = n ∧ (∀ a ∈ h.a, FB 10 a) ∧ FB 10 h.b ∧ FB 3 h.c) ∧ S' = S.put p (hs.map hg) ∧ ρ = [some (.int (n : Nat)), some (.int (m : Nat)), some (.int (b : Nat)), some (.ref p), u4, none, none]) ?_ ?_ ?_
  · exact ⟨0, [], _, rfl, by omega, rfl, fun h hh => (nomatch hh), rfl, rfl⟩
  · rintro ρ S' ⟨i, hs, u4, e, hi, li, gh, rfl, rfl⟩
    have : ¬ (i : Int) < (m : Int) := fun q => by rw [rangeD_cons q] at e; cases e
    wp_walk using RUN, List.length_singleton
    rw [frI, frI, zeros_eq]
    refine ⟨⟨by simp, by omega, by omega, by decide⟩, ?_⟩
    exact .same (h hs (by omega) gh _ (.put hp))
  · rintro y ys next ih ρ S' ⟨i, hs, u4, e, hi, li, gh, rfl, rfl⟩
    by_cases q : (i : Int) < (m : Int)
    · rw [rangeD_cons q] at e
      cases e
      wp_walk using RUN
      refine ⟨by unfold RngOk; omega, ?_⟩
      refine loopC_ind (fun xs acc S' => S' = S.put p (hs.map hg) ∧ ∃ (j : Nat) (r : List Rat), xs = rangeD j ((n : Int) - 1) ∧ (j : Int) ≤ (n : Int) - 1 ∧ r.length = j ∧ acc = r.map fr ∧ ∀ a ∈ r, FB 10 a) ⟨rfl, 0, [], rfl, by omega, rfl, rfl, fun a ha => (nomatch ha)⟩ ?_ ?_
      · rintro acc S' ⟨rfl, j, r, e2, hj, lr, rfl, gr⟩
        have : ¬ (j : Int) < ((n : Int) - 1) := fun q => by rw [rangeD_cons q] at e2; cases e2
        obtain ⟨z, ez, zn, zd⟩ := fr_mk (i := 1) (j := 1 + (i : Int)) (by omega) (by show Nat.gcd 1 _ = 1; exact Nat.gcd_one_left _)
        have fz : FB 10 z := ⟨by rw [zn]; decide, by have : z.den < 1024 := by omega
                                                     exact this⟩
        have f7 := fmod_bounds (a := 3 * (i : Int) + (b : Int)) (b := 7) (by decide)
        have f3 := fmod_bounds (a := (i : Int)) (b := 3) (by decide)
        have fin : ∀ c : Int, c.natAbs < 8 → hs.length < LIM ∧ next [some (.int (n : Nat)), some (.int (m : Nat)), some (.int (b : Nat)), some (.ref p), some (.int (i : Int)), none, none] (S.put p (hs.map hg ++ [D.tup [D.tup (r.map fr ++ [D.tup [D.int 1, D.int (1 + (i : Int))]]), D.tup [D.int ((3 * (i : Int) + (b : Int)).fmod 7 - 3), D.int 1], D.tup [D.int c, D.int 1]]])) := fun c hc => by
          refine ⟨by unfold LIM; omega, ih _ _ ⟨i + 1, hs ++ [⟨r ++ [z], (((3 * (i : Int) + (b : Int)).fmod 7 - 3 : Int) : Rat), (c : Rat)⟩], _, by rw [Int.natCast_add]; rfl, by omega, by simp [li], fun h hh => ?_, ?_, rfl⟩⟩
          · rcases List.mem_append.mp hh with w | w
            · exact gh h w
            · rw [List.mem_singleton.mp w]
              refine ⟨by simp; omega, fun a ha => ?_, FBI (by omega) (by decide), FBI hc (by decide)⟩
              rcases List.mem_append.mp ha with v | v
              · exact gr a v
              · rw [List.mem_singleton.mp v]; exact fz
          · rw [ez, frI, frI]
            congr 1
            simp [hg]
        wp_walk using RUN, List.length_map
        refine ⟨by unfold LIM; omega, mulok_l (by decide), by decide, by decide, ite3 (fun _ => ⟨by decide, fin _ (by omega)⟩) fun _ => fin _ (by decide)⟩
      · rintro y2 ys2 next2 ih2 acc S' ⟨rfl, j, r, e2, hj, lr, rfl, gr⟩
        by_cases q2 : (j : Int) < ((n : Int) - 1)
        · rw [rangeD_cons q2] at e2
          cases e2
          have f5 := fmod_bounds (a := (i : Int) + (j : Int) + (b : Int)) (b := 5) (by decide)
          wp_walk using RUN, List.length_map
          refine ⟨by unfold LIM; omega, by decide, ?_⟩
          rw [frI]
          refine ih2 _ _ ⟨rfl, j + 1, r ++ [(((((i : Int) + (j : Int) + (b : Int)).fmod 5 - 2 : Int)) : Rat)], by rw [Int.natCast_add]; rfl, by omega, by simp [lr], by simp, fun a ha => ?_⟩
          rcases List.mem_append.mp ha with v | v
          · exact gr a v
          · rw [List.mem_singleton.mp v]; exact FBI (by omega) (by decide)
        · rw [rangeD_nil (by omega)] at e2
          cases e2
    · rw [rangeD_nil (by omega)] at e
      cases e
end


section
variable {k n : Nat} {S : Sto} {Q : D → Sto → Prop}
/-- a great net: how many hinges, its numbers small -/
structure GZ (n m : Nat) (hs : List Hg) (sa : List Rat) (sb : Rat) : Prop where
  z : NZ n 12 3 hs sa sb
  l : hs.length = m
theorem great_ok {m b : Nat} (n1 : 1 ≤ n) (n7 : n ≤ 7) (hm : m ≤ 240) (hb : b ≤ 5)
    (h : ∀ hs sa sb, GZ n m hs sa sb → ∀ S', Sub S S' → Q (netD (n : Nat) hs sa sb) S') : Cl (k + 6) f__law_great_net [.int (n : Nat), .int (m : Nat), .int (b : Nat)] S Q := by
  refine ⟨_, rfl, rfl, ?_⟩
  have e1 : (m : Int).fmod 24 = ((m % 24 : Nat) : Int) := by rw [Int.fmod_eq_emod_of_nonneg _ (by decide)]; rfl
  have e2 : (m : Int).fdiv 24 = ((m / 24 : Nat) : Int) := by rw [Int.fdiv_eq_ediv_of_nonneg _ (by decide)]; rfl
  wp_walk using RUN, b__law_great_net, e1, e2
  refine ⟨by decide, ?_⟩
  refine plain_ok n1 n7 (by omega) (by omega) fun hs0 l0 g0 S1 sb1 => ?_
  try wp_walk using RUN, e2
  refine ⟨by decide, by unfold RngOk; omega, ?_⟩
  refine loopF_ind (fun xs ρ S' => Sub S S' ∧ ∃ (i : Nat) (hs : List Hg) (v w : Int) (u4 : Option D), xs = rangeD i (m / 24 : Nat) ∧ i ≤ m / 24 ∧ hs.length = m % 24 + 24 * i ∧ (∀ h ∈ hs, h.a.length = n ∧ (∀ a ∈ h.a, FB 10 a) ∧ FB 10 h.b ∧ FB 3 h.c) ∧ v.natAbs ≤ 30 * (i + 1) ∧ w.natAbs ≤ 30 * (i + 1) ∧ ρ = [some (.int (n : Nat)), some (.int (m : Nat)), some (.int (b : Nat)), some (netD (n : Nat) hs (List.replicate n (v : Rat)) (w : Rat)), u4]) ?_ ?_ ?_
  · exact ⟨sb1, 0, hs0, _, _, none, rfl, by omega, by omega, g0, by omega, by omega, rfl⟩
  · rintro ρ S' ⟨sb, i, hs, v, w, u4, e, hi, li, gh, hv, hw, rfl⟩
    have : ¬ (i : Int) < ((m / 24 : Nat) : Int) := fun q => by rw [rangeD_cons q] at e; cases e
    try wp_walk using RUN
    refine .same (h hs _ _ ⟨⟨fun h hh => ⟨(gh h hh).1, fun a ha => ((gh h hh).2.1 a ha).mono (by omega), (gh h hh).2.2.1.mono (by omega), (gh h hh).2.2.2⟩, List.length_replicate, fun a ha => ?_, FBI (by omega) (by decide)⟩, by omega⟩ _ sb)
    rw [(List.mem_replicate.mp ha).2]
    exact FBI (by omega) (by decide)
  · rintro y ys next ih ρ S' ⟨sb, i, hs, v, w, u4, e, hi, li, gh, hv, hw, rfl⟩
    by_cases q : (i : Int) < ((m / 24 : Nat) : Int)
    · rw [rangeD_cons q] at e
      cases e
      wp_walk using RUN
      rw [show (b : Int) + (i : Int) = ((b + i : Nat) : Int) by omega, show (24 : Int) = ((24 : Nat) : Int) from rfl]
      refine plain_ok n1 n7 (by omega) (by omega) fun os lo go S2 sb2 => ?_
      wp_walk using RUN, p1_eq
      have fr1 : ∀ {z : Int}, z.natAbs ≤ 400 → ∀ a ∈ List.replicate n (z : Rat), FB 12 a := fun hz a ha => by
        rw [(List.mem_replicate.mp ha).2]; exact FBI (by omega) (by decide)
      refine nadded_okX (B := 12) (fun h hh => (gh h hh).2.2.2.mono (by omega)) (fun h hh => (go h hh).2.2.2.mono (by omega)) (fr1 (by omega)) (fr1 (by omega)) (FBI (by omega) (by decide)) (FBI (by omega) (by decide)) (by omega) (by rw [List.length_replicate]; omega) (by rw [List.length_replicate]; omega) (by omega) ?_ rfl
      have er : addR (List.replicate n (v : Rat)) (List.replicate n ((1 - ((b + i : Nat) : Int) : Int) : Rat)) = List.replicate n ((v + (1 - ((b + i : Nat) : Int)) : Int) : Rat) := by
        unfold addR
        rw [List.zipWith_replicate, Nat.min_self, Rat.intCast_add]
      rw [er, ← Rat.intCast_add]
      wp_walk using RUN
      refine ih _ _ ⟨sb.trans sb2, i + 1, hs ++ os, _, _, _, by rw [Int.natCast_add]; rfl, by omega, by rw [List.length_append]; omega, fun h hh => ?_, by omega, by omega, rfl⟩
      rcases List.mem_append.mp hh with z | z
      · exact gh h z
      · exact go h z
    · rw [rangeD_nil (by omega)] at e
      cases e
theorem is_far_ok {B : Nat} {hs os : List Hg} {sa oa : List Rat} {sb ob : Rat} {C : Nat} (A : NZ n B C hs sa sb) (A2 : NZ n B C os oa ob) (hB : B + C < 10000) (n7 : n ≤ 7) (l3 : hs.length ≤ 1000) (l4 : os.length ≤ 1000)
    (h : Q (.bl (decide (198 < hs.length + os.length))) S) : Cl (k + 7) f__law_is_far [netD (n : Nat) hs sa sb, netD (n : Nat) os oa ob] S Q := by
  refine ⟨_, rfl, rfl, ?_⟩
  wp_walk using RUN, b__law_is_far
  refine greater_okX (B := B + C) (fun a ha => (A.a a ha).mono (by omega)) (fun a ha => (A2.a a ha).mono (by omega)) (A.b.mono (by omega)) (A2.b.mono (by omega)) (fun h hh => (A2.h h hh).2.2.2.mono (by omega)) (by omega) (by rw [A.sl]; omega) (by rw [A2.sl]; omega) l3 l4 (fun q => ?_) fun q => ?_
  · wp_walk using RUN
    rw [show decide (198 < hs.length + os.length) = false from decide_eq_false (by omega)] at h
    exact .same h
  · wp_walk using RUN
    rw [show decide (198 < hs.length + os.length) = true from decide_eq_true (by omega)] at h
    exact .same h
end


/-! ### the law -/
theorem ne_bl {S : Sto} {b : Bool} {k : D → Prop} (g : k (.bl false)) : dCmp S .ne (.bl b) (.bl b) k := by
  cases b <;> exact g
theorem greats {d : D} (h : d ∈ [D.tup [.int 99, .int 99], .tup [.int 120, .int 78], .tup [.int 8, .int 190], .tup [.int 190, .int 8], .tup [.int 198, .int 0], .tup [.int 0, .int 198]]) : ∃ a b : Nat, d = .tup [.int (a : Nat), .int (b : Nat)] ∧ a + b ≤ 199 := by
  simp only [List.mem_cons, List.not_mem_nil, or_false] at h
  rcases h with rfl | rfl | rfl | rfl | rfl | rfl
  · exact ⟨99, 99, rfl, by decide⟩
  · exact ⟨120, 78, rfl, by decide⟩
  · exact ⟨8, 190, rfl, by decide⟩
  · exact ⟨190, 8, rfl, by decide⟩
  · exact ⟨198, 0, rfl, by decide⟩
  · exact ⟨0, 198, rfl, by decide⟩
theorem greats2 {d : D} (h : d ∈ [D.tup [.int 99, .int 100], .tup [.int 100, .int 99], .tup [.int 199, .int 0], .tup [.int 0, .int 199], .tup [.int 24, .int 175]]) : ∃ a b : Nat, d = .tup [.int (a : Nat), .int (b : Nat)] ∧ a + b ≤ 199 := by
  simp only [List.mem_cons, List.not_mem_nil, or_false] at h
  rcases h with rfl | rfl | rfl | rfl | rfl
  · exact ⟨99, 100, rfl, by decide⟩
  · exact ⟨100, 99, rfl, by decide⟩
  · exact ⟨199, 0, rfl, by decide⟩
  · exact ⟨0, 199, rfl, by decide⟩
  · exact ⟨24, 175, rfl, by decide⟩
theorem SZ_small {n hl ol : Nat} (n4 : n ≤ 4) (h4 : hl ≤ 4) (o4 : ol ≤ 4) : SZ n 40 40 20 417 460 5100 hl ol := ⟨by omega, by omega, by omega, by omega, by omega, by omega, by omega, by omega, by omega, by omega, by omega, by omega, by omega, by omega⟩
theorem SZ_great {n hl ol : Nat} (n2 : n ≤ 2) (h : hl + ol ≤ 198) : SZ n 12 3 20 97 111 23201 hl ol := ⟨by omega, by omega, by omega, by omega, by omega, by omega, by omega, by omega, by omega, by omega, by omega, by omega, by omega, by omega⟩
section
variable {k n : Nat} {S : Sto} {Q : D → Sto → Prop}
/-- the other net of a scene -/
theorem other_mem {hs os : List Hg} {sa oa : List Rat} {sb ob : Rat} {d : D} (A : NZ n 40 40 hs sa sb) (l1 : hs.length ≤ 4) (A2 : NZ n 40 40 os oa ob) (l2 : os.length ≤ 4) (fb : FB 20 sb)
    (h : d ∈ [netD (n : Nat) os oa ob, netD (n : Nat) hs sa sb, .tup [.int (n : Nat), .tup (hs.map hg), .tup [row sa, fr (sb + mkRat (-1) 2)]], .tup [.int (n : Nat), .tup [], .tup [.tup (List.replicate n [fr 0]).flatten, fr 1]]]) :
    ∃ os oa ob, d = netD (n : Nat) os oa ob ∧ NZ n 40 40 os oa ob ∧ os.length ≤ 4 := by
  simp only [List.mem_cons, List.not_mem_nil, or_false] at h
  rcases h with rfl | rfl | rfl | rfl
  · exact ⟨os, oa, ob, rfl, A2, l2⟩
  · exact ⟨hs, sa, sb, rfl, A, l1⟩
  · exact ⟨hs, sa, _, rfl, ⟨A.h, A.sl, A.a, (fb.add (C := 2) ⟨by decide +kernel, by decide +kernel⟩).mono (by omega)⟩, l1⟩
  · refine ⟨[], List.replicate n 0, 1, by rw [zeros_eq]; rfl, ⟨fun h hh => (nomatch hh), List.length_replicate, fun a ha => ?_, FB1.mono (by omega)⟩, by simp⟩
    rw [(List.mem_replicate.mp ha).2]; exact FB0.mono (by omega)
theorem PZ_rep {v : Int} (hv : v.natAbs < 1000) : PZ n 20 (List.replicate n (v : Rat)) := ⟨List.length_replicate, fun a ha => by rw [(List.mem_replicate.mp ha).2]; exact FBI (by omega) (by decide)⟩
set_option maxHeartbeats 4000000 in
theorem law_ok {zs : List Int} (hz : zs.length ≤ 63) (h : ∀ S', Q (.bl true) S') : Cl (k + 8) f_law [.scr (zs.map .int)] S Q := by
  have hb : Bel 2 [1, 1, 2] := ⟨by simp, by simp, by simp⟩
  refine ⟨_, rfl, rfl, ?_⟩
  wp_walk using RUN, b_law
  refine bag_ok hz fun p g S1 hp hS1 _ => ?_
  try wp_walk using RUN
  refine ⟨by unfold RngOk; omega, ?_⟩
  refine loopF_ind (fun ys ρ S' => ∃ (i : Int) (u2 u3 u4 u5 u6 u7 u8 u9 u10 u11 : Option D), ys = rangeD i 2 ∧ St p g S' ∧ ρ = [some (.scr (zs.map .int)), some (.ref p), u2, u3, u4, u5, u6, u7, u8, u9, u10, u11]) ?_ ?_ ?_
  · exact ⟨0, _, _, _, _, _, _, _, _, _, _, rfl, hS1, rfl⟩
  · rintro ρ S' ⟨i, u2, u3, u4, u5, u6, u7, u8, u9, u10, u11, _, hS', rfl⟩
    wp_walk using RUN
    refine draw_ok hS' (by decide) fun v S2 v0 v1 hS2 w2 => ?_
    try wp_walk using RUN
    refine ite3 (fun _ => .same (h _)) fun _ => ?_
    refine draw_ok hS2 (by decide) fun v S3 v0 v1 hS3 w3 => ?_
    obtain ⟨m, rfl⟩ : ∃ m : Nat, v = (m : Nat) := ⟨v.toNat, by omega⟩
    wp_walk using RUN, show (1 : Int) + (m : Int) = ((1 + m : Nat) : Int) by omega
    refine pick_okL hS3 (by simp) fun d1 S4 hd1 hS4 w4 => ?_
    have g1 := greats hd1
    try wp_walk using RUN
    refine pick_okL hS4 (by simp) fun d2 S5 hd2 hS5 w5 => ?_
    have g2 := greats2 hd2
    try wp_walk using RUN
    refine loopF_ind (fun ys ρ S' => ∃ (ds : List D) (u4 u5 u6 u7 u8 u9 u10 u11 : Option D), ys = ds ∧ (∀ d ∈ ds, ∃ a b : Nat, d = .tup [.int (a : Nat), .int (b : Nat)] ∧ a + b ≤ 199) ∧ St p g S' ∧ ρ = [some (.scr (zs.map .int)), some (.ref p), u2, some (.int (1 + m : Nat)), u4, u5, u6, u7, u8, u9, u10, u11]) ?_ ?_ ?_
    · refine ⟨[d1, d2], _, _, _, _, _, _, _, _, rfl, fun d hd => ?_, hS5, rfl⟩
      simp only [List.mem_cons, List.not_mem_nil, or_false] at hd
      rcases hd with rfl | rfl
      · exact g1
      · exact g2
    · rintro ρ S' ⟨ds, u4, u5, u6, u7, u8, u9, u10, u11, e, gd, hS', rfl⟩
      try wp_walk using RUN
      exact .same (h _)
    · rintro y ys next ih ρ S' ⟨ds, u4, u5, u6, u7, u8, u9, u10, u11, rfl, gd, hS', rfl⟩
      obtain ⟨a, b, rfl, hab⟩ := gd _ List.mem_cons_self
      wp_walk using RUN
      refine great_ok (k := k + 1) (b := 0) (by omega) (by omega) (by omega) (by omega) fun hs sa sb A S6 s6 => ?_
      try wp_walk using RUN
      refine great_ok (k := k + 1) (b := 1) (by omega) (by omega) (by omega) (by omega) fun os oa ob A2 S7 s7 => ?_
      have hS7 : St p g S7 := by
        obtain ⟨z1, b0, b1, great, cells, z2, z3, z4⟩ := hS'
        exact ⟨z1, b0, b1, great, cells, s7 _ _ (s6 _ _ z2), s7 _ _ (s6 _ _ z3), z4⟩
      have la := A.l
      have lb := A2.l
      try wp_walk using RUN
      refine is_far_ok A.z A2.z (by decide) (by omega) (by omega) (by omega) ?_
      wp_walk using RUN, List.length_map
      rw [show decide (198 < (hs.length : Int) + (os.length : Int)) = decide (198 < hs.length + os.length) from by rw [decide_eq_decide]; omega]
      refine ne_bl ?_
      try wp_walk using RUN
      refine ite3 (fun q => ?_) fun q => ?_
      · have few : hs.length + os.length ≤ 198 := by omega
        refine greater_okX (k := k + 1) (B := 12) A.z.a A2.z.a A.z.b A2.z.b (fun h hh => (A2.z.h h hh).2.2.2.mono (by omega)) (by decide) (by rw [A.z.sl]; omega) (by rw [A2.z.sl]; omega) (by omega) (by omega) (fun _ => ?_) (fun w => absurd few w)
        try wp_walk using RUN
        refine lis_wide_ok (k := k + 2) (lo_great A.z A2.z few (by decide)) (by simp) (by simp) (by simp [cs]) ?_
        try wp_walk using RUN
        try rw [if_neg (by decide)]
        refine points_ok (n := 1 + m) (m := 2) hS7 (by omega) (by decide) fun ps S8 pl gp hS8 w8 => ?_
        try wp_walk using RUN
        refine loopC_ind (fun xs acc S' => S' = S8 ∧ acc = [] ∧ ∃ ps' : List (List Rat), xs = ps'.map row ∧ ∀ x ∈ ps', PZ (1 + m) 20 x) ⟨rfl, rfl, ps, rfl, gp⟩ ?_ ?_
        · rintro acc S' ⟨rfl, rfl, ps', e, _⟩
          refine ⟨trivial, ne_nilL ⟨_, rfl, ?_⟩⟩
          rw [if_neg (by decide)]
          exact ih _ _ ⟨ys, _, _, _, _, _, _, _, _, rfl, fun d hd => gd d (List.mem_cons_of_mem _ hd), hS8, rfl⟩
        · rintro z zs2 next2 ih2 acc S' ⟨rfl, rfl, ps', e, gp'⟩
          cases ps' with
          | nil => cases e
          | cons x r =>
            cases e
            have gx := gp' x List.mem_cons_self
            have Z := SZ_great (n := 1 + m) (by omega) few
            wp_walk using RUN
            refine ⟨by unfold LIM; simp, ?_⟩
            refine great_deep (k := k + 2) A.z A2.z gx Z ?_
            try wp_walk using RUN
            refine greater_of_ok (k := k + 1) A.z A2.z gx Z ?_
            refine fr_same ?_
            try wp_walk using RUN
            exact ih2 _ _ ⟨rfl, rfl, r, rfl, fun x hx => gp' x (List.mem_cons_of_mem _ hx)⟩
      · exact ih _ _ ⟨ys, _, _, _, _, _, _, _, _, rfl, fun d hd => gd d (List.mem_cons_of_mem _ hd), hS7, rfl⟩
  · rintro y ys next ih ρ S' ⟨i, u2, u3, u4, u5, u6, u7, u8, u9, u10, u11, ey, hS', rfl⟩
    by_cases hi : i < 2
    · rw [rangeD_cons hi] at ey
      cases ey
      wp_walk using RUN
      refine draw_ok hS' (by decide) fun v S2 v0 v1 hS2 w2 => ?_
      obtain ⟨m, rfl⟩ : ∃ m : Nat, v = (m : Nat) := ⟨v.toNat, by omega⟩
      wp_walk using RUN, show (1 : Int) + (m : Int) = ((1 + m : Nat) : Int) by omega
      refine net_ok (L := 2) (top := 4) hS2 (by decide) (by decide) hb (by omega) (by omega) (by decide) (by decide) fun hs sa sb S4 gh few la fa fb hS4 w4 => ?_
      have A : NZ (1 + m) 40 40 hs sa sb := ⟨fun h hh => ⟨by have := (gh h hh).len; omega, fun a ha => ((gh h hh).a a ha).1, (gh h hh).b, (gh h hh).c⟩, by omega, fun a ha => (fa a ha).1.mono (by omega), fb.mono (by omega)⟩
      try wp_walk using RUN
      refine net_ok (L := 2) (top := 4) hS4 (by decide) (by decide) hb (by omega) (by omega) (by decide) (by decide) fun os oa ob S5 gh2 few2 la2 fa2 fb2 hS5 w5 => ?_
      have A2 : NZ (1 + m) 40 40 os oa ob := ⟨fun h hh => ⟨by have := (gh2 h hh).len; omega, fun a ha => ((gh2 h hh).a a ha).1, (gh2 h hh).b, (gh2 h hh).c⟩, by omega, fun a ha => (fa2 a ha).1.mono (by omega), fb2.mono (by omega)⟩
      try wp_walk using RUN
      rw [show D.tup [D.int (-1), D.int 2] = fr (mkRat (-1) 2) from frE (by decide +kernel) (by decide +kernel)]
      refine lplus_ok fb (C := 2) ⟨by decide +kernel, by decide +kernel⟩ (by omega) ?_
      refine ⟨⟨by simp, by omega, by omega, by decide⟩, ?_⟩
      rw [Int.toNat_natCast, tup01, p1_eq]
      refine pick_okL hS5 (by simp) fun d S6 hd hS6 w6 => ?_
      obtain ⟨os, oa, ob, rfl, A2, o4⟩ := other_mem A few A2 few2 fb hd
      refine points_ok (n := 1 + m) (m := 8) hS6 (by omega) (by decide) fun ps S7 pl gp hS7 w7 => ?_
      refine ⟨⟨by simp, by omega, by omega, by decide⟩, ⟨by simp, by omega, by omega, by decide⟩, ⟨by simp, by omega, by omega, by decide⟩, ?_⟩
      rw [frI, frI, zeros_eq, zeros_eq, zeros_eq]
      have hq : ∃ qs : List (List Rat), (ps.map row ++ [D.tup (List.map fr (List.replicate (1 + m) 0)), D.tup (List.map fr (List.replicate (1 + m) ((100 : Int) : Rat))), D.tup (List.map fr (List.replicate (1 + m) ((-100 : Int) : Rat)))]) = qs.map row ∧ ∀ x ∈ qs, PZ (1 + m) 20 x := by
        refine ⟨ps ++ [List.replicate (1 + m) 0, List.replicate (1 + m) ((100 : Int) : Rat), List.replicate (1 + m) ((-100 : Int) : Rat)], by rw [List.map_append]; rfl, fun x hx => ?_⟩
        rcases List.mem_append.mp hx with w | w
        · exact gp x w
        · simp only [List.mem_cons, List.not_mem_nil, or_false] at w
          rcases w with rfl | rfl | rfl
          · exact ⟨List.length_replicate, fun a ha => by rw [(List.mem_replicate.mp ha).2]; exact FB0.mono (by omega)⟩
          · exact PZ_rep (by decide)
          · exact PZ_rep (by decide)
      obtain ⟨qs, eq, gq⟩ := hq
      rw [bAddL, eq]
      refine ⟨by rw [List.length_map, pl]; unfold LIM; simp, ?_⟩
      have gq5 : ∀ x ∈ qs.take 5, PZ (1 + m) 20 x := fun x hx => gq x (List.mem_of_mem_take hx)
      have c5 : cutD (qs.map row) none (some 5) = (qs.take 5).map row := by rw [cut_hi (by decide), List.map_take]; rfl
      have B1 : ∀ {ws : List Hg}, ∀ h ∈ ws, FB 40 h.c → FB 40 h.c := fun _ _ h => h
      refine (fun go => ite3 (fun _ => go) (fun _ => ⟨0, 2, [0, 1], rfl, go⟩)) ?_
      refine greater_okX (k := k + 1) (B := 40) A.a A2.a A.b A2.b (fun h hh => (A2.h h hh).2.2.2) (by decide) (by rw [A.sl]; omega) (by rw [A2.sl]; omega) (by omega) (by omega) (fun _ => ?_) (fun w => absurd (by omega) w)
      try wp_walk using RUN
      refine is_greater_ok A A2 gq (SZ_small (by omega) (by omega) (by omega)) (by decide) ?_
      try wp_walk using RUN
      try rw [if_neg (by decide)]
      refine greater_ok (k := k + 1) (B := 40) A2.a A.a A2.b A.b (fun h hh => (A.h h hh).2.2.2) (by decide) (by rw [A2.sl]; omega) (by rw [A.sl]; omega) (by omega) ?_
      try wp_walk using RUN, c5
      refine is_greater_rev A A2 gq5 (SZ_small (by omega) (by omega) (by omega)) (SZ_small (by omega) (by omega) (by omega)) (by decide) ?_
      try wp_walk using RUN
      try rw [if_neg (by decide)]
      exact ih _ _ ⟨i + 1, _, _, _, _, _, _, _, _, _, _, rfl, hS7, rfl⟩
    · rw [rangeD_nil (by omega)] at ey
      cases ey
end

end K61

set_option Elab.async false
set_option linter.all false
set_option maxRecDepth 100000
namespace K61
open PySem DL L2
def top (i : Nat) : Stmt := PySem.Challenge.pw_hingelayer_k61_whole_greater_of_two.main.body.getD i (.Pass ⟨0, 0, 0, 0⟩)
def T : Tab := ⟨([("divisor", 0), ("lowest", 1), ("plus", 2), ("minus", 3), ("product", 4), ("added_rows", 5), ("scaled_row", 6), ("unit_row", 7), ("signed_pair", 8), ("greater", 9), ("added", 10), ("_law_bag", 11), ("_law_draw", 12), ("_law_pick", 13), ("_law_same", 14), ("_law_gcd", 15), ("_law_fr", 16), ("_law_plus", 17), ("_law_times", 18), ("_law_less", 19)] : List (Str × Nat)) ++ ([("_law_dot", 20), ("_law_taken", 21), ("_law_answer", 22), ("_law_draw_fr", 23), ("_law_draw_row", 24), ("_law_net", 25), ("_law_is_fraction", 26), ("_law_is_row", 27), ("_law_deep", 28), ("_law_is_deep", 29), ("_law_points", 30), ("_law_plain_net", 31), ("_law_great_net", 32), ("_law_is_wide", 33), ("_law_greater_of", 34), ("_law_is_greater", 35), ("_law_is_far", 36), ("law", 37)] : List (Str × Nat)), [("NOTHING", 0), ("ONE", 1), ("MOST_NUMBERS", 2), ("MOST_MADE", 3)], [(9, 0, ["net", "other"], [0, 1])], [(49, 13), (64, 12), (66, 16), (68, 11), (145, 11), (163, 16), (186, 13)], [], [("NetError", 0), ("TooMany", 1)], [(0, [0, 1]), (1, [1])], [9, 10]⟩
def d_divisor : DefI := ⟨"divisor", top 4, ["one", "other"], ["one", "other"], b_divisor⟩
def d_lowest : DefI := ⟨"lowest", top 8, ["above", "below", "by"], ["above", "below"], b_lowest⟩
def d_plus : DefI := ⟨"plus", top 9, ["one", "other"], ["one", "other"], b_plus⟩
def d_minus : DefI := ⟨"minus", top 10, ["one", "other"], ["one", "other"], b_minus⟩
def d_product : DefI := ⟨"product", top 11, ["one", "other"], ["one", "other"], b_product⟩
def d_added_rows : DefI := ⟨"added_rows", top 12, ["one", "other", ".0", "a", "b", "<gx>"], ["one", "other"], b_added_rows⟩
def d_scaled_row : DefI := ⟨"scaled_row", top 13, ["number", "row", ".0", "one", "<gx>"], ["number", "row"], b_scaled_row⟩
def d_unit_row : DefI := ⟨"unit_row", top 14, ["many", "place", ".0", "at", "<gx>"], ["many", "place"], b_unit_row⟩
def d_signed_pair : DefI := ⟨"signed_pair", top 17, ["row"], ["row"], b_signed_pair⟩
def d_greater : DefI := ⟨"greater", top 18, ["net", "other", "n", "gap", "first", "wide", "one", "two", "weights", "second", "at", ".0", "a", "b", "c", "<gx>"], ["net", "other"], b_greater⟩
def d_added : DefI := ⟨"added", top 21, ["net", "other", "p", "q", "hinges", "d", ".0", "a", "b", "c", "<gx>"], ["net", "other", "p", "q"], b_added⟩
def d__law_bag : DefI := ⟨"_law_bag", top 23, ["script", "given", "great", ".0", "cell"], ["script"], b__law_bag⟩
def d__law_draw : DefI := ⟨"_law_draw", top 24, ["bag", "many", "digit", "cell", "mixed"], ["bag", "many"], b__law_draw⟩
def d__law_pick : DefI := ⟨"_law_pick", top 25, ["bag", "some"], ["bag", "some"], b__law_pick⟩
def d__law_same : DefI := ⟨"_law_same", top 27, ["found", "due", "k"], ["found", "due"], b__law_same⟩
def d__law_gcd : DefI := ⟨"_law_gcd", top 28, ["a", "b", "turn"], ["a", "b"], b__law_gcd⟩
def d__law_fr : DefI := ⟨"_law_fr", top 29, ["a", "b", "by"], ["a", "b"], b__law_fr⟩
def d__law_plus : DefI := ⟨"_law_plus", top 30, ["a", "b"], ["a", "b"], b__law_plus⟩
def d__law_times : DefI := ⟨"_law_times", top 32, ["a", "b"], ["a", "b"], b__law_times⟩
def d__law_less : DefI := ⟨"_law_less", top 34, ["a", "b"], ["a", "b"], b__law_less⟩
def d__law_dot : DefI := ⟨"_law_dot", top 35, ["a", "x", "total", "k"], ["a", "x"], b__law_dot⟩
def d__law_taken : DefI := ⟨"_law_taken", top 37, ["t", "a", ".0", "one"], ["t", "a"], b__law_taken⟩
def d__law_answer : DefI := ⟨"_law_answer", top 38, ["net", "x", "total", "a", "b", "c", "worth"], ["net", "x"], b__law_answer⟩
def d__law_draw_fr : DefI := ⟨"_law_draw_fr", top 39, ["bag", "size", "belows"], ["bag", "size", "belows"], b__law_draw_fr⟩
def d__law_draw_row : DefI := ⟨"_law_draw_row", top 40, ["bag", "n", "size", "belows", ".0", "k"], ["bag", "n", "size", "belows"], b__law_draw_row⟩
def d__law_net : DefI := ⟨"_law_net", top 41, ["bag", "n", "hinges", "size", "belows", "made", "k", "a", "b", "old", "t"], ["bag", "n", "hinges", "size", "belows"], b__law_net⟩
def d__law_is_fraction : DefI := ⟨"_law_is_fraction", top 42, ["value", ".0", "one"], ["value"], b__law_is_fraction⟩
def d__law_is_row : DefI := ⟨"_law_is_row", top 43, ["value", "many", ".0", "one"], ["value", "many"], b__law_is_row⟩
def d__law_deep : DefI := ⟨"_law_deep", top 44, ["deep", "x", "y", "layer", "later", "a", "b", "worth", "c", "d", "e"], ["deep", "x"], b__law_deep⟩
def d__law_is_deep : DefI := ⟨"_law_is_deep", top 45, ["value", "n", "many", "layer", "one", "last"], ["value", "n"], b__law_is_deep⟩
def d__law_points : DefI := ⟨"_law_points", top 46, ["bag", "n", "many", ".0", "k"], ["bag", "n", "many"], b__law_points⟩
def d__law_plain_net : DefI := ⟨"_law_plain_net", top 47, ["n", "many", "by", "hinges", "k", ".0", "j"], ["n", "many", "by"], b__law_plain_net⟩
def d__law_great_net : DefI := ⟨"_law_great_net", top 48, ["n", "many", "by", "found", "turn"], ["n", "many", "by"], b__law_great_net⟩
def d__law_is_wide : DefI := ⟨"_law_is_wide", top 49, ["value", "many", "layer", "one"], ["value"], b__law_is_wide⟩
def d__law_greater_of : DefI := ⟨"_law_greater_of", top 50, ["net", "other", "x", "one", "two"], ["net", "other", "x"], b__law_greater_of⟩
def d__law_is_greater : DefI := ⟨"_law_is_greater", top 51, ["net", "other", "found", "points", "x"], ["net", "other", "found", "points"], b__law_is_greater⟩
def d__law_is_far : DefI := ⟨"_law_is_far", top 52, ["net", "other"], ["net", "other"], b__law_is_far⟩
def d_law : DefI := ⟨"law", top 53, ["script", "bag", "turn", "n", "net", "other", "points", "found", "one", "two", ".0", "x"], ["script"], b_law⟩
def defs : List DefI := [d_divisor, d_lowest, d_plus, d_minus, d_product, d_added_rows, d_scaled_row, d_unit_row, d_signed_pair, d_greater, d_added, d__law_bag, d__law_draw, d__law_pick, d__law_same, d__law_gcd, d__law_fr, d__law_plus, d__law_times, d__law_less, d__law_dot, d__law_taken, d__law_answer, d__law_draw_fr, d__law_draw_row, d__law_net, d__law_is_fraction, d__law_is_row, d__law_deep, d__law_is_deep, d__law_points, d__law_plain_net, d__law_great_net, d__law_is_wide, d__law_greater_of, d__law_is_greater, d__law_is_far, d_law]
theorem k_divisor : FnScope d_divisor.N d_divisor.ps (defScope d_divisor.st) ∧ trCs T (trC T d_divisor.N 64 (defScope d_divisor.st)) (defBody d_divisor.st) = some d_divisor.body := ⟨⟨rfl, rfl, rfl, by decide +kernel, rfl, by decide +kernel, by decide +kernel⟩, by decide +kernel⟩
theorem a_divisor {K : PySem.W.Frag} : ∀ (f : Addr) (fd : FuncData), Fun K d_divisor.x d_divisor.x d_divisor.st f fd → Binds K fd d_divisor.ps [] := fun _ _ F => F.binds fun _ _ _ _ _ _ us hl => match us, hl with | [_, _], _ => rfl
theorem k_lowest : FnScope d_lowest.N d_lowest.ps (defScope d_lowest.st) ∧ trCs T (trC T d_lowest.N 64 (defScope d_lowest.st)) (defBody d_lowest.st) = some d_lowest.body := ⟨⟨rfl, rfl, rfl, by decide +kernel, rfl, by decide +kernel, by decide +kernel⟩, by decide +kernel⟩
theorem a_lowest {K : PySem.W.Frag} : ∀ (f : Addr) (fd : FuncData), Fun K d_lowest.x d_lowest.x d_lowest.st f fd → Binds K fd d_lowest.ps [] := fun _ _ F => F.binds fun _ _ _ _ _ _ us hl => match us, hl with | [_, _], _ => rfl
theorem k_plus : FnScope d_plus.N d_plus.ps (defScope d_plus.st) ∧ trCs T (trC T d_plus.N 64 (defScope d_plus.st)) (defBody d_plus.st) = some d_plus.body := ⟨⟨rfl, rfl, rfl, by decide +kernel, rfl, by decide +kernel, by decide +kernel⟩, by decide +kernel⟩
theorem a_plus {K : PySem.W.Frag} : ∀ (f : Addr) (fd : FuncData), Fun K d_plus.x d_plus.x d_plus.st f fd → Binds K fd d_plus.ps [] := fun _ _ F => F.binds fun _ _ _ _ _ _ us hl => match us, hl with | [_, _], _ => rfl
theorem k_minus : FnScope d_minus.N d_minus.ps (defScope d_minus.st) ∧ trCs T (trC T d_minus.N 64 (defScope d_minus.st)) (defBody d_minus.st) = some d_minus.body := ⟨⟨rfl, rfl, rfl, by decide +kernel, rfl, by decide +kernel, by decide +kernel⟩, by decide +kernel⟩
theorem a_minus {K : PySem.W.Frag} : ∀ (f : Addr) (fd : FuncData), Fun K d_minus.x d_minus.x d_minus.st f fd → Binds K fd d_minus.ps [] := fun _ _ F => F.binds fun _ _ _ _ _ _ us hl => match us, hl with | [_, _], _ => rfl
theorem k_product : FnScope d_product.N d_product.ps (defScope d_product.st) ∧ trCs T (trC T d_product.N 64 (defScope d_product.st)) (defBody d_product.st) = some d_product.body := ⟨⟨rfl, rfl, rfl, by decide +kernel, rfl, by decide +kernel, by decide +kernel⟩, by decide +kernel⟩
theorem a_product {K : PySem.W.Frag} : ∀ (f : Addr) (fd : FuncData), Fun K d_product.x d_product.x d_product.st f fd → Binds K fd d_product.ps [] := fun _ _ F => F.binds fun _ _ _ _ _ _ us hl => match us, hl with | [_, _], _ => rfl
theorem k_added_rows : FnScope d_added_rows.N d_added_rows.ps (defScope d_added_rows.st) ∧ trCs T (trC T d_added_rows.N 64 (defScope d_added_rows.st)) (defBody d_added_rows.st) = some d_added_rows.body := ⟨⟨rfl, rfl, rfl, by decide +kernel, rfl, by decide +kernel, by decide +kernel⟩, by decide +kernel⟩
theorem a_added_rows {K : PySem.W.Frag} : ∀ (f : Addr) (fd : FuncData), Fun K d_added_rows.x d_added_rows.x d_added_rows.st f fd → Binds K fd d_added_rows.ps [] := fun _ _ F => F.binds fun _ _ _ _ _ _ us hl => match us, hl with | [_, _], _ => rfl
theorem k_scaled_row : FnScope d_scaled_row.N d_scaled_row.ps (defScope d_scaled_row.st) ∧ trCs T (trC T d_scaled_row.N 64 (defScope d_scaled_row.st)) (defBody d_scaled_row.st) = some d_scaled_row.body := ⟨⟨rfl, rfl, rfl, by decide +kernel, rfl, by decide +kernel, by decide +kernel⟩, by decide +kernel⟩
theorem a_scaled_row {K : PySem.W.Frag} : ∀ (f : Addr) (fd : FuncData), Fun K d_scaled_row.x d_scaled_row.x d_scaled_row.st f fd → Binds K fd d_scaled_row.ps [] := fun _ _ F => F.binds fun _ _ _ _ _ _ us hl => match us, hl with | [_, _], _ => rfl
theorem k_unit_row : FnScope d_unit_row.N d_unit_row.ps (defScope d_unit_row.st) ∧ trCs T (trC T d_unit_row.N 64 (defScope d_unit_row.st)) (defBody d_unit_row.st) = some d_unit_row.body := ⟨⟨rfl, rfl, rfl, by decide +kernel, rfl, by decide +kernel, by decide +kernel⟩, by decide +kernel⟩
theorem a_unit_row {K : PySem.W.Frag} : ∀ (f : Addr) (fd : FuncData), Fun K d_unit_row.x d_unit_row.x d_unit_row.st f fd → Binds K fd d_unit_row.ps [] := fun _ _ F => F.binds fun _ _ _ _ _ _ us hl => match us, hl with | [_, _], _ => rfl
theorem k_signed_pair : FnScope d_signed_pair.N d_signed_pair.ps (defScope d_signed_pair.st) ∧ trCs T (trC T d_signed_pair.N 64 (defScope d_signed_pair.st)) (defBody d_signed_pair.st) = some d_signed_pair.body := ⟨⟨rfl, rfl, rfl, by decide +kernel, rfl, by decide +kernel, by decide +kernel⟩, by decide +kernel⟩
theorem a_signed_pair {K : PySem.W.Frag} : ∀ (f : Addr) (fd : FuncData), Fun K d_signed_pair.x d_signed_pair.x d_signed_pair.st f fd → Binds K fd d_signed_pair.ps [] := fun _ _ F => F.binds fun _ _ _ _ _ _ us hl => match us, hl with | [_], _ => rfl
theorem k_greater : FnScope d_greater.N d_greater.ps (defScope d_greater.st) ∧ trCs T (trC T d_greater.N 64 (defScope d_greater.st)) (defBody d_greater.st) = some d_greater.body := ⟨⟨rfl, rfl, rfl, by decide +kernel, rfl, by decide +kernel, by decide +kernel⟩, by decide +kernel⟩
theorem a_greater {K : PySem.W.Frag} : ∀ (f : Addr) (fd : FuncData), Fun K d_greater.x d_greater.x d_greater.st f fd → Binds K fd d_greater.ps [] := fun _ _ F => F.binds fun _ _ _ _ _ _ us hl => match us, hl with | [_, _], _ => rfl
theorem k_added : FnScope d_added.N d_added.ps (defScope d_added.st) ∧ trCs T (trC T d_added.N 64 (defScope d_added.st)) (defBody d_added.st) = some d_added.body := ⟨⟨rfl, rfl, rfl, by decide +kernel, rfl, by decide +kernel, by decide +kernel⟩, by decide +kernel⟩
theorem a_added {K : PySem.W.Frag} : ∀ (f : Addr) (fd : FuncData), Fun K d_added.x d_added.x d_added.st f fd → Binds K fd d_added.ps [] := fun _ _ F => F.binds fun _ _ _ _ _ _ us hl => match us, hl with | [_, _, _, _], _ => rfl
theorem k__law_bag : FnScope d__law_bag.N d__law_bag.ps (defScope d__law_bag.st) ∧ trCs T (trC T d__law_bag.N 64 (defScope d__law_bag.st)) (defBody d__law_bag.st) = some d__law_bag.body := ⟨⟨rfl, rfl, rfl, by decide +kernel, rfl, by decide +kernel, by decide +kernel⟩, by decide +kernel⟩
theorem a__law_bag {K : PySem.W.Frag} : ∀ (f : Addr) (fd : FuncData), Fun K d__law_bag.x d__law_bag.x d__law_bag.st f fd → Binds K fd d__law_bag.ps [] := fun _ _ F => F.binds fun _ _ _ _ _ _ us hl => match us, hl with | [_], _ => rfl
theorem k__law_draw : FnScope d__law_draw.N d__law_draw.ps (defScope d__law_draw.st) ∧ trCs T (trC T d__law_draw.N 64 (defScope d__law_draw.st)) (defBody d__law_draw.st) = some d__law_draw.body := ⟨⟨rfl, rfl, rfl, by decide +kernel, rfl, by decide +kernel, by decide +kernel⟩, by decide +kernel⟩
theorem a__law_draw {K : PySem.W.Frag} : ∀ (f : Addr) (fd : FuncData), Fun K d__law_draw.x d__law_draw.x d__law_draw.st f fd → Binds K fd d__law_draw.ps [] := fun _ _ F => F.binds fun _ _ _ _ _ _ us hl => match us, hl with | [_, _], _ => rfl
theorem k__law_pick : FnScope d__law_pick.N d__law_pick.ps (defScope d__law_pick.st) ∧ trCs T (trC T d__law_pick.N 64 (defScope d__law_pick.st)) (defBody d__law_pick.st) = some d__law_pick.body := ⟨⟨rfl, rfl, rfl, by decide +kernel, rfl, by decide +kernel, by decide +kernel⟩, by decide +kernel⟩
theorem a__law_pick {K : PySem.W.Frag} : ∀ (f : Addr) (fd : FuncData), Fun K d__law_pick.x d__law_pick.x d__law_pick.st f fd → Binds K fd d__law_pick.ps [] := fun _ _ F => F.binds fun _ _ _ _ _ _ us hl => match us, hl with | [_, _], _ => rfl
theorem k__law_same : FnScope d__law_same.N d__law_same.ps (defScope d__law_same.st) ∧ trCs T (trC T d__law_same.N 64 (defScope d__law_same.st)) (defBody d__law_same.st) = some d__law_same.body := ⟨⟨rfl, rfl, rfl, by decide +kernel, rfl, by decide +kernel, by decide +kernel⟩, by decide +kernel⟩
theorem a__law_same {K : PySem.W.Frag} : ∀ (f : Addr) (fd : FuncData), Fun K d__law_same.x d__law_same.x d__law_same.st f fd → Binds K fd d__law_same.ps [] := fun _ _ F => F.binds fun _ _ _ _ _ _ us hl => match us, hl with | [_, _], _ => rfl
theorem k__law_gcd : FnScope d__law_gcd.N d__law_gcd.ps (defScope d__law_gcd.st) ∧ trCs T (trC T d__law_gcd.N 64 (defScope d__law_gcd.st)) (defBody d__law_gcd.st) = some d__law_gcd.body := ⟨⟨rfl, rfl, rfl, by decide +kernel, rfl, by decide +kernel, by decide +kernel⟩, by decide +kernel⟩
theorem a__law_gcd {K : PySem.W.Frag} : ∀ (f : Addr) (fd : FuncData), Fun K d__law_gcd.x d__law_gcd.x d__law_gcd.st f fd → Binds K fd d__law_gcd.ps [] := fun _ _ F => F.binds fun _ _ _ _ _ _ us hl => match us, hl with | [_, _], _ => rfl
theorem k__law_fr : FnScope d__law_fr.N d__law_fr.ps (defScope d__law_fr.st) ∧ trCs T (trC T d__law_fr.N 64 (defScope d__law_fr.st)) (defBody d__law_fr.st) = some d__law_fr.body := ⟨⟨rfl, rfl, rfl, by decide +kernel, rfl, by decide +kernel, by decide +kernel⟩, by decide +kernel⟩
theorem a__law_fr {K : PySem.W.Frag} : ∀ (f : Addr) (fd : FuncData), Fun K d__law_fr.x d__law_fr.x d__law_fr.st f fd → Binds K fd d__law_fr.ps [] := fun _ _ F => F.binds fun _ _ _ _ _ _ us hl => match us, hl with | [_, _], _ => rfl
theorem k__law_plus : FnScope d__law_plus.N d__law_plus.ps (defScope d__law_plus.st) ∧ trCs T (trC T d__law_plus.N 64 (defScope d__law_plus.st)) (defBody d__law_plus.st) = some d__law_plus.body := ⟨⟨rfl, rfl, rfl, by decide +kernel, rfl, by decide +kernel, by decide +kernel⟩, by decide +kernel⟩
theorem a__law_plus {K : PySem.W.Frag} : ∀ (f : Addr) (fd : FuncData), Fun K d__law_plus.x d__law_plus.x d__law_plus.st f fd → Binds K fd d__law_plus.ps [] := fun _ _ F => F.binds fun _ _ _ _ _ _ us hl => match us, hl with | [_, _], _ => rfl
theorem k__law_times : FnScope d__law_times.N d__law_times.ps (defScope d__law_times.st) ∧ trCs T (trC T d__law_times.N 64 (defScope d__law_times.st)) (defBody d__law_times.st) = some d__law_times.body := ⟨⟨rfl, rfl, rfl, by decide +kernel, rfl, by decide +kernel, by decide +kernel⟩, by decide +kernel⟩
theorem a__law_times {K : PySem.W.Frag} : ∀ (f : Addr) (fd : FuncData), Fun K d__law_times.x d__law_times.x d__law_times.st f fd → Binds K fd d__law_times.ps [] := fun _ _ F => F.binds fun _ _ _ _ _ _ us hl => match us, hl with | [_, _], _ => rfl
theorem k__law_less : FnScope d__law_less.N d__law_less.ps (defScope d__law_less.st) ∧ trCs T (trC T d__law_less.N 64 (defScope d__law_less.st)) (defBody d__law_less.st) = some d__law_less.body := ⟨⟨rfl, rfl, rfl, by decide +kernel, rfl, by decide +kernel, by decide +kernel⟩, by decide +kernel⟩
theorem a__law_less {K : PySem.W.Frag} : ∀ (f : Addr) (fd : FuncData), Fun K d__law_less.x d__law_less.x d__law_less.st f fd → Binds K fd d__law_less.ps [] := fun _ _ F => F.binds fun _ _ _ _ _ _ us hl => match us, hl with | [_, _], _ => rfl
theorem k__law_dot : FnScope d__law_dot.N d__law_dot.ps (defScope d__law_dot.st) ∧ trCs T (trC T d__law_dot.N 64 (defScope d__law_dot.st)) (defBody d__law_dot.st) = some d__law_dot.body := ⟨⟨rfl, rfl, rfl, by decide +kernel, rfl, by decide +kernel, by decide +kernel⟩, by decide +kernel⟩
theorem a__law_dot {K : PySem.W.Frag} : ∀ (f : Addr) (fd : FuncData), Fun K d__law_dot.x d__law_dot.x d__law_dot.st f fd → Binds K fd d__law_dot.ps [] := fun _ _ F => F.binds fun _ _ _ _ _ _ us hl => match us, hl with | [_, _], _ => rfl
theorem k__law_taken : FnScope d__law_taken.N d__law_taken.ps (defScope d__law_taken.st) ∧ trCs T (trC T d__law_taken.N 64 (defScope d__law_taken.st)) (defBody d__law_taken.st) = some d__law_taken.body := ⟨⟨rfl, rfl, rfl, by decide +kernel, rfl, by decide +kernel, by decide +kernel⟩, by decide +kernel⟩
theorem a__law_taken {K : PySem.W.Frag} : ∀ (f : Addr) (fd : FuncData), Fun K d__law_taken.x d__law_taken.x d__law_taken.st f fd → Binds K fd d__law_taken.ps [] := fun _ _ F => F.binds fun _ _ _ _ _ _ us hl => match us, hl with | [_, _], _ => rfl
theorem k__law_answer : FnScope d__law_answer.N d__law_answer.ps (defScope d__law_answer.st) ∧ trCs T (trC T d__law_answer.N 64 (defScope d__law_answer.st)) (defBody d__law_answer.st) = some d__law_answer.body := ⟨⟨rfl, rfl, rfl, by decide +kernel, rfl, by decide +kernel, by decide +kernel⟩, by decide +kernel⟩
theorem a__law_answer {K : PySem.W.Frag} : ∀ (f : Addr) (fd : FuncData), Fun K d__law_answer.x d__law_answer.x d__law_answer.st f fd → Binds K fd d__law_answer.ps [] := fun _ _ F => F.binds fun _ _ _ _ _ _ us hl => match us, hl with | [_, _], _ => rfl
theorem k__law_draw_fr : FnScope d__law_draw_fr.N d__law_draw_fr.ps (defScope d__law_draw_fr.st) ∧ trCs T (trC T d__law_draw_fr.N 64 (defScope d__law_draw_fr.st)) (defBody d__law_draw_fr.st) = some d__law_draw_fr.body := ⟨⟨rfl, rfl, rfl, by decide +kernel, rfl, by decide +kernel, by decide +kernel⟩, by decide +kernel⟩
theorem a__law_draw_fr {K : PySem.W.Frag} : ∀ (f : Addr) (fd : FuncData), Fun K d__law_draw_fr.x d__law_draw_fr.x d__law_draw_fr.st f fd → Binds K fd d__law_draw_fr.ps [] := fun _ _ F => F.binds fun _ _ _ _ _ _ us hl => match us, hl with | [_, _, _], _ => rfl
theorem k__law_draw_row : FnScope d__law_draw_row.N d__law_draw_row.ps (defScope d__law_draw_row.st) ∧ trCs T (trC T d__law_draw_row.N 64 (defScope d__law_draw_row.st)) (defBody d__law_draw_row.st) = some d__law_draw_row.body := ⟨⟨rfl, rfl, rfl, by decide +kernel, rfl, by decide +kernel, by decide +kernel⟩, by decide +kernel⟩
theorem a__law_draw_row {K : PySem.W.Frag} : ∀ (f : Addr) (fd : FuncData), Fun K d__law_draw_row.x d__law_draw_row.x d__law_draw_row.st f fd → Binds K fd d__law_draw_row.ps [] := fun _ _ F => F.binds fun _ _ _ _ _ _ us hl => match us, hl with | [_, _, _, _], _ => rfl
theorem k__law_net : FnScope d__law_net.N d__law_net.ps (defScope d__law_net.st) ∧ trCs T (trC T d__law_net.N 64 (defScope d__law_net.st)) (defBody d__law_net.st) = some d__law_net.body := ⟨⟨rfl, rfl, rfl, by decide +kernel, rfl, by decide +kernel, by decide +kernel⟩, by decide +kernel⟩
theorem a__law_net {K : PySem.W.Frag} : ∀ (f : Addr) (fd : FuncData), Fun K d__law_net.x d__law_net.x d__law_net.st f fd → Binds K fd d__law_net.ps [] := fun _ _ F => F.binds fun _ _ _ _ _ _ us hl => match us, hl with | [_, _, _, _, _], _ => rfl
theorem k__law_is_fraction : FnScope d__law_is_fraction.N d__law_is_fraction.ps (defScope d__law_is_fraction.st) ∧ trCs T (trC T d__law_is_fraction.N 64 (defScope d__law_is_fraction.st)) (defBody d__law_is_fraction.st) = some d__law_is_fraction.body := ⟨⟨rfl, rfl, rfl, by decide +kernel, rfl, by decide +kernel, by decide +kernel⟩, by decide +kernel⟩
theorem a__law_is_fraction {K : PySem.W.Frag} : ∀ (f : Addr) (fd : FuncData), Fun K d__law_is_fraction.x d__law_is_fraction.x d__law_is_fraction.st f fd → Binds K fd d__law_is_fraction.ps [] := fun _ _ F => F.binds fun _ _ _ _ _ _ us hl => match us, hl with | [_], _ => rfl
theorem k__law_is_row : FnScope d__law_is_row.N d__law_is_row.ps (defScope d__law_is_row.st) ∧ trCs T (trC T d__law_is_row.N 64 (defScope d__law_is_row.st)) (defBody d__law_is_row.st) = some d__law_is_row.body := ⟨⟨rfl, rfl, rfl, by decide +kernel, rfl, by decide +kernel, by decide +kernel⟩, by decide +kernel⟩
theorem a__law_is_row {K : PySem.W.Frag} : ∀ (f : Addr) (fd : FuncData), Fun K d__law_is_row.x d__law_is_row.x d__law_is_row.st f fd → Binds K fd d__law_is_row.ps [] := fun _ _ F => F.binds fun _ _ _ _ _ _ us hl => match us, hl with | [_, _], _ => rfl
theorem k__law_deep : FnScope d__law_deep.N d__law_deep.ps (defScope d__law_deep.st) ∧ trCs T (trC T d__law_deep.N 64 (defScope d__law_deep.st)) (defBody d__law_deep.st) = some d__law_deep.body := ⟨⟨rfl, rfl, rfl, by decide +kernel, rfl, by decide +kernel, by decide +kernel⟩, by decide +kernel⟩
theorem a__law_deep {K : PySem.W.Frag} : ∀ (f : Addr) (fd : FuncData), Fun K d__law_deep.x d__law_deep.x d__law_deep.st f fd → Binds K fd d__law_deep.ps [] := fun _ _ F => F.binds fun _ _ _ _ _ _ us hl => match us, hl with | [_, _], _ => rfl
theorem k__law_is_deep : FnScope d__law_is_deep.N d__law_is_deep.ps (defScope d__law_is_deep.st) ∧ trCs T (trC T d__law_is_deep.N 64 (defScope d__law_is_deep.st)) (defBody d__law_is_deep.st) = some d__law_is_deep.body := ⟨⟨rfl, rfl, rfl, by decide +kernel, rfl, by decide +kernel, by decide +kernel⟩, by decide +kernel⟩
theorem a__law_is_deep {K : PySem.W.Frag} : ∀ (f : Addr) (fd : FuncData), Fun K d__law_is_deep.x d__law_is_deep.x d__law_is_deep.st f fd → Binds K fd d__law_is_deep.ps [] := fun _ _ F => F.binds fun _ _ _ _ _ _ us hl => match us, hl with | [_, _], _ => rfl
theorem k__law_points : FnScope d__law_points.N d__law_points.ps (defScope d__law_points.st) ∧ trCs T (trC T d__law_points.N 64 (defScope d__law_points.st)) (defBody d__law_points.st) = some d__law_points.body := ⟨⟨rfl, rfl, rfl, by decide +kernel, rfl, by decide +kernel, by decide +kernel⟩, by decide +kernel⟩
theorem a__law_points {K : PySem.W.Frag} : ∀ (f : Addr) (fd : FuncData), Fun K d__law_points.x d__law_points.x d__law_points.st f fd → Binds K fd d__law_points.ps [] := fun _ _ F => F.binds fun _ _ _ _ _ _ us hl => match us, hl with | [_, _, _], _ => rfl
theorem k__law_plain_net : FnScope d__law_plain_net.N d__law_plain_net.ps (defScope d__law_plain_net.st) ∧ trCs T (trC T d__law_plain_net.N 64 (defScope d__law_plain_net.st)) (defBody d__law_plain_net.st) = some d__law_plain_net.body := ⟨⟨rfl, rfl, rfl, by decide +kernel, rfl, by decide +kernel, by decide +kernel⟩, by decide +kernel⟩
theorem a__law_plain_net {K : PySem.W.Frag} : ∀ (f : Addr) (fd : FuncData), Fun K d__law_plain_net.x d__law_plain_net.x d__law_plain_net.st f fd → Binds K fd d__law_plain_net.ps [] := fun _ _ F => F.binds fun _ _ _ _ _ _ us hl => match us, hl with | [_, _, _], _ => rfl
theorem k__law_great_net : FnScope d__law_great_net.N d__law_great_net.ps (defScope d__law_great_net.st) ∧ trCs T (trC T d__law_great_net.N 64 (defScope d__law_great_net.st)) (defBody d__law_great_net.st) = some d__law_great_net.body := ⟨⟨rfl, rfl, rfl, by decide +kernel, rfl, by decide +kernel, by decide +kernel⟩, by decide +kernel⟩
theorem a__law_great_net {K : PySem.W.Frag} : ∀ (f : Addr) (fd : FuncData), Fun K d__law_great_net.x d__law_great_net.x d__law_great_net.st f fd → Binds K fd d__law_great_net.ps [] := fun _ _ F => F.binds fun _ _ _ _ _ _ us hl => match us, hl with | [_, _, _], _ => rfl
theorem k__law_is_wide : FnScope d__law_is_wide.N d__law_is_wide.ps (defScope d__law_is_wide.st) ∧ trCs T (trC T d__law_is_wide.N 64 (defScope d__law_is_wide.st)) (defBody d__law_is_wide.st) = some d__law_is_wide.body := ⟨⟨rfl, rfl, rfl, by decide +kernel, rfl, by decide +kernel, by decide +kernel⟩, by decide +kernel⟩
theorem a__law_is_wide {K : PySem.W.Frag} : ∀ (f : Addr) (fd : FuncData), Fun K d__law_is_wide.x d__law_is_wide.x d__law_is_wide.st f fd → Binds K fd d__law_is_wide.ps [] := fun _ _ F => F.binds fun _ _ _ _ _ _ us hl => match us, hl with | [_], _ => rfl
theorem k__law_greater_of : FnScope d__law_greater_of.N d__law_greater_of.ps (defScope d__law_greater_of.st) ∧ trCs T (trC T d__law_greater_of.N 64 (defScope d__law_greater_of.st)) (defBody d__law_greater_of.st) = some d__law_greater_of.body := ⟨⟨rfl, rfl, rfl, by decide +kernel, rfl, by decide +kernel, by decide +kernel⟩, by decide +kernel⟩
theorem a__law_greater_of {K : PySem.W.Frag} : ∀ (f : Addr) (fd : FuncData), Fun K d__law_greater_of.x d__law_greater_of.x d__law_greater_of.st f fd → Binds K fd d__law_greater_of.ps [] := fun _ _ F => F.binds fun _ _ _ _ _ _ us hl => match us, hl with | [_, _, _], _ => rfl
theorem k__law_is_greater : FnScope d__law_is_greater.N d__law_is_greater.ps (defScope d__law_is_greater.st) ∧ trCs T (trC T d__law_is_greater.N 64 (defScope d__law_is_greater.st)) (defBody d__law_is_greater.st) = some d__law_is_greater.body := ⟨⟨rfl, rfl, rfl, by decide +kernel, rfl, by decide +kernel, by decide +kernel⟩, by decide +kernel⟩
theorem a__law_is_greater {K : PySem.W.Frag} : ∀ (f : Addr) (fd : FuncData), Fun K d__law_is_greater.x d__law_is_greater.x d__law_is_greater.st f fd → Binds K fd d__law_is_greater.ps [] := fun _ _ F => F.binds fun _ _ _ _ _ _ us hl => match us, hl with | [_, _, _, _], _ => rfl
theorem k__law_is_far : FnScope d__law_is_far.N d__law_is_far.ps (defScope d__law_is_far.st) ∧ trCs T (trC T d__law_is_far.N 64 (defScope d__law_is_far.st)) (defBody d__law_is_far.st) = some d__law_is_far.body := ⟨⟨rfl, rfl, rfl, by decide +kernel, rfl, by decide +kernel, by decide +kernel⟩, by decide +kernel⟩
theorem a__law_is_far {K : PySem.W.Frag} : ∀ (f : Addr) (fd : FuncData), Fun K d__law_is_far.x d__law_is_far.x d__law_is_far.st f fd → Binds K fd d__law_is_far.ps [] := fun _ _ F => F.binds fun _ _ _ _ _ _ us hl => match us, hl with | [_, _], _ => rfl
theorem k_law : FnScope d_law.N d_law.ps (defScope d_law.st) ∧ trCs T (trC T d_law.N 64 (defScope d_law.st)) (defBody d_law.st) = some d_law.body := ⟨⟨rfl, rfl, rfl, by decide +kernel, rfl, by decide +kernel, by decide +kernel⟩, by decide +kernel⟩
theorem a_law {K : PySem.W.Frag} : ∀ (f : Addr) (fd : FuncData), Fun K d_law.x d_law.x d_law.st f fd → Binds K fd d_law.ps [] := fun _ _ F => F.binds fun _ _ _ _ _ _ us hl => match us, hl with | [_], _ => rfl
theorem chk : ∀ d ∈ defs, FnScope d.N d.ps (defScope d.st) ∧ trCs T (trC T d.N 64 (defScope d.st)) (defBody d.st) = some d.body := (all_cons k_divisor (all_cons k_lowest (all_cons k_plus (all_cons k_minus (all_cons k_product (all_cons k_added_rows (all_cons k_scaled_row (all_cons k_unit_row (all_cons k_signed_pair (all_cons k_greater (all_cons k_added (all_cons k__law_bag (all_cons k__law_draw (all_cons k__law_pick (all_cons k__law_same (all_cons k__law_gcd (all_cons k__law_fr (all_cons k__law_plus (all_cons k__law_times (all_cons k__law_less (all_cons k__law_dot (all_cons k__law_taken (all_cons k__law_answer (all_cons k__law_draw_fr (all_cons k__law_draw_row (all_cons k__law_net (all_cons k__law_is_fraction (all_cons k__law_is_row (all_cons k__law_deep (all_cons k__law_is_deep (all_cons k__law_points (all_cons k__law_plain_net (all_cons k__law_great_net (all_cons k__law_is_wide (all_cons k__law_greater_of (all_cons k__law_is_greater (all_cons k__law_is_far (all_cons k_law all_nil))))))))))))))))))))))))))))))))))))))
theorem bnd {K : PySem.W.Frag} : ∀ d ∈ defs, ∀ (f : Addr) (fd : FuncData), Fun K d.x d.x d.st f fd → Binds K fd d.ps [] := (all_cons a_divisor (all_cons a_lowest (all_cons a_plus (all_cons a_minus (all_cons a_product (all_cons a_added_rows (all_cons a_scaled_row (all_cons a_unit_row (all_cons a_signed_pair (all_cons a_greater (all_cons a_added (all_cons a__law_bag (all_cons a__law_draw (all_cons a__law_pick (all_cons a__law_same (all_cons a__law_gcd (all_cons a__law_fr (all_cons a__law_plus (all_cons a__law_times (all_cons a__law_less (all_cons a__law_dot (all_cons a__law_taken (all_cons a__law_answer (all_cons a__law_draw_fr (all_cons a__law_draw_row (all_cons a__law_net (all_cons a__law_is_fraction (all_cons a__law_is_row (all_cons a__law_deep (all_cons a__law_is_deep (all_cons a__law_points (all_cons a__law_plain_net (all_cons a__law_great_net (all_cons a__law_is_wide (all_cons a__law_greater_of (all_cons a__law_is_greater (all_cons a__law_is_far (all_cons a_law all_nil))))))))))))))))))))))))))))))))))))))
theorem gxs : ∀ d ∈ defs, gxB d.N = true → d.x ∈ (["added_rows", "scaled_row", "unit_row", "greater", "added"] : List Str) := by decide +kernel
theorem nm : (T.fns.all fun y => match defs[y.2]? with | some d => decide (d.x = y.1) | none => false) = true := by decide +kernel
theorem kb_0 {K : PySem.W.Frag} : ∀ (f : Addr) (fd : FuncData), Fun K d_greater.x d_greater.x d_greater.st f fd → KBinds K fd d_greater.ps ["net", "other"] (arr 0 2 [0, 1]) (arr 0 2 [0, 1]) := fun _ _ F => by
  obtain ⟨oc, od, kV, doc, pm, an, cdv, ct, osl, rfl, lk, hcd⟩ := F.ex
  exact kbinds_mk (by decide +kernel) fun us ws h1 h2 => match us, ws, h1, h2 with | [], [_, _], _, _ => rfl
theorem kw {K : PySem.W.Frag} : ∀ (kp f n : Nat) (ks : List Str) (p : List Nat), T.kws[kp]? = some (f, n, ks, p) → X.kps[kp]? = some (n, ks.length, p) ∧ ∀ d : DefI, defs[f]? = some d → ∀ fa fd, Fun K d.x d.x d.st fa fd → KBinds K fd d.ps ks (arr n ks.length p) (arr n ks.length p) := fun kp f n ks p h => by
  match kp, h with
  | 0, h => cases h; exact ⟨rfl, fun d e => by cases e; exact kb_0⟩
  | _ + 1, h => cases h
theorem kwl : ∀ (kp f n : Nat) (ks : List Str) (p : List Nat), T.kws[kp]? = some (f, n, ks, p) → ∃ d, defs[f]? = some d := fun kp f n ks p h => by
  match kp, h with
  | 0, h => cases h; exact ⟨_, rfl⟩
  | _ + 1, h => cases h
theorem bl {K : PySem.W.Frag} : ∀ (f : Addr) (fd : FuncData), Fun K d_law.x d_law.x d_law.st f fd → ∀ (s : Shared) (u : Value), BindsTo s fd ⟨[u], []⟩ [("script", u)] := fun _ _ F s u => by
  obtain ⟨oc, od, kV, doc, pm, an, cdv, ct, osl, rfl, lk, hcd⟩ := F.ex
  exact .of_eq rfl
theorem law_mk {l : PySem.W.OpenLaw} {w : World} {K : PySem.W.Frag} {mg : Str → Option Value} {fa : Addr} {h : Heap} {q : Program} (hq : DL.Recs q mg h) (hz : DL.noTab K = true) (hn : ((["added_rows", "scaled_row", "unit_row", "greater", "added"] : List Str).all fun x => (PyProof.Rows.recsOf q).any fun d => d.name == x) = true) (hp : l.prog.given.tree = none) (KX : K.In h) (G : h.Ns mainGlobals mg) (hfa : mg "law" = some (.ref fa))
    (h_divisor : FunAt K d_divisor)
    (h_lowest : FunAt K d_lowest)
    (h_plus : FunAt K d_plus)
    (h_minus : FunAt K d_minus)
    (h_product : FunAt K d_product)
    (h_added_rows : FunAt K d_added_rows)
    (h_scaled_row : FunAt K d_scaled_row)
    (h_unit_row : FunAt K d_unit_row)
    (h_signed_pair : FunAt K d_signed_pair)
    (h_greater : FunAt K d_greater)
    (h_added : FunAt K d_added)
    (h__law_bag : FunAt K d__law_bag)
    (h__law_draw : FunAt K d__law_draw)
    (h__law_pick : FunAt K d__law_pick)
    (h__law_same : FunAt K d__law_same)
    (h__law_gcd : FunAt K d__law_gcd)
    (h__law_fr : FunAt K d__law_fr)
    (h__law_plus : FunAt K d__law_plus)
    (h__law_times : FunAt K d__law_times)
    (h__law_less : FunAt K d__law_less)
    (h__law_dot : FunAt K d__law_dot)
    (h__law_taken : FunAt K d__law_taken)
    (h__law_answer : FunAt K d__law_answer)
    (h__law_draw_fr : FunAt K d__law_draw_fr)
    (h__law_draw_row : FunAt K d__law_draw_row)
    (h__law_net : FunAt K d__law_net)
    (h__law_is_fraction : FunAt K d__law_is_fraction)
    (h__law_is_row : FunAt K d__law_is_row)
    (h__law_deep : FunAt K d__law_deep)
    (h__law_is_deep : FunAt K d__law_is_deep)
    (h__law_points : FunAt K d__law_points)
    (h__law_plain_net : FunAt K d__law_plain_net)
    (h__law_great_net : FunAt K d__law_great_net)
    (h__law_is_wide : FunAt K d__law_is_wide)
    (h__law_greater_of : FunAt K d__law_greater_of)
    (h__law_is_greater : FunAt K d__law_is_greater)
    (h__law_is_far : FunAt K d__law_is_far)
    (h_law : FunAt K d_law)
    (z_len : PySem.W.nsIn K mainGlobals "len" = some none)
    (z_tuple : PySem.W.nsIn K mainGlobals "tuple" = some none)
    (z_abs : PySem.W.nsIn K mainGlobals "abs" = some none)
    (z_int : PySem.W.nsIn K mainGlobals "int" = some none)
    (z_list : PySem.W.nsIn K mainGlobals "list" = some none)
    (z_bool : PySem.W.nsIn K mainGlobals "bool" = some none)
    (z_str : PySem.W.nsIn K mainGlobals "str" = some none)
    (z_isinstance : PySem.W.nsIn K mainGlobals "isinstance" = some none)
    (z_zip : PySem.W.nsIn K mainGlobals "zip" = some none)
    (z_range : PySem.W.nsIn K mainGlobals "range" = some none)
    (z_all : PySem.W.nsIn K mainGlobals "all" = some none)
    (z_any : PySem.W.nsIn K mainGlobals "any" = some none)
    (z_enumerate : PySem.W.nsIn K mainGlobals "enumerate" = some none)
    (z_sorted : PySem.W.nsIn K mainGlobals "sorted" = some none)
    (z_min : PySem.W.nsIn K mainGlobals "min" = some none)
    (z_max : PySem.W.nsIn K mainGlobals "max" = some none)
    (z_sum : PySem.W.nsIn K mainGlobals "sum" = some none)
    (c_NOTHING : ConAt K mg X "NOTHING" 0)
    (c_ONE : ConAt K mg X "ONE" 1)
    (c_MOST_NUMBERS : ConAt K mg X "MOST_NUMBERS" 2)
    (c_MOST_MADE : ConAt K mg X "MOST_MADE" 3)
    {C_NetError C_TooMany : Addr}
    (g_NetError : PySem.W.nsIn K mainGlobals "NetError" = some (some (.ref C_NetError))) (x_NetError : PySem.W.excIn K C_NetError [.type "ValueError", .type "Exception", .type "BaseException", .type "object"] "ValueError.__new__" = true) (kk_NetError : PySem.W.keepIn K (.ref C_NetError) = true) (bb_NetError : PySem.W.subIn K (.ref C_NetError) (.type "BaseException") = some true) (tt_NetError : PySem.W.typeIn K (.ref C_NetError) = some (.type "type")) (ii_NetError : PySem.W.isClsIn K C_NetError = true)
    (g_TooMany : PySem.W.nsIn K mainGlobals "TooMany" = some (some (.ref C_TooMany))) (x_TooMany : PySem.W.excIn K C_TooMany [.type "ValueError", .type "Exception", .type "BaseException", .type "object"] "ValueError.__new__" = true) (kk_TooMany : PySem.W.keepIn K (.ref C_TooMany) = true) (bb_TooMany : PySem.W.subIn K (.ref C_TooMany) (.type "BaseException") = some true) (tt_TooMany : PySem.W.typeIn K (.ref C_TooMany) = some (.type "type")) (ii_TooMany : PySem.W.isClsIn K C_TooMany = true)
    (s_NetError_NetError : PySem.W.subIn K (.ref C_NetError) (.ref C_NetError) = some true)
    (s_TooMany_NetError : PySem.W.subIn K (.ref C_TooMany) (.ref C_NetError) = some true)
    (s_NetError_TooMany : PySem.W.subIn K (.ref C_NetError) (.ref C_TooMany) = some false)
    (s_TooMany_TooMany : PySem.W.subIn K (.ref C_TooMany) (.ref C_TooMany) = some true)
    : LawD l w K (32 + 8 * 8) 63 "script" mg fa h := by
  obtain ⟨cs, hcs, hgx⟩ := gx_tabs hq KX hz _ hn
  refine law_frame (T := T) (X' := X) (fuel := 64) (defs := defs) (fs := fs) (dl := d_law) (j := 37) (m := 8) cs hcs (fun d hd hx f fd e F => by obtain ⟨oc, od, kV, doc, pm, an, cdv, ct, osl, rfl, lk, hcd⟩ := F.ex; exact hgx d.x (gxs d hd hx) f _ _ e (KX _ _ lk) rfl) KX G hfa (all_cons h_divisor (all_cons h_lowest (all_cons h_plus (all_cons h_minus (all_cons h_product (all_cons h_added_rows (all_cons h_scaled_row (all_cons h_unit_row (all_cons h_signed_pair (all_cons h_greater (all_cons h_added (all_cons h__law_bag (all_cons h__law_draw (all_cons h__law_pick (all_cons h__law_same (all_cons h__law_gcd (all_cons h__law_fr (all_cons h__law_plus (all_cons h__law_times (all_cons h__law_less (all_cons h__law_dot (all_cons h__law_taken (all_cons h__law_answer (all_cons h__law_draw_fr (all_cons h__law_draw_row (all_cons h__law_net (all_cons h__law_is_fraction (all_cons h__law_is_row (all_cons h__law_deep (all_cons h__law_is_deep (all_cons h__law_points (all_cons h__law_plain_net (all_cons h__law_great_net (all_cons h__law_is_wide (all_cons h__law_greater_of (all_cons h__law_is_greater (all_cons h__law_is_far (all_cons h_law all_nil)))))))))))))))))))))))))))))))))))))) chk bnd nm kw kwl (by decide) ⟨2, fun c => match c with | 0 => .ref C_NetError | 1 => .ref C_TooMany | _ => .none⟩ ?_ ?_ ?_ hp rfl rfl bl rfl fun zs hz _ => law_ok hz fun _ => rfl
  · intro x i e
    have e := lkS_mem e
    simp only [T, List.mem_cons, Prod.mk.injEq, List.not_mem_nil, or_false] at e
    rcases e with ⟨rfl, rfl⟩ | ⟨rfl, rfl⟩
    · refine ⟨(by show 0 < 2; decide), ⟨C_NetError, _, _, _, _, rfl, PySem.F.excBase_ValueError, x_NetError, PySem.W.mg_of KX G g_NetError, kk_NetError, bb_NetError, tt_NetError⟩, fun cs hcs c1 hn => ?_⟩
      obtain rfl : [0, 1] = cs := Option.some.inj hcs
      match c1, hn with
      | 0, _ => exact exm_of bb_NetError ii_NetError tt_NetError s_NetError_NetError
      | 1, _ => exact exm_of bb_NetError ii_NetError tt_NetError s_TooMany_NetError
    · refine ⟨(by show 1 < 2; decide), ⟨C_TooMany, _, _, _, _, rfl, PySem.F.excBase_ValueError, x_TooMany, PySem.W.mg_of KX G g_TooMany, kk_TooMany, bb_TooMany, tt_TooMany⟩, fun cs hcs c1 hn => ?_⟩
      obtain rfl : [1] = cs := Option.some.inj hcs
      match c1, hn with
      | 0, _ => exact exm_of bb_TooMany ii_TooMany tt_TooMany s_NetError_TooMany
      | 1, _ => exact exm_of bb_TooMany ii_TooMany tt_TooMany s_TooMany_TooMany
  · intro x i e
    have e := lkS_mem e
    simp only [T, List.mem_cons, Prod.mk.injEq, List.not_mem_nil, or_false] at e
    rcases e with ⟨rfl, rfl⟩ | ⟨rfl, rfl⟩ | ⟨rfl, rfl⟩ | ⟨rfl, rfl⟩
    · exact c_NOTHING
    · exact c_ONE
    · exact c_MOST_NUMBERS
    · exact c_MOST_MADE
  · exact all_cons z_len (all_cons z_tuple (all_cons z_abs (all_cons z_int (all_cons z_list (all_cons z_bool (all_cons z_str (all_cons z_isinstance (all_cons z_zip (all_cons z_range (all_cons z_all (all_cons z_any (all_cons z_enumerate (all_cons z_sorted (all_cons z_min (all_cons z_max (all_cons z_sum (all_nil)))))))))))))))))
end K61
open PySem PySem.W PyProof.Rows in
set_option maxRecDepth 100000 in
set_option maxHeartbeats 0 in
theorem PySem.Challenge.cw_hingelayer_k61_whole_greater_of_two_holds : PySem.Challenge.rw_hingelayer_k61_whole_greater_of_two.Holds := by
  w_on; o_law; k_head; (case hw => w_witness2)
  k_fill
  refine DL.walk_D (n := 63) (k := 32 + 8 * 8) (x := "script") (l := PySem.Challenge.rw_hingelayer_k61_whole_greater_of_two) rfl (by decide) rfl ⟨rfl, by decide, by decide⟩ (by decide +kernel) (fun w h Y => PySem.W.kIn_of Y) ?F
  case F =>
    intro w mg fa h _ KX G hmg hq
    refine' K61.law_mk hq (by rfl) (by decide +kernel) rfl KX G hmg (DL.funAt (x := "divisor") (st := K61.top 4) ?a_0 ?l_0 ?c_0 ?k_0) (DL.funAt (x := "lowest") (st := K61.top 8) ?a_1 ?l_1 ?c_1 ?k_1) (DL.funAt (x := "plus") (st := K61.top 9) ?a_2 ?l_2 ?c_2 ?k_2) (DL.funAt (x := "minus") (st := K61.top 10) ?a_3 ?l_3 ?c_3 ?k_3) (DL.funAt (x := "product") (st := K61.top 11) ?a_4 ?l_4 ?c_4 ?k_4) (DL.funAt (x := "added_rows") (st := K61.top 12) ?a_5 ?l_5 ?c_5 ?k_5) (DL.funAt (x := "scaled_row") (st := K61.top 13) ?a_6 ?l_6 ?c_6 ?k_6) (DL.funAt (x := "unit_row") (st := K61.top 14) ?a_7 ?l_7 ?c_7 ?k_7) (DL.funAt (x := "signed_pair") (st := K61.top 17) ?a_8 ?l_8 ?c_8 ?k_8) (DL.funAt (x := "greater") (st := K61.top 18) ?a_9 ?l_9 ?c_9 ?k_9) (DL.funAt (x := "added") (st := K61.top 21) ?a_10 ?l_10 ?c_10 ?k_10) (DL.funAt (x := "_law_bag") (st := K61.top 23) ?a_11 ?l_11 ?c_11 ?k_11) (DL.funAt (x := "_law_draw") (st := K61.top 24) ?a_12 ?l_12 ?c_12 ?k_12) (DL.funAt (x := "_law_pick") (st := K61.top 25) ?a_13 ?l_13 ?c_13 ?k_13) (DL.funAt (x := "_law_same") (st := K61.top 27) ?a_14 ?l_14 ?c_14 ?k_14) (DL.funAt (x := "_law_gcd") (st := K61.top 28) ?a_15 ?l_15 ?c_15 ?k_15) (DL.funAt (x := "_law_fr") (st := K61.top 29) ?a_16 ?l_16 ?c_16 ?k_16) (DL.funAt (x := "_law_plus") (st := K61.top 30) ?a_17 ?l_17 ?c_17 ?k_17) (DL.funAt (x := "_law_times") (st := K61.top 32) ?a_18 ?l_18 ?c_18 ?k_18) (DL.funAt (x := "_law_less") (st := K61.top 34) ?a_19 ?l_19 ?c_19 ?k_19) (DL.funAt (x := "_law_dot") (st := K61.top 35) ?a_20 ?l_20 ?c_20 ?k_20) (DL.funAt (x := "_law_taken") (st := K61.top 37) ?a_21 ?l_21 ?c_21 ?k_21) (DL.funAt (x := "_law_answer") (st := K61.top 38) ?a_22 ?l_22 ?c_22 ?k_22) (DL.funAt (x := "_law_draw_fr") (st := K61.top 39) ?a_23 ?l_23 ?c_23 ?k_23) (DL.funAt (x := "_law_draw_row") (st := K61.top 40) ?a_24 ?l_24 ?c_24 ?k_24) (DL.funAt (x := "_law_net") (st := K61.top 41) ?a_25 ?l_25 ?c_25 ?k_25) (DL.funAt (x := "_law_is_fraction") (st := K61.top 42) ?a_26 ?l_26 ?c_26 ?k_26) (DL.funAt (x := "_law_is_row") (st := K61.top 43) ?a_27 ?l_27 ?c_27 ?k_27) (DL.funAt (x := "_law_deep") (st := K61.top 44) ?a_28 ?l_28 ?c_28 ?k_28) (DL.funAt (x := "_law_is_deep") (st := K61.top 45) ?a_29 ?l_29 ?c_29 ?k_29) (DL.funAt (x := "_law_points") (st := K61.top 46) ?a_30 ?l_30 ?c_30 ?k_30) (DL.funAt (x := "_law_plain_net") (st := K61.top 47) ?a_31 ?l_31 ?c_31 ?k_31) (DL.funAt (x := "_law_great_net") (st := K61.top 48) ?a_32 ?l_32 ?c_32 ?k_32) (DL.funAt (x := "_law_is_wide") (st := K61.top 49) ?a_33 ?l_33 ?c_33 ?k_33) (DL.funAt (x := "_law_greater_of") (st := K61.top 50) ?a_34 ?l_34 ?c_34 ?k_34) (DL.funAt (x := "_law_is_greater") (st := K61.top 51) ?a_35 ?l_35 ?c_35 ?k_35) (DL.funAt (x := "_law_is_far") (st := K61.top 52) ?a_36 ?l_36 ?c_36 ?k_36) (DL.funAt (x := "law") (st := K61.top 53) ?a_37 ?l_37 ?c_37 ?k_37) ?z_len ?z_tuple ?z_abs ?z_int ?z_list ?z_bool ?z_str ?z_isinstance ?z_zip ?z_range ?z_all ?z_any ?z_enumerate ?z_sorted ?z_min ?z_max ?z_sum (DL.conPair (i := 0) (j := 1) KX G ?e_NOTHING ?m_NOTHING ?t_NOTHING rfl) (DL.conPair (i := 1) (j := 1) KX G ?e_ONE ?m_ONE ?t_ONE rfl) (DL.conInt (i := 200) KX G ?e_MOST_NUMBERS rfl) (DL.conInt (i := 2000) KX G ?e_MOST_MADE rfl) ?g_NetError ?x_NetError ?kk_NetError ?bb_NetError ?tt_NetError ?ii_NetError ?g_TooMany ?x_TooMany ?kk_TooMany ?bb_TooMany ?tt_TooMany ?ii_TooMany ?s_NetError_NetError ?s_TooMany_NetError ?s_NetError_TooMany ?s_TooMany_TooMany
    (case a_0 => k_is)
    (case l_0 => k_is)
    (case c_0 => k_is)
    (case k_0 => k_is)
    (case a_1 => k_is)
    (case l_1 => k_is)
    (case c_1 => k_is)
    (case k_1 => k_is)
    (case a_2 => k_is)
    (case l_2 => k_is)
    (case c_2 => k_is)
    (case k_2 => k_is)
    (case a_3 => k_is)
    (case l_3 => k_is)
    (case c_3 => k_is)
    (case k_3 => k_is)
    (case a_4 => k_is)
    (case l_4 => k_is)
    (case c_4 => k_is)
    (case k_4 => k_is)
    (case a_5 => k_is)
    (case l_5 => k_is)
    (case c_5 => k_is)
    (case k_5 => k_is)
    (case a_6 => k_is)
    (case l_6 => k_is)
    (case c_6 => k_is)
    (case k_6 => k_is)
    (case a_7 => k_is)
    (case l_7 => k_is)
    (case c_7 => k_is)
    (case k_7 => k_is)
    (case a_8 => k_is)
    (case l_8 => k_is)
    (case c_8 => k_is)
    (case k_8 => k_is)
    (case a_9 => k_is)
    (case l_9 => k_is)
    (case c_9 => k_is)
    (case k_9 => k_is)
    (case a_10 => k_is)
    (case l_10 => k_is)
    (case c_10 => k_is)
    (case k_10 => k_is)
    (case a_11 => k_is)
    (case l_11 => k_is)
    (case c_11 => k_is)
    (case k_11 => k_is)
    (case a_12 => k_is)
    (case l_12 => k_is)
    (case c_12 => k_is)
    (case k_12 => k_is)
    (case a_13 => k_is)
    (case l_13 => k_is)
    (case c_13 => k_is)
    (case k_13 => k_is)
    (case a_14 => k_is)
    (case l_14 => k_is)
    (case c_14 => k_is)
    (case k_14 => k_is)
    (case a_15 => k_is)
    (case l_15 => k_is)
    (case c_15 => k_is)
    (case k_15 => k_is)
    (case a_16 => k_is)
    (case l_16 => k_is)
    (case c_16 => k_is)
    (case k_16 => k_is)
    (case a_17 => k_is)
    (case l_17 => k_is)
    (case c_17 => k_is)
    (case k_17 => k_is)
    (case a_18 => k_is)
    (case l_18 => k_is)
    (case c_18 => k_is)
    (case k_18 => k_is)
    (case a_19 => k_is)
    (case l_19 => k_is)
    (case c_19 => k_is)
    (case k_19 => k_is)
    (case a_20 => k_is)
    (case l_20 => k_is)
    (case c_20 => k_is)
    (case k_20 => k_is)
    (case a_21 => k_is)
    (case l_21 => k_is)
    (case c_21 => k_is)
    (case k_21 => k_is)
    (case a_22 => k_is)
    (case l_22 => k_is)
    (case c_22 => k_is)
    (case k_22 => k_is)
    (case a_23 => k_is)
    (case l_23 => k_is)
    (case c_23 => k_is)
    (case k_23 => k_is)
    (case a_24 => k_is)
    (case l_24 => k_is)
    (case c_24 => k_is)
    (case k_24 => k_is)
    (case a_25 => k_is)
    (case l_25 => k_is)
    (case c_25 => k_is)
    (case k_25 => k_is)
    (case a_26 => k_is)
    (case l_26 => k_is)
    (case c_26 => k_is)
    (case k_26 => k_is)
    (case a_27 => k_is)
    (case l_27 => k_is)
    (case c_27 => k_is)
    (case k_27 => k_is)
    (case a_28 => k_is)
    (case l_28 => k_is)
    (case c_28 => k_is)
    (case k_28 => k_is)
    (case a_29 => k_is)
    (case l_29 => k_is)
    (case c_29 => k_is)
    (case k_29 => k_is)
    (case a_30 => k_is)
    (case l_30 => k_is)
    (case c_30 => k_is)
    (case k_30 => k_is)
    (case a_31 => k_is)
    (case l_31 => k_is)
    (case c_31 => k_is)
    (case k_31 => k_is)
    (case a_32 => k_is)
    (case l_32 => k_is)
    (case c_32 => k_is)
    (case k_32 => k_is)
    (case a_33 => k_is)
    (case l_33 => k_is)
    (case c_33 => k_is)
    (case k_33 => k_is)
    (case a_34 => k_is)
    (case l_34 => k_is)
    (case c_34 => k_is)
    (case k_34 => k_is)
    (case a_35 => k_is)
    (case l_35 => k_is)
    (case c_35 => k_is)
    (case k_35 => k_is)
    (case a_36 => k_is)
    (case l_36 => k_is)
    (case c_36 => k_is)
    (case k_36 => k_is)
    (case a_37 => k_is)
    (case l_37 => k_is)
    (case c_37 => k_is)
    (case k_37 => k_is)
    (case z_len => k_is)
    (case z_tuple => k_is)
    (case z_abs => k_is)
    (case z_int => k_is)
    (case z_list => k_is)
    (case z_bool => k_is)
    (case z_str => k_is)
    (case z_isinstance => k_is)
    (case z_zip => k_is)
    (case z_range => k_is)
    (case z_all => k_is)
    (case z_any => k_is)
    (case z_enumerate => k_is)
    (case z_sorted => k_is)
    (case z_min => k_is)
    (case z_max => k_is)
    (case z_sum => k_is)
    (case e_NOTHING => k_is)
    (case m_NOTHING => k_is)
    (case t_NOTHING => rfl)
    (case e_ONE => k_is)
    (case m_ONE => k_is)
    (case t_ONE => rfl)
    (case e_MOST_NUMBERS => k_is)
    (case e_MOST_MADE => k_is)
    (case g_NetError => k_is)
    (case x_NetError => k_exc)
    (case kk_NetError => k_is)
    (case bb_NetError => k_is)
    (case tt_NetError => k_is)
    (case ii_NetError => k_is)
    (case g_TooMany => k_is)
    (case x_TooMany => k_exc)
    (case kk_TooMany => k_is)
    (case bb_TooMany => k_is)
    (case tt_TooMany => k_is)
    (case ii_TooMany => k_is)
    (case s_NetError_NetError => first | rfl | k_is)
    (case s_TooMany_NetError => first | rfl | k_is)
    (case s_NetError_TooMany => first | rfl | k_is)
    (case s_TooMany_TooMany => first | rfl | k_is)
#print axioms PySem.Challenge.cw_hingelayer_k61_whole_greater_of_two_holds

