import PyProof.Rows.All
import Wide.All
import OpenK.AllK
import Wide.FinOn
import HandS.ForMost
import HandS.HeadWalk
import HandS.HeadHook4
import HandS.Nested
import HandS.TupAny
import HandS.TupMul
import HandS.Wide
import HandS.Style
import HandS.Dict
import KE.DataEq
import HandS.TupLen
import HandS.Conv
import KE.DataIsa
import KE.DataMinMax
import KE.SortData
import KE.DataFind
import HandS.Zip
import KE.GoesMore
import HandS.DictComp
import PyProof.FactsAll.dict_0
import PyProof.FactsAll.list_0
import HandS.ExcOwn
import KE.KAssignIn
import HandS.Defaults
import HandS.Head0
import HandS.Head1
import HandS.Head2
import HandS.HeadEnd
import Wide.Once
import PySem.Challenge.RW_diskdoubt_k91_closed_sums_of_asks
section
set_option Elab.async false
set_option linter.all false
set_option maxRecDepth 100000
set_option autoImplicit false
/-! Values, the small heap, how they lie in HandS's heap. -/
namespace Pv
open PySem L2

/-- data: tuples by value; lists and dicts that nothing changes by value (tmp, tmd: new ones that nothing names yet); objects that change by their place in the small heap; defs and classes of the text -/
inductive D where
  | non | bl (b : Bool) | int (i : Int) | str (x : Str)
  | tup (xs : List D)
  | tmp (xs : List D) | vls (xs : List D)
  | tmd (ks vs : List D) | vdc (ks vs : List D)
  | obj (n : Nat)
  | gl (k : Nat)
  | kdc (k : Nat) (ks vs : List D)

inductive Bop where | add | sub | mul | fdiv | mod | pow
  deriving DecidableEq
inductive Cop where | eq | ne | lt | le | gt | ge | is | isnot | isin | notin
  deriving DecidableEq
inductive Ty where | int | bool | str | tuple | list | dict
  deriving DecidableEq
inductive Bi where | len | all | any | tuple | list | min | max | min2 | max2 | sum | sorted | abs | int | divmod
  deriving DecidableEq
inductive Bm where | append | extend | pop | popAt | remove | get1 | get2
  deriving DecidableEq

/-- terms: expressions, rows of these, what is walked, targets, statements -/
inductive T where
  | nil | cons (k : Nat) (a b : T)
  | slot (i : Nat) | cst (d : D)
  | tup (es : T) | lst (es : T) | dlit (ks vs : T)
  | bin (o : Bop) (a b : T) | neg (a : T)
  | cmp (o : Cop) (a b : T) | chain (o p : Cop) (a b c : T)
  | tnot (a : T) | tand (a b : T) | tor (a b : T) | ife (c a b : T)
  | call (f : Nat) (as : T) | make (c f : Nat) (as : T) | meth (m : Nat) (o as : T) | callv (i : Nat) (as : T) | callc (f : Nat) (as : T) (np ns : Nat) (body : T) (caps : List Nat)
  | bi (b : Bi) (as : T) | biR (b : Bi) (as : T) | isi (t : Ty) (a : T) | bm (m : Bm) (o as : T)
  | ix (a b : T) | slc (a lo hi : T) | rev (a : T) | fld (o : T) (f : Nat)
  | lc (own : List Nat) (g it c e : T) | dc (own : List Nat) (g it c k v : T)
  | wseq (a : T) | wenum (a : T) | wzip (a b : T) | wrng (as : T)
  | gname (i : Nat) (keep : Bool) | gtup (n : Nat) (gs : T) | gsub (o i : T) | gfld (o : T) (f : Nat)
  | sexpr (e : T) | sasg (g e : T) | spar (is : List Nat) (es : T) | saug (i : Nat) (o : Bop) (e : T) | saugS (a i : T) (o : Bop) (e : T) | saugF (a : T) (f : Nat) (o : Bop) (e : T)
  | sif (c a b : T) | sfor (g it b : T) | swhile (c b : T) | sret (e : T) | sretN | sraise (c : Nat) (as : T) | spass | sbrk | scont
  | sno

/-- objects of the small heap -/
inductive O where
  | lst (xs : List D)
  | frz (xs : List D)
  | dct (ks vs : List D)
  | ins (c : Nat) (fs : List Nat) (vs : List D)
  | dead

/-- a closure: how many parameters, names, its body, what it captured -/
structure Clo where
  np : Nat
  ns : Nat
  body : T
  caps : List D
/-- the small heap: how many, the newest first; closures that may be called -/
structure Sh where
  n : Nat
  l : List O
  c : List (Nat × Clo)

/-! ### brought to their written form -/
noncomputable def frN {α : Type} (n : Nat) (k : Nat → α) : α := Nat.rec (motive := fun _ => α) (k 0) (fun m _ => k (Nat.succ m)) n
theorem frN_eq {α : Type} (n : Nat) (k : Nat → α) : frN n k = k n := by cases n <;> rfl
noncomputable def frI {α : Type} (i : Int) (k : Int → α) : α := Int.rec (motive := fun _ => α) (fun n => frN n fun n => k (.ofNat n)) (fun n => frN n fun n => k (.negSucc n)) i
theorem frI_eq {α : Type} (i : Int) (k : Int → α) : frI i k = k i := by
  cases i with
  | ofNat n => exact frN_eq n (fun n => k (.ofNat n))
  | negSucc n => exact frN_eq n (fun n => k (.negSucc n))
noncomputable def frL {α β : Type} (xs : List α) : (List α → β) → β := List.rec (motive := fun _ => (List α → β) → β) (fun k => k []) (fun x _ ih k => ih fun ys => k (x :: ys)) xs
theorem frL_eq {α β : Type} : ∀ (xs : List α) (k : List α → β), frL xs k = k xs
  | [], _ => rfl
  | x :: xs, k => frL_eq xs (fun ys => k (x :: ys))
/-- the n-th, by the kernel's own means -/
noncomputable def nthK {α : Type} (xs : List α) : Nat → Option α := List.rec (motive := fun _ => Nat → Option α) (fun _ => none) (fun x _ ih n => Nat.rec (motive := fun _ => Option α) (some x) (fun m _ => ih m) n) xs
theorem nthK_eq {α : Type} : ∀ (xs : List α) (n : Nat), nthK xs n = xs[n]?
  | [], n => by simp [nthK]
  | x :: xs, 0 => rfl
  | x :: xs, n + 1 => by
    show nthK xs n = _
    rw [nthK_eq xs n]
    simp
noncomputable def lenK {α : Type} (xs : List α) : Nat := List.rec (motive := fun _ => Nat) 0 (fun _ _ n => Nat.succ n) xs
theorem lenK_eq {α : Type} : ∀ (xs : List α), lenK xs = xs.length
  | [] => rfl
  | _ :: xs => by
    show Nat.succ (lenK xs) = _
    rw [lenK_eq xs]
    rfl
/-- the n-th replaced -/
noncomputable def setK {α β : Type} (z : β) (xs : List α) : Nat → α → (List α → β) → β := List.rec (motive := fun _ => Nat → α → (List α → β) → β) (fun _ _ _ => z)
  (fun x xs ih n y k => Nat.rec (motive := fun _ => β) (k (y :: xs)) (fun m _ => ih m y fun ys => k (x :: ys)) n) xs
theorem setK_eq {α β : Type} (z : β) : ∀ (xs : List α) (n : Nat) (y : α) (k : List α → β), setK z xs n y k = if n < xs.length then k (xs.set n y) else z
  | [], n, y, k => by simp [setK]
  | x :: xs, 0, y, k => by
    show k (y :: xs) = _
    simp
  | x :: xs, n + 1, y, k => by
    show setK z xs n y (fun ys => k (x :: ys)) = _
    rw [setK_eq z xs n y]
    simp
def nth {α : Type} : List α → Nat → Option α
  | [], _ => none
  | x :: xs, n => match n with
    | 0 => some x
    | m + 1 => nth xs m
theorem nth_eq {α : Type} : ∀ (xs : List α) (n : Nat), nth xs n = xs[n]?
  | [], n => by simp [nth]
  | x :: xs, 0 => rfl
  | x :: xs, n + 1 => by
    show nth xs n = _
    rw [nth_eq xs n]
    simp
def setN {α : Type} : List α → Nat → α → List α
  | [], _, _ => []
  | x :: xs, n, y => match n with
    | 0 => y :: xs
    | m + 1 => x :: setN xs m y
theorem setN_eq {α : Type} : ∀ (xs : List α) (n : Nat) (y : α), setN xs n y = xs.set n y
  | [], n, y => rfl
  | x :: xs, 0, y => rfl
  | x :: xs, n + 1, y => by
    show x :: setN xs n y = _
    rw [setN_eq xs n y]
    rfl
def len {α : Type} : List α → Nat
  | [] => 0
  | _ :: xs => Nat.succ (len xs)
theorem len_eq {α : Type} : ∀ (xs : List α), len xs = xs.length
  | [] => rfl
  | _ :: xs => by
    show Nat.succ (len xs) = _
    rw [len_eq xs]
    rfl
noncomputable def ieq (a b : Int) : Bool := Int.rec (motive := fun _ => Bool) (fun m => Int.rec (motive := fun _ => Bool) (fun n => Nat.beq m n) (fun _ => false) b) (fun m => Int.rec (motive := fun _ => Bool) (fun _ => false) (fun n => Nat.beq m n) b) a
theorem ieq_eq (a b : Int) : ieq a b = decide (a = b) := by
  cases a <;> cases b <;> rename_i m n
  · show Nat.beq m n = _
    rw [Bool.eq_iff_iff, Nat.beq_eq, decide_eq_true_iff]
    exact ⟨fun h => by rw [h], fun h => Int.ofNat.inj h⟩
  · exact (decide_eq_false (fun h => nomatch h)).symm
  · exact (decide_eq_false (fun h => nomatch h)).symm
  · show Nat.beq m n = _
    rw [Bool.eq_iff_iff, Nat.beq_eq, decide_eq_true_iff]
    exact ⟨fun h => by rw [h], fun h => Int.negSucc.inj h⟩
noncomputable def ile (a b : Int) : Bool := Int.rec (motive := fun _ => Bool) (fun m => Int.rec (motive := fun _ => Bool) (fun n => Nat.ble m n) (fun _ => false) b) (fun m => Int.rec (motive := fun _ => Bool) (fun _ => true) (fun n => Nat.ble n m) b) a
theorem ile_eq (a b : Int) : ile a b = decide (a ≤ b) := by
  cases a <;> cases b <;> rename_i m n
  · show Nat.ble m n = _
    rw [eq_comm, Bool.eq_iff_iff]; simp
  · show false = _
    symm; simp; omega
  · show true = _
    symm; simp; omega
  · show Nat.ble n m = _
    rw [eq_comm, Bool.eq_iff_iff]; simp; omega
noncomputable def ilt (a b : Int) : Bool := Bool.rec (motive := fun _ => Bool) true false (ile b a)
theorem ilt_eq (a b : Int) : ilt a b = decide (a < b) := by
  have e : ilt a b = !ile b a := by
    show Bool.rec (motive := fun _ => Bool) true false (ile b a) = _
    cases ile b a <;> rfl
  rw [e, ile_eq]
  by_cases h : a < b
  · simp [h]
  · simp [h]; omega
def leq : List Nat → List Nat → Bool
  | [], [] => true
  | a :: as, b :: bs => Nat.beq a b && leq as bs
  | _, _ => false
theorem leq_eq : ∀ as bs : List Nat, leq as bs = decide (as = bs)
  | [], [] => rfl
  | [], _ :: _ => rfl
  | _ :: _, [] => rfl
  | a :: as, b :: bs => by
    rw [leq, leq_eq as bs, Bool.eq_iff_iff, Bool.and_eq_true, Nat.beq_eq]
    simp
def seq (x y : Str) : Bool := leq x.cps.toList y.cps.toList
theorem seq_eq (x y : Str) : seq x y = decide (x = y) := by
  rw [seq, leq_eq]
  cases x with | mk x =>
  cases y with | mk y =>
  by_cases h : x = y
  · subst h; simp
  · have : ¬ x.toList = y.toList := fun e => h (Array.toList_inj.mp e)
    simp [h, this]

/-! ### the small heap -/
noncomputable def Sh.get (h : Sh) (k : Nat) : Option O := Sh.rec (motive := fun _ => Option O) (fun n l _ => Bool.rec (motive := fun _ => Option O) none (nthK l (n - 1 - k)) (Nat.ble (Nat.succ k) n)) h
noncomputable def Sh.push (h : Sh) (o : O) : Sh := Sh.rec (motive := fun _ => Sh) (fun n l c => frN (Nat.succ n) fun n => ⟨n, o :: l, c⟩) h
noncomputable def Sh.set (h : Sh) (k : Nat) (o : O) : Sh := Sh.rec (motive := fun _ => Sh) (fun n l c => setK (⟨n, l, c⟩ : Sh) l (n - 1 - k) o fun l => ⟨n, l, c⟩) h
/-- with other closures that may be called -/
noncomputable def Sh.withC (h : Sh) (c : List (Nat × Clo)) : Sh := Sh.rec (motive := fun _ => Sh) (fun n l _ => ⟨n, l, c⟩) h
theorem Sh.withC_eq (h : Sh) (c : List (Nat × Clo)) : h.withC c = ⟨h.n, h.l, c⟩ := by cases h; rfl
theorem Sh.get_withC (h : Sh) (c : List (Nat × Clo)) (k : Nat) : (h.withC c).get k = h.get k := by cases h; rfl
theorem Sh.get_eq (h : Sh) (k : Nat) : h.get k = if k < h.n then h.l[h.n - 1 - k]? else none := by
  cases h with | mk n l c =>
  show (Bool.rec (motive := fun _ => Option O) none (nthK l (n - 1 - k)) (Nat.ble (Nat.succ k) n)) = if k < n then l[n - 1 - k]? else none
  by_cases e : k < n
  · have : Nat.ble (Nat.succ k) n = true := Nat.ble_eq.mpr e
    rw [this, if_pos e]
    exact nthK_eq _ _
  · have : Nat.ble (Nat.succ k) n = false := by
      cases q : Nat.ble (Nat.succ k) n with
      | false => rfl
      | true => exact absurd (Nat.ble_eq.mp q) e
    rw [this, if_neg e]
theorem Sh.push_eq (h : Sh) (o : O) : h.push o = ⟨h.n + 1, o :: h.l, h.c⟩ := by
  cases h with | mk n l c =>
  show frN (Nat.succ n) (fun n => (⟨n, o :: l, c⟩ : Sh)) = _
  rw [frN_eq]
theorem Sh.set_eq (h : Sh) (k : Nat) (o : O) : h.set k o = ⟨h.n, h.l.set (h.n - 1 - k) o, h.c⟩ := by
  cases h with | mk n l c =>
  show setK (⟨n, l, c⟩ : Sh) l (n - 1 - k) o (fun l => ⟨n, l, c⟩) = _
  rw [setK_eq]
  by_cases e : n - 1 - k < l.length
  · rw [if_pos e]
  · rw [if_neg e]
    show (⟨n, l, c⟩ : Sh) = ⟨n, l.set (n - 1 - k) o, c⟩
    rw [List.set_eq_of_length_le (by omega)]
theorem Sh.get_push {h : Sh} (k : Nat) (o : O) : (h.push o).get k = if k = h.n then some o else h.get k := by
  rw [Sh.get_eq, Sh.get_eq, Sh.push_eq]
  show (if k < h.n + 1 then (o :: h.l)[h.n + 1 - 1 - k]? else none) = _
  by_cases e : k = h.n
  · subst e; simp
  · rw [if_neg e]
    by_cases l : k < h.n
    · rw [if_pos l, if_pos (by omega)]
      have : h.n + 1 - 1 - k = (h.n - 1 - k) + 1 := by omega
      rw [this]
      simp
    · rw [if_neg l, if_neg (by omega)]
theorem Sh.get_set {h : Sh} (w : h.n = h.l.length) {j : Nat} (hj : j < h.n) (k : Nat) (o : O) : (h.set j o).get k = if k = j then some o else h.get k := by
  rw [Sh.set_eq, Sh.get_eq, Sh.get_eq]
  show (if k < h.n then (h.l.set (h.n - 1 - j) o)[h.n - 1 - k]? else none) = _
  by_cases e : k = j
  · subst e
    rw [if_pos rfl, if_pos hj, List.getElem?_set_self (by omega)]
  · rw [if_neg e]
    by_cases l : k < h.n
    · rw [if_pos l, if_pos l, List.getElem?_set_ne (by omega)]
    · rw [if_neg l, if_neg l]
theorem Sh.get_lt {h : Sh} {k : Nat} {o : O} (e : h.get k = some o) : k < h.n := by
  rw [Sh.get_eq] at e
  by_cases l : k < h.n
  · exact l
  · rw [if_neg l] at e; cases e
theorem Sh.get_some {h : Sh} (w : h.n = h.l.length) {k : Nat} (l : k < h.n) : ∃ o, h.get k = some o := by
  rw [Sh.get_eq, if_pos l]
  exact ⟨_, List.getElem?_eq_getElem (by omega)⟩

/-- the whole: what is written, where functions and classes stand, tables of code, names of attributes -/
structure GC where
  K : PySem.W.Frag
  w : World
  F : Nat → Addr
  tb : List NdefX.NTab
  att : Nat → Str
  /-- an attribute that stands in no class of that kind -/
  a : Nat → Nat → Bool
  /-- classes of exceptions -/
  xc : Nat → Value
  /-- a closure's words: how many parameters, names, its body, its captured names; the text's arguments, body, scope -/
  lam : Nat → Nat → T → List Str → Arguments → Expr → Scope → Prop

def keyD : Key → D
  | .inl i => .int i
  | .inr x => .str x
def keysD (ks : List Key) : D := .tup (ks.map keyD)

/-- places: our objects', and those of what is known by value -/
structure Pl where
  A : List Addr
  Z : Addr → Prop
/-- a dict that stands at the top -/
def KDict (K : PySem.W.Frag) (w : World) (a : Addr) (kvs : List (Key × V)) : Prop := kvs.length ≤ sizeLine ∧ (a == sysModules) = false ∧
  ∀ (Pr : Program) (h : Heap), K.In h → ∃ vs, KV kvs vs ∧ h.DictOf (mixKind Pr w) a vs
/-- none of the kinds that must stay -/
def Soft (u : HO) : Prop := (∀ xs, u ≠ .tup xs) ∧ (∀ ps, u ≠ .tbl ps) ∧ ∀ φ, u ≠ .ext φ
/-- a list, a dict known by value: no table, no cell -/
def Cold (o : HO) : Prop := (∀ ps, o ≠ .tbl ps) ∧ ∀ o' c, o ≠ .frz o' (.own c)
section
variable (G : GC) (P : Pl) (H : Hp)
mutual
def R : D → V → Prop
  | .non, v => v = .non
  | .bl b, v => v = .bl b
  | .int i, v => v = .int i
  | .str x, v => v = .str x
  | .tup ds, v => ∃ a xs, v = .ref a ∧ H a = some (.tup xs) ∧ RL ds xs
  | .tmp _, _ => False
  | .vls ds, v => ∃ a xs, v = .ref a ∧ P.Z a ∧ H a = some (.lst xs) ∧ RL ds xs
  | .tmd _ _, _ => False
  | .vdc ks ds, v => ∃ a, v = .ref a ∧ P.Z a ∧ ((∃ kvs, H a = some (.dK kvs) ∧ ks = kvs.map (fun p => keyD p.1) ∧ RL ds (kvs.map (·.2))) ∨ ∃ kvs, kvs ≠ [] ∧ H a = some (.dT kvs) ∧ ks = kvs.map (fun p => keysD p.1) ∧ RL ds (kvs.map (·.2)))
  | .obj n, v => ∃ a, v = .ref a ∧ P.A[n]? = some a
  | .gl k, v => v = .ref (G.F k)
  | .kdc k ks ds, v => v = .ref (G.F k) ∧ ∃ kvs, KDict G.K G.w (G.F k) kvs ∧ ks = kvs.map (fun p => keyD p.1) ∧ RL ds (kvs.map (·.2))
def RL : List D → List V → Prop
  | [], vs => vs = []
  | d :: ds, vs => ∃ x xs, vs = x :: xs ∧ R d x ∧ RL ds xs
end
/-- a list, a dict stands at a -/
def LstAt (a : Addr) (ds : List D) : Prop := ∃ xs, H a = some (.lst xs) ∧ RL G P H ds xs
def DctAt (a : Addr) (ks ds : List D) : Prop :=
  (∃ kvs, H a = some (.dK kvs) ∧ ks = kvs.map (fun p => keyD p.1) ∧ RL G P H ds (kvs.map (·.2))) ∨ ∃ kvs, kvs ≠ [] ∧ H a = some (.dT kvs) ∧ ks = kvs.map (fun p => keysD p.1) ∧ RL G P H ds (kvs.map (·.2))
/-- the object at f is a function made by a lambda -/
def FnL (f c : Addr) (q : Str) (ps : Arguments) (b : Expr) (sc : Scope) (cl : List (Str × Addr)) : HO := .ext fun h => ∃ (od : Option Addr) (sl : Array (Option Value)) (pm ctv : Value),
  h.get? f = some (⟨.type "function", od, .func (PySem.W.kla_fn "<lambda>" q ps b sc cl pm (.ref c) ctv), sl⟩ : Obj)
/-- a captured cell, at rest -/
def CellZ (H : Hp) (c : Addr) (v : V) : Prop := ∃ (o : Obj) (w : Value), H c = some (.frz o (.own c)) ∧ o.data = .cell (some w) ∧ L2.RelV v w
/-- what an expression gave, begun at the heap H0 -/
def RT (H0 : Hp) (d : D) (v : V) : Prop := match d with
  | .tmp ds => ∃ p, v = .ref p ∧ H0 p = none ∧ p ∉ P.A ∧ ¬ P.Z p ∧ LstAt G P H p ds
  | .tmd ks ds => ∃ p, v = .ref p ∧ H0 p = none ∧ p ∉ P.A ∧ ¬ P.Z p ∧ DctAt G P H p ks ds
  | d => R G P H d v
/-- the object o stands at a -/
def OR (a : Addr) : O → Prop
  | .lst ds => LstAt G P H a ds
  | .frz ds => ∃ o xs, H a = some (.frz o (.lst xs)) ∧ RL G P H ds xs
  | .dct ks ds => DctAt G P H a ks ds
  | .ins c fs ds => ∃ dx vs, H a = some (.ins (G.F c) dx vs) ∧ (∀ f ∈ fs, G.a c f = true) ∧ vs.map (·.1) = fs.map G.att ∧ RL G P H ds (vs.map (·.2))
  | .dead => ∃ φ, H a = some (.ext φ)
/-- the closure stands at a, it may be called -/
def CloAt (a : Addr) (x : Clo) : Prop := ∃ (c : Addr) (q : Str) (ps : Arguments) (e : Expr) (sc : Scope) (cl : List (Str × Addr)) (fr : List Str) (vs : List V), H a = some (FnL a c q ps e sc cl) ∧ H c = some (LamX.CodeO c q) ∧ G.lam x.np x.ns x.body fr ps e sc ∧
  RL G P H x.caps vs ∧ fr.length = vs.length ∧ (∀ y c, cl.lookup y = some c → ∃ v, CellZ H c v) ∧ (∀ x y c, cl.lookup x = some c → cl.lookup y = some c → x = y) ∧
  ∀ (i : Nat) (y : Str) (v : V), fr[i]? = some y → vs[i]? = some v → ∃ c, cl.lookup y = some c ∧ CellZ H c v
/-- the small heap h stands in H, its objects at A -/
structure SR (h : Sh) : Prop where
  nd : P.A.Nodup
  wf : h.n = h.l.length
  len : P.A.length = h.n
  obj : ∀ (n : Nat) (o : O), h.get n = some o → ∃ a, P.A[n]? = some a ∧ OR G P H a o
  zed : ∀ a, P.Z a → a ∉ P.A ∧ ∃ o, H a = some o ∧ Cold o
  tab : NdefX.TabsN G.tb H
  clo : ∀ x, x ∈ h.c → ∃ a, P.A[x.1]? = some a ∧ CloAt G P H a x.2
/-- the names' values -/
structure RS (e : List (Option D)) (σ : L2.St) : Prop where
  len : e.length = σ.length
  at_ : ∀ (i : Nat) (d : D), e[i]? = some (some d) → ∃ v, σ[i]? = some (some v) ∧ R G P H d v
end
/-- what leaves values as they are -/
structure WExt (P : Pl) (H : Hp) (P' : Pl) (H' : Hp) : Prop where
  pre : ∃ B, P'.A = P.A ++ B
  zz : ∀ a, P.Z a → P'.Z a
  kz : ∀ a o, P.Z a → H a = some o → (∀ ps, o ≠ .tbl ps) → H' a = some o
  xx : ∀ a φ, H a = some (.ext φ) → H' a = some (.ext φ)
  tup : ∀ a xs, H a = some (.tup xs) → H' a = some (.tup xs)
  frz : ∀ a o u, H a = some (.frz o u) → H' a = some (.frz o u)
/-- .. cells left out -/
structure WExt0 (P : Pl) (H : Hp) (P' : Pl) (H' : Hp) : Prop where
  pre : ∃ B, P'.A = P.A ++ B
  zz : ∀ a, P.Z a → P'.Z a
  kz : ∀ a o, P.Z a → H a = some o → Cold o → H' a = some o
  tup : ∀ a xs, H a = some (.tup xs) → H' a = some (.tup xs)
theorem WExt.to0 {P P' : Pl} {H H' : Hp} (e : WExt P H P' H') : WExt0 P H P' H' := ⟨e.pre, e.zz, fun a o z q t => e.kz a o z q t.1, e.tup⟩
/-- what code does: new places are those of new objects, what is not ours stays -/
structure Ext (P : Pl) (H : Hp) (P' : Pl) (H' : Hp) : Prop extends WExt P H P' H' where
  fa : ∀ a, a ∈ P'.A → a ∈ P.A ∨ H a = none
  fz : ∀ a, P'.Z a → P.Z a ∨ H a = none
  dom : ∀ a o, H a = some o → ∃ o', H' a = some o'
  keep : ∀ a o, H a = some o → a ∉ P.A → (∀ ps, o ≠ .tbl ps) → H' a = some o
variable {G : GC} {P P1 P2 : Pl} {H H0 H1 H2 : Hp} {d : D} {v : V} {h : Sh}
theorem WExt.refl : WExt P H P H := ⟨⟨[], by simp⟩, fun _ z => z, fun _ _ _ e _ => e, fun _ _ e => e, fun _ _ e => e, fun _ _ _ e => e⟩
theorem Ext.refl : Ext P H P H := ⟨WExt.refl, fun _ z => .inl z, fun _ z => .inl z, fun _ o e => ⟨o, e⟩, fun _ _ e _ _ => e⟩
theorem Ext.back (a : Ext P H P1 H1) {p : Addr} (e : H1 p = none) : H p = none := by
  cases q : H p with
  | none => rfl
  | some o =>
    obtain ⟨o', z⟩ := a.dom p o q
    rw [e] at z
    cases z
theorem WExt.trans (a : WExt P H P1 H1) (b : WExt P1 H1 P2 H2) : WExt P H P2 H2 := by
  obtain ⟨B, e⟩ := id a.pre
  obtain ⟨C, e2⟩ := id b.pre
  exact ⟨⟨B ++ C, by rw [e2, e, List.append_assoc]⟩, fun x z => b.zz x (a.zz x z), fun x o z q t => b.kz x o (a.zz x z) (a.kz x o z q t) t, fun x φ q => b.xx x φ (a.xx x φ q), fun x xs q => b.tup x xs (a.tup x xs q), fun x o u q => b.frz x o u (a.frz x o u q)⟩
theorem Ext.trans (a : Ext P H P1 H1) (b : Ext P1 H1 P2 H2) : Ext P H P2 H2 := by
  refine ⟨a.toWExt.trans b.toWExt, fun x hx => ?_, fun x hx => ?_, fun x o q => ?_, fun x o q n t => ?_⟩
  · rcases b.fa x hx with z | z
    · exact a.fa x z
    · exact .inr (a.back z)
  · rcases b.fz x hx with z | z
    · exact a.fz x z
    · exact .inr (a.back z)
  · obtain ⟨o', z⟩ := a.dom x o q
    exact b.dom x o' z
  · refine b.keep x o (a.keep x o q n t) (fun z => ?_) t
    rcases a.fa x z with z | z
    · exact n z
    · rw [q] at z; cases z
theorem WExt0.at_ (e : WExt0 P H P1 H1) {n : Nat} {a : Addr} (h : P.A[n]? = some a) : P1.A[n]? = some a := by
  obtain ⟨B, q⟩ := e.pre
  rw [q, List.getElem?_append_left (List.getElem?_eq_some_iff.mp h).1]
  exact h
theorem WExt.at_ (e : WExt P H P1 H1) {n : Nat} {a : Addr} (h : P.A[n]? = some a) : P1.A[n]? = some a := by
  obtain ⟨B, q⟩ := e.pre
  rw [q, List.getElem?_append_left (List.getElem?_eq_some_iff.mp h).1]
  exact h
theorem WExt.sqT (e : WExt P H P1 H1) {a : Addr} {xs : List V} (h : SqT G.K H a xs) : SqT G.K H1 a xs := by
  rcases h with (h | ⟨o, h⟩) | h
  · exact .inl (.inl (e.tup _ _ h))
  · exact .inl (.inr ⟨o, e.frz _ _ _ h⟩)
  · exact .inr h
mutual
theorem R.ext0 (e : WExt0 P H P1 H1) : ∀ (d : D) (v : V), R G P H d v → R G P1 H1 d v
  | .non, _, h => h
  | .bl _, _, h => h
  | .int _, _, h => h
  | .str _, _, h => h
  | .tup ds, v, h => by
    simp only [R] at h ⊢
    obtain ⟨a, xs, q, s, r⟩ := h
    exact ⟨a, xs, q, e.tup _ _ s, RL.ext0 e ds xs r⟩
  | .tmp _, _, h => h
  | .vls ds, v, h => by
    simp only [R] at h ⊢
    obtain ⟨a, xs, q, n, s, r⟩ := h
    exact ⟨a, xs, q, e.zz a n, e.kz _ _ n s ⟨(fun _ z => by cases z), (fun _ _ z => by cases z)⟩, RL.ext0 e ds xs r⟩
  | .tmd _ _, _, h => h
  | .vdc ks ds, v, h => by
    simp only [R] at h ⊢
    obtain ⟨a, q, n, s⟩ := h
    rcases s with ⟨kvs, s, k, r⟩ | ⟨kvs, ne, s, k, r⟩
    · exact ⟨a, q, e.zz a n, .inl ⟨kvs, e.kz _ _ n s ⟨(fun _ z => by cases z), (fun _ _ z => by cases z)⟩, k, RL.ext0 e ds _ r⟩⟩
    · exact ⟨a, q, e.zz a n, .inr ⟨kvs, ne, e.kz _ _ n s ⟨(fun _ z => by cases z), (fun _ _ z => by cases z)⟩, k, RL.ext0 e ds _ r⟩⟩
  | .obj n, v, h => by
    simp only [R] at h ⊢
    obtain ⟨a, q, s⟩ := h
    exact ⟨a, q, e.at_ s⟩
  | .gl _, _, h => h
  | .kdc k ks ds, v, h => by
    simp only [R] at h ⊢
    obtain ⟨q, kvs, s, e1, r⟩ := h
    exact ⟨q, kvs, s, e1, RL.ext0 e ds _ r⟩
theorem RL.ext0 (e : WExt0 P H P1 H1) : ∀ (ds : List D) (vs : List V), RL G P H ds vs → RL G P1 H1 ds vs
  | [], _, h => h
  | d :: ds, vs, h => by
    simp only [RL] at h ⊢
    obtain ⟨x, xs, q, r, s⟩ := h
    exact ⟨x, xs, q, R.ext0 e d x r, RL.ext0 e ds xs s⟩
end
theorem R.ext (e : WExt P H P1 H1) (d : D) (v : V) (h : R G P H d v) : R G P1 H1 d v := R.ext0 e.to0 d v h
theorem RL.ext (e : WExt P H P1 H1) (ds : List D) (vs : List V) (h : RL G P H ds vs) : RL G P1 H1 ds vs := RL.ext0 e.to0 ds vs h
theorem RL.length : ∀ {ds : List D} {vs : List V}, RL G P H ds vs → vs.length = ds.length
  | [], _, h => by simp only [RL] at h; rw [h]; rfl
  | d :: ds, vs, h => by
    simp only [RL] at h
    obtain ⟨x, xs, q, _, s⟩ := h
    rw [q, List.length_cons, List.length_cons, RL.length s]
theorem RL.get : ∀ {ds : List D} {vs : List V} {i : Nat} {d : D}, RL G P H ds vs → ds[i]? = some d → ∃ v, vs[i]? = some v ∧ R G P H d v
  | [], _, _, _, _, e => by simp at e
  | d :: ds, vs, 0, _, h, e => by
    simp only [RL] at h
    obtain ⟨x, xs, q, r, _⟩ := h
    cases e
    exact ⟨x, by rw [q]; rfl, r⟩
  | d :: ds, vs, i + 1, _, h, e => by
    simp only [RL] at h
    obtain ⟨x, xs, q, _, s⟩ := h
    obtain ⟨v, h1, h2⟩ := RL.get (i := i) s (by simpa using e)
    exact ⟨v, by rw [q]; simpa using h1, h2⟩
theorem RL.get' {ds : List D} {vs : List V} {i : Nat} {v : V} (h : RL G P H ds vs) (e : vs[i]? = some v) : ∃ d, ds[i]? = some d ∧ R G P H d v := by
  have hi := (List.getElem?_eq_some_iff.mp e).1
  rw [h.length] at hi
  obtain ⟨w, h1, h2⟩ := h.get (List.getElem?_eq_getElem hi)
  rw [e] at h1
  cases h1
  exact ⟨_, List.getElem?_eq_getElem hi, h2⟩
theorem RL.nil : RL G P H [] [] := rfl
theorem RL.cons {ds : List D} {vs : List V} (a : R G P H d v) (b : RL G P H ds vs) : RL G P H (d :: ds) (v :: vs) := ⟨v, vs, rfl, a, b⟩
theorem RL.uncons {ds : List D} {vs : List V} (h : RL G P H (d :: ds) vs) : ∃ x xs, vs = x :: xs ∧ R G P H d x ∧ RL G P H ds xs := h
theorem RL.append : ∀ {ds es : List D} {vs ws : List V}, RL G P H ds vs → RL G P H es ws → RL G P H (ds ++ es) (vs ++ ws)
  | [], _, _, _, h, k => by simp only [RL] at h; rw [h]; exact k
  | d :: ds, es, vs, ws, h, k => by
    obtain ⟨x, xs, q, r, s⟩ := h.uncons
    rw [q]
    exact RL.cons r (RL.append s k)
theorem RL.take : ∀ {ds : List D} {vs : List V} (n : Nat), RL G P H ds vs → RL G P H (ds.take n) (vs.take n)
  | _, _, 0, _ => by simp [RL]
  | [], _, n + 1, h => by simp only [RL] at h; rw [h]; rfl
  | d :: ds, vs, n + 1, h => by
    obtain ⟨x, xs, q, r, s⟩ := h.uncons
    rw [q]
    exact RL.cons r (RL.take n s)
theorem RL.drop : ∀ {ds : List D} {vs : List V} (n : Nat), RL G P H ds vs → RL G P H (ds.drop n) (vs.drop n)
  | _, _, 0, h => by simpa using h
  | [], _, n + 1, h => by simp only [RL] at h; rw [h]; rfl
  | d :: ds, vs, n + 1, h => by
    obtain ⟨x, xs, q, r, s⟩ := h.uncons
    rw [q]
    exact RL.drop n s
theorem RL.set : ∀ {ds : List D} {vs : List V} (i : Nat), RL G P H ds vs → R G P H d v → RL G P H (ds.set i d) (vs.set i v)
  | [], _, _, h, _ => by simp only [RL] at h; rw [h]; rfl
  | c :: ds, vs, 0, h, k => by
    obtain ⟨x, xs, q, r, s⟩ := h.uncons
    rw [q]
    exact RL.cons k s
  | c :: ds, vs, i + 1, h, k => by
    obtain ⟨x, xs, q, r, s⟩ := h.uncons
    rw [q]
    exact RL.cons r (RL.set i s k)
theorem RL.eraseIdx : ∀ {ds : List D} {vs : List V} (i : Nat), RL G P H ds vs → RL G P H (ds.eraseIdx i) (vs.eraseIdx i)
  | [], _, _, h => by simp only [RL] at h; rw [h]; rfl
  | c :: ds, vs, 0, h => by
    obtain ⟨x, xs, q, r, s⟩ := h.uncons
    rw [q]
    exact s
  | c :: ds, vs, i + 1, h => by
    obtain ⟨x, xs, q, r, s⟩ := h.uncons
    rw [q]
    exact RL.cons r (RL.eraseIdx i s)
theorem RL.reverse : ∀ {ds : List D} {vs : List V}, RL G P H ds vs → RL G P H ds.reverse vs.reverse
  | [], _, h => by simp only [RL] at h; rw [h]; rfl
  | c :: ds, vs, h => by
    obtain ⟨x, xs, q, r, s⟩ := h.uncons
    rw [q, List.reverse_cons, List.reverse_cons]
    exact (RL.reverse s).append (RL.cons r RL.nil)
theorem RL.rep {ds : List D} {vs : List V} (h : RL G P H ds vs) : ∀ k : Nat, RL G P H (List.replicate k ds).flatten (List.replicate k vs).flatten
  | 0 => rfl
  | k + 1 => by
    rw [List.replicate_succ, List.replicate_succ, List.flatten_cons, List.flatten_cons]
    exact h.append (RL.rep h k)
theorem LstAt.ext0 (e : WExt0 P H P1 H1) {a : Addr} {ds : List D} (st : H1 a = H a) (h : LstAt G P H a ds) : LstAt G P1 H1 a ds := by
  obtain ⟨xs, q, r⟩ := h
  exact ⟨xs, st.trans q, RL.ext0 e _ _ r⟩
theorem DctAt.ext0 (e : WExt0 P H P1 H1) {a : Addr} {ks ds : List D} (st : H1 a = H a) (h : DctAt G P H a ks ds) : DctAt G P1 H1 a ks ds := by
  rcases h with ⟨xs, q, k, r⟩ | ⟨xs, ne, q, k, r⟩
  · exact .inl ⟨xs, st.trans q, k, RL.ext0 e _ _ r⟩
  · exact .inr ⟨xs, ne, st.trans q, k, RL.ext0 e _ _ r⟩
theorem LstAt.ext (e : WExt P H P1 H1) {a : Addr} {ds : List D} (st : H1 a = H a) (h : LstAt G P H a ds) : LstAt G P1 H1 a ds := by
  obtain ⟨xs, q, r⟩ := h
  exact ⟨xs, st.trans q, RL.ext e _ _ r⟩
theorem DctAt.ext (e : WExt P H P1 H1) {a : Addr} {ks ds : List D} (st : H1 a = H a) (h : DctAt G P H a ks ds) : DctAt G P1 H1 a ks ds := by
  rcases h with ⟨xs, q, k, r⟩ | ⟨xs, ne, q, k, r⟩
  · exact .inl ⟨xs, st.trans q, k, RL.ext e _ _ r⟩
  · exact .inr ⟨xs, ne, st.trans q, k, RL.ext e _ _ r⟩
theorem CellZ.ext (e : WExt P H P1 H1) {c : Addr} {v : V} (h : CellZ H c v) : CellZ H1 c v := by
  obtain ⟨o, w, q, r⟩ := h
  exact ⟨o, w, e.frz _ _ _ q, r⟩
theorem codeO_tbl {c : Addr} {q : Str} : ∀ ps, LamX.CodeO c q ≠ .tbl ps := fun _ z => by cases z
theorem OR.ext0 (e : WExt0 P H P1 H1) {a : Addr} {o : O} (st : H1 a = H a) (h : OR G P H a o) : OR G P1 H1 a o := by
  cases o with
  | lst ds => exact LstAt.ext0 e st h
  | frz ds => obtain ⟨o, xs, q, r⟩ := h; exact ⟨o, xs, st.trans q, RL.ext0 e _ _ r⟩
  | dct ks ds => exact DctAt.ext0 e st h
  | ins c fs ds => obtain ⟨dx, xs, q, n, k, r⟩ := h; exact ⟨dx, xs, st.trans q, n, k, RL.ext0 e _ _ r⟩
  | dead => obtain ⟨o, q⟩ := h; exact ⟨o, st.trans q⟩
theorem OR.ext (e : WExt P H P1 H1) {a : Addr} {o : O} (st : H1 a = H a) (h : OR G P H a o) : OR G P1 H1 a o := OR.ext0 e.to0 st h
theorem CloAt.ext (e : WExt P H P1 H1) {a : Addr} {x : Clo} (h : CloAt G P H a x) : CloAt G P1 H1 a x := by
  obtain ⟨c, q, ps, b, sc, cl, fr, vs, h1, h2, h3, h4, h5, h6, h7, h8⟩ := h
  exact ⟨c, q, ps, b, sc, cl, fr, vs, e.xx _ _ h1, e.xx _ _ h2, h3, RL.ext e _ _ h4, h5, fun y c w => let ⟨v, z⟩ := h6 y c w; ⟨v, z.ext e⟩, h7, fun i y v a b => let ⟨c, w, z⟩ := h8 i y v a b; ⟨c, w, z.ext e⟩⟩
theorem soft_lst {xs : List V} : Soft (.lst xs) := ⟨(fun _ z => by cases z), (fun _ z => by cases z), (fun _ z => by cases z)⟩
theorem soft_dK {xs : List (Key × V)} : Soft (.dK xs) := ⟨(fun _ z => by cases z), (fun _ z => by cases z), (fun _ z => by cases z)⟩
theorem soft_dT {xs : List (List Key × V)} : Soft (.dT xs) := ⟨(fun _ z => by cases z), (fun _ z => by cases z), (fun _ z => by cases z)⟩
theorem LstAt.some {a : Addr} {ds : List D} (h : LstAt G P H a ds) : ∃ u, H a = some u ∧ Soft u := by
  obtain ⟨xs, q, r⟩ := h
  exact ⟨_, q, soft_lst⟩
theorem DctAt.some {a : Addr} {ks ds : List D} (h : DctAt G P H a ks ds) : ∃ u, H a = some u ∧ Soft u := by
  rcases h with ⟨xs, q, r⟩ | ⟨xs, _, q, r⟩
  · exact ⟨_, q, soft_dK⟩
  · exact ⟨_, q, soft_dT⟩
theorem OR.some {a : Addr} {o : O} (h : OR G P H a o) : ∃ u, H a = some u := by
  cases o with
  | lst ds => obtain ⟨u, q, _⟩ := LstAt.some h; exact ⟨u, q⟩
  | frz ds => obtain ⟨o, xs, q, r⟩ := h; exact ⟨_, q⟩
  | dct ks ds => obtain ⟨u, q, _⟩ := DctAt.some h; exact ⟨u, q⟩
  | ins c fs ds => obtain ⟨dx, xs, q, r⟩ := h; exact ⟨_, q⟩
  | dead => obtain ⟨o, q⟩ := h; exact ⟨_, q⟩
theorem RS.ext (e : WExt P H P1 H1) {en : List (Option D)} {σ : L2.St} (h : RS G P H en σ) : RS G P1 H1 en σ :=
  ⟨h.len, fun i d q => let ⟨v, a, b⟩ := h.at_ i d q; ⟨v, a, R.ext e d v b⟩⟩
theorem RS.set {en : List (Option D)} {σ : L2.St} (h : RS G P H en σ) (i : Nat) (r : R G P H d v) : RS G P H (en.set i (some d)) (σ.set i (some v)) := by
  refine ⟨by simp [h.len], fun j d' q => ?_⟩
  by_cases e : j = i
  · subst e
    by_cases l : j < en.length
    · rw [List.getElem?_set_self l] at q
      cases q
      exact ⟨v, List.getElem?_set_self (by rw [← h.len]; exact l), r⟩
    · rw [List.getElem?_eq_none (by simpa using l)] at q
      cases q
  · rw [List.getElem?_set_ne (Ne.symm e)] at q
    obtain ⟨w, h1, h2⟩ := h.at_ j d' q
    exact ⟨w, by rw [List.getElem?_set_ne (Ne.symm e)]; exact h1, h2⟩
/-- a name forgotten -/
theorem RS.forget {en : List (Option D)} {σ : L2.St} (h : RS G P H en σ) (i : Nat) : RS G P H (en.set i none) (σ.set i none) := by
  refine ⟨by simp [h.len], fun j d' q => ?_⟩
  by_cases e : j = i
  · subst e
    by_cases l : j < en.length
    · rw [List.getElem?_set_self l] at q
      cases q
    · rw [List.getElem?_eq_none (by simpa using l)] at q
      cases q
  · rw [List.getElem?_set_ne (Ne.symm e)] at q
    obtain ⟨w, h1, h2⟩ := h.at_ j d' q
    exact ⟨w, by rw [List.getElem?_set_ne (Ne.symm e)]; exact h1, h2⟩
theorem SR.mem (s : SR G P H h) {a : Addr} (ha : a ∈ P.A) : ∃ (n : Nat) (o : O), P.A[n]? = some a ∧ h.get n = some o ∧ OR G P H a o := by
  obtain ⟨n, hn, e⟩ := List.getElem_of_mem ha
  have hn' : n < h.n := by rw [← s.len]; exact hn
  obtain ⟨o, ho⟩ := Sh.get_some s.wf hn'
  obtain ⟨b, h1, h2⟩ := s.obj n o ho
  have e' : P.A[n]? = some a := by rw [List.getElem?_eq_getElem hn, e]
  rw [e'] at h1
  cases h1
  exact ⟨n, o, e', ho, h2⟩
theorem SR.there (s : SR G P H h) {a : Addr} (ha : a ∈ P.A) : ∃ u, H a = some u := by
  obtain ⟨_, _, _, _, o⟩ := s.mem ha
  exact o.some
theorem SR.free (s : SR G P H h) {p : Addr} (hp : H p = none) : p ∉ P.A := fun hm => by
  obtain ⟨u, e⟩ := s.there hm
  rw [hp] at e
  cases e
theorem SR.freeZ (s : SR G P H h) {p : Addr} (hp : H p = none) : ¬ P.Z p := fun hm => by
  obtain ⟨_, u, e, _⟩ := s.zed p hm
  rw [hp] at e
  cases e
/-- a new object that we do not know -/
theorem Ext.new {p : Addr} {o : HO} (hp : H p = none) : Ext P H P (upd H p o) :=
  ⟨⟨⟨[], by simp⟩, fun _ z => z, fun a o' _ e _ => by rw [upd_ne (ne_of_none e hp)]; exact e, fun a φ e => by rw [upd_ne (ne_of_none e hp)]; exact e, fun a xs e => by rw [upd_ne (ne_of_none e hp)]; exact e, fun a _ _ e => by rw [upd_ne (ne_of_none e hp)]; exact e⟩,
    fun _ z => .inl z, fun _ z => .inl z, fun a o' e => ⟨o', by rw [upd_ne (ne_of_none e hp)]; exact e⟩, fun a o' e _ _ => by rw [upd_ne (ne_of_none e hp)]; exact e⟩
theorem TabsN.new {p : Addr} {o : HO} {T : List NdefX.NTab} (t : NdefX.TabsN T H) (hp : H p = none) : NdefX.TabsN T (upd H p o) :=
  t.ext fun b u e => by rw [upd_ne (ne_of_none e hp)]; exact e
theorem SR.cloExt (s : SR G P H h) (e : WExt P H P1 H1) : ∀ x, x ∈ h.c → ∃ a, P1.A[x.1]? = some a ∧ CloAt G P1 H1 a x.2 := fun x m => by
  obtain ⟨a, h1, h2⟩ := s.clo x m
  exact ⟨a, e.at_ h1, h2.ext e⟩
theorem SR.new (s : SR G P H h) {p : Addr} {o : HO} (hp : H p = none) : SR G P (upd H p o) h :=
  ⟨s.nd, s.wf, s.len, fun n o' e => by
    obtain ⟨a, h1, h2⟩ := s.obj n o' e
    obtain ⟨u, q⟩ := h2.some
    exact ⟨a, h1, h2.ext (Ext.new hp).toWExt (by rw [upd_ne (ne_of_none q hp)])⟩, fun a z => by
    obtain ⟨n, o', e, t⟩ := s.zed a z
    exact ⟨n, o', by rw [upd_ne (ne_of_none e hp)]; exact e, t⟩, TabsN.new s.tab hp, s.cloExt (Ext.new hp).toWExt⟩
/-- an object becomes ours -/
def Pl.own (P : Pl) (p : Addr) : Pl := ⟨P.A ++ [p], P.Z⟩
/-- .. is known by value -/
def Pl.val (P : Pl) (p : Addr) : Pl := ⟨P.A, fun a => P.Z a ∨ a = p⟩
theorem WExt.own {p : Addr} : WExt P H (P.own p) H := ⟨⟨[p], rfl⟩, fun _ z => z, fun _ _ _ e _ => e, fun _ _ e => e, fun _ _ e => e, fun _ _ _ e => e⟩
theorem WExt.val {p : Addr} : WExt P H (P.val p) H := ⟨⟨[], by simp [Pl.val]⟩, fun _ z => .inl z, fun _ _ _ e _ => e, fun _ _ e => e, fun _ _ e => e, fun _ _ _ e => e⟩
theorem Ext.own (e : Ext P H0 P1 H1) {p : Addr} (hp : H0 p = none) : Ext P H0 (P1.own p) H1 :=
  ⟨e.toWExt.trans WExt.own, fun a ha => by
    rcases List.mem_append.mp ha with z | z
    · exact e.fa a z
    · have : a = p := by simpa using z
      rw [this]; exact .inr hp, e.fz, e.dom, e.keep⟩
theorem Ext.val (e : Ext P H0 P1 H1) {p : Addr} (hp : H0 p = none) : Ext P H0 (P1.val p) H1 :=
  ⟨e.toWExt.trans WExt.val, e.fa, fun a ha => by
    rcases ha with z | z
    · exact e.fz a z
    · rw [z]; exact .inr hp, e.dom, e.keep⟩
theorem SR.own (s : SR G P H h) {p : Addr} {o : O} (hp : p ∉ P.A) (hz : ¬ P.Z p) (ho : OR G P H p o) : SR G (P.own p) H (h.push o) := by
  refine ⟨?_, by rw [Sh.push_eq]; show h.n + 1 = (o :: h.l).length; simp [s.wf], by rw [Sh.push_eq]; show (P.A ++ [p]).length = h.n + 1; simp [s.len], fun n o' e => ?_, fun a z => ?_, s.tab, by rw [Sh.push_eq]; exact s.cloExt WExt.own⟩
  · show (P.A ++ [p]).Nodup
    rw [List.nodup_append]
    exact ⟨s.nd, by simp, fun a ha b hb e => by
      have : b = p := by simpa using hb
      subst this; subst e; exact hp ha⟩
  · rw [Sh.get_push] at e
    by_cases l : n = h.n
    · rw [if_pos l] at e
      cases e
      subst l
      exact ⟨p, by show (P.A ++ [p])[_]? = _; rw [← s.len, List.getElem?_append_right (Nat.le_refl _)]; simp, ho.ext WExt.own rfl⟩
    · rw [if_neg l] at e
      obtain ⟨a, h1, h2⟩ := s.obj n o' e
      exact ⟨a, WExt.own.at_ (H := H) h1, h2.ext WExt.own rfl⟩
  · obtain ⟨n, q⟩ := s.zed a z
    refine ⟨fun m => ?_, q⟩
    rcases List.mem_append.mp m with y | y
    · exact n y
    · have : a = p := by simpa using y
      subst this; exact hz z
theorem SR.val (s : SR G P H h) {p : Addr} {u : HO} (hp : p ∉ P.A) (e : H p = some u) (nt : Cold u) : SR G (P.val p) H h := by
  refine ⟨s.nd, s.wf, s.len, fun n o' e => ?_, fun a z => ?_, s.tab, s.cloExt WExt.val⟩
  · obtain ⟨a, h1, h2⟩ := s.obj n o' e
    exact ⟨a, h1, h2.ext WExt.val rfl⟩
  · rcases z with z | z
    · exact s.zed a z
    · subst z; exact ⟨hp, u, e, nt⟩
/-- a known object is written -/
theorem SR.write (s : SR G P H h) {n : Nat} {a : Addr} {o : O} {u w : HO} (ha : P.A[n]? = some a) (q : H a = some w) (sw : Soft w) (nf : ∀ o v, w ≠ .frz o v) (ho : WExt P H P (upd H a u) → OR G P (upd H a u) a o) : Ext P H P (upd H a u) ∧ SR G P (upd H a u) (h.set n o) := by
  have hm := List.mem_of_getElem? ha
  obtain ⟨nt, nb, nc⟩ := sw
  have nz : ∀ b, P.Z b → b ≠ a := fun b z e => (s.zed b z).1 (by rw [e]; exact hm)
  have ex : Ext P H P (upd H a u) := ⟨⟨⟨[], by simp⟩, fun _ z => z, fun b o' z e _ => by rw [upd_ne (nz b z)]; exact e, fun b φ e => by
    rw [upd_ne (fun z => by subst z; rw [q] at e; cases e; exact nc _ rfl)]; exact e, fun b xs e => by
    rw [upd_ne (fun z => by subst z; rw [q] at e; cases e; exact nt _ rfl)]; exact e, fun b o v e => by
    rw [upd_ne (fun z => by subst z; rw [q] at e; cases e; exact nf _ _ rfl)]; exact e⟩, fun _ z => .inl z, fun _ z => .inl z, fun b o' e => by
    by_cases hb : b = a
    · subst hb; exact ⟨u, upd_same⟩
    · exact ⟨o', by rw [upd_ne hb]; exact e⟩, fun b o' e n _ => by rw [upd_ne (fun z => n (by rw [z]; exact hm))]; exact e⟩
  have l : n < h.n := by rw [← s.len]; exact (List.getElem?_eq_some_iff.mp ha).1
  refine ⟨ex, s.nd, ?_, ?_, fun m o2 e => ?_, fun b z => ?_, ?_, by rw [Sh.set_eq]; exact s.cloExt ex.toWExt⟩
  · rw [Sh.set_eq]; show h.n = (h.l.set _ _).length; rw [List.length_set]; exact s.wf
  · rw [Sh.set_eq]; exact s.len
  · rw [Sh.get_set s.wf l] at e
    by_cases hm : m = n
    · subst hm
      rw [if_pos rfl] at e
      cases e
      exact ⟨a, ha, ho ex.toWExt⟩
    · rw [if_neg hm] at e
      obtain ⟨b, h1, h2⟩ := s.obj m o2 e
      refine ⟨b, h1, h2.ext ex.toWExt (upd_ne fun z => hm ?_)⟩
      subst z
      exact (List.getElem?_inj (List.getElem?_eq_some_iff.mp h1).1 s.nd).mp (h1.trans ha.symm)
  · obtain ⟨n, o', e, t⟩ := s.zed b z
    exact ⟨n, o', by rw [upd_ne (nz b z)]; exact e, t⟩
  · intro p hp
    obtain ⟨ps, h1, h2, h3⟩ := s.tab p hp
    refine ⟨ps, ?_, h2, fun pos cv hc => ?_⟩
    · rw [upd_ne (fun z => by rw [z, q] at h1; exact nb ps (Option.some.inj h1))]; exact h1
    · obtain ⟨c, e1, e2⟩ := h3 pos cv hc
      refine ⟨c, e1, ?_⟩
      rw [upd_ne (fun z => by rw [z, q] at e2; exact nc _ (z ▸ Option.some.inj e2))]
      exact e2
/-- no closure may be called -/
theorem SR.noC (s : SR G P H h) : SR G P H (h.withC []) := by
  rw [Sh.withC_eq]
  refine ⟨s.nd, s.wf, s.len, fun n o e => s.obj n o ?_, s.zed, s.tab, fun x m => by cases m⟩
  rw [← Sh.get_withC h [] n, Sh.withC_eq]
  exact e
/-- these again -/
theorem SR.addC (s : SR G P H h) {c : List (Nat × Clo)} (k : ∀ x, x ∈ c → ∃ a, P.A[x.1]? = some a ∧ CloAt G P H a x.2) : SR G P H (h.withC c) := by
  rw [Sh.withC_eq]
  refine ⟨s.nd, s.wf, s.len, fun n o e => s.obj n o ?_, s.zed, s.tab, k⟩
  rw [← Sh.get_withC h c n, Sh.withC_eq]
  exact e
end Pv
end
section
set_option Elab.async false
set_option linter.all false
set_option maxRecDepth 100000
set_option autoImplicit false
/-! The small language, its evaluator. -/
namespace Pv
open PySem L2
noncomputable section

abbrev En := List (Option D)
inductive Rs (α : Type) where
  | ok (x : α) (h : Sh)
  | exc (c : Nat) (h : Sh)
  | stuck
inductive Rst where
  | nx (e : En) (h : Sh)
  | rt (d : D) (h : Sh)
  | bk (e : En) (h : Sh)
  | ct (e : En) (h : Sh)
  | exc (c : Nat) (e : En) (h : Sh)
  | stuck
def Rs.bind {α β : Type} (r : Rs α) (f : α → Sh → Rs β) : Rs β := Rs.rec (motive := fun _ => Rs β) f .exc .stuck r
def Rs.map {α β : Type} (r : Rs α) (f : α → β) : Rs β := Rs.rec (motive := fun _ => Rs β) (fun x h => .ok (f x) h) .exc .stuck r
def Rs.opt {α : Type} (r : Option α) (h : Sh) : Rs α := Option.rec (motive := fun _ => Rs α) .stuck (fun x => .ok x h) r
/-- these closures again -/
def Rs.wC {α : Type} (r : Rs α) (c : List (Nat × Clo)) : Rs α := Rs.rec (motive := fun _ => Rs α) (fun x h => .ok x (h.withC c)) (fun k h => .exc k (h.withC c)) .stuck r
/-- an expression within a statement -/
def Rs.thn {α : Type} (r : Rs α) (en : En) (f : α → Sh → Rst) : Rst := Rs.rec (motive := fun _ => Rst) f (fun c h => .exc c en h) .stuck r
/-- by a Bool, by a possible value -/
def bif' {α : Type} (b : Bool) (x y : α) : α := Bool.rec (motive := fun _ => α) y x b
def opt' {α β : Type} (o : Option α) (z : β) (f : α → β) : β := Option.rec (motive := fun _ => β) z f o

/-- a whole number, or else -/
def onI {β : Type} (z : β) (f : Int → β) (d : D) : β := D.rec (motive_1 := fun _ => β) (motive_2 := fun _ => PUnit) (z) (fun _ => z) (f) (fun _ => z) (fun _ _ => z) (fun _ _ => z) (fun _ _ => z) (fun _ _ _ _ => z) (fun _ _ _ _ => z) (fun _ => z) (fun _ => z) (fun _ _ _ _ _ => z) PUnit.unit (fun _ _ _ _ => PUnit.unit) d
/-- equal to this one -/
def tI {β : Type} (i : Int) (k : (Int → Bool) → β) : β := Int.rec (motive := fun _ => β) (fun n => k fun j => Int.rec (motive := fun _ => Bool) (fun m => Nat.beq m n) (fun _ => false) j) (fun n => k fun j => Int.rec (motive := fun _ => Bool) (fun _ => false) (fun m => Nat.beq m n) j) i
theorem tI_eq {β : Type} (i : Int) (k : (Int → Bool) → β) : tI i k = k fun j => ieq j i := by
  cases i with
  | ofNat n => exact congrArg k (funext fun j => by cases j <;> rfl)
  | negSucc n => exact congrArg k (funext fun j => by cases j <;> rfl)
/-! ### operations -/
def fz : D → D
  | .tmp ds => .vls ds
  | .tmd ks ds => .vdc ks ds
  | d => d
def isTmp (d : D) : Bool := D.rec (motive_1 := fun _ => Bool) (motive_2 := fun _ => Bool) false (fun _ => false) (fun _ => false) (fun _ => false) (fun _ _ => false) (fun _ _ => true) (fun _ _ => false) (fun _ _ _ _ => true) (fun _ _ _ _ => false) (fun _ => false) (fun _ => false) (fun _ _ _ _ _ => false) false (fun _ _ _ _ => false) d
def noTmps (ds : List D) : Bool := List.rec (motive := fun _ => Bool) true (fun d _ ih => bif' (isTmp d) false ih) ds
/-- kept: a new object of ours -/
def own (d : D) (h : Sh) : D × Sh := match d with
  | .tmp ds => (.obj h.n, h.push (.lst ds))
  | .tmd ks ds => (.obj h.n, h.push (.dct ks ds))
  | d => (d, h)
def kp (keep : Bool) (d : D) (h : Sh) : D × Sh := bif' (keep) (own d h) ((fz d, h))
/-- a list's items -/
def lstOf (h : Sh) : D → Option (List D)
  | .tmp ds => some ds
  | .vls ds => some ds
  | .obj n => match h.get n with
    | some (.lst ds) => some ds
    | _ => none
  | _ => none
/-- a list that is read -/
def rdL (h : Sh) : D → Option (List D)
  | .tmp ds => some ds
  | .vls ds => some ds
  | .obj n => match h.get n with
    | some (.lst ds) => some ds
    | some (.frz ds) => some ds
    | _ => none
  | _ => none
/-- a list or a tuple -/
def rdQ (h : Sh) : D → Option (List D)
  | .tup ds => some ds
  | d => rdL h d
def dctOf (h : Sh) : D → Option (List D × List D)
  | .tmd ks ds => some (ks, ds)
  | .vdc ks ds => some (ks, ds)
  | .kdc _ ks ds => some (ks, ds)
  | .obj n => match h.get n with
    | some (.dct ks ds) => some (ks, ds)
    | _ => none
  | _ => none

/-- a text that may be laid -/
def txO (x : Str) : Bool := go x.cps.toList
where go : List Nat → Bool
  | [] => true
  | c :: cs => Nat.blt c 1114112 && go cs
/-- all of a kind -/
def allB (f : D → Bool) (ds : List D) : Bool := List.rec (motive := fun _ => Bool) true (fun d _ ih => bif' (f d) ih false) ds
/-- plain data, no object of ours within, n deep -/
def plain (n : Nat) : D → Bool := match n with
  | 0 => fun d => match d with
    | .non => true
    | .bl _ => true
    | .int _ => true
    | .str x => txO x
    | _ => false
  | n + 1 => fun d => match d with
    | .non => true
    | .bl _ => true
    | .int _ => true
    | .str x => txO x
    | .tup ds => allB (plain n) ds
    | .tmp ds => allB (plain n) ds
    | .vls ds => allB (plain n) ds
    | _ => false
def eqAll (f : D → D → Bool) (as : List D) : List D → Bool := List.rec (motive := fun _ => List D → Bool) (fun bs => List.rec (motive := fun _ => Bool) true (fun _ _ _ => false) bs)
  (fun a _ ih bs => List.rec (motive := fun _ => Bool) false (fun b bs _ => bif' (f a b) (ih bs) false) bs) as
/-- their == -/
def isNon : D → Bool
  | .non => true
  | _ => false
def eqB (x : Bool) (b : D) : Bool := match b with
  | .bl y => x == y
  | .int j => ieq (bif' x 1 0) j
  | _ => false
def eqI (i : Int) (b : D) : Bool := match b with
  | .int j => ieq i j
  | .bl y => ieq i (bif' y 1 0)
  | _ => false
def eqS (x : Str) (b : D) : Bool := match b with
  | .str y => seq x y
  | _ => false
def eqF (a b : D) : Bool := match a with
  | .non => isNon b
  | .bl x => eqB x b
  | .int i => eqI i b
  | .str x => eqS x b
  | _ => false
def isL : D → Option (List D)
  | .tmp ds => some ds
  | .vls ds => some ds
  | _ => none
def isU : D → Option (List D)
  | .tup ds => some ds
  | _ => none
def eqP (n : Nat) : D → D → Bool := match n with
  | 0 => eqF
  | n + 1 => fun a b => match a with
    | .tup as => opt' (isU b) false fun bs => eqAll (eqP n) as bs
    | .tmp as => opt' (isL b) false fun bs => eqAll (eqP n) as bs
    | .vls as => opt' (isL b) false fun bs => eqAll (eqP n) as bs
    | a => eqF a b
/-- an object's list by value -/
def derL (h : Sh) : D → D
  | .obj n => match h.get n with
    | some (.lst ds) => .vls ds
    | some (.frz ds) => .vls ds
    | _ => .obj n
  | d => d
def eqG (h : Sh) (a b : D) : Option Bool := bif' (plain 8 (derL h a) && plain 8 (derL h b)) (some (eqP 8 (derL h a) (derL h b))) none
def eqDI (h : Sh) (i : Int) (b : D) : Option Bool := onI (eqG h (.int i) b) (fun j => some (ieq i j)) b
def eqDS (h : Sh) (x : Str) (b : D) : Option Bool := match b with
  | .str y => some (seq x y)
  | b => eqG h (.str x) b
def eqD (h : Sh) (a b : D) : Option Bool := match a with
  | .int i => eqDI h i b
  | .str x => eqDS h x b
  | a => eqG h a b

/-- keys -/
def keyI (i : Int) (b : D) : Bool := match b with
  | .int j => ieq i j
  | _ => false
def keyB (a b : D) : Bool := match a with
  | .int i => keyI i b
  | .str x => eqS x b
  | _ => false
def keyE (a b : D) : Bool := match a with
  | .tup as => opt' (isU b) false fun bs => eqAll keyB as bs
  | a => keyB a b
def lookD (k : D) (ks : List D) : List D → Option D := List.rec (motive := fun _ => List D → Option D) (fun _ => none) (fun k' _ ih ds => List.rec (motive := fun _ => Option D) none (fun d ds _ => bif' (keyE k' k) (some d) (ih ds)) ds) ks
def hasD (k : D) (ks : List D) : Bool := List.rec (motive := fun _ => Bool) false (fun k' _ ih => bif' (keyE k' k) true ih) ks
/-- the value replaced -/
def replD (k d : D) : List D → List D → List D
  | k' :: ks, x :: ds => bif' (keyE k' k) (d :: replD k d ks ds) (x :: replD k d ks ds)
  | _, _ => []
def putD (k d : D) (ks ds : List D) : List D × List D := bif' (hasD k ks) (frL (replD k d ks ds) fun ds => (ks, ds)) (frL (ks ++ [k]) fun ks => frL (ds ++ [d]) fun ds => (ks, ds))
/-- a key of a dict of ints and texts, of tuples of these -/
def keyOk : D → Bool
  | .int _ => true
  | .str _ => true
  | _ => false
def keyTOk : D → Bool
  | .tup ds => allB keyOk ds
  | _ => false
/-- all are keys: fast -/
def allK (ks : List D) : Bool := List.rec (motive := fun _ => Bool) true (fun d _ ih => D.rec (motive_1 := fun _ => Bool) (motive_2 := fun _ => PUnit) (false) (fun _ => false) (fun _ => ih) (fun _ => ih) (fun _ _ => false) (fun _ _ => false) (fun _ _ => false) (fun _ _ _ _ => false) (fun _ _ _ _ => false) (fun _ => false) (fun _ => false) (fun _ _ _ _ _ => false) PUnit.unit (fun _ _ _ _ => PUnit.unit) d) ks
theorem allK_eq : ∀ ks : List D, allK ks = allB keyOk ks
  | [] => rfl
  | d :: ds => by
    have ih := allK_eq ds
    cases d <;> first | rfl | exact ih
/-- stored, in one pass -/
def putC {β : Type} (bad : β) (t : Int → Bool) (k d : D) (ks : List D) : List D → (List D → List D → β) → β := List.rec (motive := fun _ => List D → (List D → List D → β) → β) (fun ds c => frL (ds ++ [d]) fun ds => c [k] ds)
  (fun k' ks ih ds => List.rec (motive := fun _ => (List D → List D → β) → β) (fun c => bif' (allB keyOk (k' :: ks)) (bif' (hasD k (k' :: ks)) (c (k' :: ks) []) (c ((k' :: ks) ++ [k]) [d])) bad)
    (fun x ds _ c => D.rec (motive_1 := fun _ => β) (motive_2 := fun _ => PUnit) (bad) (fun _ => bad) (fun j => Bool.rec (motive := fun _ => β) (ih ds fun a b => c (k' :: a) (x :: b)) (bif' (allK ks) (frL (replD k d ks ds) fun r => c (k' :: ks) (d :: r)) bad) (t j)) (fun _ => ih ds fun a b => c (k' :: a) (x :: b)) (fun _ _ => bad) (fun _ _ => bad) (fun _ _ => bad) (fun _ _ _ _ => bad) (fun _ _ _ _ => bad) (fun _ => bad) (fun _ => bad) (fun _ _ _ _ _ => bad) PUnit.unit (fun _ _ _ _ => PUnit.unit) k') ds) ks
theorem putC_eq {β : Type} (bad : β) (i : Int) (d : D) : ∀ (ks ds : List D) (c : List D → List D → β), putC bad (fun j => ieq j i) (.int i) d ks ds c = bif' (allB keyOk ks) (bif' (hasD (.int i) ks) (c ks (replD (.int i) d ks ds)) (c (ks ++ [.int i]) (ds ++ [d]))) bad
  | [], ds, c => by
    show frL (ds ++ [d]) (fun ds => c [.int i] ds) = c [.int i] (ds ++ [d])
    rw [frL_eq]
  | k' :: ks, [], c => by
    show bif' (allB keyOk (k' :: ks)) (bif' (hasD (.int i) (k' :: ks)) (c (k' :: ks) []) (c ((k' :: ks) ++ [.int i]) [d])) bad = _
    have e : replD (.int i) d (k' :: ks) [] = [] := by simp [replD]
    rw [e]; rfl
  | k' :: ks, x :: ds, c => by
    have ih := fun c => putC_eq bad i d ks ds c
    have e : replD (.int i) d (k' :: ks) (x :: ds) = bif' (keyE k' (.int i)) (d :: replD (.int i) d ks ds) (x :: replD (.int i) d ks ds) := by simp [replD]
    rw [e]
    cases k' with
    | int j =>
      show Bool.rec (motive := fun _ => β) (putC bad (fun j => ieq j i) (.int i) d ks ds fun a b => c (.int j :: a) (x :: b)) (bif' (allK ks) (frL (replD (.int i) d ks ds) fun r => c (.int j :: ks) (d :: r)) bad) (ieq j i)
        = bif' (allB keyOk ks) (bif' (bif' (ieq j i) true (hasD (.int i) ks)) (c (.int j :: ks) (bif' (ieq j i) (d :: replD (.int i) d ks ds) (x :: replD (.int i) d ks ds))) (c ((.int j :: ks) ++ [.int i]) ((x :: ds) ++ [d]))) bad
      rw [ih, frL_eq, allK_eq]
      cases ieq j i <;> rfl
    | str y => exact ih _
    | _ => rfl
/-- do the keys go with this one: to read, to store -/
def keysOk (k : D) (ks : List D) : Bool := match k with
  | .tup ds => allB keyOk ds && (allB keyTOk ks && !ks.isEmpty)
  | k => keyOk k && allB keyOk ks

def keysOkP (k : D) (ks : List D) : Bool := match k with
  | .tup ds => allB keyOk ds && allB keyTOk ks
  | k => keyOk k && allB keyOk ks
def intB : Bop → Int → Int → Option Int
  | .add, i, j => some (i + j)
  | .sub, i, j => some (i - j)
  | .mul, i, j => bif' (Nat.blt (i.natAbs.log2 + j.natAbs.log2) 1000000) (some (i * j)) none
  | .fdiv, i, j => bif' (ilt 0 j && Nat.blt j.natAbs.log2 9000) (some (i / j)) none
  | .mod, i, j => bif' (ilt 0 j) (some (i % j)) none
  | .pow, i, j => bif' (ile 0 j && ile (((Builtin.Int.intBits i : Nat) : Int) * j) 134217728) (some (i ^ j.toNat)) none
def smallL (n : Nat) : Bool := Nat.ble n 16777216
def binI (o : Bop) (i : Int) (b : D) : Option D := match b with
  | .int j => opt' (intB o i j) none fun k => frI k fun k => some (.int k)
  | _ => none
def binTT (xs : List D) (o : Bop) (ys : List D) : Option D := match o with
  | .add => bif' (smallL (lenK xs + lenK ys)) (frL (xs ++ ys) fun zs => some (.tup zs)) none
  | _ => none
def binTI (xs : List D) (o : Bop) (k : Int) : Option D := match o with
  | .mul => bif' (ile 1 k && (ile k 1000 && (Nat.ble 1 (lenK xs) && Nat.ble (lenK xs) 1000))) (frL (List.replicate k.toNat xs).flatten fun zs => some (.tup zs)) none
  | _ => none
def binT (o : Bop) (xs : List D) (b : D) : Option D := match b with
  | .tup ys => binTT xs o ys
  | .int k => binTI xs o k
  | _ => none
def binS (o : Bop) (x : Str) (b : D) : Option D := match b with
  | .str y => match o with
    | .add => bif' (smallL (x.length + y.length)) (some (.str (x ++ y))) none
    | _ => none
  | _ => none
def binLI (xs : List D) (o : Bop) (k : Int) : Option D := match o with
  | .mul => bif' (ile (-9223372036854775808) k && (ilt k 9223372036854775808 && smallL (lenK xs * k.toNat))) (frL (List.replicate k.toNat xs).flatten fun zs => some (.tmp zs)) none
  | _ => none
def binLL (xs : List D) (o : Bop) (ys : List D) : Option D := match o with
  | .add => bif' (smallL (lenK xs + lenK ys)) (frL (xs ++ ys) fun zs => some (.tmp zs)) none
  | _ => none
def binL (h : Sh) (o : Bop) (a b : D) : Option D := opt' (lstOf h a) none fun xs => match b with
    | .int k => binLI xs o k
    | b => opt' (lstOf h b) none fun ys => binLL xs o ys
def binD (h : Sh) (o : Bop) (a b : D) : Option D := match a with
  | .int i => binI o i b
  | .tup xs => binT o xs b
  | .str x => binS o x b
  | a => binL h o a b

def inP (x : D) (ds : List D) : Bool := List.rec (motive := fun _ => Bool) false (fun y _ ih => bif' (eqP 8 y x) true ih) ds
def inL0 (a : D) (ds : List D) : Option Bool := bif' (plain 8 a && allB (plain 8) ds) (some (inP a ds)) none
def isI (d : D) : Bool := onI false (fun _ => true) d
/-- all whole numbers -/
def allI (ds : List D) : Bool := List.rec (motive := fun _ => Bool) true (fun d _ ih => D.rec (motive_1 := fun _ => Bool) (motive_2 := fun _ => PUnit) (false) (fun _ => false) (fun _ => ih) (fun _ => false) (fun _ _ => false) (fun _ _ => false) (fun _ _ => false) (fun _ _ _ _ => false) (fun _ _ _ _ => false) (fun _ => false) (fun _ => false) (fun _ _ _ _ _ => false) PUnit.unit (fun _ _ _ _ => PUnit.unit) d) ds
def inT (bad : Option Bool) (t : Int → Bool) (ds : List D) : Option Bool := List.rec (motive := fun _ => Option Bool) (some false) (fun d ds ih => D.rec (motive_1 := fun _ => Option Bool) (motive_2 := fun _ => PUnit) (bad) (fun _ => bad) (fun j => Bool.rec (motive := fun _ => Option Bool) ih (bif' (allI ds) (some true) bad) (t j)) (fun _ => bad) (fun _ _ => bad) (fun _ _ => bad) (fun _ _ => bad) (fun _ _ _ _ => bad) (fun _ _ _ _ => bad) (fun _ => bad) (fun _ => bad) (fun _ _ _ _ _ => bad) PUnit.unit (fun _ _ _ _ => PUnit.unit) d) ds
def inL (a : D) (ds : List D) : Option Bool := match a with
  | .int i => tI i fun t => inT (inL0 (.int i) ds) t ds
  | a => inL0 a ds
theorem inT_eq (bad : Option Bool) (i : Int) : ∀ ds : List D, inT bad (fun j => ieq j i) ds = bif' (allI ds) (some (inP (.int i) ds)) bad
  | [] => rfl
  | d :: ds => by
    have ih := inT_eq bad i ds
    cases d with
    | int j =>
      show Bool.rec (motive := fun _ => Option Bool) (inT bad (fun j => ieq j i) ds) (bif' (allI ds) (some true) bad) (ieq j i) = bif' (allI ds) (some (bif' (ieq j i) true (inP (.int i) ds))) bad
      rw [ih]
      cases ieq j i <;> cases allI ds <;> rfl
    | _ => rfl
theorem allI_plain : ∀ ds : List D, allI ds = true → allB (plain 8) ds = true
  | [], _ => rfl
  | d :: ds, e => by
    have ih := allI_plain ds
    cases d with
    | int j => exact ih e
    | _ => cases e
theorem inL_eq (a : D) (ds : List D) : inL a ds = inL0 a ds := by
  cases a with
  | int i =>
    show (tI i fun t => inT (inL0 (.int i) ds) t ds) = _
    rw [tI_eq, inT_eq]
    cases c : allI ds with
    | false => rfl
    | true =>
      show some (inP (.int i) ds) = bif' (allB (plain 8) ds) (some (inP (.int i) ds)) none
      rw [allI_plain ds c]; rfl
  | _ => rfl
def inK (a : D) (ks : List D) : Option Bool := bif' (keysOk a ks) (some (hasD a ks)) none
def inD (h : Sh) (a b : D) : Option Bool := opt' (dctOf h b) (opt' (rdQ h b) none fun ds => inL a ds) fun p => inK a p.1
def ordI (f : Int → Int → Bool) (a b : D) : Option Bool := onI none (fun i => onI none (fun j => some (f i j)) b) a
def neg (r : Option Bool) : Option Bool := opt' (r) none fun c => some (!c)
def isD (a b : D) : Option Bool := match b with
  | .non => some (isNon a)
  | .bl y => match a with
    | .bl x => some (x == y)
    | _ => none
  | _ => none
def isnD (a b : D) : Option Bool := match b with
  | .non => some (!isNon a)
  | _ => none
def igt (i j : Int) : Bool := ilt j i
def ige (i j : Int) : Bool := ile j i
def cmpD (h : Sh) (o : Cop) (a b : D) : Option Bool := Cop.rec (motive := fun _ => Sh → D → D → Option Bool) eqD (fun h a b => neg (eqD h a b)) (fun _ a b => ordI ilt a b) (fun _ a b => ordI ile a b) (fun _ a b => ordI igt a b) (fun _ a b => ordI ige a b)
  (fun _ a b => isD a b) (fun _ a b => isnD a b) (fun h a b => inD h a b) (fun h a b => neg (inD h a b)) o h a b
/-- a value's truth -/
def truD (h : Sh) : D → Option Bool
  | .non => some false
  | .bl b => some b
  | .int i => some (!ieq i 0)
  | .str x => bif' (smallL x.length) (some (!Nat.beq x.length 0)) none
  | .kdc _ _ _ => none
  | d => opt' (dctOf h d) (opt' (rdQ h d) none fun ds => some (!ds.isEmpty)) fun p => bif' (allB keyOk p.1) (some (!p.1.isEmpty)) none
/-- whole numbers -/
def intsD : List D → Option (List Int)
  | [] => some []
  | .int i :: ds => opt' (intsD ds) none fun is => some (i :: is)
  | _ :: _ => none
def blsD : List D → Option (List Bool)
  | [] => some []
  | .bl i :: ds => opt' (blsD ds) none fun is => some (i :: is)
  | _ :: _ => none
/-- a whole number, a tuple of these -/
def ordOk : D → Bool
  | .int _ => true
  | _ => false
def ordTOk : D → Bool
  | .tup ds => Nat.blt 0 (lenK ds) && allB ordOk ds
  | _ => false
def ltL : List D → List D → Bool
  | .int a :: as, .int b :: bs => bif' (ieq a b) (ltL as bs) (ilt a b)
  | [], _ :: _ => true
  | _, _ => false
def ltD : D → D → Bool
  | .int a, .int b => ilt a b
  | .tup as, .tup bs => ltL as bs
  | _, _ => false
def minL (d : D) : List D → D
  | [] => d
  | e :: es => bif' (ltD e d) (minL e es) (minL d es)
def maxL (d : D) : List D → D
  | [] => d
  | e :: es => bif' (ltD d e) (maxL e es) (maxL d es)
def ordAll (ds : List D) : Bool := bif' (allB ordOk ds) (true) (allB ordTOk ds)
def insD (d : D) : List D → List D
  | [] => [d]
  | e :: es => bif' (ltD e d) (e :: insD d es) (d :: e :: es)
def sortD : List D → List D
  | [] => []
  | d :: ds => insD d (sortD ds)
def orL : List Bool → Bool
  | [] => false
  | b :: bs => bif' (b) (true) (orL bs)
def andL : List Bool → Bool
  | [] => true
  | b :: bs => bif' (b) (andL bs) (false)
def sumL : List Int → Int
  | [] => 0
  | i :: is => i + sumL is
def lenD (h : Sh) (d : D) : Option Nat := match d with
  | .str x => bif' (smallL x.length) (some x.length) none
  | d => opt' (dctOf h d) (opt' (rdQ h d) none fun ds => some (lenK ds)) fun p => some (lenK p.1)
def minO (ds : List D) : Option D := match ds with
  | [] => none
  | d :: ds => bif' (ordAll (d :: ds)) (some (minL d ds)) none
def maxO (ds : List D) : Option D := match ds with
  | [] => none
  | d :: ds => bif' (ordAll (d :: ds)) (some (maxL d ds)) none
def bi1 (h : Sh) (b : Bi) (d : D) : Option D := match b with
  | .len => opt' (lenD h d) none fun n => frN n fun n => some (.int (.ofNat n))
  | .all => opt' (rdL h d) none fun ds => opt' (blsD ds) none fun bs => some (.bl (andL bs))
  | .any => opt' (rdL h d) none fun ds => opt' (blsD ds) none fun bs => some (.bl (orL bs))
  | .sum => opt' (rdL h d) none fun ds => opt' (intsD ds) none fun is => frI (sumL is) fun i => some (.int i)
  | .tuple => opt' (rdQ h d) none fun ds => some (.tup ds)
  | .list => opt' (rdQ h d) none fun ds => some (.tmp ds)
  | .min => opt' (rdL h d) none minO
  | .max => opt' (rdL h d) none maxO
  | .sorted => opt' (rdL h d) none fun ds => bif' (ordAll ds) (frL (sortD ds) fun ds => some (.tmp ds)) none
  | .abs => match d with
    | .int i => frI (if i < 0 then -i else i) fun i => some (.int i)
    | _ => none
  | .int => match d with
    | .int i => some (.int i)
    | .bl b => bif' b (some (.int 1)) (some (.int 0))
    | _ => none
  | _ => none
def biI (b : Bi) (i j : Int) : Option D := match b with
  | .min2 => bif' (ilt j i) (some (.int j)) (some (.int i))
  | .max2 => bif' (ilt i j) (some (.int j)) (some (.int i))
  | .divmod => bif' (ilt 0 j && ilt j 1073741824) (frI (i / j) fun q => frI (i % j) fun r => some (.tup [.int q, .int r])) none
  | _ => none
def bi2 (b : Bi) (d e : D) : Option D := match d with
  | .int i => match e with
    | .int j => biI b i j
    | _ => none
  | _ => none
def biD (h : Sh) (b : Bi) (ds : List D) : Option D := match ds with
  | [d] => bi1 h b d
  | [d, e] => bi2 b d e
  | _ => none
/-- isinstance of plain data -/
def isT (t : Ty) (d : D) : Bool := match d with
  | .bl _ => match t with
    | .int => true
    | .bool => true
    | _ => false
  | .int _ => decide (t = .int)
  | .str _ => decide (t = .str)
  | .tup _ => decide (t = .tuple)
  | .tmp _ => decide (t = .list)
  | .vls _ => decide (t = .list)
  | _ => false
def isiD (h : Sh) (t : Ty) (d : D) : Option Bool := bif' (plain 8 (derL h d)) (some (isT t (derL h d))) none
/-- the place that an index means -/
def ixP (n : Nat) : Int → Option Nat
  | .ofNat i => bif' (Nat.blt i n) (some i) none
  | .negSucc i => bif' (Nat.blt i n) (some (n - 1 - i)) none
def ixL0 (ds : List D) (b : D) : Option D := match b with
  | .int i => opt' (ixP (lenK ds) i) none fun j => nthK ds j
  | _ => none
/-- .. where the place is there, it is less than how many -/
def ixL (ds : List D) (b : D) : Option D := onI none (fun i => Int.rec (motive := fun _ => Option D) (fun n => opt' (nthK ds n) none some) (fun n => opt' (ixP (lenK ds) (.negSucc n)) none fun j => nthK ds j) i) b
theorem ixL_eq (ds : List D) (b : D) : ixL ds b = ixL0 ds b := by
  cases b with
  | int i =>
    cases i with
    | ofNat n =>
      show opt' (nthK ds n) none some = opt' (bif' (Nat.blt n (lenK ds)) (some n) none) none fun j => nthK ds j
      have e : opt' (nthK ds n) none some = nthK ds n := by cases nthK ds n <;> rfl
      rw [e]
      cases c : Nat.blt n (lenK ds) with
      | true => rfl
      | false =>
        show nthK ds n = none
        rw [nthK_eq]
        refine List.getElem?_eq_none ?_
        rw [lenK_eq] at c
        by_cases z : ds.length ≤ n
        · exact z
        · rw [(by rw [Nat.blt_eq]; omega : Nat.blt n ds.length = true)] at c; cases c
    | negSucc n => rfl
  | _ => rfl
/-- a whole number's place in a dict: one pass -/
def lookT {β : Type} (bad nf : β) (s : D → β) (t : Int → Bool) (ks : List D) : List D → β := List.rec (motive := fun _ => List D → β) (fun _ => nf) (fun k' ks ih ds =>
  List.rec (motive := fun _ => β) (bif' (allB keyOk (k' :: ks)) nf bad) (fun d ds _ => D.rec (motive_1 := fun _ => β) (motive_2 := fun _ => PUnit) (bad) (fun _ => bad) (fun j => Bool.rec (motive := fun _ => β) (ih ds) (bif' (allK ks) (s d) bad) (t j)) (fun _ => ih ds) (fun _ _ => bad) (fun _ _ => bad) (fun _ _ => bad) (fun _ _ _ _ => bad) (fun _ _ _ _ => bad) (fun _ => bad) (fun _ => bad) (fun _ _ _ _ _ => bad) PUnit.unit (fun _ _ _ _ => PUnit.unit) k') ds) ks
def lookI {β : Type} (bad nf : β) (s : D → β) (i : Int) (ks ds : List D) : β := tI i fun t => lookT bad nf s t ks ds
theorem lookT_eq {β : Type} (bad nf : β) (s : D → β) (i : Int) : ∀ ks ds : List D, lookT bad nf s (fun j => ieq j i) ks ds = bif' (allB keyOk ks) (opt' (lookD (.int i) ks ds) nf s) bad
  | [], ds => rfl
  | k' :: ks, [] => rfl
  | k' :: ks, d :: ds => by
    have ih := lookT_eq bad nf s i ks ds
    cases k' with
    | int j =>
      show Bool.rec (motive := fun _ => β) (lookT bad nf s (fun j => ieq j i) ks ds) (bif' (allK ks) (s d) bad) (ieq j i) = bif' (allB keyOk ks) (opt' (bif' (ieq j i) (some d) (lookD (.int i) ks ds)) nf s) bad
      rw [ih, allK_eq]
      cases ieq j i <;> rfl
    | str x => exact ih
    | _ => rfl
theorem lookI_eq {β : Type} (bad nf : β) (s : D → β) (i : Int) (ks ds : List D) : lookI bad nf s i ks ds = bif' (allB keyOk ks) (opt' (lookD (.int i) ks ds) nf s) bad := by
  unfold lookI
  rw [tI_eq, lookT_eq]
def ixK0 (ks ds : List D) (b : D) : Option D := bif' (keysOk b ks) (lookD b ks ds) none
def ixK (ks ds : List D) (b : D) : Option D := match b with
  | .int i => lookI none none some i ks ds
  | b => bif' (keysOk b ks) (lookD b ks ds) none
theorem ixK_eq (ks ds : List D) (b : D) : ixK ks ds b = ixK0 ks ds b := by
  cases b with
  | int i =>
    show lookI none none some i ks ds = bif' (allB keyOk ks) (lookD (.int i) ks ds) none
    rw [lookI_eq]
    cases lookD (.int i) ks ds <;> rfl
  | _ => rfl
def ixD0 (h : Sh) (a b : D) : Option D := opt' (dctOf h a) (opt' (rdQ h a) none fun ds => ixL ds b) fun p => ixK p.1 p.2 b
def ixD (h : Sh) (a b : D) : Option D := match a with
  | .tup ds => ixL ds b
  | a => ixD0 h a b
theorem ixD_eq (h : Sh) (a b : D) : ixD h a b = opt' (dctOf h a) (opt' (rdQ h a) none fun ds => ixL0 ds b) fun p => ixK0 p.1 p.2 b := by
  have e : ixD h a b = ixD0 h a b := by cases a <;> rfl
  rw [e]
  unfold ixD0
  rw [(funext fun ds => ixL_eq ds b : (fun ds => ixL ds b) = fun ds => ixL0 ds b), (funext fun p => ixK_eq p.1 p.2 b : (fun p : List D × List D => ixK p.1 p.2 b) = fun p => ixK0 p.1 p.2 b)]
/-- a slice's bound -/
def cutP (n d : Nat) : Option Int → Nat
  | none => d
  | some (.ofNat i) => bif' (Nat.ble i n) (i) (n)
  | some (.negSucc i) => n - 1 - i
def slT (ds : List D) (i j : Nat) : Option D := bif' (Nat.beq i 0 && Nat.beq j (lenK ds)) (some (.tup ds)) (frL ((ds.drop i).take (j - i)) fun ds => some (.tup ds))
def slL (ds : List D) (i j : Nat) : Option D := frL ((ds.drop i).take (j - i)) fun ds => some (.tmp ds)
def slD (h : Sh) (a : D) (lo hi : Option Int) : Option D := match a with
  | .tup ds => slT ds (cutP (lenK ds) 0 lo) (cutP (lenK ds) (lenK ds) hi)
  | a => opt' (rdL h a) none fun ds => slL ds (cutP (lenK ds) 0 lo) (cutP (lenK ds) (lenK ds) hi)
def revD (h : Sh) : D → Option D
  | .tup ds => frL ds.reverse fun ds => some (.tup ds)
  | d => opt' (lstOf h d) none fun ds => frL ds.reverse fun ds => some (.tmp ds)
/-- the place of the first that is equal -/
def findF (x : D) : List D → Option Nat
  | [] => none
  | y :: ys => bif' (eqP 8 y x) (some 0) (opt' (findF x ys) none fun i => some (Nat.succ i))
/-- methods of lists and dicts: the list is an object of ours -/
def bmL (h : Sh) (n : Nat) (xs : List D) (m : Bm) (ds : List D) : Option (D × Sh) := match m with
  | .append => match ds with
    | [d] => bif' (Nat.blt (lenK xs) 16777216) (frL (xs ++ [(own d h).1]) fun xs => some (.non, (own d h).2.set n (.lst xs))) none
    | _ => none
  | .extend => match ds with
    | [d] => opt' (lstOf h d) none fun ys => bif' (smallL (lenK xs + lenK ys)) (frL (xs ++ ys) fun xs => some (.non, h.set n (.lst xs))) none
    | _ => none
  | .pop => match ds with
    | [] => opt' (nthK xs (lenK xs - 1)) none fun d => frL xs.dropLast fun xs => some (d, h.set n (.lst xs))
    | _ => none
  | .popAt => match ds with
    | [.int i] => opt' (ixP (lenK xs) i) none fun j => opt' (nthK xs j) none fun d => frL (xs.eraseIdx j) fun xs => some (d, h.set n (.lst xs))
    | _ => none
  | .remove => match ds with
    | [d] => bif' (plain 8 d && allB (plain 8) xs) (opt' (findF d xs) none fun j => frL (xs.eraseIdx j) fun xs => some (.non, h.set n (.lst xs))) none
    | _ => none
  | _ => none
def get1F (h : Sh) (ks vs : List D) (k : D) : Option (D × Sh) := match k with
  | .int i => lookI none (some (.non, h)) (fun d => some (d, h)) i ks vs
  | k => bif' (keysOk k ks) (opt' (lookD k ks vs) (some (.non, h)) fun d => some (d, h)) none
def get2F (h : Sh) (ks vs : List D) (k e : D) : Option (D × Sh) := match k with
  | .int i => bif' (isTmp e) none (lookI none (some (e, h)) (fun d => some (d, h)) i ks vs)
  | k => bif' (keysOk k ks && !isTmp e) (opt' (lookD k ks vs) (some (e, h)) fun d => some (d, h)) none
theorem get1_eq (h : Sh) (ks vs : List D) (k : D) : get1F h ks vs k = bif' (keysOk k ks) (opt' (lookD k ks vs) (some (.non, h)) fun d => some (d, h)) none := by
  cases k with
  | int i => exact lookI_eq _ _ _ i ks vs
  | _ => rfl
theorem get2_eq (h : Sh) (ks vs : List D) (k e : D) : get2F h ks vs k e = bif' (keysOk k ks && !isTmp e) (opt' (lookD k ks vs) (some (e, h)) fun d => some (d, h)) none := by
  cases k with
  | int i =>
    show bif' (isTmp e) none (lookI none (some (e, h)) (fun d => some (d, h)) i ks vs) = bif' (allB keyOk ks && !isTmp e) _ none
    rw [lookI_eq]
    cases isTmp e <;> cases allB keyOk ks <;> rfl
  | _ => rfl
def bmG (h : Sh) (ks vs : List D) (m : Bm) (ds : List D) : Option (D × Sh) := match m with
  | .get1 => match ds with
    | [k] => get1F h ks vs k
    | _ => none
  | .get2 => match ds with
    | [k, e] => get2F h ks vs k e
    | _ => none
  | _ => none
def noKdc : D → Bool
  | .kdc _ _ _ => false
  | _ => true
def bmK (m : Bm) (h : Sh) (o : D) : Bool := match m with
  | .get1 => noKdc o && (dctOf h o).isSome
  | .get2 => noKdc o && (dctOf h o).isSome
  | _ => (lstOf h o).isSome
def bmD (h : Sh) (m : Bm) (o : D) (ds : List D) : Option (D × Sh) := match m with
  | .get1 => opt' (dctOf h o) none fun p => bmG h p.1 p.2 .get1 ds
  | .get2 => opt' (dctOf h o) none fun p => bmG h p.1 p.2 .get2 ds
  | m => match o with
    | .obj n => opt' (lstOf h (.obj n)) none fun xs => bmL h n xs m ds
    | _ => none

/-! ### what is walked -/
/-- items that stay; a list of ours from its i-th; the same, counted; two; numbers -/
inductive Wk where
  | lst (xs : List D) | obj (n i : Nat) | enl (i : Nat) (xs : List D) | eno (n i : Nat) | zip (xs ys : List D) | rng (lo c : Int) (n : Nat)
inductive Wr where
  | item (x : D) (w : Wk) | stop | stuck
def stepO (h : Sh) (n i : Nat) : Wr := opt' (rdL h (.obj n)) .stuck fun ds => opt' (nthK ds i) .stop fun x => .item x (.obj n (Nat.succ i))
def stepE (h : Sh) (n i : Nat) : Wr := opt' (rdL h (.obj n)) .stuck fun ds => opt' (nthK ds i) .stop fun x => .item (.tup [.int (.ofNat i), x]) (.eno n (Nat.succ i))
def addK (i j : Int) : Int := Int.rec (motive := fun _ => Int) (fun a => Int.rec (motive := fun _ => Int) (fun b => .ofNat (Nat.add a b)) (fun b => .ofNat a + .negSucc b) j) (fun a => .negSucc a + j) i
theorem addK_eq (i j : Int) : addK i j = i + j := by
  cases i <;> cases j <;> rfl
def stepW (h : Sh) (w : Wk) : Wr := Wk.rec (motive := fun _ => Sh → Wr)
  (fun xs _ => List.rec (motive := fun _ => Wr) .stop (fun x xs _ => .item x (.lst xs)) xs)
  (fun n i h => frN i fun i => stepO h n i)
  (fun i xs _ => frN i fun i => List.rec (motive := fun _ => Wr) .stop (fun x xs _ => .item (.tup [.int (.ofNat i), x]) (.enl (Nat.succ i) xs)) xs)
  (fun n i h => frN i fun i => stepE h n i)
  (fun xs ys _ => List.rec (motive := fun _ => Wr) .stop (fun x xs _ => List.rec (motive := fun _ => Wr) .stop (fun y ys _ => .item (.tup [x, y]) (.zip xs ys)) ys) xs)
  (fun lo c n _ => Nat.rec (motive := fun _ => Wr) .stop (fun n _ => frI lo fun lo => .item (.int lo) (.rng (addK lo c) c n)) n) w h
theorem stepW_rng (h : Sh) (lo c : Int) (n : Nat) : stepW h (.rng lo c n) = Nat.rec (motive := fun _ => Wr) .stop (fun n _ => frI lo fun lo => .item (.int lo) (.rng (lo + c) c n)) n := by
  cases n with
  | zero => rfl
  | succ n =>
    show frI lo (fun lo => Wr.item (.int lo) (.rng (addK lo c) c n)) = frI lo (fun lo => .item (.int lo) (.rng (lo + c) c n))
    rw [frI_eq, frI_eq, addK_eq]
/-- by value, or ours -/
def wkSeq (h : Sh) : D → Option Wk
  | .tup xs => some (.lst xs)
  | .tmp xs => some (.lst xs)
  | .vls xs => some (.lst xs)
  | .obj n => opt' (rdL h (.obj n)) none fun _ => some (.obj n 0)
  | _ => none
def wkEnum (h : Sh) : D → Option Wk
  | .tup xs => some (.enl 0 xs)
  | .tmp xs => some (.enl 0 xs)
  | .vls xs => some (.enl 0 xs)
  | .obj n => opt' (rdL h (.obj n)) none fun _ => some (.eno n 0)
  | _ => none
def wkZip (a b : D) : Option Wk := match a with
  | .tup xs => match b with
    | .tup ys => some (.zip xs ys)
    | _ => none
  | .tmp xs => match b with
    | .tmp ys => some (.zip xs ys)
    | .vls ys => some (.zip xs ys)
    | _ => none
  | .vls xs => match b with
    | .tmp ys => some (.zip xs ys)
    | .vls ys => some (.zip xs ys)
    | _ => none
  | _ => none
/-- how many steps -/
def rngN (lo hi c : Int) : Option Nat := match c with
  | .negSucc 0 => some (lo - hi).toNat
  | _ => none
def smallI (i : Int) : Bool := ile (-4611686018427387904) i && ilt i 4611686018427387904
def rngW (ds : List D) : Option Wk := match ds with
  | [.int j] => bif' (smallI j) (frN j.toNat fun n => some (.rng 0 1 n)) none
  | [.int i, .int j] => bif' (smallI i && smallI j) (frN (j - i).toNat fun n => some (.rng i 1 n)) none
  | [.int i, .int j, .int c] => bif' (smallI i && smallI j) (opt' (rngN i j c) none fun n => frN n fun n => some (.rng i c n)) none
  | _ => none
def rngL (lo c : Int) : Nat → List D
  | 0 => []
  | n + 1 => frI lo fun lo => .int lo :: rngL (lo + c) c n

/-! ### the tables -/
structure FD where
  np : Nat
  /-- the names behind the parameters, unset -/
  pad : List (Option D)
  body : T
inductive Bt (α : Type) where
  | e | n (x : Option α) (l r : Bt α)
def bit0 (n : Nat) : Bool := Nat.beq (n % 2) 0
/-- by the digits, k of them -/
def Bt.get {α : Type} (k : Nat) (t : Bt α) (i : Nat) : Option α := match k with
  | 0 => none
  | k + 1 => match t with
    | .e => none
    | .n x l r => bif' (Nat.beq i 0) x (bif' (bit0 i) (l.get k (i / 2)) (r.get k (i / 2)))
structure Tb where
  f : Bt FD
  /-- a class's method's def -/
  m : Nat → Nat → Option Nat
  /-- a class's attributes that stand in no class -/
  a : Nat → Nat → Bool
def argsE {β : Type} (z : β) (pad : List (Option D)) (ds : List D) : Nat → (En → β) → β := List.rec (motive := fun _ => Nat → (En → β) → β)
  (fun n k => bif' (Nat.beq n 0) (k pad) z)
  (fun d _ ih n k => bif' (isTmp d) z (Nat.rec (motive := fun _ => β) z (fun m _ => ih m fun en => k (some d :: en)) n)) ds
def wipeE (en : En) : List Nat → En
  | [] => en
  | v :: vs => (wipeE en vs).set v none
def lookF (f : Nat) : List Nat → List D → Option D
  | g :: fs, d :: ds => bif' (Nat.beq g f) (some d) (lookF f fs ds)
  | _, _ => none
def putFd (f : Nat) (d : D) : List Nat → List D → List Nat × List D
  | g :: fs, x :: ds => bif' (Nat.beq g f) (g :: fs, d :: ds) (g :: (putFd f d fs ds).1, x :: (putFd f d fs ds).2)
  | _, _ => ([f], [d])

/-- calls: how long loops may run, a def's call, a closure's -/
structure Cl where
  n : Nat
  f : Nat → List D → Sh → Rs D
  l : Clo → List D → Sh → Rs D
abbrev EF := Cl → En → Sh → Rs D
abbrev TF := Cl → En → Sh → Rs Bool
abbrev AF := Cl → En → Sh → Rs (List D)
abbrev WF := Cl → En → Sh → Rs Wk
abbrev GF := Cl → D → En → Sh → Rs En
abbrev LF := Cl → List D → En → Sh → Rs En
abbrev SF := Cl → En → Sh → Rst
/-- what a term is, as each kind -/
structure Co where
  e : EF
  t : TF
  a : AF
  w : WF
  g : GF
  gs : LF
  s : SF
def noE : EF := fun _ _ _ => .stuck
def noT : TF := fun _ _ _ => .stuck
def noA : AF := fun _ _ _ => .stuck
def noW : WF := fun _ _ _ => .stuck
def noG : GF := fun _ _ _ _ => .stuck
def noL : LF := fun _ _ _ _ => .stuck
def noS : SF := fun _ _ _ => .stuck
def teVal (a : EF) : TF := fun c en h => (a c en h).bind fun x h => .opt (truD h x) h
def coE (e : EF) : Co := ⟨e, teVal e, noA, noW, noG, noL, noS⟩
def coS (s : SF) : Co := ⟨noE, noT, noA, noW, noG, noL, s⟩
def coG (g : GF) : Co := ⟨noE, noT, noA, noW, g, noL, noS⟩
def coW (w : WF) : Co := ⟨noE, noT, noA, w, noG, noL, noS⟩
def coN : Co := ⟨noE, noT, noA, noW, noG, noL, noS⟩
section
variable (B : Tb)
/-! #### expressions -/
def exSlot (i : Nat) : EF := fun _ en h => List.rec (motive := fun _ => Nat → Rs D) (fun _ => .stuck) (fun x _ ih n => Nat.rec (motive := fun _ => Rs D) (Option.rec (motive := fun _ => Rs D) .stuck (fun d => .ok d h) x) (fun m _ => ih m) n) en i
theorem exSlot_eq (i : Nat) (c : Cl) (h : Sh) : ∀ en : En, exSlot i c en h = opt' (nthK en i) .stuck fun o => opt' o .stuck fun d => .ok d h
  | [] => rfl
  | x :: en => match i with
    | 0 => rfl
    | i + 1 => exSlot_eq i c h en
def exCst (d : D) : EF := fun _ _ h => .ok d h
def exTup (as : AF) : EF := fun c en h => (as c en h).bind fun ds h => bif' (smallL (lenK ds) && noTmps ds) (.ok (.tup ds) h) .stuck
def exLst (as : AF) : EF := fun c en h => (as c en h).bind fun ds h => bif' (smallL (lenK ds) && noTmps ds) (.ok (.tmp ds) h) .stuck
def exDlit (ks vs : AF) : EF := fun c en h => (ks c en h).bind fun xs h => (vs c en h).bind fun ys h => match xs with
  | [] => match ys with
    | [] => .ok (.tmd [] []) h
    | _ => .stuck
  | [x] => match ys with
    | [y] => bif' (keyOk x && !isTmp y) (.ok (.tmd [x] [y]) h) .stuck
    | _ => .stuck
  | _ => .stuck
def binR (o : Bop) (x y : D) (h : Sh) : Rs D := onI (.opt (binD h o x y) h) (fun i => onI .stuck (fun j => Bop.rec (motive := fun _ => Rs D) (frI (addK i j) fun k => .ok (.int k) h) (frI (i - j) fun k => .ok (.int k) h) (.opt (binI .mul i (.int j)) h) (.opt (binI .fdiv i (.int j)) h) (.opt (binI .mod i (.int j)) h) (.opt (binI .pow i (.int j)) h) o) y) x
theorem binR_eq (o : Bop) (x y : D) (h : Sh) : binR o x y h = .opt (binD h o x y) h := by
  cases x with
  | int i =>
    cases y with
    | int j =>
      cases o with
      | add =>
        have e1 : binR .add (.int i) (.int j) h = frI (addK i j) fun k => .ok (.int k) h := rfl
        have e2 : binD h .add (.int i) (.int j) = frI (i + j) fun k => some (.int k) := rfl
        rw [e1, e2, frI_eq, frI_eq, addK_eq]
        rfl
      | sub =>
        have e1 : binR .sub (.int i) (.int j) h = frI (i - j) fun k => .ok (.int k) h := rfl
        have e2 : binD h .sub (.int i) (.int j) = frI (i - j) fun k => some (.int k) := rfl
        rw [e1, e2, frI_eq, frI_eq]
        rfl
      | mul => rfl
      | fdiv => rfl
      | mod => rfl
      | pow => rfl
    | _ => rfl
  | _ => rfl
def exBin (o : Bop) (a b : EF) : EF := fun c en h => (a c en h).bind fun x h => (b c en h).bind fun y h => binR o x y h
def exNeg (a : EF) : EF := fun c en h => (a c en h).bind fun x h => match x with
  | .int i => frI (-i) fun i => .ok (.int i) h
  | _ => .stuck
def teCmp (o : Cop) (a b : EF) : TF := fun c en h => (a c en h).bind fun x h => (b c en h).bind fun y h => .opt (cmpD h o x y) h
def teChain (o p : Cop) (a b c : EF) : TF := fun k en h => (a k en h).bind fun x h => (b k en h).bind fun y h => opt' (cmpD h o x y) .stuck fun q => bif' q ((c k en h).bind fun z h => .opt (cmpD h p y z) h) (.ok false h)
def blE (t : TF) : EF := fun c en h => (t c en h).map .bl
def coT (t : TF) : Co := ⟨blE t, t, noA, noW, noG, noL, noS⟩
/-- and, or as values: of bools -/
def exAnd (a b : EF) : EF := fun c en h => (a c en h).bind fun x h => match x with
  | .bl q => bif' q (b c en h) (.ok (.bl false) h)
  | _ => .stuck
def exOr (a b : EF) : EF := fun c en h => (a c en h).bind fun x h => match x with
  | .bl q => bif' q (.ok (.bl true) h) (b c en h)
  | _ => .stuck
def exNot (a : EF) : EF := fun c en h => (a c en h).bind fun x h => match x with
  | .bl b => .ok (.bl (!b)) h
  | _ => .stuck
def exIf (t : TF) (a b : EF) : EF := fun c en h => (t c en h).bind fun x h => bif' x (a c en h) (b c en h)
def exCall (f : Nat) (as : AF) : EF := fun c en h => (as c en h).bind fun ds h => c.f f ds h
def exMake (k f : Nat) (as : AF) : EF := fun c en h => (as c en h).bind fun ds h => (c.f f (.obj h.n :: ds) (h.push (.ins k [] []))).bind fun d h' => match d with
  | .non => .ok (.obj h.n) h'
  | _ => .stuck
def exMeth (m : Nat) (o : EF) (as : AF) : EF := fun c en h => (o c en h).bind fun d h => match d with
  | .obj n => match h.get n with
    | some (.ins k _ _) => opt' (B.m k m) .stuck fun f => (as c en h).bind fun ds h => c.f f (.obj n :: ds) h
    | _ => .stuck
  | _ => .stuck
def lookC (n : Nat) (l : List (Nat × Clo)) : Option Clo := List.rec (motive := fun _ => Option Clo) none (fun x _ ih => bif' (Nat.beq x.1 n) (some x.2) ih) l
def exCallv (i : Nat) (as : AF) : EF := fun c en h => match nthK en i with
  | some (some (.gl f)) => opt' (B.f.get 12 f) .stuck fun _ => (as c en h).bind fun ds h => c.f f ds h
  | some (some (.obj n)) => opt' (lookC n h.c) .stuck fun _ => (as c en h).bind fun ds h => opt' (lookC n h.c) .stuck fun x => c.l x ds h
  | _ => .stuck
def getAll (en : En) : List Nat → Option (List D)
  | [] => some []
  | i :: is => opt' (nthK en i) none fun o => opt' o none fun d => opt' (getAll en is) none fun ds => some (d :: ds)
def exCallc (f : Nat) (as : AF) (np ns : Nat) (b : T) (caps : List Nat) : EF := fun c en h => (as c en h).bind fun ds h => opt' (getAll en caps) .stuck fun cs => bif' (noTmps cs) ((c.f f (ds ++ [.obj h.n]) ((h.push .dead).withC ((h.n, ⟨np, ns, b, cs⟩) :: h.c))).wC h.c) .stuck
def exBi (b : Bi) (as : AF) : EF := fun c en h => (as c en h).bind fun ds h => .opt (biD h b ds) h
def rgB (b : Bi) (w : Wk) : Option D := match w with
  | .rng lo k n => bif' (smallL n) (match b with
    | .tuple => frL (rngL lo k n) fun ds => some (.tup ds)
    | .list => frL (rngL lo k n) fun ds => some (.tmp ds)
    | _ => none) none
  | _ => none
def exBiR (b : Bi) (as : AF) : EF := fun c en h => (as c en h).bind fun ds h => .opt (opt' (rngW ds) none fun w => rgB b w) h
def exIsi (t : Ty) (a : EF) : EF := fun c en h => (a c en h).bind fun x h => opt' (isiD h t x) .stuck fun b => .ok (.bl b) h
def exBm (m : Bm) (o : EF) (as : AF) : EF := fun c en h => (o c en h).bind fun x h => bif' (bmK m h x) ((as c en h).bind fun ds h => opt' (bmD h m x ds) .stuck fun p => .ok p.1 p.2) .stuck
def exIx (a b : EF) : EF := fun c en h => (a c en h).bind fun x h => (b c en h).bind fun y h => .opt (ixD h x y) h
/-- a slice's part: none where the row is empty -/
def partI (ds : List D) : Option (Option Int) := match ds with
  | [] => some none
  | [.int i] => some (some i)
  | _ => none
def exSlc (a : EF) (lo hi : AF) : EF := fun c en h => (a c en h).bind fun x h => (lo c en h).bind fun i h => opt' (partI i) .stuck fun i => (hi c en h).bind fun j h => opt' (partI j) .stuck fun j => .opt (slD h x i j) h
def exRev (a : EF) : EF := fun c en h => (a c en h).bind fun x h => .opt (revD h x) h
def exFld (o : EF) (f : Nat) : EF := fun c en h => (o c en h).bind fun x h => match x with
  | .obj n => match h.get n with
    | some (.ins k fs ds) => bif' (B.a k f) (.opt (lookF f fs ds) h) .stuck
    | _ => .stuck
  | _ => .stuck
/-- a comprehension's turns -/
def lcK (g : GF) (t : TF) (e : EF) (c : Cl) (en : En) (n : Nat) : Wk → List D → Sh → Rs D := Nat.rec (motive := fun _ => Wk → List D → Sh → Rs D) (fun _ _ _ => .stuck)
  (fun _ ih w acc h => Wr.rec (motive := fun _ => Rs D)
    (fun x w => Rs.rec (motive := fun _ => Rs D)
      (fun en' h => Rs.rec (motive := fun _ => Rs D)
        (fun q h => bif' q (Rs.rec (motive := fun _ => Rs D) (fun d h => ih w (fz d :: acc) h) (fun _ _ => .stuck) .stuck (e c en' h)) (ih w acc h))
        (fun _ _ => .stuck) .stuck (t c en' h))
      (fun _ _ => .stuck) .stuck (g c x en h))
    (frL acc.reverse fun ds => bif' (smallL (lenK ds)) (.ok (.tmp ds) h) .stuck) .stuck (stepW h w)) n
def exLc (ow : List Nat) (g : GF) (it : WF) (t : TF) (e : EF) : EF := fun c en h => (it c en h).bind fun w h => frL (wipeE en ow) fun en => lcK g t e c en c.n w [] h
def dcK (g : GF) (t : TF) (k e : EF) (c : Cl) (en : En) (n : Nat) : Wk → List D → List D → Sh → Rs D := Nat.rec (motive := fun _ => Wk → List D → List D → Sh → Rs D) (fun _ _ _ _ => .stuck)
  (fun _ ih w ks vs h => Wr.rec (motive := fun _ => Rs D)
    (fun x w => Rs.rec (motive := fun _ => Rs D)
      (fun en' h => Rs.rec (motive := fun _ => Rs D)
        (fun q h => bif' q (Rs.rec (motive := fun _ => Rs D) (fun y h => Rs.rec (motive := fun _ => Rs D)
            (fun d h => bif' (keysOkP y ks && (Nat.blt (lenK ks) 16777216 && !isTmp d)) (ih w (putD y d ks vs).1 (putD y d ks vs).2 h) .stuck)
            (fun _ _ => .stuck) .stuck (e c en' h)) (fun _ _ => .stuck) .stuck (k c en' h)) (ih w ks vs h))
        (fun _ _ => .stuck) .stuck (t c en' h))
      (fun _ _ => .stuck) .stuck (g c x en h))
    (.ok (.tmd ks vs) h) .stuck (stepW h w)) n
def exDc (ow : List Nat) (g : GF) (it : WF) (t : TF) (k e : EF) : EF := fun c en h => (it c en h).bind fun w h => frL (wipeE en ow) fun en => dcK g t k e c en c.n w [] [] h
/-! #### tests -/
def teNot (a : TF) : TF := fun c en h => (a c en h).map fun b => bif' b false true
def teAnd (a b : TF) : TF := fun c en h => (a c en h).bind fun x h => bif' x (b c en h) (.ok false h)
def teOr (a b : TF) : TF := fun c en h => (a c en h).bind fun x h => bif' x (.ok true h) (b c en h)
/-! #### rows: raw, by value, kept -/
def argD {α : Type} (k : Nat) (d : D) (h : Sh) (f : D → Sh → α) : α := Nat.rec (motive := fun _ => α) (f d h) (fun m _ => Nat.rec (motive := fun _ => α) (f (fz d) h) (fun _ _ => f (own d h).1 (own d h).2) m) k
def arNil : AF := fun _ _ h => .ok [] h
def arCons (k : Nat) (a : EF) (b : AF) : AF := fun c en h => (a c en h).bind fun d h => argD k d h fun d h => (b c en h).map fun ds => d :: ds
/-! #### walks -/
def waSeq (a : EF) : WF := fun c en h => (a c en h).bind fun d h => .opt (wkSeq h d) h
def waEnum (a : EF) : WF := fun c en h => (a c en h).bind fun d h => .opt (wkEnum h d) h
def waZip (a b : EF) : WF := fun c en h => (a c en h).bind fun d h => (b c en h).bind fun d' h => .opt (wkZip d d') h
def waRng (as : AF) : WF := fun c en h => (as c en h).bind fun ds h => .opt (rngW ds) h
/-! #### targets -/
def putO (h : Sh) (n : Nat) (i d : D) (ks vs : List D) : Option Sh := match i with
  | .int i => bif' (Nat.blt (lenK ks) 16777216) (tI i fun t => putC none t (.int i) d ks vs fun ks vs => some (h.set n (.dct ks vs))) none
  | i => bif' (keysOkP i ks && Nat.blt (lenK ks) 16777216) (some (h.set n (.dct (putD i d ks vs).1 (putD i d ks vs).2))) none
theorem putO_eq (h : Sh) (n : Nat) (i d : D) (ks vs : List D) : putO h n i d ks vs = bif' (keysOkP i ks && Nat.blt (lenK ks) 16777216) (some (h.set n (.dct (putD i d ks vs).1 (putD i d ks vs).2))) none := by
  cases i with
  | int i =>
    show bif' (Nat.blt (lenK ks) 16777216) (tI i fun t => putC none t (.int i) d ks vs fun ks vs => some (h.set n (.dct ks vs))) none = bif' (allB keyOk ks && Nat.blt (lenK ks) 16777216) _ none
    rw [tI_eq, putC_eq]
    unfold putD
    rw [frL_eq, frL_eq, frL_eq]
    cases Nat.blt (lenK ks) 16777216 <;> cases allB keyOk ks <;> cases hasD (.int i) ks <;> rfl
  | _ => rfl
def setItO (h : Sh) (n : Nat) (i d : D) : Option Sh := match h.get n with
  | some (.lst xs) => match i with
    | .int i => opt' (ixP (lenK xs) i) none fun j => setK none xs j d fun xs => some (h.set n (.lst xs))
    | _ => none
  | some (.dct ks vs) => putO h n i d ks vs
  | _ => none
def setItD (h : Sh) (o i d : D) : Option Sh := match o with
  | .obj n => setItO h n i d
  | _ => none
def setFldO (h : Sh) (n f : Nat) (d : D) : Option Sh := match h.get n with
  | some (.ins k fs ds) => bif' (B.a k f && Nat.blt (lenK fs) 1000) (some (h.set n (.ins k (putFd f d fs ds).1 (putFd f d fs ds).2))) none
  | _ => none
def setFldD (h : Sh) (o : D) (f : Nat) (d : D) : Option Sh := match o with
  | .obj n => setFldO B h n f d
  | _ => none
def taName (i : Nat) (keep : Bool) : GF := fun _ d en h => bif' keep (setK .stuck en i (some (own d h).1) fun en => .ok en (own d h).2) (setK .stuck en i (some (fz d)) fun en => .ok en h)
def taTup (n : Nat) (gs : LF) : GF := fun c d en h => match d with
  | .tup ds => bif' (Nat.beq (lenK ds) n) (gs c ds en h) .stuck
  | _ => .stuck
def taSub (o i : EF) : GF := fun c d en h => bif' (isTmp d) .stuck ((o c en h).bind fun x h => (i c en h).bind fun y h => opt' (setItD h x y d) .stuck fun h => .ok en h)
def taFld (o : EF) (f : Nat) : GF := fun c d en h => bif' (isTmp d) .stuck ((o c en h).bind fun x h => opt' (setFldD B h x f d) .stuck fun h => .ok en h)
/-- nothing is raised here -/
def noX {α : Type} (r : Rs α) : Rs α := Rs.rec (motive := fun _ => Rs α) .ok (fun _ _ => .stuck) .stuck r
def tsNil : LF := fun _ ds en h => match ds with
  | [] => .ok en h
  | _ => .stuck
def tsCons (g : GF) (gs : LF) : LF := fun c ds en h => match ds with
  | d :: ds => (g c d en h).bind fun en h => noX (gs c ds en h)
  | [] => .stuck
/-! #### statements -/
def suSeq (a b : SF) : SF := fun c en h => Rst.rec (motive := fun _ => Rst) (fun en h => b c en h) .rt .bk .ct .exc .stuck (a c en h)
def suExpr (e : EF) : SF := fun c en h => (e c en h).thn en fun _ h => .nx en h
/-- stored as it is (a name), or kept -/
def suAsg (raw : Bool) (g : GF) (e : EF) : SF := fun c en h => (e c en h).thn en fun d h => bif' raw ((g c d en h).thn en fun en h => .nx en h) ((g c (own d h).1 en (own d h).2).thn en fun en h => .nx en h)
def setAll (en : En) : List Nat → List D → Option En
  | [], [] => some en
  | i :: is, d :: ds => setAll (en.set i (some d)) is ds
  | _, _ => none
def suPar (is : List Nat) (es : AF) : SF := fun c en h => (es c en h).thn en fun ds h => bif' (noTmps ds) (opt' (setAll en is ds) .stuck fun en => frL en fun en => .nx en h) .stuck
def augI (o : Bop) (a b : Int) : Option Int := match o with
  | .add => some (addK a b)
  | .sub => some (a - b)
  | _ => none
def augR (o : Bop) (x y : D) : Option Int := match x with
  | .int a => match y with
    | .int b => augI o a b
    | _ => none
  | _ => none
def suAug (i : Nat) (o : Bop) (e : EF) : SF := fun c en h => opt' (nthK en i) .stuck fun q => opt' q .stuck fun x => (e c en h).thn en fun y h => opt' (augR o x y) .stuck fun k => frI k fun k => setK .stuck en i (some (.int k)) fun en => .nx en h
def suAugS (a i : EF) (o : Bop) (e : EF) : SF := fun c en h => (a c en h).thn en fun x h => (i c en h).thn en fun y h => opt' (ixD h x y) .stuck fun u => (e c en h).thn en fun z h => opt' (augR o u z) .stuck fun k => frI k fun k => opt' (setItD h x y (.int k)) .stuck fun h => .nx en h
def suIf (t : TF) (a b : SF) : SF := fun c en h => (t c en h).thn en fun x h => bif' x (a c en h) (b c en h)
/-- a loop's turns -/
def forK (g : GF) (b : SF) (c : Cl) (n : Nat) : Wk → En → Sh → Rst := Nat.rec (motive := fun _ => Wk → En → Sh → Rst) (fun _ _ _ => .stuck)
  (fun _ ih w en h => Wr.rec (motive := fun _ => Rst)
    (fun x w => (g c x en h).thn en fun en h => Rst.rec (motive := fun _ => Rst) (fun en h => ih w en h) .rt .nx (fun en h => ih w en h) .exc .stuck (b c en h))
    (.nx en h) .stuck (stepW h w)) n
def suFor (g : GF) (it : WF) (b : SF) : SF := fun c en h => (it c en h).thn en fun w h => forK g b c c.n w en h
def whileK (t : TF) (b : SF) (c : Cl) (n : Nat) : En → Sh → Rst := Nat.rec (motive := fun _ => En → Sh → Rst) (fun _ _ => .stuck)
  (fun _ ih en h => (t c en h).thn en fun x h => bif' x (Rst.rec (motive := fun _ => Rst) (fun en h => ih en h) .rt .nx (fun en h => ih en h) .exc .stuck (b c en h)) (.nx en h)) n
def suWhile (t : TF) (b : SF) : SF := fun c en h => whileK t b c c.n en h
def suRet (e : EF) : SF := fun c en h => (e c en h).thn en fun d h => .rt d h
def suNx : SF := fun _ en h => .nx en h
def isNm (t : T) : Bool := match t with
  | .gname _ _ => true
  | _ => false
/-- slots, taken apart at once -/
def slN : Nat → EF
  | 0 => fun _ en h => List.rec (motive := fun _ => Rs D) .stuck (fun x _ _ => Option.rec (motive := fun _ => Rs D) .stuck (fun d => .ok d h) x) en
  | k + 1 => fun c en h => List.rec (motive := fun _ => Rs D) .stuck (fun _ en _ => slN k c en h) en
theorem slN_eq : ∀ k : Nat, slN k = exSlot k
  | 0 => by funext c en h; cases en <;> rfl
  | k + 1 => by
    have ih := slN_eq k
    funext c en h
    cases en with
    | nil => rfl
    | cons x en => show slN k c en h = exSlot k c en h; rw [ih]
def stN {β : Type} : Nat → β → En → Option D → (En → β) → β
  | 0 => fun z en y k => List.rec (motive := fun _ => β) z (fun _ en _ => k (y :: en)) en
  | n + 1 => fun z en y k => List.rec (motive := fun _ => β) z (fun x en _ => stN n z en y fun en => k (x :: en)) en
theorem stN_eq {β : Type} (z : β) (y : Option D) : ∀ (n : Nat) (en : En) (k : En → β), stN n z en y k = setK z en n y k
  | 0, en, k => by cases en <;> rfl
  | n + 1, en, k => by
    cases en with
    | nil => rfl
    | cons x en => exact stN_eq z y n en fun en => k (x :: en)
def sl0 : EF := fun _ en h => List.rec (motive := fun _ => Rs D) .stuck (fun x _ _ => Option.rec (motive := fun _ => Rs D) .stuck (fun d => .ok d h) x) en
def sl1 : EF := fun _ en h => List.rec (motive := fun _ => Rs D) .stuck (fun _ en _ => List.rec (motive := fun _ => Rs D) .stuck (fun x _ _ => Option.rec (motive := fun _ => Rs D) .stuck (fun d => .ok d h) x) en) en
def sl2 : EF := fun _ en h => List.rec (motive := fun _ => Rs D) .stuck (fun _ en _ => List.rec (motive := fun _ => Rs D) .stuck (fun _ en _ => List.rec (motive := fun _ => Rs D) .stuck (fun x _ _ => Option.rec (motive := fun _ => Rs D) .stuck (fun d => .ok d h) x) en) en) en
def sl3 : EF := fun _ en h => List.rec (motive := fun _ => Rs D) .stuck (fun _ en _ => List.rec (motive := fun _ => Rs D) .stuck (fun _ en _ => List.rec (motive := fun _ => Rs D) .stuck (fun _ en _ => List.rec (motive := fun _ => Rs D) .stuck (fun x _ _ => Option.rec (motive := fun _ => Rs D) .stuck (fun d => .ok d h) x) en) en) en) en
def sl4 : EF := fun _ en h => List.rec (motive := fun _ => Rs D) .stuck (fun _ en _ => List.rec (motive := fun _ => Rs D) .stuck (fun _ en _ => List.rec (motive := fun _ => Rs D) .stuck (fun _ en _ => List.rec (motive := fun _ => Rs D) .stuck (fun _ en _ => List.rec (motive := fun _ => Rs D) .stuck (fun x _ _ => Option.rec (motive := fun _ => Rs D) .stuck (fun d => .ok d h) x) en) en) en) en) en
def sl5 : EF := fun _ en h => List.rec (motive := fun _ => Rs D) .stuck (fun _ en _ => List.rec (motive := fun _ => Rs D) .stuck (fun _ en _ => List.rec (motive := fun _ => Rs D) .stuck (fun _ en _ => List.rec (motive := fun _ => Rs D) .stuck (fun _ en _ => List.rec (motive := fun _ => Rs D) .stuck (fun _ en _ => List.rec (motive := fun _ => Rs D) .stuck (fun x _ _ => Option.rec (motive := fun _ => Rs D) .stuck (fun d => .ok d h) x) en) en) en) en) en) en
def sl6 : EF := fun _ en h => List.rec (motive := fun _ => Rs D) .stuck (fun _ en _ => List.rec (motive := fun _ => Rs D) .stuck (fun _ en _ => List.rec (motive := fun _ => Rs D) .stuck (fun _ en _ => List.rec (motive := fun _ => Rs D) .stuck (fun _ en _ => List.rec (motive := fun _ => Rs D) .stuck (fun _ en _ => List.rec (motive := fun _ => Rs D) .stuck (fun _ en _ => List.rec (motive := fun _ => Rs D) .stuck (fun x _ _ => Option.rec (motive := fun _ => Rs D) .stuck (fun d => .ok d h) x) en) en) en) en) en) en) en
def sl7 : EF := fun _ en h => List.rec (motive := fun _ => Rs D) .stuck (fun _ en _ => List.rec (motive := fun _ => Rs D) .stuck (fun _ en _ => List.rec (motive := fun _ => Rs D) .stuck (fun _ en _ => List.rec (motive := fun _ => Rs D) .stuck (fun _ en _ => List.rec (motive := fun _ => Rs D) .stuck (fun _ en _ => List.rec (motive := fun _ => Rs D) .stuck (fun _ en _ => List.rec (motive := fun _ => Rs D) .stuck (fun _ en _ => List.rec (motive := fun _ => Rs D) .stuck (fun x _ _ => Option.rec (motive := fun _ => Rs D) .stuck (fun d => .ok d h) x) en) en) en) en) en) en) en) en
def sl8 : EF := fun _ en h => List.rec (motive := fun _ => Rs D) .stuck (fun _ en _ => List.rec (motive := fun _ => Rs D) .stuck (fun _ en _ => List.rec (motive := fun _ => Rs D) .stuck (fun _ en _ => List.rec (motive := fun _ => Rs D) .stuck (fun _ en _ => List.rec (motive := fun _ => Rs D) .stuck (fun _ en _ => List.rec (motive := fun _ => Rs D) .stuck (fun _ en _ => List.rec (motive := fun _ => Rs D) .stuck (fun _ en _ => List.rec (motive := fun _ => Rs D) .stuck (fun _ en _ => List.rec (motive := fun _ => Rs D) .stuck (fun x _ _ => Option.rec (motive := fun _ => Rs D) .stuck (fun d => .ok d h) x) en) en) en) en) en) en) en) en) en
def sl9 : EF := fun _ en h => List.rec (motive := fun _ => Rs D) .stuck (fun _ en _ => List.rec (motive := fun _ => Rs D) .stuck (fun _ en _ => List.rec (motive := fun _ => Rs D) .stuck (fun _ en _ => List.rec (motive := fun _ => Rs D) .stuck (fun _ en _ => List.rec (motive := fun _ => Rs D) .stuck (fun _ en _ => List.rec (motive := fun _ => Rs D) .stuck (fun _ en _ => List.rec (motive := fun _ => Rs D) .stuck (fun _ en _ => List.rec (motive := fun _ => Rs D) .stuck (fun _ en _ => List.rec (motive := fun _ => Rs D) .stuck (fun _ en _ => List.rec (motive := fun _ => Rs D) .stuck (fun x _ _ => Option.rec (motive := fun _ => Rs D) .stuck (fun d => .ok d h) x) en) en) en) en) en) en) en) en) en) en
def sl10 : EF := fun _ en h => List.rec (motive := fun _ => Rs D) .stuck (fun _ en _ => List.rec (motive := fun _ => Rs D) .stuck (fun _ en _ => List.rec (motive := fun _ => Rs D) .stuck (fun _ en _ => List.rec (motive := fun _ => Rs D) .stuck (fun _ en _ => List.rec (motive := fun _ => Rs D) .stuck (fun _ en _ => List.rec (motive := fun _ => Rs D) .stuck (fun _ en _ => List.rec (motive := fun _ => Rs D) .stuck (fun _ en _ => List.rec (motive := fun _ => Rs D) .stuck (fun _ en _ => List.rec (motive := fun _ => Rs D) .stuck (fun _ en _ => List.rec (motive := fun _ => Rs D) .stuck (fun _ en _ => List.rec (motive := fun _ => Rs D) .stuck (fun x _ _ => Option.rec (motive := fun _ => Rs D) .stuck (fun d => .ok d h) x) en) en) en) en) en) en) en) en) en) en) en
def sl11 : EF := fun _ en h => List.rec (motive := fun _ => Rs D) .stuck (fun _ en _ => List.rec (motive := fun _ => Rs D) .stuck (fun _ en _ => List.rec (motive := fun _ => Rs D) .stuck (fun _ en _ => List.rec (motive := fun _ => Rs D) .stuck (fun _ en _ => List.rec (motive := fun _ => Rs D) .stuck (fun _ en _ => List.rec (motive := fun _ => Rs D) .stuck (fun _ en _ => List.rec (motive := fun _ => Rs D) .stuck (fun _ en _ => List.rec (motive := fun _ => Rs D) .stuck (fun _ en _ => List.rec (motive := fun _ => Rs D) .stuck (fun _ en _ => List.rec (motive := fun _ => Rs D) .stuck (fun _ en _ => List.rec (motive := fun _ => Rs D) .stuck (fun _ en _ => List.rec (motive := fun _ => Rs D) .stuck (fun x _ _ => Option.rec (motive := fun _ => Rs D) .stuck (fun d => .ok d h) x) en) en) en) en) en) en) en) en) en) en) en) en
def sl12 : EF := fun _ en h => List.rec (motive := fun _ => Rs D) .stuck (fun _ en _ => List.rec (motive := fun _ => Rs D) .stuck (fun _ en _ => List.rec (motive := fun _ => Rs D) .stuck (fun _ en _ => List.rec (motive := fun _ => Rs D) .stuck (fun _ en _ => List.rec (motive := fun _ => Rs D) .stuck (fun _ en _ => List.rec (motive := fun _ => Rs D) .stuck (fun _ en _ => List.rec (motive := fun _ => Rs D) .stuck (fun _ en _ => List.rec (motive := fun _ => Rs D) .stuck (fun _ en _ => List.rec (motive := fun _ => Rs D) .stuck (fun _ en _ => List.rec (motive := fun _ => Rs D) .stuck (fun _ en _ => List.rec (motive := fun _ => Rs D) .stuck (fun _ en _ => List.rec (motive := fun _ => Rs D) .stuck (fun _ en _ => List.rec (motive := fun _ => Rs D) .stuck (fun x _ _ => Option.rec (motive := fun _ => Rs D) .stuck (fun d => .ok d h) x) en) en) en) en) en) en) en) en) en) en) en) en) en
def sl13 : EF := fun _ en h => List.rec (motive := fun _ => Rs D) .stuck (fun _ en _ => List.rec (motive := fun _ => Rs D) .stuck (fun _ en _ => List.rec (motive := fun _ => Rs D) .stuck (fun _ en _ => List.rec (motive := fun _ => Rs D) .stuck (fun _ en _ => List.rec (motive := fun _ => Rs D) .stuck (fun _ en _ => List.rec (motive := fun _ => Rs D) .stuck (fun _ en _ => List.rec (motive := fun _ => Rs D) .stuck (fun _ en _ => List.rec (motive := fun _ => Rs D) .stuck (fun _ en _ => List.rec (motive := fun _ => Rs D) .stuck (fun _ en _ => List.rec (motive := fun _ => Rs D) .stuck (fun _ en _ => List.rec (motive := fun _ => Rs D) .stuck (fun _ en _ => List.rec (motive := fun _ => Rs D) .stuck (fun _ en _ => List.rec (motive := fun _ => Rs D) .stuck (fun _ en _ => List.rec (motive := fun _ => Rs D) .stuck (fun x _ _ => Option.rec (motive := fun _ => Rs D) .stuck (fun d => .ok d h) x) en) en) en) en) en) en) en) en) en) en) en) en) en) en
def sl14 : EF := fun _ en h => List.rec (motive := fun _ => Rs D) .stuck (fun _ en _ => List.rec (motive := fun _ => Rs D) .stuck (fun _ en _ => List.rec (motive := fun _ => Rs D) .stuck (fun _ en _ => List.rec (motive := fun _ => Rs D) .stuck (fun _ en _ => List.rec (motive := fun _ => Rs D) .stuck (fun _ en _ => List.rec (motive := fun _ => Rs D) .stuck (fun _ en _ => List.rec (motive := fun _ => Rs D) .stuck (fun _ en _ => List.rec (motive := fun _ => Rs D) .stuck (fun _ en _ => List.rec (motive := fun _ => Rs D) .stuck (fun _ en _ => List.rec (motive := fun _ => Rs D) .stuck (fun _ en _ => List.rec (motive := fun _ => Rs D) .stuck (fun _ en _ => List.rec (motive := fun _ => Rs D) .stuck (fun _ en _ => List.rec (motive := fun _ => Rs D) .stuck (fun _ en _ => List.rec (motive := fun _ => Rs D) .stuck (fun _ en _ => List.rec (motive := fun _ => Rs D) .stuck (fun x _ _ => Option.rec (motive := fun _ => Rs D) .stuck (fun d => .ok d h) x) en) en) en) en) en) en) en) en) en) en) en) en) en) en) en
def sl15 : EF := fun _ en h => List.rec (motive := fun _ => Rs D) .stuck (fun _ en _ => List.rec (motive := fun _ => Rs D) .stuck (fun _ en _ => List.rec (motive := fun _ => Rs D) .stuck (fun _ en _ => List.rec (motive := fun _ => Rs D) .stuck (fun _ en _ => List.rec (motive := fun _ => Rs D) .stuck (fun _ en _ => List.rec (motive := fun _ => Rs D) .stuck (fun _ en _ => List.rec (motive := fun _ => Rs D) .stuck (fun _ en _ => List.rec (motive := fun _ => Rs D) .stuck (fun _ en _ => List.rec (motive := fun _ => Rs D) .stuck (fun _ en _ => List.rec (motive := fun _ => Rs D) .stuck (fun _ en _ => List.rec (motive := fun _ => Rs D) .stuck (fun _ en _ => List.rec (motive := fun _ => Rs D) .stuck (fun _ en _ => List.rec (motive := fun _ => Rs D) .stuck (fun _ en _ => List.rec (motive := fun _ => Rs D) .stuck (fun _ en _ => List.rec (motive := fun _ => Rs D) .stuck (fun _ en _ => List.rec (motive := fun _ => Rs D) .stuck (fun x _ _ => Option.rec (motive := fun _ => Rs D) .stuck (fun d => .ok d h) x) en) en) en) en) en) en) en) en) en) en) en) en) en) en) en) en
def st0 {β : Type} (z : β) (en : En) (y : Option D) (k : En → β) : β := List.rec (motive := fun _ => β) z (fun _ en _ => k (y :: en)) en
def st1 {β : Type} (z : β) (en : En) (y : Option D) (k : En → β) : β := List.rec (motive := fun _ => β) z (fun x0 en _ => List.rec (motive := fun _ => β) z (fun _ en _ => k (x0 :: y :: en)) en) en
def st2 {β : Type} (z : β) (en : En) (y : Option D) (k : En → β) : β := List.rec (motive := fun _ => β) z (fun x0 en _ => List.rec (motive := fun _ => β) z (fun x1 en _ => List.rec (motive := fun _ => β) z (fun _ en _ => k (x0 :: x1 :: y :: en)) en) en) en
def st3 {β : Type} (z : β) (en : En) (y : Option D) (k : En → β) : β := List.rec (motive := fun _ => β) z (fun x0 en _ => List.rec (motive := fun _ => β) z (fun x1 en _ => List.rec (motive := fun _ => β) z (fun x2 en _ => List.rec (motive := fun _ => β) z (fun _ en _ => k (x0 :: x1 :: x2 :: y :: en)) en) en) en) en
def st4 {β : Type} (z : β) (en : En) (y : Option D) (k : En → β) : β := List.rec (motive := fun _ => β) z (fun x0 en _ => List.rec (motive := fun _ => β) z (fun x1 en _ => List.rec (motive := fun _ => β) z (fun x2 en _ => List.rec (motive := fun _ => β) z (fun x3 en _ => List.rec (motive := fun _ => β) z (fun _ en _ => k (x0 :: x1 :: x2 :: x3 :: y :: en)) en) en) en) en) en
def st5 {β : Type} (z : β) (en : En) (y : Option D) (k : En → β) : β := List.rec (motive := fun _ => β) z (fun x0 en _ => List.rec (motive := fun _ => β) z (fun x1 en _ => List.rec (motive := fun _ => β) z (fun x2 en _ => List.rec (motive := fun _ => β) z (fun x3 en _ => List.rec (motive := fun _ => β) z (fun x4 en _ => List.rec (motive := fun _ => β) z (fun _ en _ => k (x0 :: x1 :: x2 :: x3 :: x4 :: y :: en)) en) en) en) en) en) en
def st6 {β : Type} (z : β) (en : En) (y : Option D) (k : En → β) : β := List.rec (motive := fun _ => β) z (fun x0 en _ => List.rec (motive := fun _ => β) z (fun x1 en _ => List.rec (motive := fun _ => β) z (fun x2 en _ => List.rec (motive := fun _ => β) z (fun x3 en _ => List.rec (motive := fun _ => β) z (fun x4 en _ => List.rec (motive := fun _ => β) z (fun x5 en _ => List.rec (motive := fun _ => β) z (fun _ en _ => k (x0 :: x1 :: x2 :: x3 :: x4 :: x5 :: y :: en)) en) en) en) en) en) en) en
def st7 {β : Type} (z : β) (en : En) (y : Option D) (k : En → β) : β := List.rec (motive := fun _ => β) z (fun x0 en _ => List.rec (motive := fun _ => β) z (fun x1 en _ => List.rec (motive := fun _ => β) z (fun x2 en _ => List.rec (motive := fun _ => β) z (fun x3 en _ => List.rec (motive := fun _ => β) z (fun x4 en _ => List.rec (motive := fun _ => β) z (fun x5 en _ => List.rec (motive := fun _ => β) z (fun x6 en _ => List.rec (motive := fun _ => β) z (fun _ en _ => k (x0 :: x1 :: x2 :: x3 :: x4 :: x5 :: x6 :: y :: en)) en) en) en) en) en) en) en) en
def st8 {β : Type} (z : β) (en : En) (y : Option D) (k : En → β) : β := List.rec (motive := fun _ => β) z (fun x0 en _ => List.rec (motive := fun _ => β) z (fun x1 en _ => List.rec (motive := fun _ => β) z (fun x2 en _ => List.rec (motive := fun _ => β) z (fun x3 en _ => List.rec (motive := fun _ => β) z (fun x4 en _ => List.rec (motive := fun _ => β) z (fun x5 en _ => List.rec (motive := fun _ => β) z (fun x6 en _ => List.rec (motive := fun _ => β) z (fun x7 en _ => List.rec (motive := fun _ => β) z (fun _ en _ => k (x0 :: x1 :: x2 :: x3 :: x4 :: x5 :: x6 :: x7 :: y :: en)) en) en) en) en) en) en) en) en) en
def st9 {β : Type} (z : β) (en : En) (y : Option D) (k : En → β) : β := List.rec (motive := fun _ => β) z (fun x0 en _ => List.rec (motive := fun _ => β) z (fun x1 en _ => List.rec (motive := fun _ => β) z (fun x2 en _ => List.rec (motive := fun _ => β) z (fun x3 en _ => List.rec (motive := fun _ => β) z (fun x4 en _ => List.rec (motive := fun _ => β) z (fun x5 en _ => List.rec (motive := fun _ => β) z (fun x6 en _ => List.rec (motive := fun _ => β) z (fun x7 en _ => List.rec (motive := fun _ => β) z (fun x8 en _ => List.rec (motive := fun _ => β) z (fun _ en _ => k (x0 :: x1 :: x2 :: x3 :: x4 :: x5 :: x6 :: x7 :: x8 :: y :: en)) en) en) en) en) en) en) en) en) en) en
def st10 {β : Type} (z : β) (en : En) (y : Option D) (k : En → β) : β := List.rec (motive := fun _ => β) z (fun x0 en _ => List.rec (motive := fun _ => β) z (fun x1 en _ => List.rec (motive := fun _ => β) z (fun x2 en _ => List.rec (motive := fun _ => β) z (fun x3 en _ => List.rec (motive := fun _ => β) z (fun x4 en _ => List.rec (motive := fun _ => β) z (fun x5 en _ => List.rec (motive := fun _ => β) z (fun x6 en _ => List.rec (motive := fun _ => β) z (fun x7 en _ => List.rec (motive := fun _ => β) z (fun x8 en _ => List.rec (motive := fun _ => β) z (fun x9 en _ => List.rec (motive := fun _ => β) z (fun _ en _ => k (x0 :: x1 :: x2 :: x3 :: x4 :: x5 :: x6 :: x7 :: x8 :: x9 :: y :: en)) en) en) en) en) en) en) en) en) en) en) en
def st11 {β : Type} (z : β) (en : En) (y : Option D) (k : En → β) : β := List.rec (motive := fun _ => β) z (fun x0 en _ => List.rec (motive := fun _ => β) z (fun x1 en _ => List.rec (motive := fun _ => β) z (fun x2 en _ => List.rec (motive := fun _ => β) z (fun x3 en _ => List.rec (motive := fun _ => β) z (fun x4 en _ => List.rec (motive := fun _ => β) z (fun x5 en _ => List.rec (motive := fun _ => β) z (fun x6 en _ => List.rec (motive := fun _ => β) z (fun x7 en _ => List.rec (motive := fun _ => β) z (fun x8 en _ => List.rec (motive := fun _ => β) z (fun x9 en _ => List.rec (motive := fun _ => β) z (fun x10 en _ => List.rec (motive := fun _ => β) z (fun _ en _ => k (x0 :: x1 :: x2 :: x3 :: x4 :: x5 :: x6 :: x7 :: x8 :: x9 :: x10 :: y :: en)) en) en) en) en) en) en) en) en) en) en) en) en
def st12 {β : Type} (z : β) (en : En) (y : Option D) (k : En → β) : β := List.rec (motive := fun _ => β) z (fun x0 en _ => List.rec (motive := fun _ => β) z (fun x1 en _ => List.rec (motive := fun _ => β) z (fun x2 en _ => List.rec (motive := fun _ => β) z (fun x3 en _ => List.rec (motive := fun _ => β) z (fun x4 en _ => List.rec (motive := fun _ => β) z (fun x5 en _ => List.rec (motive := fun _ => β) z (fun x6 en _ => List.rec (motive := fun _ => β) z (fun x7 en _ => List.rec (motive := fun _ => β) z (fun x8 en _ => List.rec (motive := fun _ => β) z (fun x9 en _ => List.rec (motive := fun _ => β) z (fun x10 en _ => List.rec (motive := fun _ => β) z (fun x11 en _ => List.rec (motive := fun _ => β) z (fun _ en _ => k (x0 :: x1 :: x2 :: x3 :: x4 :: x5 :: x6 :: x7 :: x8 :: x9 :: x10 :: x11 :: y :: en)) en) en) en) en) en) en) en) en) en) en) en) en) en
def st13 {β : Type} (z : β) (en : En) (y : Option D) (k : En → β) : β := List.rec (motive := fun _ => β) z (fun x0 en _ => List.rec (motive := fun _ => β) z (fun x1 en _ => List.rec (motive := fun _ => β) z (fun x2 en _ => List.rec (motive := fun _ => β) z (fun x3 en _ => List.rec (motive := fun _ => β) z (fun x4 en _ => List.rec (motive := fun _ => β) z (fun x5 en _ => List.rec (motive := fun _ => β) z (fun x6 en _ => List.rec (motive := fun _ => β) z (fun x7 en _ => List.rec (motive := fun _ => β) z (fun x8 en _ => List.rec (motive := fun _ => β) z (fun x9 en _ => List.rec (motive := fun _ => β) z (fun x10 en _ => List.rec (motive := fun _ => β) z (fun x11 en _ => List.rec (motive := fun _ => β) z (fun x12 en _ => List.rec (motive := fun _ => β) z (fun _ en _ => k (x0 :: x1 :: x2 :: x3 :: x4 :: x5 :: x6 :: x7 :: x8 :: x9 :: x10 :: x11 :: x12 :: y :: en)) en) en) en) en) en) en) en) en) en) en) en) en) en) en
def st14 {β : Type} (z : β) (en : En) (y : Option D) (k : En → β) : β := List.rec (motive := fun _ => β) z (fun x0 en _ => List.rec (motive := fun _ => β) z (fun x1 en _ => List.rec (motive := fun _ => β) z (fun x2 en _ => List.rec (motive := fun _ => β) z (fun x3 en _ => List.rec (motive := fun _ => β) z (fun x4 en _ => List.rec (motive := fun _ => β) z (fun x5 en _ => List.rec (motive := fun _ => β) z (fun x6 en _ => List.rec (motive := fun _ => β) z (fun x7 en _ => List.rec (motive := fun _ => β) z (fun x8 en _ => List.rec (motive := fun _ => β) z (fun x9 en _ => List.rec (motive := fun _ => β) z (fun x10 en _ => List.rec (motive := fun _ => β) z (fun x11 en _ => List.rec (motive := fun _ => β) z (fun x12 en _ => List.rec (motive := fun _ => β) z (fun x13 en _ => List.rec (motive := fun _ => β) z (fun _ en _ => k (x0 :: x1 :: x2 :: x3 :: x4 :: x5 :: x6 :: x7 :: x8 :: x9 :: x10 :: x11 :: x12 :: x13 :: y :: en)) en) en) en) en) en) en) en) en) en) en) en) en) en) en) en
def st15 {β : Type} (z : β) (en : En) (y : Option D) (k : En → β) : β := List.rec (motive := fun _ => β) z (fun x0 en _ => List.rec (motive := fun _ => β) z (fun x1 en _ => List.rec (motive := fun _ => β) z (fun x2 en _ => List.rec (motive := fun _ => β) z (fun x3 en _ => List.rec (motive := fun _ => β) z (fun x4 en _ => List.rec (motive := fun _ => β) z (fun x5 en _ => List.rec (motive := fun _ => β) z (fun x6 en _ => List.rec (motive := fun _ => β) z (fun x7 en _ => List.rec (motive := fun _ => β) z (fun x8 en _ => List.rec (motive := fun _ => β) z (fun x9 en _ => List.rec (motive := fun _ => β) z (fun x10 en _ => List.rec (motive := fun _ => β) z (fun x11 en _ => List.rec (motive := fun _ => β) z (fun x12 en _ => List.rec (motive := fun _ => β) z (fun x13 en _ => List.rec (motive := fun _ => β) z (fun x14 en _ => List.rec (motive := fun _ => β) z (fun _ en _ => k (x0 :: x1 :: x2 :: x3 :: x4 :: x5 :: x6 :: x7 :: x8 :: x9 :: x10 :: x11 :: x12 :: x13 :: x14 :: y :: en)) en) en) en) en) en) en) en) en) en) en) en) en) en) en) en) en
def taW (st : Option D → En → (En → Rs En) → Rs En) (keep : Bool) : GF := fun _ d en h => bif' keep (st (some (own d h).1) en fun en => .ok en (own d h).2) (st (some (fz d)) en fun en => .ok en h)
def slC (i : Nat) : Co := Nat.rec (motive := fun _ => Co) (coE sl0) (fun m1 _ => Nat.rec (motive := fun _ => Co) (coE sl1) (fun m2 _ => Nat.rec (motive := fun _ => Co) (coE sl2) (fun m3 _ => Nat.rec (motive := fun _ => Co) (coE sl3) (fun m4 _ => Nat.rec (motive := fun _ => Co) (coE sl4) (fun m5 _ => Nat.rec (motive := fun _ => Co) (coE sl5) (fun m6 _ => Nat.rec (motive := fun _ => Co) (coE sl6) (fun m7 _ => Nat.rec (motive := fun _ => Co) (coE sl7) (fun m8 _ => Nat.rec (motive := fun _ => Co) (coE sl8) (fun m9 _ => Nat.rec (motive := fun _ => Co) (coE sl9) (fun m10 _ => Nat.rec (motive := fun _ => Co) (coE sl10) (fun m11 _ => Nat.rec (motive := fun _ => Co) (coE sl11) (fun m12 _ => Nat.rec (motive := fun _ => Co) (coE sl12) (fun m13 _ => Nat.rec (motive := fun _ => Co) (coE sl13) (fun m14 _ => Nat.rec (motive := fun _ => Co) (coE sl14) (fun m15 _ => Nat.rec (motive := fun _ => Co) (coE sl15) (fun m16 _ => coE (exSlot i)) m15) m14) m13) m12) m11) m10) m9) m8) m7) m6) m5) m4) m3) m2) m1) i
def gnC (i : Nat) (keep : Bool) : Co := Nat.rec (motive := fun _ => Co) (coG (taW (fun y en k => st0 .stuck en y k) keep)) (fun m1 _ => Nat.rec (motive := fun _ => Co) (coG (taW (fun y en k => st1 .stuck en y k) keep)) (fun m2 _ => Nat.rec (motive := fun _ => Co) (coG (taW (fun y en k => st2 .stuck en y k) keep)) (fun m3 _ => Nat.rec (motive := fun _ => Co) (coG (taW (fun y en k => st3 .stuck en y k) keep)) (fun m4 _ => Nat.rec (motive := fun _ => Co) (coG (taW (fun y en k => st4 .stuck en y k) keep)) (fun m5 _ => Nat.rec (motive := fun _ => Co) (coG (taW (fun y en k => st5 .stuck en y k) keep)) (fun m6 _ => Nat.rec (motive := fun _ => Co) (coG (taW (fun y en k => st6 .stuck en y k) keep)) (fun m7 _ => Nat.rec (motive := fun _ => Co) (coG (taW (fun y en k => st7 .stuck en y k) keep)) (fun m8 _ => Nat.rec (motive := fun _ => Co) (coG (taW (fun y en k => st8 .stuck en y k) keep)) (fun m9 _ => Nat.rec (motive := fun _ => Co) (coG (taW (fun y en k => st9 .stuck en y k) keep)) (fun m10 _ => Nat.rec (motive := fun _ => Co) (coG (taW (fun y en k => st10 .stuck en y k) keep)) (fun m11 _ => Nat.rec (motive := fun _ => Co) (coG (taW (fun y en k => st11 .stuck en y k) keep)) (fun m12 _ => Nat.rec (motive := fun _ => Co) (coG (taW (fun y en k => st12 .stuck en y k) keep)) (fun m13 _ => Nat.rec (motive := fun _ => Co) (coG (taW (fun y en k => st13 .stuck en y k) keep)) (fun m14 _ => Nat.rec (motive := fun _ => Co) (coG (taW (fun y en k => st14 .stuck en y k) keep)) (fun m15 _ => Nat.rec (motive := fun _ => Co) (coG (taW (fun y en k => st15 .stuck en y k) keep)) (fun m16 _ => coG (taName i keep)) m15) m14) m13) m12) m11) m10) m9) m8) m7) m6) m5) m4) m3) m2) m1) i
theorem slC_eq (i : Nat) : slC i = coE (exSlot i) := by
  cases i with
  | zero => show coE sl0 = _; exact congrArg coE (show sl0 = _ from (show sl0 = slN 0 from rfl).trans (slN_eq 0))
  | succ i =>
    cases i with
    | zero => show coE sl1 = _; exact congrArg coE (show sl1 = _ from (show sl1 = slN 1 from rfl).trans (slN_eq 1))
    | succ i =>
      cases i with
      | zero => show coE sl2 = _; exact congrArg coE (show sl2 = _ from (show sl2 = slN 2 from rfl).trans (slN_eq 2))
      | succ i =>
        cases i with
        | zero => show coE sl3 = _; exact congrArg coE (show sl3 = _ from (show sl3 = slN 3 from rfl).trans (slN_eq 3))
        | succ i =>
          cases i with
          | zero => show coE sl4 = _; exact congrArg coE (show sl4 = _ from (show sl4 = slN 4 from rfl).trans (slN_eq 4))
          | succ i =>
            cases i with
            | zero => show coE sl5 = _; exact congrArg coE (show sl5 = _ from (show sl5 = slN 5 from rfl).trans (slN_eq 5))
            | succ i =>
              cases i with
              | zero => show coE sl6 = _; exact congrArg coE (show sl6 = _ from (show sl6 = slN 6 from rfl).trans (slN_eq 6))
              | succ i =>
                cases i with
                | zero => show coE sl7 = _; exact congrArg coE (show sl7 = _ from (show sl7 = slN 7 from rfl).trans (slN_eq 7))
                | succ i =>
                  cases i with
                  | zero => show coE sl8 = _; exact congrArg coE (show sl8 = _ from (show sl8 = slN 8 from rfl).trans (slN_eq 8))
                  | succ i =>
                    cases i with
                    | zero => show coE sl9 = _; exact congrArg coE (show sl9 = _ from (show sl9 = slN 9 from rfl).trans (slN_eq 9))
                    | succ i =>
                      cases i with
                      | zero => show coE sl10 = _; exact congrArg coE (show sl10 = _ from (show sl10 = slN 10 from rfl).trans (slN_eq 10))
                      | succ i =>
                        cases i with
                        | zero => show coE sl11 = _; exact congrArg coE (show sl11 = _ from (show sl11 = slN 11 from rfl).trans (slN_eq 11))
                        | succ i =>
                          cases i with
                          | zero => show coE sl12 = _; exact congrArg coE (show sl12 = _ from (show sl12 = slN 12 from rfl).trans (slN_eq 12))
                          | succ i =>
                            cases i with
                            | zero => show coE sl13 = _; exact congrArg coE (show sl13 = _ from (show sl13 = slN 13 from rfl).trans (slN_eq 13))
                            | succ i =>
                              cases i with
                              | zero => show coE sl14 = _; exact congrArg coE (show sl14 = _ from (show sl14 = slN 14 from rfl).trans (slN_eq 14))
                              | succ i =>
                                cases i with
                                | zero => show coE sl15 = _; exact congrArg coE (show sl15 = _ from (show sl15 = slN 15 from rfl).trans (slN_eq 15))
                                | succ i =>
                                  rfl
theorem taW_eq (n i : Nat) (keep : Bool) (st : Option D → En → (En → Rs En) → Rs En) (hs : st = fun y en k => stN n .stuck en y k) (hi : n = i) : taW st keep = taName i keep := by
  subst hs hi
  funext c d en h
  show bif' keep (stN n Rs.stuck en (some (own d h).1) fun en => Rs.ok en (own d h).2) (stN n Rs.stuck en (some (fz d)) fun en => Rs.ok en h) = _
  rw [stN_eq, stN_eq]; rfl
theorem gnC_eq (i : Nat) (keep : Bool) : gnC i keep = coG (taName i keep) := by
  cases i with
  | zero => exact congrArg coG (taW_eq 0 0 keep (fun y en k => st0 .stuck en y k) rfl rfl)
  | succ i =>
    cases i with
    | zero => exact congrArg coG (taW_eq 1 1 keep (fun y en k => st1 .stuck en y k) rfl rfl)
    | succ i =>
      cases i with
      | zero => exact congrArg coG (taW_eq 2 2 keep (fun y en k => st2 .stuck en y k) rfl rfl)
      | succ i =>
        cases i with
        | zero => exact congrArg coG (taW_eq 3 3 keep (fun y en k => st3 .stuck en y k) rfl rfl)
        | succ i =>
          cases i with
          | zero => exact congrArg coG (taW_eq 4 4 keep (fun y en k => st4 .stuck en y k) rfl rfl)
          | succ i =>
            cases i with
            | zero => exact congrArg coG (taW_eq 5 5 keep (fun y en k => st5 .stuck en y k) rfl rfl)
            | succ i =>
              cases i with
              | zero => exact congrArg coG (taW_eq 6 6 keep (fun y en k => st6 .stuck en y k) rfl rfl)
              | succ i =>
                cases i with
                | zero => exact congrArg coG (taW_eq 7 7 keep (fun y en k => st7 .stuck en y k) rfl rfl)
                | succ i =>
                  cases i with
                  | zero => exact congrArg coG (taW_eq 8 8 keep (fun y en k => st8 .stuck en y k) rfl rfl)
                  | succ i =>
                    cases i with
                    | zero => exact congrArg coG (taW_eq 9 9 keep (fun y en k => st9 .stuck en y k) rfl rfl)
                    | succ i =>
                      cases i with
                      | zero => exact congrArg coG (taW_eq 10 10 keep (fun y en k => st10 .stuck en y k) rfl rfl)
                      | succ i =>
                        cases i with
                        | zero => exact congrArg coG (taW_eq 11 11 keep (fun y en k => st11 .stuck en y k) rfl rfl)
                        | succ i =>
                          cases i with
                          | zero => exact congrArg coG (taW_eq 12 12 keep (fun y en k => st12 .stuck en y k) rfl rfl)
                          | succ i =>
                            cases i with
                            | zero => exact congrArg coG (taW_eq 13 13 keep (fun y en k => st13 .stuck en y k) rfl rfl)
                            | succ i =>
                              cases i with
                              | zero => exact congrArg coG (taW_eq 14 14 keep (fun y en k => st14 .stuck en y k) rfl rfl)
                              | succ i =>
                                cases i with
                                | zero => exact congrArg coG (taW_eq 15 15 keep (fun y en k => st15 .stuck en y k) rfl rfl)
                                | succ i =>
                                  rfl
/-- the meaning of a term -/
def comp (t : T) : Co := T.rec (motive := fun _ => Co)
  ⟨noE, noT, arNil, noW, noG, tsNil, suNx⟩
  (fun k _ _ a b => ⟨noE, noT, arCons k a.e b.a, noW, noG, tsCons a.g b.gs, suSeq a.s b.s⟩)
  (fun i => slC i)
  (fun d => coE (exCst d))
  (fun _ as => coE (exTup as.a))
  (fun _ as => coE (exLst as.a))
  (fun _ _ ks vs => coE (exDlit ks.a vs.a))
  (fun o _ _ a b => coE (exBin o a.e b.e))
  (fun _ a => coE (exNeg a.e))
  (fun o _ _ a b => coT (teCmp o a.e b.e))
  (fun o p _ _ _ a b c => coT (teChain o p a.e b.e c.e))
  (fun _ a => ⟨exNot a.e, teNot a.t, noA, noW, noG, noL, noS⟩)
  (fun _ _ a b => ⟨exAnd a.e b.e, teAnd a.t b.t, noA, noW, noG, noL, noS⟩)
  (fun _ _ a b => ⟨exOr a.e b.e, teOr a.t b.t, noA, noW, noG, noL, noS⟩)
  (fun _ _ _ t a b => coE (exIf t.t a.e b.e))
  (fun f _ as => coE (exCall f as.a))
  (fun k f _ as => coE (exMake k f as.a))
  (fun m _ _ o as => coE (exMeth B m o.e as.a))
  (fun i _ as => coE (exCallv B i as.a))
  (fun f _ np ns b caps as _ => coE (exCallc f as.a np ns b caps))
  (fun b _ as => coE (exBi b as.a))
  (fun b _ as => coE (exBiR b as.a))
  (fun t _ a => coE (exIsi t a.e))
  (fun m _ _ o as => coE (exBm m o.e as.a))
  (fun _ _ a b => coE (exIx a.e b.e))
  (fun _ _ _ a lo hi => coE (exSlc a.e lo.a hi.a))
  (fun _ a => coE (exRev a.e))
  (fun _ f o => coE (exFld B o.e f))
  (fun ow _ _ _ _ g it t e => coE (exLc ow g.g it.w t.t e.e))
  (fun ow _ _ _ _ _ g it t k e => coE (exDc ow g.g it.w t.t k.e e.e))
  (fun _ a => coW (waSeq a.e))
  (fun _ a => coW (waEnum a.e))
  (fun _ _ a b => coW (waZip a.e b.e))
  (fun _ as => coW (waRng as.a))
  (fun i keep => gnC i keep)
  (fun n _ gs => coG (taTup n gs.gs))
  (fun _ _ o i => coG (taSub o.e i.e))
  (fun _ f o => coG (taFld B o.e f))
  (fun _ e => coS (suExpr e.e))
  (fun gt _ g e => coS (suAsg (isNm gt) g.g e.e))
  (fun is _ es => coS (suPar is es.a))
  (fun i o _ e => coS (suAug i o e.e))
  (fun _ _ o _ a i e => coS (suAugS a.e i.e o e.e))
  (fun _ _ _ _ _ _ => coN)
  (fun _ _ _ t a b => coS (suIf t.t a.s b.s))
  (fun _ _ _ g it b => coS (suFor g.g it.w b.s))
  (fun _ _ t b => coS (suWhile t.t b.s))
  (fun _ e => coS (suRet e.e))
  (coS fun _ _ h => .rt .non h)
  (fun _ _ _ => coN)
  (coS suNx)
  (coS fun _ en h => .bk en h)
  (coS fun _ en h => .ct en h)
  ⟨noE, noT, arNil, noW, noG, noL, noS⟩ t
theorem comp_slot (i : Nat) : comp B (.slot i) = coE (exSlot i) := slC_eq i
theorem comp_gname (i : Nat) (keep : Bool) : comp B (.gname i keep) = coG (taName i keep) := gnC_eq i keep
theorem comp_asgn (i : Nat) (keep : Bool) (y : T) : (comp B (.sasg (.gname i keep) y)).s = suAsg true (taName i keep) (comp B y).e := by
  show suAsg true (comp B (.gname i keep)).g (comp B y).e = _
  rw [comp_gname]; rfl
/-! ### calls -/
def retD (r : Rst) : Rs D := Rst.rec (motive := fun _ => Rs D) (fun _ h => .ok .non h) .ok (fun _ _ => .stuck) (fun _ _ => .stuck) (fun c _ h => .exc c h) .stuck r
/-- a def's call -/
def callF (c : Cl) (f : Nat) (ds : List D) (h : Sh) : Rs D := opt' (B.f.get 12 f) .stuck fun fd => argsE .stuck fd.pad ds fd.np fun en => retD ((comp B fd.body).s c en h)
/-- a closure's -/
def callL (c : Cl) (x : Clo) (ds : List D) (h : Sh) : Rs D := argsE .stuck (x.caps.map some ++ List.replicate (x.ns - x.np - lenK x.caps) none) ds x.np fun en => ((comp B x.body).e c en (h.withC [])).wC h.c
/-- calls k deep, loops up to n turns -/
def lev (n k : Nat) : Cl := match k with
  | 0 => ⟨n, fun _ _ _ => .stuck, fun _ _ _ => .stuck⟩
  | k + 1 => ⟨n, fun f ds h => callF B (lev n k) f ds h, fun x ds h => callL B (lev n k) x ds h⟩
end
end
end Pv
end
section
set_option Elab.async false
set_option linter.all false
set_option maxRecDepth 100000
set_option autoImplicit false
/-! From the text to the small language. -/
namespace Pv
open PySem L2

/-- what a global name is -/
inductive Gk where
  | fn (f np : Nat)
  | cls (k f np : Nat)
  | con (d : D)
/-- what a def's text is read by: its names with their places, its scope, the globals, the free names, kept names, names of attributes -/
structure Ct where
  N : List Str
  sc : Scope
  gl : List (Str × Gk)
  fr : List Str
  kn : List Nat
  att : List Str
  /-- lambdas are made here -/
  lm : Bool
def ixS (x : Str) : List Str → Option Nat
  | [] => none
  | y :: ys => match seq y x with
    | true => some 0
    | false => match ixS x ys with
      | some i => some (Nat.succ i)
      | none => none
def memS (x : Str) : List Str → Bool
  | [] => false
  | y :: ys => match seq y x with
    | true => true
    | false => memS x ys
def lookS {α : Type} (x : Str) : List (Str × α) → Option α
  | [] => none
  | (y, a) :: ys => match seq y x with
    | true => some a
    | false => lookS x ys
def visB (sc : Scope) (x : Str) : Bool := match lookS x sc.names with
  | some .local => true
  | some .cell => true
  | some .free => true
  | _ => false
def locB (sc : Scope) (x : Str) : Bool := match lookS x sc.names with
  | some .local => true
  | some .cell => true
  | _ => false
def lcl (sc : Scope) (x : Str) : Bool := match lookS x sc.names with
  | some .local => true
  | _ => false
def gloB (sc : Scope) (x : Str) : Bool := match lookS x sc.names with
  | some .globalImplicit => true
  | _ => false
/-- no name that the model treats apart -/
def okN (x : Str) : Bool := !(seq x "__debug__" || (seq x "__classdict__" || seq x "__name__"))
def slotOf (c : Ct) (x : Str) : Option Nat := match okN x && visB c.sc x with
  | true => ixS x c.N
  | false => none
def glob (c : Ct) (x : Str) : Option Gk := match okN x && gloB c.sc x with
  | true => lookS x c.gl
  | false => none
/-- a free name of the builtins -/
def freeB (c : Ct) (x : Str) : Bool := match okN x && gloB c.sc x with
  | true => memS x c.fr
  | false => false
def opB : Operator → Option Bop
  | .Add => some .add
  | .Sub => some .sub
  | .Mult => some .mul
  | .FloorDiv => some .fdiv
  | .Mod => some .mod
  | .Pow => some .pow
  | _ => none
def opA : Operator → Option Bop
  | .Add => some .add
  | .Sub => some .sub
  | _ => none
def opC : CmpOp → Cop
  | .Eq => .eq
  | .NotEq => .ne
  | .Lt => .lt
  | .LtE => .le
  | .Gt => .gt
  | .GtE => .ge
  | .Is => .is
  | .IsNot => .isnot
  | .In => .isin
  | .NotIn => .notin
def noSet : Expr → Bool
  | .Set _ _ _ => false
  | _ => true
def noStar : Expr → Bool
  | .Starred _ _ => false
  | _ => true
def noCall : Expr → Bool
  | .Call _ _ _ _ => false
  | _ => true
def noSlice : Expr → Bool
  | .Slice _ _ _ _ => false
  | .Tuple _ _ _ => false
  | _ => true
/-- its test is its value's truth -/
def valE : Expr → Bool
  | .BoolOp _ _ _ => false
  | .UnaryOp .Not _ _ => false
  | .Compare _ _ _ _ => false
  | .IfExp _ _ _ _ => false
  | .NamedExpr _ _ _ => false
  | .Constant _ _ _ => false
  | _ => true
def isTup : Expr → Bool
  | .Tuple _ _ _ => true
  | _ => false
def noComp : Expr → Bool
  | .ListComp _ _ _ _ => false
  | .SetComp _ _ _ _ => false
  | .DictComp _ _ _ _ _ => false
  | _ => true
def biOf (x : Str) (n : Nat) : Option Bi := match n with
  | 1 => match seq x "len" with
    | true => some .len
    | false => match seq x "all" with
      | true => some .all
      | false => match seq x "any" with
        | true => some .any
        | false => match seq x "tuple" with
          | true => some .tuple
          | false => match seq x "list" with
            | true => some .list
            | false => match seq x "min" with
              | true => some .min
              | false => match seq x "max" with
                | true => some .max
                | false => match seq x "sum" with
                  | true => some .sum
                  | false => match seq x "sorted" with
                    | true => some .sorted
                    | false => match seq x "abs" with
                      | true => some .abs
                      | false => match seq x "int" with
                        | true => some .int
                        | false => none
  | 2 => match seq x "min" with
    | true => some .min2
    | false => match seq x "max" with
      | true => some .max2
      | false => match seq x "divmod" with
        | true => some .divmod
        | false => none
  | _ => none
def tyOf (x : Str) : Option Ty := match seq x "int" with
  | true => some .int
  | false => match seq x "bool" with
    | true => some .bool
    | false => match seq x "str" with
      | true => some .str
      | false => match seq x "tuple" with
        | true => some .tuple
        | false => match seq x "list" with
          | true => some .list
          | false => match seq x "dict" with
            | true => some .dict
            | false => none
def bmOf (x : Str) (n : Nat) : Option Bm := match n with
  | 0 => match seq x "pop" with
    | true => some .pop
    | false => none
  | 1 => match seq x "append" with
    | true => some .append
    | false => match seq x "extend" with
      | true => some .extend
      | false => match seq x "remove" with
        | true => some .remove
        | false => match seq x "get" with
          | true => some .get1
          | false => match seq x "pop" with
            | true => some .popAt
            | false => none
  | 2 => match seq x "get" with
    | true => some .get2
    | false => none
  | _ => none
def isTL : Bi → Bool
  | .tuple => true
  | .list => true
  | _ => false
def fstOf {α β : Type} : List (α × β) → List α
  | [] => []
  | p :: r => p.1 :: fstOf r
def sndOf {α β : Type} : List (α × β) → List β
  | [] => []
  | p :: r => p.2 :: sndOf r
/-- names of a comprehension's block that are its own, with their places -/
def ownOf (N : List Str) : List (Str × NameKind) → List (Str × Nat)
  | [] => []
  | (x, k) :: r => match k with
    | .local => match ixS x N with
      | some i => (x, i) :: ownOf N r
      | none => ownOf N r
    | .cell => match ixS x N with
      | some i => (x, i) :: ownOf N r
      | none => ownOf N r
    | _ => ownOf N r
def relN (sc : Scope) : List (Str × NameKind) → List (Str × NameKind)
  | [] => []
  | (n, k) :: r => match k with
    | .free => match sc.kind with
      | .function => match lookS n sc.names with
        | some .cell => (n, .cell) :: relN sc r
        | _ => (n, .free) :: relN sc r
      | _ => (n, .free) :: relN sc r
    | k => (n, k) :: relN sc r
def relC (scope sc : Scope) : Scope := { scope with names := relN sc scope.names }
/-- the block is one that the layer knows -/
def blkB (N : List Str) (sc scope : Scope) (ow : List (Str × Nat)) : Bool :=
  (match scope.kind with | .function => true | _ => false) && (go1 scope.names && (go2 ow && go3 scope.names))
where
  kEq : NameKind → NameKind → Bool
    | .local, .local => true
    | .cell, .cell => true
    | .free, .free => true
    | .globalImplicit, .globalImplicit => true
    | _, _ => false
  go1 : List (Str × NameKind) → Bool
    | [] => true
    | (x, k) :: r => (match lookS x scope.names with
      | some k' => kEq k' k
      | none => false) && go1 r
  go2 : List (Str × Nat) → Bool
    | [] => true
    | (x, i) :: r => (match nth N i with
      | some y => seq y x
      | none => false) && go2 r
  go3 : List (Str × NameKind) → Bool
    | [] => true
    | (x, k) :: r => (match k with
      | .free => (match lookS x sc.names with
        | some .cell => true
        | some .free => true
        | _ => false)
      | .local => (match lookS x ow with
        | some _ => true
        | none => !memS x N)
      | .cell => (match lookS x ow with
        | some _ => true
        | none => !memS x N)
      | _ => true) && go3 r
def allIn (is : List Nat) : T → Bool
  | .gname i _ => go i is
  | .gtup _ g => allIn is g
  | .nil => true
  | .cons _ a b => allIn is a && allIn is b
  | _ => false
where go (i : Nat) : List Nat → Bool
  | [] => false
  | j :: r => match Nat.beq j i with
    | true => true
    | false => go i r
def memN (i : Nat) : List Nat → Bool
  | [] => false
  | j :: r => match Nat.beq j i with
    | true => true
    | false => memN i r
def lenB {α : Type} (xs : List α) (n : Nat) : Bool := Nat.beq (len xs) n
/-- a new list or dict, written: it may be changed -/
def fresh : Expr → Bool
  | .List [] _ => true
  | .Dict _ _ _ => true
  | _ => false
def argNames : List Arg → List Str
  | [] => []
  | a :: r => a.arg :: argNames r
/-- plain parameters only -/
def parsOf (a : Arguments) : Option (List Str) := match a.posonlyargs, a.vararg, a.kwonlyargs, a.kw_defaults, a.kwarg, a.defaults with
  | [], none, [], [], none, [] => some (argNames a.args)
  | _, _, _, _, _, _ => none
def freeOf : List (Str × NameKind) → List Str
  | [] => []
  | (x, k) :: r => match k with
    | .free => x :: freeOf r
    | _ => freeOf r
def slotsOf (c : Ct) : List Str → Option (List Nat)
  | [] => some []
  | x :: r => match slotOf c x with
    | some i => match slotsOf c r with
      | some is => some (i :: is)
      | none => none
    | none => none
/-- names that are captured: cells of the maker, or captured ones -/
def frcB (sc : Scope) : List Str → Bool
  | [] => true
  | x :: r => match lookS x sc.names with
    | some .cell => frcB sc r
    | some .free => frcB sc r
    | _ => false
/-- a test that is one -/
def tstB : Nat → Expr → Bool
  | 0, _ => false
  | n + 1, e => match e with
    | .BoolOp _ es _ => go (tstB n) es
    | .UnaryOp .Not a _ => tstB n a
    | .IfExp _ _ _ _ => false
    | .NamedExpr _ _ _ => false
    | _ => true
where go (f : Expr → Bool) : List Expr → Bool
  | [] => true
  | e :: es => match f e with
    | true => go f es
    | false => false
def tstE (e : Expr) : Bool := tstB 8 e
/-- swapped stores: two or three unlike local names on one line, no constant expressions alone -/
def swN (sc : Scope) (line : Nat) : List Expr → Bool
  | [] => true
  | .Name x pos :: r => match lcl sc x && Nat.beq pos.line line with
    | true => swN sc line r
    | false => false
  | _ => false
def namesOf (c : Ct) : List Expr → Option (List Nat)
  | [] => some []
  | .Name x pos :: r => match slotOf c x with
    | some i => match namesOf c r with
      | some is => some (i :: is)
      | none => none
    | none => none
  | _ => none
def unlike : List Nat → Bool
  | [] => true
  | i :: r => !memN i r && unlike r
def anyNC : List Expr → Bool
  | [] => false
  | e :: r => (!constantsAlone 8 e && !foldedForSure 8 e) || anyNC r
def line1 : List Expr → Nat
  | e :: _ => e.pos.line
  | [] => 0
structure Tr where
  e : Ct → Expr → Option T
  a : Ct → Nat → List Expr → Option T
  w : Ct → Bool → Expr → Option T
  g : Ct → Bool → Expr → Option T
  gs : Ct → Bool → List Expr → Option T
  s : Ct → Stmt → Option T
  ss : Ct → List Stmt → Option T
def trB : Tr := ⟨fun _ _ => none, fun _ _ _ => none, fun _ _ _ => none, fun _ _ _ => none, fun _ _ _ => none, fun _ _ => none, fun _ _ => none⟩
def m1 (a : Option T) (f : T → T) : Option T := match a with
  | some t => some (f t)
  | none => none
def m2 (a b : Option T) (f : T → T → T) : Option T := match a with
  | some t => match b with
    | some u => some (f t u)
    | none => none
  | none => none
def m3 (a b d : Option T) (f : T → T → T → T) : Option T := match a with
  | some t => m2 b d (f t)
  | none => none
section
variable (r : Tr)
def trConst (k : Const) : Option T := match k with
  | .int i => some (.cst (.int i))
  | .bool b => some (.cst (.bl b))
  | .none => some (.cst .non)
  | .str x => some (.cst (.str x))
  | _ => none
def trName (c : Ct) (x : Str) : Option T := match slotOf c x with
  | some i => some (.slot i)
  | none => match glob c x with
    | some (.con d) => some (.cst d)
    | some (.fn f _) => some (.cst (.gl f))
    | _ => none
def trCmp (c : Ct) (a : Expr) (ops : List CmpOp) (bs : List Expr) : Option T := match ops, bs with
  | [o], [b] => match noSet b with
    | true => m2 (r.e c a) (r.e c b) (.cmp (opC o))
    | false => none
  | [o, p], [b, d] => match noSet b && noSet d with
    | true => m3 (r.e c a) (r.e c b) (r.e c d) (.chain (opC o) (opC p))
    | false => none
  | _, _ => none
def trBool (c : Ct) (o : BoolOp) (es : List Expr) (pos : Pos) : Option T := match es with
  | [a] => r.e c a
  | a :: b :: rest => match o with
    | .And => m2 (r.e c a) (r.e c (.BoolOp .And (b :: rest) pos)) .tand
    | .Or => m2 (r.e c a) (r.e c (.BoolOp .Or (b :: rest) pos)) .tor
  | [] => none
/-- the last one, if it is a lambda -/
def trLam (c : Ct) (f : Nat) (as : List Expr) (ps : Arguments) (b : Expr) (sc : Scope) : Option T := match parsOf ps with
  | some xs => match c.lm && (frcB c.sc (freeOf sc.names) && NdefX.nscB (xs ++ freeOf sc.names) xs (freeOf sc.names) sc) with
    | true => match slotsOf c (freeOf sc.names) with
      | some js => m2 (r.a c 1 as) (r.e { c with N := xs ++ freeOf sc.names, sc := sc, kn := [], lm := false } b) fun as b => .callc f as (len xs) (len xs + len js) b js
      | none => none
    | false => none
  | none => none
def lastLam : List Expr → Option (List Expr × Expr)
  | [] => none
  | [e] => match e with
    | .Lambda _ _ _ _ => some ([], e)
    | _ => none
  | e :: es => match lastLam es with
    | some (as, l) => some (e :: as, l)
    | none => none
def isiArg : List Expr → Option (Expr × Str)
  | [a, .Name t _] => match noStar a with
    | true => some (a, t)
    | false => none
  | _ => none
def rngArg : List Expr → Option (Str × List Expr)
  | [.Call (.Name y _) ds [] _] => some (y, ds)
  | _ => none
def trCallN (c : Ct) (x : Str) (as : List Expr) : Option T := match slotOf c x with
  | some i => m1 (r.a c 1 as) (.callv i)
  | none => match glob c x with
    | some (.fn f np) => match lastLam as with
      | some (as, .Lambda ps b sc _) => match lenB as (np - 1) with
        | true => trLam r c f as ps b sc
        | false => none
      | _ => match lenB as np with
        | true => m1 (r.a c 1 as) (.call f)
        | false => none
    | some (.cls k f np) => match lenB as (np - 1) with
      | true => m1 (r.a c 1 as) (.make k f)
      | false => none
    | some (.con _) => none
    | none => match freeB c x with
      | true => match seq x "isinstance" with
        | true => match isiArg as with
          | some (a, t) => match freeB c t with
            | true => match tyOf t with
              | some ty => m1 (r.e c a) (.isi ty)
              | none => none
            | false => none
          | none => none
        | false => match biOf x (len as) with
          | some b => match rngArg as with
            | some (y, ds) => match freeB c y && (seq y "range" && (isTL b && (lenB ds 1 || lenB ds 2))) with
              | true => m1 (r.a c 0 ds) (.biR b)
              | false => m1 (r.a c 0 as) (.bi b)
            | none => m1 (r.a c 0 as) (.bi b)
          | none => none
      | false => none
def trCallA (c : Ct) (o : Expr) (m : Str) (ap cp : Pos) (as : List Expr) : Option T := match noCall o && (Nat.beq ap.endLine cp.line && Nat.blt (len as) 20) with
  | true => match ixS m c.att with
    | some i => m2 (r.e c o) (r.a c 1 as) (.meth i)
    | none => match bmOf m (len as) with
      | some b => m2 (r.e c o) (r.a c 0 as) (.bm b)
      | none => none
  | false => none
def trCall (c : Ct) (f : Expr) (as : List Expr) (ks : List Keyword) (cp : Pos) : Option T := match ks with
  | [] => match f with
    | .Name x _ => trCallN r c x as
    | .Attribute o m ap => trCallA r c o m ap cp as
    | _ => none
  | _ => none
def trPart (c : Ct) (p : Option Expr) : Option T := match p with
  | none => some .nil
  | some e => m1 (r.e c e) fun t => .cons 0 t .nil
def trSub (c : Ct) (a b : Expr) : Option T := match b with
  | .Slice lo hi none _ => m3 (r.e c a) (trPart r c lo) (trPart r c hi) .slc
  | .Slice none none (some (.UnaryOp .USub (.Constant (.int 1) _ _) _)) _ => m1 (r.e c a) .rev
  | b => match noSlice b with
    | true => m2 (r.e c a) (r.e c b) .ix
    | false => none
def trFld (c : Ct) (o : Expr) (f : Str) : Option T := match noCall o with
  | true => match ixS f c.att with
    | some i => m1 (r.e c o) (.fld · i)
    | none => none
  | false => none
def trIfs (c : Ct) (ifs : List Expr) : Option T := match ifs with
  | [] => some (.cst (.bl true))
  | [e] => match tstE e with
    | true => r.e c e
    | false => none
  | _ => none
def trLc (c : Ct) (e : Expr) (gs : List Comprehension) (sc : Scope) : Option T := match gs with
  | [⟨tg, it, ifs, 0⟩] => match ownOf c.N sc.names with
    | ow => match blkB c.N c.sc sc ow && noSet it with
      | true => match r.w c (isTup tg) it with
        | some w => match { c with sc := relC sc c.sc, kn := [], lm := false } with
          | c => match r.g c false tg with
            | some g => match allIn (sndOf ow) g with
              | true => m2 (trIfs r c ifs) (r.e c e) (.lc (sndOf ow) g w)
              | false => none
            | none => none
        | none => none
      | false => none
  | _ => none
def trDc (c : Ct) (k v : Expr) (gs : List Comprehension) (sc : Scope) : Option T := match gs with
  | [⟨tg, it, ifs, 0⟩] => match ownOf c.N sc.names with
    | ow => match blkB c.N c.sc sc ow && noSet it with
      | true => match r.w c (isTup tg) it with
        | some w => match { c with sc := relC sc c.sc, kn := [], lm := false } with
          | c => match r.g c false tg with
            | some g => match allIn (sndOf ow) g with
              | true => m3 (trIfs r c ifs) (r.e c k) (r.e c v) (.dc (sndOf ow) g w)
              | false => none
            | none => none
        | none => none
      | false => none
  | _ => none
def trDict (c : Ct) (ks : List (Option Expr)) (vs : List Expr) : Option T := match ks, vs with
  | [], [] => some (.dlit .nil .nil)
  | [some k], [v] => m2 (r.e c k) (r.e c v) fun k v => .dlit (.cons 0 k .nil) (.cons 0 v .nil)
  | _, _ => none
def trE (c : Ct) (e : Expr) : Option T := match e with
  | .Name x _ => trName c x
  | .Constant k _ _ => trConst k
  | .Tuple es _ _ => m1 (r.a c 1 es) .tup
  | .List es _ => m1 (r.a c 1 es) .lst
  | .Dict ks vs _ => trDict r c ks vs
  | .BinOp a o b _ => match opB o with
    | some o => m2 (r.e c a) (r.e c b) (.bin o)
    | none => none
  | .UnaryOp .USub a _ => m1 (r.e c a) .neg
  | .UnaryOp .Not a _ => m1 (r.e c a) .tnot
  | .Compare a ops bs _ => trCmp r c a ops bs
  | .BoolOp o es pos => trBool r c o es pos
  | .IfExp t a b _ => match tstE t with
    | true => m3 (r.e c t) (r.e c a) (r.e c b) .ife
    | false => none
  | .Call f as ks pos => trCall r c f as ks pos
  | .Subscript a b _ => trSub r c a b
  | .Attribute o f _ => trFld r c o f
  | .ListComp e gs sc _ => trLc r c e gs sc
  | .DictComp k v gs sc _ => trDc r c k v gs sc
  | _ => none
def trA (c : Ct) (k : Nat) (es : List Expr) : Option T := match es with
  | [] => some .nil
  | e :: es => match noStar e with
    | true => m2 (r.e c e) (r.a c k es) (.cons (match k with
      | 1 => match fresh e with
        | true => 2
        | false => 1
      | k => k))
    | false => none
def one1 : List Expr → Option Expr
  | [a] => match noStar a with
    | true => some a
    | false => none
  | _ => none
def two2 : List Expr → Option (Expr × Expr)
  | [a, b] => match noStar a && noStar b with
    | true => some (a, b)
    | false => none
  | _ => none
def callOf : Expr → Option (Str × List Expr)
  | .Call (.Name x _) as [] _ => some (x, as)
  | _ => none
def trWB (c : Ct) (t : Bool) (e : Expr) (x : Str) (as : List Expr) : Option T := match seq x "range" with
  | true => match lenB as 1 || (lenB as 2 || lenB as 3) with
    | true => m1 (r.a c 0 as) .wrng
    | false => none
  | false => match seq x "enumerate" with
    | true => match one1 as with
      | some a => match t with
        | true => m1 (r.e c a) .wenum
        | false => none
      | none => none
    | false => match seq x "zip" with
      | true => match two2 as with
        | some (a, b) => match t with
          | true => m2 (r.e c a) (r.e c b) .wzip
          | false => none
        | none => none
      | false => m1 (r.e c e) .wseq
def trW (c : Ct) (t : Bool) (e : Expr) : Option T := match callOf e with
  | some (x, as) => match freeB c x with
    | true => trWB r c t e x as
    | false => m1 (r.e c e) .wseq
  | none => m1 (r.e c e) .wseq
def trG (c : Ct) (k : Bool) (e : Expr) : Option T := match e with
  | .Name x _ => match locB c.sc x with
    | true => match slotOf c x with
      | some i => some (.gname i (k && memN i c.kn))
      | none => none
    | false => none
  | .Tuple es _ _ => m1 (r.gs c k es) (.gtup (len es))
  | .Subscript o i _ => match noSlice i with
    | true => m2 (r.e c o) (r.e c i) .gsub
    | false => none
  | .Attribute o f _ => match ixS f c.att with
    | some i => m1 (r.e c o) (.gfld · i)
    | none => none
  | _ => none
def trGs (c : Ct) (k : Bool) (es : List Expr) : Option T := match es with
  | [] => some .nil
  | e :: es => match noStar e with
    | true => m2 (r.g c k e) (r.gs c k es) (.cons 0)
    | false => none
/-- no swapped stores -/
def swB : Expr → Expr → Bool
  | .Tuple _ _ _, .Tuple _ _ _ => false
  | .List _ _, .Tuple _ _ _ => false
  | _, _ => true
/-- name = [..] on one line is a kind of its own -/
def trPlain (c : Ct) (tg e : Expr) : Option T := match noComp e with
  | true => match noStar tg && swB tg e with
    | true => m2 (r.g c true tg) (r.e c e) .sasg
    | false => none
  | false => match e, tg with
    | .ListComp _ _ sc p, .Name x q => match lcl c.sc x with
      | true => match Nat.beq q.line p.line with
        | true => match lookS x sc.names with
          | some .local => none
          | some .cell => none
          | _ => m2 (r.g c true tg) (r.e c e) .sasg
        | false => none
      | false => m2 (r.g c true tg) (r.e c e) .sasg
    | _, _ => none
def trAsg (c : Ct) (tg e : Expr) : Option T := match tg, e with
  | .Tuple ts _ _, .Tuple vs _ _ => match (lenB ts 2 || lenB ts 3) && swN c.sc (line1 ts) ts with
    | true => match lenB vs (len ts) && anyNC vs with
      | true => match namesOf c ts with
        | some is => match unlike is with
          | true => m1 (r.a c 1 vs) (.spar is)
          | false => none
        | none => none
      | false => none
    | false => m2 (r.g c true tg) (r.e c e) .sasg
  | tg, e => trPlain r c tg e
def trS (c : Ct) (s : Stmt) : Option T := match s with
  | .Return none _ => some .sretN
  | .Return (some e) _ => m1 (r.e c e) .sret
  | .Assign [tg] e _ => trAsg r c tg e
  | .AugAssign tg o e _ => match opA o with
    | some o => match tg with
      | .Name x _ => match locB c.sc x with
        | true => match slotOf c x with
          | some i => m1 (r.e c e) (.saug i o)
          | none => none
        | false => none
      | _ => none
    | none => none
  | .For tg it b [] _ => match noSet it with
    | true => m3 (r.g c false tg) (r.w c (isTup tg) it) (r.ss c b) .sfor
    | false => none
  | .While t b [] _ => match tstE t with
    | true => m2 (r.e c t) (r.ss c b) .swhile
    | false => none
  | .If t a b _ => match tstE t with
    | true => m3 (r.e c t) (r.ss c a) (r.ss c b) .sif
    | false => none
  | .Raise (some _) none _ => some .sno
  | .Expr (.Constant (.str _) _ _) _ => some .spass
  | .Expr e _ => match noComp e with
    | true => m1 (r.e c e) .sexpr
    | false => none
  | .Pass _ => some .spass
  | .Break _ => some .sbrk
  | .Continue _ => some .scont
  | _ => none
def trSs (c : Ct) (ss : List Stmt) : Option T := match ss with
  | [] => some .nil
  | s :: ss => m2 (r.s c s) (r.ss c ss) (.cons 0)
def trStep : Tr := ⟨trE r, trA r, trW r, trG r, trGs r, trS r, trSs r⟩
end
def tr (n : Nat) : Tr := Nat.rec trB (fun _ r => trStep r) n
end Pv
end
section
set_option Elab.async false
set_option linter.all false
set_option maxRecDepth 100000
set_option autoImplicit false
/-! Readings by the evaluator. -/
namespace Pv
open PySem L2
section
variable {G : GC} {P P1 P2 : Pl} {H H0 H1 H2 : Hp} {d : D} {v : V} {h : Sh}
/-! ### values of expressions, carried on -/
theorem RT.of (e : isTmp d = false) (r : R G P H d v) : RT G P H H0 d v := by
  cases d <;> first | exact r | cases e
theorem RT.r (e : isTmp d = false) (r : RT G P H H0 d v) : R G P H d v := by
  cases d <;> first | exact r | cases e
theorem R.noTmp (r : R G P H d v) : isTmp d = false := by
  cases d <;> first | rfl | exact r.elim
theorem RT.weak (w : ∀ p, H1 p = none → H0 p = none) (r : RT G P H H1 d v) : RT G P H H0 d v := by
  cases d <;> first | exact r | (obtain ⟨p, a, b, c⟩ := r; exact ⟨p, a, w p b, c⟩)
theorem lst_nt {a : Addr} {ds : List D} (h : LstAt G P H a ds) : ∃ o, H a = some o ∧ ∀ ps, o ≠ .tbl ps := by
  obtain ⟨xs, q, _⟩ := h
  exact ⟨_, q, fun _ z => by cases z⟩
theorem dct_nt {a : Addr} {ks ds : List D} (h : DctAt G P H a ks ds) : ∃ o, H a = some o ∧ ∀ ps, o ≠ .tbl ps := by
  rcases h with ⟨xs, q, _⟩ | ⟨xs, _, q, _⟩
  · exact ⟨_, q, fun _ z => by cases z⟩
  · exact ⟨_, q, fun _ z => by cases z⟩
theorem Ext.stay (x : Ext P H P1 H1) {p : Addr} {o : HO} (q : H p = some o) (n : p ∉ P.A) (z : ¬ P.Z p) (t : ∀ ps, o ≠ .tbl ps) : H1 p = H p ∧ p ∉ P1.A ∧ ¬ P1.Z p := by
  refine ⟨(x.keep p o q n t).trans q.symm, fun m => ?_, fun m => ?_⟩
  · rcases x.fa p m with y | y
    · exact n y
    · rw [q] at y; cases y
  · rcases x.fz p m with y | y
    · exact z y
    · rw [q] at y; cases y
theorem RT.ext (x : Ext P H P1 H1) (r : RT G P H H0 d v) : RT G P1 H1 H0 d v := by
  by_cases e : isTmp d = false
  · exact RT.of e (R.ext x.toWExt _ _ (r.r e))
  · cases d <;> first | exact absurd rfl e | skip
    · obtain ⟨p, a, b, c, z, l⟩ := r
      obtain ⟨o, q, t⟩ := lst_nt l
      obtain ⟨k1, k2, k3⟩ := x.stay q c z t
      exact ⟨p, a, b, k2, k3, LstAt.ext x.toWExt k1 l⟩
    · obtain ⟨p, a, b, c, z, l⟩ := r
      obtain ⟨o, q, t⟩ := dct_nt l
      obtain ⟨k1, k2, k3⟩ := x.stay q c z t
      exact ⟨p, a, b, k2, k3, DctAt.ext x.toWExt k1 l⟩
/-- rows of these -/
def RTL (G : GC) (P : Pl) (H H0 : Hp) : List D → List V → Prop
  | [], vs => vs = []
  | d :: ds, vs => ∃ x xs, vs = x :: xs ∧ RT G P H H0 d x ∧ RTL G P H H0 ds xs
theorem RTL.ext (x : Ext P H P1 H1) : ∀ {ds : List D} {vs : List V}, RTL G P H H0 ds vs → RTL G P1 H1 H0 ds vs
  | [], _, h => h
  | d :: ds, vs, h => by
    obtain ⟨y, ys, a, b, c⟩ := h
    exact ⟨y, ys, a, b.ext x, RTL.ext x c⟩
theorem RTL.weak (w : ∀ p, H1 p = none → H0 p = none) : ∀ {ds : List D} {vs : List V}, RTL G P H H1 ds vs → RTL G P H H0 ds vs
  | [], _, h => h
  | d :: ds, vs, h => by
    obtain ⟨y, ys, a, b, c⟩ := h
    exact ⟨y, ys, a, b.weak w, RTL.weak w c⟩
theorem noTmps_cons {ds : List D} (h : noTmps (d :: ds) = true) : isTmp d = false ∧ noTmps ds = true := by
  have e : noTmps (d :: ds) = bif' (isTmp d) false (noTmps ds) := rfl
  rw [e] at h
  cases q : isTmp d with
  | true => rw [q] at h; cases h
  | false => rw [q] at h; exact ⟨rfl, h⟩
theorem RTL.rl : ∀ {ds : List D} {vs : List V}, noTmps ds = true → RTL G P H H0 ds vs → RL G P H ds vs
  | [], _, _, h => h
  | d :: ds, vs, n, h => by
    obtain ⟨y, ys, a, b, c⟩ := h
    obtain ⟨n1, n2⟩ := noTmps_cons n
    exact ⟨y, ys, a, b.r n1, RTL.rl n2 c⟩
theorem RL.rtl : ∀ {ds : List D} {vs : List V}, RL G P H ds vs → RTL G P H H0 ds vs
  | [], _, h => h
  | d :: ds, vs, h => by
    obtain ⟨y, ys, a, b, c⟩ := h.uncons
    exact ⟨y, ys, a, RT.of b.noTmp b, RL.rtl c⟩
/-- a new value is known from now on -/
theorem fz_ok (s : SR G P1 H1 h) (x : Ext P H P1 H1) (r : RT G P1 H1 H d v) : ∃ P2, Ext P H P2 H1 ∧ WExt P1 H1 P2 H1 ∧ SR G P2 H1 h ∧ R G P2 H1 (fz d) v := by
  by_cases e : isTmp d = false
  · refine ⟨P1, x, WExt.refl, s, ?_⟩
    cases d <;> first | exact r | cases e
  · cases d <;> first | exact absurd rfl e | skip
    · rename_i ds
      obtain ⟨p, rfl, b, c, z, l⟩ := r
      obtain ⟨o, q, t⟩ := lst_nt l
      obtain ⟨xs, q1, q2⟩ := l
      rw [q] at q1; cases q1
      exact ⟨P1.val p, x.val b, WExt.val, s.val c q ⟨t, (fun _ _ z => by cases z)⟩, p, xs, rfl, .inr rfl, q, RL.ext WExt.val _ _ q2⟩
    · rename_i ks ds
      obtain ⟨p, rfl, b, c, z, l⟩ := r
      obtain ⟨o, q, t⟩ := dct_nt l
      have t2 : ∀ o' c, o ≠ .frz o' (.own c) := fun o' c z => by
        rcases l with ⟨kvs, q1, _⟩ | ⟨kvs, _, q1, _⟩ <;> rw [q] at q1 <;> cases q1 <;> cases z
      refine ⟨P1.val p, x.val b, WExt.val, s.val c q ⟨t, t2⟩, p, rfl, .inr rfl, ?_⟩
      rcases l with ⟨kvs, q1, k1, r1⟩ | ⟨kvs, ne, q1, k1, r1⟩
      · exact .inl ⟨kvs, q1, k1, RL.ext WExt.val _ _ r1⟩
      · exact .inr ⟨kvs, ne, q1, k1, RL.ext WExt.val _ _ r1⟩
/-- .. is ours from now on -/
theorem own_ok (s : SR G P1 H1 h) (x : Ext P H P1 H1) (r : RT G P1 H1 H d v) : ∃ P2, Ext P H P2 H1 ∧ WExt P1 H1 P2 H1 ∧ SR G P2 H1 (own d h).2 ∧ R G P2 H1 (own d h).1 v := by
  by_cases e : isTmp d = false
  · refine ⟨P1, x, WExt.refl, ?_, ?_⟩ <;> cases d <;> first | exact s | exact r | cases e
  · cases d <;> first | exact absurd rfl e | skip
    · rename_i ds
      obtain ⟨p, rfl, b, c, z, l⟩ := r
      exact ⟨P1.own p, x.own b, WExt.own, s.own (o := .lst ds) c z l, p, rfl, by show (P1.A ++ [p])[h.n]? = _; rw [← s.len, List.getElem?_append_right (Nat.le_refl _)]; simp⟩
    · rename_i ks ds
      obtain ⟨p, rfl, b, c, z, l⟩ := r
      exact ⟨P1.own p, x.own b, WExt.own, s.own (o := .dct ks ds) c z l, p, rfl, by show (P1.A ++ [p])[h.n]? = _; rw [← s.len, List.getElem?_append_right (Nat.le_refl _)]; simp⟩
end
/-! ### what a run by the evaluator wishes -/
def ERes {α : Type} (G : GC) (W : WX) (σ : L2.St) (P : Pl) (H : Hp) (r : Rs α) (K : α → Sh → Pl → Hp → Prop) : Prop := match r with
  | .ok x h' => ∀ P' H', Ext P H P' H' → SR G P' H' h' → K x h' P' H'
  | .exc c h' => ∀ P' H', Ext P H P' H' → SR G P' H' h' → ∀ d, W (G.xc c) d σ H'
  | .stuck => False
def SRes (G : GC) (W : WX) (E : Ends) (P : Pl) (H : Hp) (r : Rst) : Prop := match r with
  | .nx en h' => ∀ P' H' σ', Ext P H P' H' → SR G P' H' h' → RS G P' H' en σ' → E.nx σ' H'
  | .rt d h' => ∀ P' H' v, Ext P H P' H' → SR G P' H' h' → RT G P' H' H d v → E.rt v H'
  | .bk en h' => ∀ P' H' σ', Ext P H P' H' → SR G P' H' h' → RS G P' H' en σ' → E.bk σ' H'
  | .ct en h' => ∀ P' H' σ', Ext P H P' H' → SR G P' H' h' → RS G P' H' en σ' → E.ct σ' H'
  | .exc c en h' => ∀ P' H' σ', Ext P H P' H' → SR G P' H' h' → RS G P' H' en σ' → ∀ d, W (G.xc c) d σ' H'
  | .stuck => False
section
variable {G : GC} {W : WX} {σ : L2.St} {P P1 P2 : Pl} {H H0 H1 H2 : Hp} {α β : Type}
theorem ERes.imp {r : Rs α} {K K' : α → Sh → Pl → Hp → Prop} (e : ERes G W σ P H r K) (f : ∀ x h' P' H', Ext P H P' H' → SR G P' H' h' → K x h' P' H' → K' x h' P' H') : ERes G W σ P H r K' := by
  cases r with
  | ok x h => exact fun P' H' a b => f x h P' H' a b (e P' H' a b)
  | exc c h => exact e
  | stuck => exact e
theorem ERes.re {r : Rs α} {K : α → Sh → Pl → Hp → Prop} (x : Ext P H P1 H1) (e : ERes G W σ P H r K) : ERes G W σ P1 H1 r K := by
  cases r with
  | ok a h => exact fun P' H' y s => e P' H' (x.trans y) s
  | exc c h => exact fun P' H' y s => e P' H' (x.trans y) s
  | stuck => exact e
theorem ERes.bind {r : Rs α} {f : α → Sh → Rs β} {K : β → Sh → Pl → Hp → Prop} (e : ERes G W σ P H (r.bind f) K) : ERes G W σ P H r (fun x h' _ _ => ERes G W σ P H (f x h') K) := by
  cases r with
  | ok x h => exact fun _ _ _ _ => e
  | exc c h => exact e
  | stuck => exact e
theorem ERes.map {r : Rs α} {f : α → β} {K : β → Sh → Pl → Hp → Prop} (e : ERes G W σ P H (r.map f) K) : ERes G W σ P H r (fun x h' P' H' => K (f x) h' P' H') := by
  cases r with
  | ok x h => exact e
  | exc c h => exact e
  | stuck => exact e
theorem ERes.opt {o : Option α} {h : Sh} {K : α → Sh → Pl → Hp → Prop} (e : ERes G W σ P H (.opt o h) K) : ∃ x, o = some x ∧ ∀ P' H', Ext P H P' H' → SR G P' H' h → K x h P' H' := by
  cases o with
  | some x => exact ⟨x, rfl, e⟩
  | none => exact e.elim
theorem ERes.thn {r : Rs α} {en : En} {f : α → Sh → Rst} {E : Ends} (e : SRes G W E P H (r.thn en f)) (q : ∀ P' H', Ext P H P' H' → RS G P' H' en σ) : ERes G W σ P H r (fun x h' _ _ => SRes G W E P H (f x h')) := by
  cases r with
  | ok x h => exact fun _ _ _ _ => e
  | exc c h => exact fun P' H' x s d => e P' H' σ x s (q P' H' x) d
  | stuck => exact e
theorem SRes.re {r : Rst} {E : Ends} (x : Ext P H P1 H1) (e : SRes G W E P H r) : SRes G W E P1 H1 r := by
  cases r with
  | nx en h => exact fun P' H' σ' y s q => e P' H' σ' (x.trans y) s q
  | rt d h => exact fun P' H' v y s q => e P' H' v (x.trans y) s (q.weak fun p => x.back)
  | bk en h => exact fun P' H' σ' y s q => e P' H' σ' (x.trans y) s q
  | ct en h => exact fun P' H' σ' y s q => e P' H' σ' (x.trans y) s q
  | exc c en h => exact fun P' H' σ' y s q => e P' H' σ' (x.trans y) s q
  | stuck => exact e
end
/-- the state stands -/
structure Std (G : GC) (P : Pl) (h : Sh) (en : En) (σ : L2.St) (H : Hp) : Prop where
  s : SR G P H h
  r : RS G P H en σ
theorem Std.on {G : GC} {P P1 : Pl} {h h1 : Sh} {en : En} {σ : L2.St} {H H1 : Hp} (a : Std G P h en σ H) (x : Ext P H P1 H1) (s : SR G P1 H1 h1) : Std G P1 h1 en σ H1 := ⟨s, a.r.ext x.toWExt⟩
/-! ### readings -/
section
variable (G : GC) (W : WX)
def rdE (e : En → Sh → Rs D) : TE := fun σ H Q => ∃ P h en, Std G P h en σ H ∧ ERes G W σ P H (e en h) (fun d _ P' H' => ∀ v, RT G P' H' H d v → Q v H')
def rdT (e : En → Sh → Rs Bool) : TT := fun σ H Q => ∃ P h en, Std G P h en σ H ∧ ERes G W σ P H (e en h) (fun b _ _ H' => Q b H')
def rdA (e : En → Sh → Rs (List D)) : TA := fun σ H Q => ∃ P h en, Std G P h en σ H ∧ ERes G W σ P H (e en h) (fun ds _ P' H' => ∀ vs, RTL G P' H' H ds vs → Q vs H')
def rdS (s : En → Sh → Rst) : TS := fun E σ H => ∃ P h en, Std G P h en σ H ∧ SRes G W E P H (s en h)
/-- a target: the names that it may change -/
def rdG (g : D → En → Sh → Rs En) (is : List Nat) : TG := fun v σ H Q => ∃ P h en d, Std G P h en σ H ∧ R G P H d v ∧ ERes G W σ P H (g d en h) (fun en' _ P' H' => ∀ σ', RS G P' H' en' σ' → (∀ i, i ∉ is → σ'[i]? = σ[i]?) → σ'.length = σ.length → Q σ' H')
def rdGs (g : List D → En → Sh → Rs En) (is : List Nat) : TGs := fun vs σ H Q => ∃ P h en ds, Std G P h en σ H ∧ RL G P H ds vs ∧ ERes G W σ P H (g ds en h) (fun en' _ P' H' => ∀ σ', RS G P' H' en' σ' → (∀ i, i ∉ is → σ'[i]? = σ[i]?) → σ'.length = σ.length → Q σ' H')
end
theorem PE.imp {X : Cx} {e : Expr} {t t' : TE} (h : PE X e t) (i : ∀ σ H Q, t' σ H Q → t σ H Q) : PE X e t' := ⟨fun pins s σ H Q I q => h.run pins s σ H Q I (i σ H Q q)⟩
theorem PT.imp {X : Cx} {e : Expr} {t t' : TT} (h : PT X e t) (i : ∀ σ H Q, t' σ H Q → t σ H Q) : PT X e t' := ⟨fun pins s σ H Q I q => h.run pins s σ H Q I (i σ H Q q)⟩
theorem PW.imp {X : Cx} {e : Expr} {t t' : TT} (h : PW X e t) (i : ∀ σ H Q, t' σ H Q → t σ H Q) : PW X e t' := ⟨fun wh pins s σ H Q I q => h.run wh pins s σ H Q I (i σ H Q q)⟩
theorem PA.imp {X : Cx} {e : List Expr} {t t' : TA} (h : PA X e t) (i : ∀ σ H Q, t' σ H Q → t σ H Q) : PA X e t' := ⟨fun pos pins s σ H Q I q => h.run pos pins s σ H Q I (i σ H Q q)⟩
theorem PS.imp {X : Cx} {e : Stmt} {t t' : TS} (h : PS X e t) (i : ∀ E σ H, t' E σ H → t E σ H) : PS X e t' := ⟨fun pins s σ H E I q => h.run pins s σ H E I (i E σ H q)⟩
theorem PSs.imp {X : Cx} {e : List Stmt} {t t' : TS} (h : PSs X e t) (i : ∀ E σ H, t' E σ H → t E σ H) : PSs X e t' := ⟨fun pins s σ H E I q => h.run pins s σ H E I (i E σ H q)⟩
theorem PG.imp {X : Cx} {e : Expr} {t t' : TG} (h : PG X e t) (i : ∀ v σ H Q, t' v σ H Q → t v σ H Q) : PG X e t' := ⟨fun pins s σ H v u Q I r q => h.run pins s σ H v u Q I r (i v σ H Q q)⟩
theorem PGs.imp {X : Cx} {e : List Expr} {t t' : TGs} (h : PGs X e t) (i : ∀ v σ H Q, t' v σ H Q → t v σ H Q) : PGs X e t' := ⟨fun pins s σ H v u Q I r q => h.run pins s σ H v u Q I r (i v σ H Q q)⟩
section
variable {G : GC} {W : WX} {X : Cx} {a b c : Expr} {pos : Pos} {A B C : En → Sh → Rs D}
/-! ### one, two expressions -/
/-- what is asked of an operation -/
def Giv (G : GC) (W : WX) (σ : L2.St) (P : Pl) (H : Hp) (r : Rs D) (Q : VK) : Prop := ERes G W σ P H r (fun d _ P' H' => ∀ v, RT G P' H' H d v → Q v H')
theorem Giv.re {σ : L2.St} {P P1 : Pl} {H H1 : Hp} {r : Rs D} {Q : VK} (x : Ext P H P1 H1) (g : Giv G W σ P H r Q) : Giv G W σ P1 H1 r Q :=
  (ERes.re x g).imp fun d h' P' H' y s k v q => k v (q.weak fun p => x.back)
theorem use1 {f : D → Sh → Rs D} {σ : L2.St} {H : Hp} {Q : VK} {K : V → Hp → Prop} (q : rdE G W (fun en h => (A en h).bind f) σ H Q)
    (k : ∀ P1 h1 H1 x v, SR G P1 H1 h1 → RT G P1 H1 H x v → Giv G W σ P1 H1 (f x h1) Q → K v H1) : rdE G W A σ H K := by
  obtain ⟨P, h, en, st, e⟩ := q
  exact ⟨P, h, en, st, e.bind.imp fun x h1 P1 H1 y s e v r => k P1 h1 H1 x v s r (Giv.re y e)⟩
theorem use2 {f : D → D → Sh → Rs D} {σ : L2.St} {H : Hp} {Q : VK} {K : V → V → Hp → Prop} (q : rdE G W (fun en h => (A en h).bind fun x h => (B en h).bind fun y h => f x y h) σ H Q)
    (k : ∀ P2 h2 H2 x y v u, SR G P2 H2 h2 → RT G P2 H2 H x v → RT G P2 H2 H y u → Giv G W σ P2 H2 (f x y h2) Q → K v u H2) : rdE G W A σ H fun v H1 => rdE G W B σ H1 fun u H2 => K v u H2 := by
  obtain ⟨P, h, en, st, e⟩ := q
  refine ⟨P, h, en, st, e.bind.imp fun x h1 P1 H1 y1 s1 e v r => ?_⟩
  refine ⟨P1, h1, en, st.on y1 s1, (ERes.re y1 e).bind.imp fun y h2 P2 H2 y2 s2 e u r2 => ?_⟩
  exact k P2 h2 H2 x y v u s2 (r.ext y2) (r2.weak fun p => y1.back) (Giv.re y2 (ERes.imp e fun d h' P' H' z s k v q => k v (q.weak fun p => y1.back)))
end
end Pv
end
section
set_option Elab.async false
set_option linter.all false
set_option maxRecDepth 100000
set_option maxHeartbeats 4000000
set_option autoImplicit false
/-! Operations. -/
namespace Pv
open PySem L2 PySem.Spec PyProof.Rows
section
variable {G : GC} {P P1 P2 : Pl} {H H0 H1 H2 : Hp} {d : D} {v u : V} {h : Sh}
/-- a value that is given -/
def GivD (G : GC) (P : Pl) (H : Hp) (h : Sh) (d : D) (Q : VK) : Prop := ∀ P' H', Ext P H P' H' → SR G P' H' h → ∀ v, RT G P' H' H d v → Q v H'
theorem Giv.opt {W : WX} {σ : L2.St} {o : Option D} {Q : VK} (g : Giv G W σ P H (.opt o h) Q) : ∃ d, o = some d ∧ GivD G P H h d Q := by
  obtain ⟨d, e, k⟩ := ERes.opt g
  exact ⟨d, e, k⟩
theorem GivD.here {Q : VK} (g : GivD G P H h d Q) (s : SR G P H h) (r : RT G P H H d v) : Q v H := g P H Ext.refl s v r
/-- a new list -/
theorem GivD.tmp {Q : VK} {ds : List D} {xs : List V} (g : GivD G P H h (.tmp ds) Q) (s : SR G P H h) (r : RL G P H ds xs) {p : Addr} (hp : H p = none) : Q (.ref p) (upd H p (.lst xs)) :=
  g P _ (Ext.new hp) (s.new hp) _ ⟨p, rfl, hp, s.free hp, s.freeZ hp, xs, upd_same, RL.ext (Ext.new hp).toWExt _ _ r⟩
/-- a new tuple -/
theorem GivD.tup {Q : VK} {ds : List D} {xs : List V} (g : GivD G P H h (.tup ds) Q) (s : SR G P H h) (r : RL G P H ds xs) {p : Addr} (hp : H p = none) : Q (.ref p) (upd H p (.tup xs)) :=
  g P _ (Ext.new hp) (s.new hp) _ ⟨p, xs, rfl, upd_same, RL.ext (Ext.new hp).toWExt _ _ r⟩
theorem lstOf_obj {n : Nat} {ds : List D} (e : lstOf h (.obj n) = some ds) : h.get n = some (.lst ds) := by
  have e : (match h.get n with | some (.lst ds) => some ds | _ => none) = some ds := e
  revert e
  generalize h.get n = o
  intro e
  cases o with
  | none => cases e
  | some o => cases o <;> first | (cases e; rfl) | cases e
theorem rdL_obj {n : Nat} {ds : List D} (e : rdL h (.obj n) = some ds) : h.get n = some (.lst ds) ∨ h.get n = some (.frz ds) := by
  have e : (match h.get n with | some (.lst ds) => some ds | some (.frz ds) => some ds | _ => none) = some ds := e
  revert e
  generalize h.get n = o
  intro e
  cases o with
  | none => cases e
  | some o => cases o <;> first | (cases e; exact .inl rfl) | (cases e; exact .inr rfl) | cases e
theorem dctOf_obj {n : Nat} {ks ds : List D} (e : dctOf h (.obj n) = some (ks, ds)) : h.get n = some (.dct ks ds) := by
  have e : (match h.get n with | some (.dct ks ds) => some (ks, ds) | _ => none) = some (ks, ds) := e
  revert e
  generalize h.get n = o
  intro e
  cases o with
  | none => cases e
  | some o => cases o <;> first | (cases e; rfl) | cases e
theorem SR.at_ (s : SR G P H h) {n : Nat} {o : O} (e : h.get n = some o) {a : Addr} (q : P.A[n]? = some a) : OR G P H a o := by
  obtain ⟨b, h1, h2⟩ := s.obj n _ e
  rw [q] at h1; cases h1
  exact h2
theorem lstOf_ok (s : SR G P H h) {ds : List D} (e : lstOf h d = some ds) (r : RT G P H H0 d v) : ∃ p xs, v = .ref p ∧ H p = some (.lst xs) ∧ RL G P H ds xs := by
  cases d <;> try (cases e; done)
  · cases e
    obtain ⟨p, rfl, _, _, _, xs, q, r⟩ := r
    exact ⟨p, xs, rfl, q, r⟩
  · cases e
    obtain ⟨p, xs, rfl, _, q, r⟩ := r
    exact ⟨p, xs, rfl, q, r⟩
  · rename_i n
    obtain ⟨a, rfl, q⟩ := r
    obtain ⟨ys, h3, h4⟩ := s.at_ (lstOf_obj e) q
    exact ⟨a, ys, rfl, h3, h4⟩
theorem rdL_ok (s : SR G P H h) {ds : List D} (e : rdL h d = some ds) (r : RT G P H H0 d v) : ∃ p xs, v = .ref p ∧ SqL G.K H p xs ∧ RL G P H ds xs := by
  cases d <;> try (cases e; done)
  · cases e
    obtain ⟨p, rfl, _, _, _, xs, q, r⟩ := r
    exact ⟨p, xs, rfl, SqL.of q, r⟩
  · cases e
    obtain ⟨p, xs, rfl, _, q, r⟩ := r
    exact ⟨p, xs, rfl, SqL.of q, r⟩
  · rename_i n
    obtain ⟨a, rfl, q⟩ := r
    rcases rdL_obj e with e | e
    · obtain ⟨ys, h3, h4⟩ := s.at_ e q
      exact ⟨a, ys, rfl, SqL.of h3, h4⟩
    · obtain ⟨o, ys, h3, h4⟩ := s.at_ e q
      exact ⟨a, ys, rfl, .inl (.inr ⟨o, h3⟩), h4⟩
theorem rdQ_ok (s : SR G P H h) {ds : List D} (e : rdQ h d = some ds) (r : RT G P H H0 d v) : ∃ p xs, v = .ref p ∧ (SqL G.K H p xs ∨ SqT G.K H p xs) ∧ RL G P H ds xs := by
  cases d <;> try (cases e; done)
  · cases e
    obtain ⟨p, xs, rfl, q, r⟩ := r
    exact ⟨p, xs, rfl, .inr (SqT.of q), r⟩
  all_goals
    obtain ⟨p, xs, a, b, c⟩ := rdL_ok (ds := ds) s (by exact e) r
    exact ⟨p, xs, a, .inl b, c⟩
theorem tupR {ds : List D} (r : RT G P H H0 (.tup ds) v) : ∃ p xs, v = .ref p ∧ H p = some (.tup xs) ∧ RL G P H ds xs := r
/-! ### two-place operations -/
def opOf : Bop → Operator
  | .add => .Add
  | .sub => .Sub
  | .mul => .Mult
  | .fdiv => .FloorDiv
  | .mod => .Mod
  | .pow => .Pow
def rBin (G : GC) (o : Bop) : R2 := fun v u H Q => ∃ P h H0 x y d, SR G P H h ∧ RT G P H H0 x v ∧ RT G P H H0 y u ∧ binD h o x y = some d ∧ GivD G P H h d Q
theorem bif_true {α : Type} (x y : α) : bif' true x y = x := rfl
theorem bif_false {α : Type} (x y : α) : bif' false x y = y := rfl
theorem smallL_le {n : Nat} (e : smallL n = true) : n ≤ sizeLine := by
  rw [sizeLine_eq]
  exact Nat.ble_eq.mp e
theorem bif_some {α : Type} {b : Bool} {x : Option α} {d : α} (e : bif' b x none = some d) : b = true ∧ x = some d := by
  cases b with
  | true => exact ⟨rfl, e⟩
  | false => cases e
theorem opt_some {α β : Type} {o : Option α} {f : α → Option β} {d : β} (e : opt' o none f = some d) : ∃ x, o = some x ∧ f x = some d := by
  cases o with
  | some x => exact ⟨x, rfl, e⟩
  | none => cases e
theorem binL_ok {o : Bop} {a b : D} (e : binL h o a b = some d) : ∃ xs, lstOf h a = some xs ∧ ((∃ k, b = .int k ∧ binLI xs o k = some d) ∨ ∃ ys, lstOf h b = some ys ∧ binLL xs o ys = some d) := by
  unfold binL at e
  obtain ⟨xs, q, e⟩ := opt_some e
  refine ⟨xs, q, ?_⟩
  by_cases k : ∃ k, b = .int k
  · obtain ⟨k, rfl⟩ := k
    exact .inl ⟨k, rfl, e⟩
  · have e : opt' (lstOf h b) none (fun ys => binLL xs o ys) = some d := by
      cases b <;> first | exact absurd ⟨_, rfl⟩ k | (simp only [] at e; exact e)
    obtain ⟨ys, q2, e⟩ := opt_some e
    exact .inr ⟨ys, q2, e⟩
theorem and_t {a b : Bool} (e : (a && b) = true) : a = true ∧ b = true := (Bool.and_eq_true _ _).mp e
theorem ilt_t {i j : Int} (e : ilt i j = true) : i < j := by rw [ilt_eq, decide_eq_true_iff] at e; exact e
theorem ile_t {i j : Int} (e : ile i j = true) : i ≤ j := by rw [ile_eq, decide_eq_true_iff] at e; exact e
theorem blt_t {i j : Nat} (e : Nat.blt i j = true) : i < j := by simpa using e
theorem ble_t {i j : Nat} (e : Nat.ble i j = true) : i ≤ j := Nat.ble_eq.mp e
section
variable {X : Cx}
theorem op_powI : OpR X (binaryOp .Pow) (rI (fun i j => 0 ≤ j ∧ ((Builtin.Int.intBits i : Nat) : Int) * j ≤ 2 ^ 27) fun i j => .int (i ^ j.toNat)) :=
  opI fun i j t u s Q E c hQ => PyProof.Rows.pow_int c.1 c.2 hQ
/-- t * 1 is t -/
theorem tup_mul1 (l : Addr) (items : Array Value) (n : Nat) (sl : Array (Option Value)) (dd : Option Addr) (u : Tok) :
    Meets (Builtin.«tuple.__mul__» ⟨[.ref l, .int 1 u], []⟩) (fun _ R s => s.heap.get? l = some { cls := .type "tuple", dict := dd, data := .seq items n, slots := sl } ∧ R (.ok (.ret (.ref l))) s) :=
  .of_wp fun prog w A R s h => by
    obtain ⟨hp, g, d, tk, os⟩ := s
    obtain ⟨hl, h⟩ := h
    have f1 := AutoSeq1.idx_int
    wp_walk using wpAny_loadPart' hl
    exact ⟨_, rfl, h⟩
def rRep1 (K : PySem.W.Frag) : R2 := fun x y H Q => ∃ l xs, x = .ref l ∧ y = .int 1 ∧ SqT K H l xs ∧ Q (.ref l) H
theorem op_rep1 : OpR X (binaryOp .Mult) (rRep1 X.K) := by
  intro pins s σ H x y v u Q I rx ry h
  obtain ⟨l, xs, rfl, rfl, hT, q⟩ := h
  cases rx
  obtain ⟨t, rfl⟩ := ry
  obtain ⟨its, r, ⟨⟨cls, dd, data, sl⟩, ho, hc, n, hd⟩, hs⟩ := I.tuple hT
  simp only at hc hd
  subst hc hd
  refine wpAny_binaryOp_repeat_ref (T := "tuple") (U := "int") (by decide) ⟨_, ho, rfl⟩ (fun s' => typeIs_int s' 1 t) noFill_tuple_mul F.fills_int_mul F.slot_int_rmul repeat_tuple F.slot_int_index.lookup ?_
  refine call_meets F.slot_int_rmul (typeIs_int s 1 t) F.entry_int_rmul (F.args_int_rmul_2 _ _) (int_rmul_tuple 1 t l its.toArray n dd sl) ⟨ho, rfl, ⟨_, ho, rfl⟩, ?_⟩
  exact call_meets F.slot_tuple_mul ⟨_, ho, rfl⟩ F.entry_tuple_mul (F.args_tuple_mul_2 _ _) (tup_mul1 l its.toArray n sl dd t) ⟨ho, .ref l, H, I, rfl, q⟩
theorem op_bin (hK : X.K = G.K ∧ X.w = G.w) (o : Bop) : OpR X (binaryOp (opOf o)) (rBin G o) := by
  intro pins s σ H v u vv uu Q I rv ru hyp
  obtain ⟨P, h, H0, x, y, d, sr, rx, ry, e, g⟩ := hyp
  by_cases c1 : ∃ i, x = .int i
  · obtain ⟨i, rfl⟩ := c1
    by_cases c2 : ∃ j, y = .int j
    · obtain ⟨j, rfl⟩ := c2
      have e : opt' (intB o i j) none (fun k => frI k fun k => some (D.int k)) = some d := e
      obtain ⟨k, q, e⟩ := opt_some e
      rw [frI_eq] at e
      cases e
      have ans : Q (.int k) H := g.here sr rfl
      cases rx
      cases ry
      cases o with
      | add => cases q; exact op_add pins s σ H _ _ vv uu Q I rv ru ⟨i, j, rfl, rfl, ans⟩
      | sub => cases q; exact op_sub pins s σ H _ _ vv uu Q I rv ru ⟨i, j, rfl, rfl, ans⟩
      | mul =>
        have q : bif' (Nat.blt (i.natAbs.log2 + j.natAbs.log2) 1000000) (some (i * j)) none = some k := q
        obtain ⟨c, q⟩ := bif_some q
        cases q
        exact op_mulW pins s σ H _ _ vv uu Q I rv ru ⟨i, j, rfl, rfl, blt_t c, ans⟩
      | fdiv =>
        have q : bif' (ilt 0 j && Nat.blt j.natAbs.log2 9000) (some (i / j)) none = some k := q
        obtain ⟨c, q⟩ := bif_some q
        cases q
        obtain ⟨c1, c2⟩ := and_t c
        exact op_fdivW pins s σ H _ _ vv uu Q I rv ru ⟨i, j, rfl, rfl, ⟨ilt_t c1, blt_t c2⟩, ans⟩
      | mod =>
        have q : bif' (ilt 0 j) (some (i % j)) none = some k := q
        obtain ⟨c, q⟩ := bif_some q
        cases q
        exact op_mod pins s σ H _ _ vv uu Q I rv ru ⟨i, j, rfl, rfl, ilt_t c, ans⟩
      | pow =>
        have q : bif' (ile 0 j && ile (((Builtin.Int.intBits i : Nat) : Int) * j) 134217728) (some (i ^ j.toNat)) none = some k := q
        obtain ⟨c, q⟩ := bif_some q
        cases q
        obtain ⟨c1, c2⟩ := and_t c
        exact op_powI pins s σ H _ _ vv uu Q I rv ru ⟨i, j, rfl, rfl, ⟨ile_t c1, ile_t c2⟩, ans⟩
    · exfalso
      cases y <;> first | exact c2 ⟨_, rfl⟩ | cases e
  by_cases c2 : ∃ xs, x = .tup xs
  · obtain ⟨xs, rfl⟩ := c2
    have e : binT o xs y = some d := e
    obtain ⟨p, vs, rfl, q, r⟩ := tupR rx
    by_cases c2 : ∃ ys, y = .tup ys
    · obtain ⟨ys, rfl⟩ := c2
      obtain ⟨p2, us, rfl, q2, r2⟩ := tupR ry
      cases o <;> try (cases e; done)
      have e : bif' (smallL (lenK xs + lenK ys)) (frL (xs ++ ys) fun zs => some (D.tup zs)) none = some d := e
      obtain ⟨c, e⟩ := bif_some e
      rw [frL_eq] at e
      cases e
      rw [lenK_eq, lenK_eq] at c
      have c := smallL_le c
      refine op_catA pins s σ H _ _ vv uu Q I rv ru ⟨p, p2, vs, us, rfl, rfl, SqT.of q, SqT.of q2, by rw [r.length, r2.length]; exact c, fun z => ?_, fun _ z => ?_, fun _ _ p' hp => ?_⟩
      · subst z
        have : xs = [] := List.eq_nil_of_length_eq_zero (by rw [← r.length]; rfl)
        subst this
        exact g.here sr ⟨p2, us, rfl, q2, r2⟩
      · subst z
        have : ys = [] := List.eq_nil_of_length_eq_zero (by rw [← r2.length]; rfl)
        subst this
        exact g.here sr ⟨p, vs, rfl, q, by rw [List.append_nil]; exact r⟩
      · exact g.tup sr (r.append r2) hp
    by_cases c3 : ∃ k, y = .int k
    · obtain ⟨k, rfl⟩ := c3
      cases ry
      cases o <;> try (cases e; done)
      have e : bif' (ile 1 k && (ile k 1000 && (Nat.ble 1 (lenK xs) && Nat.ble (lenK xs) 1000))) (frL (List.replicate k.toNat xs).flatten fun zs => some (D.tup zs)) none = some d := e
      obtain ⟨c, e⟩ := bif_some e
      rw [frL_eq] at e
      cases e
      rw [lenK_eq] at c
      obtain ⟨c1, c⟩ := and_t c
      obtain ⟨c2, c⟩ := and_t c
      obtain ⟨c3, c4⟩ := and_t c
      have c1 := ile_t c1
      have c2 := ile_t c2
      have c3 := ble_t c3
      have c4 := ble_t c4
      have hne : vs ≠ [] := fun z => by subst z; have := r.length; simp at this; omega
      by_cases k1 : k = 1
      · subst k1
        have e1 : (List.replicate (1 : Int).toNat xs).flatten = xs := by simp
        rw [e1] at g
        exact op_rep1 pins s σ H _ _ vv uu Q I rv ru ⟨p, vs, rfl, rfl, SqT.of q, g.here sr ⟨p, vs, rfl, q, r⟩⟩
      · exact op_repT pins s σ H _ _ vv uu Q I rv ru ⟨p, k, vs, rfl, rfl, SqT.of q, hne, by omega, c2, by rw [r.length]; exact c4, fun p' hp => g.tup sr (r.rep _) hp⟩
    · exfalso
      cases y <;> first | exact c2 ⟨_, rfl⟩ | exact c3 ⟨_, rfl⟩ | cases e
  by_cases c3 : ∃ z, x = .str z
  · obtain ⟨z, rfl⟩ := c3
    by_cases c3 : ∃ z, y = .str z
    · obtain ⟨z2, rfl⟩ := c3
      cases o <;> try (cases e; done)
      have e : bif' (smallL (z.length + z2.length)) (some (D.str (z ++ z2))) none = some d := e
      obtain ⟨c, e⟩ := bif_some e
      cases e
      cases rx
      cases ry
      exact op_add_str pins s σ H _ _ vv uu Q I rv ru ⟨z, z2, rfl, rfl, smallL_le c, g.here sr rfl⟩
    · exfalso
      cases y <;> first | exact c3 ⟨_, rfl⟩ | cases e
  have e0 : binL h o x y = some d := by
    cases x <;> first | exact absurd ⟨_, rfl⟩ c1 | exact absurd ⟨_, rfl⟩ c2 | exact absurd ⟨_, rfl⟩ c3 | exact e
  obtain ⟨xs, q, e2⟩ := binL_ok e0
  obtain ⟨p, vs, rfl, hp, r⟩ := lstOf_ok sr q rx
  clear e e0
  rcases e2 with ⟨k, rfl, e⟩ | ⟨ys, q2, e⟩
  · cases ry
    cases o <;> try (cases e; done)
    have e : bif' (ile (-9223372036854775808) k && (ilt k 9223372036854775808 && smallL (lenK xs * k.toNat))) (frL (List.replicate k.toNat xs).flatten fun zs => some (D.tmp zs)) none = some d := e
    obtain ⟨c, e⟩ := bif_some e
    rw [frL_eq] at e
    cases e
    rw [lenK_eq] at c
    obtain ⟨c1, c⟩ := and_t c
    obtain ⟨c2, c⟩ := and_t c
    exact op_rep pins s σ H _ _ vv uu Q I rv ru ⟨p, k, vs, rfl, rfl, hp, ile_t c1, ilt_t c2, by rw [r.length]; exact smallL_le c, fun p' hp => g.tmp sr (r.rep _) hp⟩
  · obtain ⟨p2, us, rfl, hp2, r2⟩ := lstOf_ok sr q2 ry
    cases o <;> try (cases e; done)
    have e : bif' (smallL (lenK xs + lenK ys)) (frL (xs ++ ys) fun zs => some (D.tmp zs)) none = some d := e
    obtain ⟨c, e⟩ := bif_some e
    rw [frL_eq] at e
    cases e
    rw [lenK_eq, lenK_eq] at c
    exact op_cat pins s σ H _ _ vv uu Q I rv ru ⟨p, p2, vs, us, rfl, rfl, hp, hp2, by rw [r.length, r2.length]; exact smallL_le c, fun p' hp => g.tmp sr (r.append r2) hp⟩
end
end
end Pv
end
section
set_option Elab.async false
set_option linter.all false
set_option maxRecDepth 100000
set_option maxHeartbeats 4000000
set_option autoImplicit false
/-! Comparisons. -/
namespace Pv
open PySem L2 PySem.Spec PyProof.Rows
/-! ### plain data -/
mutual
/-- as data -/
def toP : D → PyData
  | .non => .none
  | .bl b => .bool b
  | .int i => .int i
  | .str x => .str x
  | .tup ds => .tuple (toPs ds)
  | .tmp ds => .list (toPs ds)
  | .vls ds => .list (toPs ds)
  | _ => .none
def toPs : List D → List PyData
  | [] => []
  | d :: ds => toP d :: toPs ds
end
theorem allB_cons {f : D → Bool} {d : D} {ds : List D} (e : allB f (d :: ds) = true) : f d = true ∧ allB f ds = true := by
  have e : bif' (f d) (allB f ds) false = true := e
  cases q : f d with
  | true => rw [q] at e; exact ⟨rfl, e⟩
  | false => rw [q] at e; cases e
theorem txO_ok {x : Str} (e : txO x = true) : PyData.strOk x = true := by
  have go : ∀ l : List Nat, txO.go l = true → l.all (· < 0x110000) = true := by
    intro l
    induction l with
    | nil => intro _; rfl
    | cons c cs ih =>
      intro e
      have e : (Nat.blt c 1114112 && txO.go cs) = true := e
      obtain ⟨e1, e2⟩ := and_t e
      have := blt_t e1
      simp only [List.all_cons, Bool.and_eq_true, decide_eq_true_iff]
      exact ⟨this, ih e2⟩
  unfold PyData.strOk
  have := go _ e
  rw [← Array.all_toList]
  exact this
theorem plain_lst {n : Nat} {ds : List D} (ih : ∀ d, plain n d = true → (toP d).canLay0 = true ∧ (toP d).depth ≤ n) : allB (plain n) ds = true → PyData.canLayAll0 (toPs ds) = true ∧ PyData.depthAll (toPs ds) ≤ n := by
  induction ds with
  | nil => intro _; exact ⟨by simp [toPs, PyData.canLayAll0], by simp [toPs, PyData.depthAll]⟩
  | cons d ds ihl =>
    intro e
    obtain ⟨e1, e2⟩ := allB_cons e
    obtain ⟨a, b⟩ := ih d e1
    obtain ⟨c, k⟩ := ihl e2
    refine ⟨by simp only [toPs, PyData.canLayAll0, a, c, Bool.and_self], ?_⟩
    simp only [toPs, PyData.depthAll]
    omega
theorem plain_ok : ∀ (n : Nat) (d : D), plain n d = true → (toP d).canLay0 = true ∧ (toP d).depth ≤ n
  | 0, d, e => by
    cases d <;> first | (cases e; done) | skip
    · exact ⟨by simp [toP, PyData.canLay0], by simp [toP, PyData.depth]⟩
    · exact ⟨by simp [toP, PyData.canLay0], by simp [toP, PyData.depth]⟩
    · exact ⟨by simp [toP, PyData.canLay0], by simp [toP, PyData.depth]⟩
    · exact ⟨by simp only [toP, PyData.canLay0]; exact txO_ok e, by simp [toP, PyData.depth]⟩
  | n + 1, d, e => by
    cases d <;> first | (cases e; done) | skip
    · exact ⟨by simp [toP, PyData.canLay0], by simp [toP, PyData.depth]⟩
    · exact ⟨by simp [toP, PyData.canLay0], by simp [toP, PyData.depth]⟩
    · exact ⟨by simp [toP, PyData.canLay0], by simp [toP, PyData.depth]⟩
    · exact ⟨by simp only [toP, PyData.canLay0]; exact txO_ok e, by simp [toP, PyData.depth]⟩
    all_goals
      rename_i ds
      have e : allB (plain n) ds = true := e
      obtain ⟨a, b⟩ := plain_lst (plain_ok n) e
      exact ⟨by simp only [toP, PyData.canLay0]; exact a, by simp only [toP, PyData.depth]; omega⟩
theorem plain_shaped {n : Nat} {d : D} (hn : n ≤ 64) (e : plain n d = true) : SeqAt.shaped (toP d) = true := by
  obtain ⟨a, b⟩ := plain_ok n d e
  unfold SeqAt.shaped
  rw [a, Bool.true_and]
  exact decide_eq_true (by omega)
theorem eqB_bl {x y : Bool} : ieq (bif' x 1 0) (bif' y 1 0) = (x == y) := by
  cases x <;> cases y <;> rfl
theorem ieq_beq (i j : Int) : ieq i j = (i == j) := by
  rw [ieq_eq]
  by_cases h : i = j
  · subst h; simp
  · rw [decide_eq_false h]; exact (beq_eq_false_iff_ne.mpr h).symm
theorem seq_beq (x y : Str) : seq x y = (x == y) := by
  rw [seq_eq]
  by_cases h : x = y
  · subst h; simp
  · rw [decide_eq_false h]; exact (beq_eq_false_iff_ne.mpr h).symm
theorem bif_one (b : Bool) : (bif' b 1 0 : Int) = if b then 1 else 0 := by cases b <;> rfl
/-- the flat ones -/
theorem eqF_ok {n : Nat} {a b : D} (ha : plain n a = true) (hb : plain n b = true) (fa : isU a = none ∧ isL a = none) : eqF a b = PyData.eqv (toP a) (toP b) := by
  cases a <;> first | (cases fa.1; done) | (cases fa.2; done) | (exfalso; cases n <;> cases ha; done) | skip
  all_goals
    cases b <;> first | (exfalso; cases n <;> cases hb; done) | skip
    all_goals first
      | (simp only [eqF, eqB, eqI, eqS, isNon, toP, PyData.eqv, ieq_beq, seq_beq, bif_one]; done)
      | (simp only [eqF, eqB, eqI, eqS, isNon, toP, PyData.eqv, ieq_beq, seq_beq, bif_one]; rfl)
      | rfl
theorem eqAll_ok {f : D → D → Bool} : ∀ (as bs : List D), (∀ a ∈ as, ∀ b ∈ bs, f a b = PyData.eqv (toP a) (toP b)) → eqAll f as bs = PyData.eqvAll (toPs as) (toPs bs)
  | [], [], _ => by simp only [toPs, PyData.eqvAll]; rfl
  | [], _ :: _, _ => by simp only [toPs, PyData.eqvAll]; rfl
  | _ :: _, [], _ => by simp only [toPs, PyData.eqvAll]; rfl
  | a :: as, b :: bs, h => by
    have e : eqAll f (a :: as) (b :: bs) = bif' (f a b) (eqAll f as bs) false := rfl
    rw [e, h a (by simp) b (by simp), eqAll_ok as bs fun x hx y hy => h x (by simp [hx]) y (by simp [hy])]
    simp only [toPs, PyData.eqvAll]
    cases PyData.eqv (toP a) (toP b) <;> rfl
theorem allB_mem {f : D → Bool} : ∀ {ds : List D}, allB f ds = true → ∀ d ∈ ds, f d = true
  | [], _, d, h => by cases h
  | d :: ds, e, x, h => by
    obtain ⟨e1, e2⟩ := allB_cons e
    rcases List.mem_cons.mp h with z | z
    · rw [z]; exact e1
    · exact allB_mem e2 x z
theorem eqP_ok : ∀ (n : Nat) (a b : D), plain n a = true → plain n b = true → eqP n a b = PyData.eqv (toP a) (toP b)
  | 0, a, b, ha, hb => eqF_ok ha hb (by cases a <;> first | exact ⟨rfl, rfl⟩ | cases ha)
  | n + 1, a, b, ha, hb => by
    by_cases fa : isU a = none ∧ isL a = none
    · rw [← eqF_ok ha hb fa]
      cases a <;> first | rfl | (exfalso; cases fa.1; done) | (exfalso; cases fa.2; done)
    · cases a <;> first | exact absurd ⟨rfl, rfl⟩ fa | skip
      all_goals
        rename_i as
        have ha : allB (plain n) as = true := ha
        cases b <;> first | (cases hb; done) | skip
        all_goals first
          | (simp only [toP, PyData.eqv]; rfl)
          | (rename_i bs
             have hb : allB (plain n) bs = true := hb
             simp only [toP, PyData.eqv]
             exact eqAll_ok as bs fun x hx y hy => eqP_ok n x y (allB_mem ha x hx) (allB_mem hb y hy))
section
variable {G : GC} {P P1 P2 : Pl} {H H0 H1 H2 : Hp} {d : D} {v u : V} {h : Sh}
/-- a plain datum as data in the heap -/
theorem rl_dp {n : Nat} (ih : ∀ d v, plain n d = true → R G P H d v → Dp G.K H v (toP d)) : ∀ {ds : List D} {vs : List V}, allB (plain n) ds = true → RL G P H ds vs → DpAll G.K H vs (toPs ds)
  | [], vs, _, r => by
    have r : vs = [] := r
    subst r
    simp only [toPs]
    exact .nil
  | d :: ds, vs, e, r => by
    obtain ⟨e1, e2⟩ := allB_cons e
    obtain ⟨x, xs, q, r1, r2⟩ := r.uncons
    subst q
    simp only [toPs]
    exact .cons (ih d x e1 r1) (rl_dp ih e2 r2)
theorem plain_dp : ∀ (n : Nat) (d : D) (v : V), plain n d = true → R G P H d v → Dp G.K H v (toP d)
  | 0, d, v, e, r => by
    cases d <;> first | (cases e; done) | (cases r; simp only [toP]; constructor)
  | n + 1, d, v, e, r => by
    cases d <;> first | (cases e; done) | (cases r; simp only [toP]; constructor; done) | skip
    · rename_i ds
      have e : allB (plain n) ds = true := e
      obtain ⟨p, xs, rfl, q, r⟩ := r
      simp only [toP]
      exact .tup (SqT.of q) (rl_dp (plain_dp n) e r)
    · exact r.elim
    · rename_i ds
      have e : allB (plain n) ds = true := e
      obtain ⟨p, xs, rfl, _, q, r⟩ := r
      simp only [toP]
      exact .lst (SqL.of q) (rl_dp (plain_dp n) e r)
theorem derL_dp (s : SR G P H h) (e : plain 8 (derL h d) = true) (r : RT G P H H0 d v) : Dp G.K H v (toP (derL h d)) := by
  cases d with
  | non => exact plain_dp (P := P) 8 .non v e r
  | bl b => exact plain_dp (P := P) 8 (.bl b) v e r
  | int b => exact plain_dp (P := P) 8 (.int b) v e r
  | str b => exact plain_dp (P := P) 8 (.str b) v e r
  | tup b => exact plain_dp (P := P) 8 (.tup b) v e r
  | vls b => exact plain_dp (P := P) 8 (.vls b) v e r
  | tmp ds =>
    have e : allB (plain 7) ds = true := e
    obtain ⟨p, rfl, _, _, _, xs, q, r⟩ := r
    show Dp G.K H _ (toP (.tmp ds))
    simp only [toP]
    exact .lst (SqL.of q) (rl_dp (plain_dp 7) e r)
  | tmd a b => cases e
  | vdc a b => cases e
  | gl a => cases e
  | kdc a b c => cases e
  | obj n =>
    obtain ⟨a, rfl, q⟩ := r
    revert e
    have e0 : derL h (.obj n) = (match h.get n with | some (.lst ds) => .vls ds | some (.frz ds) => .vls ds | _ => .obj n) := rfl
    rw [e0]
    cases k : h.get n with
    | none => intro e; cases e
    | some o =>
      have ho := s.at_ k q
      cases o <;> first | (intro e; cases e; done) | skip
      · rename_i ds
        intro e
        have e : allB (plain 7) ds = true := e
        obtain ⟨xs, q, r⟩ := ho
        show Dp G.K H _ (toP (.vls ds))
        simp only [toP]
        exact .lst (SqL.of q) (rl_dp (plain_dp 7) e r)
      · rename_i ds
        intro e
        have e : allB (plain 7) ds = true := e
        obtain ⟨o, xs, q, r⟩ := ho
        show Dp G.K H _ (toP (.vls ds))
        simp only [toP]
        exact .lst (.inl (.inr ⟨o, q⟩)) (rl_dp (plain_dp 7) e r)
/-! ### == and != -/
def rCmp (G : GC) (f : Sh → D → D → Option Bool) : R2 := fun v u H Q => ∃ P h H0 x y b, SR G P H h ∧ RT G P H H0 x v ∧ RT G P H H0 y u ∧ f h x y = some b ∧ Q (.bl b) H
theorem eqG_ok {x y : D} {b : Bool} (s : SR G P H h) (rx : RT G P H H0 x v) (ry : RT G P H H0 y u) (e : eqG h x y = some b) : Dp G.K H v (toP (derL h x)) ∧ Dp G.K H u (toP (derL h y)) ∧ SeqAt.shaped (toP (derL h x)) = true ∧ SeqAt.shaped (toP (derL h y)) = true ∧
    b = PyData.eqv (toP (derL h x)) (toP (derL h y)) := by
  obtain ⟨c, e⟩ := bif_some e
  obtain ⟨c1, c2⟩ := and_t c
  cases e
  exact ⟨derL_dp s c1 rx, derL_dp s c2 ry, plain_shaped (by decide) c1, plain_shaped (by decide) c2, eqP_ok 8 _ _ c1 c2⟩
theorem eqD_ok {x y : D} {b : Bool} (e : eqD h x y = some b) : (∃ i j, x = .str i ∧ y = .str j ∧ b = seq i j) ∨ eqG h x y = some b := by
  cases x with
  | int i => cases y <;> exact .inr e
  | str i =>
    cases y with
    | str j => cases e; exact .inl ⟨i, j, rfl, rfl, rfl⟩
    | _ => exact .inr e
  | _ => exact .inr e
section
variable {X : Cx}
theorem op_eqV (hK : X.K = G.K ∧ X.w = G.w) (hu : X.A.units + 64 < cLine) : OpR X (compareOp .Eq) (rCmp G eqD) := by
  intro pins s σ H v u vv uu Q I rv ru hyp
  obtain ⟨P, h, H0, x, y, b, sr, rx, ry, e, q⟩ := hyp
  rcases eqD_ok e with ⟨i, j, rfl, rfl, rfl⟩ | e
  · cases rx; cases ry
    refine op_eq pins s σ H _ _ vv uu Q I rv ru ⟨rfl, ?_⟩
    rw [dec_str, ← seq_beq]; exact q
  · obtain ⟨a, b2, c, d, rfl⟩ := eqG_ok sr rx ry e
    exact op_eqD hu pins s σ H _ _ vv uu Q I rv ru ⟨_, _, hK.1 ▸ a, hK.1 ▸ b2, c, d, q⟩
theorem op_neV (hK : X.K = G.K ∧ X.w = G.w) (hu : X.A.units + 64 < cLine) : OpR X (compareOp .NotEq) (rCmp G fun h a b => neg (eqD h a b)) := by
  intro pins s σ H v u vv uu Q I rv ru hyp
  obtain ⟨P, h, H0, x, y, b, sr, rx, ry, e, q⟩ := hyp
  obtain ⟨b, e1, e2⟩ := opt_some e
  clear e
  cases e2
  rcases eqD_ok e1 with ⟨i, j, rfl, rfl, rfl⟩ | e
  · cases rx; cases ry
    refine op_ne pins s σ H _ _ vv uu Q I rv ru ⟨rfl, ?_⟩
    rw [dec_str, ← seq_beq]; exact q
  · obtain ⟨a, b2, c, d, rfl⟩ := eqG_ok sr rx ry e
    exact op_neD hu pins s σ H _ _ vv uu Q I rv ru ⟨_, _, hK.1 ▸ a, hK.1 ▸ b2, c, d, q⟩
end
end
end Pv
end
section
set_option Elab.async false
set_option linter.all false
set_option maxRecDepth 100000
set_option maxHeartbeats 4000000
set_option autoImplicit false
/-! Dicts, membership, all comparisons. -/
namespace Pv
open PySem L2 PySem.Spec PyProof.Rows
/-! ### keys -/
theorem keyB_key (a b : Key) : keyB (keyD a) (keyD b) = decide (a = b) := by
  cases a with
  | inl i =>
    cases b with
    | inl j => show ieq i j = _; rw [key_ll, ieq_beq]
    | inr y => exact (key_lr i y).symm
  | inr x =>
    cases b with
    | inl j => exact (key_rl x j).symm
    | inr y => show seq x y = _; rw [key_rr, seq_eq]
theorem keyE_key (a b : Key) : keyE (keyD a) (keyD b) = decide (a = b) := by
  rw [← keyB_key]
  cases a <;> rfl
theorem eqAll_keys : ∀ as bs : List Key, eqAll keyB (as.map keyD) (bs.map keyD) = decide (as = bs)
  | [], [] => rfl
  | [], _ :: _ => rfl
  | _ :: _, [] => rfl
  | a :: as, b :: bs => by
    have e : eqAll keyB ((a :: as).map keyD) ((b :: bs).map keyD) = bif' (keyB (keyD a) (keyD b)) (eqAll keyB (as.map keyD) (bs.map keyD)) false := rfl
    rw [e, keyB_key, eqAll_keys as bs]
    by_cases h : a = b <;> by_cases k : as = bs <;> simp [h, k, bif']
theorem keyE_keys (a b : List Key) : keyE (keysD a) (keysD b) = decide (a = b) := eqAll_keys a b
/-! a dict's rows, by any kind of key -/
section
variable {κ : Type} [DecidableEq κ] {G : GC} {P : Pl} {H : Hp} (f : κ → D) (hf : ∀ a b, keyE (f a) (f b) = decide (a = b))
theorem lookD_cons (k k' : D) (ks : List D) (d : D) (ds : List D) : lookD k (k' :: ks) (d :: ds) = bif' (keyE k' k) (some d) (lookD k ks ds) := rfl
theorem hasD_cons (k k' : D) (ks : List D) : hasD k (k' :: ks) = bif' (keyE k' k) true (hasD k ks) := rfl
include hf
theorem look_ok (k : κ) : ∀ (kvs : List (κ × V)) (ds : List D), RL G P H ds (kvs.map (·.2)) →
    (lookD (f k) (kvs.map fun p => f p.1) ds = none ∧ valV kvs k = none) ∨ ∃ d v, lookD (f k) (kvs.map fun p => f p.1) ds = some d ∧ valV kvs k = some v ∧ R G P H d v
  | [], ds, _ => .inl ⟨rfl, rfl⟩
  | (k', v) :: kvs, ds, r => by
    cases ds with
    | nil => cases r
    | cons d ds =>
      obtain ⟨x, xs, e, r1, r2⟩ := r.uncons
      cases e
      rw [List.map_cons, lookD_cons, hf]
      by_cases h : k' = k
      · subst h
        rw [decide_eq_true rfl]
        exact .inr ⟨d, v, rfl, valV_pos rfl, r1⟩
      · rw [decide_eq_false h]
        show (lookD (f k) (kvs.map fun p => f p.1) ds = none ∧ _) ∨ ∃ d' v', lookD (f k) (kvs.map fun p => f p.1) ds = some d' ∧ _
        rw [valV_neg (p := (k', v)) h]
        exact look_ok k kvs ds r2
theorem has_ok (k : κ) : ∀ (kvs : List (κ × V)), hasD (f k) (kvs.map fun p => f p.1) = (valV kvs k).isSome
  | [] => rfl
  | (k', v) :: kvs => by
    rw [List.map_cons, hasD_cons, hf]
    by_cases h : k' = k
    · subst h
      rw [decide_eq_true rfl, valV_pos (p := (k', v)) rfl]
      rfl
    · rw [decide_eq_false h, valV_neg (p := (k', v)) h]
      exact has_ok k kvs
theorem repl_ok (k : κ) {d : D} {v : V} (rd : R G P H d v) : ∀ (kvs : List (κ × V)) (ds : List D), RL G P H ds (kvs.map (·.2)) →
    RL G P H (replD (f k) d (kvs.map fun p => f p.1) ds) ((kvs.map fun kv => if kv.1 = k then (kv.1, v) else kv).map (·.2))
  | [], ds, r => RL.nil
  | (k', w) :: kvs, ds, r => by
    cases ds with
    | nil => cases r
    | cons x ds =>
      obtain ⟨y, ys, e, r1, r2⟩ := r.uncons
      cases e
      have e : replD (f k) d (((k', w) :: kvs).map fun p => f p.1) (x :: ds) = bif' (keyE (f k') (f k)) (d :: replD (f k) d (kvs.map fun p => f p.1) ds) (x :: replD (f k) d (kvs.map fun p => f p.1) ds) := rfl
      rw [e, hf, List.map_cons, List.map_cons]
      have ih := repl_ok k rd kvs ds r2
      by_cases h : k' = k
      · rw [decide_eq_true h, if_pos h]
        exact RL.cons rd ih
      · rw [decide_eq_false h, if_neg h]
        exact RL.cons r1 ih
theorem put_ok (k : κ) {d : D} {v : V} (rd : R G P H d v) (kvs : List (κ × V)) (ds : List D) (r : RL G P H ds (kvs.map (·.2))) :
    (putD (f k) d (kvs.map fun p => f p.1) ds).1 = (putK kvs k v).map (fun p => f p.1) ∧ RL G P H (putD (f k) d (kvs.map fun p => f p.1) ds).2 ((putK kvs k v).map (·.2)) := by
  have e : putD (f k) d (kvs.map fun p => f p.1) ds = bif' (hasD (f k) (kvs.map fun p => f p.1)) ((kvs.map fun p => f p.1), replD (f k) d (kvs.map fun p => f p.1) ds) ((kvs.map fun p => f p.1) ++ [f k], ds ++ [d]) := by
    unfold putD
    rw [frL_eq, frL_eq, frL_eq]
  rw [e, has_ok f hf]
  unfold putK
  rw [valV_any]
  cases q : (valV kvs k).isSome with
  | true =>
    rw [if_pos rfl]
    refine ⟨?_, repl_ok f hf k rd kvs ds r⟩
    show (kvs.map fun p => f p.1) = _
    rw [List.map_map]
    apply List.map_congr_left
    intro p _
    show f p.1 = f (if p.1 = k then (p.1, v) else p).1
    by_cases h : p.1 = k
    · rw [if_pos h]
    · rw [if_neg h]
  | false =>
    rw [if_neg (by simp)]
    refine ⟨by simp [bif'], ?_⟩
    show RL G P H (ds ++ [d]) _
    rw [List.map_append]
    exact r.append (RL.cons rd RL.nil)
end
section
variable {G : GC} {P P1 P2 : Pl} {H H0 H1 H2 : Hp} {d : D} {v u : V} {h : Sh}
/-- the dict at p -/
inductive DK (G : GC) (P : Pl) (H : Hp) (p : Addr) (ks ds : List D) : Prop
  | k (kvs : List (Key × V)) (e : H p = some (.dK kvs)) (q : ks = kvs.map (fun p => keyD p.1)) (r : RL G P H ds (kvs.map (·.2)))
  | t (kvs : List (List Key × V)) (n : kvs ≠ []) (e : H p = some (.dT kvs)) (q : ks = kvs.map (fun p => keysD p.1)) (r : RL G P H ds (kvs.map (·.2)))
  | g (kvs : List (Key × V)) (e : KDict G.K G.w p kvs) (q : ks = kvs.map (fun p => keyD p.1)) (r : RL G P H ds (kvs.map (·.2)))
theorem dctAt_dk {p : Addr} {ks ds : List D} (x : DctAt G P H p ks ds) : DK G P H p ks ds := by
  rcases x with ⟨kvs, q, k, r⟩ | ⟨kvs, n, q, k, r⟩
  · exact .k kvs q k r
  · exact .t kvs n q k r
theorem dctOf_ok (s : SR G P H h) {ks ds : List D} (e : dctOf h d = some (ks, ds)) (r : RT G P H H0 d v) : ∃ p, v = .ref p ∧ DK G P H p ks ds := by
  cases d <;> try (cases e; done)
  · cases e
    obtain ⟨p, rfl, _, _, _, l⟩ := r
    exact ⟨p, rfl, dctAt_dk l⟩
  · cases e
    obtain ⟨p, rfl, _, l⟩ := r
    exact ⟨p, rfl, dctAt_dk l⟩
  · rename_i n
    obtain ⟨a, rfl, q⟩ := r
    exact ⟨a, rfl, dctAt_dk (s.at_ (dctOf_obj e) q)⟩
  · cases e
    obtain ⟨rfl, kvs, s, k, r⟩ := r
    exact ⟨_, rfl, .g kvs s k r⟩
theorem keyOk_key {d : D} (e : keyOk d = true) (r : R G P H d v) : ∃ k : Key, d = keyD k ∧ v = kV k := by
  cases d <;> first | (cases e; done) | skip
  · cases r; exact ⟨.inl _, rfl, rfl⟩
  · cases r; exact ⟨.inr _, rfl, rfl⟩
theorem keyOk_keys : ∀ {ds : List D} {vs : List V}, allB keyOk ds = true → RL G P H ds vs → ∃ ks : List Key, ds = ks.map keyD ∧ vs = ks.map kV
  | [], vs, _, r => ⟨[], rfl, r⟩
  | d :: ds, vs, e, r => by
    obtain ⟨e1, e2⟩ := allB_cons e
    obtain ⟨x, xs, q, r1, r2⟩ := r.uncons
    obtain ⟨k, k1, k2⟩ := keyOk_key e1 r1
    obtain ⟨ks, k3, k4⟩ := keyOk_keys e2 r2
    exact ⟨k :: ks, by rw [k1, k3]; rfl, by rw [q, k2, k4]; rfl⟩
theorem keysD_not {k : List Key} : keyOk (keysD k) = false := rfl
theorem keyD_not {k : Key} : keyTOk (keyD k) = false := by cases k <;> rfl
theorem keyD_ok {k : Key} : keyOk (keyD k) = true := by cases k <;> rfl
theorem allB_first {f : D → Bool} {κ : Type} {g : κ × V → D} {kvs : List (κ × V)} (n : kvs ≠ []) (e : allB f (kvs.map g) = true) : ∃ p ∈ kvs, f (g p) = true := by
  cases kvs with
  | nil => exact absurd rfl n
  | cons p r => exact ⟨p, by simp, (allB_cons e).1⟩
/-- a key and the dict that it is asked of -/
inductive KeyIn (G : GC) (P : Pl) (H : Hp) (p : Addr) (ks ds : List D) (k : D) (y : V) : Prop
  | k (kvs : List (Key × V)) (kk : Key) (e : H p = some (.dK kvs)) (q : ks = kvs.map (fun p => keyD p.1)) (r : RL G P H ds (kvs.map (·.2))) (ek : k = keyD kk) (ey : y = kV kk)
  | t (kvs : List (List Key × V)) (kk : List Key) (b : Addr) (e : H p = some (.dT kvs)) (q : ks = kvs.map (fun p => keysD p.1)) (r : RL G P H ds (kvs.map (·.2))) (ek : k = keysD kk) (ey : y = .ref b) (eb : H b = some (.tup (kk.map kV)))
  | g (kvs : List (Key × V)) (kk : Key) (e : KDict G.K G.w p kvs) (q : ks = kvs.map (fun p => keyD p.1)) (r : RL G P H ds (kvs.map (·.2))) (ek : k = keyD kk) (ey : y = kV kk)
theorem keyIn_of {p : Addr} {ks ds : List D} {k : D} {y : V} (x : DK G P H p ks ds) (e : keysOk k ks = true) (r : RT G P H H0 k y) : KeyIn G P H p ks ds k y := by
  by_cases c : ∃ ts, k = .tup ts
  · obtain ⟨ts, rfl⟩ := c
    have e : (allB keyOk ts && (allB keyTOk ks && !ks.isEmpty)) = true := e
    obtain ⟨e1, e2⟩ := and_t e
    obtain ⟨e2, e3⟩ := and_t e2
    obtain ⟨b, vs, rfl, q, r⟩ := tupR r
    obtain ⟨kk, k1, k2⟩ := keyOk_keys e1 r
    subst k1 k2
    cases x with
    | k kvs e4 q4 r4 =>
      subst q4
      have n : kvs ≠ [] := fun z => by subst z; simp at e3
      obtain ⟨p, _, z⟩ := allB_first n e2
      rw [keyD_not] at z; cases z
    | t kvs n e4 q4 r4 => exact .t kvs kk b e4 q4 r4 rfl rfl q
    | g kvs e4 q4 r4 =>
      subst q4
      have n : kvs ≠ [] := fun z => by subst z; simp at e3
      obtain ⟨p, _, z⟩ := allB_first n e2
      rw [keyD_not] at z; cases z
  · have e : (keyOk k && allB keyOk ks) = true := by
      cases k <;> first | exact e | exact absurd ⟨_, rfl⟩ c
    obtain ⟨e1, e2⟩ := and_t e
    have nt : isTmp k = false := by cases k <;> first | rfl | cases e1
    obtain ⟨kk, k1, k2⟩ := keyOk_key e1 (r.r nt)
    cases x with
    | k kvs e4 q4 r4 => exact .k kvs kk e4 q4 r4 k1 k2
    | t kvs n e4 q4 r4 =>
      subst q4
      obtain ⟨p, _, z⟩ := allB_first n e2
      cases z
    | g kvs e4 q4 r4 => exact .g kvs kk e4 q4 r4 k1 k2
section
variable {X : Cx} {pins : List (Addr × Obj)} {σ : L2.St} {s : Shared} {E : Value → Shared → Prop} {p : Addr} {ks ds : List D} {k : D} {y : V} {w : Value}
/-- k in d -/
theorem key_in (hK : X.K = G.K ∧ X.w = G.w) (hu : X.A.units + 1 < cLine) (I : Inv X pins σ H s) (x : KeyIn G P H p ks ds k y) (ry : RelV y w) {Q : Value → Shared → Prop} (q : ∀ s', Inv X pins σ H s' → Q (.bool (hasD k ks)) s') :
    wpAny (model X.prog X.w) X.A (compareOp .In w (.ref p)) Q E s := by
  cases x with
  | k kvs kk e q4 r4 ek ey =>
    subst q4 ek
    rw [has_ok keyD keyE_key] at q
    exact d_in hu I (.inl ⟨kvs, kk, Rd.of e, ey, rfl⟩) ry q
  | t kvs kk b e q4 r4 ek ey eb =>
    subst q4 ek
    rw [has_ok keysD keyE_keys] at q
    exact d_in hu I (.inr ⟨kvs, kk, b, Rd.of e, ey, eb, rfl⟩) ry q
  | g kvs kk e q4 r4 ek ey =>
    subst q4 ek ey
    rw [has_ok keyD keyE_key] at q
    obtain ⟨z, hd, e⟩ := e
    obtain ⟨vs, rel, dd⟩ := hK.2 ▸ e X.prog s.heap (hK.1 ▸ I.kIn)
    refine wpAny_in_of (kV_is ry) hd dd.mapOf ?_
    rw [← (rel.val kk).isSome_eq]
    exact q _ (I.tok _)
theorem key_notIn (hK : X.K = G.K ∧ X.w = G.w) (hu : X.A.units + 1 < cLine) (I : Inv X pins σ H s) (x : KeyIn G P H p ks ds k y) (ry : RelV y w) {Q : Value → Shared → Prop} (q : ∀ s', Inv X pins σ H s' → Q (.bool (!hasD k ks)) s') :
    wpAny (model X.prog X.w) X.A (compareOp .NotIn w (.ref p)) Q E s := by
  cases x with
  | k kvs kk e q4 r4 ek ey =>
    subst q4 ek
    rw [has_ok keyD keyE_key] at q
    exact d_notIn hu I (.inl ⟨kvs, kk, Rd.of e, ey, rfl⟩) ry q
  | t kvs kk b e q4 r4 ek ey eb =>
    subst q4 ek
    rw [has_ok keysD keyE_keys] at q
    exact d_notIn hu I (.inr ⟨kvs, kk, b, Rd.of e, ey, eb, rfl⟩) ry q
  | g kvs kk e q4 r4 ek ey =>
    subst q4 ek ey
    rw [has_ok keyD keyE_key] at q
    obtain ⟨z, hd, e⟩ := e
    obtain ⟨vs, rel, dd⟩ := hK.2 ▸ e X.prog s.heap (hK.1 ▸ I.kIn)
    refine wpAny_notIn_of (kV_is ry) hd dd.mapOf ?_
    rw [← (rel.val kk).isSome_eq]
    exact q _ (I.tok _)
/-- d[k], there -/
theorem key_get (hK : X.K = G.K ∧ X.w = G.w) (hu : X.A.units + 1 < cLine) (I : Inv X pins σ H s) (x : KeyIn G P H p ks ds k y) (ry : RelV y w) {d : D} (e : lookD k ks ds = some d) {Q : Value → Shared → Prop} (q : ∀ v w' s', R G P H d v → Inv X pins σ H s' → RelV v w' → Q w' s') :
    wpAny (model X.prog X.w) X.A (getItem (.ref p) w) Q E s := by
  cases x with
  | k kvs kk e4 q4 r4 ek ey =>
    subst q4 ek
    rcases look_ok keyD keyE_key kk kvs ds r4 with ⟨z, _⟩ | ⟨d', v, z, l, r⟩
    · rw [z] at e; cases e
    · rw [z] at e; cases e
      exact d_getItem hu I (.inl ⟨kvs, kk, Rd.of e4, ey, l.symm⟩) ry fun w' s' I' rv => q v w' s' r I' rv
  | t kvs kk b e4 q4 r4 ek ey eb =>
    subst q4 ek
    rcases look_ok keysD keyE_keys kk kvs ds r4 with ⟨z, _⟩ | ⟨d', v, z, l, r⟩
    · rw [z] at e; cases e
    · rw [z] at e; cases e
      exact d_getItem hu I (.inr ⟨kvs, kk, b, Rd.of e4, ey, eb, l.symm⟩) ry fun w' s' I' rv => q v w' s' r I' rv
  | g kvs kk e4 q4 r4 ek ey =>
    subst q4 ek ey
    rcases look_ok keyD keyE_key kk kvs ds r4 with ⟨z, _⟩ | ⟨d', v, z, l, r⟩
    · rw [z] at e; cases e
    · rw [z] at e; cases e
      obtain ⟨z, hd, e⟩ := e4
      obtain ⟨vs, rel, dd⟩ := hK.2 ▸ e X.prog s.heap (hK.1 ▸ I.kIn)
      obtain ⟨w', hw, rw'⟩ := RelO.some_of (v := v) (o := valueAt vs kk) (by rw [← l]; exact rel.val kk)
      exact wpAny_getItem_of (kV_is ry) dd.mapOf hw (q v w' _ r (I.tok _) rw')
end
/-! ### in a row -/
theorem inP_any (x : D) : ∀ ds : List D, plain 8 x = true → allB (plain 8) ds = true → inP x ds = (toPs ds).any fun y => PyData.eqv y (toP x)
  | [], _, _ => by simp only [toPs]; rfl
  | y :: ys, hx, e => by
    obtain ⟨e1, e2⟩ := allB_cons e
    have e3 : inP x (y :: ys) = bif' (eqP 8 y x) true (inP x ys) := rfl
    rw [e3, eqP_ok 8 y x e1 hx, inP_any x ys hx e2]
    simp only [toPs, List.any_cons]
    cases PyData.eqv (toP y) (toP x) <;> rfl
theorem plainAll_of {ds : List D} (e : allB (plain 8) ds = true) : PyData.plainAll (toPs ds) = true := PyData.plainAll_of_canLay0 _ (plain_lst (plain_ok 8) e).1
theorem plain_of {d : D} (e : plain 8 d = true) : (toP d).plain = true := PyData.plain_of_canLay0 _ (plain_ok 8 d e).1
theorem depth_of {ds : List D} (e : allB (plain 8) ds = true) : PyData.depthAll (toPs ds) ≤ 8 := (plain_lst (plain_ok 8) e).2
theorem plain_rt {d : D} (e : plain 8 d = true) (r : RT G P H H0 d v) : Dp G.K H v (toP d) := by
  by_cases t : isTmp d = false
  · exact plain_dp 8 d v e (r.r t)
  · cases d <;> first | exact absurd rfl t | skip
    · rename_i ds
      have e : allB (plain 7) ds = true := e
      obtain ⟨p, rfl, _, _, _, xs, q, r⟩ := r
      simp only [toP]
      exact .lst (SqL.of q) (rl_dp (plain_dp 7) e r)
    · cases e
section
variable {X : Cx}
theorem op_inV (hK : X.K = G.K ∧ X.w = G.w) (hu : X.A.units + 64 < cLine) : OpR X (compareOp .In) (rCmp G inD) := by
  intro pins s σ H v u vv uu Q I rv ru hyp
  obtain ⟨P, h, H0, x, y, b, sr, rx, ry, e, q⟩ := hyp
  unfold inD at e
  cases c : dctOf h y with
  | some kd =>
    obtain ⟨ks, ds⟩ := kd
    rw [c] at e
    have e : bif' (keysOk x ks) (some (hasD x ks)) none = some b := e
    obtain ⟨e1, e2⟩ := bif_some e
    cases e2
    obtain ⟨p, rfl, dk⟩ := dctOf_ok sr c ry
    cases ru
    exact key_in hK (by omega) I (keyIn_of dk e1 rx) rv fun s' I' => ⟨.bl _, H, I', rfl, q⟩
  | none =>
    rw [c] at e
    have e : opt' (rdQ h y) none (fun ds => inL x ds) = some b := e
    rw [(funext fun ds => inL_eq x ds : (fun ds => inL x ds) = fun ds => inL0 x ds)] at e
    obtain ⟨ds, e1, e2⟩ := opt_some e
    obtain ⟨e2, e3⟩ := bif_some e2
    obtain ⟨e4, e5⟩ := and_t e2
    cases e3
    obtain ⟨p, xs, rfl, hq, r⟩ := rdQ_ok sr e1 ry
    cases ru
    obtain ⟨bs, rx⟩ := (hK.1 ▸ plain_rt e4 rx : Dp X.K H v (toP x)).reads I _ _ _ rv
    rw [inP_any x ds e4 e5] at q
    have hd : X.A.units + 1 + min (PyData.depthAll (toPs ds)) (toP x).depth < cLine := by
      have := depth_of e5
      omega
    have da : DpAll X.K H xs (toPs ds) := hK.1 ▸ rl_dp (plain_dp 8) e5 r
    rcases hq with hq | hq
    · obtain ⟨as, rc⟩ := Dp.reads I (.list (toPs ds)) (.ref p) (.ref p) (.lst (hK.1 ▸ hq) da) rfl
      exact SeqAt.in_list_data rc rx (plainAll_of e5) (plain_of e4) hd ⟨.bl _, H, I, rfl, q⟩
    · obtain ⟨as, rc⟩ := Dp.reads I (.tuple (toPs ds)) (.ref p) (.ref p) (.tup (hK.1 ▸ hq) da) rfl
      exact SeqAt.in_tuple_data rc rx (plainAll_of e5) (plain_of e4) hd ⟨.bl _, H, I, rfl, q⟩
theorem op_notInV (hK : X.K = G.K ∧ X.w = G.w) (hu : X.A.units + 64 < cLine) : OpR X (compareOp .NotIn) (rCmp G fun h a b => neg (inD h a b)) := by
  intro pins s σ H v u vv uu Q I rv ru hyp
  obtain ⟨P, h, H0, x, y, b, sr, rx, ry, e, q⟩ := hyp
  obtain ⟨b, e0, e2⟩ := opt_some e
  clear e
  cases e2
  have e := e0
  unfold inD at e
  cases c : dctOf h y with
  | some kd =>
    obtain ⟨ks, ds⟩ := kd
    rw [c] at e
    have e : bif' (keysOk x ks) (some (hasD x ks)) none = some b := e
    obtain ⟨e1, e2⟩ := bif_some e
    cases e2
    obtain ⟨p, rfl, dk⟩ := dctOf_ok sr c ry
    cases ru
    exact key_notIn hK (by omega) I (keyIn_of dk e1 rx) rv fun s' I' => ⟨.bl _, H, I', rfl, q⟩
  | none =>
    rw [c] at e
    have e : opt' (rdQ h y) none (fun ds => inL x ds) = some b := e
    rw [(funext fun ds => inL_eq x ds : (fun ds => inL x ds) = fun ds => inL0 x ds)] at e
    obtain ⟨ds, e1, e2⟩ := opt_some e
    obtain ⟨e2, e3⟩ := bif_some e2
    obtain ⟨e4, e5⟩ := and_t e2
    cases e3
    obtain ⟨p, xs, rfl, hq, r⟩ := rdQ_ok sr e1 ry
    cases ru
    obtain ⟨bs, rx⟩ := (hK.1 ▸ plain_rt e4 rx : Dp X.K H v (toP x)).reads I _ _ _ rv
    rw [inP_any x ds e4 e5] at q
    have hd : X.A.units + 1 + min (PyData.depthAll (toPs ds)) (toP x).depth < cLine := by
      have := depth_of e5
      omega
    have da : DpAll X.K H xs (toPs ds) := hK.1 ▸ rl_dp (plain_dp 8) e5 r
    rcases hq with hq | hq
    · obtain ⟨as, rc⟩ := Dp.reads I (.list (toPs ds)) (.ref p) (.ref p) (.lst (hK.1 ▸ hq) da) rfl
      exact SeqAt.notIn_list_data rc rx (plainAll_of e5) (plain_of e4) hd ⟨.bl _, H, I, rfl, q⟩
    · obtain ⟨as, rc⟩ := Dp.reads I (.tuple (toPs ds)) (.ref p) (.ref p) (.tup (hK.1 ▸ hq) da) rfl
      exact SeqAt.notIn_tuple_data rc rx (plainAll_of e5) (plain_of e4) hd ⟨.bl _, H, I, rfl, q⟩
/-! ### all -/
def cmpOf : Cop → CmpOp
  | .eq => .Eq
  | .ne => .NotEq
  | .lt => .Lt
  | .le => .LtE
  | .gt => .Gt
  | .ge => .GtE
  | .is => .Is
  | .isnot => .IsNot
  | .isin => .In
  | .notin => .NotIn
theorem ordI_ok {f : Int → Int → Bool} {x y : D} {b : Bool} (e : ordI f x y = some b) : ∃ i j, x = .int i ∧ y = .int j ∧ b = f i j := by
  cases x <;> first | (cases e; done) | skip
  cases y <;> first | (cases e; done) | skip
  cases e
  exact ⟨_, _, rfl, rfl, rfl⟩
theorem isNon_ok (r : RT G P H H0 d v) : isNon d = decide (v = V.non) := by
  cases d
  · have r : v = .non := r
    rw [r, decide_eq_true rfl]; rfl
  all_goals
    refine (decide_eq_false fun z => ?_).symm
    subst z
    first
      | (cases r; done)
      | (obtain ⟨_, _, e, _⟩ := r; cases e; done)
      | (obtain ⟨_, e, _⟩ := r; cases e; done)
      | (obtain ⟨e, _⟩ := r; cases e; done)
theorem op_cmpV (hK : X.K = G.K ∧ X.w = G.w) (hu : X.A.units + 64 < cLine) (o : Cop) : OpR X (compareOp (cmpOf o)) (rCmp G fun h a b => cmpD h o a b) := by
  cases o with
  | eq => exact op_eqV hK hu
  | ne => exact op_neV hK hu
  | isin => exact op_inV hK hu
  | notin => exact op_notInV hK hu
  | lt =>
    intro pins s σ H v u vv uu Q I rv ru ⟨P, h, H0, x, y, b, sr, rx, ry, e, q⟩
    obtain ⟨i, j, rfl, rfl, rfl⟩ := ordI_ok e
    cases rx; cases ry
    exact op_lt pins s σ H _ _ vv uu Q I rv ru ⟨i, j, rfl, rfl, by show Q (.bl (decide (i < j))) H; rw [← ilt_eq]; exact q⟩
  | le =>
    intro pins s σ H v u vv uu Q I rv ru ⟨P, h, H0, x, y, b, sr, rx, ry, e, q⟩
    obtain ⟨i, j, rfl, rfl, rfl⟩ := ordI_ok e
    cases rx; cases ry
    exact op_le pins s σ H _ _ vv uu Q I rv ru ⟨i, j, rfl, rfl, by show Q (.bl (decide (i ≤ j))) H; rw [← ile_eq]; exact q⟩
  | gt =>
    intro pins s σ H v u vv uu Q I rv ru ⟨P, h, H0, x, y, b, sr, rx, ry, e, q⟩
    obtain ⟨i, j, rfl, rfl, rfl⟩ := ordI_ok e
    cases rx; cases ry
    exact op_gt pins s σ H _ _ vv uu Q I rv ru ⟨i, j, rfl, rfl, by show Q (.bl (decide (j < i))) H; rw [← ilt_eq]; exact q⟩
  | ge =>
    intro pins s σ H v u vv uu Q I rv ru ⟨P, h, H0, x, y, b, sr, rx, ry, e, q⟩
    obtain ⟨i, j, rfl, rfl, rfl⟩ := ordI_ok e
    cases rx; cases ry
    exact op_ge pins s σ H _ _ vv uu Q I rv ru ⟨i, j, rfl, rfl, by show Q (.bl (decide (j ≤ i))) H; rw [← ile_eq]; exact q⟩
  | is =>
    intro pins s σ H v u vv uu Q I rv ru ⟨P, h, H0, x, y, b, sr, rx, ry, e, q⟩
    have e : isD x y = some b := e
    cases y <;> first | (cases e; done) | skip
    · cases e
      cases ry
      rw [isNon_ok rx] at q
      exact op_isN pins s σ H _ _ vv uu Q I rv ru ⟨rfl, q⟩
    · cases x <;> first | (cases e; done) | skip
      cases e
      cases rx; cases ry
      rename_i a b
      refine op_isBl pins s σ H _ _ vv uu Q I rv ru ⟨_, _, rfl, rfl, ?_⟩
      have e : decide (b = a) = (b == a) := by cases a <;> cases b <;> rfl
      rw [e]; exact q
  | isnot =>
    intro pins s σ H v u vv uu Q I rv ru ⟨P, h, H0, x, y, b, sr, rx, ry, e, q⟩
    have e : isnD x y = some b := e
    cases y <;> first | (cases e; done) | skip
    cases e
    cases ry
    rw [isNon_ok rx] at q
    exact op_notN pins s σ H _ _ vv uu Q I rv ru ⟨rfl, q⟩
end
end
end Pv
end
section
set_option Elab.async false
set_option linter.all false
set_option maxRecDepth 100000
set_option maxHeartbeats 4000000
set_option autoImplicit false
/-! Subscripts, builtins. -/
namespace Pv
open PySem L2 PySem.Spec PyProof.Rows
section
variable {G : GC} {P P1 P2 : Pl} {H H0 H1 H2 : Hp} {d : D} {v u : V} {vs : List V} {h : Sh}
/-! ### places -/
theorem ixP_ok {n : Nat} {i : Int} {j : Nat} (e : ixP n i = some j) : ixN n i = some j := by
  cases i with
  | ofNat k =>
    have e : bif' (Nat.blt k n) (some k) none = some j := e
    obtain ⟨c, e⟩ := bif_some e
    cases e
    have c := blt_t c
    unfold ixN
    rw [if_pos (by exact Int.natCast_nonneg _), if_pos (by exact Int.ofNat_lt.mpr c)]
    rfl
  | negSucc k =>
    have e : bif' (Nat.blt k n) (some (n - 1 - k)) none = some j := e
    obtain ⟨c, e⟩ := bif_some e
    cases e
    have c := blt_t c
    unfold ixN
    rw [if_neg (by omega), if_pos (by omega)]
    congr 1
    omega
theorem ixP_lt {n : Nat} {i : Int} {j : Nat} (e : ixP n i = some j) : j < n := (ixN_seq (ixP_ok e)).2.1
def rIxV (G : GC) : R2 := fun v u H Q => ∃ P h H0 x y d, SR G P H h ∧ RT G P H H0 x v ∧ RT G P H H0 y u ∧ ixD h x y = some d ∧ ∀ w, R G P H d w → Q w H
theorem RL.noTmp : ∀ {ds : List D} {vs : List V}, RL G P H ds vs → ∀ d ∈ ds, isTmp d = false
  | [], _, _, d, m => by cases m
  | d :: ds, vs, r, x, m => by
    obtain ⟨y, ys, q, r1, r2⟩ := r.uncons
    rcases List.mem_cons.mp m with z | z
    · rw [z]; exact r1.noTmp
    · exact RL.noTmp r2 x z
section
variable {X : Cx}
theorem ix_V (hK : X.K = G.K ∧ X.w = G.w) (hu : X.A.units + 64 < cLine) : IxR X (rIxV G) := by
  intro value slice pins s σ H v u vv uu Q I rv ru hyp hs
  obtain ⟨P, h, H0, x, y, d, sr, rx, ry, e, q⟩ := hyp
  rw [ixD_eq] at e
  cases c : dctOf h x with
  | some kd =>
    obtain ⟨ks, ds⟩ := kd
    rw [c] at e
    have e : bif' (keysOk y ks) (lookD y ks ds) none = some d := e
    obtain ⟨e1, e2⟩ := bif_some e
    obtain ⟨p, rfl, dk⟩ := dctOf_ok sr c rx
    cases rv
    have ki := keyIn_of dk e1 ry
    have ty : s.TypeIs (.ref p) "dict" := by
      cases ki with
      | k kvs kk e _ _ _ _ => obtain ⟨_, _, vs, _, dd⟩ := dk_rd I.hok (Rd.of e); exact dd.typeIs
      | t kvs kk b e _ _ _ _ _ => obtain ⟨_, _, vs, _, dd⟩ := dt_rd I.hok (Rd.of e); exact dd.typeIs
      | g kvs kk e _ _ _ _ => obtain ⟨_, _, e⟩ := e; obtain ⟨_, _, dd⟩ := hK.2 ▸ e X.prog s.heap (hK.1 ▸ I.kIn); exact dd.typeIs
    exact tail_any ty PySem.F.slot_dict_getitem.lookup (key_get hK (by omega) I ki ru e2 fun w w' s' r I' rw' => ⟨w, H, I', rw', q w r⟩) hs
  | none =>
    rw [c] at e
    have e : opt' (rdQ h x) none (fun ds => ixL0 ds y) = some d := e
    obtain ⟨ds, e1, e2⟩ := opt_some e
    obtain ⟨p, xs, rfl, hq, r⟩ := rdQ_ok sr e1 rx
    have hy : ∃ i, y = .int i := by cases y <;> first | exact ⟨_, rfl⟩ | cases e2
    obtain ⟨i, rfl⟩ := hy
    cases ry
    have e2 : opt' (ixP (lenK ds) i) none (fun j => nthK ds j) = some d := e2
    obtain ⟨j, e3, e4⟩ := opt_some e2
    rw [lenK_eq] at e3
    rw [nthK_eq] at e4
    obtain ⟨w, h1, h2⟩ := r.get e4
    have at_ : atI xs i = some w := by
      unfold atI
      rw [r.length, ixP_ok e3]
      exact h1
    rcases hq with hq | hq
    · exact ix_list value slice pins s σ H _ _ vv uu Q I rv ru ⟨p, xs, i, w, rfl, rfl, hK.1 ▸ hq, at_, q w h2⟩ hs
    · exact ix_tup value slice pins s σ H _ _ vv uu Q I rv ru ⟨p, xs, i, w, rfl, rfl, hK.1 ▸ hq, at_, q w h2⟩ hs
/-! ### builtins -/
def rBi (G : GC) (b : Bi) : List V → Hp → VK → Prop := fun vs H Q => ∃ P h H0 ds d, SR G P H h ∧ RTL G P H H0 ds vs ∧ biD h b ds = some d ∧ GivD G P H h d Q
theorem rtl1 (r : RTL G P H H0 [d] vs) : ∃ v, vs = [v] ∧ RT G P H H0 d v := by
  obtain ⟨x, xs, e, r1, r2⟩ := r
  have r2 : xs = [] := r2
  subst r2
  exact ⟨x, e, r1⟩
theorem rtl2 {d2 : D} (r : RTL G P H H0 [d, d2] vs) : ∃ v v2, vs = [v, v2] ∧ RT G P H H0 d v ∧ RT G P H H0 d2 v2 := by
  obtain ⟨x, xs, e, r1, r2⟩ := r
  obtain ⟨y, q, r2⟩ := rtl1 r2
  exact ⟨x, y, by rw [e, q], r1, r2⟩
theorem blsD_ok : ∀ {ds : List D} {bs : List Bool} {vs : List V}, blsD ds = some bs → RL G P H ds vs → vs = bs.map V.bl
  | [], bs, vs, e, r => by cases e; exact r
  | d :: ds, bs, vs, e, r => by
    cases d <;> first | (cases e; done) | skip
    rename_i b
    have e : opt' (blsD ds) none (fun is => some (b :: is)) = some bs := e
    obtain ⟨bs', e1, e2⟩ := opt_some e
    cases e2
    obtain ⟨x, xs, q, r1, r2⟩ := r.uncons
    cases r1
    rw [q, blsD_ok e1 r2]
    rfl
theorem intsD_ok : ∀ {ds : List D} {bs : List Int} {vs : List V}, intsD ds = some bs → RL G P H ds vs → vs = bs.map V.int
  | [], bs, vs, e, r => by cases e; exact r
  | d :: ds, bs, vs, e, r => by
    cases d <;> first | (cases e; done) | skip
    rename_i b
    have e : opt' (intsD ds) none (fun is => some (b :: is)) = some bs := e
    obtain ⟨bs', e1, e2⟩ := opt_some e
    cases e2
    obtain ⟨x, xs, q, r1, r2⟩ := r.uncons
    cases r1
    rw [q, intsD_ok e1 r2]
    rfl
theorem andL_eq : ∀ bs : List Bool, andL bs = bs.all id
  | [] => rfl
  | b :: bs => by
    have e : andL (b :: bs) = bif' b (andL bs) false := rfl
    rw [e, andL_eq bs]
    cases b <;> rfl
theorem orL_eq : ∀ bs : List Bool, orL bs = bs.any id
  | [] => rfl
  | b :: bs => by
    have e : orL (b :: bs) = bif' b true (orL bs) := rfl
    rw [e, orL_eq bs]
    cases b <;> rfl
theorem sumL_eq : ∀ bs : List Int, sumL bs = bs.sum
  | [] => rfl
  | b :: bs => by
    rw [sumL, sumL_eq bs, List.sum_cons]
theorem call_lenV (hK : X.K = G.K ∧ X.w = G.w) {x : D} {n : Nat} {H0 : Hp} {v : V} {P : Pl} {h : Sh} {H : Hp} (sr : SR G P H h) (rx : RT G P H H0 x v) (e : lenD h x = some n) {pins : List (Addr × Obj)} {s : Shared} {σ : L2.St} {us : List Value} {Q : VK} (I : Inv X pins σ H s) (r : Vals [v] us) (q : Q (.int n) H) :
    wpAny (model X.prog X.w) X.A (call (.builtin "len") us) (EP X pins σ Q) X.xe s := by
  by_cases c : ∃ z, x = .str z
  · obtain ⟨z, rfl⟩ := c
    have e : bif' (smallL z.length) (some z.length) none = some n := e
    obtain ⟨e1, e2⟩ := bif_some e
    cases e2
    cases rx
    exact call_len_str pins s σ H _ us Q I r ⟨z, rfl, smallL_le e1, q⟩
  have e : opt' (dctOf h x) (opt' (rdQ h x) none fun ds => some (lenK ds)) (fun p => some (lenK p.1)) = some n := by
    cases x <;> first | exact absurd ⟨_, rfl⟩ c | exact e
  cases k : dctOf h x with
  | some kd =>
    obtain ⟨ks, ds⟩ := kd
    rw [k] at e
    have e : some (lenK ks) = some n := e
    cases e
    rw [lenK_eq] at q
    obtain ⟨p, rfl, dk⟩ := dctOf_ok sr k rx
    cases dk with
    | k kvs e1 e2 e3 =>
      subst e2
      obtain ⟨u, rfl, ru⟩ := vals1 r
      cases ru
      refine d_len I (Rd.of e1) fun t s' I' => ⟨.int _, H, I', ⟨t, rfl⟩, ?_⟩
      rw [List.length_map] at q
      exact q
    | t kvs n e1 e2 e3 =>
      subst e2
      rw [List.length_map] at q
      exact call_len_dT pins s σ H _ us Q I r ⟨p, kvs, rfl, e1, q⟩
    | g kvs e1 e2 e3 =>
      subst e2
      obtain ⟨u, rfl, ru⟩ := vals1 r
      cases ru
      obtain ⟨z, hd, e⟩ := e1
      obtain ⟨vs, rel, dd⟩ := hK.2 ▸ e X.prog s.heap (hK.1 ▸ I.kIn)
      refine call_len_dict hd dd (by rw [← rel.length]; rw [sizeLine_eq] at z; omega) ⟨.int kvs.length, H, I.tok _, ⟨_, by rw [← rel.length]⟩, ?_⟩
      rw [List.length_map] at q
      exact q
  | none =>
    rw [k] at e
    have e : opt' (rdQ h x) none (fun ds => some (lenK ds)) = some n := e
    obtain ⟨ds, e1, e2⟩ := opt_some e
    cases e2
    rw [lenK_eq] at q
    obtain ⟨p, xs, rfl, hq, r2⟩ := rdQ_ok sr e1 rx
    exact call_len_seq pins s σ H _ us Q I r ⟨p, xs, rfl, hK.1 ▸ hq, by rw [r2.length]; exact q⟩
theorem int_of {x : D} {b : Bi} {h : Sh} {d : D} (nb : b = .abs) (e : bi1 h b x = some d) : ∃ i, x = .int i ∧ d = .int (if i < 0 then -i else i) := by
  subst nb
  cases x <;> first | (cases e; done) | skip
  rename_i i
  have e : frI (if i < 0 then -i else i) (fun i => some (D.int i)) = some d := e
  rw [frI_eq] at e
  cases e
  exact ⟨i, rfl, rfl⟩
def biV : Bi → Value
  | .len => .builtin "len"
  | .all => .builtin "all"
  | .any => .builtin "any"
  | .tuple => .type "tuple"
  | .list => .type "list"
  | .min => .builtin "min"
  | .max => .builtin "max"
  | .min2 => .builtin "min"
  | .max2 => .builtin "max"
  | .sum => .builtin "sum"
  | .sorted => .builtin "sorted"
  | .abs => .builtin "abs"
  | .int => .type "int"
  | .divmod => .builtin "divmod"
theorem biD_1 {b : Bi} {ds : List D} {h : Sh} {d : D} (nb : b ≠ .min2 ∧ b ≠ .max2 ∧ b ≠ .divmod) (e : biD h b ds = some d) : ∃ x, ds = [x] ∧ bi1 h b x = some d := by
  match ds, e with
  | [x], e => exact ⟨x, rfl, e⟩
  | [x, y], e =>
    exfalso
    have e : bi2 b x y = some d := e
    cases x <;> first | (cases e; done) | skip
    cases y <;> first | (cases e; done) | skip
    cases b <;> first | (cases e; done) | exact nb.1 rfl | exact nb.2.1 rfl | exact nb.2.2 rfl
theorem biD_2 {b : Bi} {ds : List D} {h : Sh} {d : D} (nb : b = .min2 ∨ b = .max2 ∨ b = .divmod) (e : biD h b ds = some d) : ∃ i j, ds = [.int i, .int j] ∧ biI b i j = some d := by
  match ds, e with
  | [x], e =>
    exfalso
    have e : bi1 h b x = some d := e
    rcases nb with rfl | rfl | rfl <;> cases e
  | [x, y], e =>
    have e : bi2 b x y = some d := e
    cases x <;> first | (cases e; done) | skip
    cases y <;> first | (cases e; done) | skip
    exact ⟨_, _, rfl, e⟩
theorem GivD.r {d : D} {Q : VK} {v : V} (g : GivD G P H h d Q) (s : SR G P H h) (r : R G P H d v) : Q v H := g.here s (RT.of r.noTmp r)
theorem ltD_int {ns : List Int} {n : Int} : minL (.int n) (ns.map D.int) = .int (ns.foldl min n) := by
  induction ns generalizing n with
  | nil => rfl
  | cons k r ih =>
    have e : minL (.int n) ((k :: r).map D.int) = bif' (ilt k n) (minL (.int k) (r.map D.int)) (minL (.int n) (r.map D.int)) := rfl
    rw [e, ilt_eq, List.foldl_cons]
    by_cases h : k < n
    · rw [decide_eq_true h]
      show minL (.int k) (r.map D.int) = _
      rw [ih]
      congr 2
      omega
    · rw [decide_eq_false h]
      show minL (.int n) (r.map D.int) = _
      rw [ih]
      congr 2
      omega
end
end
end Pv
end
section
set_option Elab.async false
set_option linter.all false
set_option maxRecDepth 100000
set_option maxHeartbeats 4000000
set_option autoImplicit false
/-! Order: min, max, sorted; all builtins. -/
namespace Pv
open PySem L2 PySem.Spec PyProof.Rows PySem.W
/-- whole numbers, tuples of these -/
def Ord1 (d : D) : Prop := ∃ i, d = .int i
def OrdT (d : D) : Prop := ∃ (i : Int) (is : List Int), d = .tup (D.int i :: is.map D.int)
def OrdAll (ds : List D) : Prop := (∀ d ∈ ds, Ord1 d) ∨ ∀ d ∈ ds, OrdT d
theorem ints_of : ∀ {ds : List D}, allB ordOk ds = true → ∃ is : List Int, ds = is.map D.int
  | [], _ => ⟨[], rfl⟩
  | d :: ds, e => by
    obtain ⟨e1, e2⟩ := allB_cons e
    obtain ⟨is, q⟩ := ints_of e2
    cases d <;> first | (cases e1; done) | skip
    rename_i i
    exact ⟨i :: is, by rw [q]; rfl⟩
theorem ordAll_ok {ds : List D} (e : ordAll ds = true) : OrdAll ds := by
  have e : bif' (allB ordOk ds) true (allB ordTOk ds) = true := e
  cases c : allB ordOk ds with
  | true =>
    refine .inl fun d m => ?_
    have := allB_mem c d m
    cases d <;> first | (cases this; done) | exact ⟨_, rfl⟩
  | false =>
    rw [c] at e
    refine .inr fun d m => ?_
    have := allB_mem e d m
    cases d <;> first | (cases this; done) | skip
    rename_i xs
    have t : (Nat.blt 0 (lenK xs) && allB ordOk xs) = true := this
    obtain ⟨t1, t2⟩ := and_t t
    obtain ⟨is, q⟩ := ints_of t2
    cases is with
    | nil => subst q; cases t1
    | cons i is => exact ⟨i, is, by rw [q]; rfl⟩
theorem toPs_ints : ∀ is : List Int, toPs (is.map D.int) = is.map PyData.int
  | [] => by simp [toPs]
  | i :: is => by
    simp only [List.map_cons, toPs, toP, toPs_ints is]
theorem ltL_ints : ∀ as bs : List Int, ltL (as.map D.int) (bs.map D.int) = decide (as < bs)
  | [], [] => by simp [ltL]
  | [], _ :: _ => by simp [ltL]
  | _ :: _, [] => by simp [ltL]
  | a :: as, b :: bs => by
    have e : ltL ((a :: as).map D.int) ((b :: bs).map D.int) = bif' (ieq a b) (ltL (as.map D.int) (bs.map D.int)) (ilt a b) := rfl
    rw [e, ieq_eq, ltL_ints as bs, ilt_eq]
    by_cases h : a = b
    · subst h
      rw [decide_eq_true rfl]
      show decide (as < bs) = _
      simp
    · rw [decide_eq_false h]
      show decide (a < b) = _
      have : ((a :: as) < (b :: bs)) ↔ a < b := by
        rw [List.cons_lt_cons_iff]
        simp [h]
      simp only [this]
theorem lt_data1 {a b : D} (h : (Ord1 a ∧ Ord1 b) ∨ (OrdT a ∧ OrdT b)) : ltD a b = dataLt (toP a) (toP b) := by
  rcases h with ⟨⟨i, rfl⟩, ⟨j, rfl⟩⟩ | ⟨⟨i, is, rfl⟩, ⟨j, js, rfl⟩⟩
  · simp only [toP]
    rw [dataLt_int]
    exact ilt_eq i j
  · have e1 : D.int i :: is.map D.int = (i :: is).map D.int := rfl
    have e2 : D.int j :: js.map D.int = (j :: js).map D.int := rfl
    rw [e1, e2]
    simp only [toP]
    rw [toPs_ints, toPs_ints, dataLt_tuple]
    show ltL _ _ = rowLt _ _
    rw [dataLt_ints, ltL_ints]
theorem ord_two {ds : List D} (o : OrdAll ds) {a b : D} (ha : a ∈ ds) (hb : b ∈ ds) : (Ord1 a ∧ Ord1 b) ∨ (OrdT a ∧ OrdT b) := by
  rcases o with o | o
  · exact .inl ⟨o a ha, o b hb⟩
  · exact .inr ⟨o a ha, o b hb⟩
theorem ord_inj {a b : D} (h : (Ord1 a ∧ Ord1 b) ∨ (OrdT a ∧ OrdT b)) (e : toP a = toP b) : a = b := by
  have inj : ∀ is js : List Int, is.map PyData.int = js.map PyData.int → is = js := fun is js q => (List.map_inj_right (fun x y z => by cases z; rfl)).mp q
  rcases h with ⟨⟨i, rfl⟩, ⟨j, rfl⟩⟩ | ⟨⟨i, is, rfl⟩, ⟨j, js, rfl⟩⟩
  · simp only [toP] at e
    cases e; rfl
  · have e1 : D.int i :: is.map D.int = (i :: is).map D.int := rfl
    have e2 : D.int j :: js.map D.int = (j :: js).map D.int := rfl
    rw [e1, e2] at e ⊢
    simp only [toP, toPs_ints] at e
    injection e with e
    rw [inj _ _ e]
theorem ord_tri {a b : D} (h : (Ord1 a ∧ Ord1 b) ∨ (OrdT a ∧ OrdT b)) (e1 : ltD a b = false) (e2 : ltD b a = false) : a = b := by
  rcases h with ⟨⟨i, rfl⟩, ⟨j, rfl⟩⟩ | ⟨⟨i, is, rfl⟩, ⟨j, js, rfl⟩⟩
  · have e1 : ilt i j = false := e1
    have e2 : ilt j i = false := e2
    rw [ilt_eq, decide_eq_false_iff_not] at e1 e2
    congr 1
    omega
  · have e1 : ltL ((i :: is).map D.int) ((j :: js).map D.int) = false := e1
    have e2 : ltL ((j :: js).map D.int) ((i :: is).map D.int) = false := e2
    rw [ltL_ints, decide_eq_false_iff_not] at e1 e2
    have : (i :: is) = (j :: js) := by
      have a := List.not_lt.mp e1
      have b := List.not_lt.mp e2
      exact List.le_antisymm b a
    cases this
    rfl
theorem ord_alike {a b : D} (h : (Ord1 a ∧ Ord1 b) ∨ (OrdT a ∧ OrdT b)) : alike (toP a) (toP b) = true := by
  rcases h with ⟨⟨i, rfl⟩, ⟨j, rfl⟩⟩ | ⟨⟨i, is, rfl⟩, ⟨j, js, rfl⟩⟩
  · simp only [toP, alike]
  · have e1 : D.int i :: is.map D.int = (i :: is).map D.int := rfl
    have e2 : D.int j :: js.map D.int = (j :: js).map D.int := rfl
    rw [e1, e2]
    simp only [toP, toPs_ints, alike]
    exact alike_ints _ _
theorem ord_plain {a : D} (h : Ord1 a ∨ OrdT a) : plain 8 a = true := by
  rcases h with ⟨i, rfl⟩ | ⟨i, is, rfl⟩
  · rfl
  · show allB (plain 7) (D.int i :: is.map D.int) = true
    have e1 : D.int i :: is.map D.int = (i :: is).map D.int := rfl
    rw [e1]
    generalize i :: is = l
    induction l with
    | nil => rfl
    | cons a l ih => exact ih
theorem OrdAll.plain {ds : List D} (o : OrdAll ds) : allB (Pv.plain 8) ds = true := by
  have : ∀ d ∈ ds, Pv.plain 8 d = true := fun d m => by
    rcases o with o | o
    · exact ord_plain (.inl (o d m))
    · exact ord_plain (.inr (o d m))
  clear o
  induction ds with
  | nil => rfl
  | cons d ds ih =>
    have e : allB (Pv.plain 8) (d :: ds) = bif' (Pv.plain 8 d) (allB (Pv.plain 8) ds) false := rfl
    rw [e, this d (by simp), ih fun x m => this x (by simp [m])]
    rfl
theorem toPs_map : ∀ ds : List D, toPs ds = ds.map toP
  | [] => by simp [toPs]
  | d :: ds => by simp only [toPs, List.map_cons, toPs_map ds]
/-! ### min, max -/
theorem minL_mem (d : D) : ∀ ds : List D, minL d ds ∈ d :: ds
  | [] => by simp [minL]
  | e :: es => by
    have q : minL d (e :: es) = bif' (ltD e d) (minL e es) (minL d es) := rfl
    rw [q]
    cases ltD e d with
    | true => exact List.mem_cons_of_mem _ (minL_mem e es)
    | false =>
      rcases List.mem_cons.mp (minL_mem d es) with z | z
      · rw [bif_false, z]; simp
      · rw [bif_false]; simp [z]
theorem maxL_mem (d : D) : ∀ ds : List D, maxL d ds ∈ d :: ds
  | [] => by simp [maxL]
  | e :: es => by
    have q : maxL d (e :: es) = bif' (ltD d e) (maxL e es) (maxL d es) := rfl
    rw [q]
    cases ltD d e with
    | true => exact List.mem_cons_of_mem _ (maxL_mem e es)
    | false =>
      rcases List.mem_cons.mp (maxL_mem d es) with z | z
      · rw [bif_false, z]; simp
      · rw [bif_false]; simp [z]
theorem OrdAll.sub {ds es : List D} (o : OrdAll ds) (h : ∀ d ∈ es, d ∈ ds) : OrdAll es := by
  rcases o with o | o
  · exact .inl fun d m => o d (h d m)
  · exact .inr fun d m => o d (h d m)
theorem minL_data (d : D) : ∀ ds : List D, OrdAll (d :: ds) → toP (minL d ds) = minD (toP d) (toPs ds)
  | [], _ => by simp [minL, toPs, minD]
  | e :: es, o => by
    have q : minL d (e :: es) = bif' (ltD e d) (minL e es) (minL d es) := rfl
    have lt := lt_data1 (ord_two o (a := e) (b := d) (by simp) (by simp))
    rw [q, lt]
    simp only [toPs, minD, List.foldl_cons]
    cases dataLt (toP e) (toP d) with
    | true =>
      rw [if_pos rfl]
      exact minL_data e es (o.sub fun x m => by simp at m; rcases m with rfl | m <;> simp [*])
    | false =>
      rw [if_neg (by simp)]
      exact minL_data d es (o.sub fun x m => by simp at m; rcases m with rfl | m <;> simp [*])
theorem maxL_data (d : D) : ∀ ds : List D, OrdAll (d :: ds) → toP (maxL d ds) = maxD (toP d) (toPs ds)
  | [], _ => by simp [maxL, toPs, maxD]
  | e :: es, o => by
    have q : maxL d (e :: es) = bif' (ltD d e) (maxL e es) (maxL d es) := rfl
    have lt := lt_data1 (ord_two o (a := d) (b := e) (by simp) (by simp))
    rw [q, lt]
    simp only [toPs, maxD, List.foldl_cons]
    cases dataLt (toP d) (toP e) with
    | true =>
      rw [if_pos rfl]
      exact maxL_data e es (o.sub fun x m => by simp at m; rcases m with rfl | m <;> simp [*])
    | false =>
      rw [if_neg (by simp)]
      exact maxL_data d es (o.sub fun x m => by simp at m; rcases m with rfl | m <;> simp [*])
/-! ### sorted -/
theorem insD_perm (d : D) : ∀ ds : List D, (insD d ds).Perm (d :: ds)
  | [] => .refl _
  | e :: es => by
    have q : insD d (e :: es) = bif' (ltD e d) (e :: insD d es) (d :: e :: es) := rfl
    rw [q]
    cases ltD e d with
    | true => exact ((insD_perm d es).cons e).trans (.swap d e es)
    | false => exact .refl _
theorem sortD_perm : ∀ ds : List D, (sortD ds).Perm ds
  | [] => .refl _
  | d :: ds => (insD_perm d (sortD ds)).trans ((sortD_perm ds).cons d)
abbrev leD : D → D → Bool := dataLe false toP
theorem leD_eq (a b : D) : leD a b = !dataLt (toP b) (toP a) := rfl
theorem leD_total : TotalLe leD := sortLe_total _ _ _
theorem insD_sorted (d : D) : ∀ ds : List D, OrdAll (d :: ds) → ds.Pairwise (fun a b => leD a b = true) → (insD d ds).Pairwise (fun a b => leD a b = true)
  | [], _, _ => List.pairwise_singleton _ _
  | e :: es, o, h => by
    have q : insD d (e :: es) = bif' (ltD e d) (e :: insD d es) (d :: e :: es) := rfl
    have lt := lt_data1 (ord_two o (a := e) (b := d) (by simp) (by simp))
    rw [q]
    obtain ⟨h1, h2⟩ := List.pairwise_cons.mp h
    cases c : ltD e d with
    | true =>
      refine List.pairwise_cons.mpr ⟨fun x m => ?_, insD_sorted d es (o.sub fun x m => by simp at m; rcases m with rfl | m <;> simp [*]) h2⟩
      rcases List.mem_cons.mp ((insD_perm d es).mem_iff.mp m) with z | z
      · subst z
        rcases leD_total.total e x with t | t
        · exact t
        · rw [leD_eq, ← lt, c] at t
          cases t
      · exact h1 x z
    | false =>
      have de : leD d e = true := by rw [leD_eq, ← lt, c]; rfl
      refine List.pairwise_cons.mpr ⟨fun x m => ?_, h⟩
      rcases List.mem_cons.mp m with z | z
      · subst z; exact de
      · exact leD_total.trans _ _ _ de (h1 x z)
theorem sortD_sorted : ∀ ds : List D, OrdAll ds → (sortD ds).Pairwise (fun a b => leD a b = true)
  | [], _ => .nil
  | d :: ds, o => insD_sorted d (sortD ds) (o.sub fun x m => by
      rcases List.mem_cons.mp m with z | z
      · simp [z]
      · exact List.mem_cons_of_mem _ ((sortD_perm ds).mem_iff.mp z)) (sortD_sorted ds (o.sub fun x m => List.mem_cons_of_mem _ m))
theorem sortD_eq (ds : List D) (o : OrdAll ds) : sortD ds = ds.mergeSort leD := by
  refine List.Perm.eq_of_pairwise (le := fun a b => leD a b = true) (fun a b ha hb h1 h2 => ?_) (sortD_sorted ds o) (sort_pairwise leD_total ds) ((sortD_perm ds).trans (List.mergeSort_perm ds leD).symm)
  have ma := (sortD_perm ds).mem_iff.mp ha
  have mb := List.mem_mergeSort.mp hb
  have two := ord_two o ma mb
  have two' := ord_two o mb ma
  rw [leD_eq, ← lt_data1 two', Bool.not_eq_true'] at h1
  rw [leD_eq, ← lt_data1 two, Bool.not_eq_true'] at h2
  exact ord_tri two h2 h1
end Pv
end
section
set_option Elab.async false
set_option linter.all false
set_option maxRecDepth 100000
set_option maxHeartbeats 4000000
set_option autoImplicit false
/-! The builtins' calls. -/
namespace Pv
open PySem L2 PySem.Spec PyProof.Rows PySem.W
section
variable {G : GC} {P P1 P2 : Pl} {H H0 H1 H2 : Hp} {d : D} {v u : V} {vs : List V} {h : Sh}
section
variable {X : Cx}
theorem rl_reads {pins : List (Addr × Obj)} {σ : L2.St} {s : Shared} (hK : X.K = G.K ∧ X.w = G.w) (I : Inv X pins σ H s) {ds : List D} {xs : List V} {us : List Value} (e : allB (plain 8) ds = true) (r : RL G P H ds xs) (rv : Vals xs us) : ∃ as, ReadsAll s.heap us (toPs ds) as :=
  Dp.readsAll I (toPs ds) xs us (hK.1 ▸ rl_dp (plain_dp 8) e r) rv
theorem vals_each {ds : List D} {xs : List V} {us : List Value} (r : RL G P H ds xs) (rv : Vals xs us) : EachIs (fun (u : Value) (d : D) => ∃ x, RelV x u ∧ R G P H d x) us ds := by
  induction ds generalizing xs us with
  | nil =>
    have r : xs = [] := r
    subst r
    cases rv
    exact .nil
  | cons d ds ih =>
    obtain ⟨x, ys, q, r1, r2⟩ := r.uncons
    subst q
    cases rv with
    | cons a b => exact .cons ⟨x, a, r1⟩ (ih r2 b)
theorem each_vals {ds : List D} {us : List Value} (e : EachIs (fun (u : Value) (d : D) => ∃ x, RelV x u ∧ R G P H d x) us ds) : ∃ xs, Vals xs us ∧ RL G P H ds xs := by
  induction e with
  | nil => exact ⟨[], .nil, RL.nil⟩
  | cons a b ih =>
    obtain ⟨x, r1, r2⟩ := a
    obtain ⟨xs, v, r⟩ := ih
    exact ⟨x :: xs, .cons r1 v, RL.cons r2 r⟩
theorem each_imp {α β : Type} {R R' : α → β → Prop} {as : List α} {bs : List β} (e : EachIs R as bs) (f : ∀ a b, R a b → R' a b) : EachIs R' as bs := by
  induction e with
  | nil => exact .nil
  | cons a b ih => exact .cons (f _ _ a) ih
theorem ord_alikeAll {ds : List D} (o : OrdAll ds) : AlikeAll (toPs ds) := by
  rw [toPs_map]
  refine ⟨fun x hx y hy => ?_, fun x hx => ?_⟩
  · obtain ⟨a, ha, rfl⟩ := List.mem_map.mp hx
    obtain ⟨b, hb, rfl⟩ := List.mem_map.mp hy
    exact ord_alike (ord_two o ha hb)
  · obtain ⟨a, ha, rfl⟩ := List.mem_map.mp hx
    rcases o with o | o
    · obtain ⟨i, rfl⟩ := o a ha
      simp only [toP]
      exact fun z => by cases z
    · obtain ⟨i, is, rfl⟩ := o a ha
      simp only [toP]
      exact fun z => by cases z
theorem ord_sortable {ds : List D} (o : OrdAll ds) : Sortable (ds.map toP) := by
  rcases o with o | o
  · refine .inr fun x hx => ?_
    obtain ⟨a, ha, rfl⟩ := List.mem_map.mp hx
    obtain ⟨i, rfl⟩ := o a ha
    simp only [toP]
    exact ⟨(fun z => by cases z), (fun _ z => by cases z)⟩
  · refine .inl fun x hx => ?_
    obtain ⟨a, ha, rfl⟩ := List.mem_map.mp hx
    obtain ⟨i, is, rfl⟩ := o a ha
    simp only [toP, toPs]
    exact ⟨_, _, rfl⟩
/-- the item with the least, greatest datum -/
theorem best_item {pins : List (Addr × Obj)} {σ : L2.St} {s : Shared} (hK : X.K = G.K ∧ X.w = G.w) {ds : List D} {xs : List V} {us : List Value} (o : OrdAll ds) (r : RL G P H ds xs) (rv : Vals xs us) (I : Inv X pins σ H s) {m : D} (hm : m ∈ ds)
    {i : Nat} {w : Value} {h' : Heap} {bs : List Addr} (e : us.toArray[i]? = some w) (rd : Reads h' w (toP m) bs) (k : ∀ b o, s.heap.get? b = some o → h'.get? b = some o) : ∃ x, RelV x w ∧ R G P H m x := by
  have e : us[i]? = some w := by simpa using e
  have hi : i < xs.length := by rw [rv.length]; exact (List.getElem?_eq_some_iff.mp e).1
  obtain ⟨u', h1, h2⟩ := rv.get (List.getElem?_eq_getElem hi)
  rw [e] at h1
  cases h1
  obtain ⟨d', h3, h4⟩ := r.get' (List.getElem?_eq_getElem hi)
  have md := List.mem_of_getElem? h3
  have pl : plain 8 d' = true := allB_mem o.plain d' md
  obtain ⟨as, rs⟩ := (hK.1 ▸ plain_dp 8 d' _ pl h4 : Dp X.K H _ (toP d')).reads I _ _ _ h2
  have eq := SeqAt.plain_unique _ _ _ _ _ (plain_of pl) (Reads.keeps k rs) rd
  have := ord_inj (ord_two o md hm) eq
  subst this
  exact ⟨_, h2, h4⟩
theorem cb (hK : X.K = G.K ∧ X.w = G.w) (hc : X.calm = true) (hu : X.A.units + 64 < cLine) (hA : X.A.handled = none) (b : Bi) : CallR X (biV b) (rBi G b) := by
  intro pins s σ H vs us Q I r hyp
  obtain ⟨P, h, H0, ds, d, sr, rl, e, g⟩ := hyp
  cases b with
  | len =>
    obtain ⟨x, rfl, e⟩ := biD_1 ⟨by decide, by decide, by decide⟩ e
    obtain ⟨v, rfl, rx⟩ := rtl1 rl
    have e : opt' (lenD h x) none (fun n => frN n fun n => some (D.int (.ofNat n))) = some d := e
    obtain ⟨n, e1, e2⟩ := opt_some e
    rw [frN_eq] at e2
    cases e2
    exact call_lenV hK sr rx e1 I r (g.r sr rfl)
  | all =>
    obtain ⟨x, rfl, e⟩ := biD_1 ⟨by decide, by decide, by decide⟩ e
    obtain ⟨v, rfl, rx⟩ := rtl1 rl
    have e : opt' (rdL h x) none (fun ds => opt' (blsD ds) none fun bs => some (D.bl (andL bs))) = some d := e
    obtain ⟨xs, e1, e2⟩ := opt_some e
    obtain ⟨bs, e3, e4⟩ := opt_some e2
    cases e4
    obtain ⟨p, ys, rfl, hq, r2⟩ := rdL_ok sr e1 rx
    have := blsD_ok e3 r2
    subst this
    exact cr_all hc pins s σ H _ us Q I r ⟨p, bs, rfl, hK.1 ▸ hq, g.r sr (by rw [andL_eq]; rfl)⟩
  | any =>
    obtain ⟨x, rfl, e⟩ := biD_1 ⟨by decide, by decide, by decide⟩ e
    obtain ⟨v, rfl, rx⟩ := rtl1 rl
    have e : opt' (rdL h x) none (fun ds => opt' (blsD ds) none fun bs => some (D.bl (orL bs))) = some d := e
    obtain ⟨xs, e1, e2⟩ := opt_some e
    obtain ⟨bs, e3, e4⟩ := opt_some e2
    cases e4
    obtain ⟨p, ys, rfl, hq, r2⟩ := rdL_ok sr e1 rx
    have := blsD_ok e3 r2
    subst this
    exact cr_any hc pins s σ H _ us Q I r ⟨p, bs, rfl, hK.1 ▸ hq, g.r sr (by rw [orL_eq]; rfl)⟩
  | sum =>
    obtain ⟨x, rfl, e⟩ := biD_1 ⟨by decide, by decide, by decide⟩ e
    obtain ⟨v, rfl, rx⟩ := rtl1 rl
    have e : opt' (rdL h x) none (fun ds => opt' (intsD ds) none fun is => frI (sumL is) fun i => some (D.int i)) = some d := e
    obtain ⟨xs, e1, e2⟩ := opt_some e
    obtain ⟨bs, e3, e4⟩ := opt_some e2
    rw [frI_eq] at e4
    cases e4
    obtain ⟨p, ys, rfl, hq, r2⟩ := rdL_ok sr e1 rx
    have := intsD_ok e3 r2
    subst this
    exact cr_sum hc pins s σ H _ us Q I r ⟨p, bs, rfl, hK.1 ▸ hq, g.r sr (by rw [sumL_eq]; rfl)⟩
  | tuple =>
    obtain ⟨x, rfl, e⟩ := biD_1 ⟨by decide, by decide, by decide⟩ e
    obtain ⟨v, rfl, rx⟩ := rtl1 rl
    have e : opt' (rdQ h x) none (fun ds => some (D.tup ds)) = some d := e
    obtain ⟨xs, e1, e2⟩ := opt_some e
    cases e2
    by_cases c : ∃ ts, x = .tup ts
    · obtain ⟨ts, rfl⟩ := c
      cases e1
      obtain ⟨p, ys, rfl, hq, r2⟩ := tupR rx
      exact call_tuple_of pins s σ H _ us Q I r ⟨p, ys, rfl, .inr ⟨SqT.of hq, g.r sr ⟨p, ys, rfl, hq, r2⟩⟩⟩
    · have e1 : rdL h x = some xs := by cases x <;> first | exact absurd ⟨_, rfl⟩ c | exact e1
      obtain ⟨p, ys, rfl, hq, r2⟩ := rdL_ok sr e1 rx
      exact call_tuple_of pins s σ H _ us Q I r ⟨p, ys, rfl, .inl ⟨hK.1 ▸ hq, fun l hl => g.tup sr r2 hl⟩⟩
  | list =>
    obtain ⟨x, rfl, e⟩ := biD_1 ⟨by decide, by decide, by decide⟩ e
    obtain ⟨v, rfl, rx⟩ := rtl1 rl
    have e : opt' (rdQ h x) none (fun ds => some (D.tmp ds)) = some d := e
    obtain ⟨xs, e1, e2⟩ := opt_some e
    cases e2
    obtain ⟨p, ys, rfl, hq, r2⟩ := rdQ_ok sr e1 rx
    exact call_list_of pins s σ H _ us Q I r ⟨p, ys, rfl, hK.1 ▸ hq, fun l hl => g.tmp sr r2 hl⟩
  | abs =>
    obtain ⟨x, rfl, e⟩ := biD_1 ⟨by decide, by decide, by decide⟩ e
    obtain ⟨v, rfl, rx⟩ := rtl1 rl
    obtain ⟨i, rfl, rfl⟩ := int_of (h := h) rfl e
    cases rx
    exact call_abs pins s σ H _ us Q I r ⟨i, rfl, g.r sr rfl⟩
  | int =>
    obtain ⟨x, rfl, e⟩ := biD_1 ⟨by decide, by decide, by decide⟩ e
    obtain ⟨v, rfl, rx⟩ := rtl1 rl
    have hx : (∃ b, x = .bl b) ∨ ∃ i, x = .int i := by cases x <;> first | exact .inl ⟨_, rfl⟩ | exact .inr ⟨_, rfl⟩ | cases e
    rcases hx with ⟨b, rfl⟩ | ⟨i, rfl⟩
    · cases rx
      refine call_int1 pins s σ H _ us Q I r (.inr ⟨b, rfl, ?_⟩)
      cases b <;> (cases e; exact g.r sr rfl)
    · cases rx
      cases e
      exact call_int1 pins s σ H _ us Q I r (.inl ⟨i, rfl, g.r sr rfl⟩)
  | min2 =>
    obtain ⟨i, j, rfl, e⟩ := biD_2 (.inl rfl) e
    obtain ⟨v, w, rfl, rx, ry⟩ := rtl2 rl
    cases rx; cases ry
    have e : bif' (ilt j i) (some (D.int j)) (some (D.int i)) = some d := e
    refine call_min2 hc pins s σ H _ us Q I r ⟨i, j, rfl, g.r sr ?_⟩
    rw [ilt_eq] at e
    by_cases c : j < i
    · rw [decide_eq_true c] at e; cases e; rw [if_pos c]; rfl
    · rw [decide_eq_false c] at e; cases e; rw [if_neg c]; rfl
  | max2 =>
    obtain ⟨i, j, rfl, e⟩ := biD_2 (.inr (.inl rfl)) e
    obtain ⟨v, w, rfl, rx, ry⟩ := rtl2 rl
    cases rx; cases ry
    have e : bif' (ilt i j) (some (D.int j)) (some (D.int i)) = some d := e
    refine call_max2 hc pins s σ H _ us Q I r ⟨i, j, rfl, g.r sr ?_⟩
    rw [ilt_eq] at e
    by_cases c : i < j
    · rw [decide_eq_true c] at e; cases e; rw [if_pos c]; rfl
    · rw [decide_eq_false c] at e; cases e; rw [if_neg c]; rfl
  | divmod =>
    obtain ⟨i, j, rfl, e⟩ := biD_2 (.inr (.inr rfl)) e
    obtain ⟨v, w, rfl, rx, ry⟩ := rtl2 rl
    cases rx; cases ry
    have e : bif' (ilt 0 j && ilt j 1073741824) (frI (i / j) fun q => frI (i % j) fun r => some (D.tup [.int q, .int r])) none = some d := e
    obtain ⟨c, e⟩ := bif_some e
    obtain ⟨c1, c2⟩ := and_t c
    rw [frI_eq, frI_eq] at e
    cases e
    exact call_divmod pins s σ H _ us Q I r ⟨i, j, rfl, ⟨ilt_t c1, ilt_t c2⟩, fun p hp => g.tup sr (RL.cons rfl (RL.cons rfl RL.nil)) hp⟩
  | min =>
    obtain ⟨x, rfl, e⟩ := biD_1 ⟨by decide, by decide, by decide⟩ e
    obtain ⟨v, rfl, rx⟩ := rtl1 rl
    have e : opt' (rdL h x) none minO = some d := e
    obtain ⟨xs, e1, e2⟩ := opt_some e
    cases xs with
    | nil => cases e2
    | cons a xs =>
      have e2 : bif' (ordAll (a :: xs)) (some (minL a xs)) none = some d := e2
      obtain ⟨e5, e3⟩ := bif_some e2
      cases e3
      have o := ordAll_ok e5
      obtain ⟨p, ys, rfl, hq, r2⟩ := rdL_ok sr e1 rx
      obtain ⟨u, rfl, ru⟩ := vals1 r
      cases ru
      obtain ⟨its, rv, pl, hz⟩ := I.list (hK.1 ▸ hq)
      obtain ⟨as, rr⟩ := rl_reads hK I o.plain r2 rv
      have dl := depth_of o.plain
      refine min_list_data hA pl.isList (x := toP a) (xs := toPs xs) (as := as) (by simpa [toPs] using rr) (by have := ord_alikeAll o; simpa [toPs] using this) (by simp only [toPs] at dl; omega) fun i w h' tk bs ew rd k => ?_
      rw [← minL_data a xs o] at rd
      obtain ⟨y, q1, q2⟩ := best_item hK o r2 rv I (minL_mem a xs) ew rd k
      exact ⟨y, H, I.kept k, q1, g.r sr q2⟩
  | max =>
    obtain ⟨x, rfl, e⟩ := biD_1 ⟨by decide, by decide, by decide⟩ e
    obtain ⟨v, rfl, rx⟩ := rtl1 rl
    have e : opt' (rdL h x) none maxO = some d := e
    obtain ⟨xs, e1, e2⟩ := opt_some e
    cases xs with
    | nil => cases e2
    | cons a xs =>
      have e2 : bif' (ordAll (a :: xs)) (some (maxL a xs)) none = some d := e2
      obtain ⟨e5, e3⟩ := bif_some e2
      cases e3
      have o := ordAll_ok e5
      obtain ⟨p, ys, rfl, hq, r2⟩ := rdL_ok sr e1 rx
      obtain ⟨u, rfl, ru⟩ := vals1 r
      cases ru
      obtain ⟨its, rv, pl, hz⟩ := I.list (hK.1 ▸ hq)
      obtain ⟨as, rr⟩ := rl_reads hK I o.plain r2 rv
      have dl := depth_of o.plain
      refine max_list_data hA pl.isList (x := toP a) (xs := toPs xs) (as := as) (by simpa [toPs] using rr) (by have := ord_alikeAll o; simpa [toPs] using this) (by simp only [toPs] at dl; omega) fun i w h' tk bs ew rd k => ?_
      rw [← maxL_data a xs o] at rd
      obtain ⟨y, q1, q2⟩ := best_item hK o r2 rv I (maxL_mem a xs) ew rd k
      exact ⟨y, H, I.kept k, q1, g.r sr q2⟩
  | sorted =>
    obtain ⟨x, rfl, e⟩ := biD_1 ⟨by decide, by decide, by decide⟩ e
    obtain ⟨v, rfl, rx⟩ := rtl1 rl
    have e : opt' (rdL h x) none (fun ds => bif' (ordAll ds) (frL (sortD ds) fun ds => some (D.tmp ds)) none) = some d := e
    obtain ⟨xs, e1, e2⟩ := opt_some e
    obtain ⟨e5, e3⟩ := bif_some e2
    rw [frL_eq] at e3
    cases e3
    have o := ordAll_ok e5
    obtain ⟨p, ys, rfl, hq, r2⟩ := rdL_ok sr e1 rx
    obtain ⟨u, rfl, ru⟩ := vals1 r
    cases ru
    obtain ⟨its, rv, pl, hz⟩ := I.list (hK.1 ▸ hq)
    obtain ⟨as, rr⟩ := rl_reads hK I o.plain r2 rv
    have dl := depth_of o.plain
    rw [toPs_map] at rr dl
    refine sorted_data (enc := toP) pl.isList (vals_each r2 rv) (readsAll_each toP rr) (fun a ha b hb => (toPs_map xs ▸ (ord_alikeAll o)).1 a ha b hb) (ord_sortable o) (by rw [← r2.length]; exact hz) (fun b hb => ?_) fun out hl ee => ?_
    · have := (plain_ok 8 b (allB_mem o.plain b hb)).2
      omega
    · rw [← sortD_eq xs o] at ee
      obtain ⟨zs, q1, q2⟩ := each_vals ee
      obtain ⟨ep, he'⟩ := PyProof.Rows.sortedAll_at s.heap its out.toArray
      have hlen : zs.length ≤ sizeLine := by
        rw [q2.length, (sortD_perm xs).length_eq, ← r2.length]
        exact hz
      exact ⟨.ref _, upd H (s.heap.objs.size + 1) (.lst zs), I.laid (t' := s.toks) (fun _ _ => PyProof.Rows.sortedAll_old) (Nat.le_succ _) ⟨hlen, out, ep, q1, he'⟩, rfl, g.tmp sr q2 (I.hok.fresh (Nat.le_succ _))⟩
end
end
end Pv
end
section
set_option Elab.async false
set_option linter.all false
set_option maxRecDepth 100000
set_option maxHeartbeats 4000000
set_option autoImplicit false
/-! isinstance, slices, methods, stores. -/
namespace Pv
open PySem L2 PySem.Spec PyProof.Rows PySem.W
section
variable {G : GC} {P P1 P2 : Pl} {H H0 H1 H2 : Hp} {d : D} {v u : V} {vs : List V} {h : Sh}
section
variable {X : Cx}
/-! ### isinstance -/
def tyS : Ty → String
  | .int => "int"
  | .bool => "bool"
  | .str => "str"
  | .tuple => "tuple"
  | .list => "list"
  | .dict => "dict"
def rIsi (G : GC) (t : Ty) : List V → Hp → VK → Prop := fun vs H Q => ∃ P h H0 x v b, vs = [v, .ty (tyS t)] ∧ SR G P H h ∧ RT G P H H0 x v ∧ isiD h t x = some b ∧ Q (.bl b) H
theorem call_isi (hK : X.K = G.K ∧ X.w = G.w) (t : Ty) : CallR X (.builtin "isinstance") (rIsi G t) := by
  intro pins s σ H vs us Q I r hyp
  obtain ⟨P, h, H0, x, v, b, rfl, sr, rx, e, q⟩ := hyp
  obtain ⟨e1, e2⟩ := bif_some e
  cases e2
  obtain ⟨w, w2, rfl, rw1, rw2⟩ := vals2 r
  cases rw2
  obtain ⟨as, rd⟩ := (hK.1 ▸ derL_dp sr e1 rx : Dp X.K H v (toP (derL h x))).reads I _ _ _ rw1
  have fin : ∀ {b' : Bool}, b' = isT t (derL h x) → ∀ tk, s.toks ≤ tk → EP X pins σ Q (.bool b') { s with toks := tk } := fun e tk _ => ⟨.bl _, H, I.tok _, by rw [e]; rfl, q⟩
  revert rd fin e1
  generalize derL h x = y
  intro e1 rd fin
  cases t with
  | int => exact isinstance_int_data rd (fin (by cases y <;> first | rfl | cases e1))
  | bool => exact isinstance_bool_data rd (fin (by cases y <;> first | rfl | cases e1))
  | str => exact isinstance_str_data rd (fin (by cases y <;> first | rfl | cases e1))
  | tuple => exact isinstance_tuple_data rd (fin (by cases y <;> first | rfl | cases e1))
  | list => exact isinstance_list_data rd (fin (by cases y <;> first | rfl | cases e1))
  | dict => exact isinstance_dict_data rd (fin (by cases y <;> first | rfl | cases e1))
/-! ### slices -/
theorem cutP_sIx (n dd : Nat) (o : Option Int) : cutP n dd o = HT.sIx n dd o := by
  cases o with
  | none => rfl
  | some i =>
    cases i with
    | ofNat k =>
      show bif' (Nat.ble k n) k n = if (Int.ofNat k) < 0 then (Int.ofNat k + (n : Int)).toNat else min (Int.ofNat k).toNat n
      rw [if_neg (by simp)]
      by_cases c : k ≤ n
      · have : Nat.ble k n = true := Nat.ble_eq.mpr c
        rw [this]
        show k = min k n
        omega
      · have : Nat.ble k n = false := by
          cases q : Nat.ble k n with
          | false => rfl
          | true => exact absurd (Nat.ble_eq.mp q) c
        rw [this]
        show n = min k n
        omega
    | negSucc k =>
      show n - 1 - k = if (Int.negSucc k) < 0 then (Int.negSucc k + (n : Int)).toNat else min (Int.negSucc k).toNat n
      rw [if_pos (Int.negSucc_lt_zero k)]
      omega
def rSlV (G : GC) : V → Option Int → Option Int → Hp → VK → Prop := fun v lo hi H Q => ∃ P h H0 x d, SR G P H h ∧ RT G P H H0 x v ∧ slD h x lo hi = some d ∧ GivD G P H h d Q
theorem sl_V (hK : X.K = G.K ∧ X.w = G.w) : SlR X (rSlV G) := by
  intro pins s σ H v vv vl vu lo hi sl Q I rv hs pl pu hyp
  obtain ⟨P, h, H0, x, d, sr, rx, e, g⟩ := hyp
  by_cases c : ∃ ds, x = .tup ds
  · obtain ⟨ds, rfl⟩ := c
    obtain ⟨p, ys, rfl, hq, r⟩ := tupR rx
    have e : bif' (Nat.beq (cutP (lenK ds) 0 lo) 0 && Nat.beq (cutP (lenK ds) (lenK ds) hi) (lenK ds)) (some (D.tup ds)) (frL ((ds.drop (cutP (lenK ds) 0 lo)).take (cutP (lenK ds) (lenK ds) hi - cutP (lenK ds) 0 lo)) fun ds => some (.tup ds)) = some d := e
    rw [lenK_eq, cutP_sIx, cutP_sIx, frL_eq] at e
    refine sl_tupA pins s σ H _ vv vl vu lo hi sl Q I rv hs pl pu ⟨p, ys, rfl, SqT.of hq, fun w => ?_, fun w p' hp => ?_⟩
    · rw [r.length] at w
      rw [w.1, w.2] at e
      have e : some (D.tup ds) = some d := by simpa [bif', Nat.beq_refl] using e
      cases e
      exact g.r sr ⟨p, ys, rfl, hq, r⟩
    · rw [r.length] at w
      have nb : (Nat.beq (HT.sIx ds.length 0 lo) 0 && Nat.beq (HT.sIx ds.length ds.length hi) ds.length) = false := by
        cases q : (Nat.beq (HT.sIx ds.length 0 lo) 0 && Nat.beq (HT.sIx ds.length ds.length hi) ds.length) with
        | false => rfl
        | true =>
          obtain ⟨a, b⟩ := and_t q
          exact absurd ⟨Nat.eq_of_beq_eq_true a, Nat.eq_of_beq_eq_true b⟩ w
      rw [nb] at e
      cases e
      unfold cutV
      rw [r.length]
      exact g.tup sr ((r.drop _).take _) hp
  · have e : opt' (rdL h x) none (fun ds => slL ds (cutP (lenK ds) 0 lo) (cutP (lenK ds) (lenK ds) hi)) = some d := by
      cases x <;> first | exact absurd ⟨_, rfl⟩ c | exact e
    obtain ⟨ds, e1, e2⟩ := opt_some e
    obtain ⟨p, ys, rfl, hq, r⟩ := rdL_ok sr e1 rx
    have e2 : frL ((ds.drop (cutP (lenK ds) 0 lo)).take (cutP (lenK ds) (lenK ds) hi - cutP (lenK ds) 0 lo)) (fun ds => some (D.tmp ds)) = some d := e2
    rw [lenK_eq, cutP_sIx, cutP_sIx, frL_eq] at e2
    cases e2
    refine sl_list pins s σ H _ vv vl vu lo hi sl Q I rv hs pl pu ⟨p, ys, rfl, hK.1 ▸ hq, fun p' hp => ?_⟩
    unfold cutV
    rw [r.length]
    exact g.tmp sr ((r.drop _).take _) hp
/-! ### methods -/
def bmT : Bm → String
  | .get1 => "dict"
  | .get2 => "dict"
  | _ => "list"
def bmI : Bm → String
  | .append => "list.append"
  | .extend => "list.extend"
  | .pop => "list.pop"
  | .popAt => "list.pop"
  | .remove => "list.remove"
  | .get1 => "dict.get"
  | .get2 => "dict.get"
/-- a value given, the small heap changed -/
def GivH (G : GC) (P : Pl) (H : Hp) (h' : Sh) (d : D) (Q : VK) : Prop := ∀ P' H', Ext P H P' H' → SR G P' H' h' → ∀ w, RT G P' H' H d w → Q w H'
def rBm (G : GC) (m : Bm) : V → List V → Hp → VK → Prop := fun v vs H Q => ∃ P Hb h x ds d h', Ext P Hb P H ∧ SR G P H h ∧ RT G P H Hb x v ∧ RTL G P H Hb ds vs ∧ bmD h m x ds = some (d, h') ∧ (∀ P' H', Ext P Hb P' H' → SR G P' H' h' → ∀ w, RT G P' H' Hb d w → Q w H')
/-- our list is written -/
theorem SR.lst (s : SR G P H h) {n : Nat} {a : Addr} {ds es : List D} {ys : List V} (e : h.get n = some (.lst ds)) (ha : P.A[n]? = some a) (r : RL G P H es ys) : Ext P H P (upd H a (.lst ys)) ∧ SR G P (upd H a (.lst ys)) (h.set n (.lst es)) := by
  obtain ⟨xs, q, _⟩ := s.at_ e ha
  exact s.write ha q soft_lst (fun _ _ z => by cases z) fun x => ⟨ys, upd_same, RL.ext x _ _ r⟩
theorem bmL_ok {m : Bm} {x : D} {ds : List D} {dh : D × Sh} (hm : bmT m = "list") (e : bmD h m x ds = some dh) : ∃ n xs, x = .obj n ∧ h.get n = some (.lst xs) ∧ bmL h n xs m ds = some dh := by
  cases x with
  | obj n =>
    have e1 : opt' (lstOf h (.obj n)) none (fun xs => bmL h n xs m ds) = some dh := by
      cases m <;> first | exact absurd hm (by decide) | exact e
    obtain ⟨xs, e2, e3⟩ := opt_some e1
    exact ⟨n, xs, rfl, lstOf_obj e2, e3⟩
  | _ => exfalso; cases m <;> first | exact absurd hm (by decide) | (cases e; done)
theorem key_get1 (hK : X.K = G.K ∧ X.w = G.w) (hu : X.A.units + 1 < cLine) {pins : List (Addr × Obj)} {σ : L2.St} {s : Shared} {E : Value → Shared → Prop} {p : Addr} {ks ds : List D} {k : D} {y : V} {w : Value} (I : Inv X pins σ H s) (x : KeyIn G P H p ks ds k y) (ry : RelV y w) {Q : Value → Shared → Prop}
    (q1 : ∀ d v w' s', lookD k ks ds = some d → R G P H d v → Inv X pins σ H s' → RelV v w' → Q w' s') (q2 : ∀ s', lookD k ks ds = none → Inv X pins σ H s' → Q .none s') : wpAny (model X.prog X.w) X.A (call (.builtin "dict.get") [.ref p, w]) Q E s := by
  cases x with
  | k kvs kk e4 q4 r4 ek ey =>
    subst q4 ek
    refine d_get1 hu I (.inl ⟨kvs, kk, Rd.of e4, ey, rfl⟩) ry fun w' s' I' rv => ?_
    rcases look_ok keyD keyE_key kk kvs ds r4 with ⟨z, l⟩ | ⟨d', v, z, l, r⟩
    · rw [l] at rv; cases rv; exact q2 s' z I'
    · rw [l] at rv; exact q1 d' v w' s' z r I' rv
  | t kvs kk b e4 q4 r4 ek ey eb =>
    subst q4 ek
    refine d_get1 hu I (.inr ⟨kvs, kk, b, Rd.of e4, ey, eb, rfl⟩) ry fun w' s' I' rv => ?_
    rcases look_ok keysD keyE_keys kk kvs ds r4 with ⟨z, l⟩ | ⟨d', v, z, l, r⟩
    · rw [l] at rv; cases rv; exact q2 s' z I'
    · rw [l] at rv; exact q1 d' v w' s' z r I' rv
  | g kvs kk e4 q4 r4 ek ey =>
    subst q4 ek ey
    obtain ⟨z, hd, e⟩ := e4
    obtain ⟨vs, rel, dd⟩ := hK.2 ▸ e X.prog s.heap (hK.1 ▸ I.kIn)
    refine call_meetsIn PySem.F.slot_dict_get dd.typeIs PySem.F.entry_dict_get (PySem.F.args_dict_get_2 _ _) (meets_dict_get (mixKind X.prog X.w) p (kV_is ry) hd) ⟨_, dd.mapOf, ?_⟩
    have rv := (rel.val kk).getD (d := V.non) (d' := Value.none) rfl
    rcases look_ok keyD keyE_key kk kvs ds r4 with ⟨z, l⟩ | ⟨d', v, z, l, r⟩
    · rw [l] at rv
      have : (valueAt vs kk).getD Value.none = .none := rv
      rw [this]
      exact q2 _ z (I.tok _)
    · rw [l] at rv; exact q1 d' v _ _ z r (I.tok _) rv
theorem key_get2 (hK : X.K = G.K ∧ X.w = G.w) (hu : X.A.units + 1 < cLine) {pins : List (Addr × Obj)} {σ : L2.St} {s : Shared} {E : Value → Shared → Prop} {p : Addr} {ks ds : List D} {k : D} {y y0 : V} {w w0 : Value} (I : Inv X pins σ H s) (x : KeyIn G P H p ks ds k y) (ry : RelV y w) (r0 : RelV y0 w0) {Q : Value → Shared → Prop}
    (q1 : ∀ d v w' s', lookD k ks ds = some d → R G P H d v → Inv X pins σ H s' → RelV v w' → Q w' s') (q2 : ∀ w' s', lookD k ks ds = none → Inv X pins σ H s' → RelV y0 w' → Q w' s') : wpAny (model X.prog X.w) X.A (call (.builtin "dict.get") [.ref p, w, w0]) Q E s := by
  cases x with
  | k kvs kk e4 q4 r4 ek ey =>
    subst q4 ek
    refine d_get2 hu I (.inl ⟨kvs, kk, Rd.of e4, ey, rfl⟩) ry r0 fun w' s' I' rv => ?_
    rcases look_ok keyD keyE_key kk kvs ds r4 with ⟨z, l⟩ | ⟨d', v, z, l, r⟩
    · rw [l] at rv; exact q2 w' s' z I' rv
    · rw [l] at rv; exact q1 d' v w' s' z r I' rv
  | t kvs kk b e4 q4 r4 ek ey eb =>
    subst q4 ek
    refine d_get2 hu I (.inr ⟨kvs, kk, b, Rd.of e4, ey, eb, rfl⟩) ry r0 fun w' s' I' rv => ?_
    rcases look_ok keysD keyE_keys kk kvs ds r4 with ⟨z, l⟩ | ⟨d', v, z, l, r⟩
    · rw [l] at rv; exact q2 w' s' z I' rv
    · rw [l] at rv; exact q1 d' v w' s' z r I' rv
  | g kvs kk e4 q4 r4 ek ey =>
    subst q4 ek ey
    obtain ⟨z, hd, e⟩ := e4
    obtain ⟨vs, rel, dd⟩ := hK.2 ▸ e X.prog s.heap (hK.1 ▸ I.kIn)
    refine call_meetsIn PySem.F.slot_dict_get dd.typeIs PySem.F.entry_dict_get (PySem.F.args_dict_get_3 _ _ _) (meets_dict_get_default (mixKind X.prog X.w) p (kV_is ry) hd w0) ⟨_, dd.mapOf, ?_⟩
    have rv := (rel.val kk).getD r0
    rcases look_ok keyD keyE_key kk kvs ds r4 with ⟨z, l⟩ | ⟨d', v, z, l, r⟩
    · rw [l] at rv
      exact q2 _ _ z (I.tok _) rv
    · rw [l] at rv; exact q1 d' v _ _ z r (I.tok _) rv
theorem findF_ok (x : D) : ∀ (ds : List D), plain 8 x = true → allB (plain 8) ds = true → ∀ j, findF x ds = some j → SeqAt.dataPlace (toPs ds) (toP x) = some j
  | [], _, _, j, e => by cases e
  | y :: ys, hx, h, j, e => by
    obtain ⟨h1, h2⟩ := allB_cons h
    have e : bif' (eqP 8 y x) (some 0) (opt' (findF x ys) none fun i => some (Nat.succ i)) = some j := e
    rw [eqP_ok 8 y x h1 hx] at e
    unfold SeqAt.dataPlace
    simp only [toPs, List.findIdx?_cons]
    cases c : PyData.eqv (toP y) (toP x) with
    | true => rw [c] at e; cases e; rfl
    | false =>
      rw [c] at e
      have e : opt' (findF x ys) none (fun i => some (Nat.succ i)) = some j := e
      obtain ⟨i, e1, e2⟩ := opt_some e
      cases e2
      have := findF_ok x ys hx h2 i e1
      unfold SeqAt.dataPlace at this
      rw [if_neg (by simp), this]
      rfl
theorem bm_V (hK : X.K = G.K ∧ X.w = G.w) (hu : X.A.units + 64 < cLine) (m : Bm) : MtR X (bmI m) (rBm G m) := by
  intro pins s σ H v vs vv us Q I rv rvs hyp
  obtain ⟨P, Hb, h, x, ds, d, h', xb, sr, rx, rl, e, g⟩ := hyp
  have stay : ∀ {h'' : Sh} {d' : D}, h'' = h → (∀ P' H', Ext P Hb P' H' → SR G P' H' h'' → ∀ w, RT G P' H' Hb d' w → Q w H') → ∀ w, R G P H d' w → Q w H := fun q g w r => g P H xb (by rw [q]; exact sr) w (RT.of r.noTmp r)
  cases m with
  | append =>
    obtain ⟨n, xs, rfl, e1, e2⟩ := bmL_ok rfl e
    match ds, e2 with
    | [y], e2 =>
      have e2 : bif' (Nat.blt (lenK xs) 16777216) (frL (xs ++ [(own y h).1]) fun xs => some (D.non, (own y h).2.set n (.lst xs))) none = some (d, h') := e2
      obtain ⟨e3, e4⟩ := bif_some e2
      rw [frL_eq] at e4
      cases e4
      obtain ⟨w, rfl, ry⟩ := rtl1 rl
      obtain ⟨a, rfl, q⟩ := rx
      obtain ⟨P2, x2, we, s2, r2⟩ := own_ok sr xb ry
      have e1' : (own y h).2.get n = some (.lst xs) := by
        cases y <;> first | exact e1 | (show (h.push _).get n = _; rw [Sh.get_push, if_neg (by have := Sh.get_lt e1; omega)]; exact e1)
      have q2 := we.at_ q
      obtain ⟨ys, hq, r⟩ := s2.at_ e1' q2
      obtain ⟨ex, s3⟩ := s2.lst e1' q2 (r.append (RL.cons r2 RL.nil))
      rw [lenK_eq] at e3
      have e3 := blt_t e3
      exact mt_append pins s σ H _ _ vv us Q I rv rvs ⟨a, ys, w, rfl, rfl, hq, by rw [r.length, sizeLine_eq]; exact e3, g P2 _ (x2.trans ex) s3 _ rfl⟩
  | extend =>
    obtain ⟨n, xs, rfl, e1, e2⟩ := bmL_ok rfl e
    match ds, e2 with
    | [y], e2 =>
      have e2 : opt' (lstOf h y) none (fun ys => bif' (smallL (lenK xs + lenK ys)) (frL (xs ++ ys) fun xs => some (D.non, h.set n (.lst xs))) none) = some (d, h') := e2
      obtain ⟨zs, e3, e4⟩ := opt_some e2
      obtain ⟨e5, e6⟩ := bif_some e4
      rw [frL_eq] at e6
      cases e6
      obtain ⟨w, rfl, ry⟩ := rtl1 rl
      obtain ⟨a, rfl, q⟩ := rx
      obtain ⟨ys, hq, r⟩ := sr.at_ e1 q
      obtain ⟨b, zs', rfl, hq2, r2⟩ := lstOf_ok sr e3 ry
      obtain ⟨ex, s3⟩ := sr.lst e1 q (r.append r2)
      rw [lenK_eq, lenK_eq] at e5
      exact mt_extend pins s σ H _ _ vv us Q I rv rvs ⟨a, b, ys, zs', rfl, rfl, hq, hq2, by rw [r.length, r2.length]; exact smallL_le e5, g P _ (xb.trans ex) s3 _ rfl⟩
  | pop =>
    obtain ⟨n, xs, rfl, e1, e2⟩ := bmL_ok rfl e
    match ds, e2 with
    | [], e2 =>
      have e2 : opt' (nthK xs (lenK xs - 1)) none (fun d => frL xs.dropLast fun xs => some (d, h.set n (.lst xs))) = some (d, h') := e2
      obtain ⟨y, e3, e4⟩ := opt_some e2
      rw [frL_eq] at e4
      cases e4
      rw [nthK_eq, lenK_eq] at e3
      obtain ⟨a, rfl, q⟩ := rx
      obtain ⟨ys, hq, r⟩ := sr.at_ e1 q
      obtain ⟨w, h1, h2⟩ := r.get e3
      have rd : RL G P H xs.dropLast ys.dropLast := by
        rw [List.dropLast_eq_take, List.dropLast_eq_take, r.length]
        exact r.take _
      obtain ⟨ex, s3⟩ := sr.lst e1 q rd
      have rl : vs = [] := rl
      subst rl
      exact mt_pop pins s σ H _ _ vv us Q I rv rvs ⟨a, ys, w, rfl, rfl, hq, by rw [r.length]; exact h1, g P _ (xb.trans ex) s3 _ (RT.of (h2.ext ex.toWExt).noTmp (h2.ext ex.toWExt))⟩
  | popAt =>
    obtain ⟨n, xs, rfl, e1, e2⟩ := bmL_ok rfl e
    have hy : ∃ i, ds = [.int i] := by
      match ds, e2 with
      | [.int i], _ => exact ⟨i, rfl⟩
    obtain ⟨i, rfl⟩ := hy
    have e2 : opt' (ixP (lenK xs) i) none (fun j => opt' (nthK xs j) none fun d => frL (xs.eraseIdx j) fun xs => some (d, h.set n (.lst xs))) = some (d, h') := e2
    obtain ⟨j, e3, e4⟩ := opt_some e2
    obtain ⟨y, e5, e6⟩ := opt_some e4
    rw [frL_eq] at e6
    cases e6
    rw [nthK_eq] at e5
    rw [lenK_eq] at e3
    obtain ⟨a, rfl, q⟩ := rx
    obtain ⟨w, rfl, ri⟩ := rtl1 rl
    cases ri
    obtain ⟨ys, hq, r⟩ := sr.at_ e1 q
    obtain ⟨w, h1, h2⟩ := r.get e5
    obtain ⟨ex, s3⟩ := sr.lst e1 q (r.eraseIdx j)
    obtain ⟨k1, k2, k3, k4⟩ := ixN_seq (ixP_ok e3)
    obtain ⟨hz, _⟩ := I.lstM hq
    rw [sizeLine_eq, r.length] at hz
    exact mt_popAt pins s σ H _ _ vv us Q I rv rvs ⟨a, ys, i, j, w, rfl, rfl, hq, by omega, by omega, by rw [r.length]; exact k1, h1, g P _ (xb.trans ex) s3 _ (RT.of (h2.ext ex.toWExt).noTmp (h2.ext ex.toWExt))⟩
  | remove =>
    obtain ⟨n, xs, rfl, e1, e2⟩ := bmL_ok rfl e
    match ds, e2 with
    | [y], e2 =>
      have e2 : bif' (plain 8 y && allB (plain 8) xs) (opt' (findF y xs) none fun j => frL (xs.eraseIdx j) fun xs => some (D.non, h.set n (.lst xs))) none = some (d, h') := e2
      obtain ⟨e3, e4⟩ := bif_some e2
      obtain ⟨p1, p2⟩ := and_t e3
      obtain ⟨j, e5, e6⟩ := opt_some e4
      rw [frL_eq] at e6
      cases e6
      obtain ⟨w, rfl, ry⟩ := rtl1 rl
      obtain ⟨a, rfl, q⟩ := rx
      obtain ⟨ys, hq, r⟩ := sr.at_ e1 q
      obtain ⟨hz, its, nn, ri, ho⟩ := I.hok a _ hq
      obtain ⟨as, rr⟩ := rl_reads hK I p2 r ri
      cases rv
      obtain ⟨u, rfl, ru⟩ := vals1 rvs
      obtain ⟨bs, rd⟩ := (hK.1 ▸ plain_rt p1 ry : Dp X.K H w (toP y)).reads I _ _ _ ru
      obtain ⟨ex, s3⟩ := sr.lst e1 q (r.eraseIdx j)
      have hd := depth_of p2
      have hpl : j < its.length := by
        have : (toPs xs).length = xs.length := by rw [toPs_map, List.length_map]
        have k := findF_ok y xs p1 p2 j e5
        unfold SeqAt.dataPlace at k
        have k2 := (List.findIdx?_eq_some_iff_getElem.mp k).1
        rw [← ri.length, r.length, ← this]
        exact k2
      refine SeqAt.remove_list_data (vs := its.toArray) (j := j) ⟨_, ho, rfl, _, rfl⟩ (by simpa using rr) rd (plainAll_of p2) (plain_of p1) (by omega) (findF_ok y xs p1 p2 j e5) (by rw [List.size_toArray, ← ri.length]; exact hz) ?_
      refine ⟨.non, _, I.lset (t' := s.toks) hq ho (its' := its.eraseIdx j) (ys := ys.eraseIdx j) ?_ (ri.eraseIdx j) (Nat.le_trans (len_erase ys j) hz), rfl, g P _ (xb.trans ex) s3 _ rfl⟩
      show its.toArray.eraseIdxIfInBounds j = _
      simp [Array.eraseIdxIfInBounds, hpl]
  | get1 =>
    have e : opt' (dctOf h x) none (fun p => bmG h p.1 p.2 .get1 ds) = some (d, h') := e
    obtain ⟨⟨ks, xs⟩, e1, e2⟩ := opt_some e
    obtain ⟨p, rfl, dk⟩ := dctOf_ok sr e1 rx
    match ds, e2 with
    | [k], e2 =>
      have e2 : bif' (keysOk k ks) (opt' (lookD k ks xs) (some (D.non, h)) fun d => some (d, h)) none = some (d, h') := by rw [← get1_eq]; exact e2
      obtain ⟨e3, e4⟩ := bif_some e2
      obtain ⟨w, rfl, ry⟩ := rtl1 rl
      obtain ⟨u, rfl, ru⟩ := vals1 rvs
      cases rv
      refine key_get1 hK (by omega) I (keyIn_of dk e3 ry) ru (fun d' v' w' s' z r I' rw' => ?_) fun s' z I' => ?_
      · rw [z] at e4
        cases e4
        exact ⟨v', H, I', rw', stay rfl g _ r⟩
      · rw [z] at e4
        cases e4
        exact ⟨.non, H, I', rfl, stay rfl g _ rfl⟩
  | get2 =>
    have e : opt' (dctOf h x) none (fun p => bmG h p.1 p.2 .get2 ds) = some (d, h') := e
    obtain ⟨⟨ks, xs⟩, e1, e2⟩ := opt_some e
    obtain ⟨p, rfl, dk⟩ := dctOf_ok sr e1 rx
    match ds, e2 with
    | [k, e0], e2 =>
      have e2 : bif' (keysOk k ks && !isTmp e0) (opt' (lookD k ks xs) (some (e0, h)) fun d => some (d, h)) none = some (d, h') := by rw [← get2_eq]; exact e2
      obtain ⟨e3, e4⟩ := bif_some e2
      obtain ⟨e3, e5⟩ := and_t e3
      obtain ⟨w, w0, rfl, ry, r0⟩ := rtl2 rl
      obtain ⟨u, u0, rfl, ru, ru0⟩ := vals2 rvs
      cases rv
      refine key_get2 hK (by omega) I (keyIn_of dk e3 ry) ru ru0 (fun d' v' w' s' z r I' rw' => ?_) fun w' s' z I' rw' => ?_
      · rw [z] at e4
        cases e4
        exact ⟨v', H, I', rw', stay rfl g _ r⟩
      · rw [z] at e4
        cases e4
        exact ⟨w0, H, I', rw', stay rfl g _ (r0.r (by simpa using e5))⟩
end
end
end Pv
end
section
set_option Elab.async false
set_option linter.all false
set_option maxRecDepth 100000
set_option maxHeartbeats 4000000
set_option autoImplicit false
/-! Stores: items, attributes, names. -/
namespace Pv
open PySem L2 PySem.Spec PyProof.Rows PySem.W
/-- what the tables say, in the fragment -/
structure GOk (G : GC) (B : Tb) : Prop where
  ga : G.a = B.a
  inj : ∀ c f g, G.a c f = true → G.a c g = true → G.att f = G.att g → f = g
  cls : ∀ c f, G.a c f = true → Cls G.K (G.F c) ∧ NoAttr G.K (G.F c) (G.att f)
  meth : ∀ c m f, B.m c m = some f → Cls G.K (G.F c) ∧ Meth G.K (G.F c) (G.att m) (G.F f)
section
variable {G : GC} {P P1 P2 : Pl} {H H0 H1 H2 : Hp} {d : D} {v u : V} {vs : List V} {h : Sh} {B : Tb}
theorem lookF_ok (ok : GOk G B) {c f : Nat} (hf : G.a c f = true) : ∀ {fs : List Nat} {ds : List D} {xs : List (Str × V)} {d : D}, (∀ g ∈ fs, G.a c g = true) → xs.map (·.1) = fs.map G.att → RL G P H ds (xs.map (·.2)) → lookF f fs ds = some d → ∃ v, xs.lookup (G.att f) = some v ∧ R G P H d v
  | [], ds, xs, d, _, _, _, e => by cases ds <;> cases e
  | g :: fs, [], xs, d, _, _, _, e => by cases e
  | g :: fs, x :: ds, xs, d, hg, e1, r, e => by
    cases xs with
    | nil => cases e1
    | cons y ys =>
      obtain ⟨w, ws, q, r1, r2⟩ := r.uncons
      cases q
      simp only [List.map_cons, List.cons.injEq] at e1
      have e : bif' (Nat.beq g f) (some x) (lookF f fs ds) = some d := e
      by_cases c : g = f
      · subst c
        rw [Nat.beq_refl] at e
        cases e
        obtain ⟨n, w⟩ := y
        refine ⟨w, ?_, r1⟩
        rw [List.lookup_cons]
        have : (G.att g == n) = true := by rw [← e1.1]; simp
        rw [this]
      · have nb : Nat.beq g f = false := by
          cases q : Nat.beq g f with
          | false => rfl
          | true => exact absurd (Nat.eq_of_beq_eq_true q) c
        rw [nb] at e
        obtain ⟨v, h1, h2⟩ := lookF_ok ok hf (fun z m => hg z (by simp [m])) e1.2 r2 e
        refine ⟨v, ?_, h2⟩
        obtain ⟨n, w⟩ := y
        rw [List.lookup_cons]
        have : (G.att f == n) = false := by
          refine beq_eq_false_iff_ne.mpr fun z => c ?_
          have e10 : n = G.att g := e1.1
          rw [e10] at z
          exact (ok.inj _ _ _ hf (hg g (by simp)) z).symm
        rw [this]
        exact h1
theorem putF_ok (ok : GOk G B) {c f : Nat} (hf : G.a c f = true) {d : D} {v : V} (rd : R G P H d v) : ∀ {fs : List Nat} {ds : List D} {xs : List (Str × V)}, (∀ g ∈ fs, G.a c g = true) → xs.map (·.1) = fs.map G.att → RL G P H ds (xs.map (·.2)) →
    (∀ g ∈ (putFd f d fs ds).1, G.a c g = true) ∧ (putF (G.att f) v xs).map (·.1) = (putFd f d fs ds).1.map G.att ∧ RL G P H (putFd f d fs ds).2 ((putF (G.att f) v xs).map (·.2))
  | [], ds, xs, _, e1, r => by
    cases xs with
    | cons y ys => cases e1
    | nil =>
      have e : putFd f d [] ds = ([f], [d]) := by cases ds <;> rfl
      rw [e]
      exact ⟨fun g m => by simp at m; rw [m]; exact hf, rfl, RL.cons rd RL.nil⟩
  | g :: fs, [], xs, _, e1, r => by
    cases xs with
    | nil => cases e1
    | cons y ys => cases r
  | g :: fs, x :: ds, xs, hg, e1, r => by
    cases xs with
    | nil => cases e1
    | cons y ys =>
      obtain ⟨w, ws, q, r1, r2⟩ := r.uncons
      cases q
      simp only [List.map_cons, List.cons.injEq] at e1
      have e : putFd f d (g :: fs) (x :: ds) = bif' (Nat.beq g f) (g :: fs, d :: ds) (g :: (putFd f d fs ds).1, x :: (putFd f d fs ds).2) := rfl
      obtain ⟨n, w⟩ := y
      by_cases c : g = f
      · subst c
        rw [e, Nat.beq_refl]
        have e2 : putF (G.att g) v ((n, w) :: ys) = (n, v) :: ys := by
          show (if n = G.att g then _ else _) = _
          rw [if_pos e1.1]
        rw [e2]
        have e10 : n = G.att g := e1.1
        exact ⟨hg, by show n :: ys.map (·.1) = G.att g :: fs.map G.att; rw [e10, e1.2], RL.cons rd r2⟩
      · have nb : Nat.beq g f = false := by
          cases q : Nat.beq g f with
          | false => rfl
          | true => exact absurd (Nat.eq_of_beq_eq_true q) c
        rw [e, nb, bif_false]
        have ne : ¬ n = G.att f := fun z => c (ok.inj _ _ _ (hg g (by simp)) hf (by rw [← e1.1]; exact z))
        have e2 : putF (G.att f) v ((n, w) :: ys) = (n, w) :: putF (G.att f) v ys := by
          show (if n = G.att f then _ else _) = _
          rw [if_neg ne]
        obtain ⟨h1, h2, h3⟩ := putF_ok ok hf rd (fun z m => hg z (by simp [m])) e1.2 r2
        rw [e2]
        exact ⟨fun z m => by
          rcases List.mem_cons.mp m with y | y
          · rw [y]; exact hg g (by simp)
          · exact h1 z y, by have e10 : n = G.att g := e1.1; simp only [List.map_cons]; rw [h2, e10], RL.cons r1 h3⟩
/-- the method's name is no attribute of the instance -/
theorem meth_none (ok : GOk G B) {c m f : Nat} (hm : B.m c m = some f) {fs : List Nat} {xs : List (Str × V)} (hg : ∀ g ∈ fs, G.a c g = true) (e : xs.map (·.1) = fs.map G.att) : xs.lookup (G.att m) = none := by
  obtain ⟨_, mt⟩ := ok.meth c m f hm
  have ne : ∀ g ∈ fs, G.att g ≠ G.att m := fun g mg z => by
    have n := (ok.cls c g (hg g mg)).2
    have a := mt.at_
    rw [← z] at a
    unfold NoAttr at n
    rw [n] at a
    cases a
  have : ∀ p ∈ xs, p.1 ≠ G.att m := fun p mp z => by
    have : p.1 ∈ xs.map (·.1) := List.mem_map_of_mem mp
    rw [e] at this
    obtain ⟨g, mg, q⟩ := List.mem_map.mp this
    exact ne g mg (q.trans z)
  clear e
  induction xs with
  | nil => rfl
  | cons p r ih =>
    obtain ⟨n, w⟩ := p
    rw [List.lookup_cons]
    have e : (G.att m == n) = false := beq_eq_false_iff_ne.mpr fun z => this (n, w) (by simp) z.symm
    rw [e]
    exact ih fun p mp => this p (by simp [mp])
section
variable {X : Cx}
/-- an empty dict may be a dict of tuple keys -/
theorem retype {pins : List (Addr × Obj)} {σ : L2.St} {s : Shared} {a : Addr} (I : Inv X pins σ H s) (e : H a = some (.dK [])) : Inv X pins σ (upd H a (.dT [])) s := by
  obtain ⟨z, hd, vs, rel, dd⟩ := I.hok a _ e
  cases rel
  obtain ⟨o, es, ep, h1, h2, h3, h4, h5, h6⟩ := dd
  have he : es.toList = [] := by
    cases q : es.toList with
    | nil => rfl
    | cons x y => rw [q] at h5; cases h5
  refine I.write (x := a) (e := a) (t' := s.toks) (h' := s.heap) (by rw [e]; exact True.intro) (.inl rfl) (fun _ _ _ q => q) ⟨o, h1⟩ ?_
  exact ⟨Nat.zero_le _, hd, [], .nil, o, es, ep, h1, h2, h3, by rw [he]; rfl, .nil⟩
def rSetV (G : GC) : TSet := fun o i v H Q => ∃ P h Hb x y d h', Ext P Hb P H ∧ SR G P H h ∧ RT G P H Hb x o ∧ RT G P H Hb y i ∧ R G P H d v ∧ setItD h x y d = some h' ∧ ∀ P' H', Ext P Hb P' H' → SR G P' H' h' → Q H'
theorem set_V (hK : X.K = G.K ∧ X.w = G.w) (hu : X.A.units + 64 < cLine) : PSet X (rSetV G) := by
  intro pins s σ H o i v ov iv uv Q I ro ri rv hyp
  obtain ⟨P, h, Hb, x, y, d, h', xb, sr, rx, ry, rd, e, q⟩ := hyp
  have hx : ∃ n, x = .obj n := by cases x <;> first | exact ⟨_, rfl⟩ | cases e
  obtain ⟨n, rfl⟩ := hx
  have e : setItO h n y d = some h' := e
  obtain ⟨a, rfl, ha⟩ := rx
  unfold setItO at e
  cases k : h.get n with
  | none => rw [k] at e; cases e
  | some ob =>
    rw [k] at e
    have hob := sr.at_ k ha
    cases ob <;> first | (cases e; done) | skip
    · rename_i xs
      have hy : ∃ i, y = .int i := by cases y <;> first | exact ⟨_, rfl⟩ | cases e
      obtain ⟨i, rfl⟩ := hy
      cases ry
      have e : opt' (ixP (lenK xs) i) none (fun j => setK none xs j d fun xs => some (h.set n (.lst xs))) = some h' := e
      obtain ⟨j, e1, e2⟩ := opt_some e
      rw [lenK_eq] at e1
      have lt := ixP_lt e1
      rw [setK_eq, if_pos lt] at e2
      cases e2
      obtain ⟨ys, hq, r⟩ := hob
      obtain ⟨ex, s3⟩ := sr.lst k ha (r.set j rd)
      exact set_list pins s σ H _ _ v ov iv uv Q I ro ri rv ⟨a, ys, i, j, rfl, rfl, hq, by rw [r.length]; exact ixP_ok e1, q P _ (xb.trans ex) s3⟩
    · rename_i ks xs
      have e : putO h n y d ks xs = some h' := e
      rw [putO_eq] at e
      obtain ⟨e1, e2⟩ := bif_some e
      cases e2
      obtain ⟨e1, e3⟩ := and_t e1
      rw [lenK_eq] at e3
      have lt := blt_t e3
      cases ro
      by_cases c : ∃ ts, y = .tup ts
      · obtain ⟨ts, rfl⟩ := c
        have e1 : (allB keyOk ts && allB keyTOk ks) = true := e1
        obtain ⟨e4, e5⟩ := and_t e1
        obtain ⟨b, ws, rfl, hb, rb⟩ := tupR ry
        obtain ⟨kk, k1, k2⟩ := keyOk_keys e4 rb
        subst k1 k2
        cases ri
        rcases hob with ⟨kvs, q1, q2, q3⟩ | ⟨kvs, ne, q1, q2, q3⟩
        · subst q2
          have n0 : kvs = [] := by
            by_cases z : kvs = []
            · exact z
            · obtain ⟨p, _, z⟩ := allB_first z e5
              rw [keyD_not] at z; cases z
          subst n0
          have q3 : xs = [] := by cases xs with | nil => rfl | cons _ _ => obtain ⟨_, _, z, _⟩ := q3.uncons; cases z
          subst q3
          have I2 := retype I q1
          refine d_setItem (v := v) (by omega) I2 (.inr ⟨[], kk, b, upd_same, rfl, ?_, by rw [sizeLine_eq]; decide, rfl⟩) rfl rv fun s' I' => ⟨_, I', ?_⟩
          · rw [upd_ne (ne_of hb q1 (fun z => by cases z))]; exact hb
          · rw [upd_upd]
            have e6 : putK ([] : List (List Key × V)) kk v = [(kk, v)] := rfl
            rw [e6]
            have e7 : putD (.tup (kk.map keyD)) d ([] : List D) [] = ([.tup (kk.map keyD)], [d]) := by
              unfold putD
              rw [frL_eq, frL_eq, frL_eq]
              rfl
            obtain ⟨ex, s3⟩ := sr.write (u := .dT [(kk, v)]) (o := .dct [.tup (kk.map keyD)] [d]) ha q1 soft_dK (fun _ _ z => by cases z) fun x => .inr ⟨_, by simp, upd_same, rfl, RL.cons (R.ext x _ _ rd) RL.nil⟩
            refine q P _ (xb.trans ex) ?_
            show SR G P _ (h.set n (.dct (putD (.tup (kk.map keyD)) d ([] : List D) []).1 (putD (.tup (kk.map keyD)) d ([] : List D) []).2))
            rw [e7]
            exact s3
        · subst q2
          obtain ⟨p1, p2⟩ := put_ok keysD keyE_keys kk rd kvs xs q3
          refine d_setItem (v := v) (by omega) I (.inr ⟨kvs, kk, b, q1, rfl, hb, by rw [List.length_map] at lt; rw [sizeLine_eq]; exact lt, rfl⟩) rfl rv fun s' I' => ⟨_, I', ?_⟩
          have nn : putK kvs kk v ≠ [] := fun z => by
            have := congrArg List.length p1
            rw [z] at this
            obtain ⟨y0, yr, yq⟩ := List.exists_cons_of_ne_nil ne
            subst yq
            unfold putK at z
            split at z <;> simp at z
          obtain ⟨ex, s3⟩ := sr.write (u := .dT (putK kvs kk v)) (o := .dct (putD (keysD kk) d (kvs.map fun p => keysD p.1) xs).1 (putD (keysD kk) d (kvs.map fun p => keysD p.1) xs).2) ha q1 soft_dT (fun _ _ z => by cases z) fun x => .inr ⟨_, nn, upd_same, p1, RL.ext x _ _ p2⟩
          exact q P _ (xb.trans ex) s3
      · have e1 : (keyOk y && allB keyOk ks) = true := by
          cases y <;> first | exact e1 | exact absurd ⟨_, rfl⟩ c
        obtain ⟨e4, e5⟩ := and_t e1
        have nt : isTmp y = false := by cases y <;> first | rfl | cases e4
        obtain ⟨kk, k1, k2⟩ := keyOk_key e4 (ry.r nt)
        subst k1 k2
        rcases hob with ⟨kvs, q1, q2, q3⟩ | ⟨kvs, ne, q1, q2, q3⟩
        · subst q2
          obtain ⟨p1, p2⟩ := put_ok keyD keyE_key kk rd kvs xs q3
          refine d_setItem (v := v) (by omega) I (.inl ⟨kvs, kk, q1, rfl, by rw [List.length_map] at lt; rw [sizeLine_eq]; exact lt, rfl⟩) ri rv fun s' I' => ⟨_, I', ?_⟩
          obtain ⟨ex, s3⟩ := sr.write (u := .dK (putK kvs kk v)) (o := .dct (putD (keyD kk) d (kvs.map fun p => keyD p.1) xs).1 (putD (keyD kk) d (kvs.map fun p => keyD p.1) xs).2) ha q1 soft_dK (fun _ _ z => by cases z) fun x => .inl ⟨_, upd_same, p1, RL.ext x _ _ p2⟩
          exact q P _ (xb.trans ex) s3
        · subst q2
          obtain ⟨p, _, z⟩ := allB_first ne e5
          cases z
end
end
end Pv
end
section
set_option Elab.async false
set_option linter.all false
set_option maxRecDepth 100000
set_option maxHeartbeats 4000000
set_option autoImplicit false
/-! What loops walk. -/
namespace Pv
open PySem L2 PySem.Spec PyProof.Rows PySem.W
/-! ### enumerate over a tuple -/
section
open AutoSeq1 (wpAny_loadPart')
theorem enumT_new (l : Addr) (its : Array Value) (n : Nat) (dc : Option Addr) (sl : Array (Option Value)) :
    Meets (Builtin.«enumerate.__new__» ⟨[.type "enumerate", .ref l], []⟩) (fun _ R s => s.heap.get? l = some { cls := .type "tuple", dict := dc, data := .seq its n, slots := sl } ∧
      ∀ h1, h1 = s.heap.push { cls := .type "tuple_iterator", data := .fields #[.ref l, .int 0 0] } →
        R (.ok (.ret (.ref h1.objs.size))) { s with heap := h1.push { cls := .type "enumerate", data := .fields #[.none, .bool false, .ref s.heap.objs.size, rawInt 0, .none, .none] } }) :=
  .of_wp fun prog w A R s h => by
    obtain ⟨hp, g, dr, tk, os⟩ := s
    obtain ⟨hl, h⟩ := h
    have h := h _ rfl
    have se := sub_enumerate
    have tu : Heap.IsTuple (Shared.heap ⟨hp, g, dr, tk, os⟩) l its := ⟨_, hl, rfl, n, rfl⟩
    wp_walk using wpAny_loadPart' hl
    refine wpAny_stack_any fun st => wpAny_pure ?_
    split
    · rename_i c _ _ _ _ _
      cases (c == Value.type "enumerate") <;> (wp_walk using wpAny_loadPart' hl, wpAny_pyIter_tuple tu; exact ⟨_, rfl, h⟩)
    · wp_walk using wpAny_loadPart' hl, wpAny_pyIter_tuple tu
      exact ⟨_, rfl, h⟩
end
section
variable {prog : Program} {w : World} {A : Around} {E : Value → Shared → Prop} {s : Shared}
theorem enumT_call {l : Addr} {its : Array Value} {Q : Value → Shared → Prop} (tu : IsTup s.heap l its)
    (h : ∀ h', IsEnum h' (s.heap.objs.size + 1) s.heap.objs.size 0 .none → h'.IsTupleIter s.heap.objs.size l 0 → (∀ b o, s.heap.get? b = some o → h'.get? b = some o) → Q (.ref (s.heap.objs.size + 1)) { s with heap := h' }) :
    wpAny (model prog w) A (call (.type "enumerate") [.ref l]) Q E s := by
  obtain ⟨⟨c, dc, dt, sl⟩, hl, hc, n, hd⟩ := tu
  have hc : c = .type "tuple" := hc
  have hd : dt = .seq its n := hd
  subst hc hd
  refine callType_new F.called_enumerate (by decide) (F.typeCall_enumerate_1 _) (F.newCall_enumerate_1 _) (fun obj => F.args_object_init_2 obj _) F.entry_enumerate_new (enumT_new l its n dc sl) ⟨hl, ?_⟩
  intro h1 e1
  have hz : h1.objs.size = s.heap.objs.size + 1 := by rw [e1]; exact Heap.size_push ..
  have he : IsEnum (h1.push { cls := .type "enumerate", data := .fields #[.none, .bool false, .ref s.heap.objs.size, rawInt 0, .none, .none] }) (s.heap.objs.size + 1) s.heap.objs.size 0 .none := by
    have t := Heap.get?_push_size h1 (o := { cls := .type "enumerate", data := .fields #[.none, .bool false, .ref s.heap.objs.size, rawInt 0, .none, .none] }) rfl
    rw [hz] at t
    exact t
  rw [hz]
  refine ⟨⟨_, he, rfl⟩, h _ he ⟨_, Heap.get?_push_of_some _ (by rw [e1]; exact Heap.get?_push_size _ rfl), rfl, rfl⟩ fun b o x => Heap.get?_push_of_some _ (by rw [e1]; exact Heap.get?_push_of_some _ x)⟩
theorem enumT_end {e it l : Addr} {i : Int} {j : Nat} {its : Array Value} {old : Value} {Q : Option Value → Shared → Prop} (hh : A.handled = none) (he : IsEnum s.heap e it i old) (hit : s.heap.IsTupleIter it l j) (tu : IsTup s.heap l its) (hx : its[j]? = none)
    (hQ : ∀ h', Heap.ExtBut it s.heap h' → Q none { s with heap := h' }) : wpAny (model prog w) A (pyNext (.ref e)) Q E s := by
  unfold pyNext
  refine wpAny_bind (wpAny_attempt (wpAny_callSpecial?_slot (name := Str.ofString "__next__") ⟨_, he, rfl⟩ F.slot_enumerate_next (wpAny_call_entry F.slot_enumerate_next ⟨_, he, rfl⟩ F.entry_enumerate_next ?_ (F.args_enumerate_next_1 _))))
  show wpAny _ _ (field (.ref e) 2 >>= _) _ _ _
  refine wpAny_bind (wpAny_field he rfl (x := .ref it) rfl (wpAny_bind (wpAny_nextOf_tuple_end hh hit tu hx fun h' x eb ⟨o, ho, hc⟩ => ?_)))
  exact wpAny_bind (wpAny_isInstance (T := "StopIteration") (b := true) ⟨o, ho, hc⟩ isSubtype_stop (wpAny_pure (hQ _ eb)))
end
def IteT (K : PySem.W.Frag) (a : Addr) : It :=
  ⟨fun i H => ∃ (xs : List V) (x : V), SqT K H a xs ∧ xs[i]? = some x, fun i H v H' => ∃ T x, v = .ref T ∧ H T = none ∧ H' = upd H T (.tup [.int (i : Nat), x]) ∧ ∀ xs, SqT K H a xs → xs[i]? = some x, fun i H => ∃ xs : List V, SqT K H a xs ∧ xs.length ≤ i⟩
theorem turn_enumT {Pr : Program} {w : World} {K : PySem.W.Frag} {elts : List Expr} {kk : Nat} {tpos : Pos} (a e it : Addr) (hna : a ≠ it) (hea : e ≠ a) :
    Turn Pr w K (.Tuple elts kk tpos) (IteT K a) [e, it] e (fun i h => (∃ old, IsEnum h e it ((i : Nat) : Int) old) ∧ h.IsTupleIter it a i ∧ e ≠ it) where
  mem := by simp
  obj := fun i h st b hb => by
    obtain ⟨⟨old, he⟩, ⟨o, ho, hc, hd⟩, _⟩ := st
    rcases (show b = e ∨ b = it by simpa using hb) with z | z
    · exact ⟨_, z ▸ he, fun v q => by cases q⟩
    · exact ⟨o, z ▸ ho, fun v q => by rw [hd] at q; cases q⟩
  keep := fun i h h' st k => ⟨st.1.imp fun old he => k e (by simp) _ he, st.2.1.at fun o q => k it (by simp) o q, st.2.2⟩
  item := by
    intro X hP hw hK hc i pins s σ H E I hf st hg
    subst hP hw hK
    obtain ⟨⟨old, he⟩, hit, hne⟩ := st
    obtain ⟨xs, x, hq, hx⟩ := hg
    obtain ⟨its, rv, p, hz⟩ := I.tuple hq
    obtain ⟨u, hu, ru⟩ := rv.get hx
    have hel := Heap.lt_size he
    have hil : it < s.heap.objs.size := by obtain ⟨_, q, _⟩ := hit; exact Heap.lt_size q
    have hh : X.A.in1.handled = none := I.ok.hd hc
    have hlt : i < its.toArray.size := by rw [List.size_toArray]; exact (List.getElem?_eq_some_iff.mp hu).1
    refine wpAny_pyNext_enum_itemD (Draws.tuple hh it a hna its.toArray) he ⟨hit, p⟩ hlt hne (by simp [hne, hea]) fun y h' tk hy ho st' hT hsz hk => ?_
    have hy : its[i]? = some y := by simpa using hy
    rw [hu] at hy
    cases hy
    refine ⟨_, rfl, wpAny_letOwnedTupleGo_enum (s := { s with heap := h', toks := tk + 1 }) ho fun h'' he' sb => ?_⟩
    have hT2 := (sb.2 _ (Nat.ne_of_gt hel)).trans hT
    have new : ObjOk X.prog X.w (upd H s.heap.objs.size (.tup [.int (i : Nat), x])) h'' s.heap.objs.size (.tup [.int (i : Nat), x]) :=
      ⟨by rw [sizeLine_eq]; exact (by decide : 2 ≤ 16777216), [.int i tk, u], .cons ⟨_, rfl⟩ (.cons ru .nil), ⟨_, hT2, rfl, _, rfl⟩⟩
    have I1 := I.turnedNew (t' := tk + 1) (ch := [e, it]) (fun b ob hb q => (sb.2 b (fun z => hb (by simp [z]))).trans (hk b ob (fun z => hb (by simp [z])) (fun z => hb (by simp [z])) q)) hf (Nat.le_refl _) new
    refine ⟨.ref s.heap.objs.size, _, I1, rfl, ⟨_, x, rfl, I.hok.fresh (Nat.le_refl _), rfl, fun ys hy => by rw [I.tuple_inj hy hq]; exact hx⟩, ⟨⟨u, ?_⟩, st'.1.at fun o q => (sb.2 it (Ne.symm hne)).trans q, hne⟩, fun b hb => ?_⟩
    · rw [show ((i + 1 : Nat) : Int) = (i : Int) + 1 by omega]
      exact he'
    · have hb' : b < s.heap.objs.size := by
        rcases (show b = e ∨ b = it by simpa using hb) with z | z
        · rw [z]; exact hel
        · rw [z]; exact hil
      rw [upd_ne (Nat.ne_of_lt hb')]
      exact (hf b hb).1
  done := by
    intro X hP hw hK hc i pins s σ H E I hf st hg
    subst hP hw hK
    obtain ⟨⟨old, he⟩, hit, hne⟩ := st
    obtain ⟨xs, hq, hx⟩ := hg
    obtain ⟨its, rv, p, hz⟩ := I.tuple hq
    obtain ⟨f0, f1, f2, f3, f4, f5⟩ := hf it (by simp)
    have hl := rv.length
    exact enumT_end (I.ok.hd hc) he hit p (j := i) (by simp; omega) fun h' eb => ⟨rfl, I.turned (t' := s.toks) (fun b o hb q => eb b o hb q) f0 f1 f3 f4 f5⟩
  self := fun A i s Q E st h => let ⟨⟨_, he⟩, _⟩ := st; wpAny_pyIter_enum he h
section
variable {G : GC} {P P1 P2 : Pl} {H H0 H1 H2 : Hp} {d : D} {v u : V} {vs : List V} {h : Sh}
/-! ### the walk's state and the layer's -/
/-- the rest of what is known by value at a -/
def LstV (G : GC) (P : Pl) (H : Hp) (a : Addr) (ds : List D) : Prop := P.Z a ∧ ∃ ys, H a = some (.lst ys) ∧ RL G P H ds ys
def TupV (G : GC) (P : Pl) (H : Hp) (a : Addr) (ds : List D) : Prop := ∃ ys, H a = some (.tup ys) ∧ RL G P H ds ys
inductive WOk (G : GC) (P : Pl) (H : Hp) : Wk → It → Nat → Prop
  | lstL {a : Addr} {ds : List D} {i : Nat} (x : LstV G P H a ds) : WOk G P H (.lst (ds.drop i)) (Itl G.K a) i
  | lstT {a : Addr} {ds : List D} {i : Nat} (x : TupV G P H a ds) : WOk G P H (.lst (ds.drop i)) (Itt G.K a) i
  | obj {a : Addr} {n i : Nat} (x : P.A[n]? = some a) : WOk G P H (.obj n i) (Itl G.K a) i
  | enlL {a : Addr} {ds : List D} {i : Nat} (x : LstV G P H a ds) : WOk G P H (.enl i (ds.drop i)) (Ite G.K a) i
  | enlT {a : Addr} {ds : List D} {i : Nat} (x : TupV G P H a ds) : WOk G P H (.enl i (ds.drop i)) (IteT G.K a) i
  | eno {a : Addr} {n i : Nat} (x : P.A[n]? = some a) : WOk G P H (.eno n i) (Ite G.K a) i
  | zipL {a b : Addr} {ds es : List D} {i : Nat} (x : LstV G P H a ds) (y : LstV G P H b es) : WOk G P H (.zip (ds.drop i) (es.drop i)) (Itz G.K a b) i
  | zipT {a b : Addr} {ds es : List D} {i : Nat} (x : TupV G P H a ds) (y : TupV G P H b es) : WOk G P H (.zip (ds.drop i) (es.drop i)) (RZ.ItzT G.K a b) i
  | rng {lo : Int} {n i m : Nat} (e : m + i = n) : WOk G P H (.rng (lo + i) 1 m) (Itr lo n) i
  | rngC {lo c : Int} {n i m : Nat} (e : m + i = n) : WOk G P H (.rng (lo + i * c) c m) (Itc lo c n) i
theorem LstV.ext {a : Addr} {ds : List D} (e : WExt P H P1 H1) (x : LstV G P H a ds) : LstV G P1 H1 a ds := by
  obtain ⟨z, ys, q, r⟩ := x
  exact ⟨e.zz _ z, ys, e.kz _ _ z q (fun _ z => by cases z), RL.ext e _ _ r⟩
theorem TupV.ext {a : Addr} {ds : List D} (e : WExt P H P1 H1) (x : TupV G P H a ds) : TupV G P1 H1 a ds := by
  obtain ⟨ys, q, r⟩ := x
  exact ⟨ys, e.tup _ _ q, RL.ext e _ _ r⟩
theorem WOk.ext {w : Wk} {J : It} {i : Nat} (e : WExt P H P1 H1) (x : WOk G P H w J i) : WOk G P1 H1 w J i := by
  cases x with
  | lstL x => exact .lstL (x.ext e)
  | lstT x => exact .lstT (x.ext e)
  | obj x => exact .obj (e.at_ x)
  | enlL x => exact .enlL (x.ext e)
  | enlT x => exact .enlT (x.ext e)
  | eno x => exact .eno (e.at_ x)
  | zipL x y => exact .zipL (x.ext e) (y.ext e)
  | zipT x y => exact .zipT (x.ext e) (y.ext e)
  | rng e => exact .rng e
  | rngC e => exact .rngC e
theorem drop_nil {α : Type} {ds : List α} {i : Nat} (e : ds.drop i = []) : ds[i]? = none ∧ ds.length ≤ i := by
  have := List.drop_eq_nil_iff.mp e
  exact ⟨List.getElem?_eq_none this, this⟩
theorem drop_cons {α : Type} {ds : List α} {i : Nat} {x : α} {xs : List α} (e : ds.drop i = x :: xs) : ds[i]? = some x ∧ ds.drop (i + 1) = xs := by
  have l : i < ds.length := by
    by_cases c : i < ds.length
    · exact c
    · rw [List.drop_eq_nil_of_le (by omega)] at e; cases e
  rw [List.drop_eq_getElem_cons l] at e
  cases e
  exact ⟨List.getElem?_eq_getElem l, rfl⟩
/-- a new pair of a turn -/
theorem pair_ok (s : SR G P H h) {x y : D} {a b : V} {T : Addr} (hT : H T = none) (ra : R G P H x a) (rb : R G P H y b) : Ext P H P (upd H T (.tup [a, b])) ∧ SR G P (upd H T (.tup [a, b])) h ∧ R G P (upd H T (.tup [a, b])) (.tup [x, y]) (.ref T) :=
  ⟨Ext.new hT, s.new hT, T, [a, b], rfl, upd_same, RL.ext (Ext.new hT).toWExt _ _ (RL.cons ra (RL.cons rb RL.nil))⟩
/-- one turn -/
def StepOk (G : GC) (P : Pl) (H : Hp) (h : Sh) (J : It) (i : Nat) (r : Wr) : Prop := match r with
  | .item x w' => J.go i H ∧ ∀ v H', J.yld i H v H' → Ext P H P H' ∧ SR G P H' h ∧ R G P H' x v ∧ WOk G P H' w' J (i + 1)
  | .stop => J.stop i H
  | .stuck => True
theorem rdL_at (s : SR G P H h) {n : Nat} {a : Addr} {ds : List D} (e : rdL h (.obj n) = some ds) (q : P.A[n]? = some a) : ∃ ys, SqL G.K H a ys ∧ RL G P H ds ys := by
  obtain ⟨p, ys, e1, h1, h2⟩ := rdL_ok (H0 := H) (v := .ref a) s e ⟨a, rfl, q⟩
  cases e1
  exact ⟨ys, h1, h2⟩
theorem SqL.inj_of {K : PySem.W.Frag} {a : Addr} {ys zs : List V} (q : H a = some (.lst ys)) (hk : K.lookup a = none) (z : SqL K H a zs) : zs = ys := by
  rcases z with (z | ⟨o, z⟩) | ⟨o, its, n, z, _⟩
  · rw [q] at z; cases z; rfl
  · rw [q] at z; cases z
  · rw [hk] at z; cases z
end
end Pv
end
section
set_option Elab.async false
set_option linter.all false
set_option maxRecDepth 100000
set_option maxHeartbeats 4000000
set_option autoImplicit false
/-! One turn of a walk. -/
namespace Pv
open PySem L2 PySem.Spec PyProof.Rows PySem.W
section
variable {G : GC} {P P1 P2 : Pl} {H H0 H1 H2 : Hp} {d : D} {v u : V} {vs : List V} {h : Sh}
theorem get_of {ds : List D} {ys : List V} {i : Nat} {x : D} {w : V} (r : RL G P H ds ys) (e : ds[i]? = some x) (q : ys[i]? = some w) : R G P H x w := by
  obtain ⟨w', h1, h2⟩ := r.get e
  rw [q] at h1
  cases h1
  exact h2
theorem none_of {ds : List D} {ys : List V} {i : Nat} (r : RL G P H ds ys) (e : ds.length ≤ i) : ys.length ≤ i := by rw [r.length]; exact e
theorem step_ok (s : SR G P H h) {w : Wk} {J : It} {i : Nat} (x : WOk G P H w J i) : StepOk G P H h J i (stepW h w) := by
  cases x with
  | lstL x =>
    rename_i a ds
    obtain ⟨z, ys, q, r⟩ := id x
    have e : stepW h (.lst (ds.drop i)) = List.rec (motive := fun _ => Wr) .stop (fun x xs _ => .item x (.lst xs)) (ds.drop i) := rfl
    rw [e]
    cases c : ds.drop i with
    | nil => exact ⟨ys, SqL.of q, none_of r (drop_nil c).2⟩
    | cons y xs =>
      obtain ⟨c1, c2⟩ := drop_cons c
      obtain ⟨w', h1, h2⟩ := r.get c1
      refine ⟨⟨ys, w', SqL.of q, h1⟩, fun v H' y' => ?_⟩
      obtain ⟨rfl, k⟩ := y'
      exact ⟨Ext.refl, s, get_of r c1 (k ys (SqL.of q)), c2 ▸ .lstL x⟩
  | lstT x =>
    rename_i a ds
    obtain ⟨ys, q, r⟩ := id x
    have e : stepW h (.lst (ds.drop i)) = List.rec (motive := fun _ => Wr) .stop (fun x xs _ => .item x (.lst xs)) (ds.drop i) := rfl
    rw [e]
    cases c : ds.drop i with
    | nil => exact ⟨ys, SqT.of q, none_of r (drop_nil c).2⟩
    | cons y xs =>
      obtain ⟨c1, c2⟩ := drop_cons c
      obtain ⟨w', h1, h2⟩ := r.get c1
      refine ⟨⟨ys, w', SqT.of q, h1⟩, fun v H' y' => ?_⟩
      obtain ⟨rfl, k⟩ := y'
      exact ⟨Ext.refl, s, get_of r c1 (k ys (SqT.of q)), c2 ▸ .lstT x⟩
  | obj x =>
    rename_i a n
    have e : stepW h (.obj n i) = frN i fun i => stepO h n i := rfl
    rw [e, frN_eq]
    unfold stepO
    cases c : rdL h (.obj n) with
    | none => exact True.intro
    | some ds =>
      obtain ⟨ys, q, r⟩ := rdL_at s c x
      show StepOk G P H h _ i (opt' (nthK ds i) .stop fun x => .item x (.obj n (Nat.succ i)))
      rw [nthK_eq]
      cases c1 : ds[i]? with
      | none => exact ⟨ys, q, none_of r (List.getElem?_eq_none_iff.mp c1)⟩
      | some y =>
        obtain ⟨w', h1, h2⟩ := r.get c1
        refine ⟨⟨ys, w', q, h1⟩, fun v H' y' => ?_⟩
        obtain ⟨rfl, k⟩ := y'
        exact ⟨Ext.refl, s, get_of r c1 (k ys q), .obj x⟩
  | enlL x =>
    rename_i a ds
    obtain ⟨z, ys, q, r⟩ := id x
    have e : stepW h (.enl i (ds.drop i)) = frN i fun i => List.rec (motive := fun _ => Wr) .stop (fun x xs _ => .item (.tup [.int (.ofNat i), x]) (.enl (Nat.succ i) xs)) (ds.drop _) := rfl
    rw [e, frN_eq]
    cases c : ds.drop i with
    | nil => exact ⟨ys, SqL.of q, none_of r (drop_nil c).2⟩
    | cons y xs =>
      obtain ⟨c1, c2⟩ := drop_cons c
      obtain ⟨w', h1, h2⟩ := r.get c1
      refine ⟨⟨ys, w', SqL.of q, h1⟩, fun v H' y' => ?_⟩
      obtain ⟨T, w2, rfl, hT, rfl, k⟩ := y'
      obtain ⟨p1, p2, p3⟩ := pair_ok s hT (x := .int i) (a := .int i) rfl (get_of r c1 (k ys (SqL.of q)))
      exact ⟨p1, p2, p3, c2 ▸ .enlL (x.ext p1.toWExt)⟩
  | enlT x =>
    rename_i a ds
    obtain ⟨ys, q, r⟩ := id x
    have e : stepW h (.enl i (ds.drop i)) = frN i fun i => List.rec (motive := fun _ => Wr) .stop (fun x xs _ => .item (.tup [.int (.ofNat i), x]) (.enl (Nat.succ i) xs)) (ds.drop _) := rfl
    rw [e, frN_eq]
    cases c : ds.drop i with
    | nil => exact ⟨ys, SqT.of q, none_of r (drop_nil c).2⟩
    | cons y xs =>
      obtain ⟨c1, c2⟩ := drop_cons c
      obtain ⟨w', h1, h2⟩ := r.get c1
      refine ⟨⟨ys, w', SqT.of q, h1⟩, fun v H' y' => ?_⟩
      obtain ⟨T, w2, rfl, hT, rfl, k⟩ := y'
      obtain ⟨p1, p2, p3⟩ := pair_ok s hT (x := .int i) (a := .int i) rfl (get_of r c1 (k ys (SqT.of q)))
      exact ⟨p1, p2, p3, c2 ▸ .enlT (x.ext p1.toWExt)⟩
  | eno x =>
    rename_i a n
    have e : stepW h (.eno n i) = frN i fun i => stepE h n i := rfl
    rw [e, frN_eq]
    unfold stepE
    cases c : rdL h (.obj n) with
    | none => exact True.intro
    | some ds =>
      obtain ⟨ys, q, r⟩ := rdL_at s c x
      show StepOk G P H h _ i (opt' (nthK ds i) .stop fun x => .item (.tup [.int (.ofNat i), x]) (.eno n (Nat.succ i)))
      rw [nthK_eq]
      cases c1 : ds[i]? with
      | none => exact ⟨ys, q, none_of r (List.getElem?_eq_none_iff.mp c1)⟩
      | some y =>
        obtain ⟨w', h1, h2⟩ := r.get c1
        refine ⟨⟨ys, w', q, h1⟩, fun v H' y' => ?_⟩
        obtain ⟨T, w2, rfl, hT, rfl, k⟩ := y'
        obtain ⟨p1, p2, p3⟩ := pair_ok s hT (x := .int i) (a := .int i) rfl (get_of r c1 (k ys q))
        exact ⟨p1, p2, p3, .eno (p1.toWExt.at_ x)⟩
  | zipL x y =>
    rename_i a b ds es
    obtain ⟨z1, ys, q, r⟩ := id x
    obtain ⟨z2, zs, q2, r2⟩ := id y
    have e : stepW h (.zip (ds.drop i) (es.drop i)) = List.rec (motive := fun _ => Wr) .stop (fun x xs _ => List.rec (motive := fun _ => Wr) .stop (fun y ys _ => .item (.tup [x, y]) (.zip xs ys)) (es.drop i)) (ds.drop i) := rfl
    rw [e]
    cases c : ds.drop i with
    | nil => exact ⟨ys, zs, SqL.of q, SqL.of q2, .inl (none_of r (drop_nil c).2)⟩
    | cons x1 xs =>
      cases c' : es.drop i with
      | nil => exact ⟨ys, zs, SqL.of q, SqL.of q2, .inr (none_of r2 (drop_nil c').2)⟩
      | cons y1 xs' =>
        obtain ⟨c1, c2⟩ := drop_cons c
        obtain ⟨c3, c4⟩ := drop_cons c'
        obtain ⟨w1, h1, _⟩ := r.get c1
        obtain ⟨w2, h2, _⟩ := r2.get c3
        refine ⟨⟨ys, zs, w1, w2, SqL.of q, SqL.of q2, h1, h2⟩, fun v H' y' => ?_⟩
        obtain ⟨T, v1, v2, rfl, hT, rfl, k1, k2⟩ := y'
        obtain ⟨p1, p2, p3⟩ := pair_ok s hT (get_of r c1 (k1 ys (SqL.of q))) (get_of r2 c3 (k2 zs (SqL.of q2)))
        exact ⟨p1, p2, p3, c2 ▸ c4 ▸ .zipL (x.ext p1.toWExt) (y.ext p1.toWExt)⟩
  | zipT x y =>
    rename_i a b ds es
    obtain ⟨ys, q, r⟩ := id x
    obtain ⟨zs, q2, r2⟩ := id y
    have e : stepW h (.zip (ds.drop i) (es.drop i)) = List.rec (motive := fun _ => Wr) .stop (fun x xs _ => List.rec (motive := fun _ => Wr) .stop (fun y ys _ => .item (.tup [x, y]) (.zip xs ys)) (es.drop i)) (ds.drop i) := rfl
    rw [e]
    cases c : ds.drop i with
    | nil => exact ⟨ys, zs, SqT.of q, SqT.of q2, .inl (none_of r (drop_nil c).2)⟩
    | cons x1 xs =>
      cases c' : es.drop i with
      | nil => exact ⟨ys, zs, SqT.of q, SqT.of q2, .inr (none_of r2 (drop_nil c').2)⟩
      | cons y1 xs' =>
        obtain ⟨c1, c2⟩ := drop_cons c
        obtain ⟨c3, c4⟩ := drop_cons c'
        obtain ⟨w1, h1, _⟩ := r.get c1
        obtain ⟨w2, h2, _⟩ := r2.get c3
        refine ⟨⟨ys, zs, w1, w2, SqT.of q, SqT.of q2, h1, h2⟩, fun v H' y' => ?_⟩
        obtain ⟨T, v1, v2, rfl, hT, rfl, k1, k2⟩ := y'
        obtain ⟨p1, p2, p3⟩ := pair_ok s hT (get_of r c1 (k1 ys (SqT.of q))) (get_of r2 c3 (k2 zs (SqT.of q2)))
        exact ⟨p1, p2, p3, c2 ▸ c4 ▸ .zipT (x.ext p1.toWExt) (y.ext p1.toWExt)⟩
  | rng e0 =>
    rename_i lo n m
    have e : stepW h (.rng (lo + i) 1 m) = Nat.rec (motive := fun _ => Wr) .stop (fun n _ => frI (lo + i) fun lo => .item (.int lo) (.rng (lo + 1) 1 n)) m := stepW_rng ..
    rw [e]
    cases m with
    | zero => exact (show n ≤ i by omega)
    | succ m =>
      show StepOk G P H h _ i (frI (lo + i) fun lo => .item (.int lo) (.rng (lo + 1) 1 m))
      rw [frI_eq]
      refine ⟨(show i < n by omega), fun v H' y' => ?_⟩
      obtain ⟨rfl, rfl⟩ := y'
      have e1 : lo + (i : Int) + 1 = lo + ((i + 1 : Nat) : Int) := by omega
      exact ⟨Ext.refl, s, rfl, e1 ▸ .rng (by omega)⟩
  | rngC e0 =>
    rename_i lo c n m
    have e : stepW h (.rng (lo + i * c) c m) = Nat.rec (motive := fun _ => Wr) .stop (fun n _ => frI (lo + i * c) fun lo => .item (.int lo) (.rng (lo + c) c n)) m := stepW_rng ..
    rw [e]
    cases m with
    | zero => exact (show n ≤ i by omega)
    | succ m =>
      show StepOk G P H h _ i (frI (lo + i * c) fun lo => .item (.int lo) (.rng (lo + c) c m))
      rw [frI_eq]
      refine ⟨(show i < n by omega), fun v H' y' => ?_⟩
      obtain ⟨rfl, rfl⟩ := y'
      have e1 : lo + (i : Int) * c + c = lo + ((i + 1 : Nat) : Int) * c := by
        rw [show ((i + 1 : Nat) : Int) = (i : Int) + 1 by omega, Int.add_mul]
        omega
      exact ⟨Ext.refl, s, rfl, e1 ▸ .rngC (by omega)⟩
end
end Pv
end
section
set_option Elab.async false
set_option linter.all false
set_option maxRecDepth 100000
set_option maxHeartbeats 4000000
set_option autoImplicit false
/-! Walks begun; loops. -/
namespace Pv
open PySem L2 PySem.Spec PyProof.Rows PySem.W
def rdI (G : GC) (W : WX) (f : En → Sh → Rs Wk) : TI := fun σ H R => ∃ P h en, Std G P h en σ H ∧ ERes G W σ P H (f en h) (fun w _ P' H' => ∀ J, WOk G P' H' w J 0 → R J H')
section
variable {G : GC} {W : WX} {X : Cx} {tg a b : Expr} {pos : Pos} {A B : En → Sh → Rs D} {P P1 P2 : Pl} {H H0 H1 H2 : Hp} {d : D} {v u : V} {vs : List V} {h : Sh} {σ : L2.St}
/-- a tuple, a list -/
def isU' : D → Bool
  | .tup _ => true
  | _ => false
theorem seq_L (s : SR G P1 H1 h) (x : Ext P H P1 H1) (r : RT G P1 H1 H d v) {w : Wk} (nu : isU' d = false) (e : wkSeq h d = some w) :
    ∃ a P2, v = .ref a ∧ (∃ xs, SqL G.K H1 a xs) ∧ Ext P H P2 H1 ∧ SR G P2 H1 h ∧ WOk G P2 H1 w (Itl G.K a) 0 := by
  cases d <;> first | (cases e; done) | (cases nu; done) | skip
  · cases e
    obtain ⟨P2, x2, we, s2, r2⟩ := fz_ok s x r
    obtain ⟨p, ys, rfl, z, q, r3⟩ := r2
    exact ⟨p, P2, rfl, ⟨ys, SqL.of q⟩, x2, s2, .lstL (i := 0) ⟨z, ys, q, r3⟩⟩
  · cases e
    obtain ⟨p, ys, rfl, z, q, r3⟩ := r
    exact ⟨p, P1, rfl, ⟨ys, SqL.of q⟩, x, s, .lstL (i := 0) ⟨z, ys, q, r3⟩⟩
  · rename_i n
    have e : opt' (rdL h (.obj n)) none (fun _ => some (Wk.obj n 0)) = some w := e
    obtain ⟨ds, e1, e2⟩ := opt_some e
    cases e2
    obtain ⟨p, rfl, q⟩ := r
    obtain ⟨ys, h1, _⟩ := rdL_at s e1 q
    exact ⟨p, P1, rfl, ⟨ys, h1⟩, x, s, .obj q⟩
theorem seq_T (r : RT G P1 H1 H d v) {w : Wk} (nu : isU' d = true) (e : wkSeq h d = some w) : ∃ a, v = .ref a ∧ (∃ xs, SqT G.K H1 a xs) ∧ WOk G P1 H1 w (Itt G.K a) 0 := by
  cases d <;> first | (cases nu; done) | skip
  cases e
  obtain ⟨p, ys, rfl, q, r⟩ := tupR r
  exact ⟨p, rfl, ⟨ys, SqT.of q⟩, .lstT (i := 0) ⟨ys, q, r⟩⟩
theorem enum_L (s : SR G P1 H1 h) (x : Ext P H P1 H1) (r : RT G P1 H1 H d v) {w : Wk} (nu : isU' d = false) (e : wkEnum h d = some w) :
    ∃ a P2, v = .ref a ∧ (∃ xs, SqL G.K H1 a xs) ∧ Ext P H P2 H1 ∧ SR G P2 H1 h ∧ WOk G P2 H1 w (Ite G.K a) 0 := by
  cases d <;> first | (cases e; done) | (cases nu; done) | skip
  · cases e
    obtain ⟨P2, x2, we, s2, r2⟩ := fz_ok s x r
    obtain ⟨p, ys, rfl, z, q, r3⟩ := r2
    exact ⟨p, P2, rfl, ⟨ys, SqL.of q⟩, x2, s2, .enlL (i := 0) ⟨z, ys, q, r3⟩⟩
  · cases e
    obtain ⟨p, ys, rfl, z, q, r3⟩ := r
    exact ⟨p, P1, rfl, ⟨ys, SqL.of q⟩, x, s, .enlL (i := 0) ⟨z, ys, q, r3⟩⟩
  · rename_i n
    have e : opt' (rdL h (.obj n)) none (fun _ => some (Wk.eno n 0)) = some w := e
    obtain ⟨ds, e1, e2⟩ := opt_some e
    cases e2
    obtain ⟨p, rfl, q⟩ := r
    obtain ⟨ys, h1, _⟩ := rdL_at s e1 q
    exact ⟨p, P1, rfl, ⟨ys, h1⟩, x, s, .eno q⟩
theorem enum_T (r : RT G P1 H1 H d v) {w : Wk} (nu : isU' d = true) (e : wkEnum h d = some w) : ∃ a, v = .ref a ∧ (∃ xs, SqT G.K H1 a xs) ∧ WOk G P1 H1 w (IteT G.K a) 0 := by
  cases d <;> first | (cases nu; done) | skip
  cases e
  obtain ⟨p, ys, rfl, q, r⟩ := tupR r
  exact ⟨p, rfl, ⟨ys, SqT.of q⟩, .enlT (i := 0) ⟨ys, q, r⟩⟩
/-- the result's kind is known ahead of the run -/
theorem kind_of (r : Rs D) : (∃ d h, r = .ok d h ∧ isU' d = true) ∨ ∀ d h, r = .ok d h → isU' d = false := by
  cases r with
  | ok d h =>
    cases q : isU' d with
    | true => exact .inl ⟨d, h, rfl, q⟩
    | false => exact .inr fun d' h' e => by cases e; exact q
  | exc c h => exact .inr fun d h e => by cases e
  | stuck => exact .inr fun d h e => by cases e
theorem pi_wseq (hK : X.K = G.K ∧ X.w = G.w) (ha : PE X a (rdE G W A)) : PI X tg a (rdI G W fun en h => (A en h).bind fun d h => .opt (wkSeq h d) h) := by
  refine ⟨fun pins s σ H R I q => ?_⟩
  obtain ⟨P, h, en, st, e⟩ := q
  dsimp only at e
  rcases kind_of (A en h) with ⟨d, h', k, u⟩ | k
  · refine (pi_tup ha).run pins s σ H R I ⟨P, h, en, st, ?_⟩
    rw [k] at e ⊢
    intro P1 H1 x1 s1 v r
    obtain ⟨w, e1, e2⟩ := ERes.opt e
    obtain ⟨a, rfl, xs, wo⟩ := seq_T r u e1
    exact ⟨a, rfl, hK.1 ▸ xs, hK.1 ▸ e2 P1 H1 x1 s1 _ wo⟩
  · refine (pi_list ha).run pins s σ H R I ⟨P, h, en, st, ?_⟩
    cases c : A en h with
    | ok d h1 =>
      rw [c] at e
      intro P1 H1 x1 s1 v r
      obtain ⟨w, e1, e2⟩ := ERes.opt e
      obtain ⟨a, P2, rfl, xs, x2, s2, wo⟩ := seq_L s1 x1 r (k d h1 c) e1
      exact ⟨a, rfl, hK.1 ▸ xs, hK.1 ▸ e2 P2 H1 x2 s2 _ wo⟩
    | exc cl h1 => rw [c] at e; exact e
    | stuck => rw [c] at e; exact e.elim
/-- enumerate of a tuple -/
def iEnumT (K : PySem.W.Frag) (ta : TA) : TI := fun σ H R => ta σ H fun vs H1 => ∃ a xs, vs = [.ref a] ∧ SqT K H1 a xs ∧ R (IteT K a) H1
theorem pi_enumT {e : Expr} {ta : TA} {p pos tpos : Pos} {elts : List Expr} {kk : Nat} (hg : Gl X "enumerate") (hm : X.mg "enumerate" = none) (ha : PA X [e] ta) (hs : starEach [e] X.env = [(false, eval e X.env)]) :
    PI X (.Tuple elts kk tpos) (.Call (.Name "enumerate" p) [e] [] pos) (iEnumT X.K ta) := by
  refine ⟨fun pins s σ H R I h => ?_⟩
  refine Call_ (ld_blt I hg hm boot_enumerate (PyProof.Rows.callWith_type1 (thn (ha.run pos pins s σ H _ I h) fun us s1 ⟨vs, H1, I1, r1, a, xs, ex, hq, q⟩ => ?_) hs rfl))
  subst ex
  rw [Vals.ref1 r1]
  obtain ⟨its, rv, tu, hz⟩ := I1.tuple hq
  have lt : a < s1.heap.objs.size := by obtain ⟨o, ho, _⟩ := id tu; exact Heap.lt_size ho
  refine enumT_call tu fun h' he hit hk => wpAny_pyIter_enum he ?_
  refine ⟨s1.heap.objs.size + 1, [s1.heap.objs.size + 1, s1.heap.objs.size], _, _, H1, rfl, I1.kept (t' := s1.toks) hk, turn_enumT a (s1.heap.objs.size + 1) s1.heap.objs.size (Nat.ne_of_lt lt) (Nat.ne_of_gt (Nat.lt_succ_of_lt lt)), ⟨⟨.none, he⟩, hit, Nat.succ_ne_self _⟩, fun b hb => ?_, q⟩
  have hle : s1.heap.objs.size ≤ b := by
    rcases (show b = s1.heap.objs.size + 1 ∨ b = s1.heap.objs.size by simpa using hb) with z | z
    · rw [z]; exact Nat.le_succ _
    · rw [z]; exact Nat.le_refl _
  exact I1.fpOk hle (I1.hok.fresh hle)
theorem one_A (ha : PE X a (rdE G W A)) (hs : starEach [a] X.env = (false, eval a X.env) :: starEach [] X.env) : PA X [a] (tCons (rdE G W A) tNil) := pa_cons ha pa_nil hs
theorem pi_wenum (hK : X.K = G.K ∧ X.w = G.w) {p tpos : Pos} {elts : List Expr} {kk : Nat} (hg : Gl X "enumerate") (hm : X.mg "enumerate" = none) (ha : PE X a (rdE G W A)) (hs : starEach [a] X.env = (false, eval a X.env) :: starEach [] X.env) :
    PI X (.Tuple elts kk tpos) (.Call (.Name "enumerate" p) [a] [] pos) (rdI G W fun en h => (A en h).bind fun d h => .opt (wkEnum h d) h) := by
  refine ⟨fun pins s σ H R I q => ?_⟩
  obtain ⟨P, h, en, st, e⟩ := q
  dsimp only at e
  rcases kind_of (A en h) with ⟨d, h', k, u⟩ | k
  · refine (pi_enumT hg hm (one_A ha hs) hs).run pins s σ H R I ⟨P, h, en, st, ?_⟩
    rw [k] at e ⊢
    intro P1 H1 x1 s1 v r
    obtain ⟨w, e1, e2⟩ := ERes.opt e
    obtain ⟨a, rfl, ⟨xs, hx⟩, wo⟩ := enum_T r u e1
    exact ⟨a, xs, rfl, hK.1 ▸ hx, hK.1 ▸ e2 P1 H1 x1 s1 _ wo⟩
  · refine (pi_enum hg hm (one_A ha hs) hs).run pins s σ H R I ⟨P, h, en, st, ?_⟩
    cases c : A en h with
    | ok d h1 =>
      rw [c] at e
      intro P1 H1 x1 s1 v r
      obtain ⟨w, e1, e2⟩ := ERes.opt e
      obtain ⟨a, P2, rfl, ⟨xs, hx⟩, x2, s2, wo⟩ := enum_L s1 x1 r (k d h1 c) e1
      exact ⟨a, xs, rfl, hK.1 ▸ hx, hK.1 ▸ e2 P2 H1 x2 s2 _ wo⟩
    | exc cl h1 => rw [c] at e; exact e
    | stuck => rw [c] at e; exact e.elim
/-- by value from now on -/
theorem lstV_of (s : SR G P1 H1 h) (x : Ext P H P1 H1) (r : RT G P1 H1 H d v) {ds : List D} (e : isL d = some ds) : ∃ p P2, v = .ref p ∧ Ext P H P2 H1 ∧ WExt P1 H1 P2 H1 ∧ SR G P2 H1 h ∧ LstV G P2 H1 p ds := by
  obtain ⟨P2, x2, we, s2, r2⟩ := fz_ok s x r
  cases d <;> first | (cases e; done) | skip
  · cases e
    obtain ⟨p, ys, rfl, z, q, r3⟩ := r2
    exact ⟨p, P2, rfl, x2, we, s2, z, ys, q, r3⟩
  · cases e
    obtain ⟨p, ys, rfl, z, q, r3⟩ := r2
    exact ⟨p, P2, rfl, x2, we, s2, z, ys, q, r3⟩
theorem wkZip_ok {x y : D} {w : Wk} (e : wkZip x y = some w) : (∃ ds es, x = .tup ds ∧ y = .tup es ∧ w = .zip ds es) ∨ ∃ ds es, isL x = some ds ∧ isL y = some es ∧ w = .zip ds es := by
  cases x <;> first | (cases e; done) | skip
  all_goals
    cases y <;> first | (cases e; done) | skip
    all_goals
      cases e
      first
        | exact .inl ⟨_, _, rfl, rfl, rfl⟩
        | exact .inr ⟨_, _, rfl, rfl, rfl⟩
theorem pi_wzip (hK : X.K = G.K ∧ X.w = G.w) {p tpos : Pos} {elts : List Expr} {kk : Nat} (hg : Gl X "zip") (hm : X.mg "zip" = none) (ha : PE X a (rdE G W A)) (hb : PE X b (rdE G W B))
    (hs : starEach [a, b] X.env = (false, eval a X.env) :: starEach [b] X.env) (hs2 : starEach [b] X.env = (false, eval b X.env) :: starEach [] X.env) :
    PI X (.Tuple elts kk tpos) (.Call (.Name "zip" p) [a, b] [] pos) (rdI G W fun en h => (A en h).bind fun d h => (B en h).bind fun d' h => .opt (wkZip d d') h) := by
  refine ⟨fun pins s σ H R I q => (RZ.pi_zipA hg hm (pa_cons ha (pa_cons hb pa_nil hs2) hs) hs (by rw [hs2]; rfl)).run pins s σ H R I ?_⟩
  obtain ⟨P, h, en, st, e⟩ := q
  refine ⟨P, h, en, st, e.bind.imp fun x h1 P1 H1 y1 s1 e v r => ⟨P1, h1, en, st.on y1 s1, (ERes.re y1 e.bind).imp fun y h2 P2 H2 y2 s2 e u r2 => ?_⟩⟩
  obtain ⟨w, e1, e2⟩ := ERes.opt e
  rcases wkZip_ok e1 with ⟨ds, es, rfl, rfl, rfl⟩ | ⟨ds, es, k1, k2, rfl⟩
  · obtain ⟨p1, ys, rfl, q1, r1⟩ := tupR (r.ext y2)
    obtain ⟨p2, zs, rfl, q2, r2⟩ := tupR r2
    exact ⟨p1, p2, ys, zs, rfl, .inr ⟨SqT.of q1, SqT.of q2, hK.1 ▸ e2 P2 H2 (y1.trans y2) s2 _ (.zipT (i := 0) ⟨ys, q1, r1⟩ ⟨zs, q2, r2⟩)⟩⟩
  · obtain ⟨p2, P3, rfl, x3, we3, s3, l2⟩ := lstV_of s2 y2 r2 k2
    obtain ⟨p1, P4, rfl, x4, we4, s4, l1⟩ := lstV_of s3 (y1.trans x3) (r.ext x3) k1
    have l2' := l2.ext we4
    obtain ⟨z1, ys, q1, r1⟩ := id l1
    obtain ⟨z2, zs, q2, r3⟩ := id l2'
    exact ⟨p1, p2, ys, zs, rfl, .inl ⟨SqL.of q1, SqL.of q2, hK.1 ▸ e2 P4 H2 x4 s4 _ (.zipL (i := 0) l1 l2')⟩⟩
theorem smallI_ok {i : Int} (e : smallI i = true) : -(2 ^ 62) ≤ i ∧ i < 2 ^ 62 := by
  obtain ⟨a, b⟩ := and_t e
  exact ⟨ile_t a, ilt_t b⟩
theorem rng0 {lo : Int} {n : Nat} : WOk G P H (.rng lo 1 n) (Itr lo n) 0 := by
  have : WOk G P H (.rng (lo + ((0 : Nat) : Int)) 1 n) (Itr lo n) 0 := .rng rfl
  simpa using this
theorem rngC0 {lo c : Int} {n : Nat} : WOk G P H (.rng lo c n) (Itc lo c n) 0 := by
  have : WOk G P H (.rng (lo + ((0 : Nat) : Int) * c) c n) (Itc lo c n) 0 := .rngC rfl
  simpa using this
theorem ar1 (A : EF) (c : Cl) (en : En) (h : Sh) : arCons 0 A arNil c en h = (A c en h).bind fun d h => .ok [d] h := rfl
theorem ar2 (A B : EF) (c : Cl) (en : En) (h : Sh) : arCons 0 A (arCons 0 B arNil) c en h = (A c en h).bind fun d h => (B c en h).bind fun d' h => .ok [d, d'] h := by
  show (A c en h).bind (fun d h => ((B c en h).bind fun d h => Rs.ok [d] h).map fun ds => d :: ds) = _
  congr 1
  funext d h
  cases B c en h <;> rfl
theorem ar3 (A B C : EF) (c : Cl) (en : En) (h : Sh) : arCons 0 A (arCons 0 B (arCons 0 C arNil)) c en h = (A c en h).bind fun d h => (B c en h).bind fun d' h => (C c en h).bind fun d'' h => .ok [d, d', d''] h := by
  show (A c en h).bind (fun d h => (arCons 0 B (arCons 0 C arNil) c en h).map fun ds => d :: ds) = _
  congr 1
  funext d h
  rw [ar2]
  cases B c en h with
  | ok d' h' =>
    show ((C c en h').bind fun d'' h => Rs.ok [d', d''] h).map (fun ds => d :: ds) = _
    cases q : C c en h' with
    | ok d'' h2 => show _ = (C c en h').bind _; rw [q]; rfl
    | exc => show _ = (C c en h').bind _; rw [q]; rfl
    | stuck => show _ = (C c en h').bind _; rw [q]; rfl
  | exc => rfl
  | stuck => rfl
variable {cl : Cl} {A' B' C' : EF} {c : Expr}
theorem pi_wrng1 {p : Pos} (hg : Gl X "range") (hm : X.mg "range" = none) (ha : PE X a (rdE G W (A' cl))) (hs : starEach [a] X.env = (false, eval a X.env) :: starEach [] X.env) :
    PI X tg (.Call (.Name "range" p) [a] [] pos) (rdI G W fun en h => (arCons 0 A' arNil cl en h).bind fun ds h => .opt (rngW ds) h) := by
  refine ⟨fun pins s σ H R I q => (pi_range1 hg hm (one_A ha hs) hs).run pins s σ H R I ?_⟩
  obtain ⟨P, h, en, st, e⟩ := q
  dsimp only at e
  rw [ar1] at e
  refine ⟨P, h, en, st, e.bind.bind.imp fun x h1 P1 H1 y1 s1 e v r => ?_⟩
  obtain ⟨w, e1, e2⟩ := ERes.opt (e P1 H1 y1 s1)
  have hx : ∃ j, x = .int j := by cases x <;> first | exact ⟨_, rfl⟩ | cases e1
  obtain ⟨j, rfl⟩ := hx
  cases r
  have e1 : bif' (smallI j) (frN j.toNat fun n => some (Wk.rng 0 1 n)) none = some w := e1
  obtain ⟨k1, k2⟩ := bif_some e1
  rw [frN_eq] at k2
  cases k2
  obtain ⟨b1, b2⟩ := smallI_ok k1
  exact ⟨j, rfl, b1, b2, e2 P1 H1 y1 s1 _ rng0⟩
theorem pi_wrng2 {p : Pos} (hg : Gl X "range") (hm : X.mg "range" = none) (ha : PE X a (rdE G W (A' cl))) (hb : PE X b (rdE G W (B' cl))) (hs : starEach [a, b] X.env = (false, eval a X.env) :: starEach [b] X.env) (hs2 : starEach [b] X.env = (false, eval b X.env) :: starEach [] X.env) :
    PI X tg (.Call (.Name "range" p) [a, b] [] pos) (rdI G W fun en h => (arCons 0 A' (arCons 0 B' arNil) cl en h).bind fun ds h => .opt (rngW ds) h) := by
  refine ⟨fun pins s σ H R I q => (pi_range2 hg hm (pa_cons ha (pa_cons hb pa_nil hs2) hs) (by rw [hs, hs2]; rfl) hs2).run pins s σ H R I ?_⟩
  obtain ⟨P, h, en, st, e⟩ := q
  dsimp only at e
  rw [ar2] at e
  refine ⟨P, h, en, st, e.bind.bind.imp fun x h1 P1 H1 y1 s1 e v r => ⟨P1, h1, en, st.on y1 s1, (ERes.re y1 e.bind).imp fun y h2 P2 H2 y2 s2 e u r2 => ?_⟩⟩
  obtain ⟨w, e1, e2⟩ := ERes.opt (e P2 H2 (y1.trans y2) s2)
  have hx : ∃ i, x = .int i := by cases x <;> first | exact ⟨_, rfl⟩ | (cases y <;> cases e1)
  obtain ⟨i, rfl⟩ := hx
  have hy : ∃ j, y = .int j := by cases y <;> first | exact ⟨_, rfl⟩ | cases e1
  obtain ⟨j, rfl⟩ := hy
  cases r
  cases r2
  have e1 : bif' (smallI i && smallI j) (frN (j - i).toNat fun n => some (Wk.rng i 1 n)) none = some w := e1
  obtain ⟨k1, k2⟩ := bif_some e1
  rw [frN_eq] at k2
  cases k2
  obtain ⟨k1, k3⟩ := and_t k1
  obtain ⟨b1, b2⟩ := smallI_ok k1
  obtain ⟨b3, b4⟩ := smallI_ok k3
  exact ⟨i, j, rfl, ⟨b1, b2, b3, b4⟩, e2 P2 H2 (y1.trans y2) s2 _ rng0⟩
theorem rngN_ok {i j k : Int} {n : Nat} (b : (-(2 ^ 62) ≤ i ∧ i < 2 ^ 62) ∧ (-(2 ^ 62) ≤ j ∧ j < 2 ^ 62)) (e : rngN i j k = some n) : RgC i j k n := by
  obtain ⟨⟨b1, b2⟩, b3, b4⟩ := b
  unfold rngN at e
  split at e
  · cases e
    exact RgC.neg b1 b2 b3 b4
  · cases e
theorem pi_wrng3 {p : Pos} (hg : Gl X "range") (hm : X.mg "range" = none) (ha : PE X a (rdE G W (A' cl))) (hb : PE X b (rdE G W (B' cl))) (hc : PE X c (rdE G W (C' cl))) (hs : starEach [a, b, c] X.env = (false, eval a X.env) :: starEach [b, c] X.env)
    (hs2 : starEach [b, c] X.env = (false, eval b X.env) :: starEach [c] X.env) (hs3 : starEach [c] X.env = (false, eval c X.env) :: starEach [] X.env) :
    PI X tg (.Call (.Name "range" p) [a, b, c] [] pos) (rdI G W fun en h => (arCons 0 A' (arCons 0 B' (arCons 0 C' arNil)) cl en h).bind fun ds h => .opt (rngW ds) h) := by
  refine ⟨fun pins s σ H R I q => (pi_range3 hg hm (pa_cons ha (pa_cons hb (pa_cons hc pa_nil hs3) hs2) hs) hs (by rw [hs2, hs3]; rfl)).run pins s σ H R I ?_⟩
  obtain ⟨P, h, en, st, e⟩ := q
  dsimp only at e
  rw [ar3] at e
  refine ⟨P, h, en, st, e.bind.bind.imp fun x h1 P1 H1 y1 s1 e v r => ⟨P1, h1, en, st.on y1 s1, (ERes.re y1 e.bind).imp fun y h2 P2 H2 y2 s2 e u r2 => ⟨P2, h2, en, (st.on y1 s1).on y2 s2, (ERes.re (y1.trans y2) e.bind).imp fun z h3 P3 H3 y3 s3 e t r3 => ?_⟩⟩⟩
  obtain ⟨w, e1, e2⟩ := ERes.opt (e P3 H3 ((y1.trans y2).trans y3) s3)
  have hx : ∃ i j k, x = .int i ∧ y = .int j ∧ z = .int k := by
    cases x <;> cases y <;> cases z <;> first | exact ⟨_, _, _, rfl, rfl, rfl⟩ | cases e1
  obtain ⟨i, j, k, rfl, rfl, rfl⟩ := hx
  cases r
  cases r2
  cases r3
  have e1 : bif' (smallI i && smallI j) (opt' (rngN i j k) none fun n => frN n fun n => some (Wk.rng i k n)) none = some w := e1
  obtain ⟨k1, k2⟩ := bif_some e1
  obtain ⟨n, k5, k4⟩ := opt_some k2
  rw [frN_eq] at k4
  cases k4
  obtain ⟨k1, k3⟩ := and_t k1
  exact ⟨i, j, k, n, rfl, rngN_ok ⟨smallI_ok k1, smallI_ok k3⟩ k5, e2 P3 H3 ((y1.trans y2).trans y3) s3 _ rngC0⟩
end
end Pv
end
section
set_option Elab.async false
set_option linter.all false
set_option maxRecDepth 100000
set_option maxHeartbeats 4000000
set_option autoImplicit false
/-! for, while, comprehensions. -/
namespace Pv
open PySem L2 PySem.Spec PyProof.Rows PySem.W
section
variable {G : GC} {W : WX} {X : Cx} {tg a b : Expr} {pos : Pos} {P P1 P2 : Pl} {H H0 H1 H2 : Hp} {d : D} {v u : V} {vs : List V} {h : Sh} {σ : L2.St} {cl : Cl}
theorem forK_succ (g : GF) (b : SF) (c : Cl) (n : Nat) (w : Wk) (en : En) (h : Sh) : forK g b c (n + 1) w en h = Wr.rec (motive := fun _ => Rst)
    (fun x w => (g c x en h).thn en fun en h => Rst.rec (motive := fun _ => Rst) (fun en h => forK g b c n w en h) .rt .nx (fun en h => forK g b c n w en h) .exc .stuck (b c en h)) (.nx en h) .stuck (stepW h w) := rfl
/-- the state of a loop ahead of turn i, m turns at most -/
def ForW (G : GC) (W : WX) (E : Ends) (g : GF) (b : SF) (c : Cl) (J : It) : Nat → Nat → L2.St → Hp → Prop := fun i m σ H => ∃ P h en w, Std G P h en σ H ∧ WOk G P H w J i ∧ SRes G W E P H (forK g b c m w en h)
theorem for_turns {E : Ends} {g : GF} {b : SF} {c : Cl} {J : It} {is : List Nat} : ∀ i m σ H, ForW G W E g b c J i m σ H →
    (J.stop i H ∧ E.nx σ H) ∨ (J.go i H ∧ ∃ N : L2.St → Hp → Prop, (∀ σ' H', N σ' H' → ∃ m', m' < m ∧ ForW G W E g b c J (i + 1) m' σ' H') ∧ ∀ x H', J.yld i H x H' → rdG G W (g c) is x σ H' fun σ2 H2 => rdS G W (b c) { E with nx := N, ct := N, bk := E.nx } σ2 H2) := by
  intro i m σ H hw
  obtain ⟨P, h, en, w, st, wo, e⟩ := hw
  cases m with
  | zero => exact e.elim
  | succ m =>
    rw [forK_succ] at e
    have so := step_ok st.s wo
    cases k : stepW h w with
    | stuck => rw [k] at e; exact e.elim
    | stop =>
      rw [k] at e so
      exact .inl ⟨so, e P H σ Ext.refl st.s st.r⟩
    | item x w' =>
      rw [k] at e so
      obtain ⟨go, ys⟩ := so
      refine .inr ⟨go, ForW G W E g b c J (i + 1) m, fun σ' H' q => ⟨m, Nat.lt_succ_self _, q⟩, fun v H' yl => ?_⟩
      obtain ⟨x1, s1, rx, wo1⟩ := ys v H' yl
      have e : SRes G W E P H ((g c x en h).thn en fun en h => Rst.rec (motive := fun _ => Rst) (fun en h => forK g b c m w' en h) .rt .nx (fun en h => forK g b c m w' en h) .exc .stuck (b c en h)) := e
      have e2 := ERes.thn (σ := σ) e (fun P' H' x => st.r.ext x.toWExt)
      refine ⟨P, h, en, x, st.on x1 s1, rx, (ERes.re x1 e2).imp fun en' h2 P2 H2 y2 s2 e3 σ2 r2 _ _ => ⟨P2, h2, en', ⟨s2, r2⟩, ?_⟩⟩
      have next : ∀ en3 h3, SRes G W E P H (forK g b c m w' en3 h3) → ∀ P' H' σ', Ext P2 H2 P' H' → SR G P' H' h3 → RS G P' H' en3 σ' → ForW G W E g b c J (i + 1) m σ' H' := fun en3 h3 e4 P' H' σ' y3 s3 r3 =>
        ⟨P', h3, en3, w', ⟨s3, r3⟩, wo1.ext (y2.trans y3).toWExt, SRes.re ((x1.trans y2).trans y3) e4⟩
      cases q : b c en' h2 with
      | nx en3 h3 => rw [q] at e3; exact next en3 h3 e3
      | ct en3 h3 => rw [q] at e3; exact next en3 h3 e3
      | rt d h3 => rw [q] at e3; exact SRes.re (x1.trans y2) e3
      | bk en3 h3 =>
        rw [q] at e3
        exact fun P' H' σ' y s r => e3 P' H' σ' ((x1.trans y2).trans y) s r
      | exc cc en3 h3 => rw [q] at e3; exact SRes.re (E := E) (x1.trans y2) e3
      | stuck => rw [q] at e3; exact e3.elim
theorem ps_forV {it : Expr} {body : List Stmt} {wf : WF} {g : GF} {b : SF} {is : List Nat} (hp : PassesOwn (model X.prog X.w) X.A X.env X.xe) (hc : X.calm = true) (hi : PI X tg it (rdI G W (wf cl))) (hg : PG X tg (rdG G W (g cl) is)) (hb : PSs X body (rdS G W (b cl)))
    (hs : ∀ x, foldedSetIterable it X.env x = pure x) : PS X (.For tg it body [] pos) (rdS G W (suFor g wf b cl)) := by
  refine PS.imp (ps_for hp hc hi hg hb hs) fun E σ H q => ?_
  obtain ⟨P, h, en, st, e⟩ := q
  have e : SRes G W E P H ((wf cl en h).thn en fun w h => forK g b cl cl.n w en h) := e
  refine ⟨P, h, en, st, (ERes.thn (σ := σ) e fun P' H' x => st.r.ext x.toWExt).imp fun w h1 P1 H1 y s1 e J wo => ?_⟩
  exact ⟨ForW G W E g b cl J, ⟨cl.n, P1, h1, en, w, st.on y s1, wo, SRes.re y e⟩, for_turns⟩
theorem whileK_succ (t : TF) (b : SF) (c : Cl) (n : Nat) (en : En) (h : Sh) : whileK t b c (n + 1) en h = (t c en h).thn en fun x h => bif' x (Rst.rec (motive := fun _ => Rst) (fun en h => whileK t b c n en h) .rt .nx (fun en h => whileK t b c n en h) .exc .stuck (b c en h)) (.nx en h) := rfl
theorem ps_whileV {c : Expr} {body : List Stmt} {t : TF} {b : SF} (hp : PassesOwn (model X.prog X.w) X.A X.env X.xe) (hc : PT X c (rdT G W (t cl))) (hb : PSs X body (rdS G W (b cl))) : PS X (.While c body [] pos) (rdS G W (suWhile t b cl)) := by
  refine PS.imp (ps_while hp hc hb) fun E σ H q => ?_
  obtain ⟨P, h, en, st, e⟩ := q
  refine ⟨fun m σ H => ∃ P h en, Std G P h en σ H ∧ SRes G W E P H (whileK t b cl m en h), ⟨cl.n, P, h, en, st, e⟩, ?_⟩
  rintro m σ H ⟨P, h, en, st, e⟩
  cases m with
  | zero => exact e.elim
  | succ m =>
    rw [whileK_succ] at e
    refine ⟨P, h, en, st, (ERes.thn (σ := σ) e fun P' H' x => st.r.ext x.toWExt).imp fun x h1 P1 H1 y s1 e => ?_⟩
    cases x with
    | false =>
      rw [if_neg (by simp)]
      exact e P1 H1 σ y s1 (st.r.ext y.toWExt)
    | true =>
      rw [if_pos rfl]
      refine ⟨fun σ H => ∃ P h en, Std G P h en σ H ∧ SRes G W E P H (whileK t b cl m en h), fun σ' H' q => ⟨m, Nat.lt_succ_self _, q⟩, P1, h1, en, st.on y s1, ?_⟩
      have e : SRes G W E P H (Rst.rec (motive := fun _ => Rst) (fun en h => whileK t b cl m en h) .rt .nx (fun en h => whileK t b cl m en h) .exc .stuck (b cl en h1)) := e
      cases q : b cl en h1 with
      | nx en3 h3 => rw [q] at e; exact fun P' H' σ' y3 s3 r3 => ⟨P', h3, en3, ⟨s3, r3⟩, SRes.re (y.trans y3) e⟩
      | ct en3 h3 => rw [q] at e; exact fun P' H' σ' y3 s3 r3 => ⟨P', h3, en3, ⟨s3, r3⟩, SRes.re (y.trans y3) e⟩
      | rt d h3 => rw [q] at e; exact SRes.re (E := E) y e
      | bk en3 h3 => rw [q] at e; exact fun P' H' σ' y3 s r => e P' H' σ' (y.trans y3) s r
      | exc cc en3 h3 => rw [q] at e; exact SRes.re (E := E) y e
      | stuck => rw [q] at e; exact e.elim
/-! ### comprehensions -/
/-- no exception within a block -/
def W0 : WX := fun _ _ _ _ => False
theorem ERes.only {α β : Type} {r : Rs α} {f : α → Sh → Rs β} {K : β → Sh → Pl → Hp → Prop} (e : ERes G W σ P H (Rs.rec (motive := fun _ => Rs β) f (fun _ _ => .stuck) .stuck r) K) {σ' : L2.St} : ERes G W0 σ' P H r (fun x h' _ _ => ERes G W σ P H (f x h') K) := by
  cases r with
  | ok x h => exact fun _ _ _ _ => e
  | exc c h => exact e.elim
  | stuck => exact e.elim
/-- the block's own list -/
theorem scr (s : SR G P H h) {p : Addr} {ys zs : List V} (hD : H p = some (.lst ys)) (nA : p ∉ P.A) (nZ : ¬ P.Z p) : WExt P H P (upd H p (.lst zs)) ∧ SR G P (upd H p (.lst zs)) h := by
  have we : WExt P H P (upd H p (.lst zs)) := ⟨⟨[], by simp⟩, fun _ z => z, fun b o z e _ => by rw [upd_ne (fun q => nZ (by rw [← q]; exact z))]; exact e, fun b φ e => by rw [upd_ne (fun q => by rw [q, hD] at e; cases e)]; exact e, fun b xs e => by
    rw [upd_ne (fun q => by rw [q, hD] at e; cases e)]; exact e, fun b o w e => by rw [upd_ne (fun q => by rw [q, hD] at e; cases e)]; exact e⟩
  refine ⟨we, s.nd, s.wf, s.len, fun n o e => ?_, fun b z => ?_, fun q hq => ?_, s.cloExt we⟩
  · obtain ⟨a, h1, h2⟩ := s.obj n o e
    exact ⟨a, h1, h2.ext we (upd_ne fun z => nA (by rw [← z]; exact List.mem_of_getElem? h1))⟩
  · obtain ⟨n, o, e, t⟩ := s.zed b z
    exact ⟨n, o, by rw [upd_ne (fun q => nZ (by rw [← q]; exact z))]; exact e, t⟩
  · obtain ⟨ps, h1, h2, h3⟩ := s.tab q hq
    refine ⟨ps, by rw [upd_ne (fun z => by rw [z, hD] at h1; cases h1)]; exact h1, h2, fun pos cv hc => ?_⟩
    obtain ⟨c, e1, e2⟩ := h3 pos cv hc
    exact ⟨c, e1, by rw [upd_ne (fun z => by rw [z, hD] at e2; cases e2)]; exact e2⟩
theorem scrE (x : Ext P1 H1 P H) {p : Addr} {zs : List V} (hp : H1 p = none) (we : WExt P H P (upd H p (.lst zs))) : Ext P1 H1 P (upd H p (.lst zs)) := by
  refine ⟨⟨x.pre, x.zz, fun b o z e t => ?_, fun b φ e => ?_, fun b xs e => ?_, fun b o w e => ?_⟩, x.fa, x.fz, fun b o e => ?_, fun b o e n t => ?_⟩
  · rw [upd_ne (ne_of_none e hp)]; exact x.kz b o z e t
  · rw [upd_ne (ne_of_none e hp)]; exact x.xx b φ e
  · rw [upd_ne (ne_of_none e hp)]; exact x.tup b xs e
  · rw [upd_ne (ne_of_none e hp)]; exact x.frz b o w e
  · rw [upd_ne (ne_of_none e hp)]; exact x.dom b o e
  · rw [upd_ne (ne_of_none e hp)]; exact x.keep b o e n t
theorem wipe_at {τ : L2.St} {i : Nat} : ∀ {vs : List Nat}, (wipe τ vs)[i]? = if i ∈ vs ∧ i < τ.length then some none else τ[i]?
  | [] => by simp [wipe]
  | v :: vs => by
    show ((wipe τ vs).set v none)[i]? = _
    by_cases c : v = i
    · subst c
      by_cases l : v < τ.length
      · rw [List.getElem?_set_self (by rw [wipe_length]; exact l), if_pos ⟨by simp, l⟩]
      · rw [if_neg (fun z => l z.2), List.getElem?_eq_none (by rw [List.length_set, wipe_length]; omega), List.getElem?_eq_none (by omega)]
    · rw [List.getElem?_set_ne c, wipe_at]
      by_cases m : i ∈ vs
      · simp [m]
      · simp [m, Ne.symm c]
theorem wipe_eq {τ σ : L2.St} {vs is : List Nat} (hl : τ.length = σ.length) (sub : ∀ i ∈ is, i ∈ vs) (h : ∀ i, i ∉ is → τ[i]? = (wipe σ vs)[i]?) : wipe τ vs = wipe σ vs := by
  apply List.ext_getElem?
  intro i
  rw [wipe_at, wipe_at]
  by_cases m : i ∈ vs
  · by_cases l : i < τ.length
    · rw [if_pos ⟨m, l⟩, if_pos ⟨m, by omega⟩]
    · rw [if_neg (fun z => l z.2), if_neg (fun z => l (by omega)), List.getElem?_eq_none (by omega), List.getElem?_eq_none (by omega)]
  · rw [if_neg (fun z => m z.1), if_neg (fun z => m z.1)]
    have := h i fun z => m (sub i z)
    rw [wipe_at, if_neg (fun z => m z.1)] at this
    exact this
theorem RS.wipe {en : En} (r : RS G P H en σ) : ∀ vs : List Nat, RS G P H (wipeE en vs) (L2.wipe σ vs)
  | [] => r
  | v :: vs => (RS.wipe r vs).forget v
theorem lcK_succ (g : GF) (t : TF) (e : EF) (c : Cl) (en : En) (n : Nat) (w : Wk) (acc : List D) (h : Sh) : lcK g t e c en (n + 1) w acc h = Wr.rec (motive := fun _ => Rs D)
    (fun x w => Rs.rec (motive := fun _ => Rs D)
      (fun en' h => Rs.rec (motive := fun _ => Rs D)
        (fun q h => bif' q (Rs.rec (motive := fun _ => Rs D) (fun d h => lcK g t e c en n w (fz d :: acc) h) (fun _ _ => .stuck) .stuck (e c en' h)) (lcK g t e c en n w acc h))
        (fun _ _ => .stuck) .stuck (t c en' h))
      (fun _ _ => .stuck) .stuck (g c x en h))
    (frL acc.reverse fun ds => bif' (smallL (lenK ds)) (.ok (.tmp ds) h) .stuck) .stuck (stepW h w) := rfl
/-- the block's reading -/
theorem lc_rd {wf : WF} {g : GF} {t : TF} {e : EF} {is ow : List Nat} (sub : ∀ i ∈ is, i ∈ ow) (hn : cl.n ≤ sizeLine) {Q : VK} (q : rdE G W (exLc ow g wf t e cl) σ H Q) : tLc (rdI G W (wf cl)) (rdG G W0 (g cl) is) (rdT G W0 (t cl)) (rdE G W0 (e cl)) ow σ H Q := by
  obtain ⟨P, h, en, st, e0⟩ := q
  have e0 : ERes G W σ P H ((wf cl en h).bind fun w h => frL (wipeE en ow) fun en => lcK g t e cl en cl.n w [] h) (fun d _ P'' H'' => ∀ v, RT G P'' H'' H d v → Q v H'') := e0
  refine ⟨P, h, en, st, e0.bind.imp fun w h1 P1 H1 y1 s1 e1 J wo p0 hD => ?_⟩
  rw [frL_eq] at e1
  have e1 := ERes.re y1 e1
  have dn : H p0 = none := y1.back hD
  refine ⟨fun i m H' => ∃ P' h' w acc ys, Ext P1 H1 P' H' ∧ SR G P' H' h' ∧ p0 ∉ P'.A ∧ ¬ P'.Z p0 ∧ H' p0 = some (.lst ys) ∧ RL G P' H' acc.reverse ys ∧ WOk G P' H' w J i ∧ acc.length + m ≤ sizeLine ∧
    ERes G W σ P1 H1 (lcK g t e cl (wipeE en ow) m w acc h') (fun d _ P'' H'' => ∀ v, RT G P'' H'' H d v → Q v H''), ⟨cl.n, P1, h1, w, [], [], Ext.new hD, s1.new hD, s1.free hD, s1.freeZ hD, upd_same, RL.nil, wo.ext (Ext.new hD).toWExt, by simpa using hn, e1⟩, ?_⟩
  rintro i m H2 ⟨P2, h2, w2, acc, ys, x2, s2, nA, nZ, hy, ra, wo2, hm, e2⟩
  cases m with
  | zero => exact e2.elim
  | succ m =>
    rw [lcK_succ] at e2
    have so := step_ok s2 wo2
    cases k : stepW h2 w2 with
    | stuck => rw [k] at e2; exact e2.elim
    | stop =>
      rw [k] at e2 so
      have e2 : ERes G W σ P1 H1 (frL acc.reverse fun ds => bif' (smallL (lenK ds)) (.ok (.tmp ds) h2) .stuck) (fun d _ P'' H'' => ∀ v, RT G P'' H'' H d v → Q v H'') := e2
      rw [frL_eq] at e2
      cases c : smallL (lenK acc.reverse) with
      | false => rw [c] at e2; exact e2.elim
      | true =>
        rw [c] at e2
        exact .inl ⟨so, e2 P2 H2 x2 s2 (.ref p0) ⟨p0, rfl, dn, nA, nZ, ys, hy, ra⟩⟩
    | item x w' =>
      rw [k] at e2 so
      obtain ⟨go, yl⟩ := so
      refine .inr ⟨go, _, fun H' q => ⟨m, Nat.lt_succ_self _, q⟩, fun v H3 y3 => ?_⟩
      obtain ⟨x3, s3, rx, wo3⟩ := yl v H3 y3
      have st3 : Std G P2 h2 (wipeE en ow) (L2.wipe σ ow) H3 := ⟨s3, (st.r.ext ((y1.trans x2).trans x3).toWExt).wipe ow⟩
      obtain ⟨k1, k2, k3⟩ := x3.stay hy nA nZ (fun _ z => by cases z)
      refine ⟨P2, h2, wipeE en ow, x, st3, rx, (ERes.re (x2.trans x3) (ERes.only e2)).imp fun en4 h4 P4 H4 x4 s4 e4 σ4 r4 f4 l4 => ⟨wipe_eq (by rw [l4, wipe_length]) sub f4, ?_⟩⟩
      refine ⟨P4, h4, en4, ⟨s4, r4⟩, (ERes.re ((x2.trans x3).trans x4) (ERes.only e4)).imp fun q h5 P5 H5 x5 s5 e5 => ?_⟩
      have nA3 : p0 ∉ P2.A := nA
      have l3 : H3 p0 = some (.lst ys) := k1.trans hy
      obtain ⟨j1, j2, j3⟩ := (x4.trans x5).stay l3 nA nZ (fun _ z => by cases z)
      have x15 := ((x2.trans x3).trans x4).trans x5
      cases q with
      | false =>
        show ∃ P' h' w acc ys, _
        exact ⟨P5, h5, w', acc, ys, x15, s5, j2, j3, j1.trans l3, RL.ext ((x3.trans x4).trans x5).toWExt _ _ ra, wo3.ext (x4.trans x5).toWExt, by omega, e5⟩
      | true =>
        have e5 : ERes G W σ P1 H1 (Rs.rec (motive := fun _ => Rs D) (fun d h => lcK g t e cl (wipeE en ow) m w' (fz d :: acc) h) (fun _ _ => .stuck) .stuck (e cl en4 h5)) (fun d _ P'' H'' => ∀ v, RT G P'' H'' H d v → Q v H'') := e5
        show rdE G W0 (e cl) _ _ _
        refine ⟨P5, h5, en4, ⟨s5, r4.ext x5.toWExt⟩, (ERes.re x15 (ERes.only e5)).imp fun d h6 P6 H6 x6 s6 e6 y r6 => ?_⟩
        obtain ⟨i1, i2, i3⟩ := x6.stay (j1.trans l3) j2 j3 (fun _ z => by cases z)
        have l6 : H6 p0 = some (.lst ys) := i1.trans (j1.trans l3)
        have hl : ys.length = acc.length := by have := ra.length; simpa using this
        refine ⟨ys, l6, by omega, ?_⟩
        obtain ⟨P7, x7, we7, s7, r7⟩ := fz_ok s6 x6 r6
        obtain ⟨i1, i2, i3⟩ := x7.stay (j1.trans l3) j2 j3 (fun _ z => by cases z)
        obtain ⟨we8, s8⟩ := scr (zs := ys ++ [y]) s7 l6 i2 i3
        have ra7 : RL G P7 (upd H6 p0 (.lst (ys ++ [y]))) acc.reverse ys := RL.ext ((((x3.trans x4).trans x5).trans x7).toWExt.trans we8) _ _ ra
        refine ⟨P7, h6, w', fz d :: acc, ys ++ [y], scrE (x15.trans x7) hD we8, s8, i2, i3, upd_same, ?_, wo3.ext (((x4.trans x5).trans x7).toWExt.trans we8), by rw [List.length_cons]; omega, e6⟩
        rw [List.reverse_cons]
        exact ra7.append (.cons (r7.ext we8) .nil)
/-- [e for t in it if ..] -/
theorem pe_lcV {elt it : Expr} {ifs : List Expr} {scope : Scope} {ow : List (Str × Nat)} {wf : WF} {g : GF} {t : TF} {e : EF} {is : List Nat} (hc : X.calm = true) (hN : X.N.Nodup) (hi : PI X tg it (rdI G W (wf cl))) (ok : BlkOk X.N X.env.scope scope ow)
    (hg : ∀ (s : Shared) (H : Hp) (C : Addr) (cls : List (Str × Addr)) (fp : List Addr), PG (X.blk s H scope (compEnvC scope cls C X.env) fp) tg (rdG G W0 (g cl) is))
    (ht : ∀ (s : Shared) (H : Hp) (C : Addr) (cls : List (Str × Addr)) (fp : List Addr), PTs (X.blk s H scope (compEnvC scope cls C X.env) fp) ifs (rdT G W0 (t cl)))
    (he : ∀ (s : Shared) (H : Hp) (C : Addr) (cls : List (Str × Addr)) (fp : List Addr), PE (X.blk s H scope (compEnvC scope cls C X.env) fp) elt (rdE G W0 (e cl)))
    (hs : ∀ x, foldedSetIterable it X.env x = pure x) (sub : ∀ i ∈ is, i ∈ ow.map (·.2)) (hn : cl.n ≤ sizeLine) : PE X (.ListComp elt [⟨tg, it, ifs, 0⟩] scope pos) (rdE G W (exLc (ow.map (·.2)) g wf t e cl)) :=
  PE.imp (pe_lc hc hN hi ok hg ht he hs) fun _ _ _ q => lc_rd sub hn q
/-- name = [e for ..] on one line -/
theorem ps_setLcV {i : Nat} {y : Str} {py spos : Pos} {elt it : Expr} {ifs : List Expr} {scope : Scope} {ow : List (Str × Nat)} {wf : WF} {g : GF} {t : TF} {e : EF} {is : List Nat} (hc : X.calm = true) (hN : X.N.Nodup) (hy : X.N[i]? = some y) (hyl : X.env.scope.names.lookup y = some .local)
    (hsw : swapsWith (.ListComp elt [⟨tg, it, ifs, 0⟩] scope pos) (some (.Name y py)) spos.line X.env = pure true) (hi : PI X tg it (rdI G W (wf cl))) (ok : BlkOk X.N X.env.scope scope ow)
    (hg : ∀ (s : Shared) (H : Hp) (C : Addr) (cls : List (Str × Addr)) (fp : List Addr), PG (X.blk s H scope (compEnvC scope cls C X.env) fp) tg (rdG G W0 (g cl) is))
    (ht : ∀ (s : Shared) (H : Hp) (C : Addr) (cls : List (Str × Addr)) (fp : List Addr), PTs (X.blk s H scope (compEnvC scope cls C X.env) fp) ifs (rdT G W0 (t cl)))
    (he : ∀ (s : Shared) (H : Hp) (C : Addr) (cls : List (Str × Addr)) (fp : List Addr), PE (X.blk s H scope (compEnvC scope cls C X.env) fp) elt (rdE G W0 (e cl)))
    (hs : ∀ x, foldedSetIterable it X.env x = pure x) (sub : ∀ i ∈ is, i ∈ ow.map (·.2)) (hn : cl.n ≤ sizeLine) : PS X (.Assign [.Name y py] (.ListComp elt [⟨tg, it, ifs, 0⟩] scope pos) spos) (tAsg (rdE G W (exLc (ow.map (·.2)) g wf t e cl)) (gName i)) :=
  PS.imp (ps_setLc hc hN hy hyl hsw hi ok hg ht he hs) fun _ _ _ q => lc_rd sub hn q
end
end Pv
end
section
set_option Elab.async false
set_option linter.all false
set_option maxRecDepth 100000
set_option maxHeartbeats 4000000
set_option autoImplicit false
/-! dict comprehensions, whatever the keys. -/
namespace Pv
open PySem L2 PySem.Spec PyProof.Rows PySem.W
section
variable {X : Cx}
/-- what one turn puts: an empty dict may turn to tuple keys ahead of it -/
def Puts (H : Hp) (p : Addr) (y z : V) (Nx : Hp → Prop) : Prop := ∃ Hm H', (Hm = H ∨ (H p = some (.dK []) ∧ Hm = upd H p (.dT []))) ∧ DPut Hm p y z H' ∧ Nx H'
theorem puts_ok {pins : List (Addr × Obj)} {σ : L2.St} {H : Hp} {s : Shared} {E : Value → Shared → Prop} {p : Addr} {y z : V} {kv zv : Value} {Nx : Hp → Prop} {Q : Unit → Shared → Prop} (hu : X.A.units < cLine) (I : Inv X pins σ H s) (g : Puts H p y z Nx) (ry : RelV y kv) (rz : RelV z zv)
    (fin : ∀ s' H', Inv X pins σ H' s' → Nx H' → Q () s') : wpAny (model X.prog X.w) X.A (dictSet p kv zv) Q E s := by
  obtain ⟨Hm, H', g0, g1, nx⟩ := g
  have Im : Inv X pins σ Hm s := by
    rcases g0 with rfl | ⟨e, rfl⟩
    · exact I
    · exact retype I e
  clear g0 I
  have close : ∀ s', Inv X pins σ H' s' → Q () s' := fun s' I' => fin s' H' I' nx
  rcases g1 with ⟨ps, k, hp, rfl, small, rfl⟩ | ⟨ps, k, b, hp, rfl, hb, small, rfl⟩
  · exact d_dictSet Im hp small ry rz close
  · cases (show kv = Value.ref b from ry)
    obtain ⟨le, nm, rows, rel, tab⟩ := dt_of Im.hok hp
    have fit : rows.length ≤ sizeLine := Paired.length rel ▸ le
    have more := length_putK ps k z
    refine wpAny_dictSet_heap (hsz := fit) (show (tupleKind _).room X.A from hu) (key_of Im.hok hb) tab fun hh tab' same => close _ ?_
    obtain ⟨q, es, ep, t1, t2, t3, t4, _, t5⟩ := tab'
    refine d_write Im (by rw [hp]; exact True.intro) same ⟨q, t1⟩ ⟨by omega, nm, _, (rel.put k hb rz).keeps fun c ys ec => ?_, q, es, ep, t1, t2, t3, t4, t5⟩
    rw [upd_ne (ne_of ec hp fun z => nomatch z)]
    exact ec
/-- {k: v for t in it if ..}, p the new dict -/
def tDcV (wi : TI) (g : TG) (tt : TT) (tk tv : TE) (own : List Nat) : TE := fun σ H Q => wi σ H fun J H1 => ∀ p, H1 p = none → ∃ Lp : Nat → Nat → Hp → Prop, (∃ m, Lp 0 m (upd H1 p (.dK []))) ∧ ∀ i m H, Lp i m H →
  (J.stop i H ∧ Q (.ref p) H) ∨ (J.go i H ∧ ∃ Nx : Hp → Prop, (∀ H', Nx H' → ∃ m', m' < m ∧ Lp (i + 1) m' H') ∧ ∀ x H', J.yld i H x H' → g x (L2.wipe σ own) H' fun τ H2 => L2.wipe τ own = L2.wipe σ own ∧ tt τ H2 fun b H3 =>
    bif' b (tk τ H3 fun y H4 => tv τ H4 fun z H5 => Puts H5 p y z Nx) (Nx H3))
theorem pe_dcG {kx vx tg it : Expr} {ifs : List Expr} {scope : Scope} {ow : List (Str × Nat)} {pos : Pos} {wi : TI} {g : TG} {tt : TT} {tk tv : TE} (calm : X.calm = true) (nd : X.N.Nodup) (room : X.A.units < cLine) (pit : PI X tg it wi) (bo : BlkOk X.N X.env.scope scope ow)
    (bg : ∀ (s : Shared) (H : Hp) (C : Addr) (cls : List (Str × Addr)) (fp : List Addr), PG (X.blk s H scope (compEnvC scope cls C X.env) fp) tg g) (bt : ∀ (s : Shared) (H : Hp) (C : Addr) (cls : List (Str × Addr)) (fp : List Addr), PTs (X.blk s H scope (compEnvC scope cls C X.env) fp) ifs tt)
    (bk : ∀ (s : Shared) (H : Hp) (C : Addr) (cls : List (Str × Addr)) (fp : List Addr), PE (X.blk s H scope (compEnvC scope cls C X.env) fp) kx tk)
    (bv : ∀ (s : Shared) (H : Hp) (C : Addr) (cls : List (Str × Addr)) (fp : List Addr), PE (X.blk s H scope (compEnvC scope cls C X.env) fp) vx tv) (fold : ∀ x, foldedSetIterable it X.env x = pure x) :
    PE X (.DictComp kx vx [⟨tg, it, ifs, 0⟩] scope pos) (tDcV wi g tt tk tv (ow.map (·.2))) := by
  refine ⟨fun pins s0 σ H0 Q I0 hyp => ?_⟩
  rw [arm_eval_DictComp]
  refine wpAny_comprehension_free (use := none) rfl fold (closure_ok fun y m e => I0.ok.has _ (bo.free y m e)) bo.kind (fun y m e => (bo.uniq y m).trans (congrArg some e)) (thn (pit.run pins s0 σ H0 _ I0 hyp) fun v0 s1 q0 => thn q0 fun itv s2 q1 => ?_)
  obtain ⟨it0, fp, on, J, H2, rfl, I2, T, on2, fp2, rest⟩ := q1
  refine wpAny_newObj_type (newEnv_comp ?_)
  have sz2 : ∀ b, b ∈ fp → b < s2.heap.objs.size := fun b mb => Heap.lt_size (T.obj _ _ on2 b mb).choose_spec.1
  obtain ⟨p, hp⟩ : ∃ p, s2.heap.objs.size = p := ⟨_, rfl⟩
  rw [hp]
  have np : H2 p = none := I2.hok.fresh (Nat.le_of_eq hp)
  obtain ⟨Lp, ⟨m0, l0⟩, turn⟩ := rest p np
  obtain ⟨s3, e3⟩ : ∃ s3 : Shared, { s2 with heap := s2.heap.push { cls := .type "dict", data := .dict #[] } } = s3 := ⟨_, rfl⟩
  obtain ⟨H3, eH⟩ : ∃ H3 : Hp, upd H2 p (.dK []) = H3 := ⟨_, rfl⟩
  rw [eH] at l0
  have h3 : s3.heap = s2.heap.push { cls := .type "dict", data := .dict #[] } := by rw [← e3]
  have I3 : Inv X pins σ H3 s3 := by
    rw [← e3, ← eH]
    exact I2.laid (t' := s2.toks) (fun b o => Heap.get?_push_of_some _) (Nat.le_of_eq hp) (hp ▸ dk_empty s2.heap I2.big)
  have fp3 : ∀ b, b ∈ fp → FpOk X pins H3 b ∧ b < s3.heap.objs.size := fun b mb =>
    ⟨⟨by rw [← eH, upd_ne (hp ▸ Nat.ne_of_lt (sz2 b mb))]; exact (fp2 b mb).1, (fp2 b mb).2⟩, by rw [h3, Heap.size_push]; exact Nat.lt_succ_of_lt (sz2 b mb)⟩
  have on3 : on 0 s3.heap := T.keep _ _ _ on2 fun b _ o e => h3 ▸ Heap.get?_push_of_some _ e
  have I4 := block_start I3 bo nd fp3
  rw [e3]
  have g4 := bg s3 H3 s3.heap.objs.size (cellsFrom (s3.heap.objs.size + 1) scope.names (cloFrom X.env.cells scope.names [])) fp
  have t4 := bt s3 H3 s3.heap.objs.size (cellsFrom (s3.heap.objs.size + 1) scope.names (cloFrom X.env.cells scope.names [])) fp
  have k4 := bk s3 H3 s3.heap.objs.size (cellsFrom (s3.heap.objs.size + 1) scope.names (cloFrom X.env.cells scope.names [])) fp
  have v4 := bv s3 H3 s3.heap.objs.size (cellsFrom (s3.heap.objs.size + 1) scope.names (cloFrom X.env.cells scope.names [])) fp
  obtain ⟨C, eC⟩ : ∃ C, s3.heap.objs.size = C := ⟨_, rfl⟩
  obtain ⟨ce, ee⟩ : ∃ ce, compEnvC scope (cellsFrom (s3.heap.objs.size + 1) scope.names (cloFrom X.env.cells scope.names [])) s3.heap.objs.size X.env = ce := ⟨_, rfl⟩
  have loc : ce.locals = C := by rw [← ee, ← eC]; rfl
  obtain ⟨s4, e4⟩ : ∃ s4 : Shared, { s3 with heap := pushCells (s3.heap.push { cls := .type "dict", data := .dict #[] }) scope.names } = s4 := ⟨_, rfl⟩
  have goal4 : ∀ R, codeAny (model X.prog X.w) X.A (.compStart (.DictComp kx vx [⟨tg, it, ifs, 0⟩] scope pos) 0 (.ref it0) (.ref p) (compEnvC scope (cellsFrom (s3.heap.objs.size + 1) scope.names (cloFrom X.env.cells scope.names [])) s3.heap.objs.size X.env)) R { s3 with heap := pushCells (s3.heap.push { cls := .type "dict", data := .dict #[] }) scope.names } =
    codeAny (model X.prog X.w) X.A (.compStart (.DictComp kx vx [⟨tg, it, ifs, 0⟩] scope pos) 0 (.ref it0) (.ref p) ce) R s4 := fun R => by rw [ee, e4]
  refine cast (goal4 _).symm ?_
  rw [ee] at I4 g4 t4 k4 v4
  rw [e4] at I4
  have on4 : on 0 s4.heap := T.keep _ _ _ on3 fun b _ o e => by rw [← e4]; exact pushCells_keeps _ _ _ _ (Heap.get?_push_of_some _ e)
  have still : ∀ {τ : L2.St} {H' : Hp} {s' : Shared}, Inv (X.blk s3 H3 scope ce fp) [] τ H' s' → (∀ b, b ∈ fp → H' b = none) → ∀ b, b ∈ fp → FpOk (X.blk s3 H3 scope ce fp) [] H' b := fun I' off b mb =>
    ⟨off b mb, (I'.ok.exf b mb).1, I'.ok.exfs b mb, .inl mb, fun x c => (I'.ok.exf b mb).2 x c, fun q mq => nomatch (mq : q ∈ ([] : List (Addr × Obj)) ++ [])⟩
  refine (fun loop => codeAny_compStart_dict loop (T.self X.A 0 _ _ _ on4 loop)) ?_
  refine compLoop_anyD (fun n s' => ∃ i H', Inv (X.blk s3 H3 scope ce fp) [] (L2.wipe σ (ow.map (·.2))) H' s' ∧ on i s'.heap ∧ (∀ b, b ∈ fp → H' b = none) ∧ Lp i n H') ?_ m0 ⟨0, H3, I4, on4, fun b mb => (fp3 b mb).1.1, l0⟩
  rintro n s5 ⟨i, H5, I5, on5, off5, l5⟩
  rcases turn i n H5 l5 with ⟨stop, q⟩ | ⟨go, Nx, dec, step⟩
  · refine thnF (T.done (X.blk s3 H3 scope ce fp) rfl rfl rfl calm i [] s5 _ H5 (fun _ _ => False) I5 (still I5 off5) on5 stop) fun r s6 ⟨er, I6⟩ => ?_
    subst er
    obtain ⟨m, num, _⟩ := I6.loc
    have I7 : Inv X pins σ H5 s6 := I3.call' (ch := fp) I6.os I6.base I6.hok I6.bare fun b mb =>
      have ⟨f1, f2, f3, f4, f5⟩ := (fp3 b mb).1.2
      ⟨f3, f1, f4, f5⟩
    have num : s6.heap.Ns C m := loc ▸ num
    have off : H5 C = none := loc ▸ I6.free
    have ⟨f0, f1, f2, f3, f4, f5⟩ := I3.fpOk (Nat.le_of_eq eC) off
    exact eC ▸ ⟨m, num, fun h'' same => ⟨.ref p, H5, I7.turned (t' := s6.toks) (fun b o hb e => (same.2 b hb).trans e) f0 f1 f3 f4 f5, rfl, q⟩⟩
  · refine thnF (T.item (X.blk s3 H3 scope ce fp) rfl rfl rfl calm i [] s5 _ H5 (fun _ _ => False) I5 (still I5 off5) on5 go) fun r s6 ⟨u, er, h6⟩ => ?_
    subst er
    refine thnF h6 fun _ s7 ⟨x, H7, I7, r7, y7, on7, off7⟩ => thnF (g4.run _ s7 _ H7 x u _ (I7.pinned (still I7 off7) (T.obj _ _ on7)) r7 (step x H7 y7)) fun _ s8 ⟨τ, H8, I8, same8, q8⟩ => thnF (t4.run _ s8 τ H8 _ I8 q8) fun b s9 ⟨H9, I9, q9⟩ => ?_
    have back : ∀ s' H', Inv (X.blk s3 H3 scope ce fp) ([] ++ pinsAt fp s7.heap) τ H' s' → Nx H' → ∃ m, m < n ∧ ∃ i H', Inv (X.blk s3 H3 scope ce fp) [] (L2.wipe σ (ow.map (·.2))) H' s' ∧ on i s'.heap ∧ (∀ b, b ∈ fp → H' b = none) ∧ Lp i m H' := fun s' H' I' nx => by
      obtain ⟨m', lt, l'⟩ := dec H' nx
      have kept : ∀ b, b ∈ fp → ∀ o, s7.heap.get? b = some o → s'.heap.get? b = some o ∧ H' b = none := fun b mb o e =>
        have z := I'.pin (b, o) (List.mem_append_right _ (List.mem_append_right _ (mem_pinsAt mb e)))
        ⟨z.1, z.2.1⟩
      refine ⟨m', lt, i + 1, H', (I'.unpinned (pins := [])).weak (by rw [← same8, wipe_length]) (fun j v e => (wipe_some (same8.symm ▸ e)).1), T.keep _ _ _ on7 fun b mb o e => (kept b mb o e).1, fun b mb => ?_, l'⟩
      have ⟨o, e, _⟩ := T.obj _ _ on7 b mb
      exact (kept b mb o e).2
    cases b with
    | false => exact back s9 H9 I9 q9
    | true => exact thnF (k4.run _ s9 τ H9 _ I9 q9) fun kv s10 ⟨y, H10, I10, r10, q10⟩ => thnF (v4.run _ s10 τ H10 _ I10 q10) fun zv s11 ⟨z, H11, I11, r11, put⟩ => puts_ok (X := X.blk s3 H3 scope ce fp) room I11 put r10 r11 back
end
section
variable {G : GC} {W : WX} {X : Cx} {tg a b : Expr} {pos : Pos} {P P1 P2 : Pl} {H H0 H1 H2 : Hp} {d : D} {v u : V} {vs : List V} {h : Sh} {σ : L2.St} {cl : Cl}
theorem scrG (s : SR G P H h) {p : Addr} {o w : HO} (hp : H p = some o) (so : Soft o) (nf : ∀ o' v, o ≠ .frz o' v) (nA : p ∉ P.A) (nZ : ¬ P.Z p) : WExt P H P (upd H p w) ∧ SR G P (upd H p w) h := by
  obtain ⟨nt, nb, nc⟩ := so
  have ne : ∀ b, b ∈ P.A → b ≠ p := fun b m z => nA (z ▸ m)
  have nz : ∀ b, P.Z b → b ≠ p := fun b m z => nZ (z ▸ m)
  have we : WExt P H P (upd H p w) := ⟨⟨[], by simp⟩, fun _ z => z, fun b o' z e _ => (upd_ne (nz b z)).trans e, fun b φ e => (upd_ne fun z => by subst z; rw [hp] at e; cases e; exact nc _ rfl).trans e, fun b xs e => (upd_ne fun z => by
    subst z; rw [hp] at e; cases e; exact nt _ rfl).trans e, fun b o' v e => (upd_ne fun z => by subst z; rw [hp] at e; cases e; exact nf _ _ rfl).trans e⟩
  refine ⟨we, s.nd, s.wf, s.len, fun n o' e => ?_, fun b z => ?_, fun q hq => ?_, s.cloExt we⟩
  · obtain ⟨a, h1, h2⟩ := s.obj n o' e
    exact ⟨a, h1, h2.ext we (upd_ne (ne a (List.mem_of_getElem? h1)))⟩
  · obtain ⟨n, o', e, t⟩ := s.zed b z
    exact ⟨n, o', (upd_ne (nz b z)).trans e, t⟩
  · obtain ⟨ps, h1, h2, h3⟩ := s.tab q hq
    refine ⟨ps, (upd_ne fun z => by rw [z, hp] at h1; exact nb ps (Option.some.inj h1)).trans h1, h2, fun pos cv hc => ?_⟩
    obtain ⟨c, e1, e2⟩ := h3 pos cv hc
    exact ⟨c, e1, (upd_ne fun z => by rw [z, hp] at e2; exact nc _ (z ▸ Option.some.inj e2)).trans e2⟩
theorem scrEG (x : Ext P1 H1 P H) {p : Addr} {w : HO} (hp : H1 p = none) (we : WExt P H P (upd H p w)) : Ext P1 H1 P (upd H p w) := by
  have ne : ∀ b o, H1 b = some o → b ≠ p := fun b o e => ne_of_none e hp
  exact ⟨⟨x.pre, x.zz, fun b o z e t => (upd_ne (ne b o e)).trans (x.kz b o z e t), fun b φ e => (upd_ne (ne b _ e)).trans (x.xx b φ e), fun b xs e => (upd_ne (ne b _ e)).trans (x.tup b xs e), fun b o w e => (upd_ne (ne b _ e)).trans (x.frz b o w e)⟩,
    x.fa, x.fz, fun b o e => (x.dom b o e).imp fun o' e' => (upd_ne (ne b o e)).trans e', fun b o e n t => (upd_ne (ne b o e)).trans (x.keep b o e n t)⟩
theorem put_rd (s : SR G P H h) {p : Addr} {ks ds : List D} {y : D} {yv : V} (dc : DctAt G P H p ks ds) (ck : keysOkP y ks = true) (lt : lenK ks < 16777216) (nA : p ∉ P.A) (nZ : ¬ P.Z p) (ry : R G P H y yv) (rd : R G P H d v) :
    ∃ w, (∀ Nx, Nx (upd H p w) → Puts H p yv v Nx) ∧ WExt P H P (upd H p w) ∧ SR G P (upd H p w) h ∧ DctAt G P (upd H p w) p (putD y d ks ds).1 (putD y d ks ds).2 := by
  rw [lenK_eq] at lt
  by_cases c : ∃ ts, y = .tup ts
  · obtain ⟨ts, rfl⟩ := c
    have ck : (allB keyOk ts && allB keyTOk ks) = true := ck
    obtain ⟨e4, e5⟩ := and_t ck
    obtain ⟨b, ws, rfl, hb, rb⟩ := ry
    obtain ⟨kk, rfl, rfl⟩ := keyOk_keys e4 rb
    rcases dc with ⟨kvs, q1, q2, q3⟩ | ⟨kvs, ne, q1, q2, q3⟩
    · subst q2
      have n0 : kvs = [] := by
        by_cases z : kvs = []
        · exact z
        · obtain ⟨p, _, z⟩ := allB_first z e5
          rw [keyD_not] at z; cases z
      subst n0
      have q3 : ds = [] := by cases ds with | nil => rfl | cons _ _ => obtain ⟨_, _, z, _⟩ := q3.uncons; cases z
      subst q3
      obtain ⟨we, s'⟩ := scrG (w := .dT [(kk, v)]) s q1 soft_dK (fun _ _ z => by cases z) nA nZ
      have e7 : putD (.tup (kk.map keyD)) d ([] : List D) [] = ([.tup (kk.map keyD)], [d]) := by
        unfold putD
        rw [frL_eq, frL_eq, frL_eq]
        rfl
      refine ⟨_, fun Nx nx => ⟨upd H p (.dT []), _, .inr ⟨q1, rfl⟩, .inr ⟨[], kk, b, upd_same, rfl, (upd_ne (ne_of hb q1 (fun z => by cases z))).trans hb, by rw [sizeLine_eq]; decide, rfl⟩, ?_⟩, we, s', .inr ⟨_, by simp, upd_same, ?_, ?_⟩⟩
      · rw [upd_upd]; exact nx
      · show (putD (.tup (kk.map keyD)) d ([] : List D) []).1 = _
        rw [e7]; rfl
      · show RL G P _ (putD (.tup (kk.map keyD)) d ([] : List D) []).2 _
        rw [e7]; exact RL.cons (rd.ext we) RL.nil
    · subst q2
      obtain ⟨p1, p2⟩ := put_ok keysD keyE_keys kk rd kvs ds q3
      obtain ⟨we, s'⟩ := scrG (w := .dT (putK kvs kk v)) s q1 soft_dT (fun _ _ z => by cases z) nA nZ
      have nn : putK kvs kk v ≠ [] := fun z => by
        obtain ⟨y0, yr, yq⟩ := List.exists_cons_of_ne_nil ne
        subst yq
        unfold putK at z
        split at z <;> simp at z
      exact ⟨_, fun Nx nx => ⟨H, _, .inl rfl, .inr ⟨kvs, kk, b, q1, rfl, hb, by rw [List.length_map] at lt; rw [sizeLine_eq]; exact lt, rfl⟩, nx⟩, we, s', .inr ⟨_, nn, upd_same, p1, RL.ext we _ _ p2⟩⟩
  · have ck : (keyOk y && allB keyOk ks) = true := by
      cases y <;> first | exact ck | exact absurd ⟨_, rfl⟩ c
    obtain ⟨e4, e5⟩ := and_t ck
    obtain ⟨kk, rfl, rfl⟩ := keyOk_key e4 ry
    rcases dc with ⟨kvs, q1, q2, q3⟩ | ⟨kvs, ne, q1, q2, q3⟩
    · subst q2
      obtain ⟨p1, p2⟩ := put_ok keyD keyE_key kk rd kvs ds q3
      obtain ⟨we, s'⟩ := scrG (w := .dK (putK kvs kk v)) s q1 soft_dK (fun _ _ z => by cases z) nA nZ
      exact ⟨_, fun Nx nx => ⟨H, _, .inl rfl, .inl ⟨kvs, kk, q1, rfl, by rw [List.length_map] at lt; rw [sizeLine_eq]; exact lt, rfl⟩, nx⟩, we, s', .inl ⟨_, upd_same, p1, RL.ext we _ _ p2⟩⟩
    · subst q2
      obtain ⟨p, _, z⟩ := allB_first ne e5
      cases z
theorem dcK_succ (g : GF) (t : TF) (k e : EF) (c : Cl) (en : En) (n : Nat) (w : Wk) (ks vs : List D) (h : Sh) : dcK g t k e c en (n + 1) w ks vs h = Wr.rec (motive := fun _ => Rs D)
    (fun x w => Rs.rec (motive := fun _ => Rs D)
      (fun en' h => Rs.rec (motive := fun _ => Rs D)
        (fun q h => bif' q (Rs.rec (motive := fun _ => Rs D) (fun y h => Rs.rec (motive := fun _ => Rs D)
            (fun d h => bif' (keysOkP y ks && (Nat.blt (lenK ks) 16777216 && !isTmp d)) (dcK g t k e c en n w (putD y d ks vs).1 (putD y d ks vs).2 h) .stuck)
            (fun _ _ => .stuck) .stuck (e c en' h)) (fun _ _ => .stuck) .stuck (k c en' h)) (dcK g t k e c en n w ks vs h))
        (fun _ _ => .stuck) .stuck (t c en' h))
      (fun _ _ => .stuck) .stuck (g c x en h))
    (.ok (.tmd ks vs) h) .stuck (stepW h w) := rfl
theorem keysOkP_nt {y : D} {ks : List D} (e : keysOkP y ks = true) : isTmp y = false := by cases y <;> first | rfl | cases e
theorem dc_rd {wf : WF} {g : GF} {t : TF} {ke e : EF} {is ow : List Nat} (sub : ∀ i ∈ is, i ∈ ow) {Q : VK} (q : rdE G W (exDc ow g wf t ke e cl) σ H Q) : tDcV (rdI G W (wf cl)) (rdG G W0 (g cl) is) (rdT G W0 (t cl)) (rdE G W0 (ke cl)) (rdE G W0 (e cl)) ow σ H Q := by
  obtain ⟨P, h, en, st, e0⟩ := q
  have e0 : ERes G W σ P H ((wf cl en h).bind fun w h => frL (wipeE en ow) fun en => dcK g t ke e cl en cl.n w [] [] h) (fun d _ P'' H'' => ∀ v, RT G P'' H'' H d v → Q v H'') := e0
  refine ⟨P, h, en, st, e0.bind.imp fun w h1 P1 H1 y1 s1 e1 J wo p0 hD => ?_⟩
  rw [frL_eq] at e1
  have e1 := ERes.re y1 e1
  have dn : H p0 = none := y1.back hD
  refine ⟨fun i m H' => ∃ P' h' w ks ds, Ext P1 H1 P' H' ∧ SR G P' H' h' ∧ p0 ∉ P'.A ∧ ¬ P'.Z p0 ∧ DctAt G P' H' p0 ks ds ∧ WOk G P' H' w J i ∧
    ERes G W σ P1 H1 (dcK g t ke e cl (wipeE en ow) m w ks ds h') (fun d _ P'' H'' => ∀ v, RT G P'' H'' H d v → Q v H''), ⟨cl.n, P1, h1, w, [], [], Ext.new hD, s1.new hD, s1.free hD, s1.freeZ hD, .inl ⟨[], upd_same, rfl, RL.nil⟩, wo.ext (Ext.new hD).toWExt, e1⟩, ?_⟩
  rintro i m H2 ⟨P2, h2, w2, ks, ds, x2, s2, nA, nZ, hy, wo2, e2⟩
  cases m with
  | zero => exact e2.elim
  | succ m =>
    rw [dcK_succ] at e2
    have so := step_ok s2 wo2
    cases k : stepW h2 w2 with
    | stuck => rw [k] at e2; exact e2.elim
    | stop =>
      rw [k] at e2 so
      exact .inl ⟨so, e2 P2 H2 x2 s2 (.ref p0) ⟨p0, rfl, dn, nA, nZ, hy⟩⟩
    | item x w' =>
      rw [k] at e2 so
      obtain ⟨go, yl⟩ := so
      refine .inr ⟨go, _, fun H' q => ⟨m, Nat.lt_succ_self _, q⟩, fun v H3 y3 => ?_⟩
      obtain ⟨x3, s3, rx, wo3⟩ := yl v H3 y3
      have st3 : Std G P2 h2 (wipeE en ow) (L2.wipe σ ow) H3 := ⟨s3, (st.r.ext ((y1.trans x2).trans x3).toWExt).wipe ow⟩
      refine ⟨P2, h2, wipeE en ow, x, st3, rx, (ERes.re (x2.trans x3) (ERes.only e2)).imp fun en4 h4 P4 H4 x4 s4 e4 σ4 r4 f4 l4 => ⟨wipe_eq (by rw [l4, wipe_length]) sub f4, ?_⟩⟩
      refine ⟨P4, h4, en4, ⟨s4, r4⟩, (ERes.re ((x2.trans x3).trans x4) (ERes.only e4)).imp fun q h5 P5 H5 x5 s5 e5 => ?_⟩
      have x15 := ((x2.trans x3).trans x4).trans x5
      have stay : ∀ {P' H'}, Ext P2 H2 P' H' → DctAt G P' H' p0 ks ds ∧ p0 ∉ P'.A ∧ ¬ P'.Z p0 := fun {P' H'} xx => by
        obtain ⟨o, ho, ht⟩ := dct_nt hy
        obtain ⟨k1, k2, k3⟩ := xx.stay ho nA nZ ht
        exact ⟨DctAt.ext xx.toWExt k1 hy, k2, k3⟩
      cases q with
      | false =>
        obtain ⟨j1, j2, j3⟩ := stay ((x3.trans x4).trans x5)
        exact ⟨P5, h5, w', ks, ds, x15, s5, j2, j3, j1, wo3.ext (x4.trans x5).toWExt, e5⟩
      | true =>
        have e5 : ERes G W σ P1 H1 (Rs.rec (motive := fun _ => Rs D) (fun y h => Rs.rec (motive := fun _ => Rs D)
            (fun d h => bif' (keysOkP y ks && (Nat.blt (lenK ks) 16777216 && !isTmp d)) (dcK g t ke e cl (wipeE en ow) m w' (putD y d ks ds).1 (putD y d ks ds).2 h) .stuck)
            (fun _ _ => .stuck) .stuck (e cl en4 h)) (fun _ _ => .stuck) .stuck (ke cl en4 h5)) (fun d _ P'' H'' => ∀ v, RT G P'' H'' H d v → Q v H'') := e5
        show rdE G W0 (ke cl) _ _ _
        refine ⟨P5, h5, en4, ⟨s5, r4.ext x5.toWExt⟩, (ERes.re x15 (ERes.only e5)).imp fun y h6 P6 H6 x6 s6 e6 yv r6 => ?_⟩
        refine ⟨P6, h6, en4, ⟨s6, (r4.ext x5.toWExt).ext x6.toWExt⟩, (ERes.re (x15.trans x6) (ERes.only e6)).imp fun d h7 P7 H7 x7 s7 e7 zv r7 => ?_⟩
        have e7 : ERes G W σ P1 H1 (bif' (keysOkP y ks && (Nat.blt (lenK ks) 16777216 && !isTmp d)) (dcK g t ke e cl (wipeE en ow) m w' (putD y d ks ds).1 (putD y d ks ds).2 h7) .stuck) (fun d _ P'' H'' => ∀ v, RT G P'' H'' H d v → Q v H'') := e7
        cases c : (keysOkP y ks && (Nat.blt (lenK ks) 16777216 && !isTmp d)) with
        | false => rw [c] at e7; exact e7.elim
        | true =>
          rw [c] at e7
          obtain ⟨c1, c2⟩ := and_t c
          obtain ⟨c2, c3⟩ := and_t c2
          have nd : isTmp d = false := by cases q : isTmp d <;> rw [q] at c3 <;> first | rfl | cases c3
          obtain ⟨j1, j2, j3⟩ := stay ((((x3.trans x4).trans x5).trans x6).trans x7)
          obtain ⟨w, put, we, s8, d8⟩ := put_rd s7 j1 c1 (blt_t c2) j2 j3 ((r6.r (keysOkP_nt c1)).ext x7.toWExt) (r7.r nd)
          exact put _ ⟨P7, h7, w', _, _, scrEG ((x15.trans x6).trans x7) hD we, s8, j2, j3, d8, wo3.ext ((((x4.trans x5).trans x6).trans x7).toWExt.trans we), e7⟩
/-- {k: v for t in it if ..} -/
theorem pe_dcV {kx vx it : Expr} {ifs : List Expr} {scope : Scope} {ow : List (Str × Nat)} {wf : WF} {g : GF} {t : TF} {k e : EF} {is : List Nat} (hc : X.calm = true) (hN : X.N.Nodup) (room : X.A.units < cLine) (hi : PI X tg it (rdI G W (wf cl))) (ok : BlkOk X.N X.env.scope scope ow)
    (hg : ∀ (s : Shared) (H : Hp) (C : Addr) (cls : List (Str × Addr)) (fp : List Addr), PG (X.blk s H scope (compEnvC scope cls C X.env) fp) tg (rdG G W0 (g cl) is))
    (ht : ∀ (s : Shared) (H : Hp) (C : Addr) (cls : List (Str × Addr)) (fp : List Addr), PTs (X.blk s H scope (compEnvC scope cls C X.env) fp) ifs (rdT G W0 (t cl)))
    (hk : ∀ (s : Shared) (H : Hp) (C : Addr) (cls : List (Str × Addr)) (fp : List Addr), PE (X.blk s H scope (compEnvC scope cls C X.env) fp) kx (rdE G W0 (k cl)))
    (he : ∀ (s : Shared) (H : Hp) (C : Addr) (cls : List (Str × Addr)) (fp : List Addr), PE (X.blk s H scope (compEnvC scope cls C X.env) fp) vx (rdE G W0 (e cl)))
    (hs : ∀ x, foldedSetIterable it X.env x = pure x) (sub : ∀ i ∈ is, i ∈ ow.map (·.2)) : PE X (.DictComp kx vx [⟨tg, it, ifs, 0⟩] scope pos) (rdE G W (exDc (ow.map (·.2)) g wf t k e cl)) :=
  PE.imp (pe_dcG hc hN room hi ok hg ht hk he hs) fun _ _ _ q => dc_rd sub q
end
end Pv
end
section
set_option Elab.async false
set_option linter.all false
set_option maxRecDepth 100000
set_option maxHeartbeats 4000000
set_option autoImplicit false
/-! expressions, one kind at a time. -/
namespace Pv
open PySem L2 PySem.Spec PyProof.Rows PySem.W
section
variable {G : GC} {W : WX} {X : Cx} {pos : Pos} {a b c : Expr} {es : List Expr} {P P1 P2 : Pl} {H H0 H1 H2 : Hp} {d : D} {v u : V} {vs : List V} {h : Sh} {σ : L2.St} {cl : Cl} {A B C : EF} {T U : TF} {As Bs : AF}
/-! #### what a part is asked -/
theorem useA {f : List D → Sh → Rs D} {Q : VK} {K : List V → Hp → Prop} {R : En → Sh → Rs (List D)} (q : rdE G W (fun en h => (R en h).bind f) σ H Q)
    (k : ∀ P1 h1 H1 ds vs, SR G P1 H1 h1 → RTL G P1 H1 H ds vs → Giv G W σ P1 H1 (f ds h1) Q → K vs H1) : rdA G W R σ H K := by
  obtain ⟨P, h, en, st, e⟩ := q
  exact ⟨P, h, en, st, e.bind.imp fun x h1 P1 H1 y s e v r => k P1 h1 H1 x v s r (Giv.re y e)⟩
theorem pe_slotV {i : Nat} {x : Str} (hN : X.N[i]? = some x) (hv : Vis X.env.scope x) (hd : (x == ("__debug__" : Str)) = false) (hcd : (x == ("__classdict__" : Str)) = false) : PE X (.Name x pos) (rdE G W (exSlot i cl)) :=
  PE.imp (pe_var hN hv hd hcd) fun σ H Q q => by
    obtain ⟨P, h, en, st, e⟩ := q
    have e : ERes G W σ P H (opt' (nthK en i) .stuck fun o => opt' o .stuck fun d => .ok d h) (fun d _ P' H' => ∀ v, RT G P' H' H d v → Q v H') := exSlot_eq i cl h en ▸ e
    cases k : nthK en i with
    | none => rw [k] at e; exact e.elim
    | some o =>
      rw [k] at e
      cases o with
      | none => exact e.elim
      | some d =>
        rw [nthK_eq] at k
        obtain ⟨v, hs, r⟩ := st.r.at_ i d k
        exact ⟨v, hs, e P H Ext.refl st.s v (RT.of r.noTmp r)⟩
theorem cst_rd {v : V} (r : ∀ P H, R G P H d v) {Q : VK} (q : rdE G W (exCst d cl) σ H Q) : tC v σ H Q := by
  obtain ⟨P, h, en, st, e⟩ := q
  exact e P H Ext.refl st.s v (RT.of (r P H).noTmp (r P H))
theorem pe_globV {x : Str} {v : V} {w : Value} (hg : Gl X x) (hm : X.mg x = some w) (rv : RelV v w) (r : ∀ P H, R G P H d v) (hd : (x == ("__debug__" : Str)) = false) : PE X (.Name x pos) (rdE G W (exCst d cl)) :=
  PE.imp (pe_glob hg hm rv hd) fun _ _ _ q => cst_rd r q
theorem pe_intV {i : Int} {j} : PE X (.Constant (.int i) j pos) (rdE G W (exCst (.int i) cl)) := PE.imp pe_int fun _ _ _ q => cst_rd (d := .int i) (v := .int i) (fun _ _ => rfl) q
theorem pe_blV {i : Bool} {j} : PE X (.Constant (.bool i) j pos) (rdE G W (exCst (.bl i) cl)) := PE.imp pe_bl fun _ _ _ q => cst_rd (d := .bl i) (v := .bl i) (fun _ _ => rfl) q
theorem pe_nonV {j} : PE X (.Constant .none j pos) (rdE G W (exCst .non cl)) := PE.imp pe_non fun _ _ _ q => cst_rd (d := .non) (v := .non) (fun _ _ => rfl) q
theorem pe_strV {i : Str} {j} : PE X (.Constant (.str i) j pos) (rdE G W (exCst (.str i) cl)) := PE.imp pe_str fun _ _ _ q => cst_rd (d := .str i) (v := .str i) (fun _ _ => rfl) q
/-! #### rows -/
theorem pa_nilV : PA X [] (rdA G W (arNil cl)) := PA.imp pa_nil fun σ H Q q => by
  obtain ⟨P, h, en, st, e⟩ := q
  exact e P H Ext.refl st.s [] rfl
theorem pa_consV {k : Nat} (ha : PE X a (rdE G W (A cl))) (hr : PA X es (rdA G W (As cl))) (hs : starEach (a :: es) X.env = (false, eval a X.env) :: starEach es X.env) : PA X (a :: es) (rdA G W (arCons k A As cl)) :=
  PA.imp (pa_cons ha hr hs) fun σ H Q q => by
    obtain ⟨P, h, en, st, e⟩ := q
    have e : ERes G W σ P H ((A cl en h).bind fun d h => argD k d h fun d h => (As cl en h).map fun ds => d :: ds) (fun ds _ P' H' => ∀ vs, RTL G P' H' H ds vs → Q vs H') := e
    refine ⟨P, h, en, st, e.bind.imp fun d h1 P1 H1 x1 s1 e1 v r => ?_⟩
    cases k with
    | zero =>
      have e1 : ERes G W σ P H ((As cl en h1).map fun ds => d :: ds) (fun ds _ P' H' => ∀ vs, RTL G P' H' H ds vs → Q vs H') := e1
      exact ⟨P1, h1, en, st.on x1 s1, (ERes.re x1 e1).map.imp fun ds h2 P2 H2 x2 s2 q vs rs => q _ ⟨v, vs, rfl, r.ext x2, rs.weak fun p => x1.back⟩⟩
    | succ k =>
      cases k with
      | zero =>
        have e1 : ERes G W σ P H ((As cl en h1).map fun ds => fz d :: ds) (fun ds _ P' H' => ∀ vs, RTL G P' H' H ds vs → Q vs H') := e1
        obtain ⟨P2, x2, we, s2, r2⟩ := fz_ok s1 x1 r
        exact ⟨P2, h1, en, st.on x2 s2, (ERes.re x2 e1).map.imp fun ds h2 P3 H3 x3 s3 q vs rs => q _ ⟨v, vs, rfl, (RT.of r2.noTmp r2).ext x3, rs.weak fun p => x2.back⟩⟩
      | succ k =>
        have e1 : ERes G W σ P H ((As cl en (own d h1).2).map fun ds => (own d h1).1 :: ds) (fun ds _ P' H' => ∀ vs, RTL G P' H' H ds vs → Q vs H') := e1
        obtain ⟨P2, x2, we, s2, r2⟩ := own_ok s1 x1 r
        exact ⟨P2, (own d h1).2, en, st.on x2 s2, (ERes.re x2 e1).map.imp fun ds h2 P3 H3 x3 s3 q vs rs => q _ ⟨v, vs, rfl, (RT.of r2.noTmp r2).ext x3, rs.weak fun p => x2.back⟩⟩
theorem pe_tupV {j} (ha : PA X es (rdA G W (As cl))) : PE X (.Tuple es j pos) (rdE G W (exTup As cl)) :=
  PE.imp (pe_tup ha) fun σ H Q q => useA q fun P1 h1 H1 ds vs s r g => by
    cases e : (smallL (lenK ds) && noTmps ds) with
    | false => rw [e] at g; exact g.elim
    | true =>
      rw [e] at g
      obtain ⟨e1, e2⟩ := and_t e
      rw [lenK_eq] at e1
      have rl := r.rl e2
      exact ⟨by rw [rl.length]; exact smallL_le e1, fun p hp => GivD.tup (fun P' H' x s' => g P' H' x s') s rl hp⟩
theorem pe_lstV (ha : PA X es (rdA G W (As cl))) : PE X (.List es pos) (rdE G W (exLst As cl)) :=
  PE.imp (pe_lst ha) fun σ H Q q => useA q fun P1 h1 H1 ds vs s r g => by
    cases e : (smallL (lenK ds) && noTmps ds) with
    | false => rw [e] at g; exact g.elim
    | true =>
      rw [e] at g
      obtain ⟨e1, e2⟩ := and_t e
      rw [lenK_eq] at e1
      have rl := r.rl e2
      exact ⟨by rw [rl.length]; exact smallL_le e1, fun p hp => GivD.tmp (fun P' H' x s' => g P' H' x s') s rl hp⟩
theorem pe_binV (hK : X.K = G.K ∧ X.w = G.w) {o : Bop} (ha : PE X a (rdE G W (A cl))) (hb : PE X b (rdE G W (B cl))) : PE X (.BinOp a (opOf o) b pos) (rdE G W (exBin o A B cl)) :=
  PE.imp (pe_op (op_bin hK o) ha hb) fun σ H Q q => use2 q fun P2 h2 H2 x y v u s rx ry g => by
    rw [binR_eq] at g
    obtain ⟨d, e, g⟩ := g.opt
    exact ⟨P2, h2, H, x, y, d, s, rx, ry, e, g⟩
theorem pe_negV (ha : PE X a (rdE G W (A cl))) : PE X (.UnaryOp .USub a pos) (rdE G W (exNeg A cl)) :=
  PE.imp (pe_un un_neg ha) fun σ H Q q => use1 q fun P1 h1 H1 x v s r g => by
    cases x <;> first | exact (show False from g).elim | skip
    rename_i i
    cases r
    have g : Giv G W σ P1 H1 (frI (-i) fun i => .ok (.int i) h1) Q := g
    rw [frI_eq] at g
    exact ⟨i, rfl, GivD.here (fun P' H' x s' => g P' H' x s') s rfl⟩
theorem pe_cmpV (hK : X.K = G.K ∧ X.w = G.w) (hu : X.A.units + 64 < cLine) {o : Cop} (ha : PE X a (rdE G W (A cl))) (hb : PE X b (rdE G W (B cl))) (hm : behindInMarks (cmpOf o) b = false) : PE X (.Compare a [cmpOf o] [b] pos) (rdE G W (blE (teCmp o A B) cl)) :=
  PE.imp (pe_cmpR (op_cmpV hK hu o) ha hb hm) fun σ H Q q => by
    obtain ⟨P, h, en, st, e⟩ := q
    have e : ERes G W σ P H ((((A cl en h).bind fun x h => (B cl en h).bind fun y h => .opt (cmpD h o x y) h)).map D.bl) (fun d _ P' H' => ∀ v, RT G P' H' H d v → Q v H') := e
    refine ⟨P, h, en, st, e.map.bind.imp fun x h1 P1 H1 x1 s1 e1 v r1 => ⟨P1, h1, en, st.on x1 s1, (ERes.re x1 e1).bind.imp fun y h2 P2 H2 x2 s2 e2 u r2 => ?_⟩⟩
    obtain ⟨k, e3, e4⟩ := (ERes.re x2 e2).opt
    exact ⟨P2, h2, H, x, y, k, s2, r1.ext x2, r2.weak fun p => x1.back, e3, e4 P2 H2 Ext.refl s2 (.bl k) rfl⟩
theorem pt_cmpV (hK : X.K = G.K ∧ X.w = G.w) (hu : X.A.units + 64 < cLine) {o : Cop} (ha : PE X a (rdE G W (A cl))) (hb : PE X b (rdE G W (B cl))) (hm : behindInMarks (cmpOf o) b = false) : PT X (.Compare a [cmpOf o] [b] pos) (rdT G W (teCmp o A B cl)) :=
  PT.imp (pt_cmpR (op_cmpV hK hu o) ha hb hm) fun σ H Q q => by
    obtain ⟨P, h, en, st, e⟩ := q
    have e : ERes G W σ P H ((A cl en h).bind fun x h => (B cl en h).bind fun y h => .opt (cmpD h o x y) h) (fun b _ _ H' => Q b H') := e
    refine ⟨P, h, en, st, e.bind.imp fun x h1 P1 H1 x1 s1 e1 v r1 => ⟨P1, h1, en, st.on x1 s1, (ERes.re x1 e1).bind.imp fun y h2 P2 H2 x2 s2 e2 u r2 => ?_⟩⟩
    obtain ⟨k, e3, e4⟩ := (ERes.re x2 e2).opt
    exact ⟨P2, h2, H, x, y, k, s2, r1.ext x2, r2.weak fun p => x1.back, e3, k, rfl, e4 P2 H2 Ext.refl s2⟩
/-- a test's reading, as a value -/
theorem chain_rd {o p : Cop} {Q : Bool → Hp → Prop} (q : rdT G W (teChain o p A B C cl) σ H Q) {K : VK} (hk : ∀ b H, Q b H → K (.bl b) H) :
    tChain (rCmp G fun h a b => cmpD h o a b) (rCmp G fun h a b => cmpD h p a b) (rdE G W (A cl)) (rdE G W (B cl)) (rdE G W (C cl)) σ H K := by
  obtain ⟨P, h, en, st, e⟩ := q
  have e : ERes G W σ P H ((A cl en h).bind fun x h => (B cl en h).bind fun y h => opt' (cmpD h o x y) .stuck fun q => bif' q ((C cl en h).bind fun z h => .opt (cmpD h p y z) h) (.ok false h)) (fun b _ _ H' => Q b H') := e
  refine ⟨P, h, en, st, e.bind.imp fun x h1 P1 H1 x1 s1 e1 v r1 => ⟨P1, h1, en, st.on x1 s1, (ERes.re x1 e1).bind.imp fun y h2 P2 H2 x2 s2 e2 u r2 => ?_⟩⟩
  have e2 := ERes.re x2 e2
  cases k : cmpD h2 o x y with
  | none => rw [k] at e2; exact e2.elim
  | some k1 =>
    rw [k] at e2
    refine ⟨P2, h2, H, x, y, k1, s2, r1.ext x2, r2.weak fun p => x1.back, k, k1, rfl, ?_⟩
    cases k1 with
    | false =>
      show ite _ _ _
      rw [if_neg (by simp)]
      exact hk _ _ (e2 P2 H2 Ext.refl s2)
    | true =>
      show ite _ _ _
      rw [if_pos rfl]
      have e2 : ERes G W σ P2 H2 ((C cl en h2).bind fun z h => .opt (cmpD h p y z) h) (fun b _ _ H' => Q b H') := e2
      refine ⟨P2, h2, en, (st.on x1 s1).on x2 s2, e2.bind.imp fun z h3 P3 H3 x3 s3 e3 w r3 => ?_⟩
      obtain ⟨k2, e4, e5⟩ := (ERes.re x3 e3).opt
      exact ⟨P3, h3, H, y, z, k2, s3, (r2.weak fun p => x1.back).ext x3, r3.weak fun p => (x1.trans x2).back, e4, hk _ _ (e5 P3 H3 Ext.refl s3)⟩
/-- a test as a value -/
theorem blE_rd {T : TF} {Q : VK} (q : rdE G W (blE T cl) σ H Q) : rdT G W (T cl) σ H fun b H1 => Q (.bl b) H1 := by
  obtain ⟨P, h, en, st, e⟩ := q
  have e : ERes G W σ P H ((T cl en h).map D.bl) (fun d _ P' H' => ∀ v, RT G P' H' H d v → Q v H') := e
  exact ⟨P, h, en, st, e.map.imp fun b h1 P1 H1 x1 s1 e1 => e1 _ rfl⟩
theorem pe_chainV (hK : X.K = G.K ∧ X.w = G.w) (hu : X.A.units + 64 < cLine) {o p : Cop} (ha : PE X a (rdE G W (A cl))) (hb : PE X b (rdE G W (B cl))) (hc : PE X c (rdE G W (C cl))) (hm : lastMarks [cmpOf o, cmpOf p] [b, c] = false) :
    PE X (.Compare a [cmpOf o, cmpOf p] [b, c] pos) (rdE G W (blE (teChain o p A B C) cl)) :=
  PE.imp (pe_chain (op_cmpV hK hu o) (op_cmpV hK hu p) ha hb hc hm) fun σ H Q q => chain_rd (blE_rd q) fun _ _ z => z
theorem pt_chainV (hK : X.K = G.K ∧ X.w = G.w) (hu : X.A.units + 64 < cLine) {o p : Cop} (ha : PE X a (rdE G W (A cl))) (hb : PE X b (rdE G W (B cl))) (hc : PE X c (rdE G W (C cl))) (hm : lastMarks [cmpOf o, cmpOf p] [b, c] = false) :
    PT X (.Compare a [cmpOf o, cmpOf p] [b, c] pos) (rdT G W (teChain o p A B C cl)) :=
  PT.imp (pt_chain (op_cmpV hK hu o) (op_cmpV hK hu p) ha hb hc hm) fun σ H Q q => chain_rd q fun b _ z => ⟨b, rfl, z⟩
/-! #### truth -/
theorem tru_dct {p : Addr} {ks ds : List D} (dc : DctAt G P H p ks ds) (e : allB keyOk ks = true) : TruV G.K (.ref p) H (!ks.isEmpty) := by
  rcases dc with ⟨kvs, q1, rfl, _⟩ | ⟨kvs, ne, q1, rfl, _⟩
  · exact .inr (.inr ⟨kvs, q1, by cases kvs <;> rfl⟩)
  · obtain ⟨p, _, z⟩ := allB_first ne e
    cases z
theorem tru_seq (s : SR G P H h) {x : D} {ds : List D} (e : rdQ h x = some ds) (r : RT G P H H0 x v) : TruV G.K v H (!ds.isEmpty) := by
  obtain ⟨p, xs, rfl, c, rl⟩ := rdQ_ok s e r
  have l := rl.length
  have z : (!ds.isEmpty) = !xs.isEmpty := by cases ds <;> cases xs <;> first | rfl | cases l
  rcases c with c | c
  · exact .inl ⟨xs, c, z⟩
  · exact .inr (.inl ⟨xs, c, z⟩)
theorem tru_rd (hK : X.K = G.K ∧ X.w = G.w) (s : SR G P H h) {x : D} {k : Bool} (r : RT G P H H0 x v) (e : truD h x = some k) : TruV X.K v H k := by
  rw [hK.1]
  cases x with
  | non => cases r; cases e; rfl
  | bl b => cases r; cases e; rfl
  | int i => cases r; cases e; show (!ieq i 0) = (i != 0); rw [ieq_beq]; rfl
  | str y =>
    cases r
    obtain ⟨e1, e2⟩ := bif_some e
    cases e2
    refine ⟨smallL_le e1, ?_⟩
    cases y.length <;> rfl
  | kdc _ _ _ => cases e
  | gl _ => cases e
  | tmd ks ds =>
    obtain ⟨p, rfl, _, _, _, l⟩ := r
    obtain ⟨e1, e2⟩ := bif_some (show bif' (allB keyOk ks) (some (!ks.isEmpty)) none = some k from e)
    cases e2
    exact tru_dct l e1
  | obj n =>
    have e : opt' (dctOf h (.obj n)) (opt' (rdQ h (.obj n)) none fun ds => some (!ds.isEmpty)) (fun p => bif' (allB keyOk p.1) (some (!p.1.isEmpty)) none) = some k := e
    cases q : dctOf h (.obj n) with
    | none =>
      rw [q] at e
      obtain ⟨ds, q2, e2⟩ := opt_some (show opt' (rdQ h (.obj n)) none (fun ds => some (!ds.isEmpty)) = some k from e)
      cases e2
      exact tru_seq s q2 r
    | some p =>
      rw [q] at e
      obtain ⟨e1, e2⟩ := bif_some (show bif' (allB keyOk p.1) (some (!p.1.isEmpty)) none = some k from e)
      cases e2
      obtain ⟨a, rfl, ha⟩ := r
      exact tru_dct (s.at_ (dctOf_obj q) ha) e1
  | vdc ks ds =>
    obtain ⟨p, rfl, _, l⟩ := r
    obtain ⟨e1, e2⟩ := bif_some (show bif' (allB keyOk ks) (some (!ks.isEmpty)) none = some k from e)
    cases e2
    exact tru_dct l e1
  | tup xs =>
    obtain ⟨ds, q2, e2⟩ := opt_some (show opt' (rdQ h (.tup xs)) none (fun ds => some (!ds.isEmpty)) = some k from e)
    cases e2
    exact tru_seq s q2 r
  | tmp xs =>
    obtain ⟨ds, q2, e2⟩ := opt_some (show opt' (rdQ h (.tmp xs)) none (fun ds => some (!ds.isEmpty)) = some k from e)
    cases e2
    exact tru_seq s q2 r
  | vls xs =>
    obtain ⟨ds, q2, e2⟩ := opt_some (show opt' (rdQ h (.vls xs)) none (fun ds => some (!ds.isEmpty)) = some k from e)
    cases e2
    exact tru_seq s q2 r
theorem pt_valV (hK : X.K = G.K ∧ X.w = G.w) (ha : PE X a (rdE G W (A cl))) (he : ∀ whole, isTrue a X.env whole = (do let v ← whole; standAt a.pos; holding [v] (truthy v))) : PT X a (rdT G W (teVal A cl)) :=
  PT.imp (pt_truth ha he) fun σ H Q q => by
    obtain ⟨P, h, en, st, e⟩ := q
    have e : ERes G W σ P H ((A cl en h).bind fun x h => .opt (truD h x) h) (fun b _ _ H' => Q b H') := e
    refine ⟨P, h, en, st, e.bind.imp fun x h1 P1 H1 x1 s1 e1 v r1 => ?_⟩
    obtain ⟨k, e2, e3⟩ := (ERes.re x1 e1).opt
    exact ⟨k, tru_rd hK s1 r1 e2, e3 P1 H1 Ext.refl s1⟩
theorem pe_notV (ha : PE X a (rdE G W (A cl))) : PE X (.UnaryOp .Not a pos) (rdE G W (exNot A cl)) :=
  PE.imp (pe_not ha) fun σ H Q q => use1 q fun P1 h1 H1 x v s r g => by
    cases x <;> first | exact (show False from g).elim | skip
    cases r
    exact ⟨_, rfl, GivD.here (fun P' H' x s' => g P' H' x s') s rfl⟩
theorem pt_notV (ha : PT X a (rdT G W (T cl))) : PT X (.UnaryOp .Not a pos) (rdT G W (teNot T cl)) :=
  PT.imp (pt_not ha) fun σ H Q q => by
    obtain ⟨P, h, en, st, e⟩ := q
    have e : ERes G W σ P H ((T cl en h).map fun b => bif' b false true) (fun b _ _ H' => Q b H') := e
    exact ⟨P, h, en, st, e.map.imp fun b h1 P1 H1 x1 s1 e1 => by cases b <;> exact e1⟩
theorem pe_andV {rest : List Expr} (ha : PE X a (rdE G W (A cl))) (hb : PE X (.BoolOp .And (b :: rest) pos) (rdE G W (B cl))) : PE X (.BoolOp .And (a :: b :: rest) pos) (rdE G W (exAnd A B cl)) :=
  PE.imp (pe_and ha hb) fun σ H Q q => by
    obtain ⟨P, h, en, st, e⟩ := q
    refine ⟨P, h, en, st, (ERes.bind e).imp fun x h1 P1 H1 x1 s1 e1 v r => ?_⟩
    have e1 := ERes.re x1 e1
    obtain ⟨k, rfl⟩ : ∃ k, x = .bl k := by cases x <;> first | exact ⟨_, rfl⟩ | exact (show False from e1).elim
    cases r
    refine ⟨k, rfl, ?_⟩
    cases k with
    | true =>
      show ite _ _ _
      rw [if_pos rfl]
      exact ⟨P1, h1, en, st.on x1 s1, ERes.imp e1 fun d h2 P2 H2 x2 s2 q v r => q v (r.weak fun p => x1.back)⟩
    | false =>
      show ite _ _ _
      rw [if_neg (by simp)]
      exact e1 P1 H1 Ext.refl s1 _ rfl
theorem pe_orV {rest : List Expr} (ha : PE X a (rdE G W (A cl))) (hb : PE X (.BoolOp .Or (b :: rest) pos) (rdE G W (B cl))) : PE X (.BoolOp .Or (a :: b :: rest) pos) (rdE G W (exOr A B cl)) :=
  PE.imp (pe_or ha hb) fun σ H Q q => by
    obtain ⟨P, h, en, st, e⟩ := q
    refine ⟨P, h, en, st, (ERes.bind e).imp fun x h1 P1 H1 x1 s1 e1 v r => ?_⟩
    have e1 := ERes.re x1 e1
    obtain ⟨k, rfl⟩ : ∃ k, x = .bl k := by cases x <;> first | exact ⟨_, rfl⟩ | exact (show False from e1).elim
    cases r
    refine ⟨k, rfl, ?_⟩
    cases k with
    | true =>
      show ite _ _ _
      rw [if_pos rfl]
      exact e1 P1 H1 Ext.refl s1 _ rfl
    | false =>
      show ite _ _ _
      rw [if_neg (by simp)]
      exact ⟨P1, h1, en, st.on x1 s1, ERes.imp e1 fun d h2 P2 H2 x2 s2 q v r => q v (r.weak fun p => x1.back)⟩
theorem pw_andV {rest : List Expr} (ha : PT X a (rdT G W (T cl))) (hb : PW X (.BoolOp .And (b :: rest) pos) (rdT G W (U cl))) : PW X (.BoolOp .And (a :: b :: rest) pos) (rdT G W (teAnd T U cl)) :=
  PW.imp (pw_and ha hb) fun σ H Q q => by
    obtain ⟨P, h, en, st, e⟩ := q
    refine ⟨P, h, en, st, (ERes.bind e).imp fun k h1 P1 H1 x1 s1 e1 => ?_⟩
    have e1 := ERes.re x1 e1
    cases k with
    | true =>
      show ite _ _ _
      rw [if_pos rfl]
      exact ⟨P1, h1, en, st.on x1 s1, e1⟩
    | false =>
      show ite _ _ _
      rw [if_neg (by simp)]
      exact e1 P1 H1 Ext.refl s1
theorem pw_orV {rest : List Expr} (ha : PT X a (rdT G W (T cl))) (hb : PW X (.BoolOp .Or (b :: rest) pos) (rdT G W (U cl))) : PW X (.BoolOp .Or (a :: b :: rest) pos) (rdT G W (teOr T U cl)) :=
  PW.imp (pw_or ha hb) fun σ H Q q => by
    obtain ⟨P, h, en, st, e⟩ := q
    refine ⟨P, h, en, st, (ERes.bind e).imp fun k h1 P1 H1 x1 s1 e1 => ?_⟩
    have e1 := ERes.re x1 e1
    cases k with
    | true =>
      show ite _ _ _
      rw [if_pos rfl]
      exact e1 P1 H1 Ext.refl s1
    | false =>
      show ite _ _ _
      rw [if_neg (by simp)]
      exact ⟨P1, h1, en, st.on x1 s1, e1⟩
theorem pe_ifV (ht : PT X c (rdT G W (T cl))) (ha : PE X a (rdE G W (A cl))) (hb : PE X b (rdE G W (B cl))) : PE X (.IfExp c a b pos) (rdE G W (exIf T A B cl)) :=
  PE.imp (pe_ifExp ht ha hb) fun σ H Q q => by
    obtain ⟨P, h, en, st, e⟩ := q
    refine ⟨P, h, en, st, (ERes.bind e).imp fun k h1 P1 H1 x1 s1 e1 => ?_⟩
    have e1 := ERes.re x1 e1
    cases k with
    | true =>
      show ite _ _ _
      rw [if_pos rfl]
      exact ⟨P1, h1, en, st.on x1 s1, ERes.imp e1 fun d h2 P2 H2 x2 s2 q v r => q v (r.weak fun p => x1.back)⟩
    | false =>
      show ite _ _ _
      rw [if_neg (by simp)]
      exact ⟨P1, h1, en, st.on x1 s1, ERes.imp e1 fun d h2 P2 H2 x2 s2 q v r => q v (r.weak fun p => x1.back)⟩
end
end Pv
end
section
set_option Elab.async false
set_option linter.all false
set_option maxRecDepth 100000
set_option maxHeartbeats 4000000
set_option autoImplicit false
/-! items, parts, fields, builtins. -/
namespace L2
open PySem PySem.Spec PyProof.Rows HT
/-! #### t[::-1] -/
theorem adjust_rev (n : Nat) : Builtin.Slice.sliceAdjust none none (-1) (n : Int) = ((n : Int) - 1, -1) := by
  unfold Builtin.Slice.sliceAdjust
  have h1 : (-1 : Int) < 0 := by omega
  simp only [h1, if_true]
theorem places_rev (n : Nat) : Builtin.Slice.slicePlaces ((n : Int) - 1) (-1) (-1) = n := by
  unfold Builtin.Slice.slicePlaces
  have h1 : ¬ ((-1 : Int) > 0) := by omega
  have h2 : (- (-1 : Int)) = 1 := by omega
  simp only [h1, if_false, h2, Int.ediv_one]
  split <;> omega
theorem fm_congr {α β : Type} {f g : α → Option β} : ∀ l : List α, (∀ x ∈ l, f x = g x) → l.filterMap f = l.filterMap g
  | [], _ => rfl
  | x :: l, h => by
    rw [List.filterMap_cons, List.filterMap_cons, h x List.mem_cons_self, fm_congr l fun y hy => h y (List.mem_cons_of_mem _ hy)]
theorem pick_rev (xs : Array Value) : ((List.range xs.size).filterMap fun (k : Nat) => xs[(((xs.size : Int) - 1) + (k : Int) * (-1)).toNat]?).toArray = xs.toList.reverse.toArray := by
  have e : (List.range xs.size).filterMap (fun (k : Nat) => xs[(((xs.size : Int) - 1) + (k : Int) * (-1)).toNat]?) = ((List.range xs.size).map fun k => xs.size - 1 - k).filterMap (xs[·]?) := by
    rw [List.filterMap_map]
    apply fm_congr
    intro k hk
    have := List.mem_range.mp hk
    show xs[(((xs.size : Int) - 1) + (k : Int) * (-1)).toNat]? = xs[xs.size - 1 - k]?
    rw [show (((xs.size : Int) - 1) + (k : Int) * (-1)).toNat = xs.size - 1 - k by omega]
  rw [e, PySem.W.krv_range, List.filterMap_reverse, PySem.W.krv_all]
section
variable {prog : Program} {w : World} {A : Around} {E : Value → Shared → Prop} {s : Shared}
theorem sliceApplied_rev {sl : Addr} {vl vu vs : Value} {n : Nat} {Q : Int × Int × Nat → Shared → Prop} (hs : s.heap.IsSliceOf sl vl vu vs) (pl : IsPart vl none) (pu : IsPart vu none) (ps : IsPart vs (some (-1)))
    (h : Q ((n : Int) - 1, -1, n) s) : wpAny (model prog w) A (Builtin.Slice.sliceApplied (.ref sl) (pure (n : Int))) Q E s := by
  obtain ⟨os, hos, hcs, hds⟩ := id hs
  unfold Builtin.Slice.sliceApplied Builtin.Slice.sliceFields
  refine wpAny_bind (wpAny_bind (wpAny_field hos hds (x := vl) rfl (wpAny_bind (wpAny_field hos hds (x := vu) rfl (wpAny_bind (wpAny_field hos hds (x := vs) rfl (wpAny_pure ?_)))))))
  refine wpAny_bind (slicePart_ ps ?_)
  show wpAny _ _ (if ((-1 : Int) == 0) = true then _ else _) _ _ s
  rw [if_neg (by decide)]
  refine wpAny_bind (slicePart_ pl (wpAny_bind (slicePart_ pu (wpAny_bind (wpAny_pure ?_)))))
  show wpAny _ _ (match Builtin.Slice.sliceAdjust none none (-1) (n : Int) with | (lo, hi) => pure (lo, (-1 : Int), Builtin.Slice.slicePlaces lo hi (-1))) _ _ s
  rw [adjust_rev n]
  show wpAny _ _ (pure ((n : Int) - 1, (-1 : Int), Builtin.Slice.slicePlaces ((n : Int) - 1) (-1) (-1))) _ _ s
  rw [places_rev]
  exact wpAny_pure h
theorem getItem_tuple_rev {t sl : Addr} {items : Array Value} {vl vu vs : Value} {Q : Value → Shared → Prop} (ht : IsTup s.heap t items) (hs : s.heap.IsSliceOf sl vl vu vs) (pl : IsPart vl none) (pu : IsPart vu none) (ps : IsPart vs (some (-1)))
    (h : Q (.ref s.heap.objs.size) { s with heap := s.heap.push { cls := .type "tuple", data := .seq items.toList.reverse.toArray } })
    (hsz : items.size ≤ sizeLine) : wpAny (model prog w) A (getItem (.ref t) (.ref sl)) Q E s := by
  have htake : sizeOk (.seq items.toList.reverse.toArray) := by
    show items.toList.reverse.toArray.size ≤ sizeLine
    rw [List.size_toArray, List.length_reverse, Array.length_toList]
    exact hsz
  obtain ⟨os, hos, hcs, hds⟩ := id hs
  have hTs : s.TypeIs (.ref sl) "slice" := ⟨os, hos, hcs⟩
  unfold getItem
  try with_reducible refine wpAny_holding ?_
  first | refine wpAny_bind (wpAny_pure ?_) | skip
  refine wpAny_bind (wpAny_sequenceKey ht.typeIs (by decide) ?_)
  refine wpAny_bind (wpAny_callSpecial?_slot (name := Str.ofString "__getitem__") ht.typeIs PyProof.Rows.slot_tuple_getitem
    (wpAny_call_entry PyProof.Rows.slot_tuple_getitem ht.typeIs entry_tuple_getitem ?_ (args_tuple_getitem _ _)))
  show wpAny _ _ (Builtin.Tuple.tupleItemsOf (.ref t) >>= _) _ _ s
  refine wpAny_bind (tupleItemsOf_ ht ?_)
  refine wpAny_bind (wpAny_typeOf hTs ?_)
  rw [if_pos (by decide)]
  refine wpAny_bind (sliceApplied_rev hs pl pu ps ?_)
  have hno : ¬ ((((items.size : Int) - 1) == 0 && (-1 : Int) == 1 && items.size == items.size) = true) := by
    intro q
    rw [Bool.and_eq_true, Bool.and_eq_true] at q
    exact absurd q.1.2 (by decide)
  show wpAny _ _ (if (((items.size : Int) - 1) == 0 && (-1 : Int) == 1 && items.size == items.size) = true then _ else _) _ _ s
  rw [if_neg hno, pick_rev]
  first
    | exact wpAny_bind (m := Builtin.Tuple.tupleExact _) (wpAny_newObj_type (wpAny_pure ⟨_, rfl, wpAny_pure h⟩) htake)
    | exact wpAny_bind (m := Builtin.Tuple.tupleExact _) (wpAny_newObj_type (wpAny_bind (wpAny_pure (wpAny_pure ⟨_, rfl, wpAny_pure h⟩))) htake)
    | exact wpAny_bind (wpAny_bind (m := Builtin.Tuple.tupleExact _) (wpAny_newObj_type (wpAny_pure (wpAny_pure ⟨_, rfl, wpAny_pure h⟩)) htake))
    | exact wpAny_bind (wpAny_bind (m := Builtin.Tuple.tupleExact _) (wpAny_newObj_type (wpAny_pure ⟨_, rfl, wpAny_pure h⟩) htake))
end
section
variable {X : Cx}
/-- a list or a tuple, the other way round -/
def tRevA (K : PySem.W.Frag) (te : TE) : TE := fun σ H Q => te σ H fun x H1 => (∃ a xs, x = .ref a ∧ SqL K H1 a xs ∧ ∀ p, H1 p = none → Q (.ref p) (upd H1 p (.lst xs.reverse))) ∨ ∃ a xs, x = .ref a ∧ SqT K H1 a xs ∧ ∀ p, H1 p = none → Q (.ref p) (upd H1 p (.tup xs.reverse))
theorem pe_revA {e : Expr} {te : TE} {k : Nat} {p1 p2 p3 pos : Pos} (he : PE X e te) : PE X (.Subscript e (.Slice none none (some (.UnaryOp .USub (.Constant (.int 1) k p1) p2)) p3) pos) (tRevA X.K te) := by
  refine ⟨fun pins s σ H Q I h => ?_⟩
  refine Subscript_ (thn (he.run pins s σ H _ I h) fun v s1 ⟨x, H1, I1, r1, q1⟩ => ?_)
  have hst : PO X (some (.UnaryOp .USub (.Constant (.int 1) k p1) p2)) (tPart (tUn (rU fun i => .int (-i)) (tC (.int 1)))) := po_some (pe_un un_neg pe_int)
  refine wpAny_Slice (thn (po_none.run pins s1 σ H1 (fun o H2 => o = none ∧ H2 = H1) I1 ⟨rfl, rfl⟩) fun vl s2 ⟨l, H2, I2, pl, el, e2⟩ => ?_)
  subst el e2
  refine thn (po_none.run pins s2 σ H2 (fun o H3 => o = none ∧ H3 = H2) I2 ⟨rfl, rfl⟩) fun vu s3 ⟨u, H3, I3, pu, eu, e3⟩ => ?_
  subst eu e3
  refine thn (hst.run pins s3 σ H3 (fun o H4 => o = some (-1) ∧ H4 = H3) I3 ⟨1, rfl, -1, rfl, rfl, rfl⟩) fun vs s4 ⟨o, H4, I4, ps, eo, e4⟩ => ?_
  subst eo e4
  have I5 : Inv X pins σ H4 { s4 with heap := s4.heap.push { cls := .type "slice", data := .fields #[vl, vu, vs] } } := I4.kept (t' := s4.toks) fun b ob q => Heap.get?_push_of_some _ q
  rcases q1 with ⟨a, xs, ex, hx, q⟩ | ⟨a, xs, ex, hx, q⟩
  · subst ex
    cases r1
    obtain ⟨its, r, ht, hz⟩ := I5.list hx
    have hlen := r.length
    show wpAny (model X.prog X.w) X.A (subscriptTail e (.Slice none none (some (.UnaryOp .USub (.Constant (.int 1) k p1) p2)) p3) (.ref a) (.ref s4.heap.objs.size)) (EP X pins σ Q) X.xe { s4 with heap := s4.heap.push { cls := .type "slice", data := .fields #[vl, vu, vs] } }
    refine tail_any (ops := [.ref a, .ref s4.heap.objs.size]) ht.isList.typeIs (PySem.slot_list_getitem.lookup) ?_ (by with_unfolding_all rfl)
    refine wpAny_getItem_list_slice ht.isList (Heap.IsSliceOf.new _ vl vu vs) pl pu ps (by decide) ?_ (by rw [List.size_toArray]; omega)
    rw [PySem.W.krv_pick]
    refine ⟨.ref _, _, I5.laid (t' := s4.toks) (o := .lst xs.reverse) (fun b ob q => Heap.get?_push_of_some _ q) (Nat.le_refl _) ?_, rfl, q _ (I5.hok.fresh (Nat.le_refl _))⟩
    exact ⟨by rw [List.length_reverse]; exact hz, _, 0, r.reverse, Heap.get?_push_size _ rfl⟩
  · subst ex
    cases r1
    obtain ⟨its, r, ht, hz⟩ := I5.tuple hx
    have hlen := r.length
    show wpAny (model X.prog X.w) X.A (subscriptTail e (.Slice none none (some (.UnaryOp .USub (.Constant (.int 1) k p1) p2)) p3) (.ref a) (.ref s4.heap.objs.size)) (EP X pins σ Q) X.xe { s4 with heap := s4.heap.push { cls := .type "slice", data := .fields #[vl, vu, vs] } }
    refine tail_any (ops := [.ref a, .ref s4.heap.objs.size]) ht.typeIs (PyProof.Rows.slot_tuple_getitem.lookup) ?_ (by with_unfolding_all rfl)
    refine getItem_tuple_rev ht (Heap.IsSliceOf.new _ vl vu vs) pl pu ps ?_ (by rw [List.size_toArray]; omega)
    refine ⟨.ref _, _, I5.laid (t' := s4.toks) (o := .tup xs.reverse) (fun b ob q => Heap.get?_push_of_some _ q) (Nat.le_refl _) ?_, rfl, q _ (I5.hok.fresh (Nat.le_refl _))⟩
    exact ⟨by rw [List.length_reverse]; exact hz, _, r.reverse, IsTup.new _ _⟩
end
end L2
namespace Pv
open PySem L2 PySem.Spec PyProof.Rows PySem.W
section
variable {G : GC} {W : WX} {X : Cx} {pos : Pos} {a b c : Expr} {es : List Expr} {P P1 P2 : Pl} {H H0 H1 H2 : Hp} {d : D} {v u : V} {vs : List V} {h : Sh} {σ : L2.St} {cl : Cl} {A B C : EF} {T U : TF} {As Bs : AF}
theorem GivD.at {Q : VK} (g : GivD G P H h d Q) (s : SR G P H h) {w : V} (r : R G P H d w) : Q w H := GivD.here g s (RT.of r.noTmp r)
theorem pe_ixV (hK : X.K = G.K ∧ X.w = G.w) (hu : X.A.units + 64 < cLine) (ha : PE X a (rdE G W (A cl))) (hb : PE X b (rdE G W (B cl))) (hs : PlainIx b) : PE X (.Subscript a b pos) (rdE G W (exIx A B cl)) :=
  PE.imp (pe_ix (ix_V hK hu) ha hb hs) fun σ H Q q => use2 q fun P2 h2 H2 x y v u s rx ry g => by
    obtain ⟨d, e, g⟩ := g.opt
    exact ⟨P2, h2, H, x, y, d, s, rx, ry, e, fun w r => g.at s r⟩
/-- a slice's part -/
def rdO (G : GC) (W : WX) (f : En → Sh → Rs (List D)) : TO := fun σ H Q => ∃ P h en, Std G P h en σ H ∧ ERes G W σ P H (f en h) (fun ds _ _ H' => ∃ o, partI ds = some o ∧ Q o H')
theorem po_noneV : PO X none (rdO G W (arNil cl)) := ⟨fun pins s σ H Q I q => by
  obtain ⟨P, h, en, st, e⟩ := q
  obtain ⟨o, e1, q⟩ := e P H Ext.refl st.s
  cases e1
  exact po_none.run pins s σ H Q I q⟩
theorem po_someV (ha : PE X a (rdE G W (A cl))) : PO X (some a) (rdO G W (arCons 0 A arNil cl)) := ⟨fun pins s σ H Q I q => (po_some ha).run pins s σ H Q I (by
  obtain ⟨P, h, en, st, e⟩ := q
  have e : ERes G W σ P H ((A cl en h).bind fun d h => .ok [d] h) (fun ds _ _ H' => ∃ o, partI ds = some o ∧ Q o H') := by rw [← ar1]; exact e
  refine ⟨P, h, en, st, e.bind.imp fun x h1 P1 H1 x1 s1 e1 v r => ?_⟩
  obtain ⟨o, e2, q⟩ := e1 P1 H1 x1 s1
  cases x <;> first | (cases e2; done) | skip
  cases e2
  cases r
  exact ⟨_, rfl, q⟩)⟩
theorem pe_slcV (hK : X.K = G.K ∧ X.w = G.w) {lo hi : Option Expr} {p2 : Pos} (ha : PE X a (rdE G W (A cl))) (hl : PO X lo (rdO G W (As cl))) (hh : PO X hi (rdO G W (Bs cl))) : PE X (.Subscript a (.Slice lo hi none p2) pos) (rdE G W (exSlc A As Bs cl)) :=
  PE.imp (pe_slice (sl_V hK) ha hl hh) fun σ H Q q => by
    obtain ⟨P, h, en, st, e⟩ := q
    refine ⟨P, h, en, st, (ERes.bind e).imp fun x h1 P1 H1 x1 s1 e1 v r => ⟨P1, h1, en, st.on x1 s1, (ERes.bind (ERes.re x1 e1)).imp fun is h2 P2 H2 x2 s2 e2 => ?_⟩⟩
    have e2 := ERes.re x2 e2
    cases k : partI is with
    | none => rw [k] at e2; exact e2.elim
    | some i =>
      rw [k] at e2
      refine ⟨i, rfl, P2, h2, en, (st.on x1 s1).on x2 s2, (ERes.bind e2).imp fun js h3 P3 H3 x3 s3 e3 => ?_⟩
      have e3 := ERes.re x3 e3
      cases k2 : partI js with
      | none => rw [k2] at e3; exact e3.elim
      | some j =>
        rw [k2] at e3
        obtain ⟨d, e4, g⟩ := ERes.opt (show ERes G W σ P3 H3 (.opt (slD h3 x i j) h3) (fun d _ P' H' => ∀ v, RT G P' H' H d v → Q v H') from e3)
        exact ⟨j, rfl, P3, h3, H, x, d, s3, (r.ext x2).ext x3, e4, fun P' H' x' s' v r' => g P' H' x' s' v (r'.weak fun p z => ((x1.trans x2).trans x3).back z)⟩
theorem pe_revV (hK : X.K = G.K ∧ X.w = G.w) {k : Nat} {p1 p2 p3 : Pos} (ha : PE X a (rdE G W (A cl))) : PE X (.Subscript a (.Slice none none (some (.UnaryOp .USub (.Constant (.int 1) k p1) p2)) p3) pos) (rdE G W (exRev A cl)) :=
  PE.imp (pe_revA ha) fun σ H Q q => use1 q fun P1 h1 H1 x v s r g => by
    obtain ⟨d, e, g⟩ := g.opt
    by_cases c : ∃ ds, x = .tup ds
    · obtain ⟨ds, rfl⟩ := c
      have e : (frL ds.reverse fun ds => some (D.tup ds)) = some d := e
      rw [frL_eq] at e
      cases e
      obtain ⟨p, xs, rfl, hx, rl⟩ := tupR r
      exact .inr ⟨p, xs, rfl, SqT.of hx, fun q hq => g.tup s rl.reverse hq⟩
    · have e : opt' (lstOf h1 x) none (fun ds => frL ds.reverse fun ds => some (.tmp ds)) = some d := by cases x <;> first | exact absurd ⟨_, rfl⟩ c | exact e | cases e
      obtain ⟨ds, e1, e2⟩ := opt_some e
      rw [frL_eq] at e2
      cases e2
      obtain ⟨p, xs, rfl, hx, rl⟩ := lstOf_ok s e1 r
      exact .inl ⟨p, xs, rfl, .inl (Rd.of hx), fun q hq => g.tmp s rl.reverse hq⟩
theorem pe_fldV {B : Tb} (ok : GOk G B) (hK : X.K = G.K ∧ X.w = G.w) {f : Nat} (ha : PE X a (rdE G W (A cl))) (hb : attributeBase a (G.att f) X.env (eval a X.env) = eval a X.env) : PE X (.Attribute a (G.att f) pos) (rdE G W (exFld B A f cl)) :=
  PE.imp (pe_fld ha hb) fun σ H Q q => use1 q fun P1 h1 H1 x v s r g => by
    cases x <;> first | exact (show False from g).elim | skip
    rename_i n
    obtain ⟨p, rfl, hp⟩ := r
    have g : Giv G W σ P1 H1 (match h1.get n with
      | some (.ins k fs ds) => bif' (B.a k f) (.opt (lookF f fs ds) h1) .stuck
      | _ => .stuck) Q := g
    cases e : h1.get n with
    | none => rw [e] at g; exact (show False from g).elim
    | some o =>
      rw [e] at g
      cases o <;> first | exact (show False from g).elim | skip
      rename_i k fs ds
      have g : Giv G W σ P1 H1 (bif' (B.a k f) (.opt (lookF f fs ds) h1) .stuck) Q := g
      cases eb : B.a k f with
      | false => rw [eb] at g; exact (show False from g).elim
      | true =>
        rw [eb] at g
        obtain ⟨d, e1, g⟩ := Giv.opt (show Giv G W σ P1 H1 (.opt (lookF f fs ds) h1) Q from g)
        have ga : G.a k f = true := by rw [ok.ga]; exact eb
        obtain ⟨c1, c2⟩ := ok.cls k f ga
        obtain ⟨dx, xs, q1, q2, q3, q4⟩ := s.at_ e hp
        obtain ⟨w, l, rw'⟩ := lookF_ok ok ga q2 q3 q4 e1
        exact ⟨p, G.F k, dx, xs, w, rfl, q1, hK.1 ▸ c1, hK.1 ▸ c2, l, g.at s rw'⟩
/-! #### builtins -/
theorem pe_biV (hK : X.K = G.K ∧ X.w = G.w) (hc : X.calm = true) (hu : X.A.units + 64 < cLine) (hA : X.A.handled = none) {x : Str} {p : Pos} {i : Bi} (hg : Gl X x) (hm : X.mg x = none) (hv : bootBuiltins x = some (biV i)) (hn : x ≠ "__name__") (hd : (x == ("__debug__" : Str)) = false)
    (ha : PA X (a :: es) (rdA G W (As cl))) (he : starEach (a :: es) X.env = (false, eval a X.env) :: starEach es X.env) (hp : (backTo pos (starEach es X.env)).any (·.1) = false) : PE X (.Call (.Name x p) (a :: es) [] pos) (rdE G W (exBi i As cl)) := by
  have red : ∀ σ H Q, rdE G W (exBi i As cl) σ H Q → tCB (rBi G i) (rdA G W (As cl)) σ H Q := fun σ H Q q => useA q fun P1 h1 H1 ds vs s r g => by
    obtain ⟨d, e, g⟩ := g.opt
    exact ⟨P1, h1, H, ds, d, s, r, e, g⟩
  have c := cb (G := G) hK hc hu hA i
  cases i
  all_goals first
    | exact PE.imp (pe_callB c hg hm hv ha hn hd he hp) red
    | exact PE.imp (pe_callTy c hg hm hv ha hn hd he hp) red
theorem pe_isiV (hK : X.K = G.K ∧ X.w = G.w) {t : Ty} {p p1 : Pos} (hg : Gl X "isinstance") (hm : X.mg "isinstance" = none) {y : Str} (yt : bootBuiltins y = some (.type (tyS t))) (hgy : Gl X y) (hmy : X.mg y = none) (ny : y ≠ "__name__") (dy : (y == ("__debug__" : Str)) = false)
    (ha : PE X a (rdE G W (A cl))) (h1 : starEach [a, .Name y p1] X.env = (false, eval a X.env) :: starEach [.Name y p1] X.env) : PE X (.Call (.Name "isinstance" p) [a, .Name y p1] [] pos) (rdE G W (exIsi t A cl)) :=
  PE.imp (pe_callB (call_isi (G := G) hK t) hg hm boot_isinstance (pa_cons ha (pa_cons (pe_bltn (v := .ty (tyS t)) hgy hmy yt rfl ny dy) pa_nil rfl) h1) (by decide) (by decide) h1 rfl) fun σ H Q q => use1 q fun P1 h1 H1 x v s r g => by
    cases e : isiD h1 t x with
    | none =>
      have g : Giv G W σ P1 H1 (opt' (isiD h1 t x) .stuck fun b => .ok (.bl b) h1) Q := g
      rw [e] at g; exact (show False from g).elim
    | some k =>
      have g : Giv G W σ P1 H1 (opt' (isiD h1 t x) .stuck fun b => .ok (.bl b) h1) Q := g
      rw [e] at g
      exact ⟨P1, h1, H, x, v, k, rfl, s, r, e, GivD.at (fun P' H' x s' => g P' H' x s') s (w := .bl k) rfl⟩
end
end Pv
end
section
set_option Elab.async false
set_option linter.all false
set_option maxRecDepth 100000
set_option maxHeartbeats 4000000
set_option autoImplicit false
/-! dicts written, ranges as values, methods of lists and dicts. -/
namespace Pv
open PySem L2 PySem.Spec PyProof.Rows PySem.W
section
variable {G : GC} {W : WX} {X : Cx} {pos : Pos} {a b c : Expr} {es : List Expr} {P P1 P2 : Pl} {H H0 H1 H2 : Hp} {d : D} {v u : V} {vs : List V} {h : Sh} {σ : L2.St} {cl : Cl} {A B C : EF} {T U : TF} {As Bs : AF}
theorem exDlit0 (c : Cl) (en : En) (h : Sh) : exDlit arNil arNil c en h = .ok (.tmd [] []) h := rfl
theorem exDlit1 (c : Cl) (en : En) (h : Sh) : exDlit (arCons 0 A arNil) (arCons 0 B arNil) c en h = (A c en h).bind fun x h => (B c en h).bind fun y h => bif' (keyOk x && !isTmp y) (.ok (.tmd [x] [y]) h) .stuck := by
  have e : exDlit (arCons 0 A arNil) (arCons 0 B arNil) c en h = (arCons 0 A arNil c en h).bind fun xs h => (arCons 0 B arNil c en h).bind fun ys h => match xs with
    | [] => match ys with
      | [] => .ok (.tmd [] []) h
      | _ => .stuck
    | [x] => match ys with
      | [y] => bif' (keyOk x && !isTmp y) (.ok (.tmd [x] [y]) h) .stuck
      | _ => .stuck
    | _ => .stuck := rfl
  rw [e, ar1]
  cases A c en h with
  | ok x h1 =>
    show Rs.bind (arCons 0 B arNil c en h1) _ = _
    rw [ar1]
    show _ = Rs.bind (B c en h1) _
    cases B c en h1 <;> rfl
  | exc => rfl
  | stuck => rfl
theorem pe_dlit0 : PE X (.Dict [] [] pos) (rdE G W (exDlit arNil arNil cl)) :=
  PE.imp pe_dnewK fun σ H Q q p hp => by
    obtain ⟨P, h, en, st, e⟩ := q
    exact e P _ (Ext.new hp) (st.s.new hp) (.ref p) ⟨p, rfl, hp, st.s.free hp, st.s.freeZ hp, .inl ⟨[], upd_same, rfl, RL.nil⟩⟩
theorem pe_dlit1 (ha : PE X a (rdE G W (A cl))) (hb : PE X b (rdE G W (B cl))) : PE X (.Dict [some a] [b] pos) (rdE G W (exDlit (arCons 0 A arNil) (arCons 0 B arNil) cl)) :=
  PE.imp (pe_disp (pps_cons ha hb pps_nil) rfl rfl (by simp) (by simp)) fun σ H Q q p hp => by
    obtain ⟨P, h, en, st, e⟩ := q
    rw [exDlit1] at e
    have x0 : Ext P H P (upd H p (.dK [])) := Ext.new hp
    have st0 := st.on x0 (st.s.new hp)
    refine ⟨P, h, en, st0, (ERes.re x0 e.bind).imp fun x h1 P1 H1 x1 s1 e1 v r1 => ⟨P1, h1, en, st0.on x1 s1, (ERes.re (x0.trans x1) e1.bind).imp fun y h2 P2 H2 x2 s2 e2 u r2 => ?_⟩⟩
    cases k : (keyOk x && !isTmp y) with
    | false => rw [k] at e2; exact e2.elim
    | true =>
      rw [k] at e2
      obtain ⟨k1, k2⟩ := and_t k
      have nx : isTmp x = false := by cases x <;> first | rfl | cases k1
      have ny : isTmp y = false := by cases q : isTmp y <;> rw [q] at k2 <;> first | rfl | cases k2
      obtain ⟨kk, rfl, rfl⟩ := keyOk_key k1 ((r1.ext x2).r nx)
      obtain ⟨j1, j2, j3⟩ := (x1.trans x2).stay upd_same (st.s.free hp) (st.s.freeZ hp) (fun _ z => by cases z)
      have hd : H2 p = some (.dK []) := j1.trans upd_same
      obtain ⟨we, s3⟩ := scrG (w := .dK [(kk, u)]) s2 hd soft_dK (fun _ _ z => by cases z) j2 j3
      refine ⟨hd, [(kk, u)], rfl, by simp, ?_⟩
      have xx : Ext P H P2 (upd H2 p (.dK [(kk, u)])) := scrEG (x0.trans (x1.trans x2)) hp we
      exact e2 P2 _ xx s3 (.ref p) ⟨p, rfl, hp, j2, j3, .inl ⟨[(kk, u)], upd_same, rfl, RL.cons ((r2.r ny).ext we) RL.nil⟩⟩
/-! #### ranges -/
theorem rngL_rl : ∀ (n : Nat) (lo : Int), RL G P H (rngL lo 1 n) ((List.range n).map fun i => V.int (lo + (i : Nat)))
  | 0, lo => rfl
  | n + 1, lo => by
    rw [List.range_succ_eq_map, List.map_cons, List.map_map]
    have e : rngL lo 1 (n + 1) = .int lo :: rngL (lo + 1) 1 n := by
      show frI lo (fun lo => D.int lo :: rngL (lo + 1) 1 n) = _
      rw [frI_eq]
    rw [e]
    refine RL.cons (show V.int (lo + ((0 : Nat) : Int)) = V.int lo by rw [Int.natCast_zero, Int.add_zero]) ?_
    have f : ((fun i : Nat => V.int (lo + (i : Int))) ∘ Nat.succ) = fun i : Nat => V.int (lo + 1 + (i : Int)) := by
      funext i
      show V.int (lo + ((i + 1 : Nat) : Int)) = V.int (lo + 1 + (i : Int))
      congr 1
      omega
    rw [f]
    exact rngL_rl n (lo + 1)
theorem rgV_rl {i j : Int} {n : Nat} (e : (j - i).toNat = n) : RL G P H (rngL i 1 n) (rgV i j) := by
  unfold rgV
  rw [e]
  exact rngL_rl n i
def RgOut (k : Bi) (Q : VK) (i j : Int) (H1 : Hp) : Prop := RgOk i j ∧ ((k = .tuple → ∀ q, H1 q = none → Q (.ref q) (upd H1 q (.tup (rgV i j)))) ∧ (k = .list → ∀ q, H1 q = none → Q (.ref q) (upd H1 q (.lst (rgV i j)))))
/-- what a range gives as a value -/
theorem rgB_ok {k : Bi} {i j : Int} {Q : VK} (s : SR G P H h) (bi : -(2 ^ 62) ≤ i ∧ i < 2 ^ 62) (bj : -(2 ^ 62) ≤ j ∧ j < 2 ^ 62) {o : Option D} (e : rgB k (.rng i 1 (j - i).toNat) = some d) (g : GivD G P H h d Q) :
    RgOut k Q i j H := by
  obtain ⟨e1, e2⟩ := bif_some (show bif' (smallL (j - i).toNat) _ none = some d from e)
  have sm := smallL_le e1
  rw [sizeLine_eq] at sm
  refine ⟨⟨bi.1, bi.2, bj.1, bj.2, sm⟩, fun ek q hq => ?_, fun ek q hq => ?_⟩
  · subst ek
    have e2 : frL (rngL i 1 (j - i).toNat) (fun ds => some (D.tup ds)) = some d := e2
    rw [frL_eq] at e2
    cases e2
    exact g.tup s (rgV_rl rfl) hq
  · subst ek
    have e2 : frL (rngL i 1 (j - i).toNat) (fun ds => some (D.tmp ds)) = some d := e2
    rw [frL_eq] at e2
    cases e2
    exact g.tmp s (rgV_rl rfl) hq
theorem biR1_rd {k : Bi} {Q : VK} (q : rdE G W (exBiR k (arCons 0 A arNil) cl) σ H Q) {F : Int → Int → Hp → Prop} (f : ∀ i j H1, RgOut k Q i j H1 → F i j H1) : tRg1 (rdE G W (A cl)) σ H F := by
  obtain ⟨P, h, en, st, e⟩ := q
  have e : ERes G W σ P H ((A cl en h).bind fun x h => .opt (opt' (rngW [x]) none fun w => rgB k w) h) (fun d _ P' H' => ∀ v, RT G P' H' H d v → Q v H') := by
    have e : ERes G W σ P H ((arCons 0 A arNil cl en h).bind fun ds h => .opt (opt' (rngW ds) none fun w => rgB k w) h) (fun d _ P' H' => ∀ v, RT G P' H' H d v → Q v H') := e
    rw [ar1] at e
    revert e
    cases A cl en h <;> exact id
  refine ⟨P, h, en, st, e.bind.imp fun x h1 P1 H1 x1 s1 e1 v r => ?_⟩
  obtain ⟨d, e2, g⟩ := (Giv.re x1 (show Giv G W σ P H _ Q from e1)).opt
  obtain ⟨w, e3, e4⟩ := opt_some e2
  cases x <;> first | (cases e3; done) | skip
  rename_i j
  cases r
  obtain ⟨e5, e6⟩ := bif_some (show bif' (smallI j) (frN j.toNat fun n => some (Wk.rng 0 1 n)) none = some w from e3)
  rw [frN_eq] at e6
  cases e6
  have z : j.toNat = (j - 0).toNat := by rw [Int.sub_zero]
  rw [z] at e4
  exact ⟨j, rfl, f _ _ _ (rgB_ok (o := none) s1 ⟨by decide, by decide⟩ (smallI_ok e5) e4 g)⟩
theorem biR2_rd {k : Bi} {Q : VK} (q : rdE G W (exBiR k (arCons 0 A (arCons 0 B arNil)) cl) σ H Q) {F : Int → Int → Hp → Prop} (f : ∀ i j H1, RgOut k Q i j H1 → F i j H1) : tRg2 (rdE G W (A cl)) (rdE G W (B cl)) σ H F := by
  obtain ⟨P, h, en, st, e⟩ := q
  have e : ERes G W σ P H ((A cl en h).bind fun x h => (B cl en h).bind fun y h => .opt (opt' (rngW [x, y]) none fun w => rgB k w) h) (fun d _ P' H' => ∀ v, RT G P' H' H d v → Q v H') := by
    have e : ERes G W σ P H ((arCons 0 A (arCons 0 B arNil) cl en h).bind fun ds h => .opt (opt' (rngW ds) none fun w => rgB k w) h) (fun d _ P' H' => ∀ v, RT G P' H' H d v → Q v H') := e
    rw [ar2] at e
    revert e
    cases A cl en h with
    | ok x h1 =>
      show ERes G W σ P H (((B cl en h1).bind fun d' h => .ok [x, d'] h).bind fun ds h => .opt (opt' (rngW ds) none fun w => rgB k w) h) _ → ERes G W σ P H ((B cl en h1).bind fun y h => .opt (opt' (rngW [x, y]) none fun w => rgB k w) h) _
      cases B cl en h1 <;> exact id
    | exc => exact id
    | stuck => exact id
  refine ⟨P, h, en, st, e.bind.imp fun x h1 P1 H1 x1 s1 e1 v r => ⟨P1, h1, en, st.on x1 s1, (ERes.re x1 e1).bind.imp fun y h2 P2 H2 x2 s2 e2 u r2 => ?_⟩⟩
  obtain ⟨d, e3, g⟩ := ERes.opt (ERes.re x2 e2)
  have g : GivD G P2 H2 h2 d Q := fun P' H' x' s' v r' => g P' H' x' s' v (r'.weak fun p z => (x1.trans x2).back z)
  obtain ⟨w, e4, e5⟩ := opt_some e3
  cases x <;> first | (cases e4; done) | skip
  cases y <;> first | (cases e4; done) | skip
  rename_i i j
  cases r
  cases r2
  obtain ⟨e6, e7⟩ := bif_some (show bif' (smallI i && smallI j) (frN (j - i).toNat fun n => some (Wk.rng i 1 n)) none = some w from e4)
  rw [frN_eq] at e7
  cases e7
  obtain ⟨e8, e9⟩ := and_t e6
  exact ⟨i, j, rfl, rfl, f _ _ _ (rgB_ok (o := none) s2 (smallI_ok e8) (smallI_ok e9) e5 g)⟩
def rgN : Bi → Str
  | .tuple => "tuple"
  | _ => "list"
theorem pe_biR1 (hc : X.calm = true) {k : Bi} {p p2 pos2 : Pos} (hk : k = .tuple ∨ k = .list) (hg : Gl X (rgN k)) (hm : X.mg (rgN k) = none) (hg2 : Gl X "range") (hm2 : X.mg "range" = none) (ha : PE X a (rdE G W (A cl)))
    (h1 : starEach [a] X.env = (false, eval a X.env) :: starEach [] X.env) : PE X (.Call (.Name (rgN k) p) [.Call (.Name "range" p2) [a] [] pos2] [] pos) (rdE G W (exBiR k (arCons 0 A arNil) cl)) := by
  rcases hk with rfl | rfl
  · exact PE.imp (pe_tupRg hc hg hm (prg_1 hg2 hm2 ha h1) rfl) fun σ H Q q => biR1_rd q fun i j H1 o => ⟨o.1, o.2.1 rfl⟩
  · exact PE.imp (pe_listRg hc hg hm (prg_1 hg2 hm2 ha h1) rfl) fun σ H Q q => biR1_rd q fun i j H1 o => ⟨o.1, o.2.2 rfl⟩
theorem pe_biR2 (hc : X.calm = true) {k : Bi} {p p2 pos2 : Pos} (hk : k = .tuple ∨ k = .list) (hg : Gl X (rgN k)) (hm : X.mg (rgN k) = none) (hg2 : Gl X "range") (hm2 : X.mg "range" = none) (ha : PE X a (rdE G W (A cl))) (hb : PE X b (rdE G W (B cl)))
    (h1 : starEach [a, b] X.env = (false, eval a X.env) :: starEach [b] X.env) (h2 : starEach [b] X.env = (false, eval b X.env) :: starEach [] X.env) (hp : (backTo pos2 (starEach [b] X.env)).any (·.1) = false) :
    PE X (.Call (.Name (rgN k) p) [.Call (.Name "range" p2) [a, b] [] pos2] [] pos) (rdE G W (exBiR k (arCons 0 A (arCons 0 B arNil)) cl)) := by
  rcases hk with rfl | rfl
  · exact PE.imp (pe_tupRg hc hg hm (prg_2 hg2 hm2 ha hb h1 h2 hp) rfl) fun σ H Q q => biR2_rd q fun i j H1 o => ⟨o.1, o.2.1 rfl⟩
  · exact PE.imp (pe_listRg hc hg hm (prg_2 hg2 hm2 ha hb h1 h2 hp) rfl) fun σ H Q q => biR2_rd q fun i j H1 o => ⟨o.1, o.2.2 rfl⟩
/-! #### methods -/
theorem dctAt_of (s : SR G P H h) {ks ds : List D} (nk : noKdc d = true) (e : dctOf h d = some (ks, ds)) (r : RT G P H H0 d v) : ∃ p, v = .ref p ∧ DctAt G P H p ks ds := by
  cases d <;> first | (cases e; done) | (cases nk; done) | skip
  · cases e; obtain ⟨p, rfl, _, _, _, l⟩ := r; exact ⟨p, rfl, l⟩
  · cases e; obtain ⟨p, rfl, _, l⟩ := r; exact ⟨p, rfl, l⟩
  · obtain ⟨a, rfl, ha⟩ := r
    exact ⟨a, rfl, s.at_ (dctOf_obj e) ha⟩
theorem bmK_ty (hK : X.K = G.K ∧ X.w = G.w) (s : SR G P H h) {m : Bm} (e : bmK m h d = true) (r : RT G P H H0 d v) : tyV X.K (bmT m) v H := by
  have hl : (lstOf h d).isSome = true → tyV X.K "list" v H := fun z => by
    obtain ⟨ds, q⟩ := Option.isSome_iff_exists.mp z
    obtain ⟨p, xs, rfl, hx, _⟩ := lstOf_ok s q r
    exact .inl ⟨rfl, xs, .inl (Rd.of hx)⟩
  have hd : (noKdc d && (dctOf h d).isSome) = true → tyV X.K "dict" v H := fun z => by
    obtain ⟨z1, z2⟩ := and_t z
    obtain ⟨⟨ks, ds⟩, q⟩ := Option.isSome_iff_exists.mp z2
    obtain ⟨p, rfl, l⟩ := dctAt_of s z1 q r
    rcases l with ⟨kvs, q1, _⟩ | ⟨kvs, _, q1, _⟩
    · exact .inr (.inr (.inl ⟨rfl, .inl ⟨kvs, q1⟩⟩))
    · exact .inr (.inr (.inl ⟨rfl, .inr ⟨kvs, q1⟩⟩))
  cases m <;> first | exact hl e | exact hd e
def bmS : Bm → Str
  | .append => "append"
  | .extend => "extend"
  | .pop => "pop"
  | .popAt => "pop"
  | .remove => "remove"
  | _ => "get"
theorem bm_plain (m : Bm) : PlainAttrs (bmT m) := by cases m <;> first | exact PySem.F.plainAttrs_list | exact PySem.F.plainAttrs_dict
theorem bm_slot (m : Bm) : Slot (bmT m) (bmS m) (bmI m) := by
  cases m
  · exact PySem.F.slot_list_append
  · exact PySem.F.slot_list_extend
  · exact PySem.F.slot_list_pop
  · exact PySem.F.slot_list_pop
  · exact PySem.F.slot_list_remove
  · exact PySem.F.slot_dict_get
  · exact PySem.F.slot_dict_get
theorem bm_type (m : Bm) : typeOf (.builtin (bmI m)) = pure (.type "method_descriptor") := by
  cases m
  · exact PySem.F.type_list_append
  · exact PySem.F.type_list_extend
  · exact PySem.F.type_list_pop
  · exact PySem.F.type_list_pop
  · exact PySem.F.type_list_remove
  · exact PySem.F.type_dict_get
  · exact PySem.F.type_dict_get
/-- the same, of the later places -/
theorem Ext.up (x : Ext P H P1 H1) : Ext P1 H P1 H1 :=
  ⟨⟨⟨[], by simp⟩, fun _ z => z, fun a o z e t => (x.fz a z).elim (fun z => x.kz a o z e t) fun n => absurd (e.symm.trans n) (fun z => by cases z), x.xx, x.tup, x.frz⟩, fun _ m => .inl m, fun _ m => .inl m, x.dom, fun a o e n t => x.keep a o e (fun m => n (by obtain ⟨B, q⟩ := x.pre; rw [q]; exact List.mem_append_left _ m)) t⟩
theorem Ext.low (x : Ext P H P1 H1) (y : Ext P1 H P2 H2) : Ext P H P2 H2 := by
  obtain ⟨B1, q1⟩ := x.pre
  obtain ⟨B2, q2⟩ := y.pre
  refine ⟨⟨⟨B1 ++ B2, by rw [q2, q1, List.append_assoc]⟩, fun a z => y.zz a (x.zz a z), fun a o z e t => y.kz a o (x.zz a z) e t, y.xx, y.tup, y.frz⟩, fun a m => (y.fa a m).elim (x.fa a) .inr, fun a m => (y.fz a m).elim (x.fz a) .inr, y.dom, fun a o e n t => y.keep a o e (fun m => (x.fa a m).elim n fun z => absurd (e.symm.trans z) (fun z => by cases z)) t⟩
theorem bm_red (hK : X.K = G.K ∧ X.w = G.w) {m : Bm} {Q : VK} (q : rdE G W (exBm m A As cl) σ H Q) : tBM X.K (bmT m) (rBm G m) (rdE G W (A cl)) (rdA G W (As cl)) σ H Q := by
  obtain ⟨P, h, en, st, e⟩ := q
  refine ⟨P, h, en, st, (ERes.bind e).imp fun x h1 P1 H1 x1 s1 e1 v r => ?_⟩
  cases k : bmK m h1 x with
  | false => rw [k] at e1; exact e1.elim
  | true =>
    rw [k] at e1
    refine ⟨bmK_ty hK s1 k r, P1, h1, en, st.on x1 s1, (ERes.re x1 (ERes.bind e1)).imp fun ds h2 P2 H2 x2 s2 e2 vs rs => ?_⟩
    have e2 : ERes G W σ P H (opt' (bmD h2 m x ds) .stuck fun p => .ok p.1 p.2) (fun d _ P' H' => ∀ v, RT G P' H' H d v → Q v H') := e2
    cases k2 : bmD h2 m x ds with
    | none => rw [k2] at e2; exact e2.elim
    | some p =>
      rw [k2] at e2
      exact ⟨P2, H, h2, x, ds, p.1, p.2, (x1.trans x2).up, s2, r.ext x2, rs.weak (fun p z => x1.back z), k2, fun P' H' y s' w r' => e2 P' H' ((x1.trans x2).low y) s' w r'⟩
theorem pe_bmV (hK : X.K = G.K ∧ X.w = G.w) (hu : X.A.units + 64 < cLine) {m : Bm} {ap : Pos} {e : Expr} (ha : PE X a (rdE G W (A cl))) (hes : PA X (e :: es) (rdA G W (As cl))) (hb : attributeBase a (bmS m) X.env (eval a X.env) = eval a X.env)
    (hf : ((backTo pos (starEach (e :: es) X.env)).all (fun x => !x.1) && (backToKw pos (keywordEach [] X.env)).all (fun x => x.1.isSome) && decide ((e :: es).length + ([] : List Keyword).length + (if ([] : List Keyword).isEmpty then 0 else 1) < 30)) = true)
    (hl : (ap.endLine == pos.line) = true) (hs : starEach (e :: es) X.env = (false, eval e X.env) :: starEach es X.env) (hp : (backTo pos (starEach es X.env)).any (·.1) = false) : PE X (.Call (.Attribute a (bmS m) ap) (e :: es) [] pos) (rdE G W (exBm m A As cl)) :=
  PE.imp (pe_bm (bm_plain m) (bm_slot m) (bm_type m) (bm_V hK hu m) ha hes hb hf hl hs hp) fun σ H Q q => bm_red hK q
theorem pe_bmV0 (hK : X.K = G.K ∧ X.w = G.w) (hu : X.A.units + 64 < cLine) {m : Bm} {ap : Pos} (ha : PE X a (rdE G W (A cl))) (hb : attributeBase a (bmS m) X.env (eval a X.env) = eval a X.env) (hl : (ap.endLine == pos.line) = true) : PE X (.Call (.Attribute a (bmS m) ap) [] [] pos) (rdE G W (exBm m A arNil cl)) :=
  PE.imp (pe_bm0 (bm_plain m) (bm_slot m) (bm_type m) (bm_V hK hu m) ha hb hl) fun σ H Q q => by
    obtain ⟨P, h, en, st, e⟩ := bm_red hK q
    exact ⟨P, h, en, st, e.imp fun x h1 P1 H1 x1 s1 e1 v r => by
      obtain ⟨z1, P2, h2, en2, st2, z2⟩ := e1 v r
      exact ⟨z1, z2 P2 H1 Ext.refl st2.s [] rfl⟩⟩
end
end Pv
end
section
set_option Elab.async false
set_option linter.all false
set_option maxRecDepth 100000
set_option maxHeartbeats 4000000
set_option autoImplicit false
/-! calls. -/
namespace Pv
open PySem L2 PySem.Spec PyProof.Rows PySem.W
/-- rows that stay -/
def rdK (G : GC) (W : WX) (e : En → Sh → Rs (List D)) : TA := fun σ H Q => ∃ P h en, Std G P h en σ H ∧ ERes G W σ P H (e en h) (fun ds _ P' H' => ∀ vs, RL G P' H' ds vs → Q vs H')
/-- what a callee lets out -/
def EW (E : XK) : WX := fun c d _ H => E c d H
/-- a def's promise: what the evaluator says -/
def spF (G : GC) (f : List D → Sh → Rs D) : Sp := fun vs H Q E => ∃ P h ds, SR G P H h ∧ RL G P H ds vs ∧ ERes G (EW E) [] P H (f ds h) (fun d _ P' H' => ∀ v, RT G P' H' H d v → Q v H')
section
variable {G : GC} {W : WX} {X : Cx} {pos : Pos} {a b c : Expr} {es : List Expr} {P P1 P2 : Pl} {H H0 H1 H2 : Hp} {d : D} {v u : V} {vs : List V} {h : Sh} {σ : L2.St} {cl : Cl} {A B C : EF} {T U : TF} {As Bs : AF}
theorem ERes.chg {α : Type} {r : Rs α} {W' : WX} {σ' : L2.St} {K : α → Sh → Pl → Hp → Prop} (e : ERes G W σ P H r K) (w : ∀ c d H, W c d σ H → W' c d σ' H) : ERes G W' σ' P H r K := by
  cases r with
  | ok => exact e
  | exc => exact fun P' H' x s d => w _ _ _ (e P' H' x s d)
  | stuck => exact e
theorem pa_keepA (ha : PA X es (rdK G W (As cl))) : PA X es (rdA G W (As cl)) := PA.imp ha fun σ H Q q => by
  obtain ⟨P, h, en, st, e⟩ := q
  exact ⟨P, h, en, st, e.imp fun ds h1 P1 H1 x1 s1 q vs r => q vs r.rtl⟩
theorem pa_nilK : PA X [] (rdK G W (arNil cl)) := PA.imp pa_nil fun σ H Q q => by
  obtain ⟨P, h, en, st, e⟩ := q
  exact e P H Ext.refl st.s [] rfl
theorem pa_consK {k : Nat} (ha : PE X a (rdE G W (A cl))) (hr : PA X es (rdK G W (As cl))) (hs : starEach (a :: es) X.env = (false, eval a X.env) :: starEach es X.env) : PA X (a :: es) (rdK G W (arCons (k + 1) A As cl)) :=
  PA.imp (pa_cons ha hr hs) fun σ H Q q => by
    obtain ⟨P, h, en, st, e⟩ := q
    have e : ERes G W σ P H ((A cl en h).bind fun d h => argD (k + 1) d h fun d h => (As cl en h).map fun ds => d :: ds) (fun ds _ P' H' => ∀ vs, RL G P' H' ds vs → Q vs H') := e
    refine ⟨P, h, en, st, e.bind.imp fun d h1 P1 H1 x1 s1 e1 v r => ?_⟩
    cases k with
    | zero =>
      have e1 : ERes G W σ P H ((As cl en h1).map fun ds => fz d :: ds) (fun ds _ P' H' => ∀ vs, RL G P' H' ds vs → Q vs H') := e1
      obtain ⟨P2, x2, we, s2, r2⟩ := fz_ok s1 x1 r
      exact ⟨P2, h1, en, st.on x2 s2, (ERes.re x2 e1).map.imp fun ds h2 P3 H3 x3 s3 q vs rs => q _ (RL.cons (r2.ext x3.toWExt) rs)⟩
    | succ k =>
      have e1 : ERes G W σ P H ((As cl en (own d h1).2).map fun ds => (own d h1).1 :: ds) (fun ds _ P' H' => ∀ vs, RL G P' H' ds vs → Q vs H') := e1
      obtain ⟨P2, x2, we, s2, r2⟩ := own_ok s1 x1 r
      exact ⟨P2, (own d h1).2, en, st.on x2 s2, (ERes.re x2 e1).map.imp fun ds h2 P3 H3 x3 s3 q vs rs => q _ (RL.cons (r2.ext x3.toWExt) rs)⟩
/-- the arguments are there, the callee runs -/
theorem spF_of {f : List D → Sh → Rs D} {Q : VK} {ds : List D} (s : SR G P1 H1 h) (x : Ext P H P1 H1) (w : ∀ p, H1 p = none → H0 p = none) (r : RL G P1 H1 ds vs) (e : ERes G W σ P H (f ds h) (fun d _ P' H' => ∀ v, RT G P' H' H0 d v → Q v H')) : spF G f vs H1 Q (WE W σ) :=
  ⟨P1, h, ds, s, r, (ERes.re x (ERes.chg (W' := EW (WE W σ)) (σ' := []) e fun _ _ _ z => z)).imp fun d h' P' H' x' s' q v r => q v (r.weak w)⟩
/-- a def that is called: its promise at depth k -/
structure Fd (G : GC) (X : Cx) (cl : Cl) (k f : Nat) : Prop where
  ex : ∃ fd ps, FnOk X.prog X.w X.K X.mg X.base (L2.CX X.prog X.w) k (G.F f) fd ps (spF G (cl.f f)) ∧ Binds X.K fd ps [] ∧ PySem.W.keepIn X.K (.ref (G.F f)) = true
theorem pe_callV {j k f : Nat} {x : Str} {p : Pos} (F : Fd G X cl k f) (tk : Takes X W) (hr : Room j X.A) (hk : k ≤ j) (hg : Gl X x) (hm : X.mg x = some (.ref (G.F f))) (hd : (x == ("__debug__" : Str)) = false) (ha : PA X (a :: es) (rdK G W (As cl)))
    (he : starEach (a :: es) X.env = (false, eval a X.env) :: starEach es X.env) (hp : (backTo pos (starEach es X.env)).any (·.1) = false) : PE X (.Call (.Name x p) (a :: es) [] pos) (rdE G W (exCall f As cl)) := by
  obtain ⟨fd, ps, F, bi, kp⟩ := F.ex
  exact PE.imp (pe_callS F (hr.mono hk) hg hm kp bi (fun σ => passAt tk σ) ha hd he hp) fun σ H Q q => by
    obtain ⟨P, h, en, st, e⟩ := q
    exact ⟨P, h, en, st, (ERes.bind e).imp fun ds h1 P1 H1 x1 s1 e1 vs r => spF_of s1 x1 (fun p => x1.back) r e1⟩
/-- .. a name's value -/
theorem pe_callS0 {j k f : Nat} {x : Str} {p : Pos} (F : Fd G X cl k f) (tk : Takes X W) (hr : Room j X.A) (hk : k ≤ j) (hg : Gl X x) (hm : X.mg x = some (.ref (G.F f))) (hd : (x == ("__debug__" : Str)) = false) : PE X (.Call (.Name x p) [] [] pos) (rdE G W (exCall f arNil cl)) := by
  obtain ⟨fd, ps, F, bi, kp⟩ := F.ex
  refine ⟨fun pins s σ H Q I q => ?_⟩
  obtain ⟨P, h, en, st, e⟩ := q
  exact wpAny_Call_Name_kw (ld_glob I hg hm (PySem.W.callWith_K0 I.kIn kp (run_fnS (us := []) (vs := []) F (hr.mono hk) bi (passAt tk σ) I .nil (spF_of st.s Ext.refl (fun _ z => z) RL.nil (show ERes G W σ P H (cl.f f [] h) _ from e)))) hd)
/-! #### methods -/
theorem pe_methV {B : Tb} (ok : GOk G B) (hK : X.K = G.K ∧ X.w = G.w) {j k m : Nat} {ap : Pos} {pl : Sem Bool} (F : ∀ c f, B.m c m = some f → Fd G X cl k f) (tk : Takes X W) (hr : Room j X.A) (hk : k ≤ j) (ha : PE X a (rdE G W (A cl))) (hes : PA X (c :: es) (rdK G W (As cl)))
    (he : starEach (c :: es) X.env = (false, eval c X.env) :: starEach es X.env) (hp : (backTo pos (starEach es X.env)).any (·.1) = false)
    (ht : eval (.Call (.Attribute a (G.att m) ap) (c :: es) [] pos) X.env = (do
      let ov ← eval a X.env
      standAt ap.atName
      let (f, first) ← holding [ov] (getMethod ov (G.att m) pl)
      callWith pos f first (backTo pos (starEach (c :: es) X.env)) (backToKw pos (keywordEach [] X.env)))) : PE X (.Call (.Attribute a (G.att m) ap) (c :: es) [] pos) (rdE G W (exMeth B m A As cl)) := by
  refine ⟨fun pins s σ H Q I q => PySem.W.methodCall_KW (pl := pl) ?_ ht⟩
  obtain ⟨P, h, en, st, e⟩ := q
  refine thn (ha.run pins s σ H (fun v H1 => ∃ p n o P1 h1, v = .ref p ∧ P1.A[n]? = some p ∧ h1.get n = some o ∧ Ext P H P1 H1 ∧ SR G P1 H1 h1 ∧ ∃ k fs ds f, o = .ins k fs ds ∧ B.m k m = some f ∧
    ERes G W σ P1 H1 ((As cl en h1).bind fun ds h => cl.f f (.obj n :: ds) h) (fun d _ P' H' => ∀ v, RT G P' H' H d v → Q v H')) I ⟨P, h, en, st, (ERes.bind e).imp fun x h1 P1 H1 x1 s1 e1 v r => ?_⟩) fun u s1 hu => ?_
  · have e1 := ERes.re x1 e1
    obtain ⟨n, rfl⟩ : ∃ n, x = .obj n := by cases x <;> first | exact ⟨_, rfl⟩ | exact (show False from e1).elim
    obtain ⟨p, rfl, hp⟩ := r
    have e1 : ERes G W σ P1 H1 (match h1.get n with
      | some (.ins k _ _) => opt' (B.m k m) .stuck fun f => (As cl en h1).bind fun ds h => cl.f f (.obj n :: ds) h
      | _ => .stuck) (fun d _ P' H' => ∀ v, RT G P' H' H d v → Q v H') := e1
    cases q : h1.get n with
    | none => rw [q] at e1; exact (show False from e1).elim
    | some o =>
      rw [q] at e1
      obtain ⟨k, fs, ds, rfl⟩ : ∃ k fs ds, o = .ins k fs ds := by cases o <;> first | exact ⟨_, _, _, rfl⟩ | exact (show False from e1).elim
      have e1 : ERes G W σ P1 H1 (opt' (B.m k m) .stuck fun f => (As cl en h1).bind fun ds h => cl.f f (.obj n :: ds) h) (fun d _ P' H' => ∀ v, RT G P' H' H d v → Q v H') := e1
      cases q2 : B.m k m with
      | none => rw [q2] at e1; exact (show False from e1).elim
      | some f =>
        rw [q2] at e1
        exact ⟨p, n, _, P1, h1, rfl, hp, q, x1, s1, k, fs, ds, f, rfl, q2, e1⟩
  · obtain ⟨v, H1, I1, rv, p, n, o, P1, h1, rfl, hpn, ho, x1, s1', k, fs, ds, f, rfl, hm, e1⟩ := hu
    obtain rfl : u = Value.ref p := rv
    obtain ⟨dx, xs, q1, q2, q3, q4⟩ := s1'.at_ ho hpn
    obtain ⟨c1, c2⟩ := ok.meth k m f hm
    obtain ⟨fd, ps, F, bi, kp⟩ := (F k f hm).ex
    refine getmeth_ok I1 q1 (hK.1 ▸ c1) (hK.1 ▸ c2) (meth_none ok hm q2 q3) ?_
    refine PySem.W.callWith_K (first := [.ref p]) (h₀ := X.base) I1.ok.mod.kin kp (thn (hes.run pos pins s1 σ H1 (fun vs H2 => spF G (cl.f f) (.ref p :: vs) H2 Q (WE W σ)) I1 ⟨P1, h1, en, st.on x1 s1', e1.bind.imp fun ds h2 P2 H2 x2 s2 e2 vs r => ?_⟩) fun us s2 hh => ?_) he hp
    · have pn : P2.A[n]? = some p := x2.toWExt.at_ hpn
      exact spF_of (P := P1) (H := H1) s2 x2 (fun p z => x1.back (x2.back z)) (RL.cons (show R G P2 H2 (.obj n) (.ref p) from ⟨p, rfl, pn⟩) r) e2
    · obtain ⟨vs, H2, I2, r, q⟩ := hh
      exact ⟨I2.kIn, run_fnS (us := .ref p :: us) (vs := .ref p :: vs) F (hr.mono hk) bi (passAt tk σ) I2 (.cons rfl r) q⟩
end
end Pv
end
section
set_option Elab.async false
set_option linter.all false
set_option maxRecDepth 100000
set_option maxHeartbeats 4000000
set_option autoImplicit false
/-! new instances, methods without arguments, functions in names. -/
namespace Pv
open PySem L2 PySem.Spec PyProof.Rows PySem.W
section
variable {G : GC} {W : WX} {X : Cx} {pos : Pos} {a b c : Expr} {es : List Expr} {P P1 P2 : Pl} {H H0 H1 H2 : Hp} {d : D} {v u : V} {vs : List V} {h : Sh} {σ : L2.St} {cl : Cl} {A B C : EF} {T U : TF} {As Bs : AF}
theorem meth_rd {B : Tb} {m : Nat} {pins : List (Addr × Obj)} {s : Shared} {Q : VK} (ha : PE X a (rdE G W (A cl))) (I : Inv X pins σ H s) (q : rdE G W (exMeth B m A As cl) σ H Q) :
    wpAny (model X.prog X.w) X.A (eval a X.env) (fun u s1 => ∃ p H1 n P1 h1 en k fs ds f, u = .ref p ∧ Inv X pins σ H1 s1 ∧ Std G P1 h1 en σ H1 ∧ P1.A[n]? = some p ∧ h1.get n = some (.ins k fs ds) ∧ B.m k m = some f ∧ Ext P1 H1 P1 H1 ∧ (∀ p, H1 p = none → H p = none) ∧
      ERes G W σ P1 H1 ((As cl en h1).bind fun ds h => cl.f f (.obj n :: ds) h) (fun d _ P' H' => ∀ v, RT G P' H' H d v → Q v H')) X.xe s := by
  obtain ⟨P, h, en, st, e⟩ := q
  refine thn (ha.run pins s σ H (fun v H1 => ∃ p n P1 h1 k fs ds f, v = .ref p ∧ P1.A[n]? = some p ∧ h1.get n = some (.ins k fs ds) ∧ Ext P H P1 H1 ∧ SR G P1 H1 h1 ∧ B.m k m = some f ∧
    ERes G W σ P1 H1 ((As cl en h1).bind fun ds h => cl.f f (.obj n :: ds) h) (fun d _ P' H' => ∀ v, RT G P' H' H d v → Q v H')) I ⟨P, h, en, st, (ERes.bind e).imp fun x h1 P1 H1 x1 s1 e1 v r => ?_⟩) fun u s1 hu => ?_
  · have e1 := ERes.re x1 e1
    obtain ⟨n, rfl⟩ : ∃ n, x = .obj n := by cases x <;> first | exact ⟨_, rfl⟩ | exact (show False from e1).elim
    obtain ⟨p, rfl, hp⟩ := r
    have e1 : ERes G W σ P1 H1 (match h1.get n with
      | some (.ins k _ _) => opt' (B.m k m) .stuck fun f => (As cl en h1).bind fun ds h => cl.f f (.obj n :: ds) h
      | _ => .stuck) (fun d _ P' H' => ∀ v, RT G P' H' H d v → Q v H') := e1
    cases q : h1.get n with
    | none => rw [q] at e1; exact (show False from e1).elim
    | some o =>
      rw [q] at e1
      obtain ⟨k, fs, ds, rfl⟩ : ∃ k fs ds, o = .ins k fs ds := by cases o <;> first | exact ⟨_, _, _, rfl⟩ | exact (show False from e1).elim
      have e1 : ERes G W σ P1 H1 (opt' (B.m k m) .stuck fun f => (As cl en h1).bind fun ds h => cl.f f (.obj n :: ds) h) (fun d _ P' H' => ∀ v, RT G P' H' H d v → Q v H') := e1
      cases q2 : B.m k m with
      | none => rw [q2] at e1; exact (show False from e1).elim
      | some f =>
        rw [q2] at e1
        exact ⟨p, n, P1, h1, k, fs, ds, f, rfl, hp, q, x1, s1, q2, e1⟩
  · obtain ⟨v, H1, I1, rv, p, n, P1, h1, k, fs, ds, f, rfl, hpn, ho, x1, s1', hm, e1⟩ := hu
    exact ⟨p, H1, n, P1, h1, en, k, fs, ds, f, rv, I1, st.on x1 s1', hpn, ho, hm, Ext.refl, fun p => x1.back, e1⟩
theorem pe_methV0 {B : Tb} (ok : GOk G B) (hK : X.K = G.K ∧ X.w = G.w) {j k m : Nat} {ap : Pos} {pl : Sem Bool} (F : ∀ c f, B.m c m = some f → Fd G X cl k f) (tk : Takes X W) (hr : Room j X.A) (hk : k ≤ j) (ha : PE X a (rdE G W (A cl)))
    (ht : eval (.Call (.Attribute a (G.att m) ap) [] [] pos) X.env = (do
      let ov ← eval a X.env
      standAt ap.atName
      let (f, first) ← holding [ov] (getMethod ov (G.att m) pl)
      callWith pos f first (backTo pos (starEach [] X.env)) (backToKw pos (keywordEach [] X.env)))) : PE X (.Call (.Attribute a (G.att m) ap) [] [] pos) (rdE G W (exMeth B m A arNil cl)) := by
  refine ⟨fun pins s σ H Q I q => PySem.W.methodCall_KW (pl := pl) (thn (meth_rd ha I q) fun u s1 hu => ?_) ht⟩
  obtain ⟨p, H1, n, P1, h1, en, k, fs, ds, f, rfl, I1, st, hpn, ho, hm, _, w, e1⟩ := hu
  obtain ⟨dx, xs, q1, q2, q3, q4⟩ := st.s.at_ ho hpn
  obtain ⟨c1, c2⟩ := ok.meth k m f hm
  obtain ⟨fd, ps, F, bi, kp⟩ := (F k f hm).ex
  refine getmeth_ok I1 q1 (hK.1 ▸ c1) (hK.1 ▸ c2) (meth_none ok hm q2 q3) ?_
  exact PySem.W.callWith_K0 (first := [.ref p]) I1.kIn kp (run_fnS (us := [.ref p]) (vs := [.ref p]) F (hr.mono hk) bi (passAt tk σ) I1 (.cons rfl .nil) (spF_of st.s Ext.refl w (RL.cons (show R G P1 H1 (.obj n) (.ref p) from ⟨p, rfl, hpn⟩) RL.nil)
    (show ERes G W σ P1 H1 (cl.f f [.obj n] h1) _ from e1)))
/-! #### new instances -/
theorem new_ok (s : SR G P H h) {x dx : Addr} {k : Nat} (hx : H x = none) (hd : H dx = none) (ne : dx ≠ x) :
    Ext P H (P.own x) (upd (upd H dx (.own x)) x (.ins (G.F k) dx [])) ∧ SR G (P.own x) (upd (upd H dx (.own x)) x (.ins (G.F k) dx [])) (h.push (.ins k [] [])) ∧ (P.own x).A[h.n]? = some x := by
  have hx1 : (upd H dx (.own x)) x = none := by rw [upd_ne (Ne.symm ne)]; exact hx
  have s1 : SR G P (upd H dx (.own x)) h := s.new hd
  have s2 : SR G P (upd (upd H dx (.own x)) x (.ins (G.F k) dx [])) h := s1.new hx1
  have e2 : Ext P H P (upd (upd H dx (.own x)) x (.ins (G.F k) dx [])) := (Ext.new hd).trans (Ext.new hx1)
  refine ⟨e2.own hx, s2.own (o := .ins k [] []) (s.free hx) (s.freeZ hx) ⟨dx, [], upd_same, fun _ z => by simp at z, rfl, RL.nil⟩, ?_⟩
  show (P.A ++ [x])[h.n]? = _
  rw [← s.len, List.getElem?_append_right (Nat.le_refl _)]
  simp
theorem run_makeV {pins : List (Addr × Obj)} {s : Shared} {Q : VK} {us : List Value} {k kk f : Nat} {ds : List D} (M : Mk X.K (G.F kk) (G.F f)) (F : Fd G X cl k f) (tk : Takes X W) (hr : Room (k + 1) X.A) (I : Inv X pins σ H1 s) (r : Vals vs us) (st : SR G P1 H1 h) (rl : RL G P1 H1 ds vs) (w : ∀ p, H1 p = none → H p = none)
    (e : ERes G W σ P1 H1 ((cl.f f (.obj h.n :: ds) (h.push (.ins kk [] []))).bind fun d h' => match d with
      | .non => .ok (.obj h.n) h'
      | _ => .stuck) (fun d _ P' H' => ∀ v, RT G P' H' H d v → Q v H')) : wpAny (model X.prog X.w) X.A (call (.ref (G.F kk)) us) (EP X pins σ Q) X.xe s := by
  obtain ⟨fd, ps, F, bi, _⟩ := F.ex
  have I2 := Inv.made (C := G.F kk) I
  have nx : H1 (s.heap.objs.size + 1) = none := I.hok.fresh (Nat.le_succ _)
  have nd : H1 s.heap.objs.size = none := I.hok.fresh (Nat.le_refl _)
  obtain ⟨xx, s2, px⟩ := new_ok (k := kk) st nx nd (Nat.ne_of_lt (Nat.lt_succ_self _))
  have sp : spF G (cl.f f) (.ref (s.heap.objs.size + 1) :: vs) (upd (upd H1 s.heap.objs.size (.own (s.heap.objs.size + 1))) (s.heap.objs.size + 1) (.ins (G.F kk) s.heap.objs.size [])) (fun v H2 => v = .non ∧ Q (.ref (s.heap.objs.size + 1)) H2) (WE W σ) := by
    refine ⟨_, _, .obj h.n :: ds, s2, RL.cons (show R G _ _ (.obj h.n) (.ref (s.heap.objs.size + 1)) from ⟨_, rfl, px⟩) (RL.ext xx.toWExt _ _ rl), (ERes.re xx (ERes.chg (W' := EW (WE W σ)) (σ' := []) e.bind fun _ _ _ z => z)).imp fun d h' P' H' x' s' e' v r => ?_⟩
    cases d <;> first | exact (show False from e').elim | skip
    cases r
    exact ⟨rfl, e' P' H' (xx.trans x') s' (.ref (s.heap.objs.size + 1)) ⟨_, rfl, x'.toWExt.at_ px⟩⟩
  have rr : Vals (V.ref (s.heap.objs.size + 1) :: vs) (Value.ref (s.heap.objs.size + 1) :: us) := .cons rfl r
  have ll : (Value.ref (s.heap.objs.size + 1) :: us).length = ps.length := rr.length.symm.trans (F.len _ _ _ _ sp)
  have bd := bi { s with heap := (s.heap.push PySem.W.emptyDict).push (PySem.W.instObj (G.F kk) s.heap.objs.size) } (Value.ref (s.heap.objs.size + 1) :: us) I2.kIn (by rw [List.append_nil]; exact ll)
  rw [List.append_nil] at bd
  refine wpAny_call (make_map (f := G.F f) I.kIn M.makes M.init (beq_iff_eq.mp M.fn) (codeAny_mono (F.run _ X.stack _ _ ⟨Value.ref (s.heap.objs.size + 1) :: us, []⟩ (Value.ref (s.heap.objs.size + 1) :: us) _ _ (WE W σ) (hr.make (G.F kk) us []) (I2.env0.make (G.F kk) us []) bd rr sp) fun res s' after => ?_))
  cases res with
  | error e => exact passAt tk σ pins _ _ e s' I2 after
  | ok fl =>
    cases fl with
    | ret u =>
      obtain ⟨v, H', I3, rv, ev, q3⟩ := I2.after after
      subst ev
      exact ⟨rv, .ref (s.heap.objs.size + 1), H', I3, rfl, q3⟩
    | _ => exact False.elim after
theorem pe_makeV {j k kk f : Nat} {x : Str} {p : Pos} (M : Mk X.K (G.F kk) (G.F f)) (F : Fd G X cl k f) (tk : Takes X W) (hr : Room j X.A) (hk : k + 1 ≤ j) (hg : Gl X x) (hm : X.mg x = some (.ref (G.F kk))) (hd : (x == ("__debug__" : Str)) = false) (ha : PA X (a :: es) (rdK G W (As cl)))
    (he : starEach (a :: es) X.env = (false, eval a X.env) :: starEach es X.env) (hp : (backTo pos (starEach es X.env)).any (·.1) = false) : PE X (.Call (.Name x p) (a :: es) [] pos) (rdE G W (exMake kk f As cl)) := by
  refine ⟨fun pins s σ H Q I q => wpAny_Call_Name_kw (ld_glob I hg hm ?_ hd)⟩
  obtain ⟨P, h, en, st, e⟩ := q
  refine PySem.W.callWith_K (h₀ := X.base) I.ok.mod.kin M.kp (thn (ha.run pos pins s σ H (fun vs H1 => ∃ P1 h1 ds, SR G P1 H1 h1 ∧ RL G P1 H1 ds vs ∧ (∀ p, H1 p = none → H p = none) ∧ ERes G W σ P1 H1 ((cl.f f (.obj h1.n :: ds) (h1.push (.ins kk [] []))).bind fun d h' => match d with
      | .non => .ok (.obj h1.n) h'
      | _ => .stuck) (fun d _ P' H' => ∀ v, RT G P' H' H d v → Q v H')) I ⟨P, h, en, st, (ERes.bind e).imp fun ds h1 P1 H1 x1 s1 e1 vs r => ⟨P1, h1, ds, s1, r, fun p => x1.back, ERes.re x1 e1⟩⟩) fun us s1 hh => ?_) he hp
  obtain ⟨vs, H1, I1, rv, P1, h1, ds, s1', rl, w, e1⟩ := hh
  exact ⟨I1.kIn, run_makeV M F tk (hr.mono hk) I1 rv s1' rl w e1⟩
theorem pe_makeV0 {j k kk f : Nat} {x : Str} {p : Pos} (M : Mk X.K (G.F kk) (G.F f)) (F : Fd G X cl k f) (tk : Takes X W) (hr : Room j X.A) (hk : k + 1 ≤ j) (hg : Gl X x) (hm : X.mg x = some (.ref (G.F kk))) (hd : (x == ("__debug__" : Str)) = false) :
    PE X (.Call (.Name x p) [] [] pos) (rdE G W (exMake kk f arNil cl)) := by
  refine ⟨fun pins s σ H Q I q => wpAny_Call_Name_kw (ld_glob I hg hm ?_ hd)⟩
  obtain ⟨P, h, en, st, e⟩ := q
  exact PySem.W.callWith_K0 I.kIn M.kp (run_makeV (us := []) M F tk (hr.mono hk) I .nil st.s RL.nil (fun _ z => z) e)
end
end Pv
end
section
set_option Elab.async false
set_option linter.all false
set_option maxRecDepth 100000
set_option maxHeartbeats 4000000
set_option autoImplicit false
/-! targets and statements. -/
namespace Pv
open PySem L2 PySem.Spec PyProof.Rows PySem.W
section
variable {G : GC} {W : WX} {X : Cx} {pos : Pos} {a b c : Expr} {es : List Expr} {P P1 P2 : Pl} {H H0 H1 H2 : Hp} {d : D} {v u : V} {vs : List V} {h : Sh} {en : En} {σ : L2.St} {cl : Cl} {A B C : EF} {T U : TF} {As Bs : AF}
/-! #### targets -/
theorem name_ok {W : WX} {σ0 : L2.St} {K : En → Sh → Pl → Hp → Prop} {i : Nat} {keep : Bool} (s : SR G P1 H1 h) (rs : RS G P1 H1 en σ) (x : Ext P H P1 H1) (r : RT G P1 H1 H d v) (e : ERes G W σ0 P H (taName i keep cl d en h) K) :
    ∃ P2 en' h', Ext P H P2 H1 ∧ SR G P2 H1 h' ∧ RS G P2 H1 en' (σ.set i (some v)) ∧ K en' h' P2 H1 := by
  cases keep with
  | true =>
    have e : ERes G W σ0 P H (setK .stuck en i (some (own d h).1) fun en => .ok en (own d h).2) K := e
    rw [setK_eq] at e
    by_cases l : i < en.length
    · rw [if_pos l] at e
      obtain ⟨P2, x2, we, s2, r2⟩ := own_ok s x r
      exact ⟨P2, _, _, x2, s2, (rs.ext we).set i r2, e P2 H1 x2 s2⟩
    · rw [if_neg l] at e; exact e.elim
  | false =>
    have e : ERes G W σ0 P H (setK .stuck en i (some (fz d)) fun en => .ok en h) K := e
    rw [setK_eq] at e
    by_cases l : i < en.length
    · rw [if_pos l] at e
      obtain ⟨P2, x2, we, s2, r2⟩ := fz_ok s x r
      exact ⟨P2, _, _, x2, s2, (rs.ext we).set i r2, e P2 H1 x2 s2⟩
    · rw [if_neg l] at e; exact e.elim
theorem pg_nameV {i : Nat} {x : Str} {keep : Bool} (hN : X.N.Nodup) (hi : X.N[i]? = some x) (hx : Loc X.env.scope x) (hf : X.fn x = true ∨ X.env.scope.names.lookup x = some .local) : PG X (.Name x pos) (rdG G W (taName i keep cl) [i]) :=
  PG.imp (pg_name hN hi hx hf) fun v σ H Q q => by
    obtain ⟨P, h, en, d, st, r, e⟩ := q
    obtain ⟨P2, en', h', x2, s2, r2, k⟩ := name_ok st.s st.r Ext.refl (RT.of r.noTmp r) e
    exact k _ r2 (fun j hj => List.getElem?_set_ne (fun z => hj (by simp [z]))) (List.length_set ..)
theorem pgs_nilV : PGs X [] (rdGs G W (tsNil cl) []) := ⟨fun pins s σ H vs us Q I rv q => pgs_nil.run pins s σ H vs us Q I rv (by
  obtain ⟨P, h, en, ds, st, r, e⟩ := q
  cases ds with
  | nil => cases r; exact ⟨rfl, e P H Ext.refl st.s σ st.r (fun _ _ => rfl) rfl⟩
  | cons => exact e.elim)⟩
theorem rdG_mono {g : D → En → Sh → Rs En} {is js : List Nat} (h : ∀ i ∈ is, i ∈ js) {v : V} {Q : L2.St → Hp → Prop} (q : rdG G W g js v σ H Q) : rdG G W g is v σ H Q := by
  obtain ⟨P, hh, en, d, st, r, e⟩ := q
  exact ⟨P, hh, en, d, st, r, e.imp fun en' h' P' H' x s k σ' r' f l => k σ' r' (fun i hi => f i fun z => hi (h i z)) l⟩
theorem ERes.noX {α : Type} {W' : WX} {σ' : L2.St} {r : Rs α} {K : α → Sh → Pl → Hp → Prop} (e : ERes G W σ P H (noX r) K) : ERes G W' σ' P H r K := by
  cases r with
  | ok => exact e
  | exc => exact e.elim
  | stuck => exact e
theorem pgs_consV {g : GF} {gs : LF} {is js : List Nat} (h1 : PG X a (rdG G W (g cl) is)) (h2 : PGs X es (rdGs G W (gs cl) js)) (hs : (assignEach (a :: es) X.env).map (·.2) = assign a X.env :: (assignEach es X.env).map (·.2)) : PGs X (a :: es) (rdGs G W (tsCons g gs cl) (is ++ js)) :=
  ⟨fun pins s σ H vs us Q I rv q => (pgs_cons h1 h2 hs).run pins s σ H vs us Q I rv (by
    obtain ⟨P, h, en, ds, st, r, e⟩ := q
    cases ds with
    | nil => exact e.elim
    | cons d ds =>
      obtain ⟨v, vr, rfl, r1, r2⟩ := r.uncons
      have e : ERes G W σ P H ((g cl d en h).bind fun en h => Pv.noX (gs cl ds en h)) (fun en' _ P' H' => ∀ σ', RS G P' H' en' σ' → (∀ i, i ∉ is ++ js → σ'[i]? = σ[i]?) → σ'.length = σ.length → Q σ' H') := e
      refine ⟨v, vr, rfl, P, h, en, d, st, r1, e.bind.imp fun en1 h1 P1 H1 x1 s1 e1 σ1 rs1 f1 l1 => ⟨P1, h1, en1, ds, ⟨s1, rs1⟩, RL.ext x1.toWExt _ _ r2, ?_⟩⟩
      refine (ERes.re x1 (ERes.noX e1)).imp ?_
      intro en2 h2 P2 H2 x2 s2 k σ2 rs2 f2 l2
      exact k σ2 rs2 (fun i hi => (f2 i fun z => hi (List.mem_append_right _ z)).trans (f1 i fun z => hi (List.mem_append_left _ z))) (l2.trans l1))⟩
theorem pg_tupV (hK : X.K = G.K ∧ X.w = G.w) (hc : X.calm = true) {gs : LF} {k n : Nat} {is : List Nat} (hg : PGs X es (rdGs G W (gs cl) is)) (hn : (assignEach es X.env).length = n) (hst : (assignEach es X.env).findIdx? (·.1) = none) : PG X (.Tuple es k pos) (rdG G W (taTup n gs cl) is) :=
  PG.imp (pg_tup hc hg hn hst) fun v σ H Q q => by
    obtain ⟨P, h, en, d, st, r, e⟩ := q
    cases d <;> first | exact e.elim | skip
    rename_i ds
    obtain ⟨a, xs, rfl, ha, rl⟩ := r
    have e : ERes G W σ P H (bif' (Nat.beq (lenK ds) n) (gs cl ds en h) .stuck) (fun en' _ P' H' => ∀ σ', RS G P' H' en' σ' → (∀ i, i ∉ is → σ'[i]? = σ[i]?) → σ'.length = σ.length → Q σ' H') := e
    cases q : Nat.beq (lenK ds) n with
    | false => rw [q] at e; exact e.elim
    | true =>
      rw [q] at e
      have l := Nat.eq_of_beq_eq_true q
      rw [lenK_eq] at l
      exact ⟨a, xs, rfl, .inl (Rd.of ha), rl.length.trans l, P, h, en, ds, st, rl, e⟩
theorem pg_subV (hK : X.K = G.K ∧ X.w = G.w) (hu : X.A.units + 64 < cLine) (ho : PE X a (rdE G W (A cl))) (hi : PE X b (rdE G W (B cl)))
    (ha : ∀ v, assign (.Subscript a b pos) X.env v = (do
      let ov ← holding [v] (eval a X.env)
      let iv ← holding [v, ov] (eval b X.env)
      standAt pos
      holding [v, ov, iv] (setItem ov iv v)
      release [v, ov, iv] [])) : PG X (.Subscript a b pos) (rdG G W (taSub A B cl) []) :=
  PG.imp (pg_sub ho hi (set_V hK hu) ha) fun v σ H Q q => by
    obtain ⟨P, h, en, d, st, r, e⟩ := q
    have nt := r.noTmp
    have e : ERes G W σ P H (bif' (isTmp d) .stuck ((A cl en h).bind fun x h => (B cl en h).bind fun y h => opt' (setItD h x y d) .stuck fun h => .ok en h)) (fun en' _ P' H' => ∀ σ', RS G P' H' en' σ' → (∀ i, i ∉ [] → σ'[i]? = σ[i]?) → σ'.length = σ.length → Q σ' H') := e
    rw [nt] at e
    have e : ERes G W σ P H ((A cl en h).bind fun x h => (B cl en h).bind fun y h => opt' (setItD h x y d) .stuck fun h => .ok en h) (fun en' _ P' H' => ∀ σ', RS G P' H' en' σ' → (∀ i, i ∉ [] → σ'[i]? = σ[i]?) → σ'.length = σ.length → Q σ' H') := e
    refine ⟨P, h, en, st, e.bind.imp fun x h1 P1 H1 x1 s1 e1 o ro => ⟨P1, h1, en, st.on x1 s1, (ERes.re x1 e1.bind).imp fun y h2 P2 H2 x2 s2 e2 i ri => ?_⟩⟩
    cases k : setItD h2 x y d with
    | none => rw [k] at e2; exact e2.elim
    | some h' =>
      rw [k] at e2
      exact ⟨P2, h2, H, x, y, d, h', (x1.trans x2).up, s2, ro.ext x2, ri.weak (fun p => x1.back), r.ext (x1.trans x2).toWExt, k, fun P' H' y' s' => e2 P' H' ((x1.trans x2).low y') s' σ (st.r.ext ((x1.trans x2).low y').toWExt) (fun _ _ => rfl) rfl⟩
end
end Pv
end
section
set_option Elab.async false
set_option linter.all false
set_option maxRecDepth 100000
set_option maxHeartbeats 4000000
set_option autoImplicit false
/-! fields as targets; statements. -/
namespace Pv
open PySem L2 PySem.Spec PyProof.Rows PySem.W
section
variable {G : GC} {W : WX} {X : Cx} {pos : Pos} {a b c : Expr} {es : List Expr} {P P1 P2 : Pl} {H H0 H1 H2 : Hp} {d : D} {v u : V} {vs : List V} {h : Sh} {en : En} {σ : L2.St} {cl : Cl} {A B C : EF} {T U : TF} {As Bs : AF}
/-- o.f = d, done -/
theorem setFld_ok {Bt : Tb} (ok : GOk G Bt) {x : D} {f : Nat} {h' : Sh} {o : V} (s : SR G P H h) (rx : RT G P H H0 x o) (rd : R G P H d v) (e : setFldD Bt h x f d = some h') :
    ∃ p C dx fs, o = .ref p ∧ H p = some (.ins C dx fs) ∧ Cls G.K C ∧ NoAttr G.K C (G.att f) ∧ fs.length < 1000 ∧ Ext P H P (upd H p (.ins C dx (putF (G.att f) v fs))) ∧ SR G P (upd H p (.ins C dx (putF (G.att f) v fs))) h' := by
  obtain ⟨n, rfl⟩ : ∃ n, x = .obj n := by cases x <;> first | exact ⟨_, rfl⟩ | cases e
  obtain ⟨p, rfl, hp⟩ := rx
  have e : (match h.get n with
    | some (.ins k fs ds) => bif' (Bt.a k f && Nat.blt (lenK fs) 1000) (some (h.set n (.ins k (putFd f d fs ds).1 (putFd f d fs ds).2))) none
    | _ => none) = some h' := e
  cases q : h.get n with
  | none => rw [q] at e; cases e
  | some ob =>
    rw [q] at e
    obtain ⟨k, fs, ds, rfl⟩ : ∃ k fs ds, ob = .ins k fs ds := by cases ob <;> first | exact ⟨_, _, _, rfl⟩ | cases e
    obtain ⟨e1, e2⟩ := bif_some (show bif' (Bt.a k f && Nat.blt (lenK fs) 1000) (some (h.set n (.ins k (putFd f d fs ds).1 (putFd f d fs ds).2))) none = some h' from e)
    obtain ⟨e3, e4⟩ := and_t e1
    cases e2
    have e4 := blt_t e4
    rw [lenK_eq] at e4
    have ga : G.a k f = true := by rw [ok.ga]; exact e3
    obtain ⟨c1, c2⟩ := ok.cls k f ga
    obtain ⟨dx, xs, q1, q2, q3, q4⟩ := s.at_ q hp
    obtain ⟨p1, p2, p3⟩ := putF_ok ok ga rd q2 q3 q4
    have ll : xs.length < 1000 := by
      have := congrArg List.length q3
      rw [List.length_map, List.length_map] at this
      omega
    obtain ⟨ex, s3⟩ := s.write (u := .ins (G.F k) dx (putF (G.att f) v xs)) (o := .ins k (putFd f d fs ds).1 (putFd f d fs ds).2) hp q1 ⟨(fun _ z => by cases z), (fun _ z => by cases z), (fun _ z => by cases z)⟩ (fun _ _ z => by cases z) fun x => ⟨dx, _, upd_same, p1, p2, RL.ext x _ _ p3⟩
    exact ⟨p, _, dx, xs, rfl, q1, c1, c2, ll, ex, s3⟩
theorem pg_fldV {Bt : Tb} (ok : GOk G Bt) (hK : X.K = G.K ∧ X.w = G.w) {f : Nat} (ha : PE X a (rdE G W (A cl))) : PG X (.Attribute a (G.att f) pos) (rdG G W (taFld Bt A f cl) []) := by
  refine ⟨fun pins s σ H v w Q I rv q => ?_⟩
  obtain ⟨P, h, en, d, st, r, e⟩ := q
  have nt := r.noTmp
  have e : ERes G W σ P H (bif' (isTmp d) .stuck ((A cl en h).bind fun x h => opt' (setFldD Bt h x f d) .stuck fun h => .ok en h)) (fun en' _ P' H' => ∀ σ', RS G P' H' en' σ' → (∀ i, i ∉ [] → σ'[i]? = σ[i]?) → σ'.length = σ.length → Q σ' H') := e
  rw [nt] at e
  have e : ERes G W σ P H ((A cl en h).bind fun x h => opt' (setFldD Bt h x f d) .stuck fun h => .ok en h) (fun en' _ P' H' => ∀ σ', RS G P' H' en' σ' → (∀ i, i ∉ [] → σ'[i]? = σ[i]?) → σ'.length = σ.length → Q σ' H') := e
  rw [assign_Attribute]
  refine wpAny_bind (wpAny_holding (thn (ha.run pins s σ H (fun o H1 => ∃ p C dx fs, o = .ref p ∧ H1 p = some (.ins C dx fs) ∧ Cls G.K C ∧ NoAttr G.K C (G.att f) ∧ fs.length < 1000 ∧ Q σ (upd H1 p (.ins C dx (putF (G.att f) v fs)))) I ⟨P, h, en, st, e.bind.imp fun x h1 P1 H1 x1 s1 e1 o ro => ?_⟩) fun ov s1 hu => ?_))
  · cases k : setFldD Bt h1 x f d with
    | none => rw [k] at e1; exact e1.elim
    | some h' =>
      rw [k] at e1
      obtain ⟨p, C, dx, fs, eo, q1, c1, c2, l, ex, s3⟩ := setFld_ok ok s1 ro (r.ext x1.toWExt) k
      exact ⟨p, C, dx, fs, eo, q1, c1, c2, l, e1 P1 _ (x1.trans ex) s3 σ (st.r.ext (x1.trans ex).toWExt) (fun _ _ => rfl) rfl⟩
  · obtain ⟨o, H1, I1, ro, p, C, dx, fs, rfl, q1, c1, c2, l, q⟩ := hu
    obtain rfl : ov = Value.ref p := ro
    refine wpAny_bind (wpAny_standAt (wpAny_bind (wpAny_holding (setattr_ok I1 q1 (hK.1 ▸ c1) (hK.1 ▸ c2) l rv fun s3 I3 => ?_))))
    exact wpAny_release ⟨σ, _, I3, q⟩
end
end Pv
end
section
set_option Elab.async false
set_option linter.all false
set_option maxRecDepth 100000
set_option maxHeartbeats 4000000
set_option autoImplicit false
/-! statements. -/
namespace Pv
open PySem L2 PySem.Spec PyProof.Rows PySem.W
section
variable {G : GC} {W : WX} {X : Cx} {pos : Pos} {a b c : Expr} {es : List Expr} {P P1 P2 : Pl} {H H0 H1 H2 : Hp} {d : D} {v u : V} {vs : List V} {h : Sh} {en : En} {σ : L2.St} {cl : Cl} {A B C : EF} {T U : TF} {As Bs : AF} {S1 S2 : SF} {st1 : Stmt} {sts : List Stmt}
theorem pss_nilV : PSs X [] (rdS G W (suNx cl)) := PSs.imp pss_nil fun E σ H q => by
  obtain ⟨P, h, en, st, e⟩ := q
  exact e P H σ Ext.refl st.s st.r
theorem pss_consV (h1 : PS X st1 (rdS G W (S1 cl))) (h2 : PSs X sts (rdS G W (S2 cl))) : PSs X (st1 :: sts) (rdS G W (suSeq S1 S2 cl)) :=
  PSs.imp (pss_cons h1 h2) fun E σ H q => by
    obtain ⟨P, h, en, st, e⟩ := q
    have e : SRes G W E P H (Rst.rec (motive := fun _ => Rst) (fun en h => S2 cl en h) .rt .bk .ct .exc .stuck (S1 cl en h)) := e
    refine ⟨P, h, en, st, ?_⟩
    cases k : S1 cl en h with
    | nx en1 h1 => rw [k] at e; exact fun P' H' σ' x s r => ⟨P', h1, en1, ⟨s, r⟩, SRes.re x e⟩
    | rt d h1 => rw [k] at e; exact e
    | bk en1 h1 => rw [k] at e; exact e
    | ct en1 h1 => rw [k] at e; exact e
    | exc c en1 h1 => rw [k] at e; exact e
    | stuck => rw [k] at e; exact e
theorem ps_exprV (ha : PE X a (rdE G W (A cl))) (hs : swapsWith a none pos.line X.env = pure false) : PS X (.Expr a pos) (rdS G W (suExpr A cl)) :=
  PS.imp (ps_expr ha hs) fun E σ H q => by
    obtain ⟨P, h, en, st, e⟩ := q
    exact ⟨P, h, en, st, (ERes.thn (σ := σ) e fun P' H' x => st.r.ext x.toWExt).imp fun d h1 P1 H1 x1 s1 e1 v r => e1 P1 H1 σ x1 s1 (st.r.ext x1.toWExt)⟩
theorem ps_retV (ha : PE X a (rdE G W (A cl))) : PS X (.Return (some a) pos) (rdS G W (suRet A cl)) :=
  PS.imp (ps_ret ha) fun E σ H q => by
    obtain ⟨P, h, en, st, e⟩ := q
    exact ⟨P, h, en, st, (ERes.thn (σ := σ) e fun P' H' x => st.r.ext x.toWExt).imp fun d h1 P1 H1 x1 s1 e1 v r => e1 P1 H1 v x1 s1 r⟩
theorem ps_retNV : PS X (.Return none pos) (rdS G W (fun _ h => .rt .non h)) :=
  PS.imp ps_retN fun E σ H q => by
    obtain ⟨P, h, en, st, e⟩ := q
    exact e P H .non Ext.refl st.s rfl
theorem ps_passV : PS X (.Pass pos) (rdS G W (suNx cl)) := PS.imp ps_pass fun E σ H q => by
  obtain ⟨P, h, en, st, e⟩ := q
  exact e P H σ Ext.refl st.s st.r
theorem ps_docV {x : Str} {j} {p2 : Pos} : PS X (.Expr (.Constant (.str x) j pos) p2) (rdS G W (suNx cl)) := PS.imp ps_doc fun E σ H q => by
  obtain ⟨P, h, en, st, e⟩ := q
  exact e P H σ Ext.refl st.s st.r
theorem ps_brkV : PS X (.Break pos) (rdS G W (fun en h => .bk en h)) := PS.imp ps_break fun E σ H q => by
  obtain ⟨P, h, en, st, e⟩ := q
  exact e P H σ Ext.refl st.s st.r
theorem ps_contV : PS X (.Continue pos) (rdS G W (fun en h => .ct en h)) := PS.imp ps_continue fun E σ H q => by
  obtain ⟨P, h, en, st, e⟩ := q
  exact e P H σ Ext.refl st.s st.r
theorem ps_ifV {s1 s2 : List Stmt} (hc : PT X c (rdT G W (T cl))) (ha : PSs X s1 (rdS G W (S1 cl))) (hb : PSs X s2 (rdS G W (S2 cl))) : PS X (.If c s1 s2 pos) (rdS G W (suIf T S1 S2 cl)) :=
  PS.imp (ps_if hc ha hb) fun E σ H q => by
    obtain ⟨P, h, en, st, e⟩ := q
    refine ⟨P, h, en, st, (ERes.thn (σ := σ) e fun P' H' x => st.r.ext x.toWExt).imp fun k h1 P1 H1 x1 s1 e1 => ?_⟩
    have e1 := SRes.re x1 e1
    cases k with
    | true =>
      show ite _ _ _
      rw [if_pos rfl]
      exact ⟨P1, h1, en, st.on x1 s1, e1⟩
    | false =>
      show ite _ _ _
      rw [if_neg (by simp)]
      exact ⟨P1, h1, en, st.on x1 s1, e1⟩
/-- name = value: the new value as it is -/
theorem setName_rd {i : Nat} {keep : Bool} {E : Ends} (q : rdS G W (suAsg true (taName i keep) A cl) E σ H) : tAsg (rdE G W (A cl)) (gName i) E σ H := by
  obtain ⟨P, h, en, st, e⟩ := q
  have e : SRes G W E P H ((A cl en h).thn en fun d h => ((taName i keep cl d en h).thn en fun en h => .nx en h)) := e
  refine ⟨P, h, en, st, (ERes.thn (σ := σ) e fun P' H' x => st.r.ext x.toWExt).imp fun d h1 P1 H1 x1 s1 e1 v r => ?_⟩
  have e1 := ERes.thn (σ := σ) e1 fun P' H' x => st.r.ext x.toWExt
  obtain ⟨P2, en', h', x2, s2, r2, k⟩ := name_ok s1 (st.r.ext x1.toWExt) x1 r e1
  exact k P2 H1 _ x2 s2 r2
theorem ps_setV {i : Nat} {x : Str} {keep : Bool} {p2 : Pos} (hN : X.N.Nodup) (hi : X.N[i]? = some x) (hx : Loc X.env.scope x) (ha : PE X a (rdE G W (A cl))) (hs : swapsWith a (some (.Name x p2)) pos.line X.env = pure false) (hf : X.fn x = true ∨ X.env.scope.names.lookup x = some .local) :
    PS X (.Assign [.Name x p2] a pos) (rdS G W (suAsg true (taName i keep) A cl)) :=
  PS.imp (ps_set hN hi hx ha hs hf) fun E σ H q => setName_rd q
/-- target = value: the value is ours ahead of it -/
theorem ps_asgV {tg : Expr} {g : GF} {is : List Nat} (ha : PE X a (rdE G W (A cl))) (hg : PG X tg (rdG G W (g cl) is)) (hs : swapsWithSole [tg] a pos.line X.env = pure false) (hw : swappedStores [tg] a X.env = pure none) (h1 : (assignEach [tg] X.env).map (·.2) = [assign tg X.env]) :
    PS X (.Assign [tg] a pos) (rdS G W (suAsg false g A cl)) :=
  PS.imp (ps_asg ha hg hs hw h1) fun E σ H q => by
    obtain ⟨P, h, en, st, e⟩ := q
    have e : SRes G W E P H ((A cl en h).thn en fun d h => ((g cl (own d h).1 en (own d h).2).thn en fun en h => .nx en h)) := e
    refine ⟨P, h, en, st, (ERes.thn (σ := σ) e fun P' H' x => st.r.ext x.toWExt).imp fun d h1 P1 H1 x1 s1 e1 v r => ?_⟩
    have e1 := ERes.thn (σ := σ) e1 fun P' H' x => st.r.ext x.toWExt
    obtain ⟨P2, x2, we, s2, r2⟩ := own_ok s1 x1 r
    exact ⟨P2, (own d h1).2, en, _, st.on x2 s2, r2, (ERes.re x2 e1).imp fun en' h' P' H' x' s' k σ' r' f l => k P' H' σ' (x2.trans x') s' r'⟩
/-! #### in place -/
def AugOp (o : Bop) : Prop := o = .add ∨ o = .sub
def rAug (o : Bop) : TIp := fun x y H Q => ∃ a b k, x = .int a ∧ y = .int b ∧ augI o a b = some k ∧ Q (.int k) H
theorem ip_aug {o : Bop} (ho : AugOp o) : PIp X (opOf o) (rAug o) := by
  rcases ho with rfl | rfl
  · intro pins s σ H x y v u Q I rx ry q
    obtain ⟨a, b, k, rfl, rfl, e, q⟩ := q
    have e : some (addK a b) = some k := e
    rw [addK_eq] at e
    cases e
    exact ip_add pins s σ H _ _ v u Q I rx ry ⟨a, b, rfl, rfl, q⟩
  · intro pins s σ H x y v u Q I rx ry q
    obtain ⟨a, b, k, rfl, rfl, e, q⟩ := q
    have e : some (a - b) = some k := e
    cases e
    exact ip_sub pins s σ H _ _ v u Q I rx ry ⟨a, b, rfl, rfl, q⟩
theorem augR_ok {o : Bop} {x y : D} {k : Int} (e : augR o x y = some k) : ∃ a b, x = .int a ∧ y = .int b ∧ augI o a b = some k := by
  cases x <;> first | (cases e; done) | skip
  cases y <;> first | (cases e; done) | skip
  exact ⟨_, _, rfl, rfl, e⟩
theorem ps_augV {i : Nat} {x : Str} {o : Bop} {p2 : Pos} (oo : AugOp o) (hN : X.N.Nodup) (hi : X.N[i]? = some x) (hx : Loc X.env.scope x) (ha : PE X a (rdE G W (A cl))) (hf : X.fn x = true ∨ X.env.scope.names.lookup x = some .local) :
    PS X (.AugAssign (.Name x p2) (opOf o) a pos) (rdS G W (suAug i o A cl)) :=
  PS.imp (ps_aug hN hi hx ha (ip_aug oo) hf) fun E σ H q => by
    obtain ⟨P, h, en, st, e⟩ := q
    have e : SRes G W E P H (opt' (nthK en i) .stuck fun q => opt' q .stuck fun x => (A cl en h).thn en fun y h => opt' (augR o x y) .stuck fun k => frI k fun k => setK .stuck en i (some (.int k)) fun en => .nx en h) := e
    cases k1 : nthK en i with
    | none => rw [k1] at e; exact e.elim
    | some q =>
      rw [k1] at e
      cases q with
      | none => exact e.elim
      | some x0 =>
        rw [nthK_eq] at k1
        obtain ⟨v, hs, r⟩ := st.r.at_ i x0 k1
        have e : SRes G W E P H ((A cl en h).thn en fun y h => opt' (augR o x0 y) .stuck fun k => frI k fun k => setK .stuck en i (some (.int k)) fun en => .nx en h) := e
        refine ⟨v, hs, P, h, en, st, (ERes.thn (σ := σ) e fun P' H' x => st.r.ext x.toWExt).imp fun y h1 P1 H1 x1 s1 e1 u ru => ?_⟩
        cases k2 : augR o x0 y with
        | none => rw [k2] at e1; exact e1.elim
        | some k =>
          rw [k2] at e1
          have e1 : SRes G W E P H (frI k fun k => setK .stuck en i (some (.int k)) fun en => .nx en h1) := e1
          rw [frI_eq, setK_eq, if_pos (List.getElem?_eq_some_iff.mp k1).1] at e1
          obtain ⟨a, b, rfl, rfl, e2⟩ := augR_ok k2
          cases r
          cases ru
          exact ⟨a, b, k, rfl, rfl, e2, e1 P1 H1 _ x1 s1 ((st.r.ext x1.toWExt).set i (show R G P1 H1 (.int k) (.int k) from rfl))⟩
/-! #### a, b = x, y with names -/
theorem PAimp {R : En → Sh → Rs (List D)} {Q Q' : List V → Hp → Prop} (q : rdA G W R σ H Q) (f : ∀ vs H, Q vs H → Q' vs H) : rdA G W R σ H Q' := by
  obtain ⟨P, h, en, st, e⟩ := q
  exact ⟨P, h, en, st, e.imp fun ds h1 P1 H1 x1 s1 e1 vs r => f _ _ (e1 vs r)⟩
theorem par_rd {is : List Nat} {E : Ends} (q : rdS G W (suPar is As cl) E σ H) : rdA G W (As cl) σ H fun vs H1 => ∃ P1 h1 en1 ds en2, SR G P1 H1 h1 ∧ RS G P1 H1 en1 σ ∧ RL G P1 H1 ds vs ∧ setAll en1 is ds = some en2 ∧ ∀ σ', RS G P1 H1 en2 σ' → E.nx σ' H1 := by
  obtain ⟨P, h, en, st, e⟩ := q
  refine ⟨P, h, en, st, (ERes.thn (σ := σ) e fun P' H' x => st.r.ext x.toWExt).imp fun ds h1 P1 H1 x1 s1 e1 vs r => ?_⟩
  have e1 : SRes G W E P H (bif' (noTmps ds) (opt' (setAll en is ds) .stuck fun en => frL en fun en => .nx en h1) .stuck) := e1
  cases k : noTmps ds with
  | false => rw [k] at e1; exact e1.elim
  | true =>
    rw [k] at e1
    have e1 : SRes G W E P H (opt' (setAll en is ds) .stuck fun en => frL en fun en => .nx en h1) := e1
    cases k2 : setAll en is ds with
    | none => rw [k2] at e1; exact e1.elim
    | some en2 =>
      rw [k2] at e1
      have e1 : SRes G W E P H (frL en2 fun en => .nx en h1) := e1
      rw [frL_eq] at e1
      exact ⟨P1, h1, en, ds, en2, s1, st.r.ext x1.toWExt, r.rl k, k2, fun σ' r' => e1 P1 H1 σ' x1 s1 r'⟩
theorem ps_par2V {i j : Nat} {x y : Str} {px py pt : Pos} {kt k2 : Nat} {pt2 : Pos} (hc : X.calm = true) (hN : X.N.Nodup) (hi : X.N[i]? = some x) (hj : X.N[j]? = some y) (hij : i ≠ j) (hx : X.env.scope.names.lookup x = some .local) (hy : X.env.scope.names.lookup y = some .local)
    (ha : PA X [a, b] (rdA G W (As cl))) (hw : swappedStores [.Tuple [.Name x px, .Name y py] kt pt] (.Tuple [a, b] k2 pt2) X.env = pure (some [x, y])) (hs : swapsWithSole [.Tuple [.Name x px, .Name y py] kt pt] (.Tuple [a, b] k2 pt2) pos.line X.env = pure false) :
    PS X (.Assign [.Tuple [.Name x px, .Name y py] kt pt] (.Tuple [a, b] k2 pt2) pos) (rdS G W (suPar [i, j] As cl)) :=
  PS.imp (ps_par hc hN hi hj hij hx hy ha hw hs) fun E σ H q => PAimp (par_rd q) fun vs H1 z => by
    obtain ⟨P1, h1, en1, ds, en2, s1, rs, rl, e, f⟩ := z
    obtain ⟨d1, d2, rfl⟩ : ∃ d1 d2, ds = [d1, d2] := by
      cases ds with
      | nil => cases e
      | cons d1 ds => cases ds with
        | nil => cases e
        | cons d2 ds => cases ds with
          | nil => exact ⟨_, _, rfl⟩
          | cons => cases e
    obtain ⟨v, vr, rfl, r1, rl⟩ := rl.uncons
    obtain ⟨w, vr, rfl, r2, rl⟩ := rl.uncons
    cases rl
    cases e
    exact ⟨v, w, rfl, f _ ((rs.set i r1).set j r2)⟩
theorem ps_par3V {i j l : Nat} {x y z : Str} {px py pz pt : Pos} {kt k2 : Nat} {pt2 : Pos} (hc : X.calm = true) (hN : X.N.Nodup) (hi : X.N[i]? = some x) (hj : X.N[j]? = some y) (hl : X.N[l]? = some z) (hij : i ≠ j) (hil : i ≠ l) (hjl : j ≠ l)
    (hx : X.env.scope.names.lookup x = some .local) (hy : X.env.scope.names.lookup y = some .local) (hz : X.env.scope.names.lookup z = some .local) (ha : PA X [a, b, c] (rdA G W (As cl)))
    (hw : swappedStores [.Tuple [.Name x px, .Name y py, .Name z pz] kt pt] (.Tuple [a, b, c] k2 pt2) X.env = pure (some [x, y, z])) (hs : swapsWithSole [.Tuple [.Name x px, .Name y py, .Name z pz] kt pt] (.Tuple [a, b, c] k2 pt2) pos.line X.env = pure false) :
    PS X (.Assign [.Tuple [.Name x px, .Name y py, .Name z pz] kt pt] (.Tuple [a, b, c] k2 pt2) pos) (rdS G W (suPar [i, j, l] As cl)) :=
  PS.imp (ps_par3 hc hN hi hj hl hij hil hjl hx hy hz ha hw hs) fun E σ H q => PAimp (par_rd q) fun vs H1 z => by
    obtain ⟨P1, h1, en1, ds, en2, s1, rs, rl, e, f⟩ := z
    obtain ⟨d1, d2, d3, rfl⟩ : ∃ d1 d2 d3, ds = [d1, d2, d3] := by
      cases ds with
      | nil => cases e
      | cons d1 ds => cases ds with
        | nil => cases e
        | cons d2 ds => cases ds with
          | nil => cases e
          | cons d3 ds => cases ds with
            | nil => exact ⟨_, _, _, rfl⟩
            | cons => cases e
    obtain ⟨v, vr, rfl, r1, rl⟩ := rl.uncons
    obtain ⟨w, vr, rfl, r2, rl⟩ := rl.uncons
    obtain ⟨u, vr, rfl, r3, rl⟩ := rl.uncons
    cases rl
    cases e
    exact ⟨v, w, u, rfl, f _ (((rs.set i r1).set j r2).set l r3)⟩
end
end Pv
end
section
set_option Elab.async false
set_option linter.all false
set_option maxRecDepth 100000
set_option maxHeartbeats 4000000
set_option autoImplicit false
/-! functions in names; closures. -/
namespace Pv
open PySem L2 PySem.Spec PyProof.Rows PySem.W
/-! #### captured cells, hidden while the closure runs -/
/-- without the cells at cs -/
def hide (cs : List Addr) (H : Hp) : Hp := fun a => if a ∈ cs then none else H a
/-- the cells at cs stand again as they stood in H0 -/
def back (cs : List Addr) (H0 H : Hp) : Hp := fun a => if a ∈ cs then H0 a else H a
section
variable {P : Program} {w : World} {H H1 : Hp} {h h1 : Heap} {cs : List Addr}
def Cells (cs : List Addr) (H : Hp) : Prop := ∀ c ∈ cs, ∃ o, H c = some (.frz o (.own c))
theorem hide_in {a : Addr} (m : a ∈ cs) : hide cs H a = none := if_pos m
theorem hide_out {a : Addr} (m : a ∉ cs) : hide cs H a = H a := if_neg m
theorem hide_some {a : Addr} {o : HO} (e : hide cs H a = some o) : a ∉ cs ∧ H a = some o := by
  unfold hide at e
  by_cases m : a ∈ cs
  · rw [if_pos m] at e; cases e
  · rw [if_neg m] at e; exact ⟨m, e⟩
theorem back_in {a : Addr} (m : a ∈ cs) : back cs H H1 a = H a := if_pos m
theorem back_out {a : Addr} (m : a ∉ cs) : back cs H H1 a = H1 a := if_neg m
theorem Cells.out (cc : Cells cs H) {a : Addr} {o : HO} (e : H a = some o) (n : ∀ o' u, o ≠ .frz o' u) : a ∉ cs := fun m => by
  obtain ⟨o', q⟩ := cc a m
  rw [e] at q
  cases q
  exact n _ _ rfl
theorem hide_ok (cc : Cells cs H) (x : HOk P w H h) : HOk P w (hide cs H) h := fun a o e =>
  (x a o (hide_some e).2).stay (fun _ _ _ q => q) (fun b q => (hide_out (cc.out q fun _ _ z => by cases z)).trans q) fun b xs q => (hide_out (cc.out q fun _ _ z => by cases z)).trans q
theorem hide_env {K : PySem.W.Frag} {mg : Str → Option Value} {base : Heap} {A : Around} {outer : List Env} {s : Shared} (cc : Cells cs H) (e : Env0 P w K mg base A outer s H) : Env0 P w K mg base A outer s (hide cs H) :=
  ⟨e.frames, e.mod, fun b o q => ⟨(e.bs b o q).1, by
    by_cases m : b ∈ cs
    · exact hide_in m
    · exact (hide_out m).trans (e.bs b o q).2⟩, e.bsz, e.funs, fun b m => by
    by_cases z : b ∈ cs
    · exact hide_in z
    · exact (hide_out z).trans (e.frf b m), hide_ok cc e.hok, e.bare⟩
/-- the cells again, behind the run -/
theorem back_ok {fs : List Addr} (cc : Cells cs H) (nf : ∀ b ∈ fs, H b = none) (x : HOk P w H h) (u : Un fs [] (hide cs H) H1 h h1) (y : HOk P w H1 h1) : HOk P w (back cs H H1) h1 ∧ Un fs [] H (back cs H H1) h h1 := by
  have cell : ∀ c, c ∈ cs → ∃ o, H c = some (.frz o (.own c)) ∧ h1.get? c = some o ∧ H1 c = none := fun c m => by
    obtain ⟨o, q⟩ := cc c m
    have z := (x c _ q).1
    exact ⟨o, q, u.keep c o z (hide_in m) (fun m2 => by rw [nf c m2] at q; cases q) (by simp), u.free c o z (hide_in m) (by simp)⟩
  have out : ∀ b o, H1 b = some o → back cs H H1 b = some o := fun b o e => by
    rw [back_out fun m => by obtain ⟨_, _, _, n⟩ := cell b m; rw [e] at n; cases n]
    exact e
  refine ⟨fun a o e => ?_, fun b o e n k1 k2 => ?_, fun b o e n k1 k2 => ?_, fun b o e n k => ?_, fun b o e k => u.there b o e k, fun b xs e => ?_, fun b o v e => ?_, fun b ps e => ?_⟩
  · by_cases m : a ∈ cs
    · obtain ⟨o', q, g, _⟩ := cell a m
      rw [back_in m, q] at e
      cases e
      exact ⟨g, ⟨o', g⟩⟩
    · rw [back_out m] at e
      exact (y a o e).stay (fun _ _ _ q => q) (fun b => out b _) fun b xs => out b _
  · exact u.keep b o e (by by_cases m : b ∈ cs; exact hide_in m; exact (hide_out m).trans n) k1 k2
  · exact u.slot b o e (by by_cases m : b ∈ cs; exact hide_in m; exact (hide_out m).trans n) k1 k2
  · by_cases m : b ∈ cs
    · exact (back_in m).trans n
    · exact (back_out m).trans (u.free b o e ((hide_out m).trans n) k)
  · exact out b _ (u.tups b xs ((hide_out (cc.out e fun _ _ z => by cases z)).trans e))
  · by_cases m : b ∈ cs
    · exact (back_in m).trans e
    · exact out b _ (u.frzs b o v ((hide_out m).trans e))
  · obtain ⟨more, q⟩ := u.tbls b ps ((hide_out (cc.out e fun _ _ z => by cases z)).trans e)
    exact ⟨more, out b _ q⟩
/-- .. behind an exception -/
theorem back_ub {fs : List Addr} {B : Heap} (cc : Cells cs H) (nf : ∀ b ∈ fs, H b = none) (x : HOk P w H h) (u : UB fs (hide cs H) H1 h B h1) (y : HOk P w H1 B) : (∀ c ∈ cs, ∃ o, B.get? c = some o) ∧ HOk P w (back cs H H1) B ∧ UB fs H (back cs H H1) h B h1 := by
  have cell : ∀ c, c ∈ cs → ∃ o, H c = some (.frz o (.own c)) ∧ B.get? c = some o ∧ H1 c = none := fun c m => by
    obtain ⟨o, q⟩ := cc c m
    have z := (x c _ q).1
    exact ⟨o, q, u.keep c o z (hide_in m) (fun m2 => by rw [nf c m2] at q; cases q), u.free c o z (hide_in m)⟩
  have out : ∀ b o, H1 b = some o → back cs H H1 b = some o := fun b o e => by
    rw [back_out fun m => by obtain ⟨_, _, _, n⟩ := cell b m; rw [e] at n; cases n]
    exact e
  refine ⟨fun c m => let ⟨o, _, q, _⟩ := cell c m; ⟨o, q⟩, fun a o e => ?_, fun b o e n k1 => ?_, fun b o e n => u.slot b o e n, fun b o e n => ?_, fun b o e k => u.there b o e k, fun b xs e => ?_, fun b o v e => ?_, fun b ps e => ?_⟩
  · by_cases m : a ∈ cs
    · obtain ⟨o', q, g, _⟩ := cell a m
      rw [back_in m, q] at e
      cases e
      exact ⟨g, ⟨o', g⟩⟩
    · rw [back_out m] at e
      exact (y a o e).stay (fun _ _ _ q => q) (fun b => out b _) fun b xs => out b _
  · exact u.keep b o e (by by_cases m : b ∈ cs; exact hide_in m; exact (hide_out m).trans n) k1
  · by_cases m : b ∈ cs
    · exact (back_in m).trans n
    · exact (back_out m).trans (u.free b o e ((hide_out m).trans n))
  · exact out b _ (u.tups b xs ((hide_out (cc.out e fun _ _ z => by cases z)).trans e))
  · by_cases m : b ∈ cs
    · exact (back_in m).trans e
    · exact out b _ (u.frzs b o v ((hide_out m).trans e))
  · obtain ⟨more, q⟩ := u.tbls b ps ((hide_out (cc.out e fun _ _ z => by cases z)).trans e)
    exact ⟨more, out b _ q⟩
theorem back_cr {outer : List Env} {s s' : Shared} {Q : VK} {E : XK} {r : Result} (cc : Cells cs H) (nf : ∀ b ∈ frs outer, H b = none) (x : HOk P w H s.heap)
    (c : CR (L2.CX P w) outer P w (hide cs H) s (fun v H1 => (∀ c ∈ cs, H1 c = none) → Q v (back cs H H1)) (fun k d H1 => (∀ c ∈ cs, H1 c = none) → E k d (back cs H H1)) r s') : CR (L2.CX P w) outer P w H s Q E r s' := by
  cases r with
  | ok f =>
    cases f with
    | ret u =>
      obtain ⟨v, H', os, bare, un, hok, rv, q⟩ := c
      obtain ⟨k1, k2⟩ := back_ok cc nf x un hok
      exact ⟨v, back cs H H', os, bare, k2, k1, rv, q fun c m => by
        obtain ⟨o, e⟩ := cc c m
        exact un.free c o (x c _ e).1 (hide_in m) (by simp)⟩
    | next => exact c.elim
    | brk => exact c.elim
    | cont => exact c.elim
  | error e =>
    obtain ⟨a, B, H', cls, d, rfl, fl, hok, ub, na, os, ag, q⟩ := c
    obtain ⟨k0, k1, k2⟩ := back_ub cc nf x ub hok
    refine ⟨a, B, back cs H H', cls, d, rfl, fl, k1, k2, ?_, os, ag, q fun c m => by
      obtain ⟨o, e⟩ := cc c m
      exact ub.free c o (x c _ e).1 (hide_in m)⟩
    have : a ∉ cs := fun m => by
      obtain ⟨o, e⟩ := k0 a m
      rw [fl.2.1] at e
      cases e
    exact (back_out this).trans na
/-! #### the maker's cells, frozen while a callee runs -/
def frzC (cs : List Addr) (h : Heap) (H : Hp) : Hp := fun a => if a ∈ cs then (h.get? a).map (fun o => .frz o (.own a)) else H a
theorem frzC_in {a : Addr} {o : Obj} (m : a ∈ cs) (e : h.get? a = some o) : frzC cs h H a = some (.frz o (.own a)) := by
  unfold frzC
  rw [if_pos m, e]
  rfl
theorem frzC_out {a : Addr} (m : a ∉ cs) : frzC cs h H a = H a := if_neg m
/-- cells of a frame: there, not tracked -/
def Raw (cs : List Addr) (h : Heap) (H : Hp) : Prop := ∀ c ∈ cs, H c = none ∧ ∃ o, h.get? c = some o
theorem Raw.cells (r : Raw cs h H) : Cells cs (frzC cs h H) := fun c m => by
  obtain ⟨_, o, e⟩ := r c m
  exact ⟨o, frzC_in m e⟩
theorem Raw.grow (r : Raw cs h H) : ∀ a o, H a = some o → frzC cs h H a = some o := fun a o e => by
  rw [frzC_out fun m => by rw [(r a m).1] at e; cases e]
  exact e
theorem frz_ok (r : Raw cs h H) (x : HOk P w H h) : HOk P w (frzC cs h H) h := fun a o e => by
  by_cases m : a ∈ cs
  · obtain ⟨_, o', q⟩ := r a m
    rw [frzC_in m q] at e
    cases e
    exact ⟨q, o', q⟩
  · rw [frzC_out m] at e
    exact (x a o e).stay (fun _ _ _ q => q) (fun b => r.grow b _) fun b xs => r.grow b _
theorem frz_env {K : PySem.W.Frag} {mg : Str → Option Value} {base : Heap} {A : Around} {outer : List Env} {s : Shared} (r : Raw cs s.heap H) (nb : ∀ c ∈ cs, ∀ o, base.get? c ≠ some o) (nf : ∀ c ∈ cs, c ∉ frs outer) (e : Env0 P w K mg base A outer s H) : Env0 P w K mg base A outer s (frzC cs s.heap H) :=
  ⟨e.frames, e.mod, fun b o q => ⟨(e.bs b o q).1, (frzC_out fun m => nb b m o q).trans (e.bs b o q).2⟩, e.bsz, e.funs, fun b m => (frzC_out fun z => nf b z m).trans (e.frf b m), frz_ok r e.hok, e.bare⟩
theorem thaw_cr {outer : List Env} {s s' : Shared} {Q : VK} {E : XK} {r : Result} (rw_ : Raw cs s.heap H) (nf : ∀ c ∈ cs, c ∉ frs outer)
    (c : CR (L2.CX P w) outer P w (frzC cs s.heap H) s (fun v H1 => Cells cs H1 → Q v (hide cs H1)) (fun k d H1 => Cells cs H1 → E k d (hide cs H1)) r s') : CR (L2.CX P w) outer P w H s Q E r s' := by
  have fr : ∀ c, c ∈ cs → ∃ o, s.heap.get? c = some o ∧ frzC cs s.heap H c = some (.frz o (.own c)) := fun c m => by
    obtain ⟨_, o, q⟩ := rw_ c m
    exact ⟨o, q, frzC_in m q⟩
  cases r with
  | ok f =>
    cases f with
    | ret u =>
      obtain ⟨v, H', os, bare, un, hok, rv, q⟩ := c
      have cc : Cells cs H' := fun c m => by
        obtain ⟨o, _, e⟩ := fr c m
        exact ⟨o, un.frzs c o _ e⟩
      have nt : ∀ b, b ∉ cs → ∀ o, H' b = some o → hide cs H' b = some o := fun b m o e => (hide_out m).trans e
      refine ⟨v, hide cs H', os, bare, ⟨fun b o e n k1 k2 => ?_, fun b o e n k1 k2 => un.slot b o e ((frzC_out fun m => nf b m k1).trans n) k1 k2, fun b o e n k => ?_, un.there, fun b xs e => ?_, fun b o u e => ?_, fun b ps e => ?_⟩, hide_ok cc hok, rv, q cc⟩
      · by_cases m : b ∈ cs
        · obtain ⟨o', g, z⟩ := fr b m
          rw [e] at g
          cases g
          exact (hok b _ (un.frzs b o _ z)).1
        · exact un.keep b o e ((frzC_out m).trans n) k1 k2
      · by_cases m : b ∈ cs
        · exact hide_in m
        · exact (hide_out m).trans (un.free b o e ((frzC_out m).trans n) k)
      · exact nt b (fun m => by rw [(rw_ b m).1] at e; cases e) _ (un.tups b xs (rw_.grow b _ e))
      · exact nt b (fun m => by rw [(rw_ b m).1] at e; cases e) _ (un.frzs b o u (rw_.grow b _ e))
      · obtain ⟨more, z⟩ := un.tbls b ps (rw_.grow b _ e)
        exact ⟨more, nt b (fun m => by rw [(rw_ b m).1] at e; cases e) _ z⟩
    | next => exact c.elim
    | brk => exact c.elim
    | cont => exact c.elim
  | error e =>
    obtain ⟨a, B, H', cls, d, rfl, fl, hok, un, na, os, ag, q⟩ := c
    have cc : Cells cs H' := fun c m => by
      obtain ⟨o, _, e⟩ := fr c m
      exact ⟨o, un.frzs c o _ e⟩
    have nt : ∀ b, b ∉ cs → ∀ o, H' b = some o → hide cs H' b = some o := fun b m o e => (hide_out m).trans e
    refine ⟨a, B, hide cs H', cls, d, rfl, fl, hide_ok cc hok, ⟨fun b o e n k1 => ?_, un.slot, fun b o e n => ?_, un.there, fun b xs e => ?_, fun b o u e => ?_, fun b ps e => ?_⟩, ?_, os, ag, q cc⟩
    · by_cases m : b ∈ cs
      · obtain ⟨o', g, z⟩ := fr b m
        rw [e] at g
        cases g
        exact (hok b _ (un.frzs b o _ z)).1
      · exact un.keep b o e ((frzC_out m).trans n) k1
    · by_cases m : b ∈ cs
      · exact hide_in m
      · exact (hide_out m).trans (un.free b o e ((frzC_out m).trans n))
    · exact nt b (fun m => by rw [(rw_ b m).1] at e; cases e) _ (un.tups b xs (rw_.grow b _ e))
    · exact nt b (fun m => by rw [(rw_ b m).1] at e; cases e) _ (un.frzs b o u (rw_.grow b _ e))
    · obtain ⟨more, z⟩ := un.tbls b ps (rw_.grow b _ e)
      exact ⟨more, nt b (fun m => by rw [(rw_ b m).1] at e; cases e) _ z⟩
    · by_cases m : a ∈ cs
      · exact hide_in m
      · exact (hide_out m).trans na
end
end Pv
end
section
set_option Elab.async false
set_option linter.all false
set_option maxRecDepth 100000
set_option maxHeartbeats 4000000
set_option autoImplicit false
/-! closures: their run. -/
namespace Pv
open PySem L2 PySem.Spec PyProof.Rows PySem.W
/-! #### arguments bound -/
theorem look_zip : ∀ {ns : List Str} {us : List Value} {n : Str}, us.length = ns.length → n ∈ ns → ∃ u, (ns.zip us).lookup n = some u
  | [], us, n, _, h => by cases h
  | m :: ns, [], n, l, h => by cases l
  | m :: ns, u :: us, n, l, h => by
    rw [List.zip_cons_cons, List.lookup_cons]
    cases q : n == m with
    | true => exact ⟨u, rfl⟩
    | false =>
      rcases List.mem_cons.mp h with z | z
      · rw [z] at q; simp at q
      · exact look_zip (by simpa using l) z
theorem fm_zip : ∀ {ns : List Str} {us : List Value}, ns.Nodup → us.length = ns.length → ns.filterMap (fun n => ((ns.zip us).lookup n).map (n, ·)) = ns.zip us
  | [], us, _, l => by cases us <;> simp_all
  | m :: ns, [], _, l => by cases l
  | m :: ns, u :: us, nd, l => by
    have h1 := (List.nodup_cons.mp nd).1
    have ih := fm_zip (us := us) (List.nodup_cons.mp nd).2 (by simpa using l)
    have e : ∀ n ∈ ns, (((m :: ns).zip (u :: us)).lookup n).map (n, ·) = ((ns.zip us).lookup n).map (n, ·) := fun n hn => by
      rw [List.zip_cons_cons, List.lookup_cons]
      have : (n == m) = false := by
        cases q : n == m with
        | false => rfl
        | true => exact absurd (by rw [← beq_iff_eq.mp q]; exact hn) h1
      rw [this]
    rw [List.filterMap_cons, List.zip_cons_cons, List.lookup_cons, beq_self_eq_true]
    show (m, u) :: _ = _
    congr 1
    rw [← List.zip_cons_cons]
    have g : ∀ (l : List Str), (∀ n ∈ l, n ∈ ns) → l.filterMap (fun n => (((m :: ns).zip (u :: us)).lookup n).map (n, ·)) = l.filterMap (fun n => ((ns.zip us).lookup n).map (n, ·)) := fun l => by
      induction l with
      | nil => intro _; rfl
      | cons x l ih => intro hx; rw [List.filterMap_cons, List.filterMap_cons, e x (hx x (by simp)), ih fun n hn => hx n (by simp [hn])]
    exact (g ns fun _ h => h).trans ih
theorem bind_ok {fd : FuncData} {as : List Arg} {us : List Value} (hp : fd.params = { posonlyargs := [], args := as, vararg := none, kwonlyargs := [], kw_defaults := [], kwarg := none, defaults := [] }) (hd : fd.defaults = .none) (nd : (as.map (·.arg)).Nodup) (hl : us.length = as.length) :
    bindArgs fd ⟨us, []⟩ = pure ((as.map (·.arg)).zip us) := by
  have hl' : us.length = (as.map (·.arg)).length := by rw [List.length_map]; exact hl
  have e1 : (as.map (·.arg)).filter (fun n => (((as.map (·.arg)).zip us).lookup n).isNone) = [] := by
    rw [List.filter_eq_nil_iff]
    intro n hn
    obtain ⟨u, hu⟩ := look_zip hl' hn
    rw [hu]; simp
  unfold bindArgs
  rw [hp, hd]
  simp only [List.map_nil, List.nil_append, List.append_nil]
  generalize as.map (·.arg) = ns at *
  have e2 : decide (us.length > ns.length) = false := by simp [hl']
  have e3 : seqItems? Value.none = pure none := rfl
  have e4 : ((none : Option (Array Value)).getD #[]).toList = [] := rfl
  simp only [List.forIn_nil, pure_bind, e3, e4, e2, Bool.false_and, Bool.false_eq_true, if_false, List.length_nil, Nat.zero_sub, Nat.sub_zero, List.drop_nil, List.take_length, List.drop_length, List.drop_zero, e1, List.isEmpty_nil, Bool.not_true, List.zip_nil_right, fm_zip nd hl']

/-! #### the small heap while cells are hidden -/
section
variable {G : GC} {P P1 P2 : Pl} {H H0 H1 H2 : Hp} {h h1 : Sh} {cs : List Addr} {d : D} {v : V}
theorem Ext.grow (k : ∀ a o, H a = some o → H1 a = some o) : Ext P H P H1 :=
  ⟨⟨⟨[], by simp⟩, fun _ z => z, fun a o _ e _ => k a o e, fun a φ e => k a _ e, fun a xs e => k a _ e, fun a o u e => k a _ e⟩, fun _ z => .inl z, fun _ z => .inl z, fun a o e => ⟨o, k a o e⟩, fun a o e _ _ => k a o e⟩
theorem SR.grow (s : SR G P H h) (k : ∀ a o, H a = some o → H1 a = some o) : SR G P H1 h :=
  have x : WExt P H P H1 := (Ext.grow k).toWExt
  ⟨s.nd, s.wf, s.len, fun n o e => by
    obtain ⟨a, h1, h2⟩ := s.obj n o e
    obtain ⟨u, q⟩ := h2.some
    exact ⟨a, h1, h2.ext x ((k a u q).trans q.symm)⟩, fun a z => by
    obtain ⟨n, o, e, t⟩ := s.zed a z
    exact ⟨n, o, k a o e, t⟩, s.tab.ext k, s.cloExt x⟩
theorem SR.noCell (s : SR G P H h) (cc : Cells cs H) : (∀ a, a ∈ P.A → a ∉ cs) ∧ ∀ a, P.Z a → a ∉ cs := by
  refine ⟨fun a ha m => ?_, fun a z m => ?_⟩
  · obtain ⟨o', e⟩ := cc a m
    obtain ⟨n, o, _, _, r⟩ := s.mem ha
    cases o with
    | lst ds => obtain ⟨xs, q, _⟩ := r; rw [e] at q; cases q
    | frz ds => obtain ⟨o, xs, q, _⟩ := r; rw [e] at q; cases q
    | dct ks ds =>
      rcases r with ⟨kvs, q, _⟩ | ⟨kvs, _, q, _⟩ <;> rw [e] at q <;> cases q
    | ins c fs ds => obtain ⟨dx, xs, q, _⟩ := r; rw [e] at q; cases q
    | dead => obtain ⟨φ, q⟩ := r; rw [e] at q; cases q
  · obtain ⟨o', e⟩ := cc a m
    obtain ⟨_, o, q, _, t⟩ := s.zed a z
    rw [e] at q
    cases q
    exact t _ _ rfl
theorem hide_w0 (s : SR G P H h) (cc : Cells cs H) : WExt0 P H P (hide cs H) :=
  ⟨⟨[], by simp⟩, fun _ z => z, fun a o z e _ => (hide_out ((s.noCell cc).2 a z)).trans e, fun a xs e => (hide_out (cc.out e fun _ _ z => by cases z)).trans e⟩
/-- cells hidden: no closure may be called -/
theorem SR.hidden (s : SR G P H h) (cc : Cells cs H) {c : List (Nat × Clo)} (k : ∀ x, x ∈ c → ∃ a, P.A[x.1]? = some a ∧ CloAt G P (hide cs H) a x.2) : SR G P (hide cs H) (h.withC c) := by
  have w := hide_w0 s cc
  obtain ⟨nA, nZ⟩ := s.noCell cc
  have t : SR G P (hide cs H) (h.withC []) := by
    rw [Sh.withC_eq]
    refine ⟨s.nd, s.wf, s.len, fun n o e => ?_, fun a z => ?_, fun p hp => ?_, fun x m => by cases m⟩
    · obtain ⟨a, h1, h2⟩ := s.obj n o (by rw [← Sh.get_withC h [] n, Sh.withC_eq]; exact e)
      exact ⟨a, h1, h2.ext0 w (hide_out (nA a (List.mem_of_getElem? h1)))⟩
    · obtain ⟨n, o, e, t⟩ := s.zed a z
      exact ⟨n, o, (hide_out (nZ a z)).trans e, t⟩
    · obtain ⟨ps, h1, h2, h3⟩ := s.tab p hp
      refine ⟨ps, (hide_out (cc.out h1 fun _ _ z => by cases z)).trans h1, h2, fun pos cv hc => ?_⟩
      obtain ⟨c, e1, e2⟩ := h3 pos cv hc
      exact ⟨c, e1, (hide_out (cc.out e2 fun _ _ z => by cases z)).trans e2⟩
  have e : (h.withC []).withC c = h.withC c := by rw [Sh.withC_eq, Sh.withC_eq, Sh.withC_eq]
  rw [← e]
  exact t.addC k
/-- the cells again, behind the closure's run -/
theorem back_ext (s : SR G P H h) (cc : Cells cs H) (x : Ext P (hide cs H) P1 H1) (s1 : SR G P1 H1 h1) (n : ∀ c ∈ cs, H1 c = none) : (∀ a o, H1 a = some o → back cs H H1 a = some o) ∧ Ext P H P1 (back cs H H1) := by
  obtain ⟨nA, nZ⟩ := s.noCell cc
  have out : ∀ a o, H1 a = some o → back cs H H1 a = some o := fun a o e => (back_out fun m => by rw [n a m] at e; cases e).trans e
  refine ⟨out, ⟨x.pre, x.zz, fun a o z e t => out a o (x.kz a o z ((hide_out (nZ a z)).trans e) t), fun a φ e => out a _ (x.xx a φ ((hide_out (cc.out e fun _ _ z => by cases z)).trans e)), fun a xs e => out a _ (x.tup a xs ((hide_out (cc.out e fun _ _ z => by cases z)).trans e)), fun a o u e => ?_⟩, fun a ha => ?_, fun a ha => ?_, fun a o e => ?_, fun a o e nm t => ?_⟩
  · by_cases m : a ∈ cs
    · exact (back_in m).trans e
    · exact out a _ (x.frz a o u ((hide_out m).trans e))
  · rcases x.fa a ha with z | z
    · exact .inl z
    · by_cases m : a ∈ cs
      · obtain ⟨u, q⟩ := s1.there ha
        rw [n a m] at q
        cases q
      · exact .inr ((hide_out m).symm.trans z)
  · rcases x.fz a ha with z | z
    · exact .inl z
    · by_cases m : a ∈ cs
      · obtain ⟨_, u, q, _⟩ := s1.zed a ha
        rw [n a m] at q
        cases q
      · exact .inr ((hide_out m).symm.trans z)
  · by_cases m : a ∈ cs
    · exact ⟨o, (back_in m).trans e⟩
    · obtain ⟨o', q⟩ := x.dom a o ((hide_out m).trans e)
      exact ⟨o', out a o' q⟩
  · by_cases m : a ∈ cs
    · exact (back_in m).trans e
    · exact out a o (x.keep a o ((hide_out m).trans e) nm t)
theorem back_rt (cc : Cells cs H) (n : ∀ c ∈ cs, H1 c = none) (out : ∀ a o, H1 a = some o → back cs H H1 a = some o) (r : RT G P1 H1 (hide cs H) d v) : RT G P1 (back cs H H1) H d v := by
  have x : Ext P1 H1 P1 (back cs H H1) := Ext.grow out
  by_cases e : isTmp d = false
  · exact RT.of e (R.ext x.toWExt _ _ (r.r e))
  · cases d <;> first | exact absurd rfl e | skip
    · obtain ⟨p, a, b, c, z, l⟩ := r
      obtain ⟨o, q, t⟩ := lst_nt l
      have m : p ∉ cs := fun m => by rw [n p m] at q; cases q
      exact ⟨p, a, (hide_out m).symm.trans b, c, z, LstAt.ext x.toWExt ((back_out m)) l⟩
    · obtain ⟨p, a, b, c, z, l⟩ := r
      obtain ⟨o, q, t⟩ := dct_nt l
      have m : p ∉ cs := fun m => by rw [n p m] at q; cases q
      exact ⟨p, a, (hide_out m).symm.trans b, c, z, DctAt.ext x.toWExt ((back_out m)) l⟩
end
/-! #### a closure's call -/
def capC (cl : List (Str × Addr)) : List Addr := cl.filterMap fun p => cl.lookup p.1
theorem mem_capC {cl : List (Str × Addr)} {c : Addr} : c ∈ capC cl ↔ ∃ y, cl.lookup y = some c := by
  unfold capC
  rw [List.mem_filterMap]
  constructor
  · rintro ⟨p, _, e⟩
    exact ⟨_, e⟩
  · rintro ⟨y, e⟩
    exact ⟨(y, c), PySem.mem_of_lookup e, e⟩
/-- what the call of a closure promises -/
def LOk (G : GC) (Pr : Program) (w : World) (K : PySem.W.Frag) (mg : Str → Option Value) (base : Heap) (k : Nat) (l : Clo → List D → Sh → Rs D) : Prop :=
  ∀ (A : Around) (outer : List Env) (s : Shared) (H : Hp) (us : List Value) (vs : List V) (Q : VK) (E : XK) (P : Pl) (h : Sh) (ds : List D) (a : Addr) (x : Clo), Room k A → Env0 Pr w K mg base A outer s H → SR G P H h → CloAt G P H a x → RL G P H ds vs → Vals vs us →
    ERes G (EW E) [] P H (l x ds h) (fun d _ P' H' => ∀ v, RT G P' H' H d v → Q v H') → codeAny (model Pr w) A (.call (.ref a) ⟨us, []⟩) (CR (L2.CX Pr w) outer Pr w H s Q E) s
theorem LOk.mono {G : GC} {Pr : Program} {w : World} {K : PySem.W.Frag} {mg : Str → Option Value} {base : Heap} {j k : Nat} {l : Clo → List D → Sh → Rs D} (o : LOk G Pr w K mg base j l) (h : j ≤ k) : LOk G Pr w K mg base k l :=
  fun A outer s H us vs Q E P hh ds a x hr => o A outer s H us vs Q E P hh ds a x (hr.mono h)
theorem argsE_eq {β : Type} (z : β) (pad : List (Option D)) : ∀ (ds : List D) (n : Nat) (k : En → β), (∀ d ∈ ds, isTmp d = false) → argsE z pad ds n k = if ds.length = n then k (ds.map some ++ pad) else z
  | [], n, k, _ => by
    show bif' (Nat.beq n 0) (k pad) z = _
    cases n with
    | zero => rfl
    | succ n => rfl
  | d :: ds, n, k, h => by
    have e : argsE z pad (d :: ds) n k = bif' (isTmp d) z (Nat.rec (motive := fun _ => β) z (fun m _ => argsE z pad ds m fun en => k (some d :: en)) n) := rfl
    rw [e, h d (by simp)]
    cases n with
    | zero => rfl
    | succ n =>
      show argsE z pad ds n (fun en => k (some d :: en)) = _
      rw [argsE_eq z pad ds n _ fun x hx => h x (by simp [hx])]
      by_cases q : ds.length = n
      · rw [if_pos q, if_pos (by simp [q])]; rfl
      · rw [if_neg q, if_neg (by simp [q])]
/-- the words of a lambda -/
abbrev lamNF (q : Str) (ps : Arguments) (sc : Scope) (cl : List (Str × Addr)) (c : Addr) : NdefX.NF := ⟨"<lambda>", q, ps, [], sc, cl, c⟩
/-- what is known of a lambda's text -/
structure LamT (np ns : Nat) (fr : List Str) (ps : Arguments) (sc : Scope) (as : List Arg) : Prop where
  eps : ps = { posonlyargs := [], args := as, vararg := none, kwonlyargs := [], kw_defaults := [], kwarg := none, defaults := [] }
  enp : np = as.length
  ens : ns = np + fr.length
  sco : NdefX.NScope (as.map (·.arg) ++ fr) (as.map (·.arg)) fr sc
theorem rs_start {G : GC} {P : Pl} {H : Hp} : ∀ {ds cs : List D} {vs ws : List V}, RL G P H ds vs → RL G P H cs ws → RS G P H (ds.map some ++ cs.map some) (vs.map some ++ ws.map some) := fun {ds cs vs ws} a b => by
  have t := a.append b
  rw [← List.map_append, ← List.map_append]
  refine ⟨by rw [List.length_map, List.length_map, t.length], fun i d e => ?_⟩
  rw [List.getElem?_map] at e
  cases q : (ds ++ cs)[i]? with
  | none => rw [q] at e; cases e
  | some d' =>
    rw [q] at e
    cases e
    obtain ⟨v, h1, h2⟩ := t.get q
    exact ⟨v, by rw [List.getElem?_map, h1]; rfl, h2⟩
theorem RL.noTmps {G : GC} {P : Pl} {H : Hp} {ds : List D} {vs : List V} (r : RL G P H ds vs) : ∀ d ∈ ds, isTmp d = false := RL.noTmp r
theorem ld_of {G : GC} {B : Tb} {Pr : Program} {w : World} {K : PySem.W.Frag} {mg : Str → Option Value} {base : Heap} {k : Nat} {cl : Cl}
    (hb : ∀ np ns b fr ps e sc, G.lam np ns b fr ps e sc → ∃ as, LamT np ns fr ps sc as ∧ ∀ (F : NdefX.NF) (f : Addr) (A : Around) (outer : List Env) (s : Shared) (H : Hp) (E : XK), F.scope = sc → Room k (A.deeper (NdefX.envF F f s.heap.objs.size)) →
      PE (NdefX.ncx (L2.CX Pr w) Pr w K mg base (as.map (·.arg) ++ fr) F f A outer s H E) e (rdE G (fun c d _ H => E c d H) ((comp B b).e cl))) :
    LOk G Pr w K mg base (k + 1) (callL B cl) := by
  intro A outer s H us vs Q E P h ds a x hr e0 sr ca rl rv er
  obtain ⟨c, q, ps, e, sc, cel, fr, ws, h1, h2, h3, h4, h5, h6, h7, h8⟩ := ca
  obtain ⟨as, ⟨eps, hnp, hns, S⟩, hbody⟩ := hb _ _ _ _ _ _ _ h3
  have nt := RL.noTmps rl
  have er : ERes G (EW E) [] P H (argsE .stuck (x.caps.map some ++ List.replicate (x.ns - x.np - lenK x.caps) none) ds x.np fun en => ((comp B x.body).e cl en (h.withC [])).wC h.c) (fun d _ P' H' => ∀ v, RT G P' H' H d v → Q v H') := er
  rw [argsE_eq _ _ _ _ _ nt] at er
  by_cases hl : ds.length = x.np
  case neg => rw [if_neg hl] at er; exact er.elim
  rw [if_pos hl, lenK_eq] at er
  have cl1 : x.caps.length = fr.length := by rw [← h4.length, h5]
  have pad : x.ns - x.np - x.caps.length = 0 := by omega
  rw [pad, List.replicate_zero, List.append_nil] at er
  have vl : vs.length = (as.map (·.arg)).length := by rw [rl.length, hl, hnp, List.length_map]
  have cc : Cells (capC cel) H := fun c m => by
    obtain ⟨y, ey⟩ := mem_capC.mp m
    obtain ⟨v, o, w, qc, _⟩ := h6 y c ey
    exact ⟨o, qc⟩
  have e1 : Env0 Pr w K mg base A outer s (hide (capC cel) H) := hide_env cc e0
  refine codeAny_mono ?_ fun r s' hc => back_cr cc e0.frf e0.hok hc
  have lim : s.heap.NoLimit := e0.mod.nolimit.keeps fun b o e => (e0.bs b o e).1
  obtain ⟨⟨od, sl, pm, ctv, ho⟩, _, _⟩ := e0.hok a _ h1
  obtain ⟨⟨oc, vs0, t0, hoc, hdc, hvc⟩, _, _⟩ := e0.hok c _ h2
  have ul : us.length = as.length := by rw [← rv.length, vl, List.length_map]
  refine PySem.W.kla_callFunE hr.depth ho rfl S.co S.gen rfl ⟨c, oc, vs0, t0, rfl, hoc, hdc, hvc⟩ ?_
  rw [bind_ok (as := as) eps rfl (by
    have z := S.nd
    exact (List.nodup_append.mp z).1) ul]
  refine wpAny_pure (wpAny_newFunctionEnv S.nocell (fun ⟨n, _⟩ hy => S.par n (List.of_mem_zip hy).1) (fun h₁ hns' hsb => ⟨lim.fresh _ hsb, ?_⟩) S.kind)
  show codeAny _ _ (.expr e (NdefX.envF (lamNF q ps sc cel c) a s.heap.objs.size)) _ _
  have kp : ∀ b o, s.heap.get? b = some o → h₁.get? b = some o := fun b o e => hsb.extBut b o (Nat.ne_of_lt (Heap.lt_size e)) (Heap.get?_push_of_some _ e)
  have CA : NdefX.CellsAt cel fr (ws.map some) s.heap (hide (capC cel) H) := by
    refine ⟨by rw [List.length_map]; exact h5.symm, fun y c ey => ?_, h7, fun i y ey => ?_⟩
    · obtain ⟨v, o, w, qc, qd, _⟩ := h6 y c ey
      exact ⟨hide_in (mem_capC.mpr ⟨y, ey⟩), some w, o, (e0.hok c _ qc).1, qd⟩
    · have iw : i < ws.length := by rw [← h5]; exact (List.getElem?_eq_some_iff.mp ey).1
      obtain ⟨c, ec, _⟩ := h8 i y _ ey (List.getElem?_eq_getElem iw)
      refine ⟨c, ec, fun v ev => ?_⟩
      rw [List.getElem?_map] at ev
      cases qv : ws[i]? with
      | none => rw [qv] at ev; cases ev
      | some v' =>
        rw [qv] at ev
        cases ev
        obtain ⟨c2, ec2, o, w, qc, qd, rr⟩ := h8 i y v ey qv
        rw [ec] at ec2
        cases ec2
        exact ⟨w, rr, o, (e0.hok c _ qc).1, qd⟩
  have J : Inv (NdefX.ncx (L2.CX Pr w) Pr w K mg base (as.map (·.arg) ++ fr) (lamNF q ps sc cel c) a A outer s (hide (capC cel) H) (fun k d H1 => (∀ c ∈ capC cel, H1 c = none) → E k d (back (capC cel) H H1))) [] (NdefX.startF (as.map (·.arg) ++ fr) vs (ws.map some)) (hide (capC cel) H) { s with heap := h₁, toks := s.toks + ((as.map (·.arg)).zip us).length } :=
    NdefX.inv_startN S hr.hd e1 vl rv CA hns' kp
  have st0 : NdefX.startF (as.map (·.arg) ++ fr) vs (ws.map some) = vs.map some ++ ws.map some := by
    have z : (as.map (·.arg) ++ fr).length - vs.length - (ws.map some).length = 0 := by
      rw [List.length_append, List.length_map, List.length_map]
      rw [List.length_map] at vl
      omega
    unfold NdefX.startF
    rw [z, List.replicate_zero, List.append_nil]
  rw [st0] at J
  have sr1 : SR G P (hide (capC cel) H) (h.withC []) := sr.hidden cc fun x m => by cases m
  have w0 := hide_w0 sr cc
  refine PySem.W.kla_codeExpr (wpAny_mono ((hbody (lamNF q ps sc cel c) a A outer s (hide (capC cel) H) _ rfl (hr.deeper _)).run [] _ _ (hide (capC cel) H) (fun v H1 => (∀ c ∈ capC cel, H1 c = none) → Q v (back (capC cel) H H1)) J
    ⟨P, h.withC [], ds.map some ++ x.caps.map some, ⟨sr1, rs_start (RL.ext0 w0 _ _ rl) (RL.ext0 w0 _ _ h4)⟩, ?_⟩) (fun v s' hq => ?_) fun e s' hq => hq)
  · cases k1 : (comp B x.body).e cl (ds.map some ++ x.caps.map some) (h.withC []) with
    | stuck => rw [k1] at er; exact er.elim
    | ok d h1' =>
      rw [k1] at er
      have er : ∀ P' H', Ext P H P' H' → SR G P' H' (h1'.withC h.c) → ∀ v, RT G P' H' H d v → Q v H' := er
      intro P1 H1 xx s1 v rt hn
      obtain ⟨out, xb⟩ := back_ext sr cc xx s1 hn
      have s2 : SR G P1 (back (capC cel) H H1) h1' := s1.grow out
      exact er P1 _ xb (s2.addC (sr.cloExt xb.toWExt)) v (back_rt cc hn out rt)
    | exc kx h1' =>
      rw [k1] at er
      have er : ∀ P' H', Ext P H P' H' → SR G P' H' (h1'.withC h.c) → ∀ d, E (G.xc kx) d H' := er
      intro P1 H1 xx s1 d hn
      obtain ⟨out, xb⟩ := back_ext sr cc xx s1 hn
      have s2 : SR G P1 (back (capC cel) H H1) h1' := s1.grow out
      exact er P1 _ xb (s2.addC (sr.cloExt xb.toWExt)) d
  · obtain ⟨w', H', J', rv', q⟩ := hq
    exact ⟨w', H', J'.os, J'.bare, J'.base, J'.hok, rv', q⟩
end Pv
end
section
set_option Elab.async false
set_option linter.all false
set_option maxRecDepth 100000
set_option maxHeartbeats 4000000
set_option autoImplicit false
/-! functions in names; a lambda as the last argument. -/
namespace Pv
open PySem L2 PySem.Spec PyProof.Rows PySem.W
section
variable {G : GC} {W : WX} {X : Cx} {pos : Pos} {a b c : Expr} {es : List Expr} {P P1 P2 : Pl} {H H0 H1 H2 : Hp} {d : D} {v u : V} {vs : List V} {h h1 : Sh} {σ : L2.St} {cl : Cl} {A B C : EF} {T U : TF} {As Bs : AF}
theorem lookC_mem {n : Nat} {x : Clo} : ∀ {l : List (Nat × Clo)}, lookC n l = some x → (n, x) ∈ l
  | [], e => by cases e
  | y :: l, e => by
    have e : bif' (Nat.beq y.1 n) (some y.2) (lookC n l) = some x := e
    cases q : Nat.beq y.1 n with
    | true =>
      rw [q] at e
      have e : some y.2 = some x := e
      cases e
      rw [← Nat.eq_of_beq_eq_true q]
      exact List.mem_cons_self
    | false =>
      rw [q] at e
      exact List.mem_cons_of_mem _ (lookC_mem e)
theorem SR.cloOf (s : SR G P H h) {n : Nat} {x : Clo} (e : lookC n h.c = some x) {a : Addr} (q : P.A[n]? = some a) : CloAt G P H a x := by
  obtain ⟨b, h1, h2⟩ := s.clo _ (lookC_mem e)
  have h1 : P.A[n]? = some b := h1
  rw [q] at h1
  cases h1
  exact h2
theorem cloFn {a : Addr} {x : Clo} {pins : List (Addr × Obj)} {s : Shared} (I : Inv X pins σ H s) (c : CloAt G P H a x) : PySem.W.FnAt a s.heap := by
  obtain ⟨_, _, _, _, _, _, _, _, h1, _⟩ := c
  obtain ⟨⟨od, sl, pm, ctv, ho⟩, _, _⟩ := I.hok a _ h1
  exact ⟨_, od, _, sl, ho⟩
/-- the closure runs -/
theorem run_clo {j k : Nat} {pins : List (Addr × Obj)} {s : Shared} {us : List Value} {Q : VK} {x : Clo} {a : Addr} {ds : List D} (lo : LOk G X.prog X.w X.K X.mg X.base k cl.l) (tk : Takes X W) (hr : Room j X.A) (hk : k ≤ j) (I : Inv X pins σ H1 s) (sr : SR G P1 H1 h1) (ca : CloAt G P1 H1 a x) (rl : RL G P1 H1 ds vs) (rv : Vals vs us)
    (w : ∀ p, H1 p = none → H p = none) (e : ERes G W σ P1 H1 (cl.l x ds h1) (fun d _ P' H' => ∀ v, RT G P' H' H d v → Q v H')) : wpAny (model X.prog X.w) X.A (call (.ref a) us) (EP X pins σ Q) X.xe s := by
  have e2 : ERes G (EW (WE W σ)) [] P1 H1 (cl.l x ds h1) (fun d _ P' H' => ∀ v, RT G P' H' H1 d v → Q v H') := (ERes.chg (W' := EW (WE W σ)) (σ' := []) e fun _ _ _ z => z).imp fun d h' P' H' _ _ q v r => q v (r.weak w)
  refine wpAny_call (codeAny_mono (lo X.A X.stack s H1 us vs Q (WE W σ) P1 h1 ds a x (hr.mono hk) I.env0 sr ca rl rv e2) fun r s' hq => ?_)
  cases r with
  | error e => exact passAt tk σ pins H1 s e s' I hq
  | ok fl =>
    cases fl with
    | ret u => exact I.after hq
    | next => exact False.elim hq
    | brk => exact False.elim hq
    | cont => exact False.elim hq
theorem callv_cases {B : Tb} {i : Nat} {en : En} {K : D → Sh → Pl → Hp → Prop} (r : RS G P H en σ) (e : ERes G W σ P H (exCallv B i As cl en h) K) :
    (∃ f, σ[i]? = some (some (.ref (G.F f))) ∧ (∃ fd, B.f.get 12 f = some fd) ∧ ERes G W σ P H ((As cl en h).bind fun ds h => cl.f f ds h) K) ∨
    ∃ n a, σ[i]? = some (some (.ref a)) ∧ P.A[n]? = some a ∧ (∃ x, lookC n h.c = some x) ∧ ERes G W σ P H ((As cl en h).bind fun ds h => opt' (lookC n h.c) .stuck fun x => cl.l x ds h) K := by
  unfold exCallv at e
  cases q : nthK en i with
  | none => rw [q] at e; exact e.elim
  | some o =>
    rw [q] at e
    rw [nthK_eq] at q
    cases o with
    | none => exact e.elim
    | some d =>
      obtain ⟨v, hs, rv⟩ := r.at_ i d q
      cases d <;> first | exact (show False from e).elim | skip
      · rename_i n
        obtain ⟨a, rfl, ha⟩ := rv
        have e : ERes G W σ P H (opt' (lookC n h.c) .stuck fun _ => (As cl en h).bind fun ds h => opt' (lookC n h.c) .stuck fun x => cl.l x ds h) K := e
        cases q2 : lookC n h.c with
        | none => rw [q2] at e; exact e.elim
        | some x => rw [q2] at e; exact .inr ⟨n, a, hs, ha, ⟨x, q2⟩, e⟩
      · rename_i f
        obtain rfl : v = .ref (G.F f) := rv
        have e : ERes G W σ P H (opt' (B.f.get 12 f) .stuck fun _ => (As cl en h).bind fun ds h => cl.f f ds h) K := e
        cases q2 : B.f.get 12 f with
        | none => rw [q2] at e; exact e.elim
        | some fd => rw [q2] at e; exact .inl ⟨f, hs, ⟨fd, q2⟩, e⟩
/-- x(..), x a name with a function -/
theorem pe_callvV {Bt : Tb} {j k i : Nat} {x : Str} {p : Pos} (fs : ∀ f fd, Bt.f.get 12 f = some fd → Fd G X cl k f) (lo : LOk G X.prog X.w X.K X.mg X.base k cl.l) (tk : Takes X W) (hr : Room j X.A) (hk : k ≤ j) (hN : X.N[i]? = some x) (hv : Vis X.env.scope x) (hd : (x == ("__debug__" : Str)) = false) (hcd : (x == ("__classdict__" : Str)) = false)
    (ha : PA X (a :: es) (rdK G W (As cl))) (he : starEach (a :: es) X.env = (false, eval a X.env) :: starEach es X.env) (hp : (backTo pos (starEach es X.env)).any (·.1) = false) : PE X (.Call (.Name x p) (a :: es) [] pos) (rdE G W (exCallv Bt i As cl)) := by
  refine ⟨fun pins s σ H Q I q => ?_⟩
  obtain ⟨P, h, en, st, e⟩ := q
  rcases callv_cases st.r e with ⟨f, hs, ⟨fd0, hf⟩, e⟩ | ⟨n, ad, hs, hA, ⟨x0, hx0⟩, e⟩
  · obtain ⟨fd, ps, F, bi, kp⟩ := (fs f fd0 hf).ex
    refine wpAny_Call_Name_kw (thn ((pe_var (pos := p) hN hv hd hcd).run pins s σ H (fun v H1 => v = .ref (G.F f) ∧ H1 = H) I ⟨_, hs, rfl, rfl⟩) fun u s1 ⟨v, H1, I1, r1, q1⟩ => ?_)
    obtain ⟨ev, eH⟩ := q1
    subst ev
    rw [eH] at I1
    obtain rfl : u = Value.ref (G.F f) := r1
    refine PySem.W.callWith_K (first := []) (h₀ := X.base) I1.ok.mod.kin kp (thn (ha.run pos pins s1 σ H (fun vs H2 => spF G (cl.f f) vs H2 Q (WE W σ)) I1 ⟨P, h, en, st, e.bind.imp fun ds h2 P2 H2 x2 s2 e2 vs r => spF_of s2 x2 (fun p z => x2.back z) r e2⟩) fun us s2 hh => ?_) he hp
    obtain ⟨vs, H2, I2, r, q⟩ := hh
    exact ⟨I2.kIn, run_fnS (us := us) (vs := vs) F (hr.mono hk) bi (passAt tk σ) I2 r q⟩
  · refine wpAny_Call_Name_kw (thn ((pe_var (pos := p) hN hv hd hcd).run pins s σ H (fun v H1 => v = .ref ad ∧ H1 = H) I ⟨_, hs, rfl, rfl⟩) fun u s1 ⟨v, H1, I1, r1, q1⟩ => ?_)
    obtain ⟨ev, eH⟩ := q1
    subst ev
    rw [eH] at I1
    obtain rfl : u = Value.ref ad := r1
    refine PySem.W.callWith_F (first := []) (cloFn I1 (st.s.cloOf hx0 hA)) (thn (ha.run pos pins s1 σ H (fun vs H2 => ∃ P2 h2 ds x, SR G P2 H2 h2 ∧ CloAt G P2 H2 ad x ∧ RL G P2 H2 ds vs ∧ (∀ p, H2 p = none → H p = none) ∧ ERes G W σ P2 H2 (cl.l x ds h2) (fun d _ P' H' => ∀ v, RT G P' H' H d v → Q v H')) I1 ⟨P, h, en, st, e.bind.imp fun ds h2 P2 H2 x2 s2 e2 vs r => ?_⟩) fun us s2 hh => ?_) he hp
    · cases q2 : lookC n h2.c with
      | none => rw [q2] at e2; exact e2.elim
      | some x => rw [q2] at e2; exact ⟨P2, h2, ds, x, s2, s2.cloOf q2 (x2.toWExt.at_ hA), r, fun p z => x2.back z, ERes.re x2 e2⟩
    · obtain ⟨vs, H2, I2, r, P2, h2, ds, x, s2', ca, rl, w, e2⟩ := hh
      exact ⟨cloFn I2 ca, run_clo lo tk hr hk I2 s2' ca rl r w e2⟩
/-- x() -/
theorem pe_callvV0 {Bt : Tb} {j k i : Nat} {x : Str} {p : Pos} (fs : ∀ f fd, Bt.f.get 12 f = some fd → Fd G X cl k f) (lo : LOk G X.prog X.w X.K X.mg X.base k cl.l) (tk : Takes X W) (hr : Room j X.A) (hk : k ≤ j) (hN : X.N[i]? = some x) (hv : Vis X.env.scope x) (hd : (x == ("__debug__" : Str)) = false) (hcd : (x == ("__classdict__" : Str)) = false) :
    PE X (.Call (.Name x p) [] [] pos) (rdE G W (exCallv Bt i arNil cl)) := by
  refine ⟨fun pins s σ H Q I q => ?_⟩
  obtain ⟨P, h, en, st, e⟩ := q
  rcases callv_cases st.r e with ⟨f, hs, ⟨fd0, hf⟩, e⟩ | ⟨n, ad, hs, hA, ⟨x0, hx0⟩, e⟩
  · obtain ⟨fd, ps, F, bi, kp⟩ := (fs f fd0 hf).ex
    refine wpAny_Call_Name_kw (thn ((pe_var (pos := p) hN hv hd hcd).run pins s σ H (fun v H1 => v = .ref (G.F f) ∧ H1 = H) I ⟨_, hs, rfl, rfl⟩) fun u s1 ⟨v, H1, I1, r1, q1⟩ => ?_)
    obtain ⟨ev, eH⟩ := q1
    subst ev
    rw [eH] at I1
    obtain rfl : u = Value.ref (G.F f) := r1
    exact PySem.W.callWith_K0 I1.kIn kp (run_fnS (us := []) (vs := []) F (hr.mono hk) bi (passAt tk σ) I1 .nil (spF_of st.s Ext.refl (fun _ z => z) RL.nil (show ERes G W σ P H (cl.f f [] h) _ from e)))
  · refine wpAny_Call_Name_kw (thn ((pe_var (pos := p) hN hv hd hcd).run pins s σ H (fun v H1 => v = .ref ad ∧ H1 = H) I ⟨_, hs, rfl, rfl⟩) fun u s1 ⟨v, H1, I1, r1, q1⟩ => ?_)
    obtain ⟨ev, eH⟩ := q1
    subst ev
    rw [eH] at I1
    obtain rfl : u = Value.ref ad := r1
    have ca := st.s.cloOf hx0 hA
    have e : ERes G W σ P H (opt' (lookC n h.c) .stuck fun x => cl.l x [] h) (fun d _ P' H' => ∀ v, RT G P' H' H d v → Q v H') := e
    rw [hx0] at e
    exact PySem.W.callWith_F0 (cloFn I1 ca) (run_clo lo tk hr hk I1 st.s ca RL.nil .nil (fun _ z => z) e)
end
end Pv
end
section
set_option Elab.async false
set_option linter.all false
set_option maxRecDepth 100000
set_option maxHeartbeats 4000000
set_option autoImplicit false
/-! a lambda is made; a def called with one. -/
namespace Pv
open PySem L2 PySem.Spec PyProof.Rows PySem.W
section
variable {X : Cx} {pins : List (Addr × Obj)} {σ : L2.St} {H : Hp} {s : Shared}
theorem inv_fnL {q : Str} {ps : Arguments} {b : Expr} {sc : Scope} {cl : List (Str × Addr)} {c : Addr} {pm ctv : Value} {t' : Nat} (I : Inv X pins σ H s) :
    Inv X pins σ (upd H s.heap.objs.size (FnL s.heap.objs.size c q ps b sc cl)) { s with heap := s.heap.push (PySem.W.kla_obj "<lambda>" q ps b sc cl pm c ctv), toks := t' } := by
  refine I.laid (a := s.heap.objs.size) (fun b u e => Heap.get?_push_of_some _ e) (Nat.le_refl _) ?_
  have e : (s.heap.push (PySem.W.kla_obj "<lambda>" q ps b sc cl pm c ctv)).get? s.heap.objs.size = some (PySem.W.kla_obj "<lambda>" q ps b sc cl pm c ctv) := Heap.get?_push_size _ rfl
  exact ⟨⟨_, _, pm, ctv, e⟩, ⟨_, e⟩, fun h1 h2 ⟨od, sl, p, t, z⟩ st => ⟨od, sl, p, t, st _ z⟩⟩
/-- a lambda is made: its code object is new, or found in the table -/
theorem lam_make3 {T : List NdefX.NTab} {nm : Nat → Nat → Str} {c P : Addr} {params : Arguments} {body : Expr} {scope : Scope} {pos : Pos} {E : Value → Shared → Prop} {Q : Value → Shared → Prop} (I : Inv X pins σ H s) (TB : LamX.TabB X.base X.mg c P) (hcode : X.env.code = .ref c)
    (hm : (P, nm) ∈ T) (hn : nm pos.line pos.col = X.env.qual ++ "<lambda>") (hu : ∀ p ∈ T, p.1 = P → p.2 = nm) (hT : NdefX.TabsN T H) (hdef : defaultsOf params X.env = ([], [])) (hfree : ∀ y ∈ scope.names, y.2 = .free → ∃ c, X.env.cells.lookup y.1 = some c)
    (h : ∀ (f c' : Addr) (H1 : Hp) (s' : Shared), Inv X pins σ H1 s' → LamX.ExtN H H1 → (∀ b, H1 b = Option.none → H b = Option.none) → NdefX.TabsN T H1 → H f = none → H1 f = some (FnL f c' (X.env.qual ++ "<lambda>") params body scope (cloFrom X.env.cells scope.names [])) → H1 c' = some (LamX.CodeO c' (X.env.qual ++ "<lambda>")) → Q (.ref f) s') :
    wpAny (model X.prog X.w) X.A (eval (.Lambda params body scope pos) X.env) Q E s := by
  obtain ⟨ps, hP, ht, ha⟩ := (show NdefX.TabN H P nm from hT _ hm)
  refine PySem.W.kla_eval hdef ?_
  have bP : s.heap.BuiltinsAt X.mg P := TB.bm.keeps I.bk
  have hP' : s.heap.get? P = some { cls := .none, data := .fields ps } := I.hok P _ hP
  cases hc : codeAmong pos ps.toList with
  | none =>
    refine PySem.W.kla_makeFunction (mg := X.mg) (c := c) (P := P) (ps := ps) (closure_ok hfree) I.ok.glob (I.mod.glob.keeps I.bk) hcode (TB.code.keeps I.bk) hP' ht hc TB.gP bP fun c' ctv h' tk hx hge hlt hrec htb => ?_
    obtain ⟨c2, oc, vs, t, e2, hoc, hd, hv⟩ := hrec
    cases e2
    have nC : H c' = none := I.hok.fresh hge
    have I1 := LamX.inv_table (t' := tk) (more := #[rawInt pos.line, rawInt pos.col, .ref c']) (h' := h') I hP (fun b o hb e => hx b o hb e) htb hge ⟨oc, vs, t, hoc, hd, hv⟩
    have hE : LamX.ExtN H (upd (upd H P (.tbl (ps ++ #[rawInt pos.line, rawInt pos.col, .ref c']))) c' (LamX.CodeO c' (X.env.qual ++ "<lambda>"))) := fun b o e n => by
      rw [upd_ne (ne_of_none e nC), upd_ne (fun z => n ps (Option.some.inj (e.symm.trans (by rw [z]; exact hP))))]
      exact e
    have eL : (ps ++ #[rawInt pos.line, rawInt pos.col, .ref c']).toList = ps.toList ++ [rawInt pos.line, rawInt pos.col, .ref c'] := by simp
    have T1 : NdefX.TabsN T (upd (upd H P (.tbl (ps ++ #[rawInt pos.line, rawInt pos.col, .ref c']))) c' (LamX.CodeO c' (X.env.qual ++ "<lambda>"))) := fun p hp => by
      by_cases hb : p.1 = P
      · rw [hu p hp hb, hb]
        refine ⟨_, by rw [upd_ne (ne_of_none hP nC), upd_same], by rw [eL]; exact PySem.TriplesOk_snoc _ _ _ _ ht, fun p' cv hcv => ?_⟩
        rw [eL] at hcv
        rcases NdefX.among_app2 _ ht hcv with z | ⟨z, z1, z2⟩
        · obtain ⟨c0, e1, e2⟩ := ha p' cv z
          exact ⟨c0, e1, hE _ _ e2 LamX.codeO_ne⟩
        · refine ⟨c', z, ?_⟩
          rw [← z1, ← z2, hn]
          exact upd_same
      · obtain ⟨ps', a1, a2, a3⟩ := hT p hp
        refine ⟨ps', by rw [upd_ne (ne_of_none a1 nC), upd_ne hb]; exact a1, a2, fun p' cv hcv => ?_⟩
        obtain ⟨c0, e1, e2⟩ := a3 p' cv hcv
        exact ⟨c0, e1, hE _ _ e2 LamX.codeO_ne⟩
    have nF := I1.hok.fresh (Nat.le_refl _)
    have I2 := inv_fnL (q := X.env.qual ++ "<lambda>") (ps := params) (b := body) (sc := scope) (cl := cloFrom X.env.cells scope.names []) (c := c') (pm := (X.mg "__name__").getD .none) (ctv := ctv) (t' := tk) I1
    refine h h'.objs.size c' _ _ I2 (fun b o e n => ?_) (fun b e => NdefX.upd_none (NdefX.upd_none (NdefX.upd_none e))) (T1.ext fun b o e => ?_) (I.hok.fresh (Nat.le_trans hge (Nat.le_of_lt hlt))) upd_same ?_
    · have e1 := hE b o e n
      exact (upd_ne (ne_of_none e1 nF)).trans e1
    · exact (upd_ne (ne_of_none e nF)).trans e
    · exact (upd_ne (Nat.ne_of_lt hlt)).trans upd_same
  | some cv =>
    obtain ⟨c', e, hco⟩ := ha pos cv hc
    subst e
    rw [hn] at hco
    refine PySem.W.kla_makeFunctionHit (mg := X.mg) (c := c) (P := P) (ps := ps) (closure_ok hfree) I.ok.glob (I.mod.glob.keeps I.bk) hcode (TB.code.keeps I.bk) hP' ht hc bP fun ctv h' tk hx hsz => ?_
    have I1 : Inv X pins σ H { s with heap := h', toks := tk } := I.kept hx
    have nF : H h'.objs.size = none := I1.hok.fresh (Nat.le_refl _)
    have I2 := inv_fnL (q := X.env.qual ++ "<lambda>") (ps := params) (b := body) (sc := scope) (cl := cloFrom X.env.cells scope.names []) (c := c') (pm := (X.mg "__name__").getD .none) (ctv := ctv) (t' := tk) I1
    refine h h'.objs.size c' _ _ I2 (fun b o e n => ?_) (fun b e => NdefX.upd_none e) (hT.ext fun b o e => ?_) nF upd_same ?_
    · exact (upd_ne (ne_of_none e nF)).trans e
    · exact (upd_ne (ne_of_none e nF)).trans e
    · exact (upd_ne (ne_of_none hco nF)).trans hco
end
section
variable {G : GC} {W : WX} {X : Cx} {pos : Pos} {a b c : Expr} {es : List Expr} {P P1 P2 : Pl} {H H0 H1 H2 : Hp} {d : D} {v u : V} {vs : List V} {h h1 : Sh} {σ : L2.St} {cl : Cl} {A B C : EF} {T U : TF} {As Bs : AF}
/-- rows that stay, then what t says -/
def rdKt (G : GC) (W : WX) (e : En → Sh → Rs (List D)) (t : TA) : TA := fun σ H Q => ∃ P h en, Std G P h en σ H ∧ ERes G W σ P H (e en h) (fun ds h' P' H' => Ext P H P' H' → SR G P' H' h' → ∀ vs, RL G P' H' ds vs → t σ H' fun ws H2 => Q (vs ++ ws) H2)
theorem pa_nilKt {t : TA} {tl : List Expr} (ht : PA X tl t) : PA X tl (rdKt G W (arNil cl) t) := PA.imp ht fun σ H Q q => by
  obtain ⟨P, h, en, st, e⟩ := q
  exact e P H Ext.refl st.s Ext.refl st.s [] rfl
theorem pa_consKt {k : Nat} {t : TA} (ha : PE X a (rdE G W (A cl))) (hr : PA X es (rdKt G W (As cl) t)) (hs : starEach (a :: es) X.env = (false, eval a X.env) :: starEach es X.env) : PA X (a :: es) (rdKt G W (arCons (k + 1) A As cl) t) :=
  PA.imp (pa_cons ha hr hs) fun σ H Q q => by
    obtain ⟨P, h, en, st, e⟩ := q
    have e : ERes G W σ P H ((A cl en h).bind fun d h => argD (k + 1) d h fun d h => (As cl en h).map fun ds => d :: ds) (fun ds h' P' H' => Ext P H P' H' → SR G P' H' h' → ∀ vs, RL G P' H' ds vs → t σ H' fun ws H2 => Q (vs ++ ws) H2) := e
    refine ⟨P, h, en, st, e.bind.imp fun d h1 P1 H1 x1 s1 e1 v r => ?_⟩
    cases k with
    | zero =>
      have e1 : ERes G W σ P H ((As cl en h1).map fun ds => fz d :: ds) (fun ds h' P' H' => Ext P H P' H' → SR G P' H' h' → ∀ vs, RL G P' H' ds vs → t σ H' fun ws H2 => Q (vs ++ ws) H2) := e1
      obtain ⟨P2, x2, we, s2, r2⟩ := fz_ok s1 x1 r
      exact ⟨P2, h1, en, st.on x2 s2, (ERes.re x2 e1).map.imp fun ds h2 P3 H3 x3 s3 q y3 z3 vs rs => q (x2.trans y3) z3 (v :: vs) (RL.cons (r2.ext y3.toWExt) rs)⟩
    | succ k =>
      have e1 : ERes G W σ P H ((As cl en (own d h1).2).map fun ds => (own d h1).1 :: ds) (fun ds h' P' H' => Ext P H P' H' → SR G P' H' h' → ∀ vs, RL G P' H' ds vs → t σ H' fun ws H2 => Q (vs ++ ws) H2) := e1
      obtain ⟨P2, x2, we, s2, r2⟩ := own_ok s1 x1 r
      exact ⟨P2, (own d h1).2, en, st.on x2 s2, (ERes.re x2 e1).map.imp fun ds h2 P3 H3 x3 s3 q y3 z3 vs rs => q (x2.trans y3) z3 (v :: vs) (RL.cons (r2.ext y3.toWExt) rs)⟩
theorem pa_Kt (ha : PA X (es ++ []) (rdKt G W (As cl) tNil)) : PA X es (rdK G W (As cl)) := by
  rw [List.append_nil] at ha
  exact PA.imp ha fun σ H Q q => by
    obtain ⟨P, h, en, st, e⟩ := q
    exact ⟨P, h, en, st, e.imp fun ds h1 P1 H1 x1 s1 q y z vs r => by
      show Q (vs ++ []) H1
      rw [List.append_nil]
      exact q vs r⟩
theorem starOne {e : Expr} {rest : List Expr} {env : Env} (h : noStar e = true) : starEach (e :: rest) env = (false, eval e env) :: starEach rest env := by
  cases e <;> first | rfl | cases h
theorem starAny : ∀ {es : List Expr} {pos : Pos} {env : Env}, (∀ e ∈ es, noStar e = true) → (backTo pos (starEach es env)).any (·.1) = false
  | [], _, _, _ => rfl
  | e :: es, pos, env, h => by
    rw [starOne (h e (by simp))]
    have ih := starAny (pos := pos) (env := env) fun x hx => h x (List.mem_cons_of_mem _ hx)
    show (false || (backTo pos (starEach es env)).any (·.1)) = false
    rw [ih]
    rfl
/-- a lambda, new -/
def tLamV (G : GC) (q : Str) (ps : Arguments) (b : Expr) (sc : Scope) (cel : List (Str × Addr)) : TA := fun σ H Q => ∃ P h en, Std G P h en σ H ∧ ∀ f c' P' H', Ext P H P' H' → SR G P' H' (h.push .dead) → P'.A[h.n]? = some f → H' f = some (FnL f c' q ps b sc cel) → H' c' = some (LamX.CodeO c' q) → Q [.ref f] H'
theorem orNt {a : Addr} {o : O} (r : OR G P H a o) : ∃ u, H a = some u ∧ ∀ ps, u ≠ .tbl ps := by
  cases o with
  | lst ds => obtain ⟨xs, q, _⟩ := r; exact ⟨_, q, fun _ z => by cases z⟩
  | frz ds => obtain ⟨o, xs, q, _⟩ := r; exact ⟨_, q, fun _ z => by cases z⟩
  | dct ks ds => rcases r with ⟨kvs, q, _⟩ | ⟨kvs, _, q, _⟩ <;> exact ⟨_, q, (fun _ z => by cases z)⟩
  | ins c fs ds => obtain ⟨dx, xs, q, _⟩ := r; exact ⟨_, q, fun _ z => by cases z⟩
  | dead => obtain ⟨φ, q⟩ := r; exact ⟨_, q, fun _ z => by cases z⟩
theorem extN_ok (s : SR G P H h) (eN : LamX.ExtN H H1) (nn : ∀ b, H1 b = Option.none → H b = Option.none) (T1 : NdefX.TabsN G.tb H1) : Ext P H P H1 ∧ SR G P H1 h := by
  have x : Ext P H P H1 := ⟨⟨⟨[], by simp⟩, fun _ z => z, fun a o _ e t => eN a o e t, fun a φ e => eN a _ e (fun _ z => by cases z), fun a xs e => eN a _ e (fun _ z => by cases z), fun a o u e => eN a _ e (fun _ z => by cases z)⟩, fun _ z => .inl z, fun _ z => .inl z, fun a o e => by
    cases q : H1 a with
    | none => rw [nn a q] at e; cases e
    | some o' => exact ⟨o', rfl⟩, fun a o e _ t => eN a o e t⟩
  refine ⟨x, s.nd, s.wf, s.len, fun n o e => ?_, fun a z => ?_, T1, s.cloExt x.toWExt⟩
  · obtain ⟨a, h1, h2⟩ := s.obj n o e
    obtain ⟨u, q, t⟩ := orNt h2
    exact ⟨a, h1, h2.ext x.toWExt ((eN a u q t).trans q.symm)⟩
  · obtain ⟨n, o, e, t⟩ := s.zed a z
    exact ⟨n, o, eN a o e t.1, t⟩
/-- what the def's context knows of its table of code objects -/
structure LamC (G : GC) (X : Cx) : Prop where
  ex : ∃ (c P : Addr) (nm : Nat → Nat → Str), LamX.TabB X.base X.mg c P ∧ X.env.code = .ref c ∧ (P, nm) ∈ G.tb ∧ (∀ l k, nm l k = X.env.qual ++ "<lambda>") ∧ ∀ p ∈ G.tb, p.1 = P → p.2 = nm
  fn : ∀ x, X.fn x = true
theorem pa_lam {ps : Arguments} {sc : Scope} {lp : Pos} (lc : LamC G X) (hdef : defaultsOf ps X.env = ([], [])) (hfree : ∀ y ∈ sc.names, y.2 = .free → X.env.scope.names.lookup y.1 = some .cell ∨ X.env.scope.names.lookup y.1 = some .free) :
    PA X [.Lambda ps b sc lp] (tLamV G (X.env.qual ++ "<lambda>") ps b sc (cloFrom X.env.cells sc.names [])) := by
  obtain ⟨c, Pt, nm, TB, hcode, hm, hn, hu⟩ := lc.ex
  refine ⟨fun pos pins s σ H Q I q => ?_⟩
  obtain ⟨P, h, en, st, q⟩ := q
  have hfr : ∀ y ∈ sc.names, y.2 = .free → ∃ c, X.env.cells.lookup y.1 = some c := fun y hy e => (hfree y hy e).elim (fun z => I.ok.has _ (.inl z)) fun z => I.ok.has _ (.inr z)
  show wpAny _ _ (spliced ((false, eval (.Lambda ps b sc lp) X.env) :: backTo pos (starEach [] X.env))) _ _ s
  refine Calls.spliced_cons (lam_make3 I TB hcode hm (hn _ _) hu st.s.tab hdef hfr fun f c' H1 s' I1 eN nn T1 f0 f1 c1 => ?_)
  obtain ⟨x, s1⟩ := extN_ok st.s eN nn T1
  have nA := st.s.free f0
  have nZ := st.s.freeZ f0
  refine Calls.spliced_nil ⟨[.ref f], H1, I1, .cons rfl .nil, q f c' (P.own f) H1 (x.own f0) (s1.own (o := .dead) nA nZ ⟨_, f1⟩) ?_ f1 c1⟩
  show (P.A ++ [f])[h.n]? = _
  rw [← st.s.len, List.getElem?_append_right (Nat.le_refl _)]
  simp
end
end Pv
end
section
set_option Elab.async false
set_option linter.all false
set_option maxRecDepth 100000
set_option maxHeartbeats 4000000
set_option autoImplicit false
/-! a def called with a lambda as the last argument. -/
namespace Pv
open PySem L2 PySem.Spec PyProof.Rows PySem.W
section
variable {G : GC} {W : WX} {X : Cx} {pos : Pos} {a b c : Expr} {es : List Expr} {P P1 P2 : Pl} {H H0 H1 H2 : Hp} {d : D} {v u : V} {vs : List V} {h h1 : Sh} {σ : L2.St} {cl : Cl} {A B C : EF} {T U : TF} {As Bs : AF} {cs : List Addr} {hp : Heap}
theorem frz_sr (s : SR G P H h) (r : Raw cs hp H) : SR G P (frzC cs hp H) h := s.grow r.grow
theorem thaw_ext (r : Raw cs hp H) (x : Ext P (frzC cs hp H) P1 H1) (cc : Cells cs H1) : Ext P H P1 (hide cs H1) := by
  have nt : ∀ b o, H b = some o → ∀ o', H1 b = some o' → hide cs H1 b = some o' := fun b o e o' e' => (hide_out fun m => by rw [(r b m).1] at e; cases e).trans e'
  have g := r.grow
  refine ⟨⟨x.pre, x.zz, fun a o z e t => nt a o e o (x.kz a o z (g a o e) t), fun a φ e => nt a _ e _ (x.xx a φ (g a _ e)), fun a xs e => nt a _ e _ (x.tup a xs (g a _ e)), fun a o u e => nt a _ e _ (x.frz a o u (g a _ e))⟩, fun a ha => ?_, fun a ha => ?_, fun a o e => ?_, fun a o e n t => nt a o e o (x.keep a o (g a o e) n t)⟩
  · rcases x.fa a ha with z | z
    · exact .inl z
    · by_cases m : a ∈ cs
      · exact .inr (r a m).1
      · exact .inr ((frzC_out m).symm.trans z)
  · rcases x.fz a ha with z | z
    · exact .inl z
    · by_cases m : a ∈ cs
      · exact .inr (r a m).1
      · exact .inr ((frzC_out m).symm.trans z)
  · obtain ⟨o', e'⟩ := x.dom a o (g a o e)
    exact ⟨o', nt a o e o' e'⟩
theorem thaw_rt (s1 : SR G P1 H1 h1) (r : Raw cs hp H) (cc : Cells cs H1) (rt : RT G P1 H1 (frzC cs hp H) d v) : RT G P1 (hide cs H1) H d v := by
  have w0 := hide_w0 s1 cc
  by_cases e : isTmp d = false
  · exact RT.of e (R.ext0 w0 _ _ (rt.r e))
  · cases d <;> first | exact absurd rfl e | skip
    · obtain ⟨p, a, b, c, z, l⟩ := rt
      obtain ⟨o, q, t⟩ := lst_nt l
      obtain ⟨xs, q1, _⟩ := id l
      have m : p ∉ cs := cc.out q1 fun _ _ z => by cases z
      exact ⟨p, a, (frzC_out m).symm.trans b, c, z, LstAt.ext0 w0 (hide_out m) l⟩
    · obtain ⟨p, a, b, c, z, l⟩ := rt
      have m : p ∉ cs := by
        rcases l with ⟨kvs, q1, _⟩ | ⟨kvs, _, q1, _⟩ <;> exact cc.out q1 fun _ _ z => by cases z
      exact ⟨p, a, (frzC_out m).symm.trans b, c, z, DctAt.ext0 w0 (hide_out m) l⟩
theorem getAll_ok {en : En} (rs : RS G P H en σ) : ∀ {js : List Nat} {cs : List D}, getAll en js = some cs → ∃ ws, RL G P H cs ws ∧ ws.length = js.length ∧ ∀ (i : Nat) (v : V), ws[i]? = some v → ∃ j, js[i]? = some j ∧ σ[j]? = some (some v)
  | [], cs, e => by
    cases e
    exact ⟨[], rfl, rfl, fun i v z => by simp at z⟩
  | j :: js, cs, e => by
    have e : (opt' (nthK en j) none fun o => opt' o none fun d => opt' (getAll en js) none fun ds => some (d :: ds)) = some cs := e
    obtain ⟨o, e1, e⟩ := opt_some e
    obtain ⟨d, e2, e⟩ := opt_some e
    obtain ⟨ds, e3, e⟩ := opt_some e
    cases e
    subst e2
    rw [nthK_eq] at e1
    obtain ⟨v, hv, rv⟩ := rs.at_ j d e1
    obtain ⟨ws, r, l, q⟩ := getAll_ok rs e3
    refine ⟨v :: ws, RL.cons rv r, by simp [l], fun i u z => ?_⟩
    cases i with
    | zero => cases z; exact ⟨j, rfl, hv⟩
    | succ i =>
      obtain ⟨j', h1, h2⟩ := q i u (by simpa using z)
      exact ⟨j', by simpa using h1, h2⟩
/-- the captured cells of a lambda that this frame makes -/
theorem clo_here {js : List Nat} {cs : List D} {ps : Arguments} {sc : Scope} {np ns : Nat} {bT : Pv.T} {en : En} {q : Str} {f c' : Addr} {pins : List (Addr × Obj)} {s : Shared} (I : Inv X pins σ H s) (rs : RS G P H en σ) (hfn : ∀ x, X.fn x = true)
    (hfree : ∀ y ∈ sc.names, y.2 = .free → X.env.scope.names.lookup y.1 = some .cell ∨ X.env.scope.names.lookup y.1 = some .free) (hjs : js.map (fun j => X.N[j]?) = (freeOf sc.names).map some) (hlam : G.lam np ns bT (freeOf sc.names) ps b sc)
    (e : getAll en js = some cs) (f1 : H f = some (FnL f c' q ps b sc (cloFrom X.env.cells sc.names []))) (c1 : H c' = some (LamX.CodeO c' q)) :
    Raw (capC (cloFrom X.env.cells sc.names [])) s.heap H ∧ (∀ c ∈ capC (cloFrom X.env.cells sc.names []), ∀ o, X.base.get? c ≠ some o) ∧ (∀ c ∈ capC (cloFrom X.env.cells sc.names []), c ∉ frs X.stack) ∧
      CloAt G P (frzC (capC (cloFrom X.env.cells sc.names [])) s.heap H) f ⟨np, ns, bT, cs⟩ := by
  have fr_mem : ∀ {l : List (Str × NameKind)} {y : Str}, y ∈ freeOf l ↔ (y, NameKind.free) ∈ l := by
    intro l y
    induction l with
    | nil => simp [freeOf]
    | cons x r ih =>
      obtain ⟨n, k⟩ := x
      cases k <;> simp [freeOf, ih]
  have hf : ∀ y ∈ sc.names, y.2 = .free → ∃ c, X.env.cells.lookup y.1 = some c := fun y hy e => (hfree y hy e).elim (fun z => I.ok.has _ (.inl z)) fun z => I.ok.has _ (.inr z)
  have caps := NdefX.Caps.made (fr := freeOf sc.names) (js := js) I.ok hfree (fun y hy => fr_mem.mp hy) hjs
  have CA := NdefX.cells_of I caps
  have raw : Raw (capC (cloFrom X.env.cells sc.names [])) s.heap H := fun c m => by
    obtain ⟨y, ey⟩ := mem_capC.mp m
    obtain ⟨n, v, o, ho, _⟩ := CA.all y c ey
    exact ⟨n, o, ho⟩
  have ge : ∀ c ∈ capC (cloFrom X.env.cells sc.names []), X.s_0.heap.objs.size ≤ c := fun c m => by
    obtain ⟨y, ey⟩ := mem_capC.mp m
    exact I.ok.cab y c (hfn y) (caps.sub y c ey)
  obtain ⟨ws, rw_, lw, at_⟩ := getAll_ok rs e
  have ljs : js.length = (freeOf sc.names).length := by
    have z := congrArg List.length hjs
    rw [List.length_map, List.length_map] at z
    exact z
  have g := raw.grow
  have look : ∀ (i : Nat) (y : Str), (freeOf sc.names)[i]? = some y → ∃ v c, ws[i]? = some v ∧ (cloFrom X.env.cells sc.names []).lookup y = some c ∧ CellZ (frzC (capC (cloFrom X.env.cells sc.names [])) s.heap H) c v := fun i y ey => by
    have il : i < ws.length := by rw [lw, ljs]; exact (List.getElem?_eq_some_iff.mp ey).1
    have ew : ws[i]? = some ws[i] := List.getElem?_eq_getElem il
    obtain ⟨j, ej, es⟩ := at_ i _ ew
    obtain ⟨c, ec, hv⟩ := CA.has i y ey
    obtain ⟨u, ru, o, ho, hd⟩ := hv ws[i] (by rw [List.getElem?_map, ej]; show some (NdefX.slotAt σ j) = _; rw [NdefX.slotAt_of es])
    exact ⟨ws[i], c, ew, ec, o, u, frzC_in (mem_capC.mpr ⟨y, ec⟩) ho, hd, ru⟩
  refine ⟨raw, fun c m o q => ?_, fun c m z => ?_, c', q, ps, b, sc, cloFrom X.env.cells sc.names [], freeOf sc.names, ws, g _ _ f1, g _ _ c1, hlam, RL.ext (Ext.grow g).toWExt _ _ rw_, by rw [lw, ljs], fun y c ey => ?_, CA.inj, fun i y v ey ev => ?_⟩
  · exact absurd (Nat.lt_of_lt_of_le (Heap.lt_size q) (Nat.le_trans I.ok.bsz (ge c m))) (Nat.lt_irrefl _)
  · rcases List.mem_cons.mp (I.stkSub _ z) with e | e
    · obtain ⟨y, ey⟩ := mem_capC.mp m
      exact I.cne y c (caps.sub y c ey) e
    · obtain ⟨_, o, ho, _⟩ := I.ok.funs.mem e
      exact absurd (Nat.lt_of_lt_of_le (Heap.lt_size ho) (ge c m)) (Nat.lt_irrefl _)
  · have hy : (y, NameKind.free) ∈ sc.names := by
      rcases cloFrom_mem (PySem.mem_of_lookup ey) with hm | ⟨h1, _⟩
      · cases hm
      · exact h1
    obtain ⟨i, hi⟩ := List.mem_iff_getElem?.mp (fr_mem.mpr hy)
    obtain ⟨v, c2, _, ec, z⟩ := look i y hi
    rw [ey] at ec
    cases ec
    exact ⟨v, z⟩
  · obtain ⟨v2, c, ew, ec, z⟩ := look i y ey
    rw [ev] at ew
    cases ew
    exact ⟨c, ec, z⟩
theorem eq_consL {α : Type} (es : List α) (x : α) : ∃ e0 rest, es ++ [x] = e0 :: rest := by
  cases es with
  | nil => exact ⟨x, [], rfl⟩
  | cons e es => exact ⟨e, es ++ [x], rfl⟩
/-- f(.., lambda ..: ..) -/
theorem pe_callcV {j k f np ns : Nat} {bT : Pv.T} {js : List Nat} {x : Str} {p lp : Pos} {ps : Arguments} {sc : Scope} (F : Fd G X cl k f) (tk : Takes X W) (hr : Room j X.A) (hk : k ≤ j) (hg : Gl X x) (hm : X.mg x = some (.ref (G.F f))) (hd : (x == ("__debug__" : Str)) = false)
    (ha : ∀ t, PA X [.Lambda ps b sc lp] t → PA X (es ++ [.Lambda ps b sc lp]) (rdKt G W (As cl) t)) (hst : ∀ e ∈ es, noStar e = true) (lc : LamC G X) (hdef : defaultsOf ps X.env = ([], []))
    (hfree : ∀ y ∈ sc.names, y.2 = .free → X.env.scope.names.lookup y.1 = some .cell ∨ X.env.scope.names.lookup y.1 = some .free) (hjs : js.map (fun j => X.N[j]?) = (freeOf sc.names).map some) (hlam : G.lam np ns bT (freeOf sc.names) ps b sc) :
    PE X (.Call (.Name x p) (es ++ [.Lambda ps b sc lp]) [] pos) (rdE G W (exCallc f As np ns bT js cl)) := by
  obtain ⟨fd, pr, Fn, bi, kp⟩ := F.ex
  have ha := ha _ (pa_lam lc hdef hfree)
  have hst : ∀ e ∈ es ++ [.Lambda ps b sc lp], noStar e = true := fun e he => by
    rcases List.mem_append.mp he with z | z
    · exact hst e z
    · have : e = .Lambda ps b sc lp := by simpa using z
      rw [this]; rfl
  obtain ⟨e0, rest, heq⟩ := eq_consL es (.Lambda ps b sc lp)
  rw [heq] at ha hst ⊢
  refine ⟨fun pins s σ H Q I q => wpAny_Call_Name_kw (ld_glob I hg hm ?_ hd)⟩
  obtain ⟨P, h, en, st, e⟩ := q
  have e : ERes G W σ P H ((As cl en h).bind fun ds h => opt' (getAll en js) .stuck fun cs => bif' (noTmps cs) ((cl.f f (ds ++ [.obj h.n]) ((h.push .dead).withC ((h.n, ⟨np, ns, bT, cs⟩) :: h.c))).wC h.c) .stuck) (fun d _ P' H' => ∀ v, RT G P' H' H d v → Q v H') := e
  refine PySem.W.callWith_K (h₀ := X.base) I.ok.mod.kin kp (thn (ha.run pos pins s σ H (fun vs H1 => ∃ (P1 : Pl) (h0 : Sh) (ds cs : List D) (vs0 : List V) (f0 c' : Addr), vs = vs0 ++ [.ref f0] ∧ RL G P1 H1 ds vs0 ∧ SR G P1 H1 (h0.push .dead) ∧ (∀ x, x ∈ h0.c → ∃ a, P1.A[x.1]? = some a ∧ CloAt G P1 H1 a x.2) ∧ P1.A[h0.n]? = some f0 ∧
      H1 f0 = some (FnL f0 c' (X.env.qual ++ "<lambda>") ps b sc (cloFrom X.env.cells sc.names [])) ∧ H1 c' = some (LamX.CodeO c' (X.env.qual ++ "<lambda>")) ∧ Ext P H P1 H1 ∧ RS G P1 H1 en σ ∧ getAll en js = some cs ∧
      ERes G W σ P H ((cl.f f (ds ++ [.obj h0.n]) ((h0.push .dead).withC ((h0.n, ⟨np, ns, bT, cs⟩) :: h0.c))).wC h0.c) (fun d _ P' H' => ∀ v, RT G P' H' H d v → Q v H')) I
      ⟨P, h, en, st, e.bind.imp fun ds h1 P1 H1 x1 s1 e1 _ _ vs r => ⟨P1, h1, en, st.on x1 s1, fun f0 c' P2 H2 x2 s2 hA hf hc => ?_⟩⟩) fun us s1 hh => ?_) (starOne (hst e0 (by simp))) (starAny fun e he => hst e (List.mem_cons_of_mem _ he))
  · cases k1 : getAll en js with
    | none => rw [k1] at e1; exact e1.elim
    | some cs =>
      rw [k1] at e1
      have e1 : ERes G W σ P H (bif' (noTmps cs) ((cl.f f (ds ++ [.obj h1.n]) ((h1.push .dead).withC ((h1.n, ⟨np, ns, bT, cs⟩) :: h1.c))).wC h1.c) .stuck) (fun d _ P' H' => ∀ v, RT G P' H' H d v → Q v H') := e1
      cases k2 : noTmps cs with
      | false => rw [k2] at e1; exact e1.elim
      | true =>
        rw [k2] at e1
        exact ⟨P2, h1, ds, cs, vs, f0, c', rfl, RL.ext x2.toWExt _ _ r, s2, s1.cloExt x2.toWExt, hA, hf, hc, x1.trans x2, st.r.ext (x1.trans x2).toWExt, rfl, e1⟩
  · obtain ⟨vs, H1, I1, rv, P1, h0, ds, cs, vs0, f0, c', rfl, rl, s1', k0, hA, hf, hc, x1, rs, hga, e1⟩ := hh
    refine ⟨I1.kIn, ?_⟩
    obtain ⟨raw, nb, nf, ca⟩ := clo_here (np := np) (ns := ns) (bT := bT) I1 rs lc.fn hfree hjs hlam hga hf hc
    have g := raw.grow
    have xg : Ext P1 H1 P1 (frzC (capC (cloFrom X.env.cells sc.names [])) s1.heap H1) := Ext.grow g
    have s2 : SR G P1 (frzC (capC (cloFrom X.env.cells sc.names [])) s1.heap H1) ((h0.push .dead).withC ((h0.n, ⟨np, ns, bT, cs⟩) :: h0.c)) := (frz_sr s1' raw).addC fun y m => by
      rcases List.mem_cons.mp m with z | z
      · subst z
        exact ⟨f0, hA, ca⟩
      · obtain ⟨a, h1, h2⟩ := k0 y z
        exact ⟨a, h1, h2.ext xg.toWExt⟩
    have rl2 : RL G P1 (frzC (capC (cloFrom X.env.cells sc.names [])) s1.heap H1) (ds ++ [.obj h0.n]) (vs0 ++ [.ref f0]) := (RL.ext xg.toWExt _ _ rl).append (RL.cons (show R G _ _ (.obj h0.n) (.ref f0) from ⟨f0, rfl, hA⟩) RL.nil)
    have sp : spF G (cl.f f) (vs0 ++ [.ref f0]) (frzC (capC (cloFrom X.env.cells sc.names [])) s1.heap H1) (fun v H' => Cells (capC (cloFrom X.env.cells sc.names [])) H' → Q v (hide (capC (cloFrom X.env.cells sc.names [])) H')) (fun k d H' => Cells (capC (cloFrom X.env.cells sc.names [])) H' → WE W σ k d (hide (capC (cloFrom X.env.cells sc.names [])) H')) := by
      refine ⟨P1, _, _, s2, rl2, ?_⟩
      cases k3 : cl.f f (ds ++ [.obj h0.n]) ((h0.push .dead).withC ((h0.n, ⟨np, ns, bT, cs⟩) :: h0.c)) with
      | stuck => rw [k3] at e1; exact e1.elim
      | ok d h' =>
        rw [k3] at e1
        have e1 : ∀ P' H', Ext P H P' H' → SR G P' H' (h'.withC h0.c) → ∀ v, RT G P' H' H d v → Q v H' := e1
        intro P' H' x' s' v rt cc
        have x2 := thaw_ext raw x' cc
        refine e1 P' _ (x1.trans x2) (s'.hidden cc fun y m => ?_) v ((thaw_rt s' raw cc rt).weak fun p => x1.back)
        obtain ⟨a, h1, h2⟩ := k0 y m
        exact ⟨a, x2.toWExt.at_ h1, h2.ext x2.toWExt⟩
      | exc kx h' =>
        rw [k3] at e1
        have e1 : ∀ P' H', Ext P H P' H' → SR G P' H' (h'.withC h0.c) → ∀ d, W (G.xc kx) d σ H' := e1
        intro P' H' x' s' d cc
        have x2 := thaw_ext raw x' cc
        refine e1 P' _ (x1.trans x2) (s'.hidden cc fun y m => ?_) d
        obtain ⟨a, h1, h2⟩ := k0 y m
        exact ⟨a, x2.toWExt.at_ h1, h2.ext x2.toWExt⟩
    have hl : us.length = pr.length := by rw [← rv.length]; exact Fn.len _ _ _ _ sp
    have bd := bi s1 us I1.kIn (by rw [List.append_nil]; exact hl)
    rw [List.append_nil] at bd
    show wpAny _ _ (call (.ref (G.F f)) us) _ _ _
    refine wpAny_call (codeAny_mono (Fn.run X.A X.stack s1 _ ⟨us, []⟩ us _ _ _ (hr.mono hk) (frz_env raw nb nf I1.env0) bd rv sp) fun r s' hq => ?_)
    have hq := thaw_cr raw nf hq
    cases r with
    | error e => exact passAt tk σ pins H1 s1 e s' I1 hq
    | ok fl =>
      cases fl with
      | ret u => exact I1.after hq
      | next => exact False.elim hq
      | brk => exact False.elim hq
      | cont => exact False.elim hq
end
end Pv
end
section
set_option Elab.async false
set_option linter.all false
set_option maxRecDepth 100000
set_option maxHeartbeats 4000000
set_option autoImplicit false
/-! the translation is sound: the checks' meaning, the context's facts. -/
namespace Pv
open PySem L2 PySem.Spec PyProof.Rows PySem.W
/-! #### the checks -/
theorem seq_t {x y : Str} (e : seq x y = true) : x = y := by rw [seq_eq] at e; exact of_decide_eq_true e
theorem seq_f {x y : Str} (e : seq x y = false) : x ≠ y := by rw [seq_eq] at e; exact of_decide_eq_false e
theorem lookS_eq {α : Type} (x : Str) : ∀ l : List (Str × α), lookS x l = l.lookup x
  | [] => rfl
  | (y, a) :: l => by
    rw [List.lookup_cons, lookS]
    cases q : seq y x with
    | true =>
      have := seq_t q
      subst this
      rw [beq_self_eq_true]
    | false =>
      have n := seq_f q
      have : (x == y) = false := by
        cases z : x == y with
        | false => rfl
        | true => exact absurd (beq_iff_eq.mp z).symm n
      rw [this]
      exact lookS_eq x l
theorem memS_mem {x : Str} : ∀ {l : List Str}, memS x l = true → x ∈ l
  | [], e => by cases e
  | y :: l, e => by
    rw [memS] at e
    cases q : seq y x with
    | true => rw [seq_t q]; exact List.mem_cons_self
    | false => rw [q] at e; exact List.mem_cons_of_mem _ (memS_mem e)
theorem memS_not {x : Str} : ∀ {l : List Str}, memS x l = false → x ∉ l
  | [], _ => by simp
  | y :: l, e => by
    rw [memS] at e
    cases q : seq y x with
    | true => rw [q] at e; cases e
    | false =>
      rw [q] at e
      intro m
      rcases List.mem_cons.mp m with z | z
      · exact seq_f q z.symm
      · exact memS_not e z
theorem ixS_at {x : Str} : ∀ {l : List Str} {i : Nat}, ixS x l = some i → l[i]? = some x
  | [], i, e => by cases e
  | y :: l, i, e => by
    rw [ixS] at e
    cases q : seq y x with
    | true =>
      rw [q] at e
      cases e
      rw [seq_t q]
      rfl
    | false =>
      rw [q] at e
      cases q2 : ixS x l with
      | none => rw [q2] at e; cases e
      | some j =>
        rw [q2] at e
        cases e
        exact (List.getElem?_cons_succ).trans (ixS_at q2)
theorem nth_at {α : Type} {l : List α} {i : Nat} {x : α} (e : nth l i = some x) : l[i]? = some x := by rw [← nth_eq]; exact e
theorem okN_ok {x : Str} (e : okN x = true) : (x == ("__debug__" : Str)) = false ∧ (x == ("__classdict__" : Str)) = false ∧ x ≠ "__name__" := by
  unfold okN at e
  simp only [Bool.not_eq_true', Bool.or_eq_false_iff] at e
  have k : ∀ {a b : Str}, a ≠ b → (a == b) = false := fun {a b} n => by
    cases z : a == b with
    | false => rfl
    | true => exact absurd (beq_iff_eq.mp z) n
  exact ⟨k (seq_f e.1), k (seq_f e.2.1), seq_f e.2.2⟩
theorem visB_ok {sc : Scope} {x : Str} (e : visB sc x = true) : Vis sc x := by
  unfold visB at e
  rw [lookS_eq] at e
  cases q : sc.names.lookup x with
  | none => rw [q] at e; cases e
  | some k =>
    rw [q] at e
    cases k <;> first | exact .inl q | exact .inr (.inl q) | exact .inr (.inr q) | cases e
theorem locB_ok {sc : Scope} {x : Str} (e : locB sc x = true) : Loc sc x := by
  unfold locB at e
  rw [lookS_eq] at e
  cases q : sc.names.lookup x with
  | none => rw [q] at e; cases e
  | some k =>
    rw [q] at e
    cases k <;> first | exact .inl q | exact .inr q | cases e
theorem lcl_ok {sc : Scope} {x : Str} (e : lcl sc x = true) : sc.names.lookup x = some .local := by
  unfold lcl at e
  rw [lookS_eq] at e
  cases q : sc.names.lookup x with
  | none => rw [q] at e; cases e
  | some k => rw [q] at e; cases k <;> first | rfl | cases e
theorem gloB_ok {sc : Scope} {x : Str} (e : gloB sc x = true) : sc.names.lookup x = some .globalImplicit := by
  unfold gloB at e
  rw [lookS_eq] at e
  cases q : sc.names.lookup x with
  | none => rw [q] at e; cases e
  | some k => rw [q] at e; cases k <;> first | rfl | cases e
/-- a match on a Bool that is some -/
theorem mt_some {α : Type} {b : Bool} {x : Option α} {t : α} (e : (match b with | true => x | false => none) = some t) : b = true ∧ x = some t := by
  cases b with
  | true => exact ⟨rfl, e⟩
  | false => cases e
theorem m1_some {a : Option T} {f : T → T} {t : T} (e : m1 a f = some t) : ∃ x, a = some x ∧ t = f x := by
  cases a with
  | none => cases e
  | some x => cases e; exact ⟨x, rfl, rfl⟩
theorem m2_some {a b : Option T} {f : T → T → T} {t : T} (e : m2 a b f = some t) : ∃ x y, a = some x ∧ b = some y ∧ t = f x y := by
  cases a with
  | none => cases e
  | some x =>
    cases b with
    | none => cases e
    | some y => cases e; exact ⟨x, y, rfl, rfl, rfl⟩
theorem m3_some {a b d : Option T} {f : T → T → T → T} {t : T} (e : m3 a b d f = some t) : ∃ x y z, a = some x ∧ b = some y ∧ d = some z ∧ t = f x y z := by
  cases a with
  | none => cases e
  | some x =>
    obtain ⟨y, z, h1, h2, h3⟩ := m2_some (show m2 b d (f x) = some t from e)
    exact ⟨x, y, z, rfl, h1, h2, h3⟩
theorem and_tt {a b : Bool} (e : (a && b) = true) : a = true ∧ b = true := by simpa using e
/-- the targets of a term -/
def tgs : T → List Nat
  | .gname i _ => [i]
  | .gtup _ g => tgs g
  | .cons _ a b => tgs a ++ tgs b
  | _ => []
theorem allIn_go {i : Nat} : ∀ {is : List Nat}, allIn.go i is = true → i ∈ is
  | [], e => by cases e
  | j :: r, e => by
    rw [allIn.go] at e
    cases q : Nat.beq j i with
    | true => rw [Nat.eq_of_beq_eq_true q]; exact List.mem_cons_self
    | false => rw [q] at e; exact List.mem_cons_of_mem _ (allIn_go e)
theorem allIn_ok {is : List Nat} : ∀ {t : T}, allIn is t = true → ∀ i ∈ tgs t, i ∈ is := by
  intro t
  induction t with
  | gname i k => intro e j hj; have : j = i := by simpa [tgs] using hj
                 rw [this]; exact allIn_go e
  | gtup n g ih => intro e j hj; exact ih e j hj
  | cons k a b iha ihb =>
    intro e j hj
    have e : (allIn is a && allIn is b) = true := e
    obtain ⟨e1, e2⟩ := and_tt e
    rcases List.mem_append.mp (show j ∈ tgs a ++ tgs b from hj) with z | z
    · exact iha e1 j z
    · exact ihb e2 j z
  | _ => intro _ j hj; simp [tgs] at hj
theorem memN_ok {i : Nat} : ∀ {l : List Nat}, memN i l = false → i ∉ l
  | [], _ => by simp
  | j :: r, e => by
    rw [memN] at e
    cases q : Nat.beq j i with
    | true => rw [q] at e; cases e
    | false =>
      rw [q] at e
      intro m
      rcases List.mem_cons.mp m with z | z
      · rw [z] at q
        have := Nat.beq_refl j
        rw [this] at q
        cases q
      · exact memN_ok e z
theorem argNames_eq : ∀ as : List Arg, argNames as = as.map (·.arg)
  | [] => rfl
  | a :: r => by rw [argNames, argNames_eq r]; rfl
theorem parsOf_ok {ps : Arguments} {xs : List Str} (e : parsOf ps = some xs) : ∃ as : List Arg, ps = { posonlyargs := [], args := as, vararg := none, kwonlyargs := [], kw_defaults := [], kwarg := none, defaults := [] } ∧ xs = as.map (·.arg) := by
  obtain ⟨po, as, va, ko, kd, kw, df⟩ := ps
  unfold parsOf at e
  split at e
  · rename_i h1 h2 h3 h4 h5 h6
    cases e
    dsimp only at h1 h2 h3 h4 h5 h6
    subst h1 h2 h3 h4 h5 h6
    exact ⟨as, rfl, (argNames_eq as)⟩
  · cases e
theorem frcB_ok {sc : Scope} : ∀ {xs : List Str}, frcB sc xs = true → ∀ x ∈ xs, sc.names.lookup x = some .cell ∨ sc.names.lookup x = some .free
  | [], _, x, h => by cases h
  | y :: ys, e, x, h => by
    rw [frcB, lookS_eq] at e
    cases q : sc.names.lookup y with
    | none => rw [q] at e; cases e
    | some k =>
      rw [q] at e
      have k2 : (k = .cell ∨ k = .free) ∧ frcB sc ys = true := by cases k <;> first | exact ⟨.inl rfl, e⟩ | exact ⟨.inr rfl, e⟩ | cases e
      rcases List.mem_cons.mp h with z | z
      · rw [z, q]
        rcases k2.1 with r | r <;> rw [r]
        · exact .inl rfl
        · exact .inr rfl
      · exact frcB_ok k2.2 x z
theorem freeOf_mem {l : List (Str × NameKind)} {y : Str} : y ∈ freeOf l ↔ (y, NameKind.free) ∈ l := by
  induction l with
  | nil => simp [freeOf]
  | cons x r ih =>
    obtain ⟨n, k⟩ := x
    cases k <;> simp [freeOf, ih]
theorem slotOf_ok {c : Ct} {x : Str} {i : Nat} (e : slotOf c x = some i) : okN x = true ∧ Vis c.sc x ∧ c.N[i]? = some x := by
  obtain ⟨e1, e2⟩ := mt_some e
  obtain ⟨e3, e4⟩ := and_tt e1
  exact ⟨e3, visB_ok e4, ixS_at e2⟩
theorem slotsOf_ok {c : Ct} : ∀ {xs : List Str} {js : List Nat}, slotsOf c xs = some js → js.map (fun j => c.N[j]?) = xs.map some
  | [], js, e => by cases e; rfl
  | x :: xs, js, e => by
    rw [slotsOf] at e
    cases e1 : slotOf c x with
    | none => rw [e1] at e; cases e
    | some i =>
      rw [e1] at e
      cases e2 : slotsOf c xs with
      | none => rw [e2] at e; cases e
      | some is =>
        rw [e2] at e
        cases e
        rw [List.map_cons, List.map_cons, (slotOf_ok e1).2.2, slotsOf_ok e2]
theorem glob_ok {c : Ct} {x : Str} {g : Gk} (e : glob c x = some g) : okN x = true ∧ c.sc.names.lookup x = some .globalImplicit ∧ lookS x c.gl = some g := by
  obtain ⟨e1, e2⟩ := mt_some e
  obtain ⟨e3, e4⟩ := and_tt e1
  exact ⟨e3, gloB_ok e4, e2⟩
theorem freeB_ok {c : Ct} {x : Str} (e : freeB c x = true) : okN x = true ∧ c.sc.names.lookup x = some .globalImplicit ∧ memS x c.fr = true := by
  unfold freeB at e
  cases q : okN x && gloB c.sc x with
  | false => rw [q] at e; cases e
  | true =>
    rw [q] at e
    obtain ⟨e3, e4⟩ := and_tt q
    exact ⟨e3, gloB_ok e4, e⟩
/-! #### the context -/
/-- a lambda's words, translated -/
def LamTr (gl : List (Str × Gk)) (fr0 att : List Str) (np ns : Nat) (b : T) (fr : List Str) (ps : Arguments) (e : Expr) (sc : Scope) : Prop :=
  ∃ n as, LamT np ns fr ps sc as ∧ (tr n).e ⟨as.map (·.arg) ++ fr, sc, gl, fr0, [], att, false⟩ e = some b
/-- a def that is called: its promise at depth k -/
def FdB (G : GC) (Pr : Program) (w : World) (K : PySem.W.Frag) (mg : Str → Option Value) (base : Heap) (cl : Cl) (k f : Nat) : Prop :=
  ∃ fd ps, FnOk Pr w K mg base (L2.CX Pr w) k (G.F f) fd ps (spF G (cl.f f)) ∧ L2.Binds K fd ps [] ∧ PySem.W.keepIn K (.ref (G.F f)) = true
def GkOk (G : GC) (Pr : Program) (w : World) (K : PySem.W.Frag) (mg : Str → Option Value) (base : Heap) (cl : Cl) (k : Nat) (x : Str) : Gk → Prop
  | .fn f _ => mg x = some (.ref (G.F f)) ∧ FdB G Pr w K mg base cl k f
  | .cls kk f _ => mg x = some (.ref (G.F kk)) ∧ Mk K (G.F kk) (G.F f) ∧ FdB G Pr w K mg base cl k f
  | .con d => ∃ v w, mg x = some w ∧ L2.RelV v w ∧ ∀ P H, R G P H d v
/-- what holds wherever the text stands -/
structure Glb (G : GC) (B : Tb) (Pr : Program) (w : World) (K : PySem.W.Frag) (mg : Str → Option Value) (base : Heap) (cl : Cl) (k : Nat) (gl : List (Str × Gk)) (fr att : List Str) : Prop where
  ok : GOk G B
  hK : K = G.K ∧ w = G.w
  egl : ∀ x g, lookS x gl = some g → GkOk G Pr w K mg base cl k x g
  efr : ∀ x, memS x fr = true → mg x = none
  lsz : cl.n ≤ sizeLine
  eatt : ∀ f i, ixS f att = some i → G.att i = f
  meth : ∀ m c f, B.m c m = some f → FdB G Pr w K mg base cl k f
  fs : ∀ f fd, B.f.get 12 f = some fd → FdB G Pr w K mg base cl k f
  lo : LOk G Pr w K mg base k cl.l
  lamG : ∀ np ns b f ps e sc, LamTr gl fr att np ns b f ps e sc → G.lam np ns b f ps e sc
structure CtOk (G : GC) (B : Tb) (W : WX) (X : Cx) (cl : Cl) (k : Nat) (al : Nat → Prop) (c : Ct) : Prop where
  g : Glb G B X.prog X.w X.K X.mg X.base cl k c.gl c.fr c.att
  N : X.N = c.N
  nd : c.N.Nodup
  sc : X.env.scope = c.sc
  kd : c.sc.kind = .function
  calm : X.calm = true
  room : Room (k + 1) X.A
  tk : Takes X W
  hp : PassesOwn (model X.prog X.w) X.A X.env X.xe
  al : ∀ i x, al i → c.N[i]? = some x → Loc c.sc x → X.fn x = true ∨ c.sc.names.lookup x = some .local
  lam : c.lm = true → LamC G X
section
variable {G : GC} {B : Tb} {W : WX} {X : Cx} {cl : Cl} {k : Nat} {al : Nat → Prop} {c : Ct}
theorem CtOk.kx (o : CtOk G B W X cl k al c) : X.env.scope.kind = .function := by rw [o.sc]; exact o.kd
theorem CtOk.hu (o : CtOk G B W X cl k al c) : X.A.units + 64 < cLine := o.room.units
theorem CtOk.slot (o : CtOk G B W X cl k al c) {x : Str} {i : Nat} (e : slotOf c x = some i) : X.N[i]? = some x ∧ Vis X.env.scope x ∧ (x == ("__debug__" : Str)) = false ∧ (x == ("__classdict__" : Str)) = false := by
  obtain ⟨e1, e2, e3⟩ := slotOf_ok e
  obtain ⟨n1, n2, _⟩ := okN_ok e1
  exact ⟨by rw [o.N]; exact e3, by rw [o.sc]; exact e2, n1, n2⟩
theorem CtOk.glob (o : CtOk G B W X cl k al c) {x : Str} {g : Gk} (e : glob c x = some g) : Gl X x ∧ (x == ("__debug__" : Str)) = false ∧ GkOk G X.prog X.w X.K X.mg X.base cl k x g := by
  obtain ⟨e1, e2, e3⟩ := glob_ok e
  obtain ⟨n1, n2, _⟩ := okN_ok e1
  exact ⟨by show X.env.scope.names.lookup x = _; rw [o.sc]; exact e2, n1, o.g.egl x g e3⟩
theorem CtOk.free (o : CtOk G B W X cl k al c) {x : Str} (e : freeB c x = true) : Gl X x ∧ X.mg x = none ∧ (x == ("__debug__" : Str)) = false ∧ x ≠ "__name__" := by
  obtain ⟨e1, e2, e3⟩ := freeB_ok e
  obtain ⟨n1, n2, n3⟩ := okN_ok e1
  exact ⟨by show X.env.scope.names.lookup x = _; rw [o.sc]; exact e2, o.g.efr x e3, n1, n3⟩
end
end Pv
end
section
set_option Elab.async false
set_option linter.all false
set_option maxRecDepth 100000
set_option maxHeartbeats 4000000
set_option autoImplicit false
/-! the translation is sound: plain expressions. -/
namespace Pv
open PySem L2 PySem.Spec PyProof.Rows PySem.W
/-- a row's terms, one by one -/
def Each (G : GC) (B : Tb) (W : WX) (X : Cx) (cl : Cl) : List Expr → T → Prop
  | [], t => t = .nil
  | e :: es, t => ∃ x y, t = .cons 0 x y ∧ noStar e = true ∧ PE X e (rdE G W ((comp B x).e cl)) ∧ Each G B W X cl es y
theorem Each.pa {G : GC} {B : Tb} {W : WX} {X : Cx} {cl : Cl} : ∀ {es : List Expr} {t : T}, Each G B W X cl es t → PA X es (rdA G W ((comp B t).a cl))
  | [], t, h => by
    have h : t = .nil := h
    subst h
    exact pa_nilV (cl := cl)
  | e :: es, t, h => by
    obtain ⟨x, y, rfl, h1, h2, h3⟩ := h
    exact pa_consV h2 (Each.pa h3) (starOne h1)
/-- a list comprehension's parts -/
def LcOk (G : GC) (B : Tb) (W : WX) (X : Cx) (cl : Cl) (c : Ct) (e : Expr) (gs : List Comprehension) (sc : Scope) (t : T) : Prop :=
  ∃ tg it ifs w g tt te, gs = [⟨tg, it, ifs, 0⟩] ∧ t = .lc (sndOf (ownOf c.N sc.names)) g w tt te ∧ BlkOk c.N c.sc sc (ownOf c.N sc.names) ∧ noSet it = true ∧ PI X tg it (rdI G W ((comp B w).w cl)) ∧ (∀ i ∈ tgs g, i ∈ (ownOf c.N sc.names).map (·.2)) ∧
      (∀ (s : Shared) (H : Hp) (C : Addr) (cls : List (Str × Addr)) (fp : List Addr), PG (X.blk s H sc (compEnvC sc cls C X.env) fp) tg (rdG G W0 ((comp B g).g cl) (tgs g))) ∧
      (∀ (s : Shared) (H : Hp) (C : Addr) (cls : List (Str × Addr)) (fp : List Addr), PTs (X.blk s H sc (compEnvC sc cls C X.env) fp) ifs (rdT G W0 ((comp B tt).t cl))) ∧
      (∀ (s : Shared) (H : Hp) (C : Addr) (cls : List (Str × Addr)) (fp : List Addr), PE (X.blk s H sc (compEnvC sc cls C X.env) fp) e (rdE G W0 ((comp B te).e cl)))
/-- each of its parts is sound -/
structure TrOk (G : GC) (B : Tb) (r : Tr) : Prop where
  e : ∀ {W : WX} {X : Cx} {cl : Cl} {k : Nat} {al : Nat → Prop} {c : Ct}, CtOk G B W X cl k al c → ∀ {x : Expr} {t : T}, r.e c x = some t → PE X x (rdE G W ((comp B t).e cl))
  t : ∀ {W : WX} {X : Cx} {cl : Cl} {k : Nat} {al : Nat → Prop} {c : Ct}, CtOk G B W X cl k al c → ∀ {x : Expr} {t : T}, r.e c x = some t → ∀ m, tstB m x = true → PT X x (rdT G W ((comp B t).t cl))
  b : ∀ {W : WX} {X : Cx} {cl : Cl} {k : Nat} {al : Nat → Prop} {c : Ct}, CtOk G B W X cl k al c → ∀ {op : BoolOp} {es : List Expr} {pos : Pos} {t : T}, r.e c (.BoolOp op es pos) = some t → ∀ m, tstB m (.BoolOp op es pos) = true → PW X (.BoolOp op es pos) (rdT G W ((comp B t).t cl))
  a0 : ∀ {W : WX} {X : Cx} {cl : Cl} {k : Nat} {al : Nat → Prop} {c : Ct}, CtOk G B W X cl k al c → ∀ {es : List Expr} {t : T}, r.a c 0 es = some t → Each G B W X cl es t
  a1 : ∀ {W : WX} {X : Cx} {cl : Cl} {k : Nat} {al : Nat → Prop} {c : Ct}, CtOk G B W X cl k al c → ∀ {es : List Expr} {t : T}, r.a c 1 es = some t → ∀ {tl : List Expr} {u : TA}, PA X tl u → PA X (es ++ tl) (rdKt G W ((comp B t).a cl) u)
  st : ∀ {c : Ct} {k : Nat} {es : List Expr} {t : T}, r.a c k es = some t → ∀ e ∈ es, noStar e = true
  nil : ∀ {c : Ct} {k : Nat} {t : T}, r.a c k [] = some t → t = .nil
  w : ∀ {W : WX} {X : Cx} {cl : Cl} {k : Nat} {al : Nat → Prop} {c : Ct}, CtOk G B W X cl k al c → ∀ {tg x : Expr} {t : T}, r.w c (isTup tg) x = some t → PI X tg x (rdI G W ((comp B t).w cl))
  g : ∀ {W : WX} {X : Cx} {cl : Cl} {k : Nat} {al : Nat → Prop} {c : Ct}, CtOk G B W X cl k al c → ∀ {kk : Bool} {x : Expr} {t : T}, r.g c kk x = some t → (∀ i ∈ tgs t, al i) → PG X x (rdG G W ((comp B t).g cl) (tgs t))
  gn : ∀ {W : WX} {X : Cx} {cl : Cl} {k : Nat} {al : Nat → Prop} {c : Ct}, CtOk G B W X cl k al c → ∀ {kk : Bool} {x : Expr} {t : T}, r.g c kk x = some t → (∀ i ∈ tgs t, al i) → (isNm t = true ∨ ∃ y p, x = .Name y p) → ∃ y p i keep, x = .Name y p ∧ t = .gname i keep ∧ X.N[i]? = some y ∧ Loc X.env.scope y ∧ (X.fn y = true ∨ X.env.scope.names.lookup y = some .local)
  lc : ∀ {W : WX} {X : Cx} {cl : Cl} {k : Nat} {al : Nat → Prop} {c : Ct}, CtOk G B W X cl k al c → ∀ {e : Expr} {gs : List Comprehension} {sc : Scope} {pos : Pos} {t : T}, r.e c (.ListComp e gs sc pos) = some t → LcOk G B W X cl c e gs sc t
  gs : ∀ {W : WX} {X : Cx} {cl : Cl} {k : Nat} {al : Nat → Prop} {c : Ct}, CtOk G B W X cl k al c → ∀ {kk : Bool} {es : List Expr} {t : T}, r.gs c kk es = some t → (∀ i ∈ tgs t, al i) → PGs X es (rdGs G W ((comp B t).gs cl) (tgs t))
  gst : ∀ {c : Ct} {kk : Bool} {es : List Expr} {t : T}, r.gs c kk es = some t → ∀ e ∈ es, noStar e = true
  s : ∀ {W : WX} {X : Cx} {cl : Cl} {k : Nat} {al : Nat → Prop} {c : Ct}, CtOk G B W X cl k al c → (∀ i, al i) → ∀ {x : Stmt} {t : T}, r.s c x = some t → PS X x (rdS G W ((comp B t).s cl))
  ss : ∀ {W : WX} {X : Cx} {cl : Cl} {k : Nat} {al : Nat → Prop} {c : Ct}, CtOk G B W X cl k al c → (∀ i, al i) → ∀ {x : List Stmt} {t : T}, r.ss c x = some t → PSs X x (rdS G W ((comp B t).s cl))
theorem trB_ok {G : GC} {B : Tb} : TrOk G B trB :=
  ⟨(by intro _ _ _ _ _ _ _ _ _ h; cases h), (by intro _ _ _ _ _ _ _ _ _ h; cases h), (by intro _ _ _ _ _ _ _ _ _ _ _ h; cases h), (by intro _ _ _ _ _ _ _ _ _ h; cases h), (by intro _ _ _ _ _ _ _ _ _ h; cases h), (by intro _ _ _ _ h; cases h), (by intro _ _ _ h; cases h), (by intro _ _ _ _ _ _ _ _ _ _ h; cases h), (by intro _ _ _ _ _ _ _ _ _ _ h; cases h), (by intro _ _ _ _ _ _ _ _ _ _ h; cases h), (by intro _ _ _ _ _ _ _ _ _ _ _ _ h; cases h), (by intro _ _ _ _ _ _ _ _ _ _ h; cases h), (by intro _ _ _ _ h; cases h), (by intro _ _ _ _ _ _ _ _ _ _ h; cases h), (by intro _ _ _ _ _ _ _ _ _ _ h; cases h)⟩
section
variable {G : GC} {B : Tb} {r : Tr} {W : WX} {X : Cx} {cl : Cl} {k : Nat} {al : Nat → Prop} {c : Ct} {pos : Pos} {t : T}
/-! #### names, constants -/
theorem s_name (o : CtOk G B W X cl k al c) {x : Str} (h : trName c x = some t) : PE X (.Name x pos) (rdE G W ((comp B t).e cl)) := by
  unfold trName at h
  cases q : slotOf c x with
  | some i =>
    rw [q] at h
    cases h
    obtain ⟨h1, h2, h3, h4⟩ := o.slot q
    rw [comp_slot]
    exact pe_slotV (cl := cl) h1 h2 h3 h4
  | none =>
    rw [q] at h
    cases q2 : glob c x with
    | none => rw [q2] at h; cases h
    | some g =>
      rw [q2] at h
      obtain ⟨h1, h2, h3⟩ := o.glob q2
      cases g with
      | fn f np =>
        cases h
        exact pe_globV (cl := cl) (v := .ref (G.F f)) h1 h3.1 rfl (fun _ _ => rfl) h2
      | cls kk f np => cases h
      | con d =>
        cases h
        obtain ⟨v, w, e1, e2, e3⟩ := h3
        exact pe_globV (cl := cl) h1 e1 e2 e3 h2
theorem s_const {j : Option Nat} {kc : Const} {u : _} (h : trConst kc = some t) : PE X (.Constant kc u pos) (rdE G W ((comp B t).e cl)) := by
  cases kc <;> first | (cases h; first | exact pe_intV (cl := cl) | exact pe_blV (cl := cl) | exact pe_nonV (cl := cl) | exact pe_strV (cl := cl)) | cases h
/-! #### rows of expressions -/
theorem s_a0 (r0 : TrOk G B r) (o : CtOk G B W X cl k al c) {es : List Expr} (h : trA r c 0 es = some t) : Each G B W X cl es t := by
  cases es with
  | nil => cases h; rfl
  | cons e es =>
    have h : (match noStar e with | true => m2 (r.e c e) (r.a c 0 es) (.cons 0) | false => none) = some t := h
    obtain ⟨h1, h2⟩ := mt_some h
    obtain ⟨x, y, e1, e2, rfl⟩ := m2_some h2
    exact ⟨x, y, rfl, h1, r0.e o e1, r0.a0 o e2⟩
theorem s_a1 (r0 : TrOk G B r) (o : CtOk G B W X cl k al c) {es : List Expr} (h : trA r c 1 es = some t) {tl : List Expr} {u : TA} (hu : PA X tl u) : PA X (es ++ tl) (rdKt G W ((comp B t).a cl) u) := by
  cases es with
  | nil => cases h; exact pa_nilKt (cl := cl) hu
  | cons e es =>
    have h : (match noStar e with | true => m2 (r.e c e) (r.a c 1 es) (.cons (match fresh e with | true => 2 | false => 1)) | false => none) = some t := h
    obtain ⟨h1, h2⟩ := mt_some h
    obtain ⟨x, y, e1, e2, rfl⟩ := m2_some h2
    cases fresh e with
    | true => exact pa_consKt (k := 1) (r0.e o e1) (r0.a1 o e2 hu) (starOne h1)
    | false => exact pa_consKt (k := 0) (r0.e o e1) (r0.a1 o e2 hu) (starOne h1)
theorem s_st (r0 : TrOk G B r) {kk : Nat} {es : List Expr} (h : trA r c kk es = some t) : ∀ e ∈ es, noStar e = true := by
  cases es with
  | nil => intro e he; cases he
  | cons e es =>
    unfold trA at h
    obtain ⟨h1, h2⟩ := mt_some h
    obtain ⟨x, y, e1, e2, rfl⟩ := m2_some h2
    intro e' he
    rcases List.mem_cons.mp he with z | z
    · rw [z]; exact h1
    · exact r0.st e2 e' z
theorem s_nil {kk : Nat} (h : trA r c kk [] = some t) : t = .nil := by cases h; rfl
/-- the rows that stay -/
theorem TrOk.ak (r0 : TrOk G B r) (o : CtOk G B W X cl k al c) {es : List Expr} (h : r.a c 1 es = some t) : PA X es (rdK G W ((comp B t).a cl)) := pa_Kt (r0.a1 o h (tl := []) (u := tNil) pa_nil)
/-! #### operators, comparisons -/
theorem s_bin (r0 : TrOk G B r) (o : CtOk G B W X cl k al c) {a b : Expr} {op : Operator} (h : (match opB op with | some o => m2 (r.e c a) (r.e c b) (.bin o) | none => none) = some t) : PE X (.BinOp a op b pos) (rdE G W ((comp B t).e cl)) := by
  cases q : opB op with
  | none => rw [q] at h; cases h
  | some o' =>
    rw [q] at h
    obtain ⟨x, y, e1, e2, rfl⟩ := m2_some h
    have : op = opOf o' := by cases op <;> first | (cases q; rfl) | cases q
    rw [this]
    exact pe_binV o.g.hK (r0.e o e1) (r0.e o e2)
theorem cmp_op (op : CmpOp) : cmpOf (opC op) = op := by cases op <;> rfl
theorem marks {op : CmpOp} {b : Expr} (h : noSet b = true) : behindInMarks op b = false := by
  cases b <;> first | rfl | cases h
theorem s_cmp (r0 : TrOk G B r) (o : CtOk G B W X cl k al c) {a : Expr} {ops : List CmpOp} {bs : List Expr} (h : trCmp r c a ops bs = some t) : PE X (.Compare a ops bs pos) (rdE G W ((comp B t).e cl)) ∧ PT X (.Compare a ops bs pos) (rdT G W ((comp B t).t cl)) := by
  unfold trCmp at h
  split at h
  · rename_i op b
    obtain ⟨h1, h2⟩ := mt_some h
    obtain ⟨x, y, e1, e2, rfl⟩ := m2_some h2
    have z := pe_cmpV (pos := pos) o.g.hK o.hu (o := opC op) (r0.e o e1) (r0.e o e2) (marks h1)
    have z2 := pt_cmpV (pos := pos) o.g.hK o.hu (o := opC op) (r0.e o e1) (r0.e o e2) (marks h1)
    rw [cmp_op] at z z2
    exact ⟨z, z2⟩
  · rename_i op p b d
    obtain ⟨h1, h2⟩ := mt_some h
    obtain ⟨x, y, w, e1, e2, e3, rfl⟩ := m3_some h2
    obtain ⟨m1, m2⟩ := and_tt h1
    have mk : lastMarks [cmpOf (opC op), cmpOf (opC p)] [b, d] = false := by
      show behindInMarks _ d = false
      exact marks m2
    have z := pe_chainV (pos := pos) o.g.hK o.hu (o := opC op) (p := opC p) (r0.e o e1) (r0.e o e2) (r0.e o e3) mk
    have z2 := pt_chainV (pos := pos) o.g.hK o.hu (o := opC op) (p := opC p) (r0.e o e1) (r0.e o e2) (r0.e o e3) mk
    rw [cmp_op, cmp_op] at z z2
    exact ⟨z, z2⟩
  · cases h
/-! #### and, or -/
theorem s_boolE (r0 : TrOk G B r) (o : CtOk G B W X cl k al c) {op : BoolOp} {es : List Expr} (h : trBool r c op es pos = some t) : PE X (.BoolOp op es pos) (rdE G W ((comp B t).e cl)) := by
  unfold trBool at h
  split at h
  · exact pe_one (r0.e o h)
  · cases op with
    | And =>
      obtain ⟨x, y, e1, e2, rfl⟩ := m2_some h
      exact pe_andV (r0.e o e1) (r0.e o e2)
    | Or =>
      obtain ⟨x, y, e1, e2, rfl⟩ := m2_some h
      exact pe_orV (r0.e o e1) (r0.e o e2)
  · cases h
theorem tst_bool {m : Nat} {op : BoolOp} {es : List Expr} (h : tstB m (.BoolOp op es pos) = true) : ∃ n, ∀ e ∈ es, tstB n e = true := by
  cases m with
  | zero => cases h
  | succ n =>
    refine ⟨n, ?_⟩
    have go : ∀ l : List Expr, tstB.go (tstB n) l = true → ∀ e ∈ l, tstB n e = true := by
      intro l
      induction l with
      | nil => intro _ e he; cases he
      | cons e es ih =>
        intro h
        rw [tstB.go] at h
        cases q : tstB n e with
        | false => rw [q] at h; cases h
        | true =>
          rw [q] at h
          intro x hx
          rcases List.mem_cons.mp hx with z | z
          · rw [z]; exact q
          · exact ih h x z
    exact go es h
theorem bool_tst {n : Nat} {op : BoolOp} {es : List Expr} (h : ∀ e ∈ es, tstB n e = true) : tstB (n + 1) (.BoolOp op es pos) = true := by
  show tstB.go (tstB n) es = true
  induction es with
  | nil => rfl
  | cons e es ih =>
    rw [tstB.go, h e (by simp)]
    exact ih fun x hx => h x (by simp [hx])
theorem s_boolW (r0 : TrOk G B r) (o : CtOk G B W X cl k al c) {op : BoolOp} {es : List Expr} (h : trBool r c op es pos = some t) (m : Nat) (ht : tstB m (.BoolOp op es pos) = true) : PW X (.BoolOp op es pos) (rdT G W ((comp B t).t cl)) := by
  obtain ⟨n, hn⟩ := tst_bool ht
  unfold trBool at h
  split at h
  · cases op with
    | And => exact pw_and1 (r0.t o h n (hn _ (by simp)))
    | Or => exact pw_or1 (r0.t o h n (hn _ (by simp)))
  · cases op with
    | And =>
      obtain ⟨x, y, e1, e2, rfl⟩ := m2_some h
      exact pw_andV (r0.t o e1 n (hn _ (by simp))) (r0.b o e2 (n + 1) (bool_tst fun e he => hn e (List.mem_cons_of_mem _ he)))
    | Or =>
      obtain ⟨x, y, e1, e2, rfl⟩ := m2_some h
      exact pw_orV (r0.t o e1 n (hn _ (by simp))) (r0.b o e2 (n + 1) (bool_tst fun e he => hn e (List.mem_cons_of_mem _ he)))
  · cases h
end
end Pv
end
section
set_option Elab.async false
set_option linter.all false
set_option maxRecDepth 100000
set_option maxHeartbeats 4000000
set_option autoImplicit false
/-! the translation is sound: calls. -/
namespace Pv
open PySem L2 PySem.Spec PyProof.Rows PySem.W
theorem attr_base {o : Expr} {m : Str} {env : Env} (h : noCall o = true) (w : Sem Value) : attributeBase o m env w = w := by
  cases o <;> first | rfl | cases h
theorem starAll : ∀ {es : List Expr} {pos : Pos} {env : Env}, (∀ e ∈ es, noStar e = true) → (backTo pos (starEach es env)).all (fun x => !x.1) = true
  | [], _, _, _ => rfl
  | e :: es, pos, env, h => by
    rw [starOne (h e (by simp))]
    have ih := starAll (pos := pos) (env := env) fun x hx => h x (List.mem_cons_of_mem _ hx)
    show (true && (backTo pos (starEach es env)).all (fun x => !x.1)) = true
    rw [ih]
    rfl
theorem meth_eq {o : Expr} {m : Str} {ap cp : Pos} {as : List Expr} {env : Env} (hb : noCall o = true) (hs : ∀ e ∈ as, noStar e = true) (hl : (ap.endLine == cp.line) = true) (hn : as.length < 20) :
    eval (.Call (.Attribute o m ap) as [] cp) env = (do
      let ov ← eval o env
      standAt ap.atName
      let (f, first) ← holding [ov] (getMethod ov m (do return (← importBound o env).getD true))
      callWith cp f first (backTo cp (starEach as env)) (backToKw cp (keywordEach [] env))) := by
  have e1 : eval (.Call (.Attribute o m ap) as [] cp) env = (do
      let ov ← attributeBase o m env (eval o env)
      standAt ap.atName
      methodCall o m ap cp env ov (as.length + ([] : List Keyword).length) (backTo cp (starEach as env)) (backToKw cp (keywordEach [] env))) := by rw [eval]
  have fm : methodCallForm (as.length + ([] : List Keyword).length) (backTo cp (starEach as env)) (backToKw cp (keywordEach [] env)) = true := by
    unfold methodCallForm
    rw [starAll hs]
    show (true && (true && decide (as.length + 0 + 0 < 30))) = true
    rw [decide_eq_true (by omega)]
    rfl
  rw [e1, attr_base hb]
  unfold methodCall
  rw [fm]
  unfold calleeOf methodCallPos
  rw [hl]
  simp only [Bool.not_true, Bool.false_or, if_true, pure_bind]
section
variable {G : GC} {B : Tb} {r : Tr} {W : WX} {X : Cx} {cl : Cl} {k : Nat} {al : Nat → Prop} {c : Ct} {pos : Pos} {t : T}
theorem len_length {α : Type} (xs : List α) : len xs = xs.length := len_eq xs
theorem lenB_ok {α : Type} {xs : List α} {n : Nat} (h : lenB xs n = true) : xs.length = n := by
  unfold lenB at h
  rw [← len_length xs]
  exact Nat.eq_of_beq_eq_true h
theorem lastLam_ok : ∀ {es as : List Expr} {l : Expr}, lastLam es = some (as, l) → es = as ++ [l]
  | [], as, l, h => by cases h
  | [e], as, l, h => by
    cases e <;> first | (cases h; rfl) | cases h
  | e :: e2 :: es, as, l, h => by
    have h : (match lastLam (e2 :: es) with | some (as, l) => some (e :: as, l) | none => none) = some (as, l) := h
    cases q : lastLam (e2 :: es) with
    | none => rw [q] at h; cases h
    | some p =>
      rw [q] at h
      cases h
      rw [List.cons_append, ← lastLam_ok q]
/-- x(.., lambda) -/
theorem s_lam (r0 : TrOk G B r) (hr : ∃ n, r = tr n) (o : CtOk G B W X cl k al c) {f np : Nat} {x : Str} {p lp : Pos} {as : List Expr} {ps : Arguments} {b : Expr} {sc : Scope} (hx : glob c x = some (.fn f np)) (h : trLam r c f as ps b sc = some t) :
    PE X (.Call (.Name x p) (as ++ [.Lambda ps b sc lp]) [] pos) (rdE G W ((comp B t).e cl)) := by
  obtain ⟨h1, h2, h3⟩ := o.glob hx
  unfold trLam at h
  cases q1 : parsOf ps with
  | none => rw [q1] at h; cases h
  | some xs =>
    rw [q1] at h
    obtain ⟨k1, h⟩ := mt_some h
    obtain ⟨k2, k3⟩ := and_tt k1
    obtain ⟨k4, k5⟩ := and_tt k3
    cases q2 : slotsOf c (freeOf sc.names) with
    | none => rw [q2] at h; cases h
    | some js =>
      rw [q2] at h
      obtain ⟨a', b', e1, e2, rfl⟩ := m2_some h
      obtain ⟨ags, rfl, rfl⟩ := parsOf_ok q1
      have hjs := slotsOf_ok q2
      have ljs : js.length = (freeOf sc.names).length := by
        have z := congrArg List.length hjs
        rw [List.length_map, List.length_map] at z
        exact z
      obtain ⟨n, rfl⟩ := hr
      refine pe_callcV ⟨h3.2⟩ o.tk o.room (Nat.le_succ k) h1 h3.1 h2 (fun t ht => r0.a1 o e1 ht) (r0.st e1) (o.lam k2) rfl (fun y hy e => ?_) (by rw [o.N]; exact hjs) (o.g.lamG _ _ _ _ _ _ _ ⟨n, ags, ⟨rfl, ?_, ?_, NdefX.nscope_by k5⟩, e2⟩)
      · rw [o.sc]
        exact frcB_ok k4 y.1 (freeOf_mem.mpr (by obtain ⟨y1, y2⟩ := y; cases e; exact hy))
      · rw [len_length, List.length_map]
      · rw [len_length, len_length, ljs]
end
end Pv
end
section
set_option Elab.async false
set_option linter.all false
set_option maxRecDepth 100000
set_option maxHeartbeats 4000000
set_option autoImplicit false
/-! the translation is sound: calls of built-ins, methods. -/
namespace Pv
open PySem L2 PySem.Spec PyProof.Rows PySem.W
theorem bi_boot (b : Bi) {x : Str} (h : x = match b with
  | .len => "len" | .all => "all" | .any => "any" | .tuple => "tuple" | .list => "list" | .min => "min" | .max => "max" | .min2 => "min" | .max2 => "max" | .sum => "sum" | .sorted => "sorted" | .abs => "abs" | .int => "int" | .divmod => "divmod") : bootBuiltins x = some (biV b) := by
  subst h
  cases b <;> decide +kernel
theorem biOf_ok {x : Str} {n : Nat} {b : Bi} (h : biOf x n = some b) : bootBuiltins x = some (biV b) ∧ (n = 1 ∨ n = 2) := by
  have br : ∀ {q : Bool} {y z : Option Bi}, (match q with | true => y | false => z) = some b → (q = true ∧ y = some b) ∨ (q = false ∧ z = some b) := fun {q y z} e => by
    cases q with
    | true => exact .inl ⟨rfl, e⟩
    | false => exact .inr ⟨rfl, e⟩
  unfold biOf at h
  split at h
  · refine ⟨?_, .inl rfl⟩
    rcases br h with ⟨q, e⟩ | ⟨_, h⟩; · cases e; exact bi_boot .len (seq_t q)
    rcases br h with ⟨q, e⟩ | ⟨_, h⟩; · cases e; exact bi_boot .all (seq_t q)
    rcases br h with ⟨q, e⟩ | ⟨_, h⟩; · cases e; exact bi_boot .any (seq_t q)
    rcases br h with ⟨q, e⟩ | ⟨_, h⟩; · cases e; exact bi_boot .tuple (seq_t q)
    rcases br h with ⟨q, e⟩ | ⟨_, h⟩; · cases e; exact bi_boot .list (seq_t q)
    rcases br h with ⟨q, e⟩ | ⟨_, h⟩; · cases e; exact bi_boot .min (seq_t q)
    rcases br h with ⟨q, e⟩ | ⟨_, h⟩; · cases e; exact bi_boot .max (seq_t q)
    rcases br h with ⟨q, e⟩ | ⟨_, h⟩; · cases e; exact bi_boot .sum (seq_t q)
    rcases br h with ⟨q, e⟩ | ⟨_, h⟩; · cases e; exact bi_boot .sorted (seq_t q)
    rcases br h with ⟨q, e⟩ | ⟨_, h⟩; · cases e; exact bi_boot .abs (seq_t q)
    rcases br h with ⟨q, e⟩ | ⟨_, h⟩; · cases e; exact bi_boot .int (seq_t q)
    cases h
  · refine ⟨?_, .inr rfl⟩
    rcases br h with ⟨q, e⟩ | ⟨_, h⟩; · cases e; exact bi_boot .min2 (seq_t q)
    rcases br h with ⟨q, e⟩ | ⟨_, h⟩; · cases e; exact bi_boot .max2 (seq_t q)
    rcases br h with ⟨q, e⟩ | ⟨_, h⟩; · cases e; exact bi_boot .divmod (seq_t q)
    cases h
  · cases h
theorem bi_tl {x : Str} {n : Nat} {b : Bi} (h : biOf x n = some b) (tl : isTL b = true) : x = rgN b := by
  have br : ∀ {q : Bool} {y z : Option Bi}, (match q with | true => y | false => z) = some b → (q = true ∧ y = some b) ∨ (q = false ∧ z = some b) := fun {q y z} e => by
    cases q with
    | true => exact .inl ⟨rfl, e⟩
    | false => exact .inr ⟨rfl, e⟩
  unfold biOf at h
  split at h
  · iterate 11
      rcases br h with ⟨q, e⟩ | ⟨_, h⟩
      · cases e; first | exact seq_t q | cases tl
    cases h
  · iterate 3
      rcases br h with ⟨q, e⟩ | ⟨_, h⟩
      · cases e; cases tl
    cases h
  · cases h
theorem ty_boot (t : Ty) {x : Str} (h : x = match t with
  | .int => "int" | .bool => "bool" | .str => "str" | .tuple => "tuple" | .list => "list" | .dict => "dict") : bootBuiltins x = some (.type (tyS t)) := by
  subst h
  cases t <;> decide +kernel
theorem tyOf_ok {x : Str} {t : Ty} (h : tyOf x = some t) : bootBuiltins x = some (.type (tyS t)) := by
  have br : ∀ {q : Bool} {y z : Option Ty}, (match q with | true => y | false => z) = some t → (q = true ∧ y = some t) ∨ (q = false ∧ z = some t) := fun {q y z} e => by
    cases q with
    | true => exact .inl ⟨rfl, e⟩
    | false => exact .inr ⟨rfl, e⟩
  unfold tyOf at h
  rcases br h with ⟨q, e⟩ | ⟨_, h⟩; · cases e; exact ty_boot .int (seq_t q)
  rcases br h with ⟨q, e⟩ | ⟨_, h⟩; · cases e; exact ty_boot .bool (seq_t q)
  rcases br h with ⟨q, e⟩ | ⟨_, h⟩; · cases e; exact ty_boot .str (seq_t q)
  rcases br h with ⟨q, e⟩ | ⟨_, h⟩; · cases e; exact ty_boot .tuple (seq_t q)
  rcases br h with ⟨q, e⟩ | ⟨_, h⟩; · cases e; exact ty_boot .list (seq_t q)
  rcases br h with ⟨q, e⟩ | ⟨_, h⟩; · cases e; exact ty_boot .dict (seq_t q)
  cases h
theorem bmOf_ok {x : Str} {n : Nat} {m : Bm} (h : bmOf x n = some m) : x = bmS m := by
  have br : ∀ {q : Bool} {y z : Option Bm}, (match q with | true => y | false => z) = some m → (q = true ∧ y = some m) ∨ (q = false ∧ z = some m) := fun {q y z} e => by
    cases q with
    | true => exact .inl ⟨rfl, e⟩
    | false => exact .inr ⟨rfl, e⟩
  unfold bmOf at h
  split at h
  · rcases br h with ⟨q, e⟩ | ⟨_, h⟩; · cases e; exact seq_t q
    cases h
  · iterate 5
      rcases br h with ⟨q, e⟩ | ⟨_, h⟩
      · cases e; exact seq_t q
    cases h
  · rcases br h with ⟨q, e⟩ | ⟨_, h⟩; · cases e; exact seq_t q
    cases h
  · cases h
section
variable {G : GC} {B : Tb} {r : Tr} {W : WX} {X : Cx} {cl : Cl} {k : Nat} {al : Nat → Prop} {c : Ct} {pos : Pos} {t : T}
theorem s_callA (r0 : TrOk G B r) (o : CtOk G B W X cl k al c) {ob : Expr} {m : Str} {ap : Pos} {as : List Expr} (h : trCallA r c ob m ap pos as = some t) : PE X (.Call (.Attribute ob m ap) as [] pos) (rdE G W ((comp B t).e cl)) := by
  unfold trCallA at h
  have hA := (mt_some h).1; replace h := (mt_some h).2
  obtain ⟨hB, hC⟩ := and_tt hA
  obtain ⟨h2, h3⟩ := and_tt hC
  have hl : (ap.endLine == pos.line) = true := by rw [beq_iff_eq]; exact Nat.eq_of_beq_eq_true h2
  have hn : as.length < 20 := by rw [← len_length as]; exact blt_t h3
  cases q : ixS m c.att with
  | some i =>
    rw [q] at h
    obtain ⟨x, y, e1, e2, rfl⟩ := m2_some h
    have ga := o.g.eatt m i q
    have st := r0.st e2
    have eq := meth_eq (m := m) (env := X.env) (cp := pos) hB st hl hn
    rw [← ga] at eq ⊢
    cases as with
    | nil =>
      cases r0.nil e2
      exact pe_methV0 o.g.ok o.g.hK (fun c f e => ⟨o.g.meth i c f e⟩) o.tk o.room (Nat.le_succ k) (r0.e o e1) eq
    | cons a as =>
      exact pe_methV o.g.ok o.g.hK (fun c f e => ⟨o.g.meth i c f e⟩) o.tk o.room (Nat.le_succ k) (r0.e o e1) (r0.ak o e2) (starOne (st a (by simp))) (starAny fun e he => st e (List.mem_cons_of_mem _ he)) eq
  | none =>
    rw [q] at h
    cases q2 : bmOf m (len as) with
    | none => rw [q2] at h; cases h
    | some b =>
      rw [q2] at h
      obtain ⟨x, y, e1, e2, rfl⟩ := m2_some h
      have st := r0.st e2
      have hm := bmOf_ok q2
      subst hm
      cases as with
      | nil =>
        cases r0.nil e2
        exact pe_bmV0 o.g.hK o.hu (r0.e o e1) (attr_base hB _) hl
      | cons a as =>
        refine pe_bmV o.g.hK o.hu (r0.e o e1) (r0.a0 o e2).pa (attr_base hB _) ?_ hl (starOne (st a (by simp))) (starAny fun e he => st e (List.mem_cons_of_mem _ he))
        rw [starAll st]
        show (true && (true && decide ((a :: as).length + 0 + 0 < 30))) = true
        rw [decide_eq_true (by omega)]
        rfl
theorem s_bi (r0 : TrOk G B r) (o : CtOk G B W X cl k al c) {x : Str} {p : Pos} {as : List Expr} {b : Bi} (hx : freeB c x = true) (hb : biOf x (len as) = some b) (h : m1 (r.a c 0 as) (.bi b) = some t) : PE X (.Call (.Name x p) as [] pos) (rdE G W ((comp B t).e cl)) := by
  obtain ⟨h1, h2, h3, h4⟩ := o.free hx
  obtain ⟨hv, hn⟩ := biOf_ok hb
  obtain ⟨y, e1, rfl⟩ := m1_some h
  have st := r0.st e1
  cases as with
  | nil => rcases hn with z | z <;> cases z
  | cons a as => exact pe_biV o.g.hK o.calm o.hu o.room.hd h1 h2 hv h4 h3 (r0.a0 o e1).pa (starOne (st a (by simp))) (starAny fun e he => st e (List.mem_cons_of_mem _ he))
theorem isiArg_ok {as : List Expr} {a : Expr} {y : Str} (h : isiArg as = some (a, y)) : ∃ p, as = [a, .Name y p] ∧ noStar a = true := by
  unfold isiArg at h
  split at h
  · rename_i a' t' p
    obtain ⟨h1, h2⟩ := mt_some h
    cases h2
    exact ⟨p, rfl, h1⟩
  · cases h
theorem rngArg_ok {as ds : List Expr} {y : Str} (h : rngArg as = some (y, ds)) : ∃ p p2, as = [.Call (.Name y p) ds [] p2] := by
  unfold rngArg at h
  split at h
  · cases h
    exact ⟨_, _, rfl⟩
  · cases h
theorem s_callN (r0 : TrOk G B r) (hr : ∃ n, r = tr n) (o : CtOk G B W X cl k al c) {x : Str} {p : Pos} {as : List Expr} (h : trCallN r c x as = some t) : PE X (.Call (.Name x p) as [] pos) (rdE G W ((comp B t).e cl)) := by
  unfold trCallN at h
  cases q : slotOf c x with
  | some i =>
    rw [q] at h
    obtain ⟨y, e1, rfl⟩ := m1_some h
    obtain ⟨h1, h2, h3, h4⟩ := o.slot q
    have st := r0.st e1
    cases as with
    | nil =>
      cases r0.nil e1
      exact pe_callvV0 (fun f fd e => ⟨o.g.fs f fd e⟩) o.g.lo o.tk o.room (Nat.le_succ k) h1 h2 h3 h4
    | cons a as => exact pe_callvV (fun f fd e => ⟨o.g.fs f fd e⟩) o.g.lo o.tk o.room (Nat.le_succ k) h1 h2 h3 h4 (r0.ak o e1) (starOne (st a (by simp))) (starAny fun e he => st e (List.mem_cons_of_mem _ he))
  | none =>
    rw [q] at h
    cases q2 : glob c x with
    | some g =>
      rw [q2] at h
      obtain ⟨h1, h2, h3⟩ := o.glob q2
      cases g with
      | fn f np =>
        have plain : ∀ {t}, (match lenB as np with | true => m1 (r.a c 1 as) (.call f) | false => none) = some t → PE X (.Call (.Name x p) as [] pos) (rdE G W ((comp B t).e cl)) := by
          intro t h
          have _ := (mt_some h).1; replace h := (mt_some h).2
          obtain ⟨y, e1, rfl⟩ := m1_some h
          have st := r0.st e1
          cases as with
          | nil =>
            cases r0.nil e1
            exact pe_callS0 ⟨h3.2⟩ o.tk o.room (Nat.le_succ k) h1 h3.1 h2
          | cons a as => exact pe_callV ⟨h3.2⟩ o.tk o.room (Nat.le_succ k) h1 h3.1 h2 (r0.ak o e1) (starOne (st a (by simp))) (starAny fun e he => st e (List.mem_cons_of_mem _ he))
        dsimp only at h
        split at h
        · rename_i as' ps b sc lp hl
          have _ := (mt_some h).1; replace h := (mt_some h).2
          rw [lastLam_ok hl]
          exact s_lam r0 hr o q2 h
        · exact plain h
      | cls kk f np =>
        dsimp only at h
        have _ := (mt_some h).1; replace h := (mt_some h).2
        obtain ⟨y, e1, rfl⟩ := m1_some h
        have st := r0.st e1
        cases as with
        | nil =>
          cases r0.nil e1
          exact pe_makeV0 h3.2.1 ⟨h3.2.2⟩ o.tk o.room (Nat.le_refl _) h1 h3.1 h2
        | cons a as => exact pe_makeV h3.2.1 ⟨h3.2.2⟩ o.tk o.room (Nat.le_refl _) h1 h3.1 h2 (r0.ak o e1) (starOne (st a (by simp))) (starAny fun e he => st e (List.mem_cons_of_mem _ he))
      | con d => cases h
    | none =>
      rw [q2] at h
      dsimp only at h
      have hx := (mt_some h).1; replace h := (mt_some h).2
      obtain ⟨h1, h2, h3, h4⟩ := o.free hx
      cases qi : seq x "isinstance" with
      | true =>
        rw [qi] at h
        have hi := seq_t qi
        subst hi
        cases qa : isiArg as with
        | none => rw [qa] at h; cases h
        | some pr =>
          obtain ⟨a, y⟩ := pr
          rw [qa] at h
          dsimp only at h
          have hy := (mt_some h).1; replace h := (mt_some h).2
          obtain ⟨p1, rfl, hs⟩ := isiArg_ok qa
          cases q3 : tyOf y with
          | none => rw [q3] at h; cases h
          | some ty =>
            rw [q3] at h
            obtain ⟨z, e1, rfl⟩ := m1_some h
            obtain ⟨y1, y2, y3, y4⟩ := o.free hy
            exact pe_isiV o.g.hK h1 h2 (tyOf_ok q3) y1 y2 y4 y3 (r0.e o e1) (starOne hs)
      | false =>
        rw [qi] at h
        dsimp only at h
        cases q3 : biOf x (len as) with
        | none => rw [q3] at h; cases h
        | some b =>
          rw [q3] at h
          dsimp only at h
          cases qa : rngArg as with
          | none => rw [qa] at h; exact s_bi r0 o hx q3 h
          | some pr =>
            obtain ⟨y, ds⟩ := pr
            rw [qa] at h
            dsimp only at h
            cases hc : freeB c y && (seq y "range" && (isTL b && (lenB ds 1 || lenB ds 2))) with
            | false => rw [hc] at h; exact s_bi r0 o hx q3 h
            | true =>
              rw [hc] at h
              obtain ⟨c1, c2⟩ := and_tt hc
              obtain ⟨c2, c3⟩ := and_tt c2
              obtain ⟨c3, c4⟩ := and_tt c3
              obtain ⟨p1, p2, rfl⟩ := rngArg_ok qa
              have hxn := bi_tl q3 c3
              subst hxn
              have hyr := seq_t c2
              subst hyr
              have hk : b = .tuple ∨ b = .list := by cases b <;> first | exact .inl rfl | exact .inr rfl | cases c3
              obtain ⟨y1, y2, y3, y4⟩ := o.free c1
              obtain ⟨z, e1, rfl⟩ := m1_some h
              have ea := r0.a0 o e1
              cases ds with
              | nil => cases c4
              | cons d ds =>
                obtain ⟨u, v, rfl, n1, p1', ea⟩ := ea
                cases ds with
                | nil =>
                  cases ea
                  exact pe_biR1 o.calm hk h1 h2 y1 y2 p1' (starOne n1)
                | cons d2 ds =>
                  obtain ⟨u2, v2, rfl, n2, p2', ea⟩ := ea
                  cases ds with
                  | nil =>
                    cases ea
                    exact pe_biR2 o.calm hk h1 h2 y1 y2 p1' p2' (starOne n1) (starOne n2) (starAny fun e he => by
                      have : e = d2 := by simpa using he
                      rw [this]; exact n2)
                  | cons d3 ds => cases c4
theorem s_call (r0 : TrOk G B r) (hr : ∃ n, r = tr n) (o : CtOk G B W X cl k al c) {f : Expr} {as : List Expr} {ks : List Keyword} (h : trCall r c f as ks pos = some t) : PE X (.Call f as ks pos) (rdE G W ((comp B t).e cl)) := by
  unfold trCall at h
  split at h
  · split at h
    · exact s_callN r0 hr o h
    · exact s_callA r0 o h
    · cases h
  · cases h
end
end Pv
end
section
set_option Elab.async false
set_option linter.all false
set_option maxRecDepth 100000
set_option maxHeartbeats 4000000
set_option autoImplicit false
/-! the translation is sound: items, fields, dicts, comprehensions. -/
namespace Pv
open PySem L2 PySem.Spec PyProof.Rows PySem.W
theorem PTs.imp {X : Cx} {e : List Expr} {t t' : TT} (h : PTs X e t) (i : ∀ σ H Q, t' σ H Q → t σ H Q) : PTs X e t' := ⟨fun pins s σ H Q I q => h.run pins s σ H Q I (i σ H Q q)⟩
/-! #### blocks -/
theorem kEq_ok {a b : NameKind} (h : blkB.kEq a b = true) : a = b := by
  cases a <;> cases b <;> first | rfl | cases h
theorem go1_ok {sc : Scope} : ∀ {l : List (Str × NameKind)}, blkB.go1 sc l = true → ∀ y ∈ l, sc.names.lookup y.1 = some y.2
  | [], _, y, hy => by cases hy
  | (x, k) :: r, h, y, hy => by
    rw [blkB.go1] at h
    obtain ⟨h1, h2⟩ := and_tt h
    rcases List.mem_cons.mp hy with z | z
    · subst z
      rw [lookS_eq] at h1
      cases q : sc.names.lookup x with
      | none => rw [q] at h1; cases h1
      | some k' => rw [q] at h1; show some k' = some k; rw [kEq_ok h1]
    · exact go1_ok h2 y z
theorem go2_ok {N : List Str} : ∀ {l : List (Str × Nat)}, blkB.go2 N l = true → ∀ p ∈ l, N[p.2]? = some p.1
  | [], _, y, hy => by cases hy
  | (x, i) :: r, h, y, hy => by
    rw [blkB.go2] at h
    obtain ⟨h1, h2⟩ := and_tt h
    rcases List.mem_cons.mp hy with z | z
    · subst z
      cases q : nth N i with
      | none => rw [q] at h1; cases h1
      | some k' => rw [q] at h1; show N[i]? = some x; rw [nth_at q, seq_t h1]
    · exact go2_ok h2 y z
theorem lookS_mem {α : Type} {x : Str} {a : α} {l : List (Str × α)} (h : lookS x l = some a) : (x, a) ∈ l := by
  rw [lookS_eq] at h
  exact PySem.mem_of_lookup h
theorem go3_ok {N : List Str} {sc : Scope} {ow : List (Str × Nat)} : ∀ {l : List (Str × NameKind)}, blkB.go3 N sc ow l = true → ∀ y ∈ l, (y.2 = .free → sc.names.lookup y.1 = some .cell ∨ sc.names.lookup y.1 = some .free) ∧ (y.2 = .local ∨ y.2 = .cell → y.1 ∈ ow.map (·.1) ∨ y.1 ∉ N)
  | [], _, y, hy => by cases hy
  | (x, k) :: r, h, y, hy => by
    have own : (match lookS x ow with | some _ => true | none => !memS x N) = true → x ∈ ow.map (·.1) ∨ x ∉ N := fun h1 => by
      cases q : lookS x ow with
      | some i => exact .inl (List.mem_map.mpr ⟨_, lookS_mem q, rfl⟩)
      | none =>
        rw [q] at h1
        exact .inr (memS_not (by simpa using h1))
    have key : ((k = .free → sc.names.lookup x = some .cell ∨ sc.names.lookup x = some .free) ∧ (k = .local ∨ k = .cell → x ∈ ow.map (·.1) ∨ x ∉ N)) ∧ blkB.go3 N sc ow r = true := by
      cases k with
      | free =>
        have h : ((match lookS x sc.names with | some .cell => true | some .free => true | _ => false) && blkB.go3 N sc ow r) = true := h
        obtain ⟨h1, h2⟩ := and_tt h
        refine ⟨⟨fun _ => ?_, fun e => by rcases e with e | e <;> cases e⟩, h2⟩
        rw [lookS_eq] at h1
        cases q : sc.names.lookup x with
        | none => rw [q] at h1; cases h1
        | some k' => rw [q] at h1; cases k' <;> first | exact .inl rfl | exact .inr rfl | cases h1
      | «local» =>
        obtain ⟨h1, h2⟩ := and_tt (show ((match lookS x ow with | some _ => true | none => !memS x N) && blkB.go3 N sc ow r) = true from h)
        exact ⟨⟨(fun e => by cases e), fun _ => own h1⟩, h2⟩
      | cell =>
        obtain ⟨h1, h2⟩ := and_tt (show ((match lookS x ow with | some _ => true | none => !memS x N) && blkB.go3 N sc ow r) = true from h)
        exact ⟨⟨(fun e => by cases e), fun _ => own h1⟩, h2⟩
      | globalImplicit => exact ⟨⟨(fun e => by cases e), fun e => by rcases e with e | e <;> cases e⟩, h⟩
      | _ => exact ⟨⟨(fun e => by cases e), fun e => by rcases e with e | e <;> cases e⟩, h⟩
    rcases List.mem_cons.mp hy with z | z
    · subst z
      exact key.1
    · exact go3_ok key.2 y z
theorem blkB_ok {N : List Str} {sc scope : Scope} {ow : List (Str × Nat)} (h : blkB N sc scope ow = true) : BlkOk N sc scope ow := by
  unfold blkB at h
  obtain ⟨h1, h⟩ := and_tt h
  obtain ⟨h2, h⟩ := and_tt h
  obtain ⟨h3, h4⟩ := and_tt h
  refine ⟨?_, go1_ok h2, go2_ok h3, fun y hy => (go3_ok h4 y hy).1, fun y hy => (go3_ok h4 y hy).2⟩
  cases q : scope.kind <;> rw [q] at h1 <;> first | rfl | cases h1
theorem relC_eq {scope : Scope} {env : Env} (hk : env.scope.kind = .function) : relC scope env.scope = relabel scope env := by
  have e : ∀ l : List (Str × NameKind), relN env.scope l = l.map fun (n, k) => if (k == .free && env.scope.kind == .function && env.kindOf n == some .cell) then (n, .cell) else (n, k) := by
    intro l
    induction l with
    | nil => rfl
    | cons p r ih =>
      obtain ⟨n, k⟩ := p
      rw [List.map_cons, ← ih, hk]
      cases k <;> first | rfl | skip
      show (match env.scope.kind with | .function => (match lookS n env.scope.names with | some .cell => (n, NameKind.cell) :: relN env.scope r | _ => (n, .free) :: relN env.scope r) | _ => (n, .free) :: relN env.scope r) = (if (env.scope.names.lookup n == some .cell) = true then (n, NameKind.cell) else (n, .free)) :: relN env.scope r
      rw [hk, lookS_eq]
      cases q : env.scope.names.lookup n with
      | none => rfl
      | some k' => cases k' <;> rfl
  unfold relC relabel
  rw [e]
theorem ownOf_mem {N : List Str} : ∀ {l : List (Str × NameKind)} {p : Str × Nat}, p ∈ ownOf N l → N[p.2]? = some p.1 ∧ ((p.1, NameKind.local) ∈ l ∨ (p.1, NameKind.cell) ∈ l)
  | [], p, h => by cases h
  | (x, k) :: r, p, h => by
    have step : ∀ (e : (match ixS x N with | some i => (x, i) :: ownOf N r | none => ownOf N r) = (match ixS x N with | some i => (x, i) :: ownOf N r | none => ownOf N r)), p ∈ (match ixS x N with | some i => (x, i) :: ownOf N r | none => ownOf N r) → (p ∈ ownOf N r) ∨ (N[p.2]? = some p.1 ∧ p.1 = x) := fun _ m => by
      cases q : ixS x N with
      | none => rw [q] at m; exact .inl m
      | some i =>
        rw [q] at m
        rcases List.mem_cons.mp m with z | z
        · subst z; exact .inr ⟨ixS_at q, rfl⟩
        · exact .inl z
    have up : p ∈ ownOf N r → N[p.2]? = some p.1 ∧ ((p.1, NameKind.local) ∈ (x, k) :: r ∨ (p.1, NameKind.cell) ∈ (x, k) :: r) := fun m => by
      obtain ⟨a, b⟩ := ownOf_mem m
      exact ⟨a, b.imp (List.mem_cons_of_mem _) (List.mem_cons_of_mem _)⟩
    cases k with
    | «local» =>
      rcases step rfl h with m | ⟨a, b⟩
      · exact up m
      · exact ⟨a, .inl (by rw [b]; exact List.mem_cons_self)⟩
    | cell =>
      rcases step rfl h with m | ⟨a, b⟩
      · exact up m
      · exact ⟨a, .inr (by rw [b]; exact List.mem_cons_self)⟩
    | _ => exact up h
theorem sndOf_mem {α β : Type} : ∀ {l : List (α × β)} {b : β}, b ∈ sndOf l → ∃ a, (a, b) ∈ l
  | [], b, h => by cases h
  | (x, y) :: r, b, h => by
    rcases List.mem_cons.mp (show b ∈ y :: sndOf r from h) with z | z
    · exact ⟨x, by rw [z]; exact List.mem_cons_self⟩
    · obtain ⟨a, m⟩ := sndOf_mem z
      exact ⟨a, List.mem_cons_of_mem _ m⟩
theorem sndOf_eq {α β : Type} : ∀ l : List (α × β), sndOf l = l.map (·.2)
  | [] => rfl
  | p :: r => by rw [sndOf, sndOf_eq r]; rfl
theorem takesB {X : Cx} (h : X.xe = fun _ _ => False) : Takes X W0 := fun _ _ x => by
  obtain ⟨_, _, _, _, _, _, _, _, _, _, _, _, _, _, _, _, z⟩ := x
  exact z.elim
section
variable {G : GC} {B : Tb} {r : Tr} {W : WX} {X : Cx} {cl : Cl} {k : Nat} {al : Nat → Prop} {c : Ct} {pos : Pos} {t : T}
/-- within a block -/
theorem blk_ok (o : CtOk G B W X cl k al c) {scope : Scope} (bo : BlkOk c.N c.sc scope (ownOf c.N scope.names)) (s : Shared) (H : Hp) (C : Addr) (cls : List (Str × Addr)) (fp : List Addr) :
    CtOk G B W0 (X.blk s H scope (compEnvC scope cls C X.env) fp) cl k (fun i => i ∈ sndOf (ownOf c.N scope.names)) { c with sc := relC scope c.sc, kn := [], lm := false } := by
  have sce : relC scope c.sc = relabel scope X.env := by rw [← o.sc]; exact relC_eq o.kx
  refine ⟨o.g, o.N, o.nd, sce.symm, bo.kind, o.calm, o.room, takesB rfl, PassesOwn.never, fun i x hi hx hl => ?_, fun h => by cases h⟩
  obtain ⟨y, hm⟩ := sndOf_mem hi
  obtain ⟨h1, h2⟩ := ownOf_mem hm
  have hx : c.N[i]? = some x := hx
  have h1 : c.N[i]? = some y := h1
  rw [hx] at h1
  cases h1
  show (scope.names.lookup x == some NameKind.cell) = true ∨ _
  rcases h2 with h2 | h2
  · have e := bo.uniq _ h2
    refine .inr ?_
    show (relC scope c.sc).names.lookup x = _
    rw [sce]
    exact lookup_relabel_local e
  · have e : scope.names.lookup x = some .cell := bo.uniq _ h2
    exact .inl (by rw [e]; rfl)
theorem setIt {it : Expr} {env : Env} (h : noSet it = true) : ∀ x, foldedSetIterable it env x = pure x := by
  intro x
  cases it <;> first | rfl | cases h
theorem s_ifs (r0 : TrOk G B r) (o : CtOk G B W X cl k al c) {ifs : List Expr} (h : trIfs r c ifs = some t) : PTs X ifs (rdT G W ((comp B t).t cl)) := by
  unfold trIfs at h
  split at h
  · cases h
    exact PTs.imp pts_nil fun σ H Q q => by
      obtain ⟨P, h, en, st, e⟩ := q
      exact e P H Ext.refl st.s
  · have h1 := (mt_some h).1
    replace h := (mt_some h).2
    exact pts_one (r0.t o h 8 h1)
  · cases h
theorem s_lc (r0 : TrOk G B r) (o : CtOk G B W X cl k al c) {e : Expr} {gs : List Comprehension} {sc : Scope} (h : trLc r c e gs sc = some t) :
    LcOk G B W X cl c e gs sc t := by
  unfold trLc at h
  split at h
  · rename_i tg it ifs
    dsimp only at h
    have hA := (mt_some h).1
    replace h := (mt_some h).2
    obtain ⟨hB, hS⟩ := and_tt hA
    have bo := blkB_ok hB
    cases q1 : r.w c (isTup tg) it with
    | none => rw [q1] at h; cases h
    | some w =>
      rw [q1] at h
      dsimp only at h
      cases q2 : r.g { c with sc := relC sc c.sc, kn := [], lm := false } false tg with
      | none => rw [q2] at h; cases h
      | some g =>
        rw [q2] at h
        dsimp only at h
        have hal := (mt_some h).1
        replace h := (mt_some h).2
        obtain ⟨tt, te, e1, e2, rfl⟩ := m2_some h
        have hin := allIn_ok hal
        refine ⟨tg, it, ifs, w, g, tt, te, rfl, rfl, bo, hS, r0.w o q1, fun i hi => by rw [← sndOf_eq]; exact hin i hi, fun s H C cls fp => r0.g (blk_ok o bo s H C cls fp) q2 hin, fun s H C cls fp => s_ifs r0 (blk_ok o bo s H C cls fp) e1, fun s H C cls fp => r0.e (blk_ok o bo s H C cls fp) e2⟩
  · cases h
theorem s_lcE (r0 : TrOk G B r) (o : CtOk G B W X cl k al c) {e : Expr} {gs : List Comprehension} {sc : Scope} (h : trLc r c e gs sc = some t) : PE X (.ListComp e gs sc pos) (rdE G W ((comp B t).e cl)) := by
  obtain ⟨tg, it, ifs, w, g, tt, te, rfl, rfl, bo, hS, h1, h2, h3, h4, h5⟩ := s_lc r0 o h
  show PE X _ (rdE G W (exLc (sndOf (ownOf c.N sc.names)) (comp B g).g (comp B w).w (comp B tt).t (comp B te).e cl))
  rw [sndOf_eq]
  exact pe_lcV o.calm (by rw [o.N]; exact o.nd) h1 (by rw [o.N, o.sc]; exact bo) h3 h4 h5 (setIt hS) h2 o.g.lsz
theorem s_dc (r0 : TrOk G B r) (o : CtOk G B W X cl k al c) {e v : Expr} {gs : List Comprehension} {sc : Scope} (h : trDc r c e v gs sc = some t) : PE X (.DictComp e v gs sc pos) (rdE G W ((comp B t).e cl)) := by
  unfold trDc at h
  split at h
  · rename_i tg it ifs
    dsimp only at h
    have hA := (mt_some h).1
    replace h := (mt_some h).2
    obtain ⟨hB, hS⟩ := and_tt hA
    have bo := blkB_ok hB
    cases q1 : r.w c (isTup tg) it with
    | none => rw [q1] at h; cases h
    | some w =>
      rw [q1] at h
      dsimp only at h
      cases q2 : r.g { c with sc := relC sc c.sc, kn := [], lm := false } false tg with
      | none => rw [q2] at h; cases h
      | some g =>
        rw [q2] at h
        dsimp only at h
        have hal := (mt_some h).1
        replace h := (mt_some h).2
        obtain ⟨tt, tk, tv, e1, e2, e3, rfl⟩ := m3_some h
        have hin := allIn_ok hal
        show PE X _ (rdE G W (exDc (sndOf (ownOf c.N sc.names)) (comp B g).g (comp B w).w (comp B tt).t (comp B tk).e (comp B tv).e cl))
        rw [sndOf_eq]
        exact pe_dcV o.calm (by rw [o.N]; exact o.nd) o.room.units0 (r0.w o q1) (by rw [o.N, o.sc]; exact bo) (fun s H C cls fp => r0.g (blk_ok o bo s H C cls fp) q2 hin) (fun s H C cls fp => s_ifs r0 (blk_ok o bo s H C cls fp) e1) (fun s H C cls fp => r0.e (blk_ok o bo s H C cls fp) e2) (fun s H C cls fp => r0.e (blk_ok o bo s H C cls fp) e3) (setIt hS) (fun i hi => by rw [← sndOf_eq]; exact hin i hi)
  · cases h
end
end Pv
end
section
set_option Elab.async false
set_option linter.all false
set_option maxRecDepth 100000
set_option maxHeartbeats 4000000
set_option autoImplicit false
/-! the translation is sound: all expressions, what is walked. -/
namespace Pv
open PySem L2 PySem.Spec PyProof.Rows PySem.W
section
variable {G : GC} {B : Tb} {r : Tr} {W : WX} {X : Cx} {cl : Cl} {k : Nat} {al : Nat → Prop} {c : Ct} {pos : Pos} {t : T}
theorem s_part (r0 : TrOk G B r) (o : CtOk G B W X cl k al c) {p : Option Expr} (h : trPart r c p = some t) : PO X p (rdO G W ((comp B t).a cl)) := by
  cases p with
  | none => cases h; exact po_noneV (cl := cl)
  | some e =>
    obtain ⟨x, e1, rfl⟩ := m1_some (show m1 (r.e c e) (fun t => .cons 0 t .nil) = some t from h)
    exact po_someV (r0.e o e1)
theorem plain_ix {b : Expr} (h : noSlice b = true) : PlainIx b := by
  cases b <;> first | (intro _ _; rfl) | cases h
theorem s_sub (r0 : TrOk G B r) (o : CtOk G B W X cl k al c) {a b : Expr} (h : trSub r c a b = some t) : PE X (.Subscript a b pos) (rdE G W ((comp B t).e cl)) := by
  unfold trSub at h
  split at h
  · obtain ⟨x, y, z, e1, e2, e3, rfl⟩ := m3_some h
    exact pe_slcV o.g.hK (r0.e o e1) (s_part r0 o e2) (s_part r0 o e3)
  · obtain ⟨x, e1, rfl⟩ := m1_some h
    exact pe_revV o.g.hK (r0.e o e1)
  · have h1 := (mt_some h).1
    replace h := (mt_some h).2
    obtain ⟨x, y, e1, e2, rfl⟩ := m2_some h
    exact pe_ixV o.g.hK o.hu (r0.e o e1) (r0.e o e2) (plain_ix h1)
theorem s_fld (r0 : TrOk G B r) (o : CtOk G B W X cl k al c) {ob : Expr} {f : Str} (h : trFld r c ob f = some t) : PE X (.Attribute ob f pos) (rdE G W ((comp B t).e cl)) := by
  unfold trFld at h
  have h1 := (mt_some h).1
  replace h := (mt_some h).2
  cases q : ixS f c.att with
  | none => rw [q] at h; cases h
  | some i =>
    rw [q] at h
    obtain ⟨x, e1, rfl⟩ := m1_some h
    have ga := o.g.eatt f i q
    subst ga
    exact pe_fldV o.g.ok o.g.hK (r0.e o e1) (attr_base h1 _)
theorem s_dict (r0 : TrOk G B r) (o : CtOk G B W X cl k al c) {ks : List (Option Expr)} {vs : List Expr} (h : trDict r c ks vs = some t) : PE X (.Dict ks vs pos) (rdE G W ((comp B t).e cl)) := by
  unfold trDict at h
  split at h
  · cases h; exact pe_dlit0 (cl := cl)
  · obtain ⟨x, y, e1, e2, rfl⟩ := m2_some h
    exact pe_dlit1 (r0.e o e1) (r0.e o e2)
  · cases h
theorem s_e (r0 : TrOk G B r) (hr : ∃ n, r = tr n) (o : CtOk G B W X cl k al c) {e : Expr} (h : trE r c e = some t) : PE X e (rdE G W ((comp B t).e cl)) := by
  unfold trE at h
  split at h
  · exact s_name o h
  · exact s_const (j := none) h
  · obtain ⟨x, e1, rfl⟩ := m1_some h
    exact pe_tupV (pa_keepA (r0.ak o e1))
  · obtain ⟨x, e1, rfl⟩ := m1_some h
    exact pe_lstV (pa_keepA (r0.ak o e1))
  · exact s_dict r0 o h
  · exact s_bin r0 o h
  · obtain ⟨x, e1, rfl⟩ := m1_some h
    exact pe_negV (r0.e o e1)
  · obtain ⟨x, e1, rfl⟩ := m1_some h
    exact pe_notV (r0.e o e1)
  · exact (s_cmp r0 o h).1
  · exact s_boolE r0 o h
  · have h1 := (mt_some h).1
    replace h := (mt_some h).2
    obtain ⟨x, y, z, e1, e2, e3, rfl⟩ := m3_some h
    exact pe_ifV (r0.t o e1 8 h1) (r0.e o e2) (r0.e o e3)
  · exact s_call r0 hr o h
  · exact s_sub r0 o h
  · exact s_fld r0 o h
  · exact s_lcE r0 o h
  · exact s_dc r0 o h
  · cases h
/-! #### tests -/
/-- a test is its value's truth -/
def ceT : T → Bool
  | .cmp _ _ _ => false
  | .chain _ _ _ _ _ => false
  | .tnot _ => false
  | .tand _ _ => false
  | .tor _ _ => false
  | _ => true
theorem ce_val {t : T} (h : ceT t = true) : (comp B t).t = teVal (comp B t).e := by
  cases t <;> first | rfl | (rw [comp_slot]; rfl) | (rw [comp_gname]; rfl) | cases h
theorem ce_name {x : Str} (h : trName c x = some t) : ceT t = true := by
  unfold trName at h
  split at h
  · cases h; rfl
  · split at h <;> first | (cases h; rfl) | cases h
theorem ce_m1 {a : Option T} {f : T → T} (hf : ∀ t, ceT (f t) = true) (h : m1 a f = some t) : ceT t = true := by
  obtain ⟨x, _, rfl⟩ := m1_some h
  exact hf x
theorem ce_m2 {a b : Option T} {f : T → T → T} (hf : ∀ t u, ceT (f t u) = true) (h : m2 a b f = some t) : ceT t = true := by
  obtain ⟨x, y, _, _, rfl⟩ := m2_some h
  exact hf x y
theorem ce_m3 {a b d : Option T} {f : T → T → T → T} (hf : ∀ t u v, ceT (f t u v) = true) (h : m3 a b d f = some t) : ceT t = true := by
  obtain ⟨x, y, z, _, _, _, rfl⟩ := m3_some h
  exact hf x y z
theorem ce_callN {x : Str} {as : List Expr} (h : trCallN r c x as = some t) : ceT t = true := by
  unfold trCallN trLam at h
  repeat' split at h
  all_goals first | cases h | exact ce_m1 (fun _ => rfl) h | exact ce_m2 (fun _ _ => rfl) h
theorem ce_callA {ob : Expr} {m : Str} {ap cp : Pos} {as : List Expr} (h : trCallA r c ob m ap cp as = some t) : ceT t = true := by
  unfold trCallA at h
  repeat' split at h
  all_goals first | cases h | exact ce_m1 (fun _ => rfl) h | exact ce_m2 (fun _ _ => rfl) h
theorem ce_call {f : Expr} {as : List Expr} {ks : List Keyword} (h : trCall r c f as ks pos = some t) : ceT t = true := by
  unfold trCall at h
  split at h
  · split at h
    · exact ce_callN h
    · exact ce_callA h
    · cases h
  · cases h
theorem ce_sub {a b : Expr} (h : trSub r c a b = some t) : ceT t = true := by
  unfold trSub at h
  repeat' split at h
  all_goals first | cases h | exact ce_m1 (fun _ => rfl) h | exact ce_m2 (fun _ _ => rfl) h | exact ce_m3 (fun _ _ _ => rfl) h
theorem ce_fld {a : Expr} {f : Str} (h : trFld r c a f = some t) : ceT t = true := by
  unfold trFld at h
  repeat' split at h
  all_goals first | cases h | exact ce_m1 (fun _ => rfl) h
theorem ce_dict {ks : List (Option Expr)} {vs : List Expr} (h : trDict r c ks vs = some t) : ceT t = true := by
  unfold trDict at h
  repeat' split at h
  all_goals first | (cases h; rfl) | cases h | exact ce_m2 (fun _ _ => rfl) h
theorem s_t (r0 : TrOk G B r) (hr : ∃ n, r = tr n) (o : CtOk G B W X cl k al c) {e : Expr} (h : trE r c e = some t) (m : Nat) (ht : tstB m e = true) : PT X e (rdT G W ((comp B t).t cl)) := by
  have val : ceT t = true → (∀ whole, isTrue e X.env whole = (do let v ← whole; standAt e.pos; holding [v] (truthy v))) → PT X e (rdT G W ((comp B t).t cl)) := fun hc he => by
    rw [ce_val hc]
    exact pt_valV o.g.hK (s_e r0 hr o h) he
  unfold trE at h
  split at h
  · exact val (ce_name h) fun _ => rfl
  · refine val ?_ fun _ => rfl
    rename_i kc _ _
    cases kc <;> first | (cases h; rfl) | cases h
  · exact val (ce_m1 (fun _ => rfl) h) fun _ => rfl
  · exact val (ce_m1 (fun _ => rfl) h) fun _ => rfl
  · exact val (ce_dict h) fun _ => rfl
  · refine val ?_ fun _ => rfl
    split at h
    · exact ce_m2 (fun _ _ => rfl) h
    · cases h
  · exact val (ce_m1 (fun _ => rfl) h) fun _ => rfl
  · obtain ⟨x, e1, rfl⟩ := m1_some h
    cases m with
    | zero => cases ht
    | succ n => exact pt_notV (r0.t o e1 n ht)
  · exact (s_cmp r0 o h).2
  · exact (s_boolW r0 o h m ht).pt
  · cases m with
    | zero => cases ht
    | succ n => cases ht
  · exact val (ce_call h) fun _ => rfl
  · exact val (ce_sub h) fun _ => rfl
  · exact val (ce_fld h) fun _ => rfl
  · refine val ?_ fun _ => rfl
    obtain ⟨tg, it, ifs, w, g, tt, te, _, rfl, _⟩ := s_lc r0 o h
    rfl
  · refine val ?_ fun _ => rfl
    unfold trDc at h
    split at h
    · dsimp only at h
      replace h := (mt_some h).2
      split at h
      · split at h
        · replace h := (mt_some h).2
          exact ce_m3 (fun _ _ _ => rfl) h
        · cases h
      · cases h
    · cases h
  · cases h
theorem s_b (r0 : TrOk G B r) (o : CtOk G B W X cl k al c) {op : BoolOp} {es : List Expr} (h : trE r c (.BoolOp op es pos) = some t) (m : Nat) (ht : tstB m (.BoolOp op es pos) = true) : PW X (.BoolOp op es pos) (rdT G W ((comp B t).t cl)) := s_boolW r0 o h m ht
end
end Pv
end
section
set_option Elab.async false
set_option linter.all false
set_option maxRecDepth 100000
set_option maxHeartbeats 4000000
set_option autoImplicit false
/-! the translation is sound: what is walked, targets. -/
namespace Pv
open PySem L2 PySem.Spec PyProof.Rows PySem.W
section
variable {G : GC} {B : Tb} {r : Tr} {W : WX} {X : Cx} {cl : Cl} {k : Nat} {al : Nat → Prop} {c : Ct} {pos : Pos} {t : T}
theorem callOf_ok {e : Expr} {x : Str} {as : List Expr} (h : callOf e = some (x, as)) : ∃ p p2, e = .Call (.Name x p) as [] p2 := by
  unfold callOf at h
  split at h
  · cases h; exact ⟨_, _, rfl⟩
  · cases h
theorem one1_ok {as : List Expr} {a : Expr} (h : one1 as = some a) : as = [a] ∧ noStar a = true := by
  unfold one1 at h
  split at h
  · have h1 := (mt_some h).1
    have h2 := (mt_some h).2
    cases h2; exact ⟨rfl, h1⟩
  · cases h
theorem two2_ok {as : List Expr} {a b : Expr} (h : two2 as = some (a, b)) : as = [a, b] ∧ noStar a = true ∧ noStar b = true := by
  unfold two2 at h
  split at h
  · have h1 := (mt_some h).1
    have h2 := (mt_some h).2
    cases h2; exact ⟨rfl, and_tt h1⟩
  · cases h
theorem s_w (r0 : TrOk G B r) (o : CtOk G B W X cl k al c) {tg e : Expr} (h : trW r c (isTup tg) e = some t) : PI X tg e (rdI G W ((comp B t).w cl)) := by
  have seqq : ∀ {t}, m1 (r.e c e) .wseq = some t → PI X tg e (rdI G W ((comp B t).w cl)) := by
    intro t h
    obtain ⟨x, e1, rfl⟩ := m1_some h
    exact pi_wseq o.g.hK (r0.e o e1)
  have tup : isTup tg = true → ∃ elts kk tpos, tg = .Tuple elts kk tpos := fun h => by cases tg <;> first | exact ⟨_, _, _, rfl⟩ | cases h
  unfold trW at h
  cases q : callOf e with
  | none => rw [q] at h; exact seqq h
  | some pr =>
    obtain ⟨x, as⟩ := pr
    rw [q] at h
    dsimp only at h
    cases q2 : freeB c x with
    | false => rw [q2] at h; exact seqq h
    | true =>
      rw [q2] at h
      dsimp only at h
      unfold trWB at h
      obtain ⟨h1, h2, h3, h4⟩ := o.free q2
      obtain ⟨p, p2, rfl⟩ := callOf_ok q
      cases q3 : seq x "range" with
      | true =>
        rw [q3] at h
        dsimp only at h
        have hl := (mt_some h).1
        replace h := (mt_some h).2
        have hx := seq_t q3
        subst hx
        obtain ⟨y, e1, rfl⟩ := m1_some h
        have ea := r0.a0 o e1
        cases as with
        | nil => cases hl
        | cons a as =>
          obtain ⟨u, v, rfl, n1, p1, ea⟩ := ea
          cases as with
          | nil =>
            cases ea
            exact pi_wrng1 h1 h2 p1 (starOne n1)
          | cons b as =>
            obtain ⟨u2, v2, rfl, n2, p2, ea⟩ := ea
            cases as with
            | nil =>
              cases ea
              exact pi_wrng2 h1 h2 p1 p2 (starOne n1) (starOne n2)
            | cons d as =>
              obtain ⟨u3, v3, rfl, n3, p3, ea⟩ := ea
              cases as with
              | nil =>
                cases ea
                exact pi_wrng3 h1 h2 p1 p2 p3 (starOne n1) (starOne n2) (starOne n3)
              | cons _ _ => cases hl
      | false =>
        rw [q3] at h
        dsimp only at h
        cases q4 : seq x "enumerate" with
        | true =>
          rw [q4] at h
          dsimp only at h
          have hx := seq_t q4
          subst hx
          cases q5 : one1 as with
          | none => rw [q5] at h; cases h
          | some a =>
            rw [q5] at h
            dsimp only at h
            have ht := (mt_some h).1
            replace h := (mt_some h).2
            obtain ⟨elts, kk, tpos, rfl⟩ := tup ht
            obtain ⟨rfl, n1⟩ := one1_ok q5
            obtain ⟨y, e1, rfl⟩ := m1_some h
            exact pi_wenum o.g.hK h1 h2 (r0.e o e1) (starOne n1)
        | false =>
          rw [q4] at h
          dsimp only at h
          cases q6 : seq x "zip" with
          | true =>
            rw [q6] at h
            dsimp only at h
            have hx := seq_t q6
            subst hx
            cases q5 : two2 as with
            | none => rw [q5] at h; cases h
            | some pr =>
              obtain ⟨a, b⟩ := pr
              rw [q5] at h
              dsimp only at h
              have ht := (mt_some h).1
              replace h := (mt_some h).2
              obtain ⟨elts, kk, tpos, rfl⟩ := tup ht
              obtain ⟨rfl, n1, n2⟩ := two2_ok q5
              obtain ⟨y, z, e1, e2, rfl⟩ := m2_some h
              exact pi_wzip o.g.hK h1 h2 (r0.e o e1) (r0.e o e2) (starOne n1) (starOne n2)
          | false =>
            rw [q6] at h
            exact seqq h
/-! #### targets -/
theorem assignOne {e : Expr} {rest : List Expr} {env : Env} (h : noStar e = true) : assignEach (e :: rest) env = (false, assign e env) :: assignEach rest env := by
  cases e <;> first | rfl | cases h
theorem assignLen : ∀ {es : List Expr} {env : Env}, (∀ e ∈ es, noStar e = true) → (assignEach es env).length = es.length ∧ (assignEach es env).findIdx? (·.1) = none
  | [], _, _ => ⟨rfl, rfl⟩
  | e :: es, env, h => by
    rw [assignOne (h e (by simp))]
    obtain ⟨h1, h2⟩ := assignLen (env := env) fun x hx => h x (List.mem_cons_of_mem _ hx)
    refine ⟨by rw [List.length_cons, List.length_cons, h1], ?_⟩
    rw [List.findIdx?_cons, h2]
    rfl
theorem asg_sub {a b : Expr} {env : Env} {v : Value} (h : noSlice b = true) : assign (.Subscript a b pos) env v = (do
      let ov ← holding [v] (eval a env)
      let iv ← holding [v, ov] (eval b env)
      standAt pos
      holding [v, ov, iv] (setItem ov iv v)
      release [v, ov, iv] []) := by
  rw [assign]
  cases b <;> first | rfl | cases h
theorem s_g (r0 : TrOk G B r) (o : CtOk G B W X cl k al c) {kk : Bool} {e : Expr} (h : trG r c kk e = some t) (ha : ∀ i ∈ tgs t, al i) : PG X e (rdG G W ((comp B t).g cl) (tgs t)) := by
  unfold trG at h
  split at h
  · rename_i x p
    have hl := locB_ok (mt_some h).1
    replace h := (mt_some h).2
    cases q : slotOf c x with
    | none => rw [q] at h; cases h
    | some i =>
      rw [q] at h
      cases h
      obtain ⟨h1, h2, h3, h4⟩ := o.slot q
      rw [comp_gname]
      refine pg_nameV (cl := cl) (by rw [o.N]; exact o.nd) h1 (by rw [o.sc]; exact hl) ?_
      have z := o.al i x (ha i (by simp [tgs])) (by rw [← o.N]; exact h1) hl
      rw [o.sc]
      exact z
  · obtain ⟨x, e1, rfl⟩ := m1_some h
    obtain ⟨a1, a2⟩ := assignLen (env := X.env) (r0.gst e1)
    exact pg_tupV o.g.hK o.calm (r0.gs o e1 ha) (by rw [a1, len_length]) a2
  · have h1 := (mt_some h).1
    replace h := (mt_some h).2
    obtain ⟨x, y, e1, e2, rfl⟩ := m2_some h
    exact pg_subV o.g.hK o.hu (r0.e o e1) (r0.e o e2) (fun v => asg_sub h1)
  · rename_i ob f p
    cases q : ixS f c.att with
    | none => rw [q] at h; cases h
    | some i =>
      rw [q] at h
      obtain ⟨x, e1, rfl⟩ := m1_some h
      have ga := o.g.eatt f i q
      subst ga
      exact pg_fldV o.g.ok o.g.hK (r0.e o e1)
  · cases h
theorem s_gn (o : CtOk G B W X cl k al c) {kk : Bool} {e : Expr} (h : trG r c kk e = some t) (ha : ∀ i ∈ tgs t, al i) (hn : isNm t = true ∨ ∃ y p, e = .Name y p) : ∃ y p i keep, e = .Name y p ∧ t = .gname i keep ∧ X.N[i]? = some y ∧ Loc X.env.scope y ∧ (X.fn y = true ∨ X.env.scope.names.lookup y = some .local) := by
  unfold trG at h
  split at h
  · rename_i x p
    have hl := locB_ok (mt_some h).1
    replace h := (mt_some h).2
    cases q : slotOf c x with
    | none => rw [q] at h; cases h
    | some i =>
      rw [q] at h
      cases h
      obtain ⟨h1, h2, h3, h4⟩ := o.slot q
      have z := o.al i x (ha i (by simp [tgs])) (by rw [← o.N]; exact h1) hl
      rw [o.sc]
      exact ⟨_, _, _, _, rfl, rfl, h1, hl, z⟩
  · obtain ⟨x, e1, rfl⟩ := m1_some h; rcases hn with hn | ⟨_, _, hn⟩ <;> cases hn
  · replace h := (mt_some h).2
    obtain ⟨x, y, e1, e2, rfl⟩ := m2_some h
    rcases hn with hn | ⟨_, _, hn⟩ <;> cases hn
  · split at h
    · obtain ⟨x, e1, rfl⟩ := m1_some h; rcases hn with hn | ⟨_, _, hn⟩ <;> cases hn
    · cases h
  · cases h
theorem s_gs (r0 : TrOk G B r) (o : CtOk G B W X cl k al c) {kk : Bool} {es : List Expr} (h : trGs r c kk es = some t) (ha : ∀ i ∈ tgs t, al i) : PGs X es (rdGs G W ((comp B t).gs cl) (tgs t)) := by
  cases es with
  | nil => cases h; exact pgs_nilV (cl := cl)
  | cons e es =>
    have h : (match noStar e with | true => m2 (r.g c kk e) (r.gs c kk es) (.cons 0) | false => none) = some t := h
    obtain ⟨h1, h2⟩ := mt_some h
    obtain ⟨x, y, e1, e2, rfl⟩ := m2_some h2
    exact pgs_consV (r0.g o e1 fun i hi => ha i (List.mem_append_left _ hi)) (r0.gs o e2 fun i hi => ha i (List.mem_append_right _ hi)) (by rw [assignOne h1]; rfl)
theorem s_gst (r0 : TrOk G B r) {kk : Bool} {es : List Expr} (h : trGs r c kk es = some t) : ∀ e ∈ es, noStar e = true := by
  cases es with
  | nil => intro e he; cases he
  | cons e es =>
    have h : (match noStar e with | true => m2 (r.g c kk e) (r.gs c kk es) (.cons 0) | false => none) = some t := h
    obtain ⟨h1, h2⟩ := mt_some h
    obtain ⟨x, y, e1, e2, rfl⟩ := m2_some h2
    intro e' he
    rcases List.mem_cons.mp he with z | z
    · rw [z]; exact h1
    · exact r0.gst e2 e' z
end
end Pv
end
section
set_option Elab.async false
set_option linter.all false
set_option maxRecDepth 100000
set_option maxHeartbeats 4000000
set_option autoImplicit false
/-! the translation is sound: statements. -/
namespace Pv
open PySem L2 PySem.Spec PyProof.Rows PySem.W
theorem any_star {vs : List Expr} (h : ∀ e ∈ vs, noStar e = true) : ¬ ((vs.any fun | .Starred .. => true | _ => false) = true) := by
  intro z
  rw [List.any_eq_true] at z
  obtain ⟨e, he, q⟩ := z
  have hn := h e he
  cases e <;> first | (cases q; done) | (cases hn; done)
def nmF (env : Env) (line : Nat) : Expr → Option Str
  | .Name id pos => if env.kindOf id == some .local && pos.line == line then some id else none
  | _ => none
theorem sw_gen {env : Env} {ts vs : List Expr} {names : List Str} {pt : Pos} {kt k2 : Nat} {pt2 : Pos} (hb : env.blockKind = .function) (hl : ts.length = 2 ∨ ts.length = 3) (hv : vs.length = ts.length) (hs : ∀ e ∈ vs, noStar e = true)
    (hn : ts.filterMap (nmF env ((ts.head?.map (·.pos.line)).getD 0)) = names) (h1 : names.length = ts.length) (h2 : names.eraseDups.length = names.length) (f : vs.all (foldedForSure 8) = false) (g : vs.all (constantsAlone 8) = false) :
    swappedStores [.Tuple ts kt pt] (.Tuple vs k2 pt2) env = pure (some names) := by
  unfold swappedStores
  refine (if_neg ?_).trans ((if_neg (any_star hs)).trans ((if_neg ?_).trans ((if_neg ?_).trans ((if_neg ?_).trans ?_))))
  · rw [hb, hv]
    rcases hl with e | e <;> rw [e] <;> decide
  · show ¬ ((ts.filterMap (nmF env ((ts.head?.map (·.pos.line)).getD 0))).length != ts.length || (ts.filterMap (nmF env ((ts.head?.map (·.pos.line)).getD 0))).eraseDups.length != (ts.filterMap (nmF env ((ts.head?.map (·.pos.line)).getD 0))).length) = true
    rw [hn, h1, h2, h1]
    simp
  · rw [f]; simp
  · rw [g]; simp
  · show pure (some (ts.filterMap (nmF env ((ts.head?.map (·.pos.line)).getD 0)))) = _
    rw [hn]
theorem sw_none {env : Env} {ts vs : List Expr} {pt : Pos} {kt k2 : Nat} {pt2 : Pos} (h : (ts.length = 2 ∨ ts.length = 3) → (ts.filterMap (nmF env ((ts.head?.map (·.pos.line)).getD 0))).length ≠ ts.length) :
    swappedStores [.Tuple ts kt pt] (.Tuple vs k2 pt2) env = pure none := by
  unfold swappedStores
  by_cases c1 : (!(ts.length == 2 || ts.length == 3) || vs.length != ts.length || env.blockKind != .function) = true
  · exact if_pos c1
  · refine (if_neg c1).trans ?_
    by_cases c2 : (vs.any fun | .Starred .. => true | _ => false) = true
    · exact if_pos c2
    · refine (if_neg c2).trans (if_pos ?_)
      show ((ts.filterMap (nmF env ((ts.head?.map (·.pos.line)).getD 0))).length != ts.length || _) = true
      have : ts.length = 2 ∨ ts.length = 3 := by
        simp at c1
        rcases Nat.decEq ts.length 2 with n | n
        · exact .inr (c1.1.1 n)
        · exact .inl n
      simp [h this]

theorem swaps_no {e : Expr} {tg : Option Expr} {line : Nat} {env : Env} (h : noComp e = true) : swapsWith e tg line env = pure false := by
  cases e <;> first | rfl | cases h
theorem swapsSole_no {tg e : Expr} {line : Nat} {env : Env} (h : noComp e = true) : swapsWithSole [tg] e line env = pure false := swaps_no h
theorem len2 {α : Type} {l : List α} (h : l.length = 2) : ∃ a b, l = [a, b] := by
  match l, h with
  | [a, b], _ => exact ⟨a, b, rfl⟩
theorem len3 {α : Type} {l : List α} (h : l.length = 3) : ∃ a b c, l = [a, b, c] := by
  match l, h with
  | [a, b, c], _ => exact ⟨a, b, c, rfl⟩
theorem block_fn {env : Env} (h : env.scope.kind = .function) : env.blockKind = .function := by
  unfold Env.blockKind
  rw [h]
  rfl
/-- name = [..], the name a cell -/
theorem swaps_lc {elt : Expr} {gs : List Comprehension} {sc : Scope} {p q : Pos} {x : Str} {line : Nat} {env : Env} (h : env.kindOf x ≠ some .local) : swapsWith (.ListComp elt gs sc p) (some (.Name x q)) line env = pure false := by
  have e : (env.kindOf x == some .local) = false := by
    cases z : env.kindOf x == some .local with
    | false => rfl
    | true => exact absurd (beq_iff_eq.mp z) h
  show pure (env.blockKind == .function && env.kindOf x == some .local && q.line == p.line && !(sc.names.any fun (n, k) => n == x && (k == .local || k == .cell))) = _
  rw [e]
  simp
theorem swaps_lcT {elt : Expr} {gs : List Comprehension} {sc : Scope} {p q : Pos} {x : Str} {line : Nat} {env : Env} (hb : env.blockKind = .function) (h : env.kindOf x = some .local) (hl : q.line = p.line) (hs : ∀ y ∈ sc.names, y.1 = x → y.2 ≠ .local ∧ y.2 ≠ .cell) : swapsWith (.ListComp elt gs sc p) (some (.Name x q)) line env = pure true := by
  show pure (env.blockKind == .function && env.kindOf x == some .local && q.line == p.line && !(sc.names.any fun (n, k) => n == x && (k == .local || k == .cell))) = _
  have e : (sc.names.any fun (n, k) => n == x && (k == .local || k == .cell)) = false := by
    rw [List.any_eq_false]
    rintro ⟨n, k⟩ hy
    obtain ⟨h1, h2⟩ | h1 := Classical.em (n = x) |>.imp (fun z => (hs _ hy z)) id
    · have a : (k == NameKind.local) = false := by cases k <;> first | rfl | exact absurd rfl h1
      have b : (k == NameKind.cell) = false := by cases k <;> first | rfl | exact absurd rfl h2
      show ¬ ((n == x && (k == NameKind.local || k == NameKind.cell)) = true)
      rw [a, b]
      simp
    · show ¬ ((n == x && (k == NameKind.local || k == NameKind.cell)) = true)
      have : (n == x) = false := by
        cases z : n == x with
        | false => rfl
        | true => exact absurd (beq_iff_eq.mp z) h1
      rw [this]
      simp
  rw [e, hb, h, hl]
  simp
theorem swapped_no {tg e : Expr} {env : Env} (h : swB tg e = true) : swappedStores [tg] e env = pure none := by
  cases tg <;> first | rfl | (cases e <;> first | rfl | cases h)
section
variable {G : GC} {B : Tb} {r : Tr} {W : WX} {X : Cx} {cl : Cl} {k : Nat} {al : Nat → Prop} {c : Ct} {pos : Pos} {t : T}
theorem s_asg (r0 : TrOk G B r) (o : CtOk G B W X cl k al c) (ha : ∀ i, al i) {tg e : Expr} (hs : swapsWith e (some tg) pos.line X.env = pure false) (hn : noStar tg = true) (hw : swappedStores [tg] e X.env = pure none) (h : m2 (r.g c true tg) (r.e c e) .sasg = some t) : PS X (.Assign [tg] e pos) (rdS G W ((comp B t).s cl)) := by
  obtain ⟨x, y, e1, e2, rfl⟩ := m2_some h
  show PS X _ (rdS G W (suAsg (isNm x) (comp B x).g (comp B y).e cl))
  cases q : isNm x with
  | true =>
    obtain ⟨z, p, i, keep, rfl, rfl, h1, h2, h3⟩ := r0.gn o e1 (fun i _ => ha i) (.inl q)
    rw [comp_gname]
    exact ps_setV (by rw [o.N]; exact o.nd) h1 h2 (r0.e o e2) hs h3
  | false => exact ps_asgV (r0.e o e2) (r0.g o e1 fun i _ => ha i) hs hw (by rw [assignOne hn]; rfl)
theorem s_plain (r0 : TrOk G B r) (o : CtOk G B W X cl k al c) (ha : ∀ i, al i) {tg e : Expr} (h : trPlain r c tg e = some t) : PS X (.Assign [tg] e pos) (rdS G W ((comp B t).s cl)) := by
  unfold trPlain at h
  cases q : noComp e with
  | true =>
    rw [q] at h
    dsimp only at h
    have h1 := (mt_some h).1
    replace h := (mt_some h).2
    obtain ⟨a, b⟩ := and_tt h1
    exact s_asg r0 o ha (swaps_no q) a (swapped_no b) h
  | false =>
    rw [q] at h
    dsimp only at h
    split at h
    · rename_i elt gs sc p x qp
      cases q1 : lcl c.sc x with
      | false =>
        rw [q1] at h
        refine s_asg r0 o ha (swaps_lc ?_) rfl rfl h
        intro z
        have z : c.sc.names.lookup x = some .local := by rw [← o.sc]; exact z
        unfold lcl at q1
        rw [lookS_eq, z] at q1
        cases q1
      | true =>
        rw [q1] at h
        dsimp only at h
        have hl := (mt_some h).1
        replace h := (mt_some h).2
        have hx := lcl_ok q1
        have nl : (lookS x sc.names ≠ some .local ∧ lookS x sc.names ≠ some .cell) ∧ m2 (r.g c true (.Name x qp)) (r.e c (.ListComp elt gs sc p)) .sasg = some t := by
          cases q2 : lookS x sc.names with
          | none => rw [q2] at h; exact ⟨⟨(fun z => by cases z), (fun z => by cases z)⟩, h⟩
          | some kk =>
            rw [q2] at h
            cases kk <;> first | (cases h; done) | exact ⟨⟨(fun z => by cases z), (fun z => by cases z)⟩, h⟩
        obtain ⟨⟨n1, n2⟩, h⟩ := nl
        obtain ⟨g', e', e1, e2, rfl⟩ := m2_some h
        obtain ⟨tg, it, ifs, w, g, tt, te, rfl, rfl, bo, hS, k1, k2, k3, k4, k5⟩ := r0.lc o e2
        have hk : X.env.kindOf x = some .local := by show X.env.scope.names.lookup x = _; rw [o.sc]; exact hx
        have hsw : swapsWith (.ListComp elt [⟨tg, it, ifs, 0⟩] sc p) (some (.Name x qp)) pos.line X.env = pure true := swaps_lcT (block_fn o.kx) hk (Nat.eq_of_beq_eq_true hl) fun y hy e => by
          have u := bo.uniq y hy
          rw [e, ← lookS_eq] at u
          exact ⟨fun z => n1 (by rw [u, z]), fun z => n2 (by rw [u, z])⟩
        obtain ⟨z, p0, i, keep, ez, rfl, h1, h2, h3⟩ := r0.gn o e1 (fun i _ => ha i) (.inr ⟨_, _, rfl⟩)
        cases ez
        refine PS.imp (ps_setLcV (i := i) o.calm (by rw [o.N]; exact o.nd) h1 hk hsw k1 (by rw [o.N, o.sc]; exact bo) k3 k4 k5 (setIt hS) k2 o.g.lsz) fun E σ H q => ?_
        rw [← sndOf_eq]
        rw [comp_asgn] at q
        exact setName_rd q
    · cases h
theorem namesOf_ok {ts : List Expr} {is : List Nat} (h : namesOf c ts = some is) : ∃ xs : List (Str × Pos), ts = xs.map (fun p => Expr.Name p.1 p.2) ∧ xs.map (fun p => slotOf c p.1) = is.map some := by
  induction ts generalizing is with
  | nil => cases h; exact ⟨[], rfl, rfl⟩
  | cons e ts ih =>
    unfold namesOf at h
    split at h
    · rename_i heq; cases heq
    · rename_i x p rest heq
      cases heq
      cases q1 : slotOf c x with
      | none => rw [q1] at h; cases h
      | some i =>
        rw [q1] at h
        dsimp only at h
        cases q2 : namesOf c ts with
        | none => rw [q2] at h; cases h
        | some js =>
          rw [q2] at h
          cases h
          obtain ⟨xs, h1, h2⟩ := ih q2
          exact ⟨(x, p) :: xs, by rw [h1]; rfl, by rw [List.map_cons, List.map_cons, q1, h2]⟩
    · cases h
theorem swN_ok {sc : Scope} {line : Nat} : ∀ {xs : List (Str × Pos)}, swN sc line (xs.map fun p => Expr.Name p.1 p.2) = true → ∀ p ∈ xs, sc.names.lookup p.1 = some .local ∧ p.2.line = line
  | [], _, p, hp => by cases hp
  | (x, q) :: xs, h, p, hp => by
    have h : (match lcl sc x && Nat.beq q.line line with | true => swN sc line (xs.map fun p => Expr.Name p.1 p.2) | false => false) = true := h
    cases e : lcl sc x && Nat.beq q.line line with
    | false => rw [e] at h; cases h
    | true =>
      rw [e] at h
      obtain ⟨e1, e2⟩ := and_tt e
      rcases List.mem_cons.mp hp with z | z
      · subst z; exact ⟨lcl_ok e1, Nat.eq_of_beq_eq_true e2⟩
      · exact swN_ok h p z
theorem anyNC_ok : ∀ {es : List Expr}, anyNC es = true → es.all (foldedForSure 8) = false ∧ es.all (constantsAlone 8) = false
  | [], h => by cases h
  | e :: es, h => by
    have h : ((!constantsAlone 8 e && !foldedForSure 8 e) || anyNC es) = true := h
    rw [List.all_cons, List.all_cons]
    rcases Bool.or_eq_true_iff.mp h with z | z
    · obtain ⟨a, b⟩ := and_tt z
      rw [Bool.not_eq_true'] at a b
      rw [a, b]
      exact ⟨rfl, rfl⟩
    · obtain ⟨a, b⟩ := anyNC_ok z
      rw [a, b]
      simp
theorem nm_names {env : Env} {line : Nat} : ∀ {xs : List (Str × Pos)}, (∀ p ∈ xs, env.kindOf p.1 = some .local ∧ p.2.line = line) → (xs.map fun p => Expr.Name p.1 p.2).filterMap (nmF env line) = xs.map (·.1)
  | [], _ => rfl
  | (x, q) :: xs, h => by
    obtain ⟨h1, h2⟩ := h (x, q) (by simp)
    have e : nmF env line (.Name x q) = some x := by
      show (if (env.kindOf x == some .local && q.line == line) = true then some x else none) = some x
      rw [h1, show q.line = line from h2]
      simp
    rw [List.map_cons, List.filterMap_cons, e]
    show x :: _ = x :: _
    rw [nm_names fun p hp => h p (List.mem_cons_of_mem _ hp)]
/-- not all are names of ours on that line -/
theorem nm_less {env : Env} {line : Nat} : ∀ {ts : List Expr}, swN env.scope line ts = false → (ts.filterMap (nmF env line)).length < ts.length
  | [], h => by cases h
  | e :: ts, h => by
    have le : ∀ ts : List Expr, (ts.filterMap (nmF env line)).length ≤ ts.length := fun ts => List.length_filterMap_le _ _
    rw [List.filterMap_cons]
    cases q : nmF env line e with
    | none =>
      have := le ts
      simp only [List.length_cons]
      omega
    | some x =>
      have nm : ∃ p, e = .Name x p ∧ lcl env.scope x = true ∧ p.line = line := by
        cases e <;> first | (cases q; done) | skip
        rename_i y p
        have q : (if (env.kindOf y == some .local && p.line == line) = true then some y else none) = some x := q
        split at q
        · rename_i hc
          obtain ⟨a, b⟩ := and_tt hc
          have a : env.scope.names.lookup y = some .local := beq_iff_eq.mp a
          have e := Option.some.inj q
          refine ⟨p, by rw [e], ?_, beq_iff_eq.mp b⟩
          unfold lcl
          rw [lookS_eq, ← e, a]
        · cases q
      obtain ⟨p, rfl, a, b⟩ := nm
      have h : (match lcl env.scope x && Nat.beq p.line line with | true => swN env.scope line ts | false => false) = false := h
      rw [a, b, show Nat.beq line line = true from Nat.beq_refl line] at h
      have := nm_less (ts := ts) h
      simp only [List.length_cons]
      omega
theorem line1_eq (ts : List Expr) : line1 ts = (ts.head?.map (·.pos.line)).getD 0 := by cases ts <;> rfl
theorem s_as (r0 : TrOk G B r) (o : CtOk G B W X cl k al c) (ha : ∀ i, al i) {tg e : Expr} (h : trAsg r c tg e = some t) : PS X (.Assign [tg] e pos) (rdS G W ((comp B t).s cl)) := by
  unfold trAsg at h
  split at h
  · rename_i ts kt pt vs kv pv
    cases q : (lenB ts 2 || lenB ts 3) && swN c.sc (line1 ts) ts with
    | false =>
      rw [q] at h
      refine s_asg r0 o ha (swaps_no rfl) rfl (sw_none fun hl => ?_) h
      have q2 : swN c.sc (line1 ts) ts = false := by
        rcases hl with z | z
        · have : lenB ts 2 = true := by unfold lenB; rw [len_length, z]; rfl
          rw [this] at q
          simpa using q
        · have : lenB ts 3 = true := by unfold lenB; rw [len_length, z]; rfl
          rw [this] at q
          simpa using q
      rw [line1_eq, ← o.sc] at q2
      exact Nat.ne_of_lt (nm_less q2)
    | true =>
      rw [q] at h
      dsimp only at h
      have hv := (mt_some h).1
      replace h := (mt_some h).2
      obtain ⟨q1, q2⟩ := and_tt q
      obtain ⟨v1, v2⟩ := and_tt hv
      have lv := lenB_ok v1
      rw [len_length] at lv
      obtain ⟨f, g⟩ := anyNC_ok v2
      cases qn : namesOf c ts with
      | none => rw [qn] at h; cases h
      | some is =>
        rw [qn] at h
        dsimp only at h
        have hu := (mt_some h).1
        replace h := (mt_some h).2
        obtain ⟨y, e1, rfl⟩ := m1_some h
        obtain ⟨xs, rfl, hxs⟩ := namesOf_ok qn
        have loc := swN_ok q2
        have st := r0.st e1
        have pk := pa_keepA (r0.ak o e1)
        have hl : (xs.map fun p => Expr.Name p.1 p.2).length = 2 ∨ (xs.map fun p => Expr.Name p.1 p.2).length = 3 := by
          rcases Bool.or_eq_true_iff.mp q1 with z | z
          · exact .inl (lenB_ok z)
          · exact .inr (lenB_ok z)
        have nmn : (xs.map fun p => Expr.Name p.1 p.2).filterMap (nmF X.env (((xs.map fun p => Expr.Name p.1 p.2).head?.map (·.pos.line)).getD 0)) = xs.map (·.1) := nm_names fun p hp => by
          rw [← line1_eq]
          exact ⟨by show X.env.scope.names.lookup p.1 = _; rw [o.sc]; exact (loc p hp).1, (loc p hp).2⟩
        have sl : ∀ {x i}, slotOf c x = some i → X.N[i]? = some x := fun {x i} z => (o.slot z).1
        have ndx : ∀ {x y i j}, slotOf c x = some i → slotOf c y = some j → i ≠ j → (x == y) = false := fun {x y i j} z1 z2 n => by
          cases q : x == y with
          | false => rfl
          | true =>
            rw [beq_iff_eq.mp q, z2] at z1
            exact absurd (Option.some.inj z1).symm n
        have lk : ∀ p ∈ xs, X.env.scope.names.lookup p.1 = some .local := fun p hp => by rw [o.sc]; exact (loc p hp).1
        show PS X _ (rdS G W (suPar is (comp B y).a cl))
        have nd := o.nd
        rw [← o.N] at nd
        match xs, is, hxs, hu, hl, pk, st, nmn, lk, lv with
        | [(x, px), (y', py)], [i, j], hxs, hu, hl, pk, st, nmn, lk, lv =>
          obtain ⟨a, b, rfl⟩ := len2 lv
          simp only [List.map_cons, List.map_nil, List.cons.injEq, and_true] at hxs
          obtain ⟨s1, s2⟩ := hxs
          have hu : (!memN i [j] && (!memN j [] && true)) = true := hu
          have ij : i ≠ j := fun z => memN_ok (by simpa using (and_tt hu).1) (by simp [z])
          refine ps_par2V o.calm nd (sl s1) (sl s2) ij (lk _ (by simp)) (lk _ (by simp)) pk (sw_gen (block_fn o.kx) hl rfl st nmn rfl ?_ f g) (swapsSole_no rfl)
          have := ndx s2 s1 (Ne.symm ij)
          simp [List.eraseDups_cons, this]
        | [(x, px), (y', py), (z', pz)], [i, j, l], hxs, hu, hl, pk, st, nmn, lk, lv =>
          obtain ⟨a, b, d, rfl⟩ := len3 lv
          simp only [List.map_cons, List.map_nil, List.cons.injEq, and_true] at hxs
          obtain ⟨s1, s2, s3⟩ := hxs
          have hu : (!memN i [j, l] && (!memN j [l] && (!memN l [] && true))) = true := hu
          have m1 := memN_ok (i := i) (l := [j, l]) (by simpa using (and_tt hu).1)
          have m2 := memN_ok (i := j) (l := [l]) (by simpa using (and_tt (and_tt hu).2).1)
          have ij : i ≠ j := fun z => m1 (by simp [z])
          have il : i ≠ l := fun z => m1 (by simp [z])
          have jl : j ≠ l := fun z => m2 (by simp [z])
          refine ps_par3V o.calm nd (sl s1) (sl s2) (sl s3) ij il jl (lk _ (by simp)) (lk _ (by simp)) (lk _ (by simp)) pk (sw_gen (block_fn o.kx) hl rfl st nmn rfl ?_ f g) (swapsSole_no rfl)
          have n1 := ndx s2 s1 (Ne.symm ij)
          have n2 := ndx s3 s1 (Ne.symm il)
          have n3 := ndx s3 s2 (Ne.symm jl)
          simp [List.eraseDups_cons, n1, n2, n3]
        | [(x, px), (y', py)], [], hxs, hu, hl, pk, st, nmn, lk, lv => simp at hxs
        | [(x, px), (y', py)], [_], hxs, hu, hl, pk, st, nmn, lk, lv => simp at hxs
        | [(x, px), (y', py)], _ :: _ :: _ :: _, hxs, hu, hl, pk, st, nmn, lk, lv => simp at hxs
        | [(x, px), (y', py), (z', pz)], [], hxs, hu, hl, pk, st, nmn, lk, lv => simp at hxs
        | [(x, px), (y', py), (z', pz)], [_], hxs, hu, hl, pk, st, nmn, lk, lv => simp at hxs
        | [(x, px), (y', py), (z', pz)], [_, _], hxs, hu, hl, pk, st, nmn, lk, lv => simp at hxs
        | [(x, px), (y', py), (z', pz)], _ :: _ :: _ :: _ :: _, hxs, hu, hl, pk, st, nmn, lk, lv => simp at hxs
        | [], _, _, _, hl, _, _, _, _, _ => rcases hl with z | z <;> cases z
        | [_], _, _, _, hl, _, _, _, _, _ => rcases hl with z | z <;> cases z
        | _ :: _ :: _ :: _ :: _, _, _, _, hl, _, _, _, _, _ => rcases hl with z | z <;> simp at z
  · exact s_plain r0 o ha h
theorem aug_op {o : Operator} {b : Bop} (h : opA o = some b) : o = opOf b ∧ AugOp b := by
  cases o <;> first | (cases h; first | exact ⟨rfl, .inl rfl⟩ | exact ⟨rfl, .inr rfl⟩) | cases h
theorem s_s (r0 : TrOk G B r) (o : CtOk G B W X cl k al c) (ha : ∀ i, al i) {s : Stmt} (h : trS r c s = some t) : PS X s (rdS G W ((comp B t).s cl)) := by
  unfold trS at h
  split at h
  · cases h; exact ps_retNV
  · obtain ⟨x, e1, rfl⟩ := m1_some h
    exact ps_retV (r0.e o e1)
  · exact s_as r0 o ha h
  · rename_i tg op e p
    cases q : opA op with
    | none => rw [q] at h; cases h
    | some op' =>
      rw [q] at h
      dsimp only at h
      split at h
      · rename_i x p2
        have hl := locB_ok (mt_some h).1
        replace h := (mt_some h).2
        cases q2 : slotOf c x with
        | none => rw [q2] at h; cases h
        | some i =>
          rw [q2] at h
          obtain ⟨y, e1, rfl⟩ := m1_some h
          obtain ⟨h1, h2, h3, h4⟩ := o.slot q2
          obtain ⟨rfl, hop⟩ := aug_op q
          refine ps_augV hop (by rw [o.N]; exact o.nd) h1 (by rw [o.sc]; exact hl) (r0.e o e1) ?_
          rw [o.sc]
          exact o.al i x (ha i) (by rw [← o.N]; exact h1) hl
      · cases h
  · have h1 := (mt_some h).1
    replace h := (mt_some h).2
    obtain ⟨x, y, z, e1, e2, e3, rfl⟩ := m3_some h
    exact ps_forV o.hp o.calm (r0.w o e2) (r0.g o e1 fun i _ => ha i) (r0.ss o ha e3) (setIt h1)
  · have h1 := (mt_some h).1
    replace h := (mt_some h).2
    obtain ⟨x, y, e1, e2, rfl⟩ := m2_some h
    exact ps_whileV o.hp (r0.t o e1 8 h1) (r0.ss o ha e2)
  · have h1 := (mt_some h).1
    replace h := (mt_some h).2
    obtain ⟨x, y, z, e1, e2, e3, rfl⟩ := m3_some h
    exact ps_ifV (r0.t o e1 8 h1) (r0.ss o ha e2) (r0.ss o ha e3)
  · cases h
    exact PS.imp ps_never fun E σ H q => by
      obtain ⟨P, h, en, st, e⟩ := q
      exact e
  · cases h
    exact ps_docV (cl := cl)
  · have h1 := (mt_some h).1
    replace h := (mt_some h).2
    obtain ⟨x, e1, rfl⟩ := m1_some h
    exact ps_exprV (r0.e o e1) (swaps_no h1)
  · cases h; exact ps_passV (cl := cl)
  · cases h; exact ps_brkV
  · cases h; exact ps_contV
  · cases h
theorem s_ss (r0 : TrOk G B r) (o : CtOk G B W X cl k al c) (ha : ∀ i, al i) {s : List Stmt} (h : trSs r c s = some t) : PSs X s (rdS G W ((comp B t).s cl)) := by
  cases s with
  | nil => cases h; exact pss_nilV (cl := cl)
  | cons s ss =>
    obtain ⟨x, y, e1, e2, rfl⟩ := m2_some (show m2 (r.s c s) (r.ss c ss) (.cons 0) = some t from h)
    exact pss_consV (r0.s o ha e1) (r0.ss o ha e2)
theorem step_ok2 (r0 : TrOk G B r) (hr : ∃ n, r = tr n) : TrOk G B (trStep r) where
  e := fun o _ _ h => s_e r0 hr o h
  t := fun o _ _ h => s_t r0 hr o h
  b := fun o _ _ _ _ h => s_b r0 o h
  a0 := fun o _ _ h => s_a0 r0 o h
  a1 := fun o _ _ h _ _ hu => s_a1 r0 o h hu
  st := fun h => s_st r0 h
  nil := fun {c k t} h => s_nil (r := r) (c := c) (kk := k) h
  w := fun o _ _ _ h => s_w r0 o h
  g := fun o _ _ _ h => s_g r0 o h
  gn := fun o _ _ _ h => s_gn o h
  lc := fun o _ _ _ _ _ h => s_lc r0 o h
  gs := fun o _ _ _ h => s_gs r0 o h
  gst := fun h => s_gst r0 h
  s := fun o ha _ _ h => s_s r0 o ha h
  ss := fun o ha _ _ h => s_ss r0 o ha h
end
/-- THE TRANSLATION IS SOUND -/
theorem tr_ok (G : GC) (B : Tb) : ∀ n, TrOk G B (tr n)
  | 0 => trB_ok
  | n + 1 => step_ok2 (tr_ok G B n) ⟨n, rfl⟩
end Pv
end
section
set_option Elab.async false
set_option linter.all false
set_option maxRecDepth 100000
set_option maxHeartbeats 4000000
set_option autoImplicit false
/-! all defs keep what the evaluator says, by depth. -/
namespace Pv
open PySem L2 PySem.Spec PyProof.Rows PySem.W
section
variable {G : GC} {B : Tb} {Pr : Program} {w : World} {K : PySem.W.Frag} {mg : Str → Option Value} {base : Heap} {cl : Cl} {k : Nat} {gl : List (Str × Gk)} {fr att : List Str}
/-- a def's text and place -/
def DefAt (G : GC) (B : Tb) (K : PySem.W.Frag) (mg : Str → Option Value) (base : Heap) (gl : List (Str × Gk)) (fr att : List Str) (f : Nat) (fd : FuncData) (as : List Arg) : Prop :=
  ∃ (x qual : Str) (ar : Arguments) (bd : List Stmt) (sc : Scope) (N : List Str) (kn : List Nat) (lm : Bool) (t : T) (m : Nat), FunD K x qual ar bd sc [] [] (G.F f) fd ∧ parsOf ar = some (as.map (·.arg)) ∧ (as.map (·.arg)).Nodup ∧ FnScope N (as.map (·.arg)) sc ∧
    (tr m).ss ⟨N, sc, gl, fr, kn, att, lm⟩ bd = some t ∧ B.f.get 12 f = some ⟨as.length, List.replicate (N.length - as.length) none, t⟩ ∧
    (lm = true → ∃ c P nm, fd.code = .ref c ∧ LamX.TabB base mg c P ∧ (P, nm) ∈ G.tb ∧ (∀ l k, nm l k = qual ++ ".<locals>." ++ "<lambda>") ∧ ∀ p ∈ G.tb, p.1 = P → p.2 = nm)
structure DefOk (G : GC) (B : Tb) (K : PySem.W.Frag) (mg : Str → Option Value) (base : Heap) (gl : List (Str × Gk)) (fr att : List Str) (f : Nat) : Prop where
  ex : ∃ fd as, DefAt G B K mg base gl fr att f fd as
theorem fd_binds {x qual : Str} {ar : Arguments} {bd : List Stmt} {sc : Scope} {a : Addr} {fd : FuncData} {as : List Arg} (F : FunD K x qual ar bd sc [] [] a fd) (hp : parsOf ar = some (as.map (·.arg))) (hnd : (as.map (·.arg)).Nodup) : ∀ us : List Value, us.length = (as.map (·.arg)).length → bindArgs fd ⟨us, []⟩ = pure ((as.map (·.arg)).zip us) := by
  intro us hl
  obtain ⟨oc, od, dV, kV, doc, pm, an, cdv, ct, osl, hfd, lk, hcd, hdv, _⟩ := F.ex
  obtain rfl : dV = .none := by
    rcases hdv with ⟨_, e⟩ | ⟨n, _⟩
    · exact e
    · exact absurd rfl n
  subst hfd
  obtain ⟨as2, hps, has⟩ := parsOf_ok hp
  have as_len : as2.length = as.length := by
    have z := congrArg List.length has
    rw [List.length_map, List.length_map] at z
    exact z.symm
  have := bind_ok (fd := PySem.W.fnOf x qual ar bd sc .none kV doc pm an cdv ct) (as := as2) (us := us) hps rfl (by rw [← has]; exact hnd) (by rw [hl, List.length_map, as_len])
  rw [this, has]
theorem DefAt.binds {f : Nat} {fd : FuncData} {as : List Arg} (D : DefAt G B K mg base gl fr att f fd as) : ∀ us : List Value, us.length = (as.map (·.arg)).length → bindArgs fd ⟨us, []⟩ = pure ((as.map (·.arg)).zip us) := by
  obtain ⟨x, qual, ar, bd, sc, N, kn, lm, t, m, F, hp, hnd, _⟩ := D
  exact fd_binds F hp hnd
theorem rs_pad {P : Pl} {H : Hp} {ds : List D} {vs : List V} {N : List Str} (rl : RL G P H ds vs) : RS G P H (ds.map some ++ List.replicate (N.length - ds.length) none) (L2.start N vs) := by
  have e : vs.length = ds.length := rl.length
  refine ⟨by simp [L2.start, e], fun i d q => ?_⟩
  by_cases h : i < ds.length
  · rw [List.getElem?_append_left (by simpa using h), List.getElem?_map] at q
    cases q2 : ds[i]? with
    | none => rw [q2] at q; cases q
    | some d' =>
      rw [q2] at q
      cases q
      obtain ⟨v, h1, h2⟩ := rl.get q2
      refine ⟨v, ?_, h2⟩
      unfold L2.start
      rw [List.getElem?_append_left (by rw [List.length_map, e]; exact h), List.getElem?_map, h1]
      rfl
  · rw [List.getElem?_append_right (by simpa using h), List.getElem?_replicate] at q
    split at q <;> cases q
theorem ret_rd {W : WX} {σ : L2.St} {E : XK} {P : Pl} {H : Hp} {r : Rst} {Q : VK} (e : ERes G (EW E) [] P H (retD r) (fun d _ P' H' => ∀ v, RT G P' H' H d v → Q v H')) : SRes G (fun c d _ H => E c d H) { nx := fun _ H' => Q .non H', rt := Q } P H r := by
  cases r with
  | nx en h => exact fun P' H' σ' x s _ => e P' H' x s .non rfl
  | rt d h => exact fun P' H' v x s q => e P' H' x s v q
  | bk en h => exact e.elim
  | ct en h => exact e.elim
  | exc c en h => exact fun P' H' σ' x s _ d => e P' H' x s d
  | stuck => exact e.elim
theorem def_at {f : Nat} {fd : FuncData} {as : List Arg} (D : DefAt G B K mg base gl fr att f fd as) (g : Glb G B Pr w K mg base cl k gl fr att) : FnOk Pr w K mg base (L2.CX Pr w) (k + 2) (G.F f) fd (as.map (·.arg)) (spF G (callF B cl f)) := by
  obtain ⟨x, qual, ar, bd, sc, N, kn, lm, t, m, F, hp, hnd, S, htr, hf, hlam⟩ := D
  obtain ⟨oc, od, dV, kV, doc, pm, an, cdv, ct, osl, hfd, lk, hcd, hdv, _⟩ := F.ex
  obtain rfl : dV = .none := by
    rcases hdv with ⟨_, e⟩ | ⟨n, _⟩
    · exact e
    · exact absurd rfl n
  subst hfd
  refine fn_of lk hcd S (fun vs H Q E q => ?_) (fun A outer s H vs Q E hr q => ?_)
  · obtain ⟨P, h, ds, sr, rl, e⟩ := q
    have e : ERes G (EW E) [] P H (opt' (B.f.get 12 f) .stuck fun fd => argsE .stuck fd.pad ds fd.np fun en => retD ((comp B fd.body).s cl en h)) (fun d _ P' H' => ∀ v, RT G P' H' H d v → Q v H') := e
    rw [hf] at e
    have e : ERes G (EW E) [] P H (argsE .stuck (List.replicate (N.length - as.length) none) ds as.length fun en => retD ((comp B t).s cl en h)) (fun d _ P' H' => ∀ v, RT G P' H' H d v → Q v H') := e
    rw [argsE_eq _ _ _ _ _ rl.noTmp] at e
    by_cases hl : ds.length = as.length
    · rw [rl.length, hl, List.length_map]
    · rw [if_neg hl] at e; exact e.elim
  · obtain ⟨P, h, ds, sr, rl, e⟩ := q
    have e : ERes G (EW E) [] P H (opt' (B.f.get 12 f) .stuck fun fd => argsE .stuck fd.pad ds fd.np fun en => retD ((comp B fd.body).s cl en h)) (fun d _ P' H' => ∀ v, RT G P' H' H d v → Q v H') := e
    rw [hf] at e
    have e : ERes G (EW E) [] P H (argsE .stuck (List.replicate (N.length - as.length) none) ds as.length fun en => retD ((comp B t).s cl en h)) (fun d _ P' H' => ∀ v, RT G P' H' H d v → Q v H') := e
    rw [argsE_eq _ _ _ _ _ rl.noTmp] at e
    by_cases hl : ds.length = as.length
    case neg => rw [if_neg hl] at e; exact e.elim
    rw [if_pos hl, ← hl] at e
    have o : CtOk G B (fun c d _ H => E c d H) (cxOf (L2.CX Pr w) Pr w K mg base N qual sc (G.F f) cdv A outer s H E) cl k (fun _ => True) ⟨N, sc, gl, fr, kn, att, lm⟩ := by
      refine ⟨g, rfl, S.nd, rfl, S.kind, rfl, hr, takes_of rfl rfl rfl rfl, passes_of (K := fun e s' => L2.CX Pr w outer H s E e s') (E₁ := fun e s' => L2.CX Pr w outer H s E e s') rfl, fun _ _ _ _ _ => .inl rfl, fun hl => ?_⟩
      obtain ⟨c, P, nm, h1, h2, h3, h4, h5⟩ := hlam hl
      exact ⟨⟨c, P, nm, h2, h1, h3, h4, h5⟩, fun _ => rfl⟩
    exact ⟨_, (tr_ok G B m).ss o (fun _ => trivial) htr, P, h, _, ⟨sr, rs_pad rl⟩, ret_rd (W := fun _ _ _ _ => False) (σ := []) e⟩
theorem def_ok {f : Nat} (D : DefOk G B K mg base gl fr att f) (g : Glb G B Pr w K mg base cl k gl fr att) {cl' : Cl} (hc : cl'.f f = fun ds h => callF B cl f ds h) : FdB G Pr w K mg base cl' (k + 2) f := by
  obtain ⟨fd, as, D⟩ := D.ex
  refine ⟨fd, as.map (·.arg), ?_, Binds.all D.binds, ?_⟩
  · rw [hc]
    exact def_at D g
  · obtain ⟨x, qual, ar, bd, sc, N, kn, lm, t, m, F, _⟩ := D
    exact F.kp
/-- depth nought: nothing -/
theorem def_no {f : Nat} (D : DefOk G B K mg base gl fr att f) {cl' : Cl} (hc : cl'.f f = fun _ _ => .stuck) : FdB G Pr w K mg base cl' k f := by
  obtain ⟨fd, as, D⟩ := D.ex
  have no : ∀ {vs H Q E}, spF G (cl'.f f) vs H Q E → False := fun {vs H Q E} q => by
    rw [hc] at q
    obtain ⟨P, h, ds, sr, rl, e⟩ := q
    exact e
  refine ⟨fd, as.map (·.arg), ⟨fun vs H Q E q => (no q).elim, fun A outer s H args us vs Q E hr e0 hb r q => (no q).elim⟩, Binds.all D.binds, ?_⟩
  obtain ⟨x, qual, ar, bd, sc, N, kn, lm, t, m, F, _⟩ := D
  exact F.kp
def GkC (G : GC) (B : Tb) (K : PySem.W.Frag) (mg : Str → Option Value) (x : Str) : Gk → Prop
  | .fn f _ => mg x = some (.ref (G.F f)) ∧ ∃ fd, B.f.get 12 f = some fd
  | .cls kk f _ => mg x = some (.ref (G.F kk)) ∧ Mk K (G.F kk) (G.F f) ∧ ∃ fd, B.f.get 12 f = some fd
  | .con d => ∃ v w, mg x = some w ∧ L2.RelV v w ∧ ∀ P H, R G P H d v
/-- the whole program's facts -/
structure Prog (G : GC) (B : Tb) (w : World) (K : PySem.W.Frag) (mg : Str → Option Value) (base : Heap) (gl : List (Str × Gk)) (fr att : List Str) : Prop where
  ok : GOk G B
  hK : K = G.K ∧ w = G.w
  defs : ∀ f fd, B.f.get 12 f = some fd → DefOk G B K mg base gl fr att f
  egl : ∀ x g, lookS x gl = some g → GkC G B K mg x g
  efr : ∀ x, memS x fr = true → mg x = none
  eatt : ∀ f i, ixS f att = some i → G.att i = f
  meth : ∀ m c f, B.m c m = some f → ∃ fd, B.f.get 12 f = some fd
  lam : G.lam = LamTr gl fr att
theorem Prog.glb (p : Prog G B w K mg base gl fr att) {n : Nat} (hn : n ≤ sizeLine) (cl : Cl) (k : Nat) (e : cl.n = n) (hf : ∀ f fd, B.f.get 12 f = some fd → FdB G Pr w K mg base cl k f) (hl : LOk G Pr w K mg base k cl.l) : Glb G B Pr w K mg base cl k gl fr att :=
    ⟨p.ok, p.hK, fun x g h => by
      have := p.egl x g h
      cases g with
      | fn f np => obtain ⟨a, fd, b⟩ := this; exact ⟨a, hf f fd b⟩
      | cls kk f np => obtain ⟨a, b, fd, c⟩ := this; exact ⟨a, b, hf f fd c⟩
      | con d => exact this, p.efr, by rw [e]; exact hn, p.eatt, fun m c f h => by
      obtain ⟨fd, b⟩ := p.meth m c f h
      exact hf f fd b, hf, hl, fun np ns b f ps e sc h => by rw [p.lam]; exact h⟩
/-- one level more -/
theorem Prog.next (p : Prog G B w K mg base gl fr att) {n : Nat} (hn : n ≤ sizeLine) {cl : Cl} {k : Nat} (ih : Glb G B Pr w K mg base cl (2 * k) gl fr att) : Glb G B Pr w K mg base ⟨n, fun f ds h => callF B cl f ds h, fun x ds h => callL B cl x ds h⟩ (2 * (k + 1)) gl fr att := by
  refine p.glb hn _ _ rfl (fun f fd h => def_ok (p.defs f fd h) ih rfl) ?_
  have e : 2 * (k + 1) = 2 * k + 1 + 1 := by omega
  rw [e]
  refine ld_of fun np ns b f ps ex sc h => ?_
  rw [p.lam] at h
  obtain ⟨m, as, LT, htr⟩ := h
  refine ⟨as, LT, fun F fa A outer s H E hs hr => ?_⟩
  refine (tr_ok G B m).e (al := fun _ => False) (k := 2 * k) (c := ⟨as.map (·.arg) ++ f, sc, gl, fr, [], att, false⟩) ⟨ih, rfl, LT.sco.nd, hs, LT.sco.kind, rfl, hr, takes_of rfl rfl rfl rfl, passes_of (K := fun e s' => L2.CX Pr w outer H s E e s') (E₁ := fun e s' => L2.CX Pr w outer H s E e s') rfl, fun _ _ z => z.elim, fun z => by cases z⟩ htr
/-- levels, each changed by T -/
noncomputable def levT (B : Tb) (T : Cl → Cl) (n k : Nat) : Cl := match k with
  | 0 => ⟨n, fun _ _ _ => .stuck, fun _ _ _ => .stuck⟩
  | k + 1 => T ⟨n, fun f ds h => callF B (levT B T n k) f ds h, fun x ds h => callL B (levT B T n k) x ds h⟩
/-- ALL DEFS, BY DEPTH -/
theorem levT_ok (p : Prog G B w K mg base gl fr att) {n : Nat} (hn : n ≤ sizeLine) {T : Cl → Cl} (hT : ∀ cl k, Glb G B Pr w K mg base cl k gl fr att → Glb G B Pr w K mg base (T cl) k gl fr att) : ∀ k, Glb G B Pr w K mg base (levT B T n k) (2 * k) gl fr att := by
  intro k
  induction k with
  | zero =>
    refine p.glb hn _ _ rfl (fun f fd h => def_no (p.defs f fd h) rfl) ?_
    intro A outer s H us vs Q E P h ds a x _ _ _ _ _ _ e
    exact (show False from e).elim
  | succ k ih => exact hT _ _ (p.next hn ih)
end
end Pv
end
section
set_option Elab.async false
set_option linter.all false
set_option maxRecDepth 100000
set_option maxHeartbeats 4000000
set_option autoImplicit false
/-! the head: what the top leaves, as facts of the evaluator. -/
namespace Pv
open PySem L2 PySem.Spec PyProof.Rows PySem.W
/-! #### a Hook over all but the lists -/
def notLst : Obj → Bool
  | ⟨.type c, _, _, _⟩ => !decide (c = "list")
  | _ => true
def frO (g : Addr → Option Obj) (as : List Addr) : PySem.W.Frag := (He.frT g as).filter fun q => notLst q.2
theorem frO_mem {g : Addr → Option Obj} {as : List Addr} {a : Addr} {o : Obj} (h : (frO g as).lookup a = some o) : g a = some o ∧ He.emptyTab o = false ∧ notLst o = true := by
  obtain ⟨h1, h2⟩ := List.mem_filter.mp (He.lookup_mem h)
  obtain ⟨h3, h4⟩ := List.mem_filter.mp h1
  refine ⟨He.frG_mem h3, ?_, h2⟩
  cases q : He.emptyTab o with
  | false => rfl
  | true =>
    have h5 : (!He.emptyTab o) = true := h4
    rw [q] at h5
    cases h5
theorem frO_in {as : List Addr} {h : Heap} : (frO h.get? as).In h := fun _ _ e => (frO_mem e).1
theorem frO_none {g : Addr → Option Obj} {as : List Addr} {a : Addr} {o : Obj} (h : g a = some o) (ht : He.emptyTab o = true) : (frO g as).lookup a = none := by
  cases e : (frO g as).lookup a with
  | none => rfl
  | some u =>
    obtain ⟨h1, h2, _⟩ := frO_mem e
    rw [h] at h1
    rw [← Option.some.inj h1, ht] at h2
    cases h2
structure SaysL (fn : List He.DefD) (ts : List He.Tab) (tf : List He.Defn) (ex : PySem.W.Frag → Bool) (w : World) (h : Heap) (K : PySem.W.Frag) : Prop where
  t : He.SaysT [] fn ts w K
  more : ex K = true
  hd : ∀ p ∈ tf, PySem.W.codeHdIn K (He.cT K p).1 (He.cT K p).2 = true
  out : ∀ p ∈ tf, K.lookup (He.cT K p).2 = none
  empty : ∀ p ∈ tf, h.get? (He.cT K p).2 = some { cls := .none, data := .fields #[] }
  nl : ∀ a o, K.lookup a = some o → notLst o = true
def obsL (n : Nat) (fn : List He.DefD) (ts : List He.Tab) (tf : List He.Defn) (ex : PySem.W.Frag → Bool) (g : Addr → Option Obj) : He.AlX := (He.obsT [] fn ts (frO g (He.asD g n)), ex (frO g (He.asD g n)) && He.tabsB g tf (frO g (He.asD g n)))
theorem saysL_of {n : Nat} {fn : List He.DefD} {ts : List He.Tab} {tf : List He.Defn} {ex : PySem.W.Frag → Bool} {w : World} {h : Heap} (e : obsL n fn ts tf ex h.get? = He.valX fn ts w) : SaysL fn ts tf ex w h (frO h.get? (He.asD h.get? n)) := by
  have e1 : He.obsT [] fn ts (frO h.get? (He.asD h.get? n)) = He.valT fn ts w := congrArg (fun z : He.AlX => z.1) e
  have e2 : (ex (frO h.get? (He.asD h.get? n)) && He.tabsB h.get? tf (frO h.get? (He.asD h.get? n))) = true := congrArg (fun z : He.AlX => z.2) e
  obtain ⟨h1, h2⟩ := He.ba e2
  have key : ∀ p ∈ tf, PySem.W.codeHdIn (frO h.get? (He.asD h.get? n)) (He.cT (frO h.get? (He.asD h.get? n)) p).1 (He.cT (frO h.get? (He.asD h.get? n)) p).2 = true ∧ ∃ o, h.get? (He.cT (frO h.get? (He.asD h.get? n)) p).2 = some o ∧ He.emptyTab o = true := fun p hp => by
    obtain ⟨h3, h4⟩ := He.ba (List.all_eq_true.mp h2 p hp)
    refine ⟨h3, ?_⟩
    cases q : h.get? (He.cT (frO h.get? (He.asD h.get? n)) p).2 with
    | none =>
      rw [q] at h4
      cases h4
    | some o =>
      rw [q] at h4
      exact ⟨o, rfl, h4⟩
  exact ⟨e1, h1, fun p hp => (key p hp).1, fun p hp => by
    obtain ⟨_, o, q, z⟩ := key p hp
    exact frO_none q z, fun p hp => by
    obtain ⟨_, o, q, z⟩ := key p hp
    rw [q, He.emptyTab_eq z], fun a o e => (frO_mem e).2.2⟩
def hookL (n : Nat) (fn : List He.DefD) (ts : List He.Tab) (tf : List He.Defn) (ex : PySem.W.Frag → Bool) : PySem.W.Hook where
  α := He.AlX
  obs := fun s => obsL n fn ts tf ex s.heap.get?
  val := fun w => He.valX fn ts w
  says := fun w h => ∃ K : PySem.W.Frag, K.In h ∧ SaysL fn ts tf ex w h K
  of := fun _ _ e => ⟨_, frO_in, saysL_of e⟩
  keeps := fun _ _ _ ⟨K, hK, c⟩ k => ⟨K, PySem.W.Frag.In.keeps hK k, ⟨c.t, c.more, c.hd, c.out, fun p hp => k _ _ (c.empty p hp), c.nl⟩⟩
theorem obsL_eq {n : Nat} {fn : List He.DefD} {ts : List He.Tab} {tf : List He.Defn} {ex : PySem.W.Frag → Bool} {g : Addr → Option Obj} {s : Shared} (h : ∀ a, g a = s.heap.get? a) : obsL n fn ts tf ex g = (hookL n fn ts tf ex).obs s := by
  have e : g = s.heap.get? := funext h
  rw [e] <;> rfl
noncomputable section
/-! #### a law's tables -/
def aOf (l : List (Nat × Nat)) (c f : Nat) : Bool := match l with
  | [] => false
  | p :: r => bif' (Nat.beq p.1 c && Nat.beq p.2 f) true (aOf r c f)
def mOf (l : List (Nat × Nat × Nat)) (c m : Nat) : Option Nat := match l with
  | [] => none
  | p :: r => bif' (Nat.beq p.1 c && Nat.beq p.2.1 m) (some p.2.2) (mOf r c m)
structure LawT where
  fn : List He.DefD
  ns : List Str
  al : List (Nat × Nat)
  ml : List (Nat × Nat × Nat)
  gls : List (Str × Gk)
  frs : List Str
  atts : List Str
  tf : List Nat
  fds : Bt FD
def LawT.F (L : LawT) (K : PySem.W.Frag) (i : Nat) : Addr := match L.fn[i]? with
  | some d => He.fAd K d.at_
  | none => (match L.ns[i - L.fn.length]? with
    | some x => He.ga K x
    | none => 0)
def LawT.B (L : LawT) : Tb := ⟨L.fds, mOf L.ml, aOf L.al⟩
def LawT.at_ (L : LawT) (i : Nat) : He.Defn := match L.fn[i]? with
  | some d => d.at_
  | none => (Str.empty, none)
def LawT.qual (L : LawT) (i : Nat) : Str := match L.fn[i]? with
  | some d => d.qual
  | none => Str.empty
def LawT.tabs (L : LawT) (K : PySem.W.Frag) : List NdefX.NTab := L.tf.map fun i => ((He.cT K (L.at_ i)).2, fun _ _ => L.qual i ++ ".<locals>." ++ "<lambda>")
def LawT.G (L : LawT) (K : PySem.W.Frag) (w : World) : GC := ⟨K, w, L.F K, L.tabs K, fun i => L.atts.getD i Str.empty, aOf L.al, fun _ => .none, LamTr L.gls L.frs L.atts⟩
/-- flat constants -/
def flatV : D → Option V
  | .non => some .non
  | .bl b => some (.bl b)
  | .int i => some (.int i)
  | .str x => some (.str x)
  | _ => none
theorem flat_r {G : GC} {P : Pl} {H : Hp} {d : D} {v : V} (h : flatV d = some v) : R G P H d v := by
  cases d <;> first | (cases h; rfl) | cases h
def relL : List D → List Value → Bool
  | [], [] => true
  | d :: ds, u :: us => (match flatV d with
    | some v => He.relB v u
    | none => false) && relL ds us
  | _, _ => false
theorem relL_ok {G : GC} {P : Pl} {H : Hp} : ∀ {ds : List D} {us : List Value}, relL ds us = true → ∃ vs, RL G P H ds vs ∧ Vals vs us
  | [], [], _ => ⟨[], rfl, .nil⟩
  | [], _ :: _, h => by cases h
  | _ :: _, [], h => by cases h
  | d :: ds, u :: us, h => by
    obtain ⟨h1, h2⟩ := and_tt (show ((match flatV d with
      | some v => He.relB v u
      | none => false) && relL ds us) = true from h)
    cases q : flatV d with
    | none => rw [q] at h1; cases h1
    | some v =>
      rw [q] at h1
      obtain ⟨vs, a, b⟩ := relL_ok h2
      exact ⟨v :: vs, RL.cons (flat_r q) a, .cons (He.relB_ok h1) b⟩
/-- a dict's keys: texts -/
def strKeys : List D → Option (List Str)
  | [] => some []
  | .str x :: r => (match strKeys r with
    | some xs => some (x :: xs)
    | none => none)
  | _ :: _ => none
def dicVals (K : PySem.W.Frag) (a : Addr) (ds : List D) : Bool := match K.lookup a with
  | some ⟨_, _, .dict es _, _⟩ => relL ds (es.toList.map (·.val)) && Nat.ble es.size 1000
  | _ => false
def glB (L : LawT) (K : PySem.W.Frag) (ts : List He.Tab) (p : Str × Gk) : Bool := match p.2 with
  | .fn f _ => He.eqO (PySem.W.nsIn K mainGlobals p.1) (some (some (.ref (L.F K f)))) && (L.fds.get 12 f).isSome
  | .cls kk f _ => He.eqO (PySem.W.nsIn K mainGlobals p.1) (some (some (.ref (L.F K kk)))) && ((PySem.W.makesIn K (L.F K kk) && (He.eqO (PySem.W.findIn K (.ref (L.F K kk)) "__init__") (some (some (.ref (L.F K f)))) && (PySem.W.isFn K (.ref (L.F K f)) && PySem.W.keepIn K (.ref (L.F K kk))))) && (L.fds.get 12 f).isSome)
  | .con (.kdc k ks ds) => He.eqO (PySem.W.nsIn K mainGlobals p.1) (some (some (.ref (L.F K k)))) && (dicVals K (L.F K k) ds && (match strKeys ks with
    | some xs => decide (xs.Nodup) && ts.any fun t => Nat.beq (t.1 K) (L.F K k) && decide (t.2 = xs)
    | none => false))
  | .con d => (match PySem.W.nsIn K mainGlobals p.1 with
    | some (some u) => (match flatV d with
      | some v => He.relB v u
      | none => false)
    | _ => false)
def clsB (K : PySem.W.Frag) (a : Addr) : Bool := PySem.W.plainGet K a Str.empty && (PySem.W.hasDictIn K a && (PySem.W.plainOver K a && He.eqO (PySem.W.findIn K (.ref a) "__setattr__") (some (some (.builtin "object.__setattr__")))))
theorem clsB_ok {K : PySem.W.Frag} {a : Addr} (c : clsB K a = true) : Cls K a := by
  obtain ⟨c1, c⟩ := and_tt c
  obtain ⟨c2, c⟩ := and_tt c
  obtain ⟨c3, c4⟩ := and_tt c
  exact ⟨c1, c2, c3, He.eqO_ok c4⟩
def alB (L : LawT) (K : PySem.W.Frag) (p : Nat × Nat) : Bool := clsB K (L.F K p.1) && (He.eqO (PySem.W.findIn K (.ref (L.F K p.1)) (L.atts.getD p.2 Str.empty)) (some none) && Nat.blt p.2 L.atts.length)
def mlB (L : LawT) (K : PySem.W.Frag) (p : Nat × Nat × Nat) : Bool := clsB K (L.F K p.1) && ((He.eqO (PySem.W.findIn K (.ref (L.F K p.1)) (L.atts.getD p.2.1 Str.empty)) (some (some (.ref (L.F K p.2.2)))) && (PySem.W.isFn K (.ref (L.F K p.2.2)) && PySem.W.keepIn K (.ref (L.F K p.2.2)))) && (L.fds.get 12 p.2.2).isSome)
def distN : List Addr → Bool
  | [] => true
  | a :: r => !(r.any fun b => Nat.beq b a) && distN r
def LawT.ex (L : LawT) (ts : List He.Tab) (K : PySem.W.Frag) : Bool := L.gls.all (glB L K ts) && (L.frs.all (fun x => He.eqO (PySem.W.nsIn K mainGlobals x) (some none)) && (L.al.all (alB L K) && (L.ml.all (mlB L K) && distN (L.tf.map fun i => (He.cT K (L.at_ i)).2))))
/-- a def's text, its translation -/
structure DefT (L : LawT) (f : Nat) : Prop where
  ex : ∃ (d : He.DefD) (as : List Arg) (N : List Str) (kn : List Nat) (lm : Bool) (t : T) (m : Nat), L.fn[f]? = some d ∧ d.dfl = [] ∧ d.kwd = [] ∧ parsOf d.params = some (as.map (·.arg)) ∧ (as.map (·.arg)).Nodup ∧ FnScope N (as.map (·.arg)) d.scope ∧
    (tr m).ss ⟨N, d.scope, L.gls, L.frs, kn, L.atts, lm⟩ d.body = some t ∧ L.fds.get 12 f = some ⟨as.length, List.replicate (N.length - as.length) none, t⟩ ∧ (lm = true → f ∈ L.tf)
theorem aOf_mem : ∀ {l : List (Nat × Nat)} {c f : Nat}, aOf l c f = true → (c, f) ∈ l
  | [], c, f, h => by cases h
  | p :: r, c, f, h => by
    have h : bif' (Nat.beq p.1 c && Nat.beq p.2 f) true (aOf r c f) = true := h
    cases q : Nat.beq p.1 c && Nat.beq p.2 f with
    | true =>
      obtain ⟨a, b⟩ := and_tt q
      rw [← Nat.eq_of_beq_eq_true a, ← Nat.eq_of_beq_eq_true b]
      exact List.mem_cons_self
    | false =>
      rw [q] at h
      exact List.mem_cons_of_mem _ (aOf_mem h)
theorem mOf_mem : ∀ {l : List (Nat × Nat × Nat)} {c m f : Nat}, mOf l c m = some f → (c, m, f) ∈ l
  | [], c, m, f, h => by cases h
  | p :: r, c, m, f, h => by
    have h : bif' (Nat.beq p.1 c && Nat.beq p.2.1 m) (some p.2.2) (mOf r c m) = some f := h
    cases q : Nat.beq p.1 c && Nat.beq p.2.1 m with
    | true =>
      rw [q] at h
      obtain ⟨a, b⟩ := and_tt q
      cases h
      rw [← Nat.eq_of_beq_eq_true a, ← Nat.eq_of_beq_eq_true b]
      exact List.mem_cons_self
    | false =>
      rw [q] at h
      exact List.mem_cons_of_mem _ (mOf_mem h)
theorem distN_ok {α : Type} {g : α → Addr} : ∀ {l : List α}, distN (l.map g) = true → ∀ x ∈ l, ∀ y ∈ l, g x = g y → x = y
  | [], _, x, hx, _, _, _ => by cases hx
  | a :: r, h, x, hx, y, hy, e => by
    obtain ⟨h1, h2⟩ := and_tt (show (!((r.map g).any fun b => Nat.beq b (g a)) && distN (r.map g)) = true from h)
    have no : ∀ z ∈ r, g z ≠ g a := fun z hz e => by
      have : ((r.map g).any fun b => Nat.beq b (g a)) = true := List.any_eq_true.mpr ⟨g z, List.mem_map.mpr ⟨z, hz, rfl⟩, by rw [e]; exact Nat.beq_refl _⟩
      rw [this] at h1
      cases h1
    rcases List.mem_cons.mp hx with z | z
    · rcases List.mem_cons.mp hy with u | u
      · rw [z, u]
      · rw [z] at e; exact absurd e.symm (no y u)
    · rcases List.mem_cons.mp hy with u | u
      · rw [u] at e; exact absurd e (no x z)
      · exact distN_ok h2 x z y u e
end
end Pv
end
section
set_option Elab.async false
set_option linter.all false
set_option maxRecDepth 100000
set_option maxHeartbeats 4000000
set_option autoImplicit false
/-! the head: the program's facts. -/
namespace Pv
open PySem L2 PySem.Spec PyProof.Rows PySem.W
noncomputable section
theorem strKeys_ok : ∀ {ks : List D} {xs : List Str}, strKeys ks = some xs → ks = xs.map D.str
  | [], xs, h => by cases h; rfl
  | .str x :: r, xs, h => by
    have h : (match strKeys r with
      | some xs => some (x :: xs)
      | none => none) = some xs := h
    cases q : strKeys r with
    | none => rw [q] at h; cases h
    | some ys =>
      rw [q] at h
      cases h
      rw [strKeys_ok q]
      rfl
  | .non :: _, _, h => by cases h
  | .bl _ :: _, _, h => by cases h
  | .int _ :: _, _, h => by cases h
  | .tup _ :: _, _, h => by cases h
  | .tmp _ :: _, _, h => by cases h
  | .vls _ :: _, _, h => by cases h
  | .tmd _ _ :: _, _, h => by cases h
  | .vdc _ _ :: _, _, h => by cases h
  | .obj _ :: _, _, h => by cases h
  | .gl _ :: _, _, h => by cases h
  | .kdc _ _ _ :: _, _, h => by cases h
theorem pairs_of {Pr : Program} {w : World} : ∀ {es : List DictEntry} {xs : List Str} {us : List Value}, es.map He.keyOf = He.keysIn w.params xs → es.map (·.val) = us →
    PySem.Pairs (mixKind Pr w) es ((xs.map Sum.inr).zip us) ∧ es.length = xs.length ∧ ∀ e ∈ es, ∃ k, (mixKind Pr w).is k e.key = true ∧ e.hash = (mixKind Pr w).hash k
  | [], [], us, _, h => by cases h; exact ⟨.nil, rfl, fun e he => by cases he⟩
  | [], _ :: _, _, h, _ => by cases h
  | _ :: _, [], _, h, _ => by cases h
  | e :: es, x :: xs, us, h, h2 => by
    have h1 : He.keyOf e :: es.map He.keyOf = some (x, PyData.keyHash w.params x) :: He.keysIn w.params xs := h
    injection h1 with h3 h4
    cases us with
    | nil => cases h2
    | cons u us =>
      injection h2 with h5 h6
      obtain ⟨a, b, c⟩ := pairs_of (Pr := Pr) h4 h6
      obtain ⟨y, t, ek, ey, eh⟩ : ∃ y t, e.key = .str y t ∧ y = x ∧ e.hash = PyData.keyHash w.params x := by
        unfold He.keyOf at h3
        split at h3
        · rename_i y t q
          obtain ⟨z1, z2⟩ := Prod.mk.inj (Option.some.inj h3)
          exact ⟨y, t, q, z1, z2⟩
        · cases h3
      subst ey
      have ki : keyIs (.inr y) e.key = true := by rw [ek]; exact keyIs_str y t
      refine ⟨.cons ki h5 a, by simp [b], fun e' he => ?_⟩
      rcases List.mem_cons.mp he with z | z
      · rw [z]; exact ⟨.inr y, ki, eh⟩
      · exact c e' z
theorem kv_zip {xs : List Str} : ∀ {vs : List V} {us : List Value}, Vals vs us → ∀ (ks : List Key), KV (ks.zip vs) (ks.zip us)
  | _, _, .nil, ks => by cases ks <;> exact .nil
  | _, _, .cons r t, ks => by
    cases ks with
    | nil => exact .nil
    | cons k ks => exact .cons ⟨rfl, r⟩ (kv_zip (xs := xs) t ks)
theorem zip1 {α β : Type} : ∀ {as : List α} {bs : List β}, as.length = bs.length → (as.zip bs).map (·.1) = as ∧ (as.zip bs).map (·.2) = bs
  | [], [], _ => ⟨rfl, rfl⟩
  | [], _ :: _, h => by cases h
  | _ :: _, [], h => by cases h
  | a :: as, b :: bs, h => by
    obtain ⟨x, y⟩ := zip1 (as := as) (bs := bs) (by simpa using h)
    exact ⟨by simp [x], by simp [y]⟩
/-- a dict of the top -/
theorem dic_ok {G : GC} {K : PySem.W.Frag} {w : World} {a : Addr} {xs : List Str} {ds : List D} (h : He.dicW K a = some (He.keysIn w.params xs)) (hv : dicVals K a ds = true) (nd : xs.Nodup) {P : Pl} {H : Hp} :
    ∃ kvs : List (Key × V), KDict K w a kvs ∧ xs.map D.str = kvs.map (fun p => keyD p.1) ∧ RL G P H ds (kvs.map (·.2)) := by
  have h0 := h
  unfold He.dicW at h
  unfold dicVals at hv
  cases q : K.lookup a with
  | none => rw [q] at h; cases h
  | some o =>
    obtain ⟨oc, od, dt, osl⟩ := o
    rw [q] at h hv
    cases oc with
    | type c =>
      cases od with
      | none =>
        cases dt with
        | dict es n =>
          have h1 : (match decide (c = "dict") && (osl.isEmpty && !(a == sysModules)) with
            | true => some (es.toList.map He.keyOf)
            | false => none) = some (He.keysIn w.params xs) := h
          cases z : decide (c = "dict") && (osl.isEmpty && !(a == sysModules)) with
          | false => rw [z] at h1; cases h1
          | true =>
            rw [z] at h1
            obtain ⟨z1, z2⟩ := and_tt z
            obtain ⟨z3, z4⟩ := and_tt z2
            have e1 : c = "dict" := of_decide_eq_true z1
            have e2 : osl = #[] := Array.isEmpty_iff.mp z3
            have e3 : (a == sysModules) = false := by
              cases y : a == sysModules with
              | false => rfl
              | true => rw [y] at z4; cases z4
            subst e1 e2
            have hk : es.toList.map He.keyOf = He.keysIn w.params xs := Option.some.inj h1
            obtain ⟨v1, v2⟩ := and_tt (show (relL ds (es.toList.map (·.val)) && Nat.ble es.size 1000) = true from hv)
            obtain ⟨vs, rl, rv⟩ := relL_ok (G := G) (P := P) (H := H) v1
            have lx : es.toList.length = xs.length := (pairs_of (Pr := default) hk rfl).2.1
            have lv : vs.length = xs.length := by rw [rv.length, List.length_map, lx]
            have lk : (xs.map (Sum.inr : Str → Key)).length = vs.length := by rw [List.length_map, lv]
            obtain ⟨f1, f2⟩ := zip1 lk
            refine ⟨(xs.map Sum.inr).zip vs, ⟨?_, e3, fun Pr h kin => ?_⟩, ?_, by rw [f2]; exact rl⟩
            · rw [List.length_zip, lk, Nat.min_self, lv, ← lx, Array.length_toList]
              exact Nat.le_trans (ble_t v2) (by decide)
            · obtain ⟨pp, _, kk⟩ := pairs_of (Pr := Pr) hk rfl
              refine ⟨(xs.map Sum.inr).zip (es.toList.map (·.val)), kv_zip (xs := xs) rv _, _, es, n, kin _ _ q, ⟨rfl, rfl, rfl⟩, rfl, fun e he => kk e (by simpa using he), pp, ?_⟩
              have l2 : (xs.map (Sum.inr : Str → Key)).length = (es.toList.map (·.val)).length := by rw [List.length_map, List.length_map, lx]
              rw [(zip1 l2).1]
              exact List.pairwise_map.mpr (nd.imp fun h e => h (Sum.inr.inj e))
            · have : ((xs.map (Sum.inr : Str → Key)).zip vs).map (fun p => keyD p.1) = (((xs.map (Sum.inr : Str → Key)).zip vs).map (·.1)).map keyD := by rw [List.map_map]; rfl
              rw [this, f1, List.map_map]
              rfl
        | _ => cases h
      | some b => cases dt <;> cases h
    | _ => cases od <;> cases dt <;> cases h
theorem con_flat {G : GC} {K : PySem.W.Frag} {mg : Str → Option Value} {h : Heap} {x : Str} {d : D} (X : K.In h) (Gm : h.Ns mainGlobals mg) (e : (match PySem.W.nsIn K mainGlobals x with
    | some (some u) => (match flatV d with
      | some v => He.relB v u
      | none => false)
    | _ => false) = true) : ∃ v w, mg x = some w ∧ L2.RelV v w ∧ ∀ P H, R G P H d v := by
  cases q : PySem.W.nsIn K mainGlobals x with
  | none => rw [q] at e; cases e
  | some o =>
    rw [q] at e
    cases o with
    | none => cases e
    | some u =>
      dsimp only at e
      cases q2 : flatV d with
      | none => rw [q2] at e; cases e
      | some v =>
        rw [q2] at e
        exact ⟨v, u, PySem.W.mg_of X Gm q, He.relB_ok e, fun P H => flat_r q2⟩
theorem def_of {L : LawT} {K : PySem.W.Frag} {w : World} {ts : List He.Tab} {h : Heap} {f : Nat} (c : SaysL L.fn ts (L.tf.map L.at_) (L.ex ts) w h K) (x5 : distN (L.tf.map fun i => (He.cT K (L.at_ i)).2) = true) (df : DefT L f) :
    ∃ fd as, (∃ d, L.fn[f]? = some d ∧ parsOf d.params = some (as.map (·.arg))) ∧ (∀ us : List Value, us.length = (as.map (·.arg)).length → bindArgs fd ⟨us, []⟩ = pure ((as.map (·.arg)).zip us)) ∧ ∀ mg base, (∀ p ∈ (L.tf.map L.at_).map (He.cT K), LamX.TabB base mg p.1 p.2) → DefAt (L.G K w) L.B K mg base L.gls L.frs L.atts f fd as := by
  obtain ⟨d, as, N, kn, lm, t, m, h1, h2, h3, h4, h5, h6, h7, h8, h9⟩ := df.ex
  obtain ⟨fd', FD⟩ := c.t.d.defs (List.mem_of_getElem? h1)
  have ef : (L.G K w).F f = He.fAd K d.at_ := by
    show L.F K f = _
    unfold LawT.F
    rw [h1]
  have ea : L.at_ f = d.at_ := by
    unfold LawT.at_
    rw [h1]
  have eq : L.qual f = d.qual := by
    unfold LawT.qual
    rw [h1]
  have FD : FunD K d.name d.qual d.params d.body d.scope [] [] ((L.G K w).F f) fd' := by
    rw [ef]
    have e1 : d.dvs K = [] := by unfold He.DefD.dvs; rw [h2]; rfl
    have e2 : d.kws K = [] := by unfold He.DefD.kws; rw [h3]; rfl
    rw [e1, e2] at FD
    exact FD
  refine ⟨fd', as, ⟨d, h1, h4⟩, fd_binds FD h4 h5, fun mg base TB => ⟨d.name, d.qual, d.params, d.body, d.scope, N, kn, lm, t, m, FD, h4, h5, h6, h7, h8, fun hl => ?_⟩⟩
  have hm := h9 hl
  obtain ⟨oc, od, dV, kV, doc, pm, an, cdv, ct, osl, hfd, lk, hcd, _, _⟩ := FD.ex
  obtain ⟨cc, rfl⟩ := He.codeIn_ref hcd
  have ec : fd'.code = .ref cc := by rw [hfd]
  have e3 : He.codeOf K (L.at_ f) = cc := by
    rw [ea]
    exact He.codeOf_eq (oc := oc) (od := od) (osl := osl) (by rw [← ef]; exact lk) ec
  have tb := TB (He.cT K (L.at_ f)) (List.mem_map.mpr ⟨_, List.mem_map.mpr ⟨f, hm, rfl⟩, rfl⟩)
  refine ⟨(He.cT K (L.at_ f)).1, (He.cT K (L.at_ f)).2, _, ?_, tb, List.mem_map.mpr ⟨f, hm, rfl⟩, fun _ _ => by rw [eq], fun p hp e => ?_⟩
  · rw [ec]
    show Value.ref cc = .ref (He.codeOf K (L.at_ f))
    rw [e3]
  · obtain ⟨i, hi, rfl⟩ := List.mem_map.mp hp
    have := distN_ok (g := fun i => (He.cT K (L.at_ i)).2) x5 i hi f hm e
    rw [this]
theorem prog_of {L : LawT} {K : PySem.W.Frag} {w : World} {ts : List He.Tab} {mg : Str → Option Value} {h base : Heap} (X : K.In h) (Gm : h.Ns mainGlobals mg) (c : SaysL L.fn ts (L.tf.map L.at_) (L.ex ts) w h K) (na : L.atts.Nodup) (defs : ∀ f fd, L.fds.get 12 f = some fd → DefT L f)
    (TB : ∀ p ∈ (L.tf.map L.at_).map (He.cT K), LamX.TabB base mg p.1 p.2) : Prog (L.G K w) L.B w K mg base L.gls L.frs L.atts := by
  obtain ⟨x1, y2⟩ := and_tt (show (L.gls.all (glB L K ts) && (L.frs.all (fun x => He.eqO (PySem.W.nsIn K mainGlobals x) (some none)) && (L.al.all (alB L K) && (L.ml.all (mlB L K) && distN (L.tf.map fun i => (He.cT K (L.at_ i)).2))))) = true from c.more)
  obtain ⟨x2, y3⟩ := and_tt y2
  obtain ⟨x3, y4⟩ := and_tt y3
  obtain ⟨x4, x5⟩ := and_tt y4
  have alk : ∀ {a b}, aOf L.al a b = true → Cls K (L.F K a) ∧ NoAttr K (L.F K a) (L.atts.getD b Str.empty) ∧ b < L.atts.length := fun {a b} e => by
    obtain ⟨h1, h2⟩ := and_tt (List.all_eq_true.mp x3 _ (aOf_mem e))
    obtain ⟨h2, h3⟩ := and_tt h2
    exact ⟨clsB_ok h1, He.eqO_ok h2, blt_t h3⟩
  have mlk : ∀ {a m f}, mOf L.ml a m = some f → Cls K (L.F K a) ∧ Meth K (L.F K a) (L.atts.getD m Str.empty) (L.F K f) ∧ ∃ fd, L.fds.get 12 f = some fd := fun {a m f} e => by
    obtain ⟨h1, h2⟩ := and_tt (List.all_eq_true.mp x4 _ (mOf_mem e))
    obtain ⟨h2, h5⟩ := and_tt h2
    obtain ⟨h2, h3⟩ := and_tt h2
    obtain ⟨h3, h4⟩ := and_tt h3
    exact ⟨clsB_ok h1, ⟨He.eqO_ok h2, h3, h4⟩, Option.isSome_iff_exists.mp h5⟩
  refine ⟨⟨rfl, fun a f g hf hg e => ?_, fun a f e => ⟨(alk e).1, (alk e).2.1⟩, fun a m f e => ⟨(mlk e).1, (mlk e).2.1⟩⟩, ⟨rfl, rfl⟩, fun f fd hf => ?_, fun x g hg => ?_, fun x hx => ?_, fun f i hi => ?_, fun m a f e => (mlk e).2.2, rfl⟩
  · have l1 := (alk hf).2.2
    have l2 := (alk hg).2.2
    have e : L.atts.getD f Str.empty = L.atts.getD g Str.empty := e
    rw [List.getD_eq_getElem?_getD, List.getD_eq_getElem?_getD, List.getElem?_eq_getElem l1, List.getElem?_eq_getElem l2] at e
    exact (List.getElem_inj na).mp e
  · obtain ⟨fd, as, _, _, z⟩ := def_of c x5 (defs f fd hf)
    exact ⟨fd, as, z mg base TB⟩
  · have hb := List.all_eq_true.mp x1 _ (lookS_mem hg)
    cases g with
    | fn f np =>
      obtain ⟨a, b⟩ := and_tt (show (He.eqO (PySem.W.nsIn K mainGlobals x) (some (some (.ref (L.F K f)))) && (L.fds.get 12 f).isSome) = true from hb)
      exact ⟨PySem.W.mg_of X Gm (He.eqO_ok a), Option.isSome_iff_exists.mp b⟩
    | cls kk f np =>
      obtain ⟨a, b⟩ := and_tt (show (He.eqO (PySem.W.nsIn K mainGlobals x) (some (some (.ref (L.F K kk)))) && ((PySem.W.makesIn K (L.F K kk) && (He.eqO (PySem.W.findIn K (.ref (L.F K kk)) "__init__") (some (some (.ref (L.F K f)))) && (PySem.W.isFn K (.ref (L.F K f)) && PySem.W.keepIn K (.ref (L.F K kk))))) && (L.fds.get 12 f).isSome)) = true from hb)
      obtain ⟨b, e⟩ := and_tt b
      obtain ⟨b1, b⟩ := and_tt b
      obtain ⟨b2, b⟩ := and_tt b
      obtain ⟨b3, b4⟩ := and_tt b
      exact ⟨PySem.W.mg_of X Gm (He.eqO_ok a), ⟨b1, He.eqO_ok b2, b3, b4⟩, Option.isSome_iff_exists.mp e⟩
    | con d =>
      have fl : (∀ kk ks ds, d ≠ .kdc kk ks ds) → GkC (L.G K w) L.B K mg x (.con d) := fun nk => by
        have e : glB L K ts (x, .con d) = (match PySem.W.nsIn K mainGlobals x with
          | some (some u) => (match flatV d with
            | some v => He.relB v u
            | none => false)
          | _ => false) := by
          cases d <;> first | rfl | exact absurd rfl (nk _ _ _)
        rw [e] at hb
        exact con_flat X Gm hb
      by_cases hk : ∃ kk ks ds, d = .kdc kk ks ds
      case neg => exact fl fun kk ks ds z => hk ⟨kk, ks, ds, z⟩
      obtain ⟨kk, ks, ds, rfl⟩ := hk
      obtain ⟨a, b⟩ := and_tt (show (He.eqO (PySem.W.nsIn K mainGlobals x) (some (some (.ref (L.F K kk)))) && (dicVals K (L.F K kk) ds && (match strKeys ks with
        | some xs => decide (xs.Nodup) && ts.any fun t => Nat.beq (t.1 K) (L.F K kk) && decide (t.2 = xs)
        | none => false))) = true from hb)
      obtain ⟨b1, b2⟩ := and_tt b
      cases q : strKeys ks with
      | none => rw [q] at b2; cases b2
      | some xs =>
        rw [q] at b2
        dsimp only at b2
        obtain ⟨b3, b4⟩ := and_tt b2
        obtain ⟨t, ht, e⟩ := List.any_eq_true.mp b4
        obtain ⟨e1, e2⟩ := and_tt e
        have e2 := of_decide_eq_true e2
        have e1 := Nat.eq_of_beq_eq_true e1
        have ed : He.dicW K (L.F K kk) = some (He.keysIn w.params xs) := by
          have z : ts.map (fun t => He.dicW K (t.1 K)) = ts.map fun t => some (He.keysIn w.params t.2) := congrArg (fun z : He.AlT => z.2) c.t
          obtain ⟨i, hi⟩ := List.mem_iff_getElem?.mp ht
          have z2 : (ts.map fun t => He.dicW K (t.1 K))[i]? = (ts.map fun t => some (He.keysIn w.params t.2))[i]? := by rw [z]
          rw [List.getElem?_map, List.getElem?_map, hi] at z2
          have z3 : He.dicW K (t.1 K) = some (He.keysIn w.params t.2) := Option.some.inj z2
          rw [e1, e2] at z3
          exact z3
        refine ⟨.ref (L.F K kk), .ref (L.F K kk), PySem.W.mg_of X Gm (He.eqO_ok a), rfl, fun P H => ⟨rfl, ?_⟩⟩
        obtain ⟨kvs, k1, k2, k3⟩ := dic_ok (G := L.G K w) (P := P) (H := H) ed b1 (of_decide_eq_true b3)
        exact ⟨kvs, k1, by rw [strKeys_ok q]; exact k2, k3⟩
  · have hb := List.all_eq_true.mp x2 _ (memS_mem hx)
    exact PySem.W.mg_none_of X Gm (He.eqO_ok hb)
  · show L.atts.getD i Str.empty = f
    rw [List.getD_eq_getElem?_getD, ixS_at hi]
    rfl
end
end Pv
end
section
set_option Elab.async false
set_option linter.all false
set_option maxRecDepth 100000
set_option maxHeartbeats 4000000
set_option autoImplicit false
/-! a law's end. -/
namespace Pv
open PySem L2 PySem.Spec PyProof.Rows PySem.W
noncomputable section
theorem cut_list {o : Obj} (h : o.cls = .type "list") : notLst o = false := by
  obtain ⟨c, d, dt, sl⟩ := o
  cases h
  rfl
/-- the script, as an object -/
def Scr (ns : List Int) (o : O) : Prop := o = .lst (ns.map D.int) ∨ o = .frz (ns.map D.int)
theorem ints_rl {G : GC} {P : Pl} {H : Hp} : ∀ ns : List Int, RL G P H (ns.map D.int) (ns.map V.int)
  | [] => rfl
  | n :: ns => RL.cons (show R G P H (.int n) (.int n) from rfl) (ints_rl ns)
theorem law_at {l : PySem.W.OpenLaw} {L : LawT} {ts : List He.Tab} {f dk n : Nat} {cl : Cl} {x : Str} {w : World} {mg : Str → Option Value} {fa : Addr} {h : Heap} (na : L.atts.Nodup) (defs : ∀ f fd, L.fds.get 12 f = some fd → DefT L f) (hn : n ≤ sizeLine)
    (hx : ∀ d, L.fn[f]? = some d → parsOf d.params = some [x]) (hf : ∃ fd, L.fds.get 12 f = some fd) (hl : ∃ p, lookS "law" L.gls = some (.fn f p))
    (lift : ∀ (K : PySem.W.Frag) (mg : Str → Option Value) (base : Heap), Prog (L.G K w) L.B w K mg base L.gls L.frs L.atts → Glb (L.G K w) L.B l.prog w K mg base cl (2 * dk) L.gls L.frs L.atts)
    (ev : ∀ (ns : List Int) (o : O), ns.length ≤ 63 → Scr ns o → ∃ h', callF L.B cl f [.obj 0] ⟨1, [o], []⟩ = .ok (.bl true) h')
    (Y : (hookL 4 L.fn ts (L.tf.map L.at_) (L.ex ts)).says w h) (G : h.Ns mainGlobals mg) (hm : mg "law" = some (.ref fa)) :
    ∃ K : PySem.W.Frag, K.In h ∧ LamX.LawAtS l w K (L2.CX l.prog w) (2 * dk + 2) 63 x mg fa h := by
  obtain ⟨K, KX, c⟩ := Y
  obtain ⟨fd0, hf⟩ := hf
  obtain ⟨p, hl⟩ := hl
  obtain ⟨x1, y2⟩ := and_tt (show (L.gls.all (glB L K ts) && (L.frs.all (fun x => He.eqO (PySem.W.nsIn K mainGlobals x) (some none)) && (L.al.all (alB L K) && (L.ml.all (mlB L K) && distN (L.tf.map fun i => (He.cT K (L.at_ i)).2))))) = true from c.more)
  obtain ⟨x2, y3⟩ := and_tt y2
  obtain ⟨x3, y4⟩ := and_tt y3
  obtain ⟨x4, x5⟩ := and_tt y4
  obtain ⟨fd, as, ⟨d, hd, hps⟩, hbi, D⟩ := def_of c x5 (defs f fd0 hf)
  have eas : as.map (·.arg) = [x] := by
    have z := hx d hd
    rw [hps] at z
    exact Option.some.inj z
  have efa : fa = L.F K f := by
    have hb := List.all_eq_true.mp x1 _ (lookS_mem hl)
    obtain ⟨a, _⟩ := and_tt (show (He.eqO (PySem.W.nsIn K mainGlobals "law") (some (some (.ref (L.F K f)))) && (L.fds.get 12 f).isSome) = true from hb)
    have z := PySem.W.mg_of KX G (He.eqO_ok a)
    rw [hm] at z
    cases z
    rfl
  refine ⟨K, KX, fd, (L.tf.map L.at_).map (He.cT K), spF (L.G K w) (callF L.B cl f), fun p hp => ?_, fun p hp => ?_, fun p hp => ?_, fun s u => ?_, fun H a ns hlen _ hT hS => ?_, fun base kb Gb TB => ?_⟩
  · obtain ⟨q, hq, rfl⟩ := List.mem_map.mp hp
    exact c.empty q hq
  · obtain ⟨q, hq, rfl⟩ := List.mem_map.mp hp
    exact c.out q hq
  · obtain ⟨q, hq, rfl⟩ := List.mem_map.mp hp
    exact PySem.W.codeHd_of_K KX (c.hd q hq)
  · have z := hbi [u] (by rw [eas]; rfl)
    rw [eas] at z
    exact .of_eq z
  · have tabs : NdefX.TabsN (L.tabs K) H := fun p hp => by
      obtain ⟨i, hi, rfl⟩ := List.mem_map.mp hp
      exact NdefX.TabN.nil (hT (He.cT K (L.at_ i)) (List.mem_map.mpr ⟨_, List.mem_map.mpr ⟨i, hi, rfl⟩, rfl⟩))
    have run : ∀ o, Scr ns o → OR (L.G K w) ⟨[a], fun _ => False⟩ H a o → spF (L.G K w) (callF L.B cl f) [.ref a] H (fun v _ => v = .bl true) fun _ _ _ => False := fun o ho hr => by
      obtain ⟨h', e⟩ := ev ns o hlen ho
      refine ⟨⟨[a], fun _ => False⟩, ⟨1, [o], []⟩, [.obj 0], ⟨(by simp), rfl, rfl, fun m o' e => ?_, fun b z => z.elim, tabs, fun x z => by cases z⟩, RL.cons (show R _ _ H (.obj 0) (.ref a) from ⟨a, rfl, rfl⟩) RL.nil, ?_⟩
      · rw [Sh.get_eq] at e
        by_cases hm : m < 1
        · rw [if_pos hm] at e
          obtain rfl : m = 0 := by omega
          cases e
          exact ⟨a, rfl, hr⟩
        · rw [if_neg hm] at e
          cases e
      · rw [e]
        intro P' H' _ _ v r
        exact r
    rcases hS with (q | ⟨o, q⟩) | ⟨o, its, n', q, ec, _⟩
    · exact run _ (.inl rfl) ⟨_, q, ints_rl ns⟩
    · exact run _ (.inr rfl) ⟨o, _, q, ints_rl ns⟩
    · have z := c.nl a o q
      rw [cut_list ec] at z
      cases z
  · have pr := prog_of KX G c na defs TB
    have g := lift K mg base pr
    have z := def_at (D mg base TB) g
    rw [eas] at z
    rw [efa]
    exact z
end
end Pv
end
section
set_option Elab.async false
set_option linter.all false
set_option maxRecDepth 100000
set_option maxHeartbeats 4000000
set_option autoImplicit false
/-! what is printed for a law is looked at by these. -/
namespace Pv
open PySem L2 PySem.Spec PyProof.Rows PySem.W
noncomputable section
def fnscB (N ps : List Str) (sc : Scope) : Bool :=
  decide (sc.kind = .function) && !sc.isCoroutine && !sc.isGenerator && decide N.Nodup && decide (N.take ps.length = ps) && ps.all (fun x => decide (sc.names.lookup x = some .local) || decide (sc.names.lookup x = some .cell)) && sc.names.all (fun y => !decide (y.2 = .free))
theorem fnsc_by {N ps : List Str} {sc : Scope} (h : fnscB N ps sc = true) : FnScope N ps sc := by
  unfold fnscB at h
  simp only [Bool.and_eq_true, Bool.not_eq_true', decide_eq_true_eq, List.all_eq_true, Bool.or_eq_true, decide_eq_false_iff_not] at h
  obtain ⟨⟨⟨⟨⟨⟨h1, h2⟩, h3⟩, h4⟩, h5⟩, h6⟩, h7⟩ := h
  exact ⟨h1, h2, h3, h4, h5, h6, h7⟩
/-- a def's scope, parameters -/
def statB (d : He.DefD) (N : List Str) : Bool := fnscB N (argNames d.params.args) d.scope && (decide (parsOf d.params = some (argNames d.params.args)) && decide (argNames d.params.args).Nodup)
theorem DefT.mk' {L : LawT} {f : Nat} {d : He.DefD} {N : List Str} {kn : List Nat} {lm : Bool} {t : T} {m : Nat} (h1 : L.fn[f]? = some d) (h2 : d.dfl = []) (h3 : d.kwd = []) (h4 : statB d N = true) (h5 : (tr m).ss ⟨N, d.scope, L.gls, L.frs, kn, L.atts, lm⟩ d.body = some t)
    (h6 : L.fds.get 12 f = some ⟨d.params.args.length, List.replicate (N.length - d.params.args.length) none, t⟩) (h7 : lm = true → f ∈ L.tf) : DefT L f := by
  obtain ⟨a, b⟩ := and_tt h4
  obtain ⟨b, e⟩ := and_tt b
  have b := of_decide_eq_true b
  have e := of_decide_eq_true e
  rw [argNames_eq] at a b e
  exact ⟨d, d.params.args, N, kn, lm, t, m, h1, h2, h3, b, e, fnsc_by a, h5, h6, h7⟩
def Bt.allT {α : Type} (p : Nat → Bool) (k : Nat) (t : Bt α) (g : Nat → Nat) : Bool := match k with
  | 0 => true
  | k + 1 => match t with
    | .e => true
    | .n x l r => (!x.isSome || p (g 0)) && (Bt.allT p k l (fun j => g (2 * j)) && Bt.allT p k r (fun j => g (2 * j + 1)))
theorem Bt.allT_ok {α : Type} {p : Nat → Bool} : ∀ {k : Nat} {t : Bt α} {g : Nat → Nat} {i : Nat} {x : α}, Bt.allT p k t g = true → Bt.get k t i = some x → p (g i) = true
  | 0, t, g, i, x, _, h => by cases h
  | k + 1, .e, g, i, x, _, h => by cases h
  | k + 1, .n y l r, g, i, x, ha, h => by
    obtain ⟨a1, a2⟩ := and_tt (show ((!y.isSome || p (g 0)) && (Bt.allT p k l (fun j => g (2 * j)) && Bt.allT p k r (fun j => g (2 * j + 1)))) = true from ha)
    obtain ⟨a2, a3⟩ := and_tt a2
    have h : bif' (Nat.beq i 0) y (bif' (bit0 i) (Bt.get k l (i / 2)) (Bt.get k r (i / 2))) = some x := h
    cases q : Nat.beq i 0 with
    | true =>
      rw [q] at h
      have h : y = some x := h
      rw [Nat.eq_of_beq_eq_true q]
      rw [h] at a1
      simpa using a1
    | false =>
      rw [q] at h
      have h : bif' (bit0 i) (Bt.get k l (i / 2)) (Bt.get k r (i / 2)) = some x := h
      cases q2 : bit0 i with
      | true =>
        rw [q2] at h
        have e : 2 * (i / 2) = i := by
          have := Nat.eq_of_beq_eq_true (show Nat.beq (i % 2) 0 = true from q2)
          omega
        have z := Bt.allT_ok a2 (show Bt.get k l (i / 2) = some x from h)
        rw [← e]
        exact z
      | false =>
        rw [q2] at h
        have e : 2 * (i / 2) + 1 = i := by
          have : i % 2 ≠ 0 := fun z => by
            have q3 : Nat.beq (i % 2) 0 = false := q2
            rw [z] at q3
            cases q3
          omega
        have z := Bt.allT_ok a3 (show Bt.get k r (i / 2) = some x from h)
        rw [← e]
        exact z
/-- all below n -/
inductive Below (P : Nat → Prop) : Nat → Prop
  | nil : Below P 0
  | snoc {n : Nat} : Below P n → P n → Below P (n + 1)
theorem Below.at {P : Nat → Prop} : ∀ {n i : Nat}, Below P n → i < n → P i
  | 0, i, _, h => by omega
  | n + 1, i, .snoc b p, h => by
    by_cases e : i = n
    · rw [e]; exact p
    · exact Below.at b (by omega)
theorem defs_of {L : LawT} {n : Nat} (h : Bt.allT (fun i => Nat.blt i n) 12 L.fds (fun i => i) = true) (b : Below (DefT L) n) : ∀ f fd, L.fds.get 12 f = some fd → DefT L f := fun f fd e => b.at (blt_t (Bt.allT_ok h e))
end
end Pv
end
section
set_option Elab.async false
set_option linter.all false
set_option maxRecDepth 100000
set_option maxHeartbeats 4000000
set_option autoImplicit false
/-! the evaluator's rules, for runs with unknown numbers. -/
namespace Pv
open PySem L2
namespace Ev
section
variable {B : Tb} {c : Cl} {en en1 en2 : En} {h h1 h2 h3 : Sh} {a b t u : T} {as bs : T} {d e : D} {ds es : List D} {i j k : Int} {q p : Bool} {n m : Nat} {r : Rst} {w : Wk}
theorem bind_ok {α β : Type} {x : α} {f : α → Sh → Rs β} : (Rs.ok x h).bind f = f x h := rfl
/-! values -/
theorem slot (hs : nthK en n = some (some d)) : (comp B (.slot n)).e c en h = Rs.ok d h := by
  rw [comp_slot]
  show exSlot n c en h = _
  rw [exSlot_eq, hs]; rfl
theorem cst : (comp B (.cst d)).e c en h = Rs.ok d h := rfl
theorem add (ha : (comp B a).e c en h = Rs.ok (D.int i) h1) (hb : (comp B b).e c en h1 = Rs.ok (D.int j) h2) : (comp B (.bin .add a b)).e c en h = Rs.ok (D.int (i + j)) h2 := by
  show ((comp B a).e c en h).bind (fun x h => ((comp B b).e c en h).bind fun y h => binR .add x y h) = _
  rw [ha, bind_ok, hb, bind_ok]
  show frI (addK i j) (fun k => Rs.ok (D.int k) h2) = _
  rw [frI_eq, addK_eq]
theorem sub (ha : (comp B a).e c en h = Rs.ok (D.int i) h1) (hb : (comp B b).e c en h1 = Rs.ok (D.int j) h2) : (comp B (.bin .sub a b)).e c en h = Rs.ok (D.int (i - j)) h2 := by
  show ((comp B a).e c en h).bind (fun x h => ((comp B b).e c en h).bind fun y h => binR .sub x y h) = _
  rw [ha, bind_ok, hb, bind_ok]
  show frI (i - j) (fun k => Rs.ok (D.int k) h2) = _
  rw [frI_eq]
theorem bin2 {o : Bop} (ha : (comp B a).e c en h = Rs.ok (D.int i) h1) (hb : (comp B b).e c en h1 = Rs.ok (D.int j) h2) (hk : intB o i j = some k) : (comp B (.bin o a b)).e c en h = Rs.ok (D.int k) h2 := by
  show ((comp B a).e c en h).bind (fun x h => ((comp B b).e c en h).bind fun y h => binR o x y h) = _
  rw [ha, bind_ok, hb, bind_ok, binR_eq]
  show Rs.opt (opt' (intB o i j) none fun k => frI k fun k => some (D.int k)) h2 = _
  rw [hk]
  show Rs.opt (frI k fun k => some (D.int k)) h2 = _
  rw [frI_eq]; rfl
theorem lg {x : Nat} (hx : x < 2 ^ 200) : x.log2 < 200 := by
  by_cases z : x = 0
  · subst z; decide
  · exact (Nat.log2_lt z).mpr hx
theorem mul (ha : (comp B a).e c en h = Rs.ok (D.int i) h1) (hb : (comp B b).e c en h1 = Rs.ok (D.int j) h2) (hi : i.natAbs < 2 ^ 200) (hj : j.natAbs < 2 ^ 200) : (comp B (.bin .mul a b)).e c en h = Rs.ok (D.int (i * j)) h2 := by
  refine bin2 ha hb ?_
  show bif' (Nat.blt (i.natAbs.log2 + j.natAbs.log2) 1000000) (some (i * j)) none = _
  have : Nat.blt (i.natAbs.log2 + j.natAbs.log2) 1000000 = true := by
    rw [Nat.blt_eq]
    have := lg hi
    have := lg hj
    omega
  rw [this]; rfl
theorem fdiv (ha : (comp B a).e c en h = Rs.ok (D.int i) h1) (hb : (comp B b).e c en h1 = Rs.ok (D.int j) h2) (h0 : 0 < j) (hj : j.natAbs < 2 ^ 200) : (comp B (.bin .fdiv a b)).e c en h = Rs.ok (D.int (i / j)) h2 := by
  refine bin2 ha hb ?_
  show bif' (ilt 0 j && Nat.blt j.natAbs.log2 9000) (some (i / j)) none = _
  have : Nat.blt j.natAbs.log2 9000 = true := by
    rw [Nat.blt_eq]
    have := lg hj
    omega
  rw [this, ilt_eq, decide_eq_true h0]; rfl
theorem mod (ha : (comp B a).e c en h = Rs.ok (D.int i) h1) (hb : (comp B b).e c en h1 = Rs.ok (D.int j) h2) (h0 : 0 < j) : (comp B (.bin .mod a b)).e c en h = Rs.ok (D.int (i % j)) h2 := by
  refine bin2 ha hb ?_
  show bif' (ilt 0 j) (some (i % j)) none = _
  rw [ilt_eq, decide_eq_true h0]; rfl
theorem neg (ha : (comp B a).e c en h = Rs.ok (D.int i) h1) : (comp B (.neg a)).e c en h = Rs.ok (D.int (-i)) h1 := by
  show ((comp B a).e c en h).bind _ = _
  rw [ha, bind_ok]
  show frI (-i) (fun i => Rs.ok (D.int i) h1) = _
  rw [frI_eq]
/-! tests -/
theorem cmp {o : Cop} {x y : D} (ha : (comp B a).e c en h = Rs.ok x h1) (hb : (comp B b).e c en h1 = Rs.ok y h2) (hq : cmpD h2 o x y = some q) : (comp B (.cmp o a b)).t c en h = Rs.ok q h2 := by
  show ((comp B a).e c en h).bind (fun x h => ((comp B b).e c en h).bind fun y h => .opt (cmpD h o x y) h) = _
  rw [ha, bind_ok, hb, bind_ok, hq]; rfl
theorem lt (ha : (comp B a).e c en h = Rs.ok (D.int i) h1) (hb : (comp B b).e c en h1 = Rs.ok (D.int j) h2) : (comp B (.cmp .lt a b)).t c en h = Rs.ok (decide (i < j)) h2 := by
  refine cmp ha hb ?_
  rw [← ilt_eq]; rfl
theorem gt (ha : (comp B a).e c en h = Rs.ok (D.int i) h1) (hb : (comp B b).e c en h1 = Rs.ok (D.int j) h2) : (comp B (.cmp .gt a b)).t c en h = Rs.ok (decide (j < i)) h2 := by
  refine cmp ha hb ?_
  rw [← ilt_eq]; rfl
theorem eq (ha : (comp B a).e c en h = Rs.ok (D.int i) h1) (hb : (comp B b).e c en h1 = Rs.ok (D.int j) h2) : (comp B (.cmp .eq a b)).t c en h = Rs.ok (decide (i = j)) h2 := by
  refine cmp ha hb ?_
  rw [← ieq_eq]; rfl
theorem ne (ha : (comp B a).e c en h = Rs.ok (D.int i) h1) (hb : (comp B b).e c en h1 = Rs.ok (D.int j) h2) : (comp B (.cmp .ne a b)).t c en h = Rs.ok (!decide (i = j)) h2 := by
  refine cmp ha hb ?_
  rw [← ieq_eq]; rfl
theorem ltT (ha : (comp B a).e c en h = Rs.ok (D.int i) h1) (hb : (comp B b).e c en h1 = Rs.ok (D.int j) h2) (z : i < j) : (comp B (.cmp .lt a b)).t c en h = Rs.ok true h2 := by rw [lt ha hb, decide_eq_true z]
theorem ltF (ha : (comp B a).e c en h = Rs.ok (D.int i) h1) (hb : (comp B b).e c en h1 = Rs.ok (D.int j) h2) (z : ¬i < j) : (comp B (.cmp .lt a b)).t c en h = Rs.ok false h2 := by rw [lt ha hb, decide_eq_false z]
theorem gtT (ha : (comp B a).e c en h = Rs.ok (D.int i) h1) (hb : (comp B b).e c en h1 = Rs.ok (D.int j) h2) (z : j < i) : (comp B (.cmp .gt a b)).t c en h = Rs.ok true h2 := by rw [gt ha hb, decide_eq_true z]
theorem gtF (ha : (comp B a).e c en h = Rs.ok (D.int i) h1) (hb : (comp B b).e c en h1 = Rs.ok (D.int j) h2) (z : ¬j < i) : (comp B (.cmp .gt a b)).t c en h = Rs.ok false h2 := by rw [gt ha hb, decide_eq_false z]
theorem eqT (ha : (comp B a).e c en h = Rs.ok (D.int i) h1) (hb : (comp B b).e c en h1 = Rs.ok (D.int j) h2) (z : i = j) : (comp B (.cmp .eq a b)).t c en h = Rs.ok true h2 := by rw [eq ha hb, decide_eq_true z]
theorem eqN (ha : (comp B a).e c en h = Rs.ok (D.int i) h1) (hb : (comp B b).e c en h1 = Rs.ok (D.int j) h2) (z : ¬i = j) : (comp B (.cmp .eq a b)).t c en h = Rs.ok false h2 := by rw [eq ha hb, decide_eq_false z]
theorem neT (ha : (comp B a).e c en h = Rs.ok (D.int i) h1) (hb : (comp B b).e c en h1 = Rs.ok (D.int j) h2) (z : ¬i = j) : (comp B (.cmp .ne a b)).t c en h = Rs.ok true h2 := by rw [ne ha hb, decide_eq_false z]; rfl
theorem neF (ha : (comp B a).e c en h = Rs.ok (D.int i) h1) (hb : (comp B b).e c en h1 = Rs.ok (D.int j) h2) (z : i = j) : (comp B (.cmp .ne a b)).t c en h = Rs.ok false h2 := by rw [ne ha hb, decide_eq_true z]; rfl
/-- a test as a value; a value as a test -/
theorem cmpE {o : Cop} (ht : (comp B (.cmp o a b)).t c en h = Rs.ok q h1) : (comp B (.cmp o a b)).e c en h = Rs.ok (D.bl q) h1 := by
  show ((comp B (.cmp o a b)).t c en h).map D.bl = _
  rw [ht]; rfl
theorem tot (ha : (comp B a).t c en h = Rs.ok q h1) (hb : q = false → (comp B b).t c en h1 = Rs.ok p h2) (hh : q = true → p = true ∧ h2 = h1) : (comp B (.tor a b)).t c en h = Rs.ok p h2 := by
  show ((comp B a).t c en h).bind (fun x h => bif' x (.ok true h) ((comp B b).t c en h)) = _
  rw [ha, bind_ok]
  cases q with
  | true => obtain ⟨e1, e2⟩ := hh rfl; subst e1 e2; rfl
  | false => exact hb rfl
theorem orF (ha : (comp B a).t c en h = Rs.ok false h1) (hb : (comp B b).t c en h1 = Rs.ok p h2) : (comp B (.tor a b)).t c en h = Rs.ok p h2 := by
  show ((comp B a).t c en h).bind (fun x h => bif' x (.ok true h) ((comp B b).t c en h)) = _
  rw [ha, bind_ok]; exact hb
theorem orT (ha : (comp B a).t c en h = Rs.ok true h1) : (comp B (.tor a b)).t c en h = Rs.ok true h1 := by
  show ((comp B a).t c en h).bind (fun x h => bif' x (.ok true h) ((comp B b).t c en h)) = _
  rw [ha, bind_ok]; rfl
theorem orEF (ha : (comp B a).e c en h = Rs.ok (D.bl false) h1) (hb : (comp B b).e c en h1 = Rs.ok d h2) : (comp B (.tor a b)).e c en h = Rs.ok d h2 := by
  show ((comp B a).e c en h).bind _ = _
  rw [ha, bind_ok]; exact hb
theorem orET (ha : (comp B a).e c en h = Rs.ok (D.bl true) h1) : (comp B (.tor a b)).e c en h = Rs.ok (D.bl true) h1 := by
  show ((comp B a).e c en h).bind _ = _
  rw [ha, bind_ok]; rfl
theorem andET (ha : (comp B a).e c en h = Rs.ok (D.bl true) h1) (hb : (comp B b).e c en h1 = Rs.ok d h2) : (comp B (.tand a b)).e c en h = Rs.ok d h2 := by
  show ((comp B a).e c en h).bind _ = _
  rw [ha, bind_ok]; exact hb
theorem notT (ha : (comp B a).t c en h = Rs.ok q h1) : (comp B (.tnot a)).t c en h = Rs.ok (!q) h1 := by
  show ((comp B a).t c en h).map _ = _
  rw [ha]; cases q <;> rfl
theorem notE (ha : (comp B a).e c en h = Rs.ok (D.bl q) h1) : (comp B (.tnot a)).e c en h = Rs.ok (D.bl (!q)) h1 := by
  show ((comp B a).e c en h).bind _ = _
  rw [ha]; rfl
theorem notF (ha : (comp B a).t c en h = Rs.ok true h1) : (comp B (.tnot a)).t c en h = .ok false h1 := notT ha
theorem notTr (ha : (comp B a).t c en h = Rs.ok false h1) : (comp B (.tnot a)).t c en h = .ok true h1 := notT ha
theorem callT {f : Nat} (hb : (comp B (.call f as)).e c en h = Rs.ok (D.bl q) h1) : (comp B (.call f as)).t c en h = Rs.ok q h1 := by
  show ((comp B (.call f as)).e c en h).bind (fun x h => .opt (truD h x) h) = _
  rw [hb]; rfl
theorem ifT (ht : (comp B t).t c en h = Rs.ok true h1) (ha : (comp B a).e c en h1 = Rs.ok d h2) : (comp B (.ife t a b)).e c en h = Rs.ok d h2 := by
  show ((comp B t).t c en h).bind _ = _
  rw [ht]; exact ha
theorem ifF (ht : (comp B t).t c en h = Rs.ok false h1) (hb : (comp B b).e c en h1 = Rs.ok d h2) : (comp B (.ife t a b)).e c en h = Rs.ok d h2 := by
  show ((comp B t).t c en h).bind _ = _
  rw [ht]; exact hb
/-! rows, calls, builtins -/
theorem nil : (comp B .nil).a c en h = Rs.ok [] h := rfl
theorem cons0 (ha : (comp B a).e c en h = Rs.ok d h1) (hb : (comp B as).a c en h1 = Rs.ok ds h2) : (comp B (.cons 0 a as)).a c en h = Rs.ok (d :: ds) h2 := by
  show ((comp B a).e c en h).bind (fun d h => argD 0 d h fun d h => ((comp B as).a c en h).map fun ds => d :: ds) = _
  rw [ha, bind_ok]
  show ((comp B as).a c en h1).map _ = _
  rw [hb]; rfl
theorem cons1 (ha : (comp B a).e c en h = Rs.ok d h1) (he : fz d = e) (hb : (comp B as).a c en h1 = Rs.ok ds h2) : (comp B (.cons 1 a as)).a c en h = Rs.ok (e :: ds) h2 := by
  show ((comp B a).e c en h).bind (fun d h => argD 1 d h fun d h => ((comp B as).a c en h).map fun ds => d :: ds) = _
  rw [ha, bind_ok]
  show ((comp B as).a c en h1).map _ = _
  rw [hb, he]; rfl
theorem call {f : Nat} (ha : (comp B as).a c en h = Rs.ok ds h1) (hc : c.f f ds h1 = Rs.ok d h2) : (comp B (.call f as)).e c en h = Rs.ok d h2 := by
  show ((comp B as).a c en h).bind _ = _
  rw [ha]; exact hc
theorem bi {x : Bi} (ha : (comp B as).a c en h = Rs.ok ds h1) (hd : biD h1 x ds = some d) : (comp B (.bi x as)).e c en h = Rs.ok d h1 := by
  show ((comp B as).a c en h).bind (fun ds h => .opt (biD h x ds) h) = _
  rw [ha, bind_ok, hd]; rfl
theorem ix (ha : (comp B a).e c en h = Rs.ok d h1) (hb : (comp B b).e c en h1 = Rs.ok e h2) {x : D} (hx : ixD h2 d e = some x) : (comp B (.ix a b)).e c en h = Rs.ok x h2 := by
  show ((comp B a).e c en h).bind (fun x h => ((comp B b).e c en h).bind fun y h => .opt (ixD h x y) h) = _
  rw [ha, bind_ok, hb, bind_ok, hx]; rfl
theorem lst (ha : (comp B as).a c en h = Rs.ok ds h1) (ho : (smallL (lenK ds) && noTmps ds) = true) : (comp B (.lst as)).e c en h = Rs.ok (D.tmp ds) h1 := by
  show ((comp B as).a c en h).bind (fun ds h => bif' (smallL (lenK ds) && noTmps ds) (.ok (D.tmp ds) h) .stuck) = _
  rw [ha, bind_ok, ho]; rfl
theorem tup (ha : (comp B as).a c en h = Rs.ok ds h1) (ho : (smallL (lenK ds) && noTmps ds) = true) : (comp B (.tup as)).e c en h = Rs.ok (D.tup ds) h1 := by
  show ((comp B as).a c en h).bind (fun ds h => bif' (smallL (lenK ds) && noTmps ds) (.ok (D.tup ds) h) .stuck) = _
  rw [ha, bind_ok, ho]; rfl
theorem rng (ha : (comp B as).a c en h = Rs.ok ds h1) (ho : rngW ds = some w) : (comp B (.wrng as)).w c en h = Rs.ok w h1 := by
  show ((comp B as).a c en h).bind (fun ds h => .opt (rngW ds) h) = _
  rw [ha, bind_ok, ho]; rfl
theorem wseq (ha : (comp B a).e c en h = Rs.ok d h1) (ho : wkSeq h1 d = some w) : (comp B (.wseq a)).w c en h = .ok w h1 := by
  show ((comp B a).e c en h).bind (fun d h => .opt (wkSeq h d) h) = _
  rw [ha, bind_ok, ho]; rfl
theorem len_ (ha : (comp B as).a c en h = Rs.ok [.vls ds] h1) : (comp B (.bi .len as)).e c en h = .ok (D.int (ds.length : Nat)) h1 := by
  refine bi ha ?_
  show (frN (lenK ds) fun n => some (D.int (.ofNat n))) = _
  rw [frN_eq, lenK_eq]; rfl
theorem ix_ (ha : (comp B a).e c en h = Rs.ok (.vls ds) h1) (hb : (comp B b).e c en h1 = Rs.ok (D.int (n : Nat)) h2) (hx : ds[n]? = some d) : (comp B (.ix a b)).e c en h = .ok d h2 := by
  refine ix ha hb ?_
  show opt' (nthK ds n) none some = _
  rw [nthK_eq, hx]; rfl
theorem rng1 (hi : 0 ≤ i) (hj : i < 4611686018427387904) : rngW [D.int i] = some (.rng 0 1 i.toNat) := by
  show bif' (smallI i) (frN i.toNat fun n => some (Wk.rng 0 1 n)) none = _
  have : smallI i = true := by
    unfold smallI
    rw [ile_eq, ilt_eq]
    simp only [Bool.and_eq_true, decide_eq_true_eq]
    omega
  rw [this, frN_eq]; rfl
theorem max2 (ha : (comp B as).a c en h = Rs.ok [D.int i, D.int j] h1) : (comp B (.bi .max2 as)).e c en h = Rs.ok (D.int (if i < j then j else i)) h1 := by
  refine bi ha ?_
  show bif' (ilt i j) (some (D.int j)) (some (D.int i)) = _
  rw [ilt_eq]
  by_cases z : i < j
  · rw [if_pos z, decide_eq_true z]; rfl
  · rw [if_neg z, decide_eq_false z]; rfl
theorem min2 (ha : (comp B as).a c en h = Rs.ok [D.int i, D.int j] h1) : (comp B (.bi .min2 as)).e c en h = Rs.ok (D.int (if j < i then j else i)) h1 := by
  refine bi ha ?_
  show bif' (ilt j i) (some (D.int j)) (some (D.int i)) = _
  rw [ilt_eq]
  by_cases z : j < i
  · rw [if_pos z, decide_eq_true z]; rfl
  · rw [if_neg z, decide_eq_false z]; rfl
theorem divmod (ha : (comp B as).a c en h = Rs.ok [D.int i, D.int j] h1) (h0 : 0 < j) (hj : j < 1073741824) : (comp B (.bi .divmod as)).e c en h = Rs.ok (D.tup [D.int (i / j), D.int (i % j)]) h1 := by
  refine bi ha ?_
  show bif' (ilt 0 j && ilt j 1073741824) (frI (i / j) fun q => frI (i % j) fun r => some (D.tup [D.int q, D.int r])) none = _
  rw [ilt_eq, ilt_eq, decide_eq_true h0, decide_eq_true hj]
  show (frI (i / j) fun q => frI (i % j) fun r => some (D.tup [D.int q, D.int r])) = _
  rw [frI_eq, frI_eq]
theorem int (ha : (comp B as).a c en h = Rs.ok [D.int i] h1) : (comp B (.bi .int as)).e c en h = Rs.ok (D.int i) h1 := bi ha rfl
theorem abs (ha : (comp B as).a c en h = Rs.ok [D.int i] h1) : (comp B (.bi .abs as)).e c en h = Rs.ok (D.int (if i < 0 then -i else i)) h1 := by
  refine bi ha ?_
  show (frI (if i < 0 then -i else i) fun i => some (D.int i)) = _
  rw [frI_eq]
/-! statements -/
theorem seq {z : Nat} (ha : (comp B a).s c en h = .nx en1 h1) (hb : (comp B b).s c en1 h1 = r) : (comp B (.cons z a b)).s c en h = r := by
  show Rst.rec (motive := fun _ => Rst) (fun en h => (comp B b).s c en h) .rt .bk .ct .exc .stuck ((comp B a).s c en h) = _
  rw [ha]; exact hb
theorem seqR {z : Nat} (ha : (comp B a).s c en h = .rt d h1) : (comp B (.cons z a b)).s c en h = .rt d h1 := by
  show Rst.rec (motive := fun _ => Rst) (fun en h => (comp B b).s c en h) .rt .bk .ct .exc .stuck ((comp B a).s c en h) = _
  rw [ha]
theorem snil : (comp B .nil).s c en h = .nx en h := rfl
theorem expr (ha : (comp B a).e c en h = Rs.ok d h1) : (comp B (.sexpr a)).s c en h = .nx en h1 := by
  show ((comp B a).e c en h).thn en (fun _ h => .nx en h) = _
  rw [ha]; rfl
theorem sifT (ht : (comp B t).t c en h = Rs.ok true h1) (ha : (comp B a).s c en h1 = r) : (comp B (.sif t a b)).s c en h = r := by
  show ((comp B t).t c en h).thn en (fun x h => bif' x ((comp B a).s c en h) ((comp B b).s c en h)) = _
  rw [ht]; exact ha
theorem sifF (ht : (comp B t).t c en h = Rs.ok false h1) (hb : (comp B b).s c en h1 = r) : (comp B (.sif t a b)).s c en h = r := by
  show ((comp B t).t c en h).thn en (fun x h => bif' x ((comp B a).s c en h) ((comp B b).s c en h)) = _
  rw [ht]; exact hb
theorem ret (ha : (comp B a).e c en h = Rs.ok d h1) : (comp B (.sret a)).s c en h = .rt d h1 := by
  show ((comp B a).e c en h).thn en (fun d h => .rt d h) = _
  rw [ha]; rfl
theorem name (ha : (comp B a).e c en h = Rs.ok d h1) (hs : setK (Rs.stuck) en n (some (fz d)) (fun en => Rs.ok en h1) = Rs.ok en1 h1) : (comp B (.sasg (.gname n false) a)).s c en h = .nx en1 h1 := by
  show suAsg true (comp B (.gname n false)).g (comp B a).e c en h = _
  rw [comp_gname]
  show ((comp B a).e c en h).thn en (fun d h => (setK (Rs.stuck) en n (some (fz d)) (fun en => Rs.ok en h)).thn en fun en h => .nx en h) = _
  rw [ha]
  show (setK (Rs.stuck) en n (some (fz d)) (fun en => Rs.ok en h1)).thn en (fun en h => .nx en h) = _
  rw [hs]; rfl
theorem nameK (ha : (comp B a).e c en h = Rs.ok d h1) (hs : setK (Rs.stuck) en n (some (own d h1).1) (fun en => Rs.ok en (own d h1).2) = Rs.ok en1 h2) : (comp B (.sasg (.gname n true) a)).s c en h = .nx en1 h2 := by
  show suAsg true (comp B (.gname n true)).g (comp B a).e c en h = _
  rw [comp_gname]
  show ((comp B a).e c en h).thn en (fun d h => (setK (Rs.stuck) en n (some (own d h).1) (fun en => Rs.ok en (own d h).2)).thn en fun en h => .nx en h) = _
  rw [ha]
  show (setK (Rs.stuck) en n (some (own d h1).1) (fun en => Rs.ok en (own d h1).2)).thn en (fun en h => .nx en h) = _
  rw [hs]; rfl
/-- a target of another kind -/
theorem asg (hn : isNm t = false) (ha : (comp B a).e c en h = Rs.ok d h1) (hs : (comp B t).g c (own d h1).1 en (own d h1).2 = Rs.ok en1 h2) : (comp B (.sasg t a)).s c en h = .nx en1 h2 := by
  show ((comp B a).e c en h).thn en (fun d h => bif' (isNm t) (((comp B t).g c d en h).thn en fun en h => .nx en h) (((comp B t).g c (own d h).1 en (own d h).2).thn en fun en h => .nx en h)) = _
  rw [ha, hn]
  show ((comp B t).g c (own d h1).1 en (own d h1).2).thn en (fun en h => .nx en h) = _
  rw [hs]; rfl
theorem gname (hs : setK (Rs.stuck) en n (some (fz d)) (fun en => Rs.ok en h) = Rs.ok en1 h) : (comp B (.gname n false)).g c d en h = Rs.ok en1 h := by rw [comp_gname]; exact hs
theorem gtup (hl : lenK ds = n) (hs : (comp B as).gs c ds en h = Rs.ok en1 h1) : (comp B (.gtup n as)).g c (.tup ds) en h = Rs.ok en1 h1 := by
  show bif' (Nat.beq (lenK ds) n) ((comp B as).gs c ds en h) .stuck = _
  rw [hl, Nat.beq_refl]; exact hs
theorem gnil : (comp B .nil).gs c [] en h = Rs.ok en h := rfl
theorem gcons {z : Nat} (ha : (comp B a).g c d en h = Rs.ok en1 h1) (hb : (comp B as).gs c ds en1 h1 = Rs.ok en2 h2) : (comp B (.cons z a as)).gs c (d :: ds) en h = Rs.ok en2 h2 := by
  show ((comp B a).g c d en h).bind (fun en h => noX ((comp B as).gs c ds en h)) = _
  rw [ha, bind_ok, hb]; rfl
theorem gsub {x y : D} (hd : isTmp d = false) (ha : (comp B a).e c en h = Rs.ok x h1) (hb : (comp B b).e c en h1 = Rs.ok y h2) (hs : setItD h2 x y d = some h3) : (comp B (.gsub a b)).g c d en h = Rs.ok en h3 := by
  show bif' (isTmp d) .stuck (((comp B a).e c en h).bind fun x h => ((comp B b).e c en h).bind fun y h => opt' (setItD h x y d) .stuck fun h => .ok en h) = _
  rw [hd]
  show (((comp B a).e c en h).bind fun x h => ((comp B b).e c en h).bind fun y h => opt' (setItD h x y d) .stuck fun h => .ok en h) = _
  rw [ha, bind_ok, hb, bind_ok, hs]; rfl
theorem par {is : List Nat} (ha : (comp B as).a c en h = Rs.ok ds h1) (ht : noTmps ds = true) (hs : setAll en is ds = some en1) : (comp B (.spar is as)).s c en h = .nx en1 h1 := by
  show ((comp B as).a c en h).thn en (fun ds h => bif' (noTmps ds) (opt' (setAll en is ds) .stuck fun en => frL en fun en => .nx en h) .stuck) = _
  rw [ha]
  show bif' (noTmps ds) (opt' (setAll en is ds) .stuck fun en => frL en fun en => Rst.nx en h1) .stuck = _
  rw [ht, hs]
  show (frL en1 fun en => Rst.nx en h1) = _
  rw [frL_eq]
theorem sfor (hi : (comp B as).w c en h = Rs.ok w h1) (hf : forK (comp B t).g (comp B b).s c c.n w en h1 = r) : (comp B (.sfor t as b)).s c en h = r := by
  show ((comp B as).w c en h).thn en (fun w h => forK (comp B t).g (comp B b).s c c.n w en h) = _
  rw [hi]; exact hf
theorem forStop {g : GF} {b : SF} (hs : stepW h w = .stop) : forK g b c (n + 1) w en h = .nx en h := by
  show Wr.rec (motive := fun _ => Rst) _ (.nx en h) .stuck (stepW h w) = _
  rw [hs]
theorem forNext {g : GF} {b : SF} {x : D} {w' : Wk} (hs : stepW h w = .item x w') (hg : g c x en h = Rs.ok en1 h1) (hb : b c en1 h1 = .nx en2 h2) (hr : forK g b c n w' en2 h2 = r) : forK g b c (n + 1) w en h = r := by
  show Wr.rec (motive := fun _ => Rst) (fun x w => (g c x en h).thn en fun en h => Rst.rec (motive := fun _ => Rst) (fun en h => forK g b c n w en h) .rt .nx (fun en h => forK g b c n w en h) .exc .stuck (b c en h)) (.nx en h) .stuck (stepW h w) = _
  rw [hs]
  show (g c x en h).thn en (fun en h => Rst.rec (motive := fun _ => Rst) (fun en h => forK g b c n w' en h) .rt .nx (fun en h => forK g b c n w' en h) .exc .stuck (b c en h)) = _
  rw [hg]
  show Rst.rec (motive := fun _ => Rst) (fun en h => forK g b c n w' en h) .rt .nx (fun en h => forK g b c n w' en h) .exc .stuck (b c en1 h1) = _
  rw [hb]; exact hr
theorem forRt {g : GF} {b : SF} {x : D} {w' : Wk} (hs : stepW h w = .item x w') (hg : g c x en h = Rs.ok en1 h1) (hb : b c en1 h1 = .rt d h2) : forK g b c (n + 1) w en h = .rt d h2 := by
  show Wr.rec (motive := fun _ => Rst) (fun x w => (g c x en h).thn en fun en h => Rst.rec (motive := fun _ => Rst) (fun en h => forK g b c n w en h) .rt .nx (fun en h => forK g b c n w en h) .exc .stuck (b c en h)) (.nx en h) .stuck (stepW h w) = _
  rw [hs]
  show (g c x en h).thn en (fun en h => Rst.rec (motive := fun _ => Rst) (fun en h => forK g b c n w' en h) .rt .nx (fun en h => forK g b c n w' en h) .exc .stuck (b c en h)) = _
  rw [hg]
  show Rst.rec (motive := fun _ => Rst) (fun en h => forK g b c n w' en h) .rt .nx (fun en h => forK g b c n w' en h) .exc .stuck (b c en1 h1) = _
  rw [hb]
/-! calls of defs -/
theorem def_ {f : Nat} {fd : FD} (hf : B.f.get 12 f = some fd) (he : argsE (Rs.stuck) fd.pad ds fd.np (fun en => retD ((comp B fd.body).s c en h)) = retD ((comp B t).s c en1 h)) (hr : (comp B t).s c en1 h = .rt d h1) : callF B c f ds h = Rs.ok d h1 := by
  show opt' (B.f.get 12 f) .stuck (fun fd => argsE .stuck fd.pad ds fd.np fun en => retD ((comp B fd.body).s c en h)) = _
  rw [hf]
  show argsE (Rs.stuck) fd.pad ds fd.np (fun en => retD ((comp B fd.body).s c en h)) = _
  rw [he, hr]; rfl
theorem defN {f : Nat} {fd : FD} (hf : B.f.get 12 f = some fd) (he : argsE (Rs.stuck) fd.pad ds fd.np (fun en => retD ((comp B fd.body).s c en h)) = retD ((comp B t).s c en1 h)) (hr : (comp B t).s c en1 h = .nx en2 h1) : callF B c f ds h = Rs.ok .non h1 := by
  show opt' (B.f.get 12 f) .stuck (fun fd => argsE .stuck fd.pad ds fd.np fun en => retD ((comp B fd.body).s c en h)) = _
  rw [hf]
  show argsE (Rs.stuck) fd.pad ds fd.np (fun en => retD ((comp B fd.body).s c en h)) = _
  rw [he, hr]; rfl
end
end Ev
end Pv
end
section
set_option Elab.async false
set_option linter.all false
set_option maxRecDepth 100000
set_option maxHeartbeats 4000000
set_option autoImplicit false
/-! a call that is given one list of whole numbers may be run on a heap of its own. -/
namespace Pv
open PySem L2 PySem.Spec PyProof.Rows PySem.W
section
variable {G : GC} {P P' Ps : Pl} {H H' : Hp} {h hs : Sh} {a : Addr} {d : Nat}
theorem intsD_eq : ∀ {ds : List D} {ns : List Int}, intsD ds = some ns → ds = ns.map D.int
  | [], ns, e => by cases e; rfl
  | d :: ds, ns, e => by
    cases d with
    | int i =>
      have e : opt' (intsD ds) none (fun is => some (i :: is)) = some ns := e
      cases q : intsD ds with
      | none => rw [q] at e; cases e
      | some is =>
        rw [q] at e
        cases e
        rw [intsD_eq q]; rfl
    | _ => cases e
theorem intsD_of : ∀ ns : List Int, intsD (ns.map D.int) = some ns
  | [] => rfl
  | n :: ns => by
    show opt' (intsD (ns.map D.int)) none (fun is => some (n :: is)) = _
    rw [intsD_of ns]; rfl
theorem RL.ints : ∀ {ns : List Int} {vs : List V}, RL G P H (ns.map D.int) vs → RL G P' H' (ns.map D.int) vs
  | [], vs, r => r
  | n :: ns, vs, r => by
    obtain ⟨x, xs, e, r1, r2⟩ := r
    exact ⟨x, xs, e, r1, RL.ints r2⟩
theorem or_nt {o : O} (r : OR G P H a o) : ∃ u, H a = some u ∧ ∀ ps, u ≠ .tbl ps := by
  cases o with
  | lst ds => obtain ⟨u, q, s⟩ := LstAt.some r; exact ⟨u, q, s.2.1⟩
  | frz ds => obtain ⟨o, xs, q, r⟩ := r; exact ⟨_, q, fun ps z => by cases z⟩
  | dct ks ds => obtain ⟨u, q, s⟩ := DctAt.some r; exact ⟨u, q, s.2.1⟩
  | ins c fs ds => obtain ⟨dx, xs, q, r⟩ := r; exact ⟨_, q, fun ps z => by cases z⟩
  | dead => obtain ⟨o, q⟩ := r; exact ⟨_, q, fun ps z => by cases z⟩
theorem small_sr (s : SR G P H h) (ha : P.A[d]? = some a) {ns : List Int} (ho : h.get d = some (.lst (ns.map D.int))) : SR G ⟨[a], P.Z⟩ H ⟨1, [.lst (ns.map D.int)], []⟩ := by
  refine ⟨by simp, rfl, rfl, fun n o e => ?_, fun b z => ⟨fun m => (s.zed b z).1 ?_, (s.zed b z).2⟩, s.tab, fun x m => by cases m⟩
  · have lt := Sh.get_lt e
    have : n = 0 := by
      have lt : n < 1 := lt
      omega
    subst this
    have e : some (O.lst (ns.map D.int)) = some o := e
    cases e
    obtain ⟨b, h1, h2⟩ := s.obj d _ ho
    rw [ha] at h1
    cases h1
    obtain ⟨xs, q, r⟩ := h2
    exact ⟨a, rfl, xs, q, r.ints⟩
  · have : b = a := by simpa using m
    rw [this]; exact List.mem_of_getElem? ha
theorem back_small (s : SR G P H h) (ha : P.A[d]? = some a) {ns : List Int} (x : Ext ⟨[a], P.Z⟩ H Ps H') (s' : SR G Ps H' hs) (ho : hs.get 0 = some (.lst (ns.map D.int))) :
    Ext P H ⟨P.A, Ps.Z⟩ H' ∧ SR G ⟨P.A, Ps.Z⟩ H' (h.set d (.lst (ns.map D.int))) := by
  have hm := List.mem_of_getElem? ha
  have wx : WExt P H ⟨P.A, Ps.Z⟩ H' := ⟨⟨[], by simp⟩, x.zz, x.kz, x.xx, x.tup, x.frz⟩
  have ex : Ext P H ⟨P.A, Ps.Z⟩ H' := ⟨wx, fun _ z => .inl z, x.fz, x.dom, fun b o e n t => x.keep b o e (fun m => n (by
    have : b = a := by simpa using m
    rw [this]; exact hm)) t⟩
  have l : d < h.n := by rw [← s.len]; exact (List.getElem?_eq_some_iff.mp ha).1
  refine ⟨ex, s.nd, ?_, ?_, fun m o2 e => ?_, fun b z => ⟨?_, (s'.zed b z).2⟩, s'.tab, by rw [Sh.set_eq]; exact s.cloExt wx⟩
  · rw [Sh.set_eq]; show h.n = (h.l.set _ _).length; rw [List.length_set]; exact s.wf
  · rw [Sh.set_eq]; exact s.len
  · rw [Sh.get_set s.wf l] at e
    by_cases hmd : m = d
    · subst hmd
      rw [if_pos rfl] at e
      cases e
      obtain ⟨b, h1, h2⟩ := s'.obj 0 _ ho
      obtain ⟨B, hB⟩ := x.pre
      rw [hB] at h1
      cases h1
      obtain ⟨xs, q, r⟩ := h2
      exact ⟨a, ha, xs, q, r.ints⟩
    · rw [if_neg hmd] at e
      obtain ⟨b, h1, h2⟩ := s.obj m o2 e
      refine ⟨b, h1, h2.ext wx ?_⟩
      obtain ⟨u, q, nt⟩ := or_nt h2
      rw [x.keep b u q (fun mm => hmd ?_) nt, q]
      have : b = a := by simpa using mm
      subst this
      exact (List.getElem?_inj (List.getElem?_eq_some_iff.mp h1).1 s.nd).mp (h1.trans ha.symm)
  · rcases x.fz b z with z2 | z2
    · exact (s.zed b z2).1
    · intro m
      obtain ⟨u, q⟩ := s.there m
      rw [z2] at q; cases q
end
/-- the call on a heap of its own -/
noncomputable def orcR (h : Sh) (d : Nat) (r : Rs D) : Rs D := match r with
  | .ok (.bl b) hs => match hs.get 0 with
    | some (.lst ys) => opt' (intsD ys) .stuck fun ms => .ok (.bl b) (h.set d (.lst (ms.map D.int)))
    | _ => .stuck
  | _ => .stuck
noncomputable def orcO (F : List D → Sh → Rs D) (h : Sh) (d : Nat) (o : Option O) : Rs D := match o with
  | some (.lst xs) => opt' (intsD xs) .stuck fun ns => orcR h d (F [.obj 0] ⟨1, [.lst (ns.map D.int)], []⟩)
  | _ => .stuck
noncomputable def orcD (F : List D → Sh → Rs D) (ds : List D) (h : Sh) : Rs D := match ds with
  | [.obj d] => orcO F h d (h.get d)
  | _ => .stuck
theorem orcD_ok {F : List D → Sh → Rs D} {d : Nat} {h hs : Sh} {ns ms : List Int} {b : Bool} (ho : h.get d = some (.lst (ns.map D.int))) (hF : F [.obj 0] ⟨1, [.lst (ns.map D.int)], []⟩ = .ok (.bl b) hs) (h0 : hs.get 0 = some (.lst (ms.map D.int))) : orcD F [.obj d] h = .ok (.bl b) (h.set d (.lst (ms.map D.int))) := by
  show orcO F h d (h.get d) = _
  rw [ho]
  show opt' (intsD (ns.map D.int)) .stuck (fun ns => orcR h d (F [.obj 0] ⟨1, [.lst (ns.map D.int)], []⟩)) = _
  rw [intsD_of]
  show orcR h d (F [.obj 0] ⟨1, [.lst (ns.map D.int)], []⟩) = _
  rw [hF]
  unfold orcR
  dsimp only
  rw [h0]
  dsimp only
  rw [intsD_of]
  rfl
theorem orcD_inv {F : List D → Sh → Rs D} {ds : List D} {h : Sh} (hn : orcD F ds h ≠ .stuck) : ∃ (d : Nat) (ns : List Int) (b : Bool) (hs : Sh) (ms : List Int), ds = [.obj d] ∧ h.get d = some (.lst (ns.map D.int)) ∧ F [.obj 0] ⟨1, [.lst (ns.map D.int)], []⟩ = .ok (.bl b) hs ∧ hs.get 0 = some (.lst (ms.map D.int)) := by
  unfold orcD at hn
  split at hn
  · rename_i d
    unfold orcO at hn
    split at hn
    · rename_i xs q
      cases q2 : intsD xs with
      | none => rw [q2] at hn; exact absurd rfl hn
      | some ns =>
        rw [q2] at hn
        have hn : orcR h d (F [.obj 0] ⟨1, [.lst (ns.map D.int)], []⟩) ≠ .stuck := hn
        unfold orcR at hn
        split at hn
        · rename_i b hs q3
          split at hn
          · rename_i ys q4
            cases q5 : intsD ys with
            | none => rw [q5] at hn; exact absurd rfl hn
            | some ms => exact ⟨d, ns, b, hs, ms, rfl, by rw [q, intsD_eq q2], q3, by rw [q4, intsD_eq q5]⟩
          · exact absurd rfl hn
        · exact absurd rfl hn
    · exact absurd rfl hn
  · exact absurd rfl hn
theorem orc_sp {G : GC} {F : List D → Sh → Rs D} (vs : List V) (H : Hp) (Q : VK) (E : XK) (q : spF G (orcD F) vs H Q E) : spF G F vs H Q E := by
  obtain ⟨P, h, ds, s, r, e⟩ := q
  have hn : orcD F ds h ≠ .stuck := fun z => by rw [z] at e; exact e.elim
  obtain ⟨d, ns, b, hs, ms, rfl, ho, hF, h0⟩ := orcD_inv hn
  rw [orcD_ok ho hF h0] at e
  obtain ⟨v, vs', e1, ⟨a, e2, ha⟩, e3⟩ := r
  have e3 : vs' = [] := e3
  subst e1 e2 e3
  refine ⟨⟨[a], P.Z⟩, ⟨1, [.lst (ns.map D.int)], []⟩, [.obj 0], small_sr s ha ho, ⟨_, [], rfl, ⟨a, rfl, rfl⟩, rfl⟩, ?_⟩
  rw [hF]
  intro Ps H' x s' v rv
  obtain ⟨ex, s2⟩ := back_small s ha x s' h0
  exact e _ _ ex s2 v rv
/-- some defs so -/
noncomputable def orcC (cl : Cl) (fs : Nat → Bool) : Cl := ⟨cl.n, fun f ds h => bif' (fs f) (orcD (cl.f f) ds h) (cl.f f ds h), cl.l⟩
section
variable {G : GC} {B : Tb} {Pr : Program} {w : World} {K : PySem.W.Frag} {mg : Str → Option Value} {base : Heap} {cl : Cl} {k : Nat} {gl : List (Str × Gk)} {fr att : List Str} {fs : Nat → Bool}
theorem FdB.orc {f : Nat} (x : FdB G Pr w K mg base cl k f) : FdB G Pr w K mg base (orcC cl fs) k f := by
  obtain ⟨fd, ps, h1, h2, h3⟩ := x
  refine ⟨fd, ps, h1.imp fun vs H Q E q => ?_, h2, h3⟩
  have e : (orcC cl fs).f f = bif' (fs f) (orcD (cl.f f)) (cl.f f) := by
    funext ds h
    show bif' (fs f) (orcD (cl.f f) ds h) (cl.f f ds h) = _
    cases fs f <;> rfl
  rw [e] at q
  cases c : fs f with
  | true => rw [c] at q; exact orc_sp vs H Q E q
  | false => rw [c] at q; exact q
theorem Glb.orc (g : Glb G B Pr w K mg base cl k gl fr att) : Glb G B Pr w K mg base (orcC cl fs) k gl fr att := by
  refine ⟨g.ok, g.hK, fun x y e => ?_, g.efr, g.lsz, g.eatt, fun m c f e => (g.meth m c f e).orc, fun f fd e => (g.fs f fd e).orc, g.lo, g.lamG⟩
  have z := g.egl x y e
  cases y with
  | fn f _ => exact ⟨z.1, z.2.orc⟩
  | cls kk f _ => exact ⟨z.1, z.2.1, z.2.2.orc⟩
  | con d => exact z
end
end Pv
end
section
set_option Elab.async false
set_option linter.all false
set_option maxRecDepth 100000
set_option maxHeartbeats 4000000
set_option autoImplicit false
/-! a call that is given plain data and gives plain data may be run on an empty heap. -/
namespace Pv
open PySem L2 PySem.Spec PyProof.Rows PySem.W
section
variable {G : GC} {P P' Ps : Pl} {H H' : Hp} {h hs : Sh} {a : Addr}
/-- what says nothing about our objects -/
theorem plain_R (zz : ∀ a, P.Z a → P'.Z a) : ∀ (n : Nat) (d : D) (v : V), plain n d = true → R G P H d v → R G P' H d v
  | n, .non, v, _, r => r
  | n, .bl _, v, _, r => r
  | n, .int _, v, _, r => r
  | n, .str _, v, _, r => r
  | 0, .tup _, v, e, r => by cases e
  | 0, .vls _, v, e, r => by cases e
  | n, .tmp _, v, _, r => r.elim
  | n, .tmd _ _, v, _, r => r.elim
  | n, .vdc _ _, v, e, r => by cases n <;> cases e
  | n, .obj _, v, e, r => by cases n <;> cases e
  | n, .gl _, v, _, r => r
  | n, .kdc _ _ _, v, e, r => by cases n <;> cases e
  | n + 1, .tup ds, v, e, r => by
    obtain ⟨a, xs, e1, e2, e3⟩ := r
    exact ⟨a, xs, e1, e2, plain_RL zz n ds xs e e3⟩
  | n + 1, .vls ds, v, e, r => by
    obtain ⟨a, xs, e1, z, e2, e3⟩ := r
    exact ⟨a, xs, e1, zz a z, e2, plain_RL zz n ds xs e e3⟩
where
  plain_RL (zz : ∀ a, P.Z a → P'.Z a) (n : Nat) : ∀ (ds : List D) (vs : List V), allB (plain n) ds = true → RL G P H ds vs → RL G P' H ds vs
  | [], vs, _, r => r
  | d :: ds, vs, e, r => by
    obtain ⟨x, xs, e1, r1, r2⟩ := r
    have e : bif' (plain n d) (allB (plain n) ds) false = true := e
    cases c : plain n d with
    | false => rw [c] at e; cases e
    | true =>
      rw [c] at e
      exact ⟨x, xs, e1, plain_R zz n d x c r1, plain_RL zz n ds xs e r2⟩
theorem pure_sr (s : SR G P H h) : SR G ⟨[], P.Z⟩ H ⟨0, [], []⟩ :=
  ⟨by simp, rfl, rfl, fun n o e => (Nat.not_lt_zero n (Sh.get_lt e)).elim, fun b z => ⟨by simp, (s.zed b z).2⟩, s.tab, fun x m => by cases m⟩
theorem back_pure (s : SR G P H h) (x : Ext ⟨[], P.Z⟩ H Ps H') (s' : SR G Ps H' hs) : Ext P H ⟨P.A, Ps.Z⟩ H' ∧ SR G ⟨P.A, Ps.Z⟩ H' h := by
  have wx : WExt P H ⟨P.A, Ps.Z⟩ H' := ⟨⟨[], by simp⟩, x.zz, x.kz, x.xx, x.tup, x.frz⟩
  have ex : Ext P H ⟨P.A, Ps.Z⟩ H' := ⟨wx, fun _ z => .inl z, x.fz, x.dom, fun b o e n t => x.keep b o e (by simp) t⟩
  refine ⟨ex, s.nd, s.wf, s.len, fun m o2 e => ?_, fun b z => ⟨?_, (s'.zed b z).2⟩, s'.tab, s.cloExt wx⟩
  · obtain ⟨b, h1, h2⟩ := s.obj m o2 e
    obtain ⟨u, q, nt⟩ := or_nt h2
    exact ⟨b, h1, h2.ext wx (by rw [x.keep b u q (by simp) nt, q])⟩
  · rcases x.fz b z with z2 | z2
    · exact (s.zed b z2).1
    · intro m
      obtain ⟨u, q⟩ := s.there m
      rw [z2] at q; cases q
end
noncomputable def pureR (F : List D → Sh → Rs D) (ds : List D) (h : Sh) (r : Rs D) : Rs D := Rs.rec (motive := fun _ => Rs D) (fun d _ => bif' (plain 8 d) (.ok d h) (F ds h)) (fun _ _ => F ds h) (F ds h) r
noncomputable def pureD (F : List D → Sh → Rs D) (ds : List D) (h : Sh) : Rs D := bif' (allB (plain 8) ds) (pureR F ds h (F ds ⟨0, [], []⟩)) (F ds h)
theorem pure_sp {G : GC} {F : List D → Sh → Rs D} (vs : List V) (H : Hp) (Q : VK) (E : XK) (q : spF G (pureD F) vs H Q E) : spF G F vs H Q E := by
  obtain ⟨P, h, ds, s, r, e⟩ := q
  have e : ERes G (EW E) [] P H (bif' (allB (plain 8) ds) (pureR F ds h (F ds ⟨0, [], []⟩)) (F ds h)) (fun d _ P' H' => ∀ v, RT G P' H' H d v → Q v H') := e
  cases c : allB (plain 8) ds with
  | false => rw [c] at e; exact ⟨P, h, ds, s, r, e⟩
  | true =>
    rw [c] at e
    have e : ERes G (EW E) [] P H (pureR F ds h (F ds ⟨0, [], []⟩)) (fun d _ P' H' => ∀ v, RT G P' H' H d v → Q v H') := e
    cases k : F ds ⟨0, [], []⟩ with
    | stuck => rw [k] at e; exact ⟨P, h, ds, s, r, e⟩
    | exc x y => rw [k] at e; exact ⟨P, h, ds, s, r, e⟩
    | ok d hs =>
      rw [k] at e
      have e : ERes G (EW E) [] P H (bif' (plain 8 d) (.ok d h) (F ds h)) (fun d _ P' H' => ∀ v, RT G P' H' H d v → Q v H') := e
      cases c2 : plain 8 d with
      | false => rw [c2] at e; exact ⟨P, h, ds, s, r, e⟩
      | true =>
        rw [c2] at e
        refine ⟨⟨[], P.Z⟩, ⟨0, [], []⟩, ds, pure_sr s, plain_R.plain_RL (P := P) (P' := ⟨[], P.Z⟩) (fun _ z => z) 8 ds vs c r, ?_⟩
        rw [k]
        intro Ps H' x s' v rv
        obtain ⟨ex, s2⟩ := back_pure s x s'
        refine e _ _ ex s2 v ?_
        cases d with
        | tmp xs =>
          obtain ⟨p, e1, e2, e3, e4, ys, e5, e6⟩ := rv
          exact ⟨p, e1, e2, s.free e2, e4, ys, e5, plain_R.plain_RL (P := Ps) (P' := ⟨P.A, Ps.Z⟩) (fun _ z => z) 7 xs ys c2 e6⟩
        | tmd ks xs => cases c2
        | _ => exact plain_R (P := Ps) (P' := ⟨P.A, Ps.Z⟩) (fun _ z => z) 8 _ v c2 rv
/-- some defs so -/
noncomputable def pureC (cl : Cl) (fs : Nat → Bool) : Cl := ⟨cl.n, fun f ds h => bif' (fs f) (pureD (cl.f f) ds h) (cl.f f ds h), cl.l⟩
section
variable {G : GC} {B : Tb} {Pr : Program} {w : World} {K : PySem.W.Frag} {mg : Str → Option Value} {base : Heap} {cl : Cl} {k : Nat} {gl : List (Str × Gk)} {fr att : List Str} {fs : Nat → Bool}
theorem FdB.pure {f : Nat} (x : FdB G Pr w K mg base cl k f) : FdB G Pr w K mg base (pureC cl fs) k f := by
  obtain ⟨fd, ps, h1, h2, h3⟩ := x
  refine ⟨fd, ps, h1.imp fun vs H Q E q => ?_, h2, h3⟩
  have e : (pureC cl fs).f f = bif' (fs f) (pureD (cl.f f)) (cl.f f) := by
    funext ds h
    show bif' (fs f) (pureD (cl.f f) ds h) (cl.f f ds h) = _
    cases fs f <;> rfl
  rw [e] at q
  cases c : fs f with
  | true => rw [c] at q; exact pure_sp vs H Q E q
  | false => rw [c] at q; exact q
theorem Glb.pure (g : Glb G B Pr w K mg base cl k gl fr att) : Glb G B Pr w K mg base (pureC cl fs) k gl fr att := by
  refine ⟨g.ok, g.hK, fun x y e => ?_, g.efr, g.lsz, g.eatt, fun m c f e => (g.meth m c f e).pure, fun f fd e => (g.fs f fd e).pure, g.lo, g.lamG⟩
  have z := g.egl x y e
  cases y with
  | fn f _ => exact ⟨z.1, z.2.pure⟩
  | cls kk f _ => exact ⟨z.1, z.2.1, z.2.2.pure⟩
  | con d => exact z
end
end Pv
end
section
open PySem Pv
set_option Elab.async false
set_option linter.all false
set_option maxRecDepth 100000
set_option autoImplicit false
namespace Lw
def top (i : Nat) : Stmt := PySem.Challenge.pw_diskdoubt_k91_closed_sums_of_asks.main.body.getD i (.Pass ⟨0, 0, 0, 0⟩)
def clsB : Stmt → List Stmt
  | .ClassDef (body := b) .. => b
  | _ => []
def cls (i j : Nat) : Stmt := (clsB (top i)).getD j (.Pass ⟨0, 0, 0, 0⟩)
def gls : List (Str × Gk) := [((⟨#[105, 115, 95, 105, 110, 116, 101, 103, 101, 114]⟩ : Str), Gk.fn 0 1),
  ((⟨#[105, 115, 95, 99, 111, 117, 110, 116]⟩ : Str), Gk.fn 1 3),
  ((⟨#[105, 115, 95, 97, 115, 99, 101, 110, 100, 105, 110, 103]⟩ : Str), Gk.fn 2 1),
  ((⟨#[77, 79, 83, 84, 95, 80, 76, 65, 67, 69, 83]⟩ : Str), Gk.con (.int 200)),
  ((⟨#[77, 79, 83, 84, 95, 87, 79, 82, 84, 72, 83]⟩ : Str), Gk.con (.int 1000000000000000000000000000000)),
  ((⟨#[77, 79, 83, 84, 95, 84, 73, 77, 69, 83]⟩ : Str), Gk.con (.int 20000)),
  ((⟨#[105, 115, 95, 112, 108, 97, 105, 110, 95, 98, 111, 117, 110, 100, 115]⟩ : Str), Gk.fn 3 1),
  ((⟨#[114, 101, 113, 117, 105, 114, 101, 95, 98, 111, 117, 110, 100, 115]⟩ : Str), Gk.fn 4 1),
  ((⟨#[82, 69, 65, 68]⟩ : Str), Gk.con (.str (⟨#[114, 101, 97, 100]⟩ : Str))),
  ((⟨#[87, 82, 73, 84, 69]⟩ : Str), Gk.con (.str (⟨#[119, 114, 105, 116, 101]⟩ : Str))),
  ((⟨#[83, 73, 90, 69, 83]⟩ : Str), Gk.con (.kdc 74 [.str (⟨#[114, 101, 97, 100]⟩ : Str), .str (⟨#[119, 114, 105, 116, 101]⟩ : Str)] [.int 2, .int 3])),
  ((⟨#[105, 115, 95, 119, 105, 116, 104, 105, 110]⟩ : Str), Gk.fn 5 2),
  ((⟨#[105, 115, 95, 119, 111, 114, 116, 104]⟩ : Str), Gk.fn 6 2),
  ((⟨#[105, 115, 95, 100, 101, 101, 100, 95, 98, 121]⟩ : Str), Gk.fn 7 2),
  ((⟨#[114, 101, 113, 117, 105, 114, 101, 95, 102, 114, 111, 109, 95, 111, 110, 101]⟩ : Str), Gk.fn 8 1),
  ((⟨#[97, 115, 107, 115, 95, 111, 102]⟩ : Str), Gk.fn 9 3),
  ((⟨#[108, 101, 97, 115, 116, 95, 115, 116, 114, 101, 116, 99, 104]⟩ : Str), Gk.fn 10 3),
  ((⟨#[84, 65, 75, 69]⟩ : Str), Gk.con (.str (⟨#[116, 97, 107, 101]⟩ : Str))),
  ((⟨#[80, 85, 84]⟩ : Str), Gk.con (.str (⟨#[112, 117, 116]⟩ : Str))),
  ((⟨#[114, 101, 113, 117, 105, 114, 101, 95, 115, 105, 122, 101]⟩ : Str), Gk.fn 11 1),
  ((⟨#[114, 101, 113, 117, 105, 114, 101, 95, 115, 104, 101, 108, 102]⟩ : Str), Gk.fn 12 3),
  ((⟨#[114, 101, 113, 117, 105, 114, 101, 95, 100, 101, 101, 100, 115, 95, 111, 102]⟩ : Str), Gk.fn 13 3),
  ((⟨#[72, 97, 110, 100]⟩ : Str), Gk.cls 73 14 2),
  ((⟨#[99, 104, 111, 115, 101, 110]⟩ : Str), Gk.fn 21 3),
  ((⟨#[105, 115, 95, 112, 108, 97, 105, 110, 95, 99, 104, 111, 105, 99, 101]⟩ : Str), Gk.fn 22 3),
  ((⟨#[114, 101, 113, 117, 105, 114, 101, 95, 99, 104, 111, 105, 99, 101]⟩ : Str), Gk.fn 23 3),
  ((⟨#[97, 115, 107, 115, 95, 98, 121]⟩ : Str), Gk.fn 24 3),
  ((⟨#[99, 111, 117, 110, 116, 95, 116, 97, 107, 101, 115]⟩ : Str), Gk.fn 25 3),
  ((⟨#[102, 101, 116, 99, 104, 101, 115]⟩ : Str), Gk.fn 26 4),
  ((⟨#[102, 105, 114, 115, 116, 95, 105, 110]⟩ : Str), Gk.fn 27 3),
  ((⟨#[108, 111, 110, 103, 95, 97, 103, 111]⟩ : Str), Gk.fn 28 3),
  ((⟨#[77, 79, 83, 84, 95, 77, 79, 77, 69, 78, 84, 83]⟩ : Str), Gk.con (.int 200)),
  ((⟨#[114, 101, 113, 117, 105, 114, 101, 95, 114, 111, 119]⟩ : Str), Gk.fn 29 1),
  ((⟨#[114, 101, 113, 117, 105, 114, 101, 95, 98, 111, 116, 104]⟩ : Str), Gk.fn 30 2),
  ((⟨#[100, 101, 101, 100, 115, 95, 98, 121]⟩ : Str), Gk.fn 31 1),
  ((⟨#[103, 97, 112, 115, 95, 98, 121]⟩ : Str), Gk.fn 32 1),
  ((⟨#[103, 97, 112, 115, 95, 111, 102]⟩ : Str), Gk.fn 33 1),
  ((⟨#[111, 118, 101, 114]⟩ : Str), Gk.fn 34 2),
  ((⟨#[116, 111, 111, 95, 102, 117, 108, 108]⟩ : Str), Gk.fn 35 3),
  ((⟨#[114, 101, 113, 117, 105, 114, 101, 95, 103, 97, 112, 115]⟩ : Str), Gk.fn 36 2),
  ((⟨#[105, 115, 95, 103, 97, 112]⟩ : Str), Gk.fn 37 1),
  ((⟨#[102, 114, 101, 101, 95, 99, 104, 111, 105, 99, 101]⟩ : Str), Gk.fn 38 4),
  ((⟨#[99, 104, 111, 105, 99, 101, 115, 95, 102, 111, 114]⟩ : Str), Gk.fn 39 3),
  ((⟨#[114, 101, 113, 117, 105, 114, 101, 95, 99, 104, 111, 105, 99, 101, 115]⟩ : Str), Gk.fn 40 3),
  ((⟨#[107, 101, 112, 116, 95, 103, 97, 112, 115]⟩ : Str), Gk.fn 41 3),
  ((⟨#[107, 101, 112, 116, 95, 98, 121]⟩ : Str), Gk.fn 42 3),
  ((⟨#[97, 115, 107, 101, 100, 95, 110, 101, 120, 116]⟩ : Str), Gk.fn 43 3),
  ((⟨#[108, 97, 115, 116, 95, 111, 102, 95, 97, 108, 108]⟩ : Str), Gk.fn 44 3),
  ((⟨#[102, 97, 114, 116, 104, 101, 115, 116, 95, 98, 121]⟩ : Str), Gk.fn 45 2),
  ((⟨#[102, 97, 114, 116, 104, 101, 115, 116]⟩ : Str), Gk.fn 46 2),
  ((⟨#[109, 111, 115, 116, 95, 98, 121]⟩ : Str), Gk.fn 47 2),
  ((⟨#[102, 101, 119, 101, 115, 116]⟩ : Str), Gk.fn 48 2),
  ((⟨#[109, 111, 115, 116, 95, 107, 101, 112, 116]⟩ : Str), Gk.fn 49 2),
  ((⟨#[97, 114, 101, 95, 109, 111, 109, 101, 110, 116, 115]⟩ : Str), Gk.fn 50 2),
  ((⟨#[115, 104, 111, 119, 110, 95, 109, 97, 110, 121]⟩ : Str), Gk.fn 51 3),
  ((⟨#[115, 104, 111, 119, 110, 95, 98, 121]⟩ : Str), Gk.fn 52 3),
  ((⟨#[102, 114, 101, 101, 95, 97, 104, 101, 97, 100]⟩ : Str), Gk.fn 53 2),
  ((⟨#[98, 101, 115, 116, 95, 109, 111, 109, 101, 110, 116, 115]⟩ : Str), Gk.fn 54 2),
  ((⟨#[112, 97, 112, 101, 114, 95, 98, 121]⟩ : Str), Gk.fn 55 2),
  ((⟨#[102, 101, 119, 101, 115, 116, 95, 112, 97, 112, 101, 114]⟩ : Str), Gk.fn 56 2),
  ((⟨#[105, 115, 95, 102, 101, 119, 101, 115, 116, 95, 112, 97, 112, 101, 114]⟩ : Str), Gk.fn 57 3),
  ((⟨#[102, 101, 119, 101, 115, 116, 95, 114, 105, 115, 101, 115]⟩ : Str), Gk.fn 58 1),
  ((⟨#[95, 108, 97, 119, 95, 100, 105, 99, 101]⟩ : Str), Gk.fn 59 2),
  ((⟨#[95, 108, 97, 119, 95, 114, 111, 108, 108]⟩ : Str), Gk.fn 60 2),
  ((⟨#[95, 108, 97, 119, 95, 112, 105, 99, 107]⟩ : Str), Gk.fn 61 2),
  ((⟨#[95, 108, 97, 119, 95, 115, 117, 109, 115, 95, 114, 105, 103, 104, 116]⟩ : Str), Gk.fn 62 1),
  ((⟨#[95, 108, 97, 119, 95, 114, 111, 117, 110, 100, 95, 114, 105, 103, 104, 116]⟩ : Str), Gk.fn 63 1),
  ((⟨#[95, 108, 97, 119, 95, 115, 116, 105, 108, 108, 95, 114, 105, 103, 104, 116]⟩ : Str), Gk.fn 64 1),
  ((⟨#[108, 97, 119]⟩ : Str), Gk.fn 65 1)]
def frs : List Str := [(⟨#[65, 114, 105, 116, 104, 109, 101, 116, 105, 99, 69, 114, 114, 111, 114]⟩ : Str), (⟨#[73, 110, 100, 101, 120, 69, 114, 114, 111, 114]⟩ : Str), (⟨#[86, 97, 108, 117, 101, 69, 114, 114, 111, 114]⟩ : Str), (⟨#[97, 98, 115]⟩ : Str), (⟨#[97, 108, 108]⟩ : Str), (⟨#[97, 110, 121]⟩ : Str), (⟨#[98, 111, 111, 108]⟩ : Str), (⟨#[100, 105, 118, 109, 111, 100]⟩ : Str), (⟨#[101, 110, 117, 109, 101, 114, 97, 116, 101]⟩ : Str), (⟨#[105, 110, 116]⟩ : Str), (⟨#[105, 115, 105, 110, 115, 116, 97, 110, 99, 101]⟩ : Str), (⟨#[108, 101, 110]⟩ : Str), (⟨#[109, 97, 120]⟩ : Str), (⟨#[109, 105, 110]⟩ : Str), (⟨#[114, 97, 110, 103, 101]⟩ : Str), (⟨#[115, 111, 114, 116, 101, 100]⟩ : Str), (⟨#[115, 116, 114]⟩ : Str), (⟨#[115, 117, 112, 101, 114]⟩ : Str), (⟨#[116, 117, 112, 108, 101]⟩ : Str), (⟨#[122, 105, 112]⟩ : Str)]
def atts : List Str := [(⟨#[103, 105, 118, 101, 110]⟩ : Str), (⟨#[114, 101, 97, 115, 111, 110]⟩ : Str), (⟨#[111, 119, 110, 95, 115, 105, 122, 101]⟩ : Str), (⟨#[111, 119, 110, 95, 102, 101, 116, 99, 104, 101, 100]⟩ : Str), (⟨#[111, 119, 110, 95, 97, 115, 107, 101, 100]⟩ : Str), (⟨#[97, 115, 107]⟩ : Str), (⟨#[104, 97, 115]⟩ : Str), (⟨#[105, 115, 95, 102, 117, 108, 108]⟩ : Str), (⟨#[108, 101, 97, 118, 101]⟩ : Str), (⟨#[101, 108, 100, 101, 115, 116]⟩ : Str), (⟨#[108, 101, 97, 115, 116, 95, 97, 115, 107, 101, 100]⟩ : Str)]
/-- is_integer -/
abbrev st0 : Stmt := top 9
def ct0 : Ct := ⟨[(⟨#[118, 97, 108, 117, 101]⟩ : Str)], L2.defScope st0, gls, frs, [], atts, false⟩
/-- is_count -/
abbrev st1 : Stmt := top 10
def ct1 : Ct := ⟨[(⟨#[118, 97, 108, 117, 101]⟩ : Str), (⟨#[108, 101, 97, 115, 116]⟩ : Str), (⟨#[109, 111, 115, 116]⟩ : Str)], L2.defScope st1, gls, frs, [], atts, false⟩
/-- is_ascending -/
abbrev st2 : Stmt := top 11
def ct2 : Ct := ⟨[(⟨#[114, 111, 119]⟩ : Str), (⟨#[111, 110, 101]⟩ : Str), (⟨#[111, 116, 104, 101, 114]⟩ : Str)], L2.defScope st2, gls, frs, [], atts, false⟩
/-- is_plain_bounds -/
abbrev st3 : Stmt := top 16
def ct3 : Ct := ⟨[(⟨#[118, 97, 108, 117, 101]⟩ : Str), (⟨#[111, 110, 101]⟩ : Str), (⟨#[109, 111, 115, 116]⟩ : Str)], L2.defScope st3, gls, frs, [], atts, false⟩
/-- require_bounds -/
abbrev st4 : Stmt := top 17
def ct4 : Ct := ⟨[(⟨#[98, 111, 117, 110, 100, 115]⟩ : Str)], L2.defScope st4, gls, frs, [], atts, false⟩
/-- is_within -/
abbrev st5 : Stmt := top 22
def ct5 : Ct := ⟨[(⟨#[118, 97, 108, 117, 101]⟩ : Str), (⟨#[98, 111, 117, 110, 100]⟩ : Str)], L2.defScope st5, gls, frs, [], atts, false⟩
/-- is_worth -/
abbrev st6 : Stmt := top 23
def ct6 : Ct := ⟨[(⟨#[98, 111, 117, 110, 100, 115]⟩ : Str), (⟨#[118, 97, 108, 117, 101]⟩ : Str)], L2.defScope st6, gls, frs, [], atts, false⟩
/-- is_deed_by -/
abbrev st7 : Stmt := top 24
def ct7 : Ct := ⟨[(⟨#[98, 111, 117, 110, 100, 115]⟩ : Str), (⟨#[118, 97, 108, 117, 101]⟩ : Str)], L2.defScope st7, gls, frs, [], atts, false⟩
/-- require_from_one -/
abbrev st8 : Stmt := top 26
def ct8 : Ct := ⟨[(⟨#[118, 97, 108, 117, 101]⟩ : Str)], L2.defScope st8, gls, frs, [], atts, false⟩
/-- asks_of -/
abbrev st9 : Stmt := top 27
def ct9 : Ct := ⟨[(⟨#[112, 108, 97, 99, 101, 115]⟩ : Str), (⟨#[100, 101, 101, 100, 115]⟩ : Str), (⟨#[115, 116, 114, 101, 116, 99, 104]⟩ : Str), (⟨#[118, 97, 108, 117, 101]⟩ : Str)], L2.defScope st9, gls, frs, [], atts, false⟩
/-- least_stretch -/
abbrev st10 : Stmt := top 28
def ct10 : Ct := ⟨[(⟨#[112, 108, 97, 99, 101, 115]⟩ : Str), (⟨#[100, 101, 101, 100, 115]⟩ : Str), (⟨#[109, 111, 115, 116]⟩ : Str), (⟨#[118, 97, 108, 117, 101]⟩ : Str), (⟨#[97, 117, 100, 105, 116, 115]⟩ : Str)], L2.defScope st10, gls, frs, [], atts, false⟩
/-- require_size -/
abbrev st11 : Stmt := top 32
def ct11 : Ct := ⟨[(⟨#[115, 105, 122, 101]⟩ : Str)], L2.defScope st11, gls, frs, [], atts, false⟩
/-- require_shelf -/
abbrev st12 : Stmt := top 33
def ct12 : Ct := ⟨[(⟨#[98, 111, 117, 110, 100, 115]⟩ : Str), (⟨#[115, 105, 122, 101]⟩ : Str), (⟨#[100, 101, 101, 100, 115]⟩ : Str)], L2.defScope st12, gls, frs, [], atts, false⟩
/-- require_deeds_of -/
abbrev st13 : Stmt := top 34
def ct13 : Ct := ⟨[(⟨#[98, 111, 117, 110, 100, 115]⟩ : Str), (⟨#[115, 105, 122, 101]⟩ : Str), (⟨#[100, 101, 101, 100, 115]⟩ : Str), (⟨#[100, 101, 101, 100]⟩ : Str)], L2.defScope st13, gls, frs, [], atts, false⟩
/-- Hand.__init__ -/
abbrev st14 : Stmt := cls 35 0
def ct14 : Ct := ⟨[(⟨#[115, 101, 108, 102]⟩ : Str), (⟨#[115, 105, 122, 101]⟩ : Str)], L2.defScope st14, gls, frs, [], atts, false⟩
/-- Hand.is_full -/
abbrev st15 : Stmt := cls 35 1
def ct15 : Ct := ⟨[(⟨#[115, 101, 108, 102]⟩ : Str)], L2.defScope st15, gls, frs, [], atts, false⟩
/-- Hand.has -/
abbrev st16 : Stmt := cls 35 2
def ct16 : Ct := ⟨[(⟨#[115, 101, 108, 102]⟩ : Str), (⟨#[112, 108, 97, 99, 101]⟩ : Str)], L2.defScope st16, gls, frs, [], atts, false⟩
/-- Hand.leave -/
abbrev st17 : Stmt := cls 35 3
def ct17 : Ct := ⟨[(⟨#[115, 101, 108, 102]⟩ : Str), (⟨#[112, 108, 97, 99, 101]⟩ : Str)], L2.defScope st17, gls, frs, [], atts, false⟩
/-- Hand.ask -/
abbrev st18 : Stmt := cls 35 4
def ct18 : Ct := ⟨[(⟨#[115, 101, 108, 102]⟩ : Str), (⟨#[112, 108, 97, 99, 101]⟩ : Str), (⟨#[109, 111, 109, 101, 110, 116]⟩ : Str)], L2.defScope st18, gls, frs, [], atts, false⟩
/-- Hand.eldest -/
abbrev st19 : Stmt := cls 35 5
def ct19 : Ct := ⟨[(⟨#[115, 101, 108, 102]⟩ : Str)], L2.defScope st19, gls, frs, [], atts, false⟩
/-- Hand.least_asked -/
abbrev st20 : Stmt := cls 35 6
def ct20 : Ct := ⟨[(⟨#[115, 101, 108, 102]⟩ : Str), (⟨#[112, 108, 97, 99, 101]⟩ : Str)], L2.defScope st20, gls, frs, [], atts, false⟩
/-- chosen -/
abbrev st21 : Stmt := top 36
def ct21 : Ct := ⟨[(⟨#[115, 105, 122, 101]⟩ : Str), (⟨#[100, 101, 101, 100, 115]⟩ : Str), (⟨#[99, 104, 111, 111, 115, 101]⟩ : Str), (⟨#[104, 97, 110, 100]⟩ : Str), (⟨#[102, 111, 117, 110, 100]⟩ : Str), (⟨#[109, 111, 109, 101, 110, 116]⟩ : Str), (⟨#[100, 101, 101, 100]⟩ : Str), (⟨#[112, 108, 97, 99, 101]⟩ : Str)], L2.defScope st21, gls, frs, [4], atts, false⟩
/-- is_plain_choice -/
abbrev st22 : Stmt := top 37
def ct22 : Ct := ⟨[(⟨#[115, 105, 122, 101]⟩ : Str), (⟨#[100, 101, 101, 100, 115]⟩ : Str), (⟨#[118, 97, 108, 117, 101]⟩ : Str), (⟨#[111, 110, 101]⟩ : Str), (⟨#[104, 97, 110, 100]⟩ : Str), (⟨#[117, 115, 101, 100]⟩ : Str), (⟨#[109, 111, 109, 101, 110, 116]⟩ : Str), (⟨#[100, 101, 101, 100]⟩ : Str)], L2.defScope st22, gls, frs, [], atts, false⟩
/-- require_choice -/
abbrev st23 : Stmt := top 38
def ct23 : Ct := ⟨[(⟨#[115, 105, 122, 101]⟩ : Str), (⟨#[100, 101, 101, 100, 115]⟩ : Str), (⟨#[99, 104, 111, 105, 99, 101, 115]⟩ : Str)], L2.defScope st23, gls, frs, [], atts, false⟩
/-- asks_by -/
abbrev st24 : Stmt := top 39
def ct24 : Ct := ⟨[(⟨#[115, 105, 122, 101]⟩ : Str), (⟨#[100, 101, 101, 100, 115]⟩ : Str), (⟨#[99, 104, 111, 105, 99, 101, 115]⟩ : Str), (⟨#[104, 97, 110, 100]⟩ : Str), (⟨#[102, 111, 117, 110, 100]⟩ : Str), (⟨#[117, 115, 101, 100]⟩ : Str), (⟨#[109, 111, 109, 101, 110, 116]⟩ : Str), (⟨#[100, 101, 101, 100]⟩ : Str), (⟨#[112, 108, 97, 99, 101]⟩ : Str)], L2.defScope st24, gls, frs, [4], atts, false⟩
/-- count_takes -/
abbrev st25 : Stmt := top 40
def ct25 : Ct := ⟨[(⟨#[115, 105, 122, 101]⟩ : Str), (⟨#[100, 101, 101, 100, 115]⟩ : Str), (⟨#[99, 104, 111, 105, 99, 101, 115]⟩ : Str), (⟨#[97, 115, 107]⟩ : Str)], L2.defScope st25, gls, frs, [], atts, false⟩
/-- fetches -/
abbrev st26 : Stmt := top 41
def ct26 : Ct := ⟨[(⟨#[98, 111, 117, 110, 100, 115]⟩ : Str), (⟨#[115, 105, 122, 101]⟩ : Str), (⟨#[100, 101, 101, 100, 115]⟩ : Str), (⟨#[99, 104, 111, 105, 99, 101, 115]⟩ : Str)], L2.defScope st26, gls, frs, [], atts, false⟩
/-- first_in -/
abbrev st27 : Stmt := top 42
def ct27 : Ct := ⟨[(⟨#[98, 111, 117, 110, 100, 115]⟩ : Str), (⟨#[115, 105, 122, 101]⟩ : Str), (⟨#[100, 101, 101, 100, 115]⟩ : Str)], L2.defScope st27, gls, frs, [], atts, true⟩
/-- long_ago -/
abbrev st28 : Stmt := top 43
def ct28 : Ct := ⟨[(⟨#[98, 111, 117, 110, 100, 115]⟩ : Str), (⟨#[115, 105, 122, 101]⟩ : Str), (⟨#[100, 101, 101, 100, 115]⟩ : Str)], L2.defScope st28, gls, frs, [], atts, true⟩
/-- require_row -/
abbrev st29 : Stmt := top 46
def ct29 : Ct := ⟨[(⟨#[114, 111, 119]⟩ : Str), (⟨#[111, 110, 101]⟩ : Str)], L2.defScope st29, gls, frs, [], atts, false⟩
/-- require_both -/
abbrev st30 : Stmt := top 47
def ct30 : Ct := ⟨[(⟨#[115, 105, 122, 101]⟩ : Str), (⟨#[114, 111, 119]⟩ : Str)], L2.defScope st30, gls, frs, [], atts, false⟩
/-- deeds_by -/
abbrev st31 : Stmt := top 48
def ct31 : Ct := ⟨[(⟨#[114, 111, 119]⟩ : Str), (⟨#[112, 108, 97, 99, 101]⟩ : Str)], L2.defScope st31, gls, frs, [], atts, false⟩
/-- gaps_by -/
abbrev st32 : Stmt := top 49
def ct32 : Ct := ⟨[(⟨#[114, 111, 119]⟩ : Str), (⟨#[108, 97, 115, 116]⟩ : Str), (⟨#[102, 111, 117, 110, 100]⟩ : Str), (⟨#[109, 111, 109, 101, 110, 116]⟩ : Str), (⟨#[112, 108, 97, 99, 101]⟩ : Str)], L2.defScope st32, gls, frs, [1, 2], atts, false⟩
/-- gaps_of -/
abbrev st33 : Stmt := top 50
def ct33 : Ct := ⟨[(⟨#[114, 111, 119]⟩ : Str)], L2.defScope st33, gls, frs, [], atts, false⟩
/-- over -/
abbrev st34 : Stmt := top 51
def ct34 : Ct := ⟨[(⟨#[103, 97, 112]⟩ : Str), (⟨#[109, 111, 109, 101, 110, 116]⟩ : Str)], L2.defScope st34, gls, frs, [], atts, false⟩
/-- too_full -/
abbrev st35 : Stmt := top 52
def ct35 : Ct := ⟨[(⟨#[115, 105, 122, 101]⟩ : Str), (⟨#[114, 111, 119]⟩ : Str), (⟨#[103, 97, 112, 115]⟩ : Str), (⟨#[109, 111, 109, 101, 110, 116]⟩ : Str), (⟨#[103, 97, 112]⟩ : Str)], L2.defScope st35, gls, frs, [], atts, false⟩
/-- require_gaps -/
abbrev st36 : Stmt := top 53
def ct36 : Ct := ⟨[(⟨#[114, 111, 119]⟩ : Str), (⟨#[103, 97, 112, 115]⟩ : Str), (⟨#[101, 118, 101, 114, 121]⟩ : Str), (⟨#[111, 110, 101]⟩ : Str), (⟨#[103, 97, 112]⟩ : Str)], L2.defScope st36, gls, frs, [], atts, false⟩
/-- is_gap -/
abbrev st37 : Stmt := top 54
def ct37 : Ct := ⟨[(⟨#[118, 97, 108, 117, 101]⟩ : Str)], L2.defScope st37, gls, frs, [], atts, false⟩
/-- free_choice -/
abbrev st38 : Stmt := top 55
def ct38 : Ct := ⟨[(⟨#[104, 97, 110, 100]⟩ : Str), (⟨#[109, 111, 109, 101, 110, 116]⟩ : Str), (⟨#[103, 97, 112, 115]⟩ : Str), (⟨#[114, 111, 119]⟩ : Str), (⟨#[104, 101, 108, 100]⟩ : Str), (⟨#[103, 97, 112]⟩ : Str), (⟨#[112, 108, 97, 99, 101]⟩ : Str)], L2.defScope st38, gls, frs, [], atts, false⟩
/-- choices_for -/
abbrev st39 : Stmt := top 56
def ct39 : Ct := ⟨[(⟨#[115, 105, 122, 101]⟩ : Str), (⟨#[114, 111, 119]⟩ : Str), (⟨#[103, 97, 112, 115]⟩ : Str), (⟨#[109, 111, 109, 101, 110, 116]⟩ : Str)], L2.defScope st39, gls, frs, [], atts, true⟩
/-- require_choices -/
abbrev st40 : Stmt := top 57
def ct40 : Ct := ⟨[(⟨#[115, 105, 122, 101]⟩ : Str), (⟨#[114, 111, 119]⟩ : Str), (⟨#[99, 104, 111, 105, 99, 101, 115]⟩ : Str)], L2.defScope st40, gls, frs, [], atts, false⟩
/-- kept_gaps -/
abbrev st41 : Stmt := top 58
def ct41 : Ct := ⟨[(⟨#[115, 105, 122, 101]⟩ : Str), (⟨#[114, 111, 119]⟩ : Str), (⟨#[99, 104, 111, 105, 99, 101, 115]⟩ : Str), (⟨#[104, 97, 110, 100]⟩ : Str), (⟨#[102, 111, 117, 110, 100]⟩ : Str), (⟨#[117, 115, 101, 100]⟩ : Str), (⟨#[108, 97, 115, 116]⟩ : Str), (⟨#[109, 111, 109, 101, 110, 116]⟩ : Str), (⟨#[112, 108, 97, 99, 101]⟩ : Str)], L2.defScope st41, gls, frs, [4, 6], atts, false⟩
/-- kept_by -/
abbrev st42 : Stmt := top 59
def ct42 : Ct := ⟨[(⟨#[115, 105, 122, 101]⟩ : Str), (⟨#[114, 111, 119]⟩ : Str), (⟨#[99, 104, 111, 105, 99, 101, 115]⟩ : Str)], L2.defScope st42, gls, frs, [], atts, false⟩
/-- asked_next -/
abbrev st43 : Stmt := top 60
def ct43 : Ct := ⟨[(⟨#[114, 111, 119]⟩ : Str), (⟨#[112, 108, 97, 99, 101]⟩ : Str), (⟨#[109, 111, 109, 101, 110, 116]⟩ : Str), (⟨#[108, 97, 116, 101, 114]⟩ : Str), (⟨#[97, 116]⟩ : Str)], L2.defScope st43, gls, frs, [], atts, false⟩
/-- last_of_all -/
abbrev st44 : Stmt := top 61
def ct44 : Ct := ⟨[(⟨#[104, 97, 110, 100]⟩ : Str), (⟨#[109, 111, 109, 101, 110, 116]⟩ : Str), (⟨#[114, 111, 119]⟩ : Str), (⟨#[112, 108, 97, 99, 101]⟩ : Str)], L2.defScope st44, gls, frs, [], atts, false⟩
/-- farthest_by -/
abbrev st45 : Stmt := top 62
def ct45 : Ct := ⟨[(⟨#[115, 105, 122, 101]⟩ : Str), (⟨#[114, 111, 119]⟩ : Str)], L2.defScope st45, gls, frs, [], atts, true⟩
/-- farthest -/
abbrev st46 : Stmt := top 63
def ct46 : Ct := ⟨[(⟨#[115, 105, 122, 101]⟩ : Str), (⟨#[114, 111, 119]⟩ : Str)], L2.defScope st46, gls, frs, [], atts, false⟩
/-- most_by -/
abbrev st47 : Stmt := top 64
def ct47 : Ct := ⟨[(⟨#[115, 105, 122, 101]⟩ : Str), (⟨#[114, 111, 119]⟩ : Str)], L2.defScope st47, gls, frs, [], atts, false⟩
/-- fewest -/
abbrev st48 : Stmt := top 65
def ct48 : Ct := ⟨[(⟨#[115, 105, 122, 101]⟩ : Str), (⟨#[114, 111, 119]⟩ : Str)], L2.defScope st48, gls, frs, [], atts, false⟩
/-- most_kept -/
abbrev st49 : Stmt := top 66
def ct49 : Ct := ⟨[(⟨#[115, 105, 122, 101]⟩ : Str), (⟨#[114, 111, 119]⟩ : Str)], L2.defScope st49, gls, frs, [], atts, false⟩
/-- are_moments -/
abbrev st50 : Stmt := top 67
def ct50 : Ct := ⟨[(⟨#[114, 111, 119]⟩ : Str), (⟨#[118, 97, 108, 117, 101]⟩ : Str), (⟨#[111, 110, 101]⟩ : Str)], L2.defScope st50, gls, frs, [], atts, false⟩
/-- shown_many -/
abbrev st51 : Stmt := top 68
def ct51 : Ct := ⟨[(⟨#[115, 105, 122, 101]⟩ : Str), (⟨#[114, 111, 119]⟩ : Str), (⟨#[109, 111, 109, 101, 110, 116, 115]⟩ : Str), (⟨#[102, 114, 101, 101]⟩ : Str), (⟨#[103, 97, 112]⟩ : Str), (⟨#[109, 111, 109, 101, 110, 116]⟩ : Str)], L2.defScope st51, gls, frs, [], atts, false⟩
/-- shown_by -/
abbrev st52 : Stmt := top 69
def ct52 : Ct := ⟨[(⟨#[115, 105, 122, 101]⟩ : Str), (⟨#[114, 111, 119]⟩ : Str), (⟨#[109, 111, 109, 101, 110, 116, 115]⟩ : Str)], L2.defScope st52, gls, frs, [], atts, false⟩
/-- free_ahead -/
abbrev st53 : Stmt := top 70
def ct53 : Ct := ⟨[(⟨#[103, 97, 112, 115]⟩ : Str), (⟨#[104, 101, 114, 101]⟩ : Str), (⟨#[98, 101, 103, 105, 110, 115]⟩ : Str), (⟨#[102, 111, 117, 110, 100]⟩ : Str), (⟨#[109, 97, 110, 121]⟩ : Str), (⟨#[103, 97, 112]⟩ : Str), (⟨#[116, 111, 108, 100]⟩ : Str), (⟨#[111, 110, 101]⟩ : Str)], L2.defScope st53, gls, frs, [3, 6], atts, false⟩
/-- best_moments -/
abbrev st54 : Stmt := top 71
def ct54 : Ct := ⟨[(⟨#[115, 105, 122, 101]⟩ : Str), (⟨#[114, 111, 119]⟩ : Str), (⟨#[103, 97, 112, 115]⟩ : Str), (⟨#[109, 97, 110, 121]⟩ : Str), (⟨#[109, 111, 115, 116]⟩ : Str), (⟨#[97, 104, 101, 97, 100]⟩ : Str), (⟨#[104, 101, 114, 101]⟩ : Str), (⟨#[102, 114, 101, 101]⟩ : Str), (⟨#[119, 111, 114, 116, 104]⟩ : Str), (⟨#[111, 110, 101]⟩ : Str), (⟨#[102, 111, 117, 110, 100]⟩ : Str)], L2.defScope st54, gls, frs, [4, 5, 10], atts, false⟩
/-- paper_by -/
abbrev st55 : Stmt := top 72
def ct55 : Ct := ⟨[(⟨#[115, 105, 122, 101]⟩ : Str), (⟨#[114, 111, 119]⟩ : Str)], L2.defScope st55, gls, frs, [], atts, false⟩
/-- fewest_paper -/
abbrev st56 : Stmt := top 73
def ct56 : Ct := ⟨[(⟨#[115, 105, 122, 101]⟩ : Str), (⟨#[114, 111, 119]⟩ : Str)], L2.defScope st56, gls, frs, [], atts, false⟩
/-- is_fewest_paper -/
abbrev st57 : Stmt := top 74
def ct57 : Ct := ⟨[(⟨#[115, 105, 122, 101]⟩ : Str), (⟨#[114, 111, 119]⟩ : Str), (⟨#[118, 97, 108, 117, 101]⟩ : Str)], L2.defScope st57, gls, frs, [], atts, false⟩
/-- fewest_rises -/
abbrev st58 : Stmt := top 75
def ct58 : Ct := ⟨[(⟨#[114, 111, 119]⟩ : Str), (⟨#[109, 97, 110, 121]⟩ : Str), (⟨#[112, 108, 97, 99, 101]⟩ : Str), (⟨#[115, 105, 122, 101]⟩ : Str)], L2.defScope st58, gls, frs, [], atts, false⟩
/-- _law_dice -/
abbrev st59 : Stmt := top 77
def ct59 : Ct := ⟨[(⟨#[115, 99, 114, 105, 112, 116]⟩ : Str), (⟨#[115, 112, 111, 116]⟩ : Str), (⟨#[99, 101, 108, 108]⟩ : Str), (⟨#[103, 114, 101, 97, 116]⟩ : Str), (⟨#[115, 101, 101, 100]⟩ : Str)], L2.defScope st59, gls, frs, [], atts, false⟩
/-- _law_roll -/
abbrev st60 : Stmt := top 78
def ct60 : Ct := ⟨[(⟨#[100, 105, 99, 101]⟩ : Str), (⟨#[116, 111, 116, 97, 108]⟩ : Str), (⟨#[102, 111, 117, 110, 100]⟩ : Str), (⟨#[111, 110, 101]⟩ : Str), (⟨#[116, 119, 111]⟩ : Str)], L2.defScope st60, gls, frs, [0], atts, false⟩
/-- _law_pick -/
abbrev st61 : Stmt := top 79
def ct61 : Ct := ⟨[(⟨#[100, 105, 99, 101]⟩ : Str), (⟨#[116, 104, 105, 110, 103, 115]⟩ : Str)], L2.defScope st61, gls, frs, [0], atts, false⟩
/-- _law_sums_right -/
abbrev st62 : Stmt := top 80
def ct62 : Ct := ⟨[(⟨#[100, 105, 99, 101]⟩ : Str), (⟨#[112, 108, 97, 99, 101, 115]⟩ : Str), (⟨#[100, 101, 101, 100, 115]⟩ : Str), (⟨#[115, 116, 114, 101, 116, 99, 104]⟩ : Str), (⟨#[97, 117, 100, 105, 116, 115]⟩ : Str), (⟨#[109, 111, 115, 116]⟩ : Str), (⟨#[116, 111, 108, 100]⟩ : Str)], L2.defScope st62, gls, frs, [0], atts, false⟩
/-- _law_round_right -/
abbrev st63 : Stmt := top 81
def ct63 : Ct := ⟨[(⟨#[100, 105, 99, 101]⟩ : Str), (⟨#[115, 105, 122, 101]⟩ : Str), (⟨#[114, 111, 117, 110, 100, 115]⟩ : Str), (⟨#[109, 97, 110, 121]⟩ : Str), (⟨#[114, 111, 119]⟩ : Str), (⟨#[97, 116]⟩ : Str), (⟨#[98, 111, 117, 110, 100, 115]⟩ : Str), (⟨#[100, 101, 101, 100, 115]⟩ : Str), (⟨#[112, 108, 97, 99, 101]⟩ : Str), (⟨#[100, 117, 101]⟩ : Str), (⟨#[114, 117, 108, 101]⟩ : Str), (⟨#[103, 97, 112, 115]⟩ : Str), (⟨#[114, 105, 115, 101, 115]⟩ : Str), (⟨#[99, 104, 111, 105, 99, 101, 115]⟩ : Str), (⟨#[109, 111, 109, 101, 110, 116, 115]⟩ : Str)], L2.defScope st63, gls, frs, [0], atts, false⟩
/-- _law_still_right -/
abbrev st64 : Stmt := top 82
def ct64 : Ct := ⟨[(⟨#[100, 105, 99, 101]⟩ : Str), (⟨#[109, 97, 110, 121]⟩ : Str), (⟨#[116, 105, 109, 101, 115]⟩ : Str), (⟨#[114, 111, 119]⟩ : Str), (⟨#[112, 108, 97, 99, 101]⟩ : Str), (⟨#[115, 105, 122, 101]⟩ : Str), (⟨#[99, 104, 111, 105, 99, 101, 115]⟩ : Str), (⟨#[98, 97, 99, 107]⟩ : Str)], L2.defScope st64, gls, frs, [0], atts, false⟩
/-- law -/
abbrev st65 : Stmt := top 83
def ct65 : Ct := ⟨[(⟨#[115, 99, 114, 105, 112, 116]⟩ : Str), (⟨#[115, 112, 111, 116]⟩ : Str), (⟨#[100, 105, 99, 101]⟩ : Str), (⟨#[116, 117, 114, 110]⟩ : Str)], L2.defScope st65, gls, frs, [2], atts, false⟩
def t0 : T := .cons 0 (.sret (.tand (.isi .int (.slot 0)) (.tnot (.isi .bool (.slot 0))))) .nil
def t1 : T := .cons 0 (.sret (.tand (.call 0 (.cons 1 (.slot 0) .nil)) (.chain .le .le (.slot 1) (.slot 0) (.slot 2)))) .nil
def t2 : T := .cons 0 (.sret (.bi .all (.cons 0 (.lc [1, 2] (.gtup 2 (.cons 0 (.gname 1 false) (.cons 0 (.gname 2 false) .nil))) (.wzip (.slot 0) (.slc (.slot 0) (.cons 0 (.cst (.int 1)) .nil) .nil)) (.cst (.bl true)) (.cmp .lt (.slot 1) (.slot 2))) .nil))) .nil
def t3 : T := .cons 0 (.sif (.tor (.tnot (.isi .tuple (.slot 0))) (.cmp .ne (.bi .len (.cons 0 (.slot 0) .nil)) (.cst (.int 3)))) (.cons 0 (.sret (.cst (.bl false))) .nil) .nil) (.cons 0 (.sret (.bi .all (.cons 0 (.lc [1, 2] (.gtup 2 (.cons 0 (.gname 1 false) (.cons 0 (.gname 2 false) .nil))) (.wzip (.slot 0) (.tup (.cons 1 (.cst (.int 200)) (.cons 1 (.cst (.int 1000000000000000000000000000000)) (.cons 1 (.cst (.int 20000)) .nil))))) (.cst (.bl true)) (.call 1 (.cons 1 (.slot 1) (.cons 1 (.cst (.int 1)) (.cons 1 (.slot 2) .nil))))) .nil))) .nil)
def t4 : T := .cons 0 (.sif (.tnot (.call 3 (.cons 1 (.slot 0) .nil))) (.cons 0 .sno .nil) .nil) (.cons 0 (.sret (.slot 0)) .nil)
def t5 : T := .cons 0 (.sret (.tand (.call 0 (.cons 1 (.slot 0) .nil)) (.chain .le .lt (.cst (.int 0)) (.slot 0) (.slot 1)))) .nil
def t6 : T := .cons 0 (.sret (.call 5 (.cons 1 (.slot 1) (.cons 1 (.ix (.slot 0) (.cst (.int 1))) .nil)))) .nil
def t7 : T := .cons 0 (.sif (.tor (.tnot (.isi .tuple (.slot 1))) (.tor (.cmp .lt (.bi .len (.cons 0 (.slot 1) .nil)) (.cst (.int 2))) (.tnot (.isi .str (.ix (.slot 1) (.cst (.int 0))))))) (.cons 0 (.sret (.cst (.bl false))) .nil) .nil) (.cons 0 (.sif (.tor (.cmp .notin (.ix (.slot 1) (.cst (.int 0))) (.cst (.kdc 74 [.str ⟨#[114, 101, 97, 100]⟩, .str ⟨#[119, 114, 105, 116, 101]⟩] [.int 2, .int 3]))) (.tor (.cmp .ne (.bi .len (.cons 0 (.slot 1) .nil)) (.ix (.cst (.kdc 74 [.str ⟨#[114, 101, 97, 100]⟩, .str ⟨#[119, 114, 105, 116, 101]⟩] [.int 2, .int 3])) (.ix (.slot 1) (.cst (.int 0))))) (.tnot (.call 5 (.cons 1 (.ix (.slot 1) (.cst (.int 1))) (.cons 1 (.ix (.slot 0) (.cst (.int 0))) .nil)))))) (.cons 0 (.sret (.cst (.bl false))) .nil) .nil) (.cons 0 (.sret (.tor (.cmp .eq (.ix (.slot 1) (.cst (.int 0))) (.cst (.str ⟨#[114, 101, 97, 100]⟩))) (.call 6 (.cons 1 (.slot 0) (.cons 1 (.ix (.slot 1) (.cst (.int 2))) .nil))))) .nil))
def t8 : T := .cons 0 (.sif (.tor (.tnot (.call 0 (.cons 1 (.slot 0) .nil))) (.cmp .lt (.slot 0) (.cst (.int 1)))) (.cons 0 .sno .nil) .nil) .nil
def t9 : T := .cons 0 (.sfor (.gname 3 false) (.wseq (.tup (.cons 1 (.slot 0) (.cons 1 (.slot 1) (.cons 1 (.slot 2) .nil))))) (.cons 0 (.sexpr (.call 8 (.cons 1 (.slot 3) .nil))) .nil)) (.cons 0 (.sret (.bin .add (.slot 1) (.bin .mul (.slot 0) (.neg (.bin .fdiv (.neg (.slot 1)) (.slot 2)))))) .nil)
def t10 : T := .cons 0 (.sfor (.gname 3 false) (.wseq (.tup (.cons 1 (.slot 0) (.cons 1 (.slot 1) (.cons 1 (.slot 2) .nil))))) (.cons 0 (.sexpr (.call 8 (.cons 1 (.slot 3) .nil))) .nil)) (.cons 0 (.sasg (.gname 4 false) (.bin .fdiv (.bin .sub (.slot 2) (.slot 1)) (.slot 0))) (.cons 0 (.sret (.ife (.cmp .lt (.slot 4) (.cst (.int 1))) (.cst (.non)) (.bi .max2 (.cons 0 (.cst (.int 1)) (.cons 0 (.neg (.bin .fdiv (.neg (.slot 1)) (.slot 4))) .nil))))) .nil))
def t11 : T := .cons 0 (.sif (.tor (.tnot (.call 0 (.cons 1 (.slot 0) .nil))) (.cmp .lt (.slot 0) (.cst (.int 1)))) (.cons 0 .sno .nil) .nil) .nil
def t12 : T := .cons 0 (.sexpr (.call 4 (.cons 1 (.slot 0) .nil))) (.cons 0 (.sexpr (.call 13 (.cons 1 (.slot 0) (.cons 1 (.slot 1) (.cons 1 (.slot 2) .nil))))) .nil)
def t13 : T := .cons 0 (.sexpr (.call 11 (.cons 1 (.slot 1) .nil))) (.cons 0 (.sif (.tor (.tnot (.isi .tuple (.slot 2))) (.tnot (.bi .all (.cons 0 (.lc [3] (.gname 3 false) (.wseq (.slot 2)) (.cst (.bl true)) (.call 7 (.cons 1 (.slot 0) (.cons 1 (.slot 3) .nil)))) .nil)))) (.cons 0 .sno .nil) .nil) .nil)
def t14 : T := .cons 0 (.sasg (.gtup 3 (.cons 0 (.gfld (.slot 0) 2) (.cons 0 (.gfld (.slot 0) 3) (.cons 0 (.gfld (.slot 0) 4) .nil)))) (.tup (.cons 1 (.slot 1) (.cons 2 (.lst .nil) (.cons 2 (.dlit .nil .nil) .nil))))) .nil
def t15 : T := .cons 0 (.sret (.cmp .eq (.bi .len (.cons 0 (.fld (.slot 0) 3) .nil)) (.fld (.slot 0) 2))) .nil
def t16 : T := .cons 0 (.sret (.cmp .isin (.slot 1) (.fld (.slot 0) 3))) .nil
def t17 : T := .cons 0 (.sexpr (.bm .remove (.fld (.slot 0) 3) (.cons 0 (.slot 1) .nil))) .nil
def t18 : T := .cons 0 (.sif (.tnot (.meth 6 (.slot 0) (.cons 1 (.slot 1) .nil))) (.cons 0 (.sexpr (.bm .append (.fld (.slot 0) 3) (.cons 0 (.slot 1) .nil))) .nil) .nil) (.cons 0 (.sasg (.gsub (.fld (.slot 0) 4) (.slot 1)) (.slot 2)) .nil)
def t19 : T := .cons 0 (.sret (.ix (.fld (.slot 0) 3) (.cst (.int 0)))) .nil
def t20 : T := .cons 0 (.sret (.ix (.bi .min (.cons 0 (.lc [1] (.gname 1 false) (.wseq (.fld (.slot 0) 3)) (.cst (.bl true)) (.tup (.cons 1 (.ix (.fld (.slot 0) 4) (.slot 1)) (.cons 1 (.slot 1) .nil)))) .nil)) (.cst (.int 1)))) .nil
def t21 : T := .cons 0 (.spar [3, 4] (.cons 1 (.make 73 14 (.cons 1 (.slot 0) .nil)) (.cons 2 (.lst .nil) .nil))) (.cons 0 (.sfor (.gtup 2 (.cons 0 (.gname 5 false) (.cons 0 (.gname 6 false) .nil))) (.wenum (.slot 1)) (.cons 0 (.sif (.tand (.tnot (.meth 6 (.slot 3) (.cons 1 (.ix (.slot 6) (.cst (.int 1))) .nil))) (.meth 7 (.slot 3) .nil)) (.cons 0 (.sasg (.gname 7 false) (.callv 2 (.cons 1 (.slot 3) (.cons 1 (.slot 5) .nil)))) (.cons 0 (.sexpr (.bm .append (.slot 4) (.cons 0 (.slot 7) .nil))) (.cons 0 (.sexpr (.meth 8 (.slot 3) (.cons 1 (.slot 7) .nil))) .nil))) .nil) (.cons 0 (.sexpr (.meth 5 (.slot 3) (.cons 1 (.ix (.slot 6) (.cst (.int 1))) (.cons 1 (.slot 5) .nil)))) .nil))) (.cons 0 (.sret (.bi .tuple (.cons 0 (.slot 4) .nil))) .nil))
def t22 : T := .cons 0 (.sif (.tor (.tnot (.isi .tuple (.slot 2))) (.tnot (.bi .all (.cons 0 (.lc [3] (.gname 3 false) (.wseq (.slot 2)) (.cst (.bl true)) (.call 0 (.cons 1 (.slot 3) .nil))) .nil)))) (.cons 0 (.sret (.cst (.bl false))) .nil) .nil) (.cons 0 (.spar [4, 5] (.cons 1 (.make 73 14 (.cons 1 (.slot 0) .nil)) (.cons 1 (.cst (.int 0)) .nil))) (.cons 0 (.sfor (.gtup 2 (.cons 0 (.gname 6 false) (.cons 0 (.gname 7 false) .nil))) (.wenum (.slot 1)) (.cons 0 (.sif (.tand (.tnot (.meth 6 (.slot 4) (.cons 1 (.ix (.slot 7) (.cst (.int 1))) .nil))) (.meth 7 (.slot 4) .nil)) (.cons 0 (.sif (.tor (.cmp .eq (.slot 5) (.bi .len (.cons 0 (.slot 2) .nil))) (.tnot (.meth 6 (.slot 4) (.cons 1 (.ix (.slot 2) (.slot 5)) .nil)))) (.cons 0 (.sret (.cst (.bl false))) .nil) .nil) (.cons 0 (.sexpr (.meth 8 (.slot 4) (.cons 1 (.ix (.slot 2) (.slot 5)) .nil))) (.cons 0 (.saug 5 .add (.cst (.int 1))) .nil))) .nil) (.cons 0 (.sexpr (.meth 5 (.slot 4) (.cons 1 (.ix (.slot 7) (.cst (.int 1))) (.cons 1 (.slot 6) .nil)))) .nil))) (.cons 0 (.sret (.cmp .eq (.slot 5) (.bi .len (.cons 0 (.slot 2) .nil)))) .nil)))
def t23 : T := .cons 0 (.sif (.tnot (.call 22 (.cons 1 (.slot 0) (.cons 1 (.slot 1) (.cons 1 (.slot 2) .nil))))) (.cons 0 .sno .nil) .nil) (.cons 0 (.sret (.slot 2)) .nil)
def t24 : T := .cons 0 (.spar [3, 4, 5] (.cons 1 (.make 73 14 (.cons 1 (.slot 0) .nil)) (.cons 2 (.lst .nil) (.cons 1 (.cst (.int 0)) .nil)))) (.cons 0 (.sfor (.gtup 2 (.cons 0 (.gname 6 false) (.cons 0 (.gname 7 false) .nil))) (.wenum (.slot 1)) (.cons 0 (.sif (.tnot (.meth 6 (.slot 3) (.cons 1 (.ix (.slot 7) (.cst (.int 1))) .nil))) (.cons 0 (.sif (.meth 7 (.slot 3) .nil) (.cons 0 (.sexpr (.bm .append (.slot 4) (.cons 0 (.tup (.cons 1 (.cst (.str ⟨#[112, 117, 116]⟩)) (.cons 1 (.ix (.slot 2) (.slot 5)) .nil))) .nil))) (.cons 0 (.sexpr (.meth 8 (.slot 3) (.cons 1 (.ix (.slot 2) (.slot 5)) .nil))) (.cons 0 (.saug 5 .add (.cst (.int 1))) .nil))) .nil) (.cons 0 (.sexpr (.bm .append (.slot 4) (.cons 0 (.tup (.cons 1 (.cst (.str ⟨#[116, 97, 107, 101]⟩)) (.cons 1 (.ix (.slot 7) (.cst (.int 1))) .nil))) .nil))) .nil)) .nil) (.cons 0 (.sexpr (.meth 5 (.slot 3) (.cons 1 (.ix (.slot 7) (.cst (.int 1))) (.cons 1 (.slot 6) .nil)))) (.cons 0 (.sexpr (.bm .append (.slot 4) (.cons 0 (.slot 7) .nil))) .nil)))) (.cons 0 (.sexpr (.bm .extend (.slot 4) (.cons 0 (.lc [8] (.gname 8 false) (.wseq (.bi .sorted (.cons 0 (.fld (.slot 3) 3) .nil))) (.cst (.bl true)) (.tup (.cons 1 (.cst (.str ⟨#[112, 117, 116]⟩)) (.cons 1 (.slot 8) .nil)))) .nil))) (.cons 0 (.sret (.slot 4)) .nil)))
def t25 : T := .cons 0 (.sret (.bi .len (.cons 0 (.lc [3] (.gname 3 false) (.wseq (.call 24 (.cons 1 (.slot 0) (.cons 1 (.slot 1) (.cons 1 (.slot 2) .nil))))) (.cmp .eq (.ix (.slot 3) (.cst (.int 0))) (.cst (.str ⟨#[116, 97, 107, 101]⟩))) (.slot 3)) .nil))) .nil
def t26 : T := .cons 0 (.sexpr (.call 12 (.cons 1 (.slot 0) (.cons 1 (.slot 1) (.cons 1 (.slot 2) .nil))))) (.cons 0 (.sret (.call 25 (.cons 1 (.slot 1) (.cons 1 (.slot 2) (.cons 1 (.call 23 (.cons 1 (.slot 1) (.cons 1 (.slot 2) (.cons 1 (.slot 3) .nil)))) .nil))))) .nil)
def t27 : T := .cons 0 (.sexpr (.call 12 (.cons 1 (.slot 0) (.cons 1 (.slot 1) (.cons 1 (.slot 2) .nil))))) (.cons 0 (.sret (.callc 21 (.cons 1 (.slot 1) (.cons 1 (.slot 2) .nil)) 2 2 (.meth 9 (.slot 0) .nil) [])) .nil)
def t28 : T := .cons 0 (.sexpr (.call 12 (.cons 1 (.slot 0) (.cons 1 (.slot 1) (.cons 1 (.slot 2) .nil))))) (.cons 0 (.sret (.callc 21 (.cons 1 (.slot 1) (.cons 1 (.slot 2) .nil)) 2 2 (.meth 10 (.slot 0) .nil) [])) .nil)
def t29 : T := .cons 0 (.sif (.tor (.tnot (.isi .tuple (.slot 0))) (.tor (.cmp .gt (.bi .len (.cons 0 (.slot 0) .nil)) (.cst (.int 200))) (.tnot (.bi .all (.cons 0 (.lc [1] (.gname 1 false) (.wseq (.slot 0)) (.cst (.bl true)) (.tand (.call 0 (.cons 1 (.slot 1) .nil)) (.cmp .ge (.slot 1) (.cst (.int 0))))) .nil))))) (.cons 0 .sno .nil) .nil) .nil
def t30 : T := .cons 0 (.sexpr (.call 11 (.cons 1 (.slot 0) .nil))) (.cons 0 (.sexpr (.call 29 (.cons 1 (.slot 1) .nil))) .nil)
def t31 : T := .cons 0 (.sret (.lc [1] (.gname 1 false) (.wseq (.slot 0)) (.cst (.bl true)) (.tup (.cons 1 (.cst (.str ⟨#[114, 101, 97, 100]⟩)) (.cons 1 (.slot 1) .nil))))) .nil
def t32 : T := .cons 0 (.spar [1, 2] (.cons 2 (.dlit .nil .nil) (.cons 2 (.lst .nil) .nil))) (.cons 0 (.sfor (.gtup 2 (.cons 0 (.gname 3 false) (.cons 0 (.gname 4 false) .nil))) (.wenum (.slot 0)) (.cons 0 (.sif (.cmp .isin (.slot 4) (.slot 1)) (.cons 0 (.sexpr (.bm .append (.slot 2) (.cons 0 (.tup (.cons 1 (.ix (.slot 1) (.slot 4)) (.cons 1 (.slot 3) .nil))) .nil))) .nil) .nil) (.cons 0 (.sasg (.gsub (.slot 1) (.slot 4)) (.slot 3)) .nil))) (.cons 0 (.sret (.bi .sorted (.cons 0 (.slot 2) .nil))) .nil))
def t33 : T := .cons 0 (.sexpr (.call 29 (.cons 1 (.slot 0) .nil))) (.cons 0 (.sret (.bi .tuple (.cons 0 (.call 32 (.cons 1 (.slot 0) .nil)) .nil))) .nil)
def t34 : T := .cons 0 (.sret (.chain .lt .lt (.ix (.slot 0) (.cst (.int 0))) (.slot 1) (.ix (.slot 0) (.cst (.int 1))))) .nil
def t35 : T := .cons 0 (.sfor (.gname 3 false) (.wrng (.cons 0 (.bi .len (.cons 0 (.slot 1) .nil)) .nil)) (.cons 0 (.sif (.cmp .gt (.bi .len (.cons 0 (.lc [4] (.gname 4 false) (.wseq (.slot 2)) (.call 34 (.cons 1 (.slot 4) (.cons 1 (.slot 3) .nil))) (.slot 4)) .nil)) (.bin .sub (.slot 0) (.cst (.int 1)))) (.cons 0 (.sret (.slot 3)) .nil) .nil) .nil)) (.cons 0 (.sret (.cst (.non))) .nil)
def t36 : T := .cons 0 (.sasg (.gname 2 false) (.call 32 (.cons 1 (.slot 0) .nil))) (.cons 0 (.sif (.tor (.tnot (.isi .tuple (.slot 1))) (.tnot (.bi .all (.cons 0 (.lc [3] (.gname 3 false) (.wseq (.slot 1)) (.cst (.bl true)) (.tand (.call 37 (.cons 1 (.slot 3) .nil)) (.cmp .isin (.slot 3) (.slot 2)))) .nil)))) (.cons 0 .sno .nil) .nil) (.cons 0 (.sif (.cmp .ne (.bi .len (.cons 0 (.dc [4] (.gname 4 false) (.wseq (.slot 1)) (.cst (.bl true)) (.slot 4) (.cst (.bl true))) .nil)) (.bi .len (.cons 0 (.slot 1) .nil))) (.cons 0 .sno .nil) .nil) .nil))
def t37 : T := .cons 0 (.sret (.tand (.isi .tuple (.slot 0)) (.tand (.cmp .eq (.bi .len (.cons 0 (.slot 0) .nil)) (.cst (.int 2))) (.tand (.call 0 (.cons 1 (.ix (.slot 0) (.cst (.int 0))) .nil)) (.call 0 (.cons 1 (.ix (.slot 0) (.cst (.int 1))) .nil)))))) .nil
def t38 : T := .cons 0 (.sasg (.gname 4 false) (.lc [5] (.gname 5 false) (.wseq (.slot 2)) (.call 34 (.cons 1 (.slot 5) (.cons 1 (.slot 1) .nil))) (.ix (.slot 3) (.ix (.slot 5) (.cst (.int 0)))))) (.cons 0 (.sret (.bi .min (.cons 0 (.lc [6] (.gname 6 false) (.wseq (.fld (.slot 0) 3)) (.cmp .notin (.slot 6) (.slot 4)) (.slot 6)) .nil))) .nil)
def t39 : T := .cons 0 (.sexpr (.call 30 (.cons 1 (.slot 0) (.cons 1 (.slot 1) .nil)))) (.cons 0 (.sexpr (.call 36 (.cons 1 (.slot 1) (.cons 1 (.slot 2) .nil)))) (.cons 0 (.sasg (.gname 3 false) (.call 35 (.cons 1 (.slot 0) (.cons 1 (.slot 1) (.cons 1 (.slot 2) .nil))))) (.cons 0 (.sif (.cmp .isnot (.slot 3) (.cst (.non))) (.cons 0 .sno .nil) .nil) (.cons 0 (.sret (.callc 21 (.cons 1 (.slot 0) (.cons 1 (.call 31 (.cons 1 (.slot 1) .nil)) .nil)) 2 4 (.call 38 (.cons 1 (.slot 0) (.cons 1 (.slot 1) (.cons 1 (.slot 2) (.cons 1 (.slot 3) .nil))))) [2, 1])) .nil))))
def t40 : T := .cons 0 (.sif (.tnot (.call 22 (.cons 1 (.slot 0) (.cons 1 (.call 31 (.cons 1 (.slot 1) .nil)) (.cons 1 (.slot 2) .nil))))) (.cons 0 .sno .nil) .nil) .nil
def t41 : T := .cons 0 (.sasg (.gtup 4 (.cons 0 (.gname 3 false) (.cons 0 (.gname 4 true) (.cons 0 (.gname 5 false) (.cons 0 (.gname 6 true) .nil))))) (.tup (.cons 1 (.make 73 14 (.cons 1 (.slot 0) .nil)) (.cons 2 (.lst .nil) (.cons 1 (.cst (.int 0)) (.cons 2 (.dlit .nil .nil) .nil)))))) (.cons 0 (.sfor (.gtup 2 (.cons 0 (.gname 7 false) (.cons 0 (.gname 8 false) .nil))) (.wenum (.slot 1)) (.cons 0 (.sif (.meth 6 (.slot 3) (.cons 1 (.slot 8) .nil)) (.cons 0 (.sexpr (.bm .append (.slot 4) (.cons 0 (.tup (.cons 1 (.ix (.slot 6) (.slot 8)) (.cons 1 (.slot 7) .nil))) .nil))) .nil) (.cons 0 (.sif (.meth 7 (.slot 3) .nil) (.cons 0 (.sexpr (.meth 8 (.slot 3) (.cons 1 (.ix (.slot 2) (.slot 5)) .nil))) (.cons 0 (.saug 5 .add (.cst (.int 1))) .nil)) .nil) .nil)) (.cons 0 (.sexpr (.meth 5 (.slot 3) (.cons 1 (.slot 8) (.cons 1 (.slot 7) .nil)))) (.cons 0 (.sasg (.gsub (.slot 6) (.slot 8)) (.slot 7)) .nil)))) (.cons 0 (.sret (.bi .sorted (.cons 0 (.slot 4) .nil))) .nil))
def t42 : T := .cons 0 (.sexpr (.call 30 (.cons 1 (.slot 0) (.cons 1 (.slot 1) .nil)))) (.cons 0 (.sexpr (.call 40 (.cons 1 (.slot 0) (.cons 1 (.slot 1) (.cons 1 (.slot 2) .nil))))) (.cons 0 (.sret (.bi .tuple (.cons 0 (.call 41 (.cons 1 (.slot 0) (.cons 1 (.slot 1) (.cons 1 (.slot 2) .nil)))) .nil))) .nil))
def t43 : T := .cons 0 (.sasg (.gname 3 false) (.lc [4] (.gname 4 false) (.wrng (.cons 0 (.bin .add (.slot 2) (.cst (.int 1))) (.cons 0 (.bi .len (.cons 0 (.slot 0) .nil)) .nil))) (.cmp .eq (.ix (.slot 0) (.slot 4)) (.slot 1)) (.slot 4))) (.cons 0 (.sret (.ife (.cmp .ne (.slot 3) (.lst .nil)) (.ix (.slot 3) (.cst (.int 0))) (.bi .len (.cons 0 (.slot 0) .nil)))) .nil)
def t44 : T := .cons 0 (.sret (.ix (.bi .min (.cons 0 (.lc [3] (.gname 3 false) (.wseq (.fld (.slot 0) 3)) (.cst (.bl true)) (.tup (.cons 1 (.neg (.call 43 (.cons 1 (.slot 2) (.cons 1 (.slot 3) (.cons 1 (.slot 1) .nil))))) (.cons 1 (.slot 3) .nil)))) .nil)) (.cst (.int 1)))) .nil
def t45 : T := .cons 0 (.sret (.callc 21 (.cons 1 (.slot 0) (.cons 1 (.call 31 (.cons 1 (.slot 1) .nil)) .nil)) 2 3 (.call 44 (.cons 1 (.slot 0) (.cons 1 (.slot 1) (.cons 1 (.slot 2) .nil)))) [1])) .nil
def t46 : T := .cons 0 (.sexpr (.call 30 (.cons 1 (.slot 0) (.cons 1 (.slot 1) .nil)))) (.cons 0 (.sret (.call 45 (.cons 1 (.slot 0) (.cons 1 (.slot 1) .nil)))) .nil)
def t47 : T := .cons 0 (.sret (.bi .len (.cons 0 (.call 41 (.cons 1 (.slot 0) (.cons 1 (.slot 1) (.cons 1 (.call 45 (.cons 1 (.slot 0) (.cons 1 (.slot 1) .nil))) .nil)))) .nil))) .nil
def t48 : T := .cons 0 (.sexpr (.call 30 (.cons 1 (.slot 0) (.cons 1 (.slot 1) .nil)))) (.cons 0 (.sret (.bin .sub (.bi .len (.cons 0 (.slot 1) .nil)) (.call 47 (.cons 1 (.slot 0) (.cons 1 (.slot 1) .nil))))) .nil)
def t49 : T := .cons 0 (.sexpr (.call 30 (.cons 1 (.slot 0) (.cons 1 (.slot 1) .nil)))) (.cons 0 (.sret (.call 47 (.cons 1 (.slot 0) (.cons 1 (.slot 1) .nil)))) .nil)
def t50 : T := .cons 0 (.sif (.tor (.tnot (.isi .tuple (.slot 1))) (.tnot (.bi .all (.cons 0 (.lc [2] (.gname 2 false) (.wseq (.slot 1)) (.cst (.bl true)) (.tand (.call 0 (.cons 1 (.slot 2) .nil)) (.chain .le .lt (.cst (.int 0)) (.slot 2) (.bi .len (.cons 0 (.slot 0) .nil))))) .nil)))) (.cons 0 (.sret (.cst (.bl false))) .nil) .nil) (.cons 0 (.sret (.call 2 (.cons 1 (.slot 1) .nil))) .nil)
def t51 : T := .cons 0 (.sasg (.gname 3 false) (.lc [4] (.gname 4 false) (.wseq (.call 32 (.cons 1 (.slot 1) .nil))) (.tnot (.bi .any (.cons 0 (.lc [5] (.gname 5 false) (.wseq (.slot 2)) (.cst (.bl true)) (.call 34 (.cons 1 (.slot 4) (.cons 1 (.slot 5) .nil)))) .nil))) (.slot 4))) (.cons 0 (.sret (.bin .sub (.bin .sub (.bi .len (.cons 0 (.slot 1) .nil)) (.bin .mul (.bin .sub (.slot 0) (.cst (.int 1))) (.bi .len (.cons 0 (.slot 2) .nil)))) (.bi .len (.cons 0 (.slot 3) .nil)))) .nil)
def t52 : T := .cons 0 (.sexpr (.call 30 (.cons 1 (.slot 0) (.cons 1 (.slot 1) .nil)))) (.cons 0 (.sif (.tnot (.call 50 (.cons 1 (.slot 1) (.cons 1 (.slot 2) .nil)))) (.cons 0 .sno .nil) .nil) (.cons 0 (.sret (.call 51 (.cons 1 (.slot 0) (.cons 1 (.slot 1) (.cons 1 (.slot 2) .nil))))) .nil))
def t53 : T := .cons 0 (.spar [2, 3, 4] (.cons 1 (.lc [5] (.gname 5 false) (.wseq (.slot 0)) (.cmp .le (.ix (.slot 5) (.cst (.int 1))) (.slot 1)) (.ix (.slot 5) (.cst (.int 0)))) (.cons 2 (.dlit .nil .nil) (.cons 1 (.cst (.int 0)) .nil)))) (.cons 0 (.sasg (.gname 6 true) (.dlit .nil .nil)) (.cons 0 (.sfor (.gname 7 false) (.wseq (.slot 2)) (.cons 0 (.sasg (.gsub (.slot 6) (.slot 7)) (.bin .add (.bm .get2 (.slot 6) (.cons 0 (.slot 7) (.cons 0 (.cst (.int 0)) .nil))) (.cst (.int 1)))) .nil)) (.cons 0 (.sfor (.gname 7 false) (.wrng (.cons 0 (.bin .sub (.slot 1) (.cst (.int 1))) (.cons 0 (.neg (.cst (.int 2))) (.cons 0 (.neg (.cst (.int 1))) .nil)))) (.cons 0 (.saug 4 .add (.bm .get2 (.slot 6) (.cons 0 (.slot 7) (.cons 0 (.cst (.int 0)) .nil)))) (.cons 0 (.sasg (.gsub (.slot 3) (.slot 7)) (.slot 4)) .nil))) (.cons 0 (.sret (.slot 3)) .nil))))
def t54 : T := .cons 0 (.spar [2, 3] (.cons 1 (.call 32 (.cons 1 (.slot 1) .nil)) (.cons 1 (.bi .len (.cons 0 (.slot 1) .nil)) .nil))) (.cons 0 (.sasg (.gtup 2 (.cons 0 (.gname 4 true) (.cons 0 (.gname 5 true) .nil))) (.tup (.cons 2 (.dlit (.cons 0 (.neg (.cst (.int 1))) .nil) (.cons 0 (.cst (.int 0)) .nil)) (.cons 2 (.dlit .nil .nil) .nil)))) (.cons 0 (.sfor (.gname 6 false) (.wrng (.cons 0 (.bin .add (.slot 3) (.cst (.int 1))) .nil)) (.cons 0 (.sasg (.gname 7 false) (.call 53 (.cons 1 (.slot 2) (.cons 1 (.slot 6) .nil)))) (.cons 0 (.sasg (.gtup 2 (.cons 0 (.gname 8 false) (.cons 0 (.gname 9 false) .nil))) (.bi .max (.cons 0 (.lc [9] (.gname 9 false) (.wrng (.cons 0 (.neg (.cst (.int 1))) (.cons 0 (.slot 6) .nil))) (.cst (.bl true)) (.tup (.cons 1 (.bin .sub (.ix (.slot 4) (.slot 9)) (.ix (.slot 7) (.slot 9))) (.cons 1 (.neg (.slot 9)) .nil)))) .nil))) (.cons 0 (.sasg (.gtup 2 (.cons 0 (.gsub (.slot 4) (.slot 6)) (.cons 0 (.gsub (.slot 5) (.slot 6)) .nil))) (.tup (.cons 1 (.bin .sub (.slot 8) (.ife (.cmp .lt (.slot 6) (.slot 3)) (.bin .sub (.slot 0) (.cst (.int 1))) (.cst (.int 0)))) (.cons 1 (.neg (.slot 9)) .nil)))) .nil)))) (.cons 0 (.spar [10, 6] (.cons 2 (.lst .nil) (.cons 1 (.ix (.slot 5) (.slot 3)) .nil))) (.cons 0 (.swhile (.cmp .ne (.slot 6) (.neg (.cst (.int 1)))) (.cons 0 (.sexpr (.bm .append (.slot 10) (.cons 0 (.slot 6) .nil))) (.cons 0 (.sasg (.gname 6 false) (.ix (.slot 5) (.slot 6))) .nil))) (.cons 0 (.sret (.bi .tuple (.cons 0 (.rev (.slot 10)) .nil))) .nil)))))
def t55 : T := .cons 0 (.sret (.tup (.cons 1 (.call 45 (.cons 1 (.slot 0) (.cons 1 (.slot 1) .nil))) (.cons 1 (.call 54 (.cons 1 (.slot 0) (.cons 1 (.slot 1) .nil))) .nil)))) .nil
def t56 : T := .cons 0 (.sexpr (.call 30 (.cons 1 (.slot 0) (.cons 1 (.slot 1) .nil)))) (.cons 0 (.sret (.call 55 (.cons 1 (.slot 0) (.cons 1 (.slot 1) .nil)))) .nil)
def t57 : T := .cons 0 (.sexpr (.call 30 (.cons 1 (.slot 0) (.cons 1 (.slot 1) .nil)))) (.cons 0 (.sif (.tor (.tnot (.isi .tuple (.slot 2))) (.tor (.cmp .ne (.bi .len (.cons 0 (.slot 2) .nil)) (.cst (.int 2))) (.tnot (.call 50 (.cons 1 (.slot 1) (.cons 1 (.ix (.slot 2) (.cst (.int 1))) .nil)))))) (.cons 0 (.sret (.cst (.bl false))) .nil) .nil) (.cons 0 (.sif (.tnot (.call 22 (.cons 1 (.slot 0) (.cons 1 (.call 31 (.cons 1 (.slot 1) .nil)) (.cons 1 (.ix (.slot 2) (.cst (.int 0))) .nil))))) (.cons 0 (.sret (.cst (.bl false))) .nil) .nil) (.cons 0 (.sret (.cmp .eq (.bin .sub (.bi .len (.cons 0 (.slot 1) .nil)) (.bi .len (.cons 0 (.call 41 (.cons 1 (.slot 0) (.cons 1 (.slot 1) (.cons 1 (.ix (.slot 2) (.cst (.int 0))) .nil)))) .nil))) (.call 51 (.cons 1 (.slot 0) (.cons 1 (.slot 1) (.cons 1 (.ix (.slot 2) (.cst (.int 1))) .nil)))))) .nil)))
def t58 : T := .cons 0 (.sexpr (.call 29 (.cons 1 (.slot 0) .nil))) (.cons 0 (.sasg (.gname 1 false) (.bi .max2 (.cons 0 (.cst (.int 1)) (.cons 0 (.bi .len (.cons 0 (.dc [2] (.gname 2 false) (.wseq (.slot 0)) (.cst (.bl true)) (.slot 2) (.cst (.bl true))) .nil)) .nil)))) (.cons 0 (.sret (.bi .tuple (.cons 0 (.lc [3] (.gname 3 false) (.wrng (.cons 0 (.cst (.int 1)) (.cons 0 (.bin .add (.slot 1) (.cst (.int 1))) .nil))) (.cst (.bl true)) (.bin .sub (.bi .len (.cons 0 (.slot 0) .nil)) (.call 47 (.cons 1 (.slot 3) (.cons 1 (.slot 0) .nil))))) .nil))) .nil))
def t59 : T := .cons 0 (.sasg (.gname 2 false) (.ife (.cmp .lt (.slot 1) (.bi .len (.cons 0 (.slot 0) .nil))) (.bi .int (.cons 0 (.ix (.slot 0) (.slot 1)) .nil)) (.bin .add (.bin .mul (.cst (.int 173)) (.slot 1)) (.cst (.int 59))))) (.cons 0 (.sasg (.gname 3 false) (.bin .mod (.bi .abs (.cons 0 (.slot 2) .nil)) (.bin .pow (.bin .pow (.cst (.int 10)) (.cst (.int 47))) (.cst (.int 7))))) (.cons 0 (.sasg (.gname 4 false) (.bin .add (.bin .add (.bin .add (.bin .mul (.bin .mod (.slot 3) (.cst (.int 2305843009213693669))) (.cst (.int 89))) (.bin .mul (.cst (.int 733)) (.slot 1))) (.bin .mul (.cst (.int 43)) (.bi .int (.cons 0 (.cmp .lt (.slot 2) (.cst (.int 0))) .nil)))) (.cst (.int 29)))) (.cons 0 (.sret (.lst (.cons 1 (.bi .max2 (.cons 0 (.cst (.int 0)) (.cons 0 (.bin .sub (.slot 3) (.bin .pow (.cst (.int 10)) (.cst (.int 15)))) .nil))) (.cons 1 (.slot 4) (.cons 1 (.cst (.int 0)) .nil))))) .nil)))
def t60 : T := .cons 0 (.sif (.cmp .gt (.ix (.slot 0) (.cst (.int 0))) (.cst (.int 0))) (.cons 0 (.sasg (.gtup 2 (.cons 0 (.gsub (.slot 0) (.cst (.int 0))) (.cons 0 (.gname 2 false) .nil))) (.bi .divmod (.cons 0 (.ix (.slot 0) (.cst (.int 0))) (.cons 0 (.slot 1) .nil)))) (.cons 0 (.sret (.bi .int (.cons 0 (.slot 2) .nil))) .nil)) .nil) (.cons 0 (.sasg (.gsub (.slot 0) (.cst (.int 2))) (.bin .add (.ix (.slot 0) (.cst (.int 2))) (.cst (.int 1)))) (.cons 0 (.sasg (.gname 3 false) (.bin .mod (.bin .add (.ix (.slot 0) (.cst (.int 1))) (.bin .mul (.cst (.int 67867967)) (.ix (.slot 0) (.cst (.int 2))))) (.cst (.int 2305843009213693613)))) (.cons 0 (.sasg (.gname 4 false) (.bin .add (.bin .mul (.bin .mod (.bin .add (.bin .mul (.slot 3) (.slot 3)) (.bin .mul (.cst (.int 211)) (.ix (.slot 0) (.cst (.int 2))))) (.cst (.int 2305843009213693487))) (.cst (.int 49979693))) (.slot 3))) (.cons 0 (.sret (.bin .mod (.bi .int (.cons 0 (.bin .fdiv (.slot 4) (.cst (.int 70001))) .nil)) (.slot 1))) .nil))))
def t61 : T := .cons 0 (.sret (.ix (.slot 1) (.call 60 (.cons 1 (.slot 0) (.cons 1 (.bi .len (.cons 0 (.slot 1) .nil)) .nil))))) .nil
def t62 : T := .cons 0 (.spar [1, 2] (.cons 1 (.bin .add (.cst (.int 1)) (.call 60 (.cons 1 (.slot 0) (.cons 1 (.cst (.int 40)) .nil)))) (.cons 1 (.bin .add (.cst (.int 1)) (.call 61 (.cons 1 (.slot 0) (.cons 1 (.lst (.cons 1 (.call 60 (.cons 1 (.slot 0) (.cons 1 (.cst (.int 60)) .nil))) (.cons 1 (.call 60 (.cons 1 (.slot 0) (.cons 1 (.bin .pow (.cst (.int 10)) (.cst (.int 9))) .nil))) .nil))) .nil)))) .nil))) (.cons 0 (.sasg (.gname 3 false) (.bin .add (.cst (.int 1)) (.call 60 (.cons 1 (.slot 0) (.cons 1 (.bin .add (.slot 2) (.cst (.int 3))) .nil))))) (.cons 0 (.sasg (.gname 4 false) (.bin .fdiv (.bin .sub (.bin .add (.slot 2) (.slot 3)) (.cst (.int 1))) (.slot 3))) (.cons 0 (.sif (.cmp .ne (.call 9 (.cons 1 (.slot 1) (.cons 1 (.slot 2) (.cons 1 (.slot 3) .nil)))) (.bin .add (.slot 2) (.bin .mul (.slot 1) (.slot 4)))) (.cons 0 (.sret (.cst (.bl false))) .nil) .nil) (.cons 0 (.sasg (.gname 5 false) (.call 61 (.cons 1 (.slot 0) (.cons 1 (.lst (.cons 1 (.call 9 (.cons 1 (.slot 1) (.cons 1 (.slot 2) (.cons 1 (.slot 3) .nil)))) (.cons 1 (.bin .add (.slot 2) (.call 60 (.cons 1 (.slot 0) (.cons 1 (.bin .mul (.cst (.int 3)) (.slot 1)) .nil)))) (.cons 1 (.slot 2) (.cons 1 (.cst (.int 1)) (.cons 1 (.bin .pow (.cst (.int 10)) (.cst (.int 12))) .nil)))))) .nil)))) (.cons 0 (.sasg (.gname 6 false) (.call 10 (.cons 1 (.slot 1) (.cons 1 (.slot 2) (.cons 1 (.slot 5) .nil))))) (.cons 0 (.sif (.cmp .is (.slot 6) (.cst (.non))) (.cons 0 (.sret (.cmp .gt (.call 9 (.cons 1 (.slot 1) (.cons 1 (.slot 2) (.cons 1 (.slot 2) .nil)))) (.slot 5))) .nil) .nil) (.cons 0 (.sif (.cmp .gt (.call 9 (.cons 1 (.slot 1) (.cons 1 (.slot 2) (.cons 1 (.slot 6) .nil)))) (.slot 5)) (.cons 0 (.sret (.cst (.bl false))) .nil) .nil) (.cons 0 (.sret (.tor (.cmp .eq (.slot 6) (.cst (.int 1))) (.cmp .gt (.call 9 (.cons 1 (.slot 1) (.cons 1 (.slot 2) (.cons 1 (.bin .sub (.slot 6) (.cst (.int 1))) .nil)))) (.slot 5)))) .nil))))))))
def t63 : T := .cons 0 (.spar [1, 2] (.cons 1 (.bin .add (.cst (.int 1)) (.call 60 (.cons 1 (.slot 0) (.cons 1 (.cst (.int 5)) .nil)))) (.cons 1 (.bin .add (.cst (.int 1)) (.call 60 (.cons 1 (.slot 0) (.cons 1 (.cst (.int 6)) .nil)))) .nil))) (.cons 0 (.sasg (.gname 3 false) (.bin .add (.slot 1) (.cst (.int 1)))) (.cons 0 (.sasg (.gname 4 false) (.bi .tuple (.cons 0 (.lc [5] (.gname 5 false) (.wrng (.cons 0 (.bin .sub (.bin .mul (.slot 3) (.slot 2)) (.call 60 (.cons 1 (.slot 0) (.cons 1 (.slot 3) .nil)))) .nil)) (.cst (.bl true)) (.bin .mod (.slot 5) (.slot 3))) .nil))) (.cons 0 (.sif (.cmp .le (.bi .len (.cons 0 (.slot 4) .nil)) (.slot 1)) (.cons 0 (.sret (.cst (.bl true))) .nil) .nil) (.cons 0 (.spar [6, 7] (.cons 1 (.tup (.cons 1 (.slot 3) (.cons 1 (.cst (.int 2)) (.cons 1 (.cst (.int 200)) .nil)))) (.cons 1 (.bi .tuple (.cons 0 (.lc [8] (.gname 8 false) (.wseq (.slot 4)) (.cst (.bl true)) (.tup (.cons 1 (.cst (.str ⟨#[114, 101, 97, 100]⟩)) (.cons 1 (.slot 8) .nil)))) .nil)) .nil))) (.cons 0 (.sasg (.gname 9 false) (.bin .add (.slot 1) (.bin .fdiv (.bin .sub (.bin .add (.bin .sub (.bi .len (.cons 0 (.slot 4) .nil)) (.slot 1)) (.slot 1)) (.cst (.int 1))) (.slot 1)))) (.cons 0 (.sif (.tor (.cmp .ne (.call 48 (.cons 1 (.slot 1) (.cons 1 (.slot 4) .nil))) (.slot 9)) (.cmp .ne (.call 26 (.cons 1 (.slot 6) (.cons 1 (.slot 1) (.cons 1 (.slot 7) (.cons 1 (.call 46 (.cons 1 (.slot 1) (.cons 1 (.slot 4) .nil))) .nil))))) (.slot 9))) (.cons 0 (.sret (.cst (.bl false))) .nil) .nil) (.cons 0 (.sfor (.gname 10 false) (.wseq (.tup (.cons 1 (.cst (.gl 27)) (.cons 1 (.cst (.gl 28)) .nil)))) (.cons 0 (.sif (.cmp .ne (.call 26 (.cons 1 (.slot 6) (.cons 1 (.slot 1) (.cons 1 (.slot 7) (.cons 1 (.callv 10 (.cons 1 (.slot 6) (.cons 1 (.slot 1) (.cons 1 (.slot 7) .nil)))) .nil))))) (.bi .len (.cons 0 (.slot 4) .nil))) (.cons 0 (.sret (.cst (.bl false))) .nil) .nil) .nil)) (.cons 0 (.sasg (.gname 11 false) (.bi .tuple (.cons 0 (.lc [5] (.gname 5 false) (.wrng (.cons 0 (.bin .sub (.bi .len (.cons 0 (.slot 4) .nil)) (.slot 3)) .nil)) (.cst (.bl true)) (.tup (.cons 1 (.slot 5) (.cons 1 (.bin .add (.slot 5) (.slot 3)) .nil)))) .nil))) (.cons 0 (.sif (.tor (.cmp .ne (.call 33 (.cons 1 (.slot 4) .nil)) (.slot 11)) (.cmp .ne (.call 49 (.cons 1 (.slot 1) (.cons 1 (.slot 4) .nil))) (.bin .sub (.bi .len (.cons 0 (.slot 4) .nil)) (.slot 9)))) (.cons 0 (.sret (.cst (.bl false))) .nil) .nil) (.cons 0 (.sasg (.gname 12 false) (.call 58 (.cons 1 (.slot 4) .nil))) (.cons 0 (.sif (.tor (.cmp .ne (.bi .len (.cons 0 (.slot 12) .nil)) (.slot 3)) (.tor (.cmp .ne (.ix (.slot 12) (.bin .sub (.slot 1) (.cst (.int 1)))) (.slot 9)) (.cmp .ne (.ix (.slot 12) (.neg (.cst (.int 1)))) (.slot 3)))) (.cons 0 (.sret (.cst (.bl false))) .nil) .nil) (.cons 0 (.sasg (.gtup 2 (.cons 0 (.gname 13 false) (.cons 0 (.gname 14 false) .nil))) (.call 56 (.cons 1 (.slot 1) (.cons 1 (.slot 4) .nil)))) (.cons 0 (.sret (.tand (.cmp .eq (.call 52 (.cons 1 (.slot 1) (.cons 1 (.slot 4) (.cons 1 (.slot 14) .nil)))) (.slot 9)) (.cmp .is (.call 57 (.cons 1 (.slot 1) (.cons 1 (.slot 4) (.cons 1 (.tup (.cons 1 (.slot 13) (.cons 1 (.slot 14) .nil))) .nil)))) (.cst (.bl true))))) .nil)))))))))))))
def t64 : T := .cons 0 (.sasg (.gtup 2 (.cons 0 (.gname 1 false) (.cons 0 (.gname 2 false) .nil))) (.tup (.cons 1 (.bin .add (.cst (.int 1)) (.call 60 (.cons 1 (.slot 0) (.cons 1 (.cst (.int 5)) .nil)))) (.cons 1 (.bin .add (.cst (.int 1)) (.call 60 (.cons 1 (.slot 0) (.cons 1 (.cst (.int 4)) .nil)))) .nil)))) (.cons 0 (.sasg (.gname 3 false) (.tup .nil)) (.cons 0 (.sfor (.gname 4 false) (.wrng (.cons 0 (.slot 1) .nil)) (.cons 0 (.sasg (.gname 3 false) (.bin .add (.slot 3) (.bin .mul (.tup (.cons 1 (.slot 4) .nil)) (.slot 2)))) .nil)) (.cons 0 (.sif (.tor (.cmp .ne (.call 58 (.cons 1 (.slot 3) .nil)) (.bin .mul (.tup (.cons 1 (.slot 1) .nil)) (.slot 1))) (.cmp .ne (.call 49 (.cons 1 (.cst (.int 1)) (.cons 1 (.slot 3) .nil))) (.bin .mul (.slot 1) (.bin .sub (.slot 2) (.cst (.int 1)))))) (.cons 0 (.sret (.cst (.bl false))) .nil) .nil) (.cons 0 (.sfor (.gname 5 false) (.wrng (.cons 0 (.cst (.int 1)) (.cons 0 (.bin .add (.slot 1) (.cst (.int 2))) .nil))) (.cons 0 (.sasg (.gname 6 false) (.call 39 (.cons 1 (.slot 5) (.cons 1 (.slot 3) (.cons 1 (.call 33 (.cons 1 (.slot 3) .nil)) .nil))))) (.cons 0 (.sif (.tor (.cmp .ne (.call 42 (.cons 1 (.slot 5) (.cons 1 (.slot 3) (.cons 1 (.slot 6) .nil)))) (.call 33 (.cons 1 (.slot 3) .nil))) (.cmp .ne (.call 52 (.cons 1 (.slot 5) (.cons 1 (.slot 3) (.cons 1 (.tup .nil) .nil)))) (.slot 1))) (.cons 0 (.sret (.cst (.bl false))) .nil) .nil) .nil))) (.cons 0 (.sasg (.gname 7 false) (.bin .add (.biR .tuple (.cons 0 (.slot 1) .nil)) (.rev (.biR .tuple (.cons 0 (.slot 1) .nil))))) (.cons 0 (.sret (.cmp .eq (.call 58 (.cons 1 (.slot 7) .nil)) (.bi .tuple (.cons 0 (.lc [5] (.gname 5 false) (.wrng (.cons 0 (.cst (.int 1)) (.cons 0 (.bin .add (.slot 1) (.cst (.int 1))) .nil))) (.cst (.bl true)) (.bin .sub (.bin .mul (.cst (.int 2)) (.slot 1)) (.slot 5))) .nil)))) .nil))))))
def t65 : T := .cons 0 (.sfor (.gname 1 false) (.wrng (.cons 0 (.bi .max2 (.cons 0 (.cst (.int 1)) (.cons 0 (.bi .min2 (.cons 0 (.cst (.int 6)) (.cons 0 (.bi .len (.cons 0 (.slot 0) .nil)) .nil))) .nil))) .nil)) (.cons 0 (.sasg (.gname 2 true) (.call 59 (.cons 1 (.slot 0) (.cons 1 (.slot 1) .nil)))) (.cons 0 (.sfor (.gname 3 false) (.wrng (.cons 0 (.cst (.int 3)) .nil)) (.cons 0 (.sif (.tor (.tnot (.call 62 (.cons 1 (.slot 2) .nil))) (.tor (.tnot (.call 63 (.cons 1 (.slot 2) .nil))) (.tnot (.call 64 (.cons 1 (.slot 2) .nil))))) (.cons 0 (.sret (.cst (.bl false))) .nil) .nil) .nil)) .nil))) (.cons 0 (.sret (.tand (.cmp .eq (.call 58 (.cons 1 (.tup .nil) .nil)) (.tup (.cons 1 (.cst (.int 0)) .nil))) (.tand (.cmp .eq (.call 48 (.cons 1 (.cst (.int 3)) (.cons 1 (.tup .nil) .nil))) (.cst (.int 0))) (.cmp .eq (.call 46 (.cons 1 (.cst (.int 2)) (.cons 1 (.tup .nil) .nil))) (.tup .nil))))) .nil)
def fds : Bt FD := (.n (some ⟨1, [], t0⟩) (.n none (.n none (.n none (.n none (.n none (.n none .e (.n (some ⟨1, [none, none, none, none, none, none, none], t64⟩) .e .e)) (.n (some ⟨1, [none, none, none, none], t32⟩) .e .e)) (.n (some ⟨2, [], t16⟩) .e (.n (some ⟨2, [], t48⟩) .e .e))) (.n (some ⟨1, [], t8⟩) (.n none .e (.n (some ⟨3, [], t40⟩) .e .e)) (.n (some ⟨3, [none, none, none, none, none, none], t24⟩) .e (.n (some ⟨2, [], t56⟩) .e .e)))) (.n (some ⟨1, [], t4⟩) (.n none (.n none .e (.n (some ⟨2, [none, none, none], t36⟩) .e .e)) (.n (some ⟨1, [none], t20⟩) .e (.n (some ⟨3, [], t52⟩) .e .e))) (.n (some ⟨3, [], t12⟩) (.n none .e (.n (some ⟨3, [none], t44⟩) .e .e)) (.n (some ⟨3, [], t28⟩) .e (.n (some ⟨2, [none, none, none], t60⟩) .e .e))))) (.n (some ⟨1, [none, none], t2⟩) (.n none (.n none (.n none .e (.n (some ⟨2, [], t34⟩) .e .e)) (.n (some ⟨3, [], t18⟩) .e (.n (some ⟨2, [none], t50⟩) .e .e))) (.n (some ⟨3, [none, none], t10⟩) (.n none .e (.n (some ⟨3, [], t42⟩) .e .e)) (.n (some ⟨4, [], t26⟩) .e (.n (some ⟨1, [none, none, none], t58⟩) .e .e)))) (.n (some ⟨2, [], t6⟩) (.n none (.n none .e (.n (some ⟨4, [none, none, none], t38⟩) .e .e)) (.n (some ⟨3, [none, none, none, none, none], t22⟩) .e (.n (some ⟨2, [none, none, none, none, none, none, none, none, none], t54⟩) .e .e))) (.n (some ⟨2, [], t14⟩) (.n none .e (.n (some ⟨2, [], t46⟩) .e .e)) (.n (some ⟨2, [], t30⟩) .e (.n (some ⟨1, [none, none, none, none, none, none], t62⟩) .e .e)))))) (.n (some ⟨3, [], t1⟩) (.n none (.n none (.n none (.n none (.n none .e (.n (some ⟨1, [none, none, none], t65⟩) .e .e)) (.n (some ⟨1, [], t33⟩) .e .e)) (.n (some ⟨2, [], t17⟩) .e (.n (some ⟨2, [], t49⟩) .e .e))) (.n (some ⟨3, [none], t9⟩) (.n none .e (.n (some ⟨3, [none, none, none, none, none, none], t41⟩) .e .e)) (.n (some ⟨3, [none], t25⟩) .e (.n (some ⟨3, [], t57⟩) .e .e)))) (.n (some ⟨2, [], t5⟩) (.n none (.n none .e (.n (some ⟨1, [], t37⟩) .e .e)) (.n (some ⟨3, [none, none, none, none, none], t21⟩) .e (.n (some ⟨2, [none, none, none, none, none, none], t53⟩) .e .e))) (.n (some ⟨3, [none], t13⟩) (.n none .e (.n (some ⟨2, [], t45⟩) .e .e)) (.n (some ⟨1, [none], t29⟩) .e (.n (some ⟨2, [], t61⟩) .e .e))))) (.n (some ⟨1, [none, none], t3⟩) (.n none (.n none (.n none .e (.n (some ⟨3, [none, none], t35⟩) .e .e)) (.n (some ⟨1, [], t19⟩) .e (.n (some ⟨3, [none, none, none], t51⟩) .e .e))) (.n (some ⟨1, [], t11⟩) (.n none .e (.n (some ⟨3, [none, none], t43⟩) .e .e)) (.n (some ⟨3, [], t27⟩) .e (.n (some ⟨2, [none, none, none], t59⟩) .e .e)))) (.n (some ⟨2, [], t7⟩) (.n none (.n none .e (.n (some ⟨3, [none], t39⟩) .e .e)) (.n (some ⟨3, [], t23⟩) .e (.n (some ⟨2, [], t55⟩) .e .e))) (.n (some ⟨1, [], t15⟩) (.n none .e (.n (some ⟨2, [], t47⟩) .e .e)) (.n (some ⟨1, [none], t31⟩) .e (.n (some ⟨1, [none, none, none, none, none, none, none, none, none, none, none, none, none, none], t63⟩) .e .e)))))))
def d0 : He.DefD := ⟨((⟨#[105, 115, 95, 105, 110, 116, 101, 103, 101, 114]⟩ : Str), none), (⟨#[105, 115, 95, 105, 110, 116, 101, 103, 101, 114]⟩ : Str), (⟨#[105, 115, 95, 105, 110, 116, 101, 103, 101, 114]⟩ : Str), L2.defArgs st0, L2.defBody st0, L2.defScope st0, [], []⟩
def d1 : He.DefD := ⟨((⟨#[105, 115, 95, 99, 111, 117, 110, 116]⟩ : Str), none), (⟨#[105, 115, 95, 99, 111, 117, 110, 116]⟩ : Str), (⟨#[105, 115, 95, 99, 111, 117, 110, 116]⟩ : Str), L2.defArgs st1, L2.defBody st1, L2.defScope st1, [], []⟩
def d2 : He.DefD := ⟨((⟨#[105, 115, 95, 97, 115, 99, 101, 110, 100, 105, 110, 103]⟩ : Str), none), (⟨#[105, 115, 95, 97, 115, 99, 101, 110, 100, 105, 110, 103]⟩ : Str), (⟨#[105, 115, 95, 97, 115, 99, 101, 110, 100, 105, 110, 103]⟩ : Str), L2.defArgs st2, L2.defBody st2, L2.defScope st2, [], []⟩
def d3 : He.DefD := ⟨((⟨#[105, 115, 95, 112, 108, 97, 105, 110, 95, 98, 111, 117, 110, 100, 115]⟩ : Str), none), (⟨#[105, 115, 95, 112, 108, 97, 105, 110, 95, 98, 111, 117, 110, 100, 115]⟩ : Str), (⟨#[105, 115, 95, 112, 108, 97, 105, 110, 95, 98, 111, 117, 110, 100, 115]⟩ : Str), L2.defArgs st3, L2.defBody st3, L2.defScope st3, [], []⟩
def d4 : He.DefD := ⟨((⟨#[114, 101, 113, 117, 105, 114, 101, 95, 98, 111, 117, 110, 100, 115]⟩ : Str), none), (⟨#[114, 101, 113, 117, 105, 114, 101, 95, 98, 111, 117, 110, 100, 115]⟩ : Str), (⟨#[114, 101, 113, 117, 105, 114, 101, 95, 98, 111, 117, 110, 100, 115]⟩ : Str), L2.defArgs st4, L2.defBody st4, L2.defScope st4, [], []⟩
def d5 : He.DefD := ⟨((⟨#[105, 115, 95, 119, 105, 116, 104, 105, 110]⟩ : Str), none), (⟨#[105, 115, 95, 119, 105, 116, 104, 105, 110]⟩ : Str), (⟨#[105, 115, 95, 119, 105, 116, 104, 105, 110]⟩ : Str), L2.defArgs st5, L2.defBody st5, L2.defScope st5, [], []⟩
def d6 : He.DefD := ⟨((⟨#[105, 115, 95, 119, 111, 114, 116, 104]⟩ : Str), none), (⟨#[105, 115, 95, 119, 111, 114, 116, 104]⟩ : Str), (⟨#[105, 115, 95, 119, 111, 114, 116, 104]⟩ : Str), L2.defArgs st6, L2.defBody st6, L2.defScope st6, [], []⟩
def d7 : He.DefD := ⟨((⟨#[105, 115, 95, 100, 101, 101, 100, 95, 98, 121]⟩ : Str), none), (⟨#[105, 115, 95, 100, 101, 101, 100, 95, 98, 121]⟩ : Str), (⟨#[105, 115, 95, 100, 101, 101, 100, 95, 98, 121]⟩ : Str), L2.defArgs st7, L2.defBody st7, L2.defScope st7, [], []⟩
def d8 : He.DefD := ⟨((⟨#[114, 101, 113, 117, 105, 114, 101, 95, 102, 114, 111, 109, 95, 111, 110, 101]⟩ : Str), none), (⟨#[114, 101, 113, 117, 105, 114, 101, 95, 102, 114, 111, 109, 95, 111, 110, 101]⟩ : Str), (⟨#[114, 101, 113, 117, 105, 114, 101, 95, 102, 114, 111, 109, 95, 111, 110, 101]⟩ : Str), L2.defArgs st8, L2.defBody st8, L2.defScope st8, [], []⟩
def d9 : He.DefD := ⟨((⟨#[97, 115, 107, 115, 95, 111, 102]⟩ : Str), none), (⟨#[97, 115, 107, 115, 95, 111, 102]⟩ : Str), (⟨#[97, 115, 107, 115, 95, 111, 102]⟩ : Str), L2.defArgs st9, L2.defBody st9, L2.defScope st9, [], []⟩
def d10 : He.DefD := ⟨((⟨#[108, 101, 97, 115, 116, 95, 115, 116, 114, 101, 116, 99, 104]⟩ : Str), none), (⟨#[108, 101, 97, 115, 116, 95, 115, 116, 114, 101, 116, 99, 104]⟩ : Str), (⟨#[108, 101, 97, 115, 116, 95, 115, 116, 114, 101, 116, 99, 104]⟩ : Str), L2.defArgs st10, L2.defBody st10, L2.defScope st10, [], []⟩
def d11 : He.DefD := ⟨((⟨#[114, 101, 113, 117, 105, 114, 101, 95, 115, 105, 122, 101]⟩ : Str), none), (⟨#[114, 101, 113, 117, 105, 114, 101, 95, 115, 105, 122, 101]⟩ : Str), (⟨#[114, 101, 113, 117, 105, 114, 101, 95, 115, 105, 122, 101]⟩ : Str), L2.defArgs st11, L2.defBody st11, L2.defScope st11, [], []⟩
def d12 : He.DefD := ⟨((⟨#[114, 101, 113, 117, 105, 114, 101, 95, 115, 104, 101, 108, 102]⟩ : Str), none), (⟨#[114, 101, 113, 117, 105, 114, 101, 95, 115, 104, 101, 108, 102]⟩ : Str), (⟨#[114, 101, 113, 117, 105, 114, 101, 95, 115, 104, 101, 108, 102]⟩ : Str), L2.defArgs st12, L2.defBody st12, L2.defScope st12, [], []⟩
def d13 : He.DefD := ⟨((⟨#[114, 101, 113, 117, 105, 114, 101, 95, 100, 101, 101, 100, 115, 95, 111, 102]⟩ : Str), none), (⟨#[114, 101, 113, 117, 105, 114, 101, 95, 100, 101, 101, 100, 115, 95, 111, 102]⟩ : Str), (⟨#[114, 101, 113, 117, 105, 114, 101, 95, 100, 101, 101, 100, 115, 95, 111, 102]⟩ : Str), L2.defArgs st13, L2.defBody st13, L2.defScope st13, [], []⟩
def d14 : He.DefD := ⟨((⟨#[72, 97, 110, 100]⟩ : Str), some (⟨#[95, 95, 105, 110, 105, 116, 95, 95]⟩ : Str)), (⟨#[95, 95, 105, 110, 105, 116, 95, 95]⟩ : Str), (⟨#[72, 97, 110, 100, 46, 95, 95, 105, 110, 105, 116, 95, 95]⟩ : Str), L2.defArgs st14, L2.defBody st14, L2.defScope st14, [], []⟩
def d15 : He.DefD := ⟨((⟨#[72, 97, 110, 100]⟩ : Str), some (⟨#[105, 115, 95, 102, 117, 108, 108]⟩ : Str)), (⟨#[105, 115, 95, 102, 117, 108, 108]⟩ : Str), (⟨#[72, 97, 110, 100, 46, 105, 115, 95, 102, 117, 108, 108]⟩ : Str), L2.defArgs st15, L2.defBody st15, L2.defScope st15, [], []⟩
def d16 : He.DefD := ⟨((⟨#[72, 97, 110, 100]⟩ : Str), some (⟨#[104, 97, 115]⟩ : Str)), (⟨#[104, 97, 115]⟩ : Str), (⟨#[72, 97, 110, 100, 46, 104, 97, 115]⟩ : Str), L2.defArgs st16, L2.defBody st16, L2.defScope st16, [], []⟩
def d17 : He.DefD := ⟨((⟨#[72, 97, 110, 100]⟩ : Str), some (⟨#[108, 101, 97, 118, 101]⟩ : Str)), (⟨#[108, 101, 97, 118, 101]⟩ : Str), (⟨#[72, 97, 110, 100, 46, 108, 101, 97, 118, 101]⟩ : Str), L2.defArgs st17, L2.defBody st17, L2.defScope st17, [], []⟩
def d18 : He.DefD := ⟨((⟨#[72, 97, 110, 100]⟩ : Str), some (⟨#[97, 115, 107]⟩ : Str)), (⟨#[97, 115, 107]⟩ : Str), (⟨#[72, 97, 110, 100, 46, 97, 115, 107]⟩ : Str), L2.defArgs st18, L2.defBody st18, L2.defScope st18, [], []⟩
def d19 : He.DefD := ⟨((⟨#[72, 97, 110, 100]⟩ : Str), some (⟨#[101, 108, 100, 101, 115, 116]⟩ : Str)), (⟨#[101, 108, 100, 101, 115, 116]⟩ : Str), (⟨#[72, 97, 110, 100, 46, 101, 108, 100, 101, 115, 116]⟩ : Str), L2.defArgs st19, L2.defBody st19, L2.defScope st19, [], []⟩
def d20 : He.DefD := ⟨((⟨#[72, 97, 110, 100]⟩ : Str), some (⟨#[108, 101, 97, 115, 116, 95, 97, 115, 107, 101, 100]⟩ : Str)), (⟨#[108, 101, 97, 115, 116, 95, 97, 115, 107, 101, 100]⟩ : Str), (⟨#[72, 97, 110, 100, 46, 108, 101, 97, 115, 116, 95, 97, 115, 107, 101, 100]⟩ : Str), L2.defArgs st20, L2.defBody st20, L2.defScope st20, [], []⟩
def d21 : He.DefD := ⟨((⟨#[99, 104, 111, 115, 101, 110]⟩ : Str), none), (⟨#[99, 104, 111, 115, 101, 110]⟩ : Str), (⟨#[99, 104, 111, 115, 101, 110]⟩ : Str), L2.defArgs st21, L2.defBody st21, L2.defScope st21, [], []⟩
def d22 : He.DefD := ⟨((⟨#[105, 115, 95, 112, 108, 97, 105, 110, 95, 99, 104, 111, 105, 99, 101]⟩ : Str), none), (⟨#[105, 115, 95, 112, 108, 97, 105, 110, 95, 99, 104, 111, 105, 99, 101]⟩ : Str), (⟨#[105, 115, 95, 112, 108, 97, 105, 110, 95, 99, 104, 111, 105, 99, 101]⟩ : Str), L2.defArgs st22, L2.defBody st22, L2.defScope st22, [], []⟩
def d23 : He.DefD := ⟨((⟨#[114, 101, 113, 117, 105, 114, 101, 95, 99, 104, 111, 105, 99, 101]⟩ : Str), none), (⟨#[114, 101, 113, 117, 105, 114, 101, 95, 99, 104, 111, 105, 99, 101]⟩ : Str), (⟨#[114, 101, 113, 117, 105, 114, 101, 95, 99, 104, 111, 105, 99, 101]⟩ : Str), L2.defArgs st23, L2.defBody st23, L2.defScope st23, [], []⟩
def d24 : He.DefD := ⟨((⟨#[97, 115, 107, 115, 95, 98, 121]⟩ : Str), none), (⟨#[97, 115, 107, 115, 95, 98, 121]⟩ : Str), (⟨#[97, 115, 107, 115, 95, 98, 121]⟩ : Str), L2.defArgs st24, L2.defBody st24, L2.defScope st24, [], []⟩
def d25 : He.DefD := ⟨((⟨#[99, 111, 117, 110, 116, 95, 116, 97, 107, 101, 115]⟩ : Str), none), (⟨#[99, 111, 117, 110, 116, 95, 116, 97, 107, 101, 115]⟩ : Str), (⟨#[99, 111, 117, 110, 116, 95, 116, 97, 107, 101, 115]⟩ : Str), L2.defArgs st25, L2.defBody st25, L2.defScope st25, [], []⟩
def d26 : He.DefD := ⟨((⟨#[102, 101, 116, 99, 104, 101, 115]⟩ : Str), none), (⟨#[102, 101, 116, 99, 104, 101, 115]⟩ : Str), (⟨#[102, 101, 116, 99, 104, 101, 115]⟩ : Str), L2.defArgs st26, L2.defBody st26, L2.defScope st26, [], []⟩
def d27 : He.DefD := ⟨((⟨#[102, 105, 114, 115, 116, 95, 105, 110]⟩ : Str), none), (⟨#[102, 105, 114, 115, 116, 95, 105, 110]⟩ : Str), (⟨#[102, 105, 114, 115, 116, 95, 105, 110]⟩ : Str), L2.defArgs st27, L2.defBody st27, L2.defScope st27, [], []⟩
def d28 : He.DefD := ⟨((⟨#[108, 111, 110, 103, 95, 97, 103, 111]⟩ : Str), none), (⟨#[108, 111, 110, 103, 95, 97, 103, 111]⟩ : Str), (⟨#[108, 111, 110, 103, 95, 97, 103, 111]⟩ : Str), L2.defArgs st28, L2.defBody st28, L2.defScope st28, [], []⟩
def d29 : He.DefD := ⟨((⟨#[114, 101, 113, 117, 105, 114, 101, 95, 114, 111, 119]⟩ : Str), none), (⟨#[114, 101, 113, 117, 105, 114, 101, 95, 114, 111, 119]⟩ : Str), (⟨#[114, 101, 113, 117, 105, 114, 101, 95, 114, 111, 119]⟩ : Str), L2.defArgs st29, L2.defBody st29, L2.defScope st29, [], []⟩
def d30 : He.DefD := ⟨((⟨#[114, 101, 113, 117, 105, 114, 101, 95, 98, 111, 116, 104]⟩ : Str), none), (⟨#[114, 101, 113, 117, 105, 114, 101, 95, 98, 111, 116, 104]⟩ : Str), (⟨#[114, 101, 113, 117, 105, 114, 101, 95, 98, 111, 116, 104]⟩ : Str), L2.defArgs st30, L2.defBody st30, L2.defScope st30, [], []⟩
def d31 : He.DefD := ⟨((⟨#[100, 101, 101, 100, 115, 95, 98, 121]⟩ : Str), none), (⟨#[100, 101, 101, 100, 115, 95, 98, 121]⟩ : Str), (⟨#[100, 101, 101, 100, 115, 95, 98, 121]⟩ : Str), L2.defArgs st31, L2.defBody st31, L2.defScope st31, [], []⟩
def d32 : He.DefD := ⟨((⟨#[103, 97, 112, 115, 95, 98, 121]⟩ : Str), none), (⟨#[103, 97, 112, 115, 95, 98, 121]⟩ : Str), (⟨#[103, 97, 112, 115, 95, 98, 121]⟩ : Str), L2.defArgs st32, L2.defBody st32, L2.defScope st32, [], []⟩
def d33 : He.DefD := ⟨((⟨#[103, 97, 112, 115, 95, 111, 102]⟩ : Str), none), (⟨#[103, 97, 112, 115, 95, 111, 102]⟩ : Str), (⟨#[103, 97, 112, 115, 95, 111, 102]⟩ : Str), L2.defArgs st33, L2.defBody st33, L2.defScope st33, [], []⟩
def d34 : He.DefD := ⟨((⟨#[111, 118, 101, 114]⟩ : Str), none), (⟨#[111, 118, 101, 114]⟩ : Str), (⟨#[111, 118, 101, 114]⟩ : Str), L2.defArgs st34, L2.defBody st34, L2.defScope st34, [], []⟩
def d35 : He.DefD := ⟨((⟨#[116, 111, 111, 95, 102, 117, 108, 108]⟩ : Str), none), (⟨#[116, 111, 111, 95, 102, 117, 108, 108]⟩ : Str), (⟨#[116, 111, 111, 95, 102, 117, 108, 108]⟩ : Str), L2.defArgs st35, L2.defBody st35, L2.defScope st35, [], []⟩
def d36 : He.DefD := ⟨((⟨#[114, 101, 113, 117, 105, 114, 101, 95, 103, 97, 112, 115]⟩ : Str), none), (⟨#[114, 101, 113, 117, 105, 114, 101, 95, 103, 97, 112, 115]⟩ : Str), (⟨#[114, 101, 113, 117, 105, 114, 101, 95, 103, 97, 112, 115]⟩ : Str), L2.defArgs st36, L2.defBody st36, L2.defScope st36, [], []⟩
def d37 : He.DefD := ⟨((⟨#[105, 115, 95, 103, 97, 112]⟩ : Str), none), (⟨#[105, 115, 95, 103, 97, 112]⟩ : Str), (⟨#[105, 115, 95, 103, 97, 112]⟩ : Str), L2.defArgs st37, L2.defBody st37, L2.defScope st37, [], []⟩
def d38 : He.DefD := ⟨((⟨#[102, 114, 101, 101, 95, 99, 104, 111, 105, 99, 101]⟩ : Str), none), (⟨#[102, 114, 101, 101, 95, 99, 104, 111, 105, 99, 101]⟩ : Str), (⟨#[102, 114, 101, 101, 95, 99, 104, 111, 105, 99, 101]⟩ : Str), L2.defArgs st38, L2.defBody st38, L2.defScope st38, [], []⟩
def d39 : He.DefD := ⟨((⟨#[99, 104, 111, 105, 99, 101, 115, 95, 102, 111, 114]⟩ : Str), none), (⟨#[99, 104, 111, 105, 99, 101, 115, 95, 102, 111, 114]⟩ : Str), (⟨#[99, 104, 111, 105, 99, 101, 115, 95, 102, 111, 114]⟩ : Str), L2.defArgs st39, L2.defBody st39, L2.defScope st39, [], []⟩
def d40 : He.DefD := ⟨((⟨#[114, 101, 113, 117, 105, 114, 101, 95, 99, 104, 111, 105, 99, 101, 115]⟩ : Str), none), (⟨#[114, 101, 113, 117, 105, 114, 101, 95, 99, 104, 111, 105, 99, 101, 115]⟩ : Str), (⟨#[114, 101, 113, 117, 105, 114, 101, 95, 99, 104, 111, 105, 99, 101, 115]⟩ : Str), L2.defArgs st40, L2.defBody st40, L2.defScope st40, [], []⟩
def d41 : He.DefD := ⟨((⟨#[107, 101, 112, 116, 95, 103, 97, 112, 115]⟩ : Str), none), (⟨#[107, 101, 112, 116, 95, 103, 97, 112, 115]⟩ : Str), (⟨#[107, 101, 112, 116, 95, 103, 97, 112, 115]⟩ : Str), L2.defArgs st41, L2.defBody st41, L2.defScope st41, [], []⟩
def d42 : He.DefD := ⟨((⟨#[107, 101, 112, 116, 95, 98, 121]⟩ : Str), none), (⟨#[107, 101, 112, 116, 95, 98, 121]⟩ : Str), (⟨#[107, 101, 112, 116, 95, 98, 121]⟩ : Str), L2.defArgs st42, L2.defBody st42, L2.defScope st42, [], []⟩
def d43 : He.DefD := ⟨((⟨#[97, 115, 107, 101, 100, 95, 110, 101, 120, 116]⟩ : Str), none), (⟨#[97, 115, 107, 101, 100, 95, 110, 101, 120, 116]⟩ : Str), (⟨#[97, 115, 107, 101, 100, 95, 110, 101, 120, 116]⟩ : Str), L2.defArgs st43, L2.defBody st43, L2.defScope st43, [], []⟩
def d44 : He.DefD := ⟨((⟨#[108, 97, 115, 116, 95, 111, 102, 95, 97, 108, 108]⟩ : Str), none), (⟨#[108, 97, 115, 116, 95, 111, 102, 95, 97, 108, 108]⟩ : Str), (⟨#[108, 97, 115, 116, 95, 111, 102, 95, 97, 108, 108]⟩ : Str), L2.defArgs st44, L2.defBody st44, L2.defScope st44, [], []⟩
def d45 : He.DefD := ⟨((⟨#[102, 97, 114, 116, 104, 101, 115, 116, 95, 98, 121]⟩ : Str), none), (⟨#[102, 97, 114, 116, 104, 101, 115, 116, 95, 98, 121]⟩ : Str), (⟨#[102, 97, 114, 116, 104, 101, 115, 116, 95, 98, 121]⟩ : Str), L2.defArgs st45, L2.defBody st45, L2.defScope st45, [], []⟩
def d46 : He.DefD := ⟨((⟨#[102, 97, 114, 116, 104, 101, 115, 116]⟩ : Str), none), (⟨#[102, 97, 114, 116, 104, 101, 115, 116]⟩ : Str), (⟨#[102, 97, 114, 116, 104, 101, 115, 116]⟩ : Str), L2.defArgs st46, L2.defBody st46, L2.defScope st46, [], []⟩
def d47 : He.DefD := ⟨((⟨#[109, 111, 115, 116, 95, 98, 121]⟩ : Str), none), (⟨#[109, 111, 115, 116, 95, 98, 121]⟩ : Str), (⟨#[109, 111, 115, 116, 95, 98, 121]⟩ : Str), L2.defArgs st47, L2.defBody st47, L2.defScope st47, [], []⟩
def d48 : He.DefD := ⟨((⟨#[102, 101, 119, 101, 115, 116]⟩ : Str), none), (⟨#[102, 101, 119, 101, 115, 116]⟩ : Str), (⟨#[102, 101, 119, 101, 115, 116]⟩ : Str), L2.defArgs st48, L2.defBody st48, L2.defScope st48, [], []⟩
def d49 : He.DefD := ⟨((⟨#[109, 111, 115, 116, 95, 107, 101, 112, 116]⟩ : Str), none), (⟨#[109, 111, 115, 116, 95, 107, 101, 112, 116]⟩ : Str), (⟨#[109, 111, 115, 116, 95, 107, 101, 112, 116]⟩ : Str), L2.defArgs st49, L2.defBody st49, L2.defScope st49, [], []⟩
def d50 : He.DefD := ⟨((⟨#[97, 114, 101, 95, 109, 111, 109, 101, 110, 116, 115]⟩ : Str), none), (⟨#[97, 114, 101, 95, 109, 111, 109, 101, 110, 116, 115]⟩ : Str), (⟨#[97, 114, 101, 95, 109, 111, 109, 101, 110, 116, 115]⟩ : Str), L2.defArgs st50, L2.defBody st50, L2.defScope st50, [], []⟩
def d51 : He.DefD := ⟨((⟨#[115, 104, 111, 119, 110, 95, 109, 97, 110, 121]⟩ : Str), none), (⟨#[115, 104, 111, 119, 110, 95, 109, 97, 110, 121]⟩ : Str), (⟨#[115, 104, 111, 119, 110, 95, 109, 97, 110, 121]⟩ : Str), L2.defArgs st51, L2.defBody st51, L2.defScope st51, [], []⟩
def d52 : He.DefD := ⟨((⟨#[115, 104, 111, 119, 110, 95, 98, 121]⟩ : Str), none), (⟨#[115, 104, 111, 119, 110, 95, 98, 121]⟩ : Str), (⟨#[115, 104, 111, 119, 110, 95, 98, 121]⟩ : Str), L2.defArgs st52, L2.defBody st52, L2.defScope st52, [], []⟩
def d53 : He.DefD := ⟨((⟨#[102, 114, 101, 101, 95, 97, 104, 101, 97, 100]⟩ : Str), none), (⟨#[102, 114, 101, 101, 95, 97, 104, 101, 97, 100]⟩ : Str), (⟨#[102, 114, 101, 101, 95, 97, 104, 101, 97, 100]⟩ : Str), L2.defArgs st53, L2.defBody st53, L2.defScope st53, [], []⟩
def d54 : He.DefD := ⟨((⟨#[98, 101, 115, 116, 95, 109, 111, 109, 101, 110, 116, 115]⟩ : Str), none), (⟨#[98, 101, 115, 116, 95, 109, 111, 109, 101, 110, 116, 115]⟩ : Str), (⟨#[98, 101, 115, 116, 95, 109, 111, 109, 101, 110, 116, 115]⟩ : Str), L2.defArgs st54, L2.defBody st54, L2.defScope st54, [], []⟩
def d55 : He.DefD := ⟨((⟨#[112, 97, 112, 101, 114, 95, 98, 121]⟩ : Str), none), (⟨#[112, 97, 112, 101, 114, 95, 98, 121]⟩ : Str), (⟨#[112, 97, 112, 101, 114, 95, 98, 121]⟩ : Str), L2.defArgs st55, L2.defBody st55, L2.defScope st55, [], []⟩
def d56 : He.DefD := ⟨((⟨#[102, 101, 119, 101, 115, 116, 95, 112, 97, 112, 101, 114]⟩ : Str), none), (⟨#[102, 101, 119, 101, 115, 116, 95, 112, 97, 112, 101, 114]⟩ : Str), (⟨#[102, 101, 119, 101, 115, 116, 95, 112, 97, 112, 101, 114]⟩ : Str), L2.defArgs st56, L2.defBody st56, L2.defScope st56, [], []⟩
def d57 : He.DefD := ⟨((⟨#[105, 115, 95, 102, 101, 119, 101, 115, 116, 95, 112, 97, 112, 101, 114]⟩ : Str), none), (⟨#[105, 115, 95, 102, 101, 119, 101, 115, 116, 95, 112, 97, 112, 101, 114]⟩ : Str), (⟨#[105, 115, 95, 102, 101, 119, 101, 115, 116, 95, 112, 97, 112, 101, 114]⟩ : Str), L2.defArgs st57, L2.defBody st57, L2.defScope st57, [], []⟩
def d58 : He.DefD := ⟨((⟨#[102, 101, 119, 101, 115, 116, 95, 114, 105, 115, 101, 115]⟩ : Str), none), (⟨#[102, 101, 119, 101, 115, 116, 95, 114, 105, 115, 101, 115]⟩ : Str), (⟨#[102, 101, 119, 101, 115, 116, 95, 114, 105, 115, 101, 115]⟩ : Str), L2.defArgs st58, L2.defBody st58, L2.defScope st58, [], []⟩
def d59 : He.DefD := ⟨((⟨#[95, 108, 97, 119, 95, 100, 105, 99, 101]⟩ : Str), none), (⟨#[95, 108, 97, 119, 95, 100, 105, 99, 101]⟩ : Str), (⟨#[95, 108, 97, 119, 95, 100, 105, 99, 101]⟩ : Str), L2.defArgs st59, L2.defBody st59, L2.defScope st59, [], []⟩
def d60 : He.DefD := ⟨((⟨#[95, 108, 97, 119, 95, 114, 111, 108, 108]⟩ : Str), none), (⟨#[95, 108, 97, 119, 95, 114, 111, 108, 108]⟩ : Str), (⟨#[95, 108, 97, 119, 95, 114, 111, 108, 108]⟩ : Str), L2.defArgs st60, L2.defBody st60, L2.defScope st60, [], []⟩
def d61 : He.DefD := ⟨((⟨#[95, 108, 97, 119, 95, 112, 105, 99, 107]⟩ : Str), none), (⟨#[95, 108, 97, 119, 95, 112, 105, 99, 107]⟩ : Str), (⟨#[95, 108, 97, 119, 95, 112, 105, 99, 107]⟩ : Str), L2.defArgs st61, L2.defBody st61, L2.defScope st61, [], []⟩
def d62 : He.DefD := ⟨((⟨#[95, 108, 97, 119, 95, 115, 117, 109, 115, 95, 114, 105, 103, 104, 116]⟩ : Str), none), (⟨#[95, 108, 97, 119, 95, 115, 117, 109, 115, 95, 114, 105, 103, 104, 116]⟩ : Str), (⟨#[95, 108, 97, 119, 95, 115, 117, 109, 115, 95, 114, 105, 103, 104, 116]⟩ : Str), L2.defArgs st62, L2.defBody st62, L2.defScope st62, [], []⟩
def d63 : He.DefD := ⟨((⟨#[95, 108, 97, 119, 95, 114, 111, 117, 110, 100, 95, 114, 105, 103, 104, 116]⟩ : Str), none), (⟨#[95, 108, 97, 119, 95, 114, 111, 117, 110, 100, 95, 114, 105, 103, 104, 116]⟩ : Str), (⟨#[95, 108, 97, 119, 95, 114, 111, 117, 110, 100, 95, 114, 105, 103, 104, 116]⟩ : Str), L2.defArgs st63, L2.defBody st63, L2.defScope st63, [], []⟩
def d64 : He.DefD := ⟨((⟨#[95, 108, 97, 119, 95, 115, 116, 105, 108, 108, 95, 114, 105, 103, 104, 116]⟩ : Str), none), (⟨#[95, 108, 97, 119, 95, 115, 116, 105, 108, 108, 95, 114, 105, 103, 104, 116]⟩ : Str), (⟨#[95, 108, 97, 119, 95, 115, 116, 105, 108, 108, 95, 114, 105, 103, 104, 116]⟩ : Str), L2.defArgs st64, L2.defBody st64, L2.defScope st64, [], []⟩
def d65 : He.DefD := ⟨((⟨#[108, 97, 119]⟩ : Str), none), (⟨#[108, 97, 119]⟩ : Str), (⟨#[108, 97, 119]⟩ : Str), L2.defArgs st65, L2.defBody st65, L2.defScope st65, [], []⟩
def fn_0 : List He.DefD := [d0, d1, d2, d3, d4, d5, d6, d7, d8, d9, d10, d11, d12, d13, d14, d15, d16, d17, d18, d19, d20, d21, d22, d23, d24, d25, d26, d27, d28, d29]
def fn_1 : List He.DefD := [d30, d31, d32, d33, d34, d35, d36, d37, d38, d39, d40, d41, d42, d43, d44, d45, d46, d47, d48, d49, d50, d51, d52, d53, d54, d55, d56, d57, d58, d59]
def fn_2 : List He.DefD := [d60, d61, d62, d63, d64, d65]
def fnL : List He.DefD := fn_0 ++ (fn_1 ++ (fn_2))
def L : LawT := ⟨fnL, [(⟨#[82, 117, 110, 69, 114, 114, 111, 114]⟩ : Str), (⟨#[73, 110, 118, 97, 108, 105, 100, 66, 111, 117, 110, 100, 115]⟩ : Str), (⟨#[73, 110, 118, 97, 108, 105, 100, 68, 101, 101, 100]⟩ : Str), (⟨#[73, 110, 118, 97, 108, 105, 100, 83, 104, 101, 108, 102]⟩ : Str), (⟨#[73, 110, 118, 97, 108, 105, 100, 79, 112, 101, 114, 97, 116, 105, 111, 110]⟩ : Str), (⟨#[73, 110, 118, 97, 108, 105, 100, 67, 111, 117, 110, 116]⟩ : Str), (⟨#[82, 101, 102, 117, 115, 101, 100]⟩ : Str), (⟨#[72, 97, 110, 100]⟩ : Str), (⟨#[83, 73, 90, 69, 83]⟩ : Str)], [(73, 2), (73, 3), (73, 4)], [(73, 7, 15), (73, 6, 16), (73, 8, 17), (73, 5, 18), (73, 9, 19), (73, 10, 20)], gls, frs, atts, [27, 28, 39, 45], fds⟩
def ts : List He.Tab := [(fun K => He.ga K (⟨#[83, 73, 90, 69, 83]⟩ : Str), [(⟨#[114, 101, 97, 100]⟩ : Str), (⟨#[119, 114, 105, 116, 101]⟩ : Str)])]
end Lw
end
section
open PySem Pv
set_option Elab.async false
set_option linter.all false
set_option maxRecDepth 100000
set_option maxHeartbeats 0
set_option autoImplicit false
namespace Lw
theorem e0 : (tr 60).ss ct0 (L2.defBody st0) = some t0 := by kernel_rfl
theorem s0 : statB d0 ct0.N = true := by decide +kernel
theorem dt0 : DefT L 0 := DefT.mk' (d := d0) (N := ct0.N) (kn := ct0.kn) (lm := ct0.lm) (m := 60) (by kernel_rfl) rfl rfl s0 e0 (by kernel_rfl) (by intro h; cases h)
theorem e1 : (tr 60).ss ct1 (L2.defBody st1) = some t1 := by kernel_rfl
theorem s1 : statB d1 ct1.N = true := by decide +kernel
theorem dt1 : DefT L 1 := DefT.mk' (d := d1) (N := ct1.N) (kn := ct1.kn) (lm := ct1.lm) (m := 60) (by kernel_rfl) rfl rfl s1 e1 (by kernel_rfl) (by intro h; cases h)
theorem e2 : (tr 60).ss ct2 (L2.defBody st2) = some t2 := by kernel_rfl
theorem s2 : statB d2 ct2.N = true := by decide +kernel
theorem dt2 : DefT L 2 := DefT.mk' (d := d2) (N := ct2.N) (kn := ct2.kn) (lm := ct2.lm) (m := 60) (by kernel_rfl) rfl rfl s2 e2 (by kernel_rfl) (by intro h; cases h)
theorem e3 : (tr 60).ss ct3 (L2.defBody st3) = some t3 := by kernel_rfl
theorem s3 : statB d3 ct3.N = true := by decide +kernel
theorem dt3 : DefT L 3 := DefT.mk' (d := d3) (N := ct3.N) (kn := ct3.kn) (lm := ct3.lm) (m := 60) (by kernel_rfl) rfl rfl s3 e3 (by kernel_rfl) (by intro h; cases h)
theorem e4 : (tr 60).ss ct4 (L2.defBody st4) = some t4 := by kernel_rfl
theorem s4 : statB d4 ct4.N = true := by decide +kernel
theorem dt4 : DefT L 4 := DefT.mk' (d := d4) (N := ct4.N) (kn := ct4.kn) (lm := ct4.lm) (m := 60) (by kernel_rfl) rfl rfl s4 e4 (by kernel_rfl) (by intro h; cases h)
theorem e5 : (tr 60).ss ct5 (L2.defBody st5) = some t5 := by kernel_rfl
theorem s5 : statB d5 ct5.N = true := by decide +kernel
theorem dt5 : DefT L 5 := DefT.mk' (d := d5) (N := ct5.N) (kn := ct5.kn) (lm := ct5.lm) (m := 60) (by kernel_rfl) rfl rfl s5 e5 (by kernel_rfl) (by intro h; cases h)
theorem e6 : (tr 60).ss ct6 (L2.defBody st6) = some t6 := by kernel_rfl
theorem s6 : statB d6 ct6.N = true := by decide +kernel
theorem dt6 : DefT L 6 := DefT.mk' (d := d6) (N := ct6.N) (kn := ct6.kn) (lm := ct6.lm) (m := 60) (by kernel_rfl) rfl rfl s6 e6 (by kernel_rfl) (by intro h; cases h)
theorem e7 : (tr 60).ss ct7 (L2.defBody st7) = some t7 := by kernel_rfl
theorem s7 : statB d7 ct7.N = true := by decide +kernel
theorem dt7 : DefT L 7 := DefT.mk' (d := d7) (N := ct7.N) (kn := ct7.kn) (lm := ct7.lm) (m := 60) (by kernel_rfl) rfl rfl s7 e7 (by kernel_rfl) (by intro h; cases h)
theorem e8 : (tr 60).ss ct8 (L2.defBody st8) = some t8 := by kernel_rfl
theorem s8 : statB d8 ct8.N = true := by decide +kernel
theorem dt8 : DefT L 8 := DefT.mk' (d := d8) (N := ct8.N) (kn := ct8.kn) (lm := ct8.lm) (m := 60) (by kernel_rfl) rfl rfl s8 e8 (by kernel_rfl) (by intro h; cases h)
theorem e9 : (tr 60).ss ct9 (L2.defBody st9) = some t9 := by kernel_rfl
theorem s9 : statB d9 ct9.N = true := by decide +kernel
theorem dt9 : DefT L 9 := DefT.mk' (d := d9) (N := ct9.N) (kn := ct9.kn) (lm := ct9.lm) (m := 60) (by kernel_rfl) rfl rfl s9 e9 (by kernel_rfl) (by intro h; cases h)
theorem e10 : (tr 60).ss ct10 (L2.defBody st10) = some t10 := by kernel_rfl
theorem s10 : statB d10 ct10.N = true := by decide +kernel
theorem dt10 : DefT L 10 := DefT.mk' (d := d10) (N := ct10.N) (kn := ct10.kn) (lm := ct10.lm) (m := 60) (by kernel_rfl) rfl rfl s10 e10 (by kernel_rfl) (by intro h; cases h)
theorem e11 : (tr 60).ss ct11 (L2.defBody st11) = some t11 := by kernel_rfl
theorem s11 : statB d11 ct11.N = true := by decide +kernel
theorem dt11 : DefT L 11 := DefT.mk' (d := d11) (N := ct11.N) (kn := ct11.kn) (lm := ct11.lm) (m := 60) (by kernel_rfl) rfl rfl s11 e11 (by kernel_rfl) (by intro h; cases h)
theorem e12 : (tr 60).ss ct12 (L2.defBody st12) = some t12 := by kernel_rfl
theorem s12 : statB d12 ct12.N = true := by decide +kernel
theorem dt12 : DefT L 12 := DefT.mk' (d := d12) (N := ct12.N) (kn := ct12.kn) (lm := ct12.lm) (m := 60) (by kernel_rfl) rfl rfl s12 e12 (by kernel_rfl) (by intro h; cases h)
theorem e13 : (tr 60).ss ct13 (L2.defBody st13) = some t13 := by kernel_rfl
theorem s13 : statB d13 ct13.N = true := by decide +kernel
theorem dt13 : DefT L 13 := DefT.mk' (d := d13) (N := ct13.N) (kn := ct13.kn) (lm := ct13.lm) (m := 60) (by kernel_rfl) rfl rfl s13 e13 (by kernel_rfl) (by intro h; cases h)
theorem e14 : (tr 60).ss ct14 (L2.defBody st14) = some t14 := by kernel_rfl
theorem s14 : statB d14 ct14.N = true := by decide +kernel
theorem dt14 : DefT L 14 := DefT.mk' (d := d14) (N := ct14.N) (kn := ct14.kn) (lm := ct14.lm) (m := 60) (by kernel_rfl) rfl rfl s14 e14 (by kernel_rfl) (by intro h; cases h)
theorem e15 : (tr 60).ss ct15 (L2.defBody st15) = some t15 := by kernel_rfl
theorem s15 : statB d15 ct15.N = true := by decide +kernel
theorem dt15 : DefT L 15 := DefT.mk' (d := d15) (N := ct15.N) (kn := ct15.kn) (lm := ct15.lm) (m := 60) (by kernel_rfl) rfl rfl s15 e15 (by kernel_rfl) (by intro h; cases h)
theorem e16 : (tr 60).ss ct16 (L2.defBody st16) = some t16 := by kernel_rfl
theorem s16 : statB d16 ct16.N = true := by decide +kernel
theorem dt16 : DefT L 16 := DefT.mk' (d := d16) (N := ct16.N) (kn := ct16.kn) (lm := ct16.lm) (m := 60) (by kernel_rfl) rfl rfl s16 e16 (by kernel_rfl) (by intro h; cases h)
theorem e17 : (tr 60).ss ct17 (L2.defBody st17) = some t17 := by kernel_rfl
theorem s17 : statB d17 ct17.N = true := by decide +kernel
theorem dt17 : DefT L 17 := DefT.mk' (d := d17) (N := ct17.N) (kn := ct17.kn) (lm := ct17.lm) (m := 60) (by kernel_rfl) rfl rfl s17 e17 (by kernel_rfl) (by intro h; cases h)
theorem e18 : (tr 60).ss ct18 (L2.defBody st18) = some t18 := by kernel_rfl
theorem s18 : statB d18 ct18.N = true := by decide +kernel
theorem dt18 : DefT L 18 := DefT.mk' (d := d18) (N := ct18.N) (kn := ct18.kn) (lm := ct18.lm) (m := 60) (by kernel_rfl) rfl rfl s18 e18 (by kernel_rfl) (by intro h; cases h)
theorem e19 : (tr 60).ss ct19 (L2.defBody st19) = some t19 := by kernel_rfl
theorem s19 : statB d19 ct19.N = true := by decide +kernel
theorem dt19 : DefT L 19 := DefT.mk' (d := d19) (N := ct19.N) (kn := ct19.kn) (lm := ct19.lm) (m := 60) (by kernel_rfl) rfl rfl s19 e19 (by kernel_rfl) (by intro h; cases h)
theorem e20 : (tr 60).ss ct20 (L2.defBody st20) = some t20 := by kernel_rfl
theorem s20 : statB d20 ct20.N = true := by decide +kernel
theorem dt20 : DefT L 20 := DefT.mk' (d := d20) (N := ct20.N) (kn := ct20.kn) (lm := ct20.lm) (m := 60) (by kernel_rfl) rfl rfl s20 e20 (by kernel_rfl) (by intro h; cases h)
theorem e21 : (tr 60).ss ct21 (L2.defBody st21) = some t21 := by kernel_rfl
theorem s21 : statB d21 ct21.N = true := by decide +kernel
theorem dt21 : DefT L 21 := DefT.mk' (d := d21) (N := ct21.N) (kn := ct21.kn) (lm := ct21.lm) (m := 60) (by kernel_rfl) rfl rfl s21 e21 (by kernel_rfl) (by intro h; cases h)
theorem e22 : (tr 60).ss ct22 (L2.defBody st22) = some t22 := by kernel_rfl
theorem s22 : statB d22 ct22.N = true := by decide +kernel
theorem dt22 : DefT L 22 := DefT.mk' (d := d22) (N := ct22.N) (kn := ct22.kn) (lm := ct22.lm) (m := 60) (by kernel_rfl) rfl rfl s22 e22 (by kernel_rfl) (by intro h; cases h)
theorem e23 : (tr 60).ss ct23 (L2.defBody st23) = some t23 := by kernel_rfl
theorem s23 : statB d23 ct23.N = true := by decide +kernel
theorem dt23 : DefT L 23 := DefT.mk' (d := d23) (N := ct23.N) (kn := ct23.kn) (lm := ct23.lm) (m := 60) (by kernel_rfl) rfl rfl s23 e23 (by kernel_rfl) (by intro h; cases h)
theorem e24 : (tr 60).ss ct24 (L2.defBody st24) = some t24 := by kernel_rfl
theorem s24 : statB d24 ct24.N = true := by decide +kernel
theorem dt24 : DefT L 24 := DefT.mk' (d := d24) (N := ct24.N) (kn := ct24.kn) (lm := ct24.lm) (m := 60) (by kernel_rfl) rfl rfl s24 e24 (by kernel_rfl) (by intro h; cases h)
theorem e25 : (tr 60).ss ct25 (L2.defBody st25) = some t25 := by kernel_rfl
theorem s25 : statB d25 ct25.N = true := by decide +kernel
theorem dt25 : DefT L 25 := DefT.mk' (d := d25) (N := ct25.N) (kn := ct25.kn) (lm := ct25.lm) (m := 60) (by kernel_rfl) rfl rfl s25 e25 (by kernel_rfl) (by intro h; cases h)
theorem e26 : (tr 60).ss ct26 (L2.defBody st26) = some t26 := by kernel_rfl
theorem s26 : statB d26 ct26.N = true := by decide +kernel
theorem dt26 : DefT L 26 := DefT.mk' (d := d26) (N := ct26.N) (kn := ct26.kn) (lm := ct26.lm) (m := 60) (by kernel_rfl) rfl rfl s26 e26 (by kernel_rfl) (by intro h; cases h)
theorem e27 : (tr 60).ss ct27 (L2.defBody st27) = some t27 := by kernel_rfl
theorem s27 : statB d27 ct27.N = true := by decide +kernel
theorem dt27 : DefT L 27 := DefT.mk' (d := d27) (N := ct27.N) (kn := ct27.kn) (lm := ct27.lm) (m := 60) (by kernel_rfl) rfl rfl s27 e27 (by kernel_rfl) (by decide +kernel)
theorem e28 : (tr 60).ss ct28 (L2.defBody st28) = some t28 := by kernel_rfl
theorem s28 : statB d28 ct28.N = true := by decide +kernel
theorem dt28 : DefT L 28 := DefT.mk' (d := d28) (N := ct28.N) (kn := ct28.kn) (lm := ct28.lm) (m := 60) (by kernel_rfl) rfl rfl s28 e28 (by kernel_rfl) (by decide +kernel)
theorem e29 : (tr 60).ss ct29 (L2.defBody st29) = some t29 := by kernel_rfl
theorem s29 : statB d29 ct29.N = true := by decide +kernel
theorem dt29 : DefT L 29 := DefT.mk' (d := d29) (N := ct29.N) (kn := ct29.kn) (lm := ct29.lm) (m := 60) (by kernel_rfl) rfl rfl s29 e29 (by kernel_rfl) (by intro h; cases h)
theorem e30 : (tr 60).ss ct30 (L2.defBody st30) = some t30 := by kernel_rfl
theorem s30 : statB d30 ct30.N = true := by decide +kernel
theorem dt30 : DefT L 30 := DefT.mk' (d := d30) (N := ct30.N) (kn := ct30.kn) (lm := ct30.lm) (m := 60) (by kernel_rfl) rfl rfl s30 e30 (by kernel_rfl) (by intro h; cases h)
theorem e31 : (tr 60).ss ct31 (L2.defBody st31) = some t31 := by kernel_rfl
theorem s31 : statB d31 ct31.N = true := by decide +kernel
theorem dt31 : DefT L 31 := DefT.mk' (d := d31) (N := ct31.N) (kn := ct31.kn) (lm := ct31.lm) (m := 60) (by kernel_rfl) rfl rfl s31 e31 (by kernel_rfl) (by intro h; cases h)
theorem e32 : (tr 60).ss ct32 (L2.defBody st32) = some t32 := by kernel_rfl
theorem s32 : statB d32 ct32.N = true := by decide +kernel
theorem dt32 : DefT L 32 := DefT.mk' (d := d32) (N := ct32.N) (kn := ct32.kn) (lm := ct32.lm) (m := 60) (by kernel_rfl) rfl rfl s32 e32 (by kernel_rfl) (by intro h; cases h)
theorem e33 : (tr 60).ss ct33 (L2.defBody st33) = some t33 := by kernel_rfl
theorem s33 : statB d33 ct33.N = true := by decide +kernel
theorem dt33 : DefT L 33 := DefT.mk' (d := d33) (N := ct33.N) (kn := ct33.kn) (lm := ct33.lm) (m := 60) (by kernel_rfl) rfl rfl s33 e33 (by kernel_rfl) (by intro h; cases h)
theorem e34 : (tr 60).ss ct34 (L2.defBody st34) = some t34 := by kernel_rfl
theorem s34 : statB d34 ct34.N = true := by decide +kernel
theorem dt34 : DefT L 34 := DefT.mk' (d := d34) (N := ct34.N) (kn := ct34.kn) (lm := ct34.lm) (m := 60) (by kernel_rfl) rfl rfl s34 e34 (by kernel_rfl) (by intro h; cases h)
theorem e35 : (tr 60).ss ct35 (L2.defBody st35) = some t35 := by kernel_rfl
theorem s35 : statB d35 ct35.N = true := by decide +kernel
theorem dt35 : DefT L 35 := DefT.mk' (d := d35) (N := ct35.N) (kn := ct35.kn) (lm := ct35.lm) (m := 60) (by kernel_rfl) rfl rfl s35 e35 (by kernel_rfl) (by intro h; cases h)
theorem e36 : (tr 60).ss ct36 (L2.defBody st36) = some t36 := by kernel_rfl
theorem s36 : statB d36 ct36.N = true := by decide +kernel
theorem dt36 : DefT L 36 := DefT.mk' (d := d36) (N := ct36.N) (kn := ct36.kn) (lm := ct36.lm) (m := 60) (by kernel_rfl) rfl rfl s36 e36 (by kernel_rfl) (by intro h; cases h)
theorem e37 : (tr 60).ss ct37 (L2.defBody st37) = some t37 := by kernel_rfl
theorem s37 : statB d37 ct37.N = true := by decide +kernel
theorem dt37 : DefT L 37 := DefT.mk' (d := d37) (N := ct37.N) (kn := ct37.kn) (lm := ct37.lm) (m := 60) (by kernel_rfl) rfl rfl s37 e37 (by kernel_rfl) (by intro h; cases h)
theorem e38 : (tr 60).ss ct38 (L2.defBody st38) = some t38 := by kernel_rfl
theorem s38 : statB d38 ct38.N = true := by decide +kernel
theorem dt38 : DefT L 38 := DefT.mk' (d := d38) (N := ct38.N) (kn := ct38.kn) (lm := ct38.lm) (m := 60) (by kernel_rfl) rfl rfl s38 e38 (by kernel_rfl) (by intro h; cases h)
theorem e39 : (tr 60).ss ct39 (L2.defBody st39) = some t39 := by kernel_rfl
theorem s39 : statB d39 ct39.N = true := by decide +kernel
theorem dt39 : DefT L 39 := DefT.mk' (d := d39) (N := ct39.N) (kn := ct39.kn) (lm := ct39.lm) (m := 60) (by kernel_rfl) rfl rfl s39 e39 (by kernel_rfl) (by decide +kernel)
theorem e40 : (tr 60).ss ct40 (L2.defBody st40) = some t40 := by kernel_rfl
theorem s40 : statB d40 ct40.N = true := by decide +kernel
theorem dt40 : DefT L 40 := DefT.mk' (d := d40) (N := ct40.N) (kn := ct40.kn) (lm := ct40.lm) (m := 60) (by kernel_rfl) rfl rfl s40 e40 (by kernel_rfl) (by intro h; cases h)
theorem e41 : (tr 60).ss ct41 (L2.defBody st41) = some t41 := by kernel_rfl
theorem s41 : statB d41 ct41.N = true := by decide +kernel
theorem dt41 : DefT L 41 := DefT.mk' (d := d41) (N := ct41.N) (kn := ct41.kn) (lm := ct41.lm) (m := 60) (by kernel_rfl) rfl rfl s41 e41 (by kernel_rfl) (by intro h; cases h)
theorem e42 : (tr 60).ss ct42 (L2.defBody st42) = some t42 := by kernel_rfl
theorem s42 : statB d42 ct42.N = true := by decide +kernel
theorem dt42 : DefT L 42 := DefT.mk' (d := d42) (N := ct42.N) (kn := ct42.kn) (lm := ct42.lm) (m := 60) (by kernel_rfl) rfl rfl s42 e42 (by kernel_rfl) (by intro h; cases h)
theorem e43 : (tr 60).ss ct43 (L2.defBody st43) = some t43 := by kernel_rfl
theorem s43 : statB d43 ct43.N = true := by decide +kernel
theorem dt43 : DefT L 43 := DefT.mk' (d := d43) (N := ct43.N) (kn := ct43.kn) (lm := ct43.lm) (m := 60) (by kernel_rfl) rfl rfl s43 e43 (by kernel_rfl) (by intro h; cases h)
theorem e44 : (tr 60).ss ct44 (L2.defBody st44) = some t44 := by kernel_rfl
theorem s44 : statB d44 ct44.N = true := by decide +kernel
theorem dt44 : DefT L 44 := DefT.mk' (d := d44) (N := ct44.N) (kn := ct44.kn) (lm := ct44.lm) (m := 60) (by kernel_rfl) rfl rfl s44 e44 (by kernel_rfl) (by intro h; cases h)
theorem e45 : (tr 60).ss ct45 (L2.defBody st45) = some t45 := by kernel_rfl
theorem s45 : statB d45 ct45.N = true := by decide +kernel
theorem dt45 : DefT L 45 := DefT.mk' (d := d45) (N := ct45.N) (kn := ct45.kn) (lm := ct45.lm) (m := 60) (by kernel_rfl) rfl rfl s45 e45 (by kernel_rfl) (by decide +kernel)
theorem e46 : (tr 60).ss ct46 (L2.defBody st46) = some t46 := by kernel_rfl
theorem s46 : statB d46 ct46.N = true := by decide +kernel
theorem dt46 : DefT L 46 := DefT.mk' (d := d46) (N := ct46.N) (kn := ct46.kn) (lm := ct46.lm) (m := 60) (by kernel_rfl) rfl rfl s46 e46 (by kernel_rfl) (by intro h; cases h)
theorem e47 : (tr 60).ss ct47 (L2.defBody st47) = some t47 := by kernel_rfl
theorem s47 : statB d47 ct47.N = true := by decide +kernel
theorem dt47 : DefT L 47 := DefT.mk' (d := d47) (N := ct47.N) (kn := ct47.kn) (lm := ct47.lm) (m := 60) (by kernel_rfl) rfl rfl s47 e47 (by kernel_rfl) (by intro h; cases h)
theorem e48 : (tr 60).ss ct48 (L2.defBody st48) = some t48 := by kernel_rfl
theorem s48 : statB d48 ct48.N = true := by decide +kernel
theorem dt48 : DefT L 48 := DefT.mk' (d := d48) (N := ct48.N) (kn := ct48.kn) (lm := ct48.lm) (m := 60) (by kernel_rfl) rfl rfl s48 e48 (by kernel_rfl) (by intro h; cases h)
theorem e49 : (tr 60).ss ct49 (L2.defBody st49) = some t49 := by kernel_rfl
theorem s49 : statB d49 ct49.N = true := by decide +kernel
theorem dt49 : DefT L 49 := DefT.mk' (d := d49) (N := ct49.N) (kn := ct49.kn) (lm := ct49.lm) (m := 60) (by kernel_rfl) rfl rfl s49 e49 (by kernel_rfl) (by intro h; cases h)
theorem e50 : (tr 60).ss ct50 (L2.defBody st50) = some t50 := by kernel_rfl
theorem s50 : statB d50 ct50.N = true := by decide +kernel
theorem dt50 : DefT L 50 := DefT.mk' (d := d50) (N := ct50.N) (kn := ct50.kn) (lm := ct50.lm) (m := 60) (by kernel_rfl) rfl rfl s50 e50 (by kernel_rfl) (by intro h; cases h)
theorem e51 : (tr 60).ss ct51 (L2.defBody st51) = some t51 := by kernel_rfl
theorem s51 : statB d51 ct51.N = true := by decide +kernel
theorem dt51 : DefT L 51 := DefT.mk' (d := d51) (N := ct51.N) (kn := ct51.kn) (lm := ct51.lm) (m := 60) (by kernel_rfl) rfl rfl s51 e51 (by kernel_rfl) (by intro h; cases h)
theorem e52 : (tr 60).ss ct52 (L2.defBody st52) = some t52 := by kernel_rfl
theorem s52 : statB d52 ct52.N = true := by decide +kernel
theorem dt52 : DefT L 52 := DefT.mk' (d := d52) (N := ct52.N) (kn := ct52.kn) (lm := ct52.lm) (m := 60) (by kernel_rfl) rfl rfl s52 e52 (by kernel_rfl) (by intro h; cases h)
theorem e53 : (tr 60).ss ct53 (L2.defBody st53) = some t53 := by kernel_rfl
theorem s53 : statB d53 ct53.N = true := by decide +kernel
theorem dt53 : DefT L 53 := DefT.mk' (d := d53) (N := ct53.N) (kn := ct53.kn) (lm := ct53.lm) (m := 60) (by kernel_rfl) rfl rfl s53 e53 (by kernel_rfl) (by intro h; cases h)
theorem e54 : (tr 60).ss ct54 (L2.defBody st54) = some t54 := by kernel_rfl
theorem s54 : statB d54 ct54.N = true := by decide +kernel
theorem dt54 : DefT L 54 := DefT.mk' (d := d54) (N := ct54.N) (kn := ct54.kn) (lm := ct54.lm) (m := 60) (by kernel_rfl) rfl rfl s54 e54 (by kernel_rfl) (by intro h; cases h)
theorem e55 : (tr 60).ss ct55 (L2.defBody st55) = some t55 := by kernel_rfl
theorem s55 : statB d55 ct55.N = true := by decide +kernel
theorem dt55 : DefT L 55 := DefT.mk' (d := d55) (N := ct55.N) (kn := ct55.kn) (lm := ct55.lm) (m := 60) (by kernel_rfl) rfl rfl s55 e55 (by kernel_rfl) (by intro h; cases h)
theorem e56 : (tr 60).ss ct56 (L2.defBody st56) = some t56 := by kernel_rfl
theorem s56 : statB d56 ct56.N = true := by decide +kernel
theorem dt56 : DefT L 56 := DefT.mk' (d := d56) (N := ct56.N) (kn := ct56.kn) (lm := ct56.lm) (m := 60) (by kernel_rfl) rfl rfl s56 e56 (by kernel_rfl) (by intro h; cases h)
theorem e57 : (tr 60).ss ct57 (L2.defBody st57) = some t57 := by kernel_rfl
theorem s57 : statB d57 ct57.N = true := by decide +kernel
theorem dt57 : DefT L 57 := DefT.mk' (d := d57) (N := ct57.N) (kn := ct57.kn) (lm := ct57.lm) (m := 60) (by kernel_rfl) rfl rfl s57 e57 (by kernel_rfl) (by intro h; cases h)
theorem e58 : (tr 60).ss ct58 (L2.defBody st58) = some t58 := by kernel_rfl
theorem s58 : statB d58 ct58.N = true := by decide +kernel
theorem dt58 : DefT L 58 := DefT.mk' (d := d58) (N := ct58.N) (kn := ct58.kn) (lm := ct58.lm) (m := 60) (by kernel_rfl) rfl rfl s58 e58 (by kernel_rfl) (by intro h; cases h)
theorem e59 : (tr 60).ss ct59 (L2.defBody st59) = some t59 := by kernel_rfl
theorem s59 : statB d59 ct59.N = true := by decide +kernel
theorem dt59 : DefT L 59 := DefT.mk' (d := d59) (N := ct59.N) (kn := ct59.kn) (lm := ct59.lm) (m := 60) (by kernel_rfl) rfl rfl s59 e59 (by kernel_rfl) (by intro h; cases h)
theorem e60 : (tr 60).ss ct60 (L2.defBody st60) = some t60 := by kernel_rfl
theorem s60 : statB d60 ct60.N = true := by decide +kernel
theorem dt60 : DefT L 60 := DefT.mk' (d := d60) (N := ct60.N) (kn := ct60.kn) (lm := ct60.lm) (m := 60) (by kernel_rfl) rfl rfl s60 e60 (by kernel_rfl) (by intro h; cases h)
theorem e61 : (tr 60).ss ct61 (L2.defBody st61) = some t61 := by kernel_rfl
theorem s61 : statB d61 ct61.N = true := by decide +kernel
theorem dt61 : DefT L 61 := DefT.mk' (d := d61) (N := ct61.N) (kn := ct61.kn) (lm := ct61.lm) (m := 60) (by kernel_rfl) rfl rfl s61 e61 (by kernel_rfl) (by intro h; cases h)
theorem e62 : (tr 60).ss ct62 (L2.defBody st62) = some t62 := by kernel_rfl
theorem s62 : statB d62 ct62.N = true := by decide +kernel
theorem dt62 : DefT L 62 := DefT.mk' (d := d62) (N := ct62.N) (kn := ct62.kn) (lm := ct62.lm) (m := 60) (by kernel_rfl) rfl rfl s62 e62 (by kernel_rfl) (by intro h; cases h)
theorem e63 : (tr 60).ss ct63 (L2.defBody st63) = some t63 := by kernel_rfl
theorem s63 : statB d63 ct63.N = true := by decide +kernel
theorem dt63 : DefT L 63 := DefT.mk' (d := d63) (N := ct63.N) (kn := ct63.kn) (lm := ct63.lm) (m := 60) (by kernel_rfl) rfl rfl s63 e63 (by kernel_rfl) (by intro h; cases h)
theorem e64 : (tr 60).ss ct64 (L2.defBody st64) = some t64 := by kernel_rfl
theorem s64 : statB d64 ct64.N = true := by decide +kernel
theorem dt64 : DefT L 64 := DefT.mk' (d := d64) (N := ct64.N) (kn := ct64.kn) (lm := ct64.lm) (m := 60) (by kernel_rfl) rfl rfl s64 e64 (by kernel_rfl) (by intro h; cases h)
theorem e65 : (tr 60).ss ct65 (L2.defBody st65) = some t65 := by kernel_rfl
theorem s65 : statB d65 ct65.N = true := by decide +kernel
theorem dt65 : DefT L 65 := DefT.mk' (d := d65) (N := ct65.N) (kn := ct65.kn) (lm := ct65.lm) (m := 60) (by kernel_rfl) rfl rfl s65 e65 (by kernel_rfl) (by intro h; cases h)
theorem b0 : Below (DefT L) 0 := .nil
theorem b1 : Below (DefT L) 1 := .snoc b0 dt0
theorem b2 : Below (DefT L) 2 := .snoc b1 dt1
theorem b3 : Below (DefT L) 3 := .snoc b2 dt2
theorem b4 : Below (DefT L) 4 := .snoc b3 dt3
theorem b5 : Below (DefT L) 5 := .snoc b4 dt4
theorem b6 : Below (DefT L) 6 := .snoc b5 dt5
theorem b7 : Below (DefT L) 7 := .snoc b6 dt6
theorem b8 : Below (DefT L) 8 := .snoc b7 dt7
theorem b9 : Below (DefT L) 9 := .snoc b8 dt8
theorem b10 : Below (DefT L) 10 := .snoc b9 dt9
theorem b11 : Below (DefT L) 11 := .snoc b10 dt10
theorem b12 : Below (DefT L) 12 := .snoc b11 dt11
theorem b13 : Below (DefT L) 13 := .snoc b12 dt12
theorem b14 : Below (DefT L) 14 := .snoc b13 dt13
theorem b15 : Below (DefT L) 15 := .snoc b14 dt14
theorem b16 : Below (DefT L) 16 := .snoc b15 dt15
theorem b17 : Below (DefT L) 17 := .snoc b16 dt16
theorem b18 : Below (DefT L) 18 := .snoc b17 dt17
theorem b19 : Below (DefT L) 19 := .snoc b18 dt18
theorem b20 : Below (DefT L) 20 := .snoc b19 dt19
theorem b21 : Below (DefT L) 21 := .snoc b20 dt20
theorem b22 : Below (DefT L) 22 := .snoc b21 dt21
theorem b23 : Below (DefT L) 23 := .snoc b22 dt22
theorem b24 : Below (DefT L) 24 := .snoc b23 dt23
theorem b25 : Below (DefT L) 25 := .snoc b24 dt24
theorem b26 : Below (DefT L) 26 := .snoc b25 dt25
theorem b27 : Below (DefT L) 27 := .snoc b26 dt26
theorem b28 : Below (DefT L) 28 := .snoc b27 dt27
theorem b29 : Below (DefT L) 29 := .snoc b28 dt28
theorem b30 : Below (DefT L) 30 := .snoc b29 dt29
theorem b31 : Below (DefT L) 31 := .snoc b30 dt30
theorem b32 : Below (DefT L) 32 := .snoc b31 dt31
theorem b33 : Below (DefT L) 33 := .snoc b32 dt32
theorem b34 : Below (DefT L) 34 := .snoc b33 dt33
theorem b35 : Below (DefT L) 35 := .snoc b34 dt34
theorem b36 : Below (DefT L) 36 := .snoc b35 dt35
theorem b37 : Below (DefT L) 37 := .snoc b36 dt36
theorem b38 : Below (DefT L) 38 := .snoc b37 dt37
theorem b39 : Below (DefT L) 39 := .snoc b38 dt38
theorem b40 : Below (DefT L) 40 := .snoc b39 dt39
theorem b41 : Below (DefT L) 41 := .snoc b40 dt40
theorem b42 : Below (DefT L) 42 := .snoc b41 dt41
theorem b43 : Below (DefT L) 43 := .snoc b42 dt42
theorem b44 : Below (DefT L) 44 := .snoc b43 dt43
theorem b45 : Below (DefT L) 45 := .snoc b44 dt44
theorem b46 : Below (DefT L) 46 := .snoc b45 dt45
theorem b47 : Below (DefT L) 47 := .snoc b46 dt46
theorem b48 : Below (DefT L) 48 := .snoc b47 dt47
theorem b49 : Below (DefT L) 49 := .snoc b48 dt48
theorem b50 : Below (DefT L) 50 := .snoc b49 dt49
theorem b51 : Below (DefT L) 51 := .snoc b50 dt50
theorem b52 : Below (DefT L) 52 := .snoc b51 dt51
theorem b53 : Below (DefT L) 53 := .snoc b52 dt52
theorem b54 : Below (DefT L) 54 := .snoc b53 dt53
theorem b55 : Below (DefT L) 55 := .snoc b54 dt54
theorem b56 : Below (DefT L) 56 := .snoc b55 dt55
theorem b57 : Below (DefT L) 57 := .snoc b56 dt56
theorem b58 : Below (DefT L) 58 := .snoc b57 dt57
theorem b59 : Below (DefT L) 59 := .snoc b58 dt58
theorem b60 : Below (DefT L) 60 := .snoc b59 dt59
theorem b61 : Below (DefT L) 61 := .snoc b60 dt60
theorem b62 : Below (DefT L) 62 := .snoc b61 dt61
theorem b63 : Below (DefT L) 63 := .snoc b62 dt62
theorem b64 : Below (DefT L) 64 := .snoc b63 dt63
theorem b65 : Below (DefT L) 65 := .snoc b64 dt64
theorem b66 : Below (DefT L) 66 := .snoc b65 dt65
theorem all_ : Bt.allT (fun i => Nat.blt i 66) 12 L.fds (fun i => i) = true := by kernel_rfl
theorem defs : ∀ f fd, L.fds.get 12 f = some fd → DefT L f := defs_of all_ b66
theorem natts : L.atts.Nodup := by decide +kernel
end Lw
end
section
open PySem Pv
set_option Elab.async false
set_option linter.all false
set_option maxRecDepth 100000
set_option maxHeartbeats 0
set_option autoImplicit false
namespace Lw
abbrev R : PySem.W.OpenRow := PySem.W.OpenLaw.row PySem.Challenge.rw_diskdoubt_k91_closed_sums_of_asks
noncomputable abbrev hk : PySem.W.Hook := hookL 4 L.fn ts (L.tf.map L.at_) (L.ex ts)
noncomputable def ob (s : PySem.W.SharedT) : He.AlX := obsL 4 L.fn ts (L.tf.map L.at_) (L.ex ts) (HandSHeadRun.getT s)
theorem ob_eq (s : PySem.W.SharedT) : ob s = hk.obs s.abs := obsL_eq (HandSHeadRun.getT_eq s)
def lo_0 : List Str := [(⟨#[95, 95, 110, 97, 109, 101, 95, 95]⟩ : Str), (⟨#[82, 117, 110, 69, 114, 114, 111, 114]⟩ : Str), (⟨#[73, 110, 118, 97, 108, 105, 100, 66, 111, 117, 110, 100, 115]⟩ : Str), (⟨#[73, 110, 118, 97, 108, 105, 100, 68, 101, 101, 100]⟩ : Str), (⟨#[73, 110, 118, 97, 108, 105, 100, 83, 104, 101, 108, 102]⟩ : Str), (⟨#[73, 110, 118, 97, 108, 105, 100, 79, 112, 101, 114, 97, 116, 105, 111, 110]⟩ : Str), (⟨#[73, 110, 118, 97, 108, 105, 100, 67, 111, 117, 110, 116]⟩ : Str), (⟨#[82, 101, 102, 117, 115, 101, 100]⟩ : Str), (⟨#[105, 115, 95, 105, 110, 116, 101, 103, 101, 114]⟩ : Str), (⟨#[105, 115, 95, 99, 111, 117, 110, 116]⟩ : Str), (⟨#[105, 115, 95, 97, 115, 99, 101, 110, 100, 105, 110, 103]⟩ : Str), (⟨#[77, 79, 83, 84, 95, 80, 76, 65, 67, 69, 83]⟩ : Str), (⟨#[77, 79, 83, 84, 95, 87, 79, 82, 84, 72, 83]⟩ : Str), (⟨#[77, 79, 83, 84, 95, 84, 73, 77, 69, 83]⟩ : Str), (⟨#[105, 115, 95, 112, 108, 97, 105, 110, 95, 98, 111, 117, 110, 100, 115]⟩ : Str), (⟨#[114, 101, 113, 117, 105, 114, 101, 95, 98, 111, 117, 110, 100, 115]⟩ : Str), (⟨#[82, 69, 65, 68]⟩ : Str), (⟨#[87, 82, 73, 84, 69]⟩ : Str), (⟨#[83, 73, 90, 69, 83]⟩ : Str), (⟨#[105, 115, 95, 119, 105, 116, 104, 105, 110]⟩ : Str), (⟨#[105, 115, 95, 119, 111, 114, 116, 104]⟩ : Str), (⟨#[105, 115, 95, 100, 101, 101, 100, 95, 98, 121]⟩ : Str), (⟨#[114, 101, 113, 117, 105, 114, 101, 95, 102, 114, 111, 109, 95, 111, 110, 101]⟩ : Str), (⟨#[97, 115, 107, 115, 95, 111, 102]⟩ : Str), (⟨#[108, 101, 97, 115, 116, 95, 115, 116, 114, 101, 116, 99, 104]⟩ : Str), (⟨#[84, 65, 75, 69]⟩ : Str), (⟨#[80, 85, 84]⟩ : Str), (⟨#[114, 101, 113, 117, 105, 114, 101, 95, 115, 105, 122, 101]⟩ : Str), (⟨#[114, 101, 113, 117, 105, 114, 101, 95, 115, 104, 101, 108, 102]⟩ : Str), (⟨#[114, 101, 113, 117, 105, 114, 101, 95, 100, 101, 101, 100, 115, 95, 111, 102]⟩ : Str)]
def lo_1 : List Str := [(⟨#[72, 97, 110, 100]⟩ : Str), (⟨#[99, 104, 111, 115, 101, 110]⟩ : Str), (⟨#[105, 115, 95, 112, 108, 97, 105, 110, 95, 99, 104, 111, 105, 99, 101]⟩ : Str), (⟨#[114, 101, 113, 117, 105, 114, 101, 95, 99, 104, 111, 105, 99, 101]⟩ : Str), (⟨#[97, 115, 107, 115, 95, 98, 121]⟩ : Str), (⟨#[99, 111, 117, 110, 116, 95, 116, 97, 107, 101, 115]⟩ : Str), (⟨#[102, 101, 116, 99, 104, 101, 115]⟩ : Str), (⟨#[102, 105, 114, 115, 116, 95, 105, 110]⟩ : Str), (⟨#[108, 111, 110, 103, 95, 97, 103, 111]⟩ : Str), (⟨#[77, 79, 83, 84, 95, 77, 79, 77, 69, 78, 84, 83]⟩ : Str), (⟨#[114, 101, 113, 117, 105, 114, 101, 95, 114, 111, 119]⟩ : Str), (⟨#[114, 101, 113, 117, 105, 114, 101, 95, 98, 111, 116, 104]⟩ : Str), (⟨#[100, 101, 101, 100, 115, 95, 98, 121]⟩ : Str), (⟨#[103, 97, 112, 115, 95, 98, 121]⟩ : Str), (⟨#[103, 97, 112, 115, 95, 111, 102]⟩ : Str), (⟨#[111, 118, 101, 114]⟩ : Str), (⟨#[116, 111, 111, 95, 102, 117, 108, 108]⟩ : Str), (⟨#[114, 101, 113, 117, 105, 114, 101, 95, 103, 97, 112, 115]⟩ : Str), (⟨#[105, 115, 95, 103, 97, 112]⟩ : Str), (⟨#[102, 114, 101, 101, 95, 99, 104, 111, 105, 99, 101]⟩ : Str), (⟨#[99, 104, 111, 105, 99, 101, 115, 95, 102, 111, 114]⟩ : Str), (⟨#[114, 101, 113, 117, 105, 114, 101, 95, 99, 104, 111, 105, 99, 101, 115]⟩ : Str), (⟨#[107, 101, 112, 116, 95, 103, 97, 112, 115]⟩ : Str), (⟨#[107, 101, 112, 116, 95, 98, 121]⟩ : Str), (⟨#[97, 115, 107, 101, 100, 95, 110, 101, 120, 116]⟩ : Str), (⟨#[108, 97, 115, 116, 95, 111, 102, 95, 97, 108, 108]⟩ : Str), (⟨#[102, 97, 114, 116, 104, 101, 115, 116, 95, 98, 121]⟩ : Str), (⟨#[102, 97, 114, 116, 104, 101, 115, 116]⟩ : Str), (⟨#[109, 111, 115, 116, 95, 98, 121]⟩ : Str), (⟨#[102, 101, 119, 101, 115, 116]⟩ : Str)]
def lo_2 : List Str := [(⟨#[109, 111, 115, 116, 95, 107, 101, 112, 116]⟩ : Str), (⟨#[97, 114, 101, 95, 109, 111, 109, 101, 110, 116, 115]⟩ : Str), (⟨#[115, 104, 111, 119, 110, 95, 109, 97, 110, 121]⟩ : Str), (⟨#[115, 104, 111, 119, 110, 95, 98, 121]⟩ : Str), (⟨#[102, 114, 101, 101, 95, 97, 104, 101, 97, 100]⟩ : Str), (⟨#[98, 101, 115, 116, 95, 109, 111, 109, 101, 110, 116, 115]⟩ : Str), (⟨#[112, 97, 112, 101, 114, 95, 98, 121]⟩ : Str), (⟨#[102, 101, 119, 101, 115, 116, 95, 112, 97, 112, 101, 114]⟩ : Str), (⟨#[105, 115, 95, 102, 101, 119, 101, 115, 116, 95, 112, 97, 112, 101, 114]⟩ : Str), (⟨#[102, 101, 119, 101, 115, 116, 95, 114, 105, 115, 101, 115]⟩ : Str), (⟨#[95, 108, 97, 119, 95, 100, 105, 99, 101]⟩ : Str), (⟨#[95, 108, 97, 119, 95, 114, 111, 108, 108]⟩ : Str), (⟨#[95, 108, 97, 119, 95, 112, 105, 99, 107]⟩ : Str), (⟨#[95, 108, 97, 119, 95, 115, 117, 109, 115, 95, 114, 105, 103, 104, 116]⟩ : Str), (⟨#[95, 108, 97, 119, 95, 114, 111, 117, 110, 100, 95, 114, 105, 103, 104, 116]⟩ : Str), (⟨#[95, 108, 97, 119, 95, 115, 116, 105, 108, 108, 95, 114, 105, 103, 104, 116]⟩ : Str)]
def loose : List Str := lo_0 ++ (lo_1 ++ (lo_2))
theorem runF (w : World) : HandSHeadRun.RunEq R (PySem.W.view R.prog [83]) hk ob 20000 loose (w.withFollow "special-get-raises" false) := by
  intro os
  kernel_rfl
theorem runT (w : World) : HandSHeadRun.RunEq R (PySem.W.view R.prog [83]) hk ob 20000 loose (w.withFollow "special-get-raises" true) := by
  intro os
  kernel_rfl
theorem run (w : World) : HandSHeadRun.RunEq R (PySem.W.view R.prog [83]) hk ob 20000 loose w := PySem.W.byRow2 "special-get-raises" (P := fun w => HandSHeadRun.RunEq R (PySem.W.view R.prog [83]) hk ob 20000 loose w) runF runT w
end Lw
end
section
open PySem Pv PySem.W PySem.Calls PyProof.Rows
set_option Elab.async false
set_option linter.all false
set_option maxRecDepth 100000
set_option maxHeartbeats 0
set_option autoImplicit false
namespace Lw
abbrev row : PySem.W.OpenLaw := PySem.Challenge.rw_diskdoubt_k91_closed_sums_of_asks
theorem hold {cl : Cl} {dk n : Nat} (hn : n ≤ sizeLine) (hr : L2.Room (2 * dk + 2) callerA)
    (lift : ∀ (w : World) (K : PySem.W.Frag) (mg : Str → Option Value) (base : Heap), Prog (L.G K w) L.B w K mg base L.gls L.frs L.atts → Glb (L.G K w) L.B row.prog w K mg base cl (2 * dk) L.gls L.frs L.atts)
    (ev : ∀ (ns : List Int) (o : O), ns.length ≤ 63 → Scr ns o → ∃ h', callF L.B cl 65 [.obj 0] ⟨1, [o], []⟩ = .ok (.bl true) h') : row.Holds := by
  w_on; o_law
  refine HandSHeadRun.head_any (r := R) (q := view R.prog [83]) (H := hk) (ob := ob) (M := 20000) (loose := loose) (d := HandSHeadRun.topDef R.prog 83) (kwd := []) ob_eq
    (by kernel_rfl) (fun s => by kernel_rfl) run (by kernel_rfl) (by kernel_rfl) (by kernel_rfl) (by rfl) (by first | assumption | decide +kernel) (by decide +kernel) ⟨rfl, rfl, rfl, rfl, rfl, by decide +kernel⟩ ?hw ?hc
  case hw => w_witness2
  case hc =>
    refine LamX.walk_ofTsE (l := row) (n := 63) (k := 2 * dk + 2) (x := "script") (CX := fun w => L2.CX row.prog w) rfl (by decide) (by kernel_rfl) hr ?F ?hCX
    case F =>
      intro w mg fa h Y G hm
      have hm : mg "law" = some (.ref fa) := by
        have e : (HandSHeadRun.topDef R.prog 83).name = ("law" : Str) := by kernel_rfl
        rw [← e]
        exact hm
      exact law_at (f := 65) natts defs hn (fun d hd => by cases hd; kernel_rfl) (Option.isSome_iff_exists.mp (show (L.fds.get 12 65).isSome = true by kernel_rfl)) ⟨1, by kernel_rfl⟩ (lift w) ev Y G hm
    case hCX =>
      intro w H s e s' h
      obtain ⟨_, _, _, _, _, _, _, _, _, _, _, _, z⟩ := h
      exact z
end Lw
end
section
open PySem Pv PySem.W
set_option Elab.async false
set_option linter.all false
set_option maxRecDepth 100000
set_option maxHeartbeats 0
set_option autoImplicit false
namespace Lw
/-- these defs are run on an empty heap where they are given plain data -/
noncomputable def isC (f : Nat) : Bool := bif' (Nat.beq f 45) true (bif' (Nat.beq f 41) true (bif' (Nat.beq f 54) true (bif' (Nat.beq f 22) true (bif' (Nat.beq f 32) true (bif' (Nat.beq f 29) true (Nat.beq f 31))))))
noncomputable abbrev LV (n k : Nat) : Cl := levT L.B (fun c => pureC c isC) n k
abbrev S (a b c : Int) : Sh := ⟨1, [.lst [.int a, .int b, .int c]], []⟩
theorem roll (a b c t : Int) (h0 : 0 < t) (h1 : t < 1073741824) (c0 : 0 ≤ c) (c1 : c ≤ 1000000) : ∃ r a' c', 0 ≤ r ∧ r < t ∧ 0 ≤ c' ∧ c' ≤ c + 1 ∧ ∀ cl, callF L.B cl 60 [.obj 0, .int t] (S a b c) = .ok (.int r) (S a' b c') := by
  by_cases ha : 0 < a
  · refine ⟨a % t, a / t, c, Int.emod_nonneg _ (by omega), Int.emod_lt_of_pos _ h0, c0, by omega, fun cl => ?_⟩
    refine Ev.def_ (t := t60) (fd := ⟨2, [none, none, none], t60⟩) (by kernel_rfl) rfl ?_
    refine Ev.seqR (Ev.sifT (Ev.gtT (Ev.ix (Ev.slot rfl) Ev.cst rfl) Ev.cst ha) (Ev.seq (Ev.asg rfl (Ev.divmod (Ev.cons0 (Ev.ix (Ev.slot rfl) Ev.cst rfl) (Ev.cons0 (Ev.slot rfl) Ev.nil)) h0 h1) (Ev.gtup rfl (Ev.gcons (Ev.gsub rfl (Ev.slot rfl) Ev.cst rfl) (Ev.gcons (Ev.gname rfl) Ev.gnil)))) (Ev.seqR (Ev.ret (Ev.int (Ev.cons0 (Ev.slot rfl) Ev.nil))))))
  · have e : ∃ X : Int, ∀ cl, callF L.B cl 60 [.obj 0, .int t] (S a b c) = .ok (.int (X % t)) (S a b (c + 1)) := by
      refine ⟨_, fun cl => Ev.def_ (t := t60) (fd := ⟨2, [none, none, none], t60⟩) (by kernel_rfl) rfl (Ev.seq (Ev.sifF (Ev.gtF (Ev.ix (Ev.slot rfl) Ev.cst rfl) Ev.cst ha) Ev.snil) (Ev.seq (Ev.asg rfl (Ev.add (Ev.ix (Ev.slot rfl) Ev.cst rfl) Ev.cst) (Ev.gsub rfl (Ev.slot rfl) Ev.cst rfl))
        (Ev.seq (Ev.name (Ev.mod (Ev.add (Ev.ix (Ev.slot rfl) Ev.cst rfl) (Ev.mul Ev.cst (Ev.ix (Ev.slot rfl) Ev.cst rfl) ?_ ?_)) Ev.cst ?_) rfl)
        (Ev.seq (Ev.name (Ev.add (Ev.mul (Ev.mod (Ev.add (Ev.mul (Ev.slot rfl) (Ev.slot rfl) ?_ ?_) (Ev.mul Ev.cst (Ev.ix (Ev.slot rfl) Ev.cst rfl) ?_ ?_)) Ev.cst ?_) Ev.cst ?_ ?_) (Ev.slot rfl)) rfl)
        (Ev.seqR (Ev.ret (Ev.mod (Ev.int (Ev.cons0 (Ev.fdiv (Ev.slot rfl) Ev.cst ?_ ?_) Ev.nil)) (Ev.slot rfl) h0)))))))⟩
      all_goals first | decide | omega
    obtain ⟨X, e⟩ := e
    exact ⟨X % t, a, c + 1, Int.emod_nonneg _ (by omega), Int.emod_lt_of_pos _ h0, by omega, by omega, e⟩
theorem pick (is : List Int) (a b c : Int) (h0 : 0 < is.length) (h1 : is.length < 1000) (c0 : 0 ≤ c) (c1 : c ≤ 1000000) : ∃ x a' c', x ∈ is ∧ 0 ≤ c' ∧ c' ≤ c + 1 ∧ ∀ n k, callF L.B (LV n (k + 1)) 61 [.obj 0, .vls (is.map D.int)] (S a b c) = .ok (.int x) (S a' b c') := by
  obtain ⟨r, a', c', r0, r1, g0, g1, e⟩ := roll a b c (is.length : Nat) (by omega) (by omega) c0 c1
  obtain ⟨m, rfl⟩ := Int.eq_ofNat_of_zero_le r0
  have hm : m < is.length := by omega
  have e' : ∀ cl, callF L.B cl 60 [.obj 0, .int ((is.map D.int).length : Nat)] (S a b c) = .ok (.int (m : Nat)) (S a' b c') := by
    rw [List.length_map]; exact e
  have g : (is.map D.int)[m]? = some (.int is[m]) := by rw [List.getElem?_map, List.getElem?_eq_getElem hm]; rfl
  exact ⟨is[m], a', c', List.getElem_mem hm, g0, g1, fun n k => Ev.def_ (t := t61) (fd := ⟨2, [], t61⟩) (by kernel_rfl) rfl (Ev.seqR (Ev.ret (Ev.ix_ (Ev.slot rfl) (Ev.call (Ev.cons1 (Ev.slot rfl) rfl (Ev.cons1 (Ev.len_ (Ev.cons0 (Ev.slot rfl) Ev.nil)) rfl Ev.nil)) (e' _)) g)))⟩
theorem isint (cl : Cl) (i : Int) (h : Sh) : callF L.B cl 0 [.int i] h = .ok (.bl true) h := by kernel_rfl
theorem req (n k : Nat) (i : Int) (h : Sh) (hi : 1 ≤ i) : callF L.B (LV n (k + 1)) 8 [.int i] h = .ok .non h :=
  Ev.defN (t := t8) (fd := ⟨1, [], t8⟩) (by kernel_rfl) rfl (Ev.seq (Ev.sifF (Ev.orF (Ev.notF (Ev.callT (Ev.call (Ev.cons1 (Ev.slot rfl) rfl Ev.nil) (isint (LV n k) i h)))) (Ev.ltF (Ev.slot rfl) Ev.cst (by omega))) Ev.snil) Ev.snil)
theorem asks (k : Nat) (p d s : Int) (h : Sh) (hp : 1 ≤ p) (hd : 1 ≤ d) (hs : 1 ≤ s) (hp2 : p < 2 ^ 100) (hd2 : d < 2 ^ 100) (hs2 : s < 2 ^ 100) : callF L.B (LV 1000 (k + 2)) 9 [.int p, .int d, .int s] h = .ok (.int (d + p * -(-d / s))) h := by
  have r := fun i h hi => req 1000 k i h hi
  have b1 : -d ≤ -d / s := by
    rw [Int.le_ediv_iff_mul_le (by omega)]
    have := Int.mul_le_mul_of_nonneg_left hs (show 0 ≤ d by omega)
    rw [Int.neg_mul]
    omega
  have b2 : -d / s < 0 := Int.ediv_lt_of_lt_mul (by omega) (by omega)
  refine Ev.def_ (t := t9) (fd := ⟨3, [none], t9⟩) (by kernel_rfl) rfl (Ev.seq (Ev.sfor (Ev.wseq (Ev.tup (Ev.cons1 (Ev.slot rfl) rfl (Ev.cons1 (Ev.slot rfl) rfl (Ev.cons1 (Ev.slot rfl) rfl Ev.nil))) rfl) rfl)
    (Ev.forNext rfl (Ev.gname rfl) (Ev.seq (Ev.expr (Ev.call (Ev.cons1 (Ev.slot rfl) rfl Ev.nil) (r p h hp))) Ev.snil)
    (Ev.forNext rfl (Ev.gname rfl) (Ev.seq (Ev.expr (Ev.call (Ev.cons1 (Ev.slot rfl) rfl Ev.nil) (r d h hd))) Ev.snil)
    (Ev.forNext rfl (Ev.gname rfl) (Ev.seq (Ev.expr (Ev.call (Ev.cons1 (Ev.slot rfl) rfl Ev.nil) (r s h hs))) Ev.snil)
    (Ev.forStop rfl)))))
    (Ev.seqR (Ev.ret (Ev.add (Ev.slot rfl) (Ev.mul (Ev.slot rfl) (Ev.neg (Ev.fdiv (Ev.neg (Ev.slot rfl)) (Ev.slot rfl) (by omega) (by omega))) (by omega) (by omega))))))
theorem least (k : Nat) (p d q : Int) (h : Sh) (hp : 1 ≤ p) (hd : 1 ≤ d) (hq : 1 ≤ q) (hp2 : p < 2 ^ 100) (hd2 : d < 2 ^ 100) (hq2 : q < 2 ^ 100) :
    ((q - d) / p < 1 → callF L.B (LV 1000 (k + 2)) 10 [.int p, .int d, .int q] h = .ok .non h) ∧
    (1 ≤ (q - d) / p → callF L.B (LV 1000 (k + 2)) 10 [.int p, .int d, .int q] h = .ok (.int (if (1 : Int) < -(-d / ((q - d) / p)) then -(-d / ((q - d) / p)) else 1)) h) := by
  have r := fun i h hi => req 1000 k i h hi
  have b : 1 ≤ (q - d) / p → ((q - d) / p) ≤ q := fun z => by
    have z2 : 0 ≤ q - d := by
      by_cases y : 0 ≤ q - d
      · exact y
      · have := Int.ediv_neg_of_neg_of_pos (show q - d < 0 by omega) (show 0 < p by omega)
        omega
    have := Int.ediv_le_self p z2
    omega
  refine ⟨fun z => ?_, fun z => ?_⟩
  · refine Ev.def_ (t := t10) (fd := ⟨3, [none, none], t10⟩) (by kernel_rfl) rfl (Ev.seq (Ev.sfor (Ev.wseq (Ev.tup (Ev.cons1 (Ev.slot rfl) rfl (Ev.cons1 (Ev.slot rfl) rfl (Ev.cons1 (Ev.slot rfl) rfl Ev.nil))) rfl) rfl)
      (Ev.forNext rfl (Ev.gname rfl) (Ev.seq (Ev.expr (Ev.call (Ev.cons1 (Ev.slot rfl) rfl Ev.nil) (r p h hp))) Ev.snil)
      (Ev.forNext rfl (Ev.gname rfl) (Ev.seq (Ev.expr (Ev.call (Ev.cons1 (Ev.slot rfl) rfl Ev.nil) (r d h hd))) Ev.snil)
      (Ev.forNext rfl (Ev.gname rfl) (Ev.seq (Ev.expr (Ev.call (Ev.cons1 (Ev.slot rfl) rfl Ev.nil) (r q h hq))) Ev.snil)
      (Ev.forStop rfl)))))
      (Ev.seq (Ev.name (Ev.fdiv (Ev.sub (Ev.slot rfl) (Ev.slot rfl)) (Ev.slot rfl) (by omega) (by omega)) rfl)
      (Ev.seqR (Ev.ret (Ev.ifT (Ev.ltT (Ev.slot rfl) Ev.cst z) Ev.cst)))))
  · refine Ev.def_ (t := t10) (fd := ⟨3, [none, none], t10⟩) (by kernel_rfl) rfl (Ev.seq (Ev.sfor (Ev.wseq (Ev.tup (Ev.cons1 (Ev.slot rfl) rfl (Ev.cons1 (Ev.slot rfl) rfl (Ev.cons1 (Ev.slot rfl) rfl Ev.nil))) rfl) rfl)
      (Ev.forNext rfl (Ev.gname rfl) (Ev.seq (Ev.expr (Ev.call (Ev.cons1 (Ev.slot rfl) rfl Ev.nil) (r p h hp))) Ev.snil)
      (Ev.forNext rfl (Ev.gname rfl) (Ev.seq (Ev.expr (Ev.call (Ev.cons1 (Ev.slot rfl) rfl Ev.nil) (r d h hd))) Ev.snil)
      (Ev.forNext rfl (Ev.gname rfl) (Ev.seq (Ev.expr (Ev.call (Ev.cons1 (Ev.slot rfl) rfl Ev.nil) (r q h hq))) Ev.snil)
      (Ev.forStop rfl)))))
      (Ev.seq (Ev.name (Ev.fdiv (Ev.sub (Ev.slot rfl) (Ev.slot rfl)) (Ev.slot rfl) (by omega) (by omega)) rfl)
      (Ev.seqR (Ev.ret (Ev.ifF (Ev.ltF (Ev.slot rfl) Ev.cst (by omega)) (Ev.max2 (Ev.cons0 Ev.cst (Ev.cons0 (Ev.neg (Ev.fdiv (Ev.neg (Ev.slot rfl)) (Ev.slot rfl) (by omega) (by have := b z; omega))) Ev.nil))))))))
end Lw
end
section
open PySem Pv PySem.W
set_option Elab.async false
set_option linter.all false
set_option maxRecDepth 100000
set_option maxHeartbeats 0
set_option autoImplicit false
namespace Lw
/-! #### the plain law of sums -/
theorem ceil_spec (d s : Int) (hs : 0 < s) : d ≤ -(-d / s) * s ∧ -(-d / s) * s < d + s := by
  have h1 := Int.ediv_mul_le (-d) (show s ≠ 0 by omega)
  have h2 := Int.lt_ediv_add_one_mul_self (-d) hs
  rw [Int.add_mul] at h2
  rw [Int.neg_mul]
  omega
theorem ceil_eq (d s : Int) (hs : 0 < s) : -(-d / s) = (d + s - 1) / s := by
  obtain ⟨h1, h2⟩ := ceil_spec d s hs
  generalize -(-d / s) = u at h1 h2
  have h3 := Int.ediv_mul_le (d + s - 1) (show s ≠ 0 by omega)
  have h4 := Int.lt_ediv_add_one_mul_self (d + s - 1) hs
  generalize (d + s - 1) / s = y at h3 h4
  rw [Int.add_mul] at h4
  rcases Int.lt_trichotomy u y with z | z | z
  · have := Int.mul_le_mul_of_nonneg_right (show u + 1 ≤ y by omega) (show 0 ≤ s by omega)
    rw [Int.add_mul] at this
    omega
  · exact z
  · have := Int.mul_le_mul_of_nonneg_right (show y + 1 ≤ u by omega) (show 0 ≤ s by omega)
    rw [Int.add_mul] at this
    omega
theorem le_of_mul {a b s : Int} (hs : 0 < s) (h : a * s < b * s) : a < b := Int.lt_of_mul_lt_mul_right h (by omega)
theorem told1 (p d q t : Int) (hp : 1 ≤ p) (hd : 1 ≤ d) (hx : 1 ≤ (q - d) / p) (h1 : 1 ≤ t) (h2 : -(-d / ((q - d) / p)) ≤ t) : d + p * -(-d / t) ≤ q := by
  have hm := Int.ediv_mul_le (q - d) (show p ≠ 0 by omega)
  generalize (q - d) / p = x at hm hx h2
  obtain ⟨c1, _⟩ := ceil_spec d x (by omega)
  generalize -(-d / x) = z at c1 h2
  obtain ⟨_, c2⟩ := ceil_spec d t (by omega)
  generalize -(-d / t) = u at c2 ⊢
  have m1 := Int.mul_le_mul_of_nonneg_right h2 (show 0 ≤ x by omega)
  have c3 : u * t < (x + 1) * t := by
    rw [Int.add_mul, Int.mul_comm x t]
    omega
  have := le_of_mul (by omega) c3
  have m2 := Int.mul_le_mul_of_nonneg_left (show u ≤ x by omega) (show 0 ≤ p by omega)
  rw [Int.mul_comm x p] at hm
  omega
theorem told2 (p d q : Int) (hp : 1 ≤ p) (hd : 1 ≤ d) (hx : 1 ≤ (q - d) / p) (h1 : 1 < -(-d / ((q - d) / p))) : q < d + p * -(-d / (-(-d / ((q - d) / p)) - 1)) := by
  have hm := Int.lt_ediv_add_one_mul_self (q - d) (show 0 < p by omega)
  generalize (q - d) / p = x at hm hx h1 ⊢
  obtain ⟨_, c1⟩ := ceil_spec d x (by omega)
  generalize -(-d / x) = z at c1 h1 ⊢
  obtain ⟨c2, _⟩ := ceil_spec d (z - 1) (by omega)
  generalize -(-d / (z - 1)) = v at c2 ⊢
  have c3 : x * (z - 1) < v * (z - 1) := by
    have e : x * (z - 1) = z * x - x := by rw [Int.mul_sub, Int.mul_comm]; omega
    omega
  have := le_of_mul (by omega) c3
  have m2 := Int.mul_le_mul_of_nonneg_left (show x + 1 ≤ v by omega) (show 0 ≤ p by omega)
  rw [Int.mul_comm (x + 1) p] at hm
  omega
theorem none1 (p d q : Int) (hp : 1 ≤ p) (hd : 1 ≤ d) (hx : (q - d) / p < 1) : q < d + p * -(-d / d) := by
  have hm := Int.lt_ediv_add_one_mul_self (q - d) (show 0 < p by omega)
  have m2 := Int.mul_le_mul_of_nonneg_right (show (q - d) / p + 1 ≤ 1 by omega) (show 0 ≤ p by omega)
  have e : -d / d = -1 := by rw [show -d = (-1) * d by omega, Int.mul_ediv_cancel _ (by omega)]
  rw [e]
  omega
theorem ceil_b (d s : Int) (hd : 1 ≤ d) (hs : 1 ≤ s) : 1 ≤ -(-d / s) ∧ -(-d / s) ≤ d := by
  have b1 : -d ≤ -d / s := by
    rw [Int.le_ediv_iff_mul_le (by omega)]
    have := Int.mul_le_mul_of_nonneg_left hs (show 0 ≤ d by omega)
    rw [Int.neg_mul]
    omega
  have b2 : -d / s < 0 := Int.ediv_lt_of_lt_mul (by omega) (by omega)
  omega
/-! #### the run -/
theorem sums (a b c : Int) (c0 : 0 ≤ c) (c1 : c ≤ 1000) : ∃ a' c', 0 ≤ c' ∧ c' ≤ c + 10 ∧ ∀ k, callF L.B (LV 1000 (k + 3)) 62 [.obj 0] (S a b c) = .ok (.bl true) (S a' b c') := by
  obtain ⟨r1, a1, c1', r10, r11, g10, g11, e1⟩ := roll a b c 40 (by omega) (by omega) (by omega) (by omega)
  obtain ⟨r2, a2, c2', r20, r21, g20, g21, e2⟩ := roll a1 b c1' 60 (by omega) (by omega) (by omega) (by omega)
  obtain ⟨r3, a3, c3', r30, r31, g30, g31, e3⟩ := roll a2 b c2' 1000000000 (by omega) (by omega) (by omega) (by omega)
  obtain ⟨x, a4, c4', hx, g40, g41, e4⟩ := pick [r2, r3] a3 b c3' (by show 0 < 2; omega) (by show 2 < 1000; omega) (by omega) (by omega)
  have hx : 0 ≤ x ∧ x < 1000000000 := by
    rcases List.mem_cons.mp hx with z | z
    · omega
    · rcases List.mem_cons.mp z with z | z
      · omega
      · cases z
  have hp : 1 ≤ 1 + r1 ∧ 1 + r1 ≤ 40 := by omega
  have hd : 1 ≤ 1 + x ∧ 1 + x ≤ 1000000000 := by omega
  generalize hpe : 1 + r1 = p at hp
  generalize hde : 1 + x = d at hd
  obtain ⟨r4, a5, c5', r40, r41, g50, g51, e5⟩ := roll a4 b c4' (d + 3) (by omega) (by omega) (by omega) (by omega)
  have hs : 1 ≤ 1 + r4 ∧ 1 + r4 ≤ 2000000000 := by omega
  generalize hse : 1 + r4 = s at hs
  obtain ⟨r5, a6, c6', r50, r51, g60, g61, e6⟩ := roll a5 b c5' (3 * p) (by omega) (by omega) (by omega) (by omega)
  have cb := ceil_b d s hd.1 hs.1
  have hA : 1 ≤ d + p * -(-d / s) ∧ d + p * -(-d / s) < 2 ^ 99 := by
    have m1 := Int.mul_le_mul_of_nonneg_left cb.2 (show 0 ≤ p by omega)
    have m2 := Int.mul_le_mul_of_nonneg_right hp.2 (show 0 ≤ d by omega)
    have m3 := Int.mul_nonneg (show 0 ≤ p by omega) (show 0 ≤ -(-d / s) by omega)
    omega
  obtain ⟨q, a7, c7', hq, g70, g71, e7⟩ := pick [d + p * -(-d / s), d + r5, d, 1, 1000000000000] a6 b c6' (by show 0 < 5; omega) (by show 5 < 1000; omega) (by omega) (by omega)
  have hq : 1 ≤ q ∧ q < 2 ^ 100 := by
    rcases List.mem_cons.mp hq with z | z
    · omega
    rcases List.mem_cons.mp z with z | z
    · omega
    rcases List.mem_cons.mp z with z | z
    · omega
    rcases List.mem_cons.mp z with z | z
    · omega
    rcases List.mem_cons.mp z with z | z
    · omega
    · cases z
  refine ⟨a7, c7', by omega, by omega, fun k => ?_⟩
  have ask := fun (t : Int) (h1 : 1 ≤ t) (h2 : t < 2 ^ 100) => asks k p d t
  have Le := least k p d q (S a7 b c7') hp.1 hd.1 hq.1 (by omega) (by omega) (by omega)
  refine Ev.def_ (t := t62) (fd := ⟨1, [none, none, none, none, none, none], t62⟩) (en1 := [some (.obj 0), none, none, none, none, none, none]) (by kernel_rfl) rfl ?_
  refine Ev.seq (en1 := [some (.obj 0), some (.int p), some (.int d), none, none, none, none]) (h1 := S a4 b c4') (Ev.par (ds := [.int (1 + r1), .int (1 + x)]) (Ev.cons1 (Ev.add Ev.cst (Ev.call (Ev.cons1 (Ev.slot rfl) rfl (Ev.cons1 Ev.cst rfl Ev.nil)) (e1 _))) rfl
    (Ev.cons1 (Ev.add Ev.cst (Ev.call (Ev.cons1 (Ev.slot rfl) rfl (Ev.cons1 (Ev.lst (Ev.cons1 (Ev.call (Ev.cons1 (Ev.slot rfl) rfl (Ev.cons1 Ev.cst rfl Ev.nil)) (e2 _)) rfl (Ev.cons1 (Ev.call (Ev.cons1 (Ev.slot rfl) rfl (Ev.cons1 (Ev.bin2 (k := 1000000000) Ev.cst Ev.cst (by kernel_rfl)) rfl Ev.nil)) (e3 _)) rfl Ev.nil)) rfl) rfl Ev.nil)) (e4 _ _))) rfl Ev.nil)) rfl (by rw [hpe, hde]; rfl)) ?_
  refine Ev.seq (en1 := [some (.obj 0), some (.int p), some (.int d), some (.int s), none, none, none]) (h1 := S a5 b c5') (Ev.name (d := .int (1 + r4)) (Ev.add Ev.cst (Ev.call (Ev.cons1 (Ev.slot rfl) rfl (Ev.cons1 (Ev.add (Ev.slot rfl) Ev.cst) rfl Ev.nil)) (e5 _))) (by rw [hse]; rfl)) ?_
  refine Ev.seq (Ev.name (Ev.fdiv (Ev.sub (Ev.add (Ev.slot rfl) (Ev.slot rfl)) Ev.cst) (Ev.slot rfl) (by omega) (by omega)) rfl) ?_
  refine Ev.seq (Ev.sifF (Ev.neF (Ev.call (Ev.cons1 (Ev.slot rfl) rfl (Ev.cons1 (Ev.slot rfl) rfl (Ev.cons1 (Ev.slot rfl) rfl Ev.nil))) (asks k p d s _ hp.1 hd.1 hs.1 (by omega) (by omega) (by omega))) (Ev.add (Ev.slot rfl) (Ev.mul (Ev.slot rfl) (Ev.slot rfl) (by omega) (by rw [← ceil_eq d s (by omega)]; omega))) (by rw [ceil_eq d s (by omega)])) Ev.snil) ?_
  refine Ev.seq (Ev.name (Ev.call (Ev.cons1 (Ev.slot rfl) rfl (Ev.cons1 (Ev.lst (Ev.cons1 (Ev.call (Ev.cons1 (Ev.slot rfl) rfl (Ev.cons1 (Ev.slot rfl) rfl (Ev.cons1 (Ev.slot rfl) rfl Ev.nil))) (asks k p d s _ hp.1 hd.1 hs.1 (by omega) (by omega) (by omega))) rfl
    (Ev.cons1 (Ev.add (Ev.slot rfl) (Ev.call (Ev.cons1 (Ev.slot rfl) rfl (Ev.cons1 (Ev.mul Ev.cst (Ev.slot rfl) (by decide) (by omega)) rfl Ev.nil)) (e6 _))) rfl (Ev.cons1 (Ev.slot rfl) rfl (Ev.cons1 Ev.cst rfl (Ev.cons1 (Ev.bin2 (k := 1000000000000) Ev.cst Ev.cst (by kernel_rfl)) rfl Ev.nil))))) rfl) rfl Ev.nil)) (e7 _ _)) rfl) ?_
  by_cases hn : (q - d) / p < 1
  · refine Ev.seq (Ev.name (Ev.call (Ev.cons1 (Ev.slot rfl) rfl (Ev.cons1 (Ev.slot rfl) rfl (Ev.cons1 (Ev.slot rfl) rfl Ev.nil))) (Le.1 hn)) rfl) ?_
    refine Ev.seqR (Ev.sifT (Ev.cmp (Ev.slot rfl) Ev.cst rfl) (Ev.seqR (Ev.ret (Ev.cmpE (Ev.gtT (Ev.call (Ev.cons1 (Ev.slot rfl) rfl (Ev.cons1 (Ev.slot rfl) rfl (Ev.cons1 (Ev.slot rfl) rfl Ev.nil))) (asks k p d d _ hp.1 hd.1 hd.1 (by omega) (by omega) (by omega))) (Ev.slot rfl) (none1 p d q hp.1 hd.1 hn))))))
  · have hx1 : 1 ≤ (q - d) / p := by omega
    have e8 := Le.2 hx1
    by_cases h1 : 1 < -(-d / ((q - d) / p))
    · rw [if_pos h1] at e8
      have b8 := ceil_b d _ hd.1 hx1
      refine Ev.seq (Ev.name (Ev.call (Ev.cons1 (Ev.slot rfl) rfl (Ev.cons1 (Ev.slot rfl) rfl (Ev.cons1 (Ev.slot rfl) rfl Ev.nil))) e8) rfl) ?_
      refine Ev.seq (Ev.sifF (Ev.cmp (Ev.slot rfl) Ev.cst rfl) Ev.snil) ?_
      refine Ev.seq (Ev.sifF (Ev.gtF (Ev.call (Ev.cons1 (Ev.slot rfl) rfl (Ev.cons1 (Ev.slot rfl) rfl (Ev.cons1 (Ev.slot rfl) rfl Ev.nil))) (asks k p d _ _ hp.1 hd.1 b8.1 (by omega) (by omega) (by omega))) (Ev.slot rfl) (by have := told1 p d q _ hp.1 hd.1 hx1 b8.1 (Int.le_refl _); omega)) Ev.snil) ?_
      exact Ev.seqR (Ev.ret (Ev.orEF (Ev.cmpE (Ev.eqN (Ev.slot rfl) Ev.cst (by omega))) (Ev.cmpE (Ev.gtT (Ev.call (Ev.cons1 (Ev.slot rfl) rfl (Ev.cons1 (Ev.slot rfl) rfl (Ev.cons1 (Ev.sub (Ev.slot rfl) Ev.cst) rfl Ev.nil))) (asks k p d _ _ hp.1 hd.1 (by omega) (by omega) (by omega) (by omega))) (Ev.slot rfl) (told2 p d q hp.1 hd.1 hx1 h1)))))
    · rw [if_neg h1] at e8
      refine Ev.seq (Ev.name (Ev.call (Ev.cons1 (Ev.slot rfl) rfl (Ev.cons1 (Ev.slot rfl) rfl (Ev.cons1 (Ev.slot rfl) rfl Ev.nil))) e8) rfl) ?_
      refine Ev.seq (Ev.sifF (Ev.cmp (Ev.slot rfl) Ev.cst rfl) Ev.snil) ?_
      refine Ev.seq (Ev.sifF (Ev.gtF (Ev.call (Ev.cons1 (Ev.slot rfl) rfl (Ev.cons1 (Ev.slot rfl) rfl (Ev.cons1 (Ev.slot rfl) rfl Ev.nil))) (asks k p d 1 _ hp.1 hd.1 (by omega) (by omega) (by omega) (by omega))) (Ev.slot rfl) (by have := told1 p d q 1 hp.1 hd.1 hx1 (by omega) (by omega); omega)) Ev.snil) ?_
      exact Ev.seqR (Ev.ret (Ev.orET (Ev.cmpE (Ev.eqT (Ev.slot rfl) Ev.cst rfl))))
end Lw
end
section
open PySem Pv PySem.W
set_option Elab.async false
set_option linter.all false
set_option maxRecDepth 100000
set_option maxHeartbeats 0
set_option autoImplicit false
namespace Lw
/-! #### runs that the kernel does: what an iterable gave is put in its place -/
noncomputable def lcS (B : Tb) (w : Wk) (e tl : T) : SF := suSeq (suAsg true (comp B (.gname 4 false)).g (exBi .tuple (arCons 0 (exLc [5] (comp B (.gname 5 false)).g (fun _ _ h => .ok w h) (comp B (.cst (.bl true))).t (comp B e).e) arNil))) (comp B tl).s
theorem lc_s {B : Tb} {c : Cl} {en : En} {h h1 : Sh} {w : Wk} {it e tl : T} (hi : (comp B it).w c en h = .ok w h1) : (comp B (.cons 0 (.sasg (.gname 4 false) (.bi .tuple (.cons 0 (.lc [5] (.gname 5 false) it (.cst (.bl true)) e) .nil))) tl)).s c en h = lcS B w e tl c en h1 := by
  have e1 : exLc [5] (comp B (.gname 5 false)).g (comp B it).w (comp B (.cst (.bl true))).t (comp B e).e c en h = exLc [5] (comp B (.gname 5 false)).g (fun _ _ h => .ok w h) (comp B (.cst (.bl true))).t (comp B e).e c en h1 := by
    show ((comp B it).w c en h).bind _ = _
    rw [hi]; rfl
  exact congrArg (fun r : Rs D => Rst.rec (motive := fun _ => Rst) (fun en h => (comp B tl).s c en h) .rt .bk .ct .exc .stuck
    (((r.bind fun d h => argD 0 d h fun d h => (arNil c en h).map fun ds => d :: ds).bind fun ds h => .opt (biD h .tuple ds) h).thn en fun d h => bif' true (((comp B (.gname 4 false)).g c d en h).thn en fun en h => .nx en h) (((comp B (.gname 4 false)).g c (own d h).1 en (own d h).2).thn en fun en h => .nx en h))) e1
noncomputable def isTr (d : D) (o : Option O) : Option O := match d with
  | .bl true => o
  | _ => none
noncomputable def chk (r : Rst) : Option O := Rst.rec (motive := fun _ => Option O) (fun _ _ => none) (fun d h => isTr d (h.get 0)) (fun _ _ => none) (fun _ _ => none) (fun _ _ _ => none) none r
theorem chk_ok {r : Rst} {x : O} (e : chk r = some x) : ∃ h, r = .rt (.bl true) h ∧ h.get 0 = some x := by
  cases r with
  | rt d h =>
    have e : isTr d (h.get 0) = some x := e
    cases d with
    | bl b =>
      cases b with
      | true => exact ⟨h, rfl, e⟩
      | false => cases e
    | _ => cases e
  | _ => cases e
noncomputable def tl1 : T → T
  | .cons _ _ b => b
  | _ => .nil
/-- behind the third statement -/
noncomputable def t63r : T := tl1 (tl1 (tl1 t63))
noncomputable def rnd (s r q : Nat) (x : O) : Rst := lcS L.B (.rng 0 1 ((s + 1) * r - q)) (.bin .mod (.slot 5) (.slot 3)) t63r (LV 1000 20) [some (.obj 0), some (.int s), some (.int r), some (.int (s + 1 : Nat)), none, none, none, none, none, none, none, none, none, none, none] ⟨1, [x], []⟩
end Lw
end
section
open PySem Pv PySem.W
set_option Elab.async false
set_option linter.all false
set_option maxRecDepth 100000
set_option maxHeartbeats 0
set_option autoImplicit false
namespace Lw
abbrev RndAll : Prop := ∀ (s r q : Nat) (x : O), 1 ≤ s → s ≤ 5 → 1 ≤ r → r ≤ 6 → q ≤ s → chk (rnd s r q x) = some x
noncomputable def sti (m t : Nat) (x : O) : Rst := (comp L.B (tl1 t64)).s (LV 1000 20) [some (.obj 0), some (.int m), some (.int t), none, none, none, none, none] ⟨1, [x], []⟩
abbrev StiAll : Prop := ∀ (m t : Nat) (x : O), 1 ≤ m → m ≤ 5 → 1 ≤ t → t ≤ 4 → chk (sti m t x) = some x
theorem rounds (R : RndAll) (a b c : Int) (c0 : 0 ≤ c) (c1 : c ≤ 1000) : ∃ a' c' hs, 0 ≤ c' ∧ c' ≤ c + 10 ∧ callF L.B (LV 1000 20) 63 [.obj 0] (S a b c) = .ok (.bl true) hs ∧ hs.get 0 = some (.lst [.int a', .int b, .int c']) := by
  obtain ⟨r1, a1, c1', r10, r11, g10, g11, e1⟩ := roll a b c 5 (by omega) (by omega) (by omega) (by omega)
  obtain ⟨r2, a2, c2', r20, r21, g20, g21, e2⟩ := roll a1 b c1' 6 (by omega) (by omega) (by omega) (by omega)
  obtain ⟨s, hs⟩ := Int.eq_ofNat_of_zero_le (show 0 ≤ 1 + r1 by omega)
  obtain ⟨r, hr⟩ := Int.eq_ofNat_of_zero_le (show 0 ≤ 1 + r2 by omega)
  have s0 : 1 ≤ s ∧ s ≤ 5 := by omega
  have r0 : 1 ≤ r ∧ r ≤ 6 := by omega
  obtain ⟨r3, a3, c3', r30, r31, g30, g31, e3⟩ := roll a2 b c2' ((s + 1 : Nat) : Int) (by omega) (by omega) (by omega) (by omega)
  obtain ⟨q, rfl⟩ := Int.eq_ofNat_of_zero_le r30
  have q0 : q ≤ s := by omega
  have hN : ((s + 1 : Nat) : Int) * (r : Int) - (q : Int) = (((s + 1) * r - q : Nat) : Int) := by
    have m1 : s + 1 ≤ (s + 1) * r := Nat.le_mul_of_pos_right _ r0.1
    rw [Int.ofNat_sub (by omega), Int.natCast_mul]
  have hN2 : (s + 1) * r ≤ 36 := by
    have m1 := Nat.mul_le_mul (show s + 1 ≤ 6 by omega) r0.2
    omega
  obtain ⟨h, k1, k2⟩ := chk_ok (R s r q (.lst [.int a3, .int b, .int c3']) s0.1 s0.2 r0.1 r0.2 q0)
  refine ⟨a3, c3', h, by omega, by omega, ?_, k2⟩
  refine Ev.def_ (t := t63) (fd := ⟨1, [none, none, none, none, none, none, none, none, none, none, none, none, none, none], t63⟩) (en1 := [some (.obj 0), none, none, none, none, none, none, none, none, none, none, none, none, none, none]) (by kernel_rfl) rfl ?_
  refine Ev.seq (en1 := [some (.obj 0), some (.int s), some (.int r), none, none, none, none, none, none, none, none, none, none, none, none]) (h1 := S a2 b c2') (Ev.par (ds := [.int (1 + r1), .int (1 + r2)]) (Ev.cons1 (Ev.add Ev.cst (Ev.call (Ev.cons1 (Ev.slot rfl) rfl (Ev.cons1 Ev.cst rfl Ev.nil)) (e1 _))) rfl
    (Ev.cons1 (Ev.add Ev.cst (Ev.call (Ev.cons1 (Ev.slot rfl) rfl (Ev.cons1 Ev.cst rfl Ev.nil)) (e2 _))) rfl Ev.nil)) rfl (by rw [hs, hr]; rfl)) ?_
  refine Ev.seq (en1 := [some (.obj 0), some (.int s), some (.int r), some (.int (s + 1 : Nat)), none, none, none, none, none, none, none, none, none, none, none]) (h1 := S a2 b c2') (Ev.name (Ev.add (Ev.slot rfl) Ev.cst) rfl) ?_
  refine (lc_s (w := .rng 0 1 ((s + 1) * r - q)) (h1 := S a3 b c3') ?_).trans k1
  refine Ev.rng (Ev.cons0 (Ev.sub (Ev.mul (Ev.slot rfl) (Ev.slot rfl) (by omega) (by omega)) (Ev.call (Ev.cons1 (Ev.slot rfl) rfl (Ev.cons1 (Ev.slot rfl) rfl Ev.nil)) (e3 _))) Ev.nil) ?_
  rw [hN, Ev.rng1 (by omega) (by omega)]; rfl
theorem stills (R : StiAll) (a b c : Int) (c0 : 0 ≤ c) (c1 : c ≤ 1000) : ∃ a' c' hs, 0 ≤ c' ∧ c' ≤ c + 10 ∧ callF L.B (LV 1000 20) 64 [.obj 0] (S a b c) = .ok (.bl true) hs ∧ hs.get 0 = some (.lst [.int a', .int b, .int c']) := by
  obtain ⟨r1, a1, c1', r10, r11, g10, g11, e1⟩ := roll a b c 5 (by omega) (by omega) (by omega) (by omega)
  obtain ⟨r2, a2, c2', r20, r21, g20, g21, e2⟩ := roll a1 b c1' 4 (by omega) (by omega) (by omega) (by omega)
  obtain ⟨s, hs⟩ := Int.eq_ofNat_of_zero_le (show 0 ≤ 1 + r1 by omega)
  obtain ⟨r, hr⟩ := Int.eq_ofNat_of_zero_le (show 0 ≤ 1 + r2 by omega)
  obtain ⟨h, k1, k2⟩ := chk_ok (R s r (.lst [.int a2, .int b, .int c2']) (by omega) (by omega) (by omega) (by omega))
  refine ⟨a2, c2', h, by omega, by omega, ?_, k2⟩
  refine Ev.def_ (t := t64) (fd := ⟨1, [none, none, none, none, none, none, none], t64⟩) (en1 := [some (.obj 0), none, none, none, none, none, none, none]) (by kernel_rfl) rfl ?_
  refine Ev.seq (en1 := [some (.obj 0), some (.int s), some (.int r), none, none, none, none, none]) (h1 := S a2 b c2') (Ev.asg rfl (Ev.tup (Ev.cons1 (Ev.add Ev.cst (Ev.call (Ev.cons1 (Ev.slot rfl) rfl (Ev.cons1 Ev.cst rfl Ev.nil)) (e1 _))) rfl
    (Ev.cons1 (Ev.add Ev.cst (Ev.call (Ev.cons1 (Ev.slot rfl) rfl (Ev.cons1 Ev.cst rfl Ev.nil)) (e2 _))) rfl Ev.nil)) rfl) (Ev.gtup rfl (Ev.gcons (Ev.gname (en1 := [some (.obj 0), some (.int s), none, none, none, none, none, none]) (by rw [hs]; rfl)) (Ev.gcons (Ev.gname (by rw [hr]; rfl)) Ev.gnil)))) ?_
  exact k1
end Lw
end
section
open PySem Pv PySem.W
set_option Elab.async false
set_option linter.all false
set_option maxRecDepth 100000
set_option maxHeartbeats 0
set_option autoImplicit false
namespace Lw
/-! #### the dice -/
theorem scr_rd {ns : List Int} {o : O} {h : Sh} (so : Scr ns o) (ho : h.get 0 = some o) : rdL h (.obj 0) = some (ns.map D.int) ∧ dctOf h (.obj 0) = none := by
  rcases so with rfl | rfl
  · constructor
    · unfold rdL; dsimp only; rw [ho]
    · unfold dctOf; dsimp only; rw [ho]
  · constructor
    · unfold rdL; dsimp only; rw [ho]
    · unfold dctOf; dsimp only; rw [ho]
theorem len_s {ns : List Int} {o : O} {h : Sh} (so : Scr ns o) (ho : h.get 0 = some o) : biD h .len [.obj 0] = some (.int (ns.length : Nat)) := by
  obtain ⟨h1, h2⟩ := scr_rd so ho
  show opt' (opt' (dctOf h (.obj 0)) (opt' (rdQ h (.obj 0)) none fun ds => some (lenK ds)) fun p => some (lenK p.1)) none (fun n => frN n fun n => some (D.int (.ofNat n))) = _
  rw [h2]
  show opt' (opt' (rdL h (.obj 0)) none fun ds => some (lenK ds)) none (fun n => frN n fun n => some (D.int (.ofNat n))) = _
  rw [h1]
  show (frN (lenK (ns.map D.int)) fun n => some (D.int (.ofNat n))) = _
  rw [frN_eq, lenK_eq, List.length_map]; rfl
theorem ix_s {ns : List Int} {o : O} {h : Sh} (so : Scr ns o) (ho : h.get 0 = some o) {i : Nat} (hi : i < ns.length) : ixD h (.obj 0) (.int (i : Nat)) = some (.int ns[i]) := by
  obtain ⟨h1, h2⟩ := scr_rd so ho
  rw [ixD_eq, h2]
  show opt' (rdL h (.obj 0)) none (fun ds => ixL0 ds (.int (i : Nat))) = _
  rw [h1]
  show ixL0 (ns.map D.int) (.int (i : Nat)) = _
  rw [← ixL_eq]
  show opt' (nthK (ns.map D.int) i) none some = _
  rw [nthK_eq, List.getElem?_map, List.getElem?_eq_getElem hi]; rfl
theorem dice {ns : List Int} {o : O} (so : Scr ns o) (p : Nat) (hp : p < 64) : ∃ a b : Int, ∀ cl h, h.get 0 = some o → callF L.B cl 59 [.obj 0, .int p] h = .ok (.tmp [.int a, .int b, .int 0]) h := by
  have cell : ∃ x : Int, ∀ cl h, h.get 0 = some o → (comp L.B (.ife (.cmp .lt (.slot 1) (.bi .len (.cons 0 (.slot 0) .nil))) (.bi .int (.cons 0 (.ix (.slot 0) (.slot 1)) .nil)) (.bin .add (.bin .mul (.cst (.int 173)) (.slot 1)) (.cst (.int 59))))).e cl [some (.obj 0), some (.int p), none, none, none] h = .ok (D.int x) h := by
    by_cases hl : p < ns.length
    · exact ⟨ns[p], fun cl h ho => Ev.ifT (Ev.ltT (Ev.slot rfl) (Ev.bi (Ev.cons0 (Ev.slot rfl) Ev.nil) (len_s so ho)) (by omega)) (Ev.int (Ev.cons0 (Ev.ix (Ev.slot rfl) (Ev.slot rfl) (ix_s so ho hl)) Ev.nil))⟩
    · exact ⟨_, fun cl h ho => Ev.ifF (Ev.ltF (Ev.slot rfl) (Ev.bi (Ev.cons0 (Ev.slot rfl) Ev.nil) (len_s so ho)) (by omega)) (Ev.add (Ev.mul Ev.cst (Ev.slot rfl) (by decide) (by omega)) Ev.cst)⟩
  obtain ⟨x, hx⟩ := cell
  by_cases hn : x < 0
  · refine ⟨_, _, fun cl h ho => Ev.def_ (t := t59) (fd := ⟨2, [none, none, none], t59⟩) (by kernel_rfl) rfl (Ev.seq (en1 := [some (.obj 0), some (.int p), some (.int x), none, none]) (Ev.name (hx cl h ho) rfl)
      (Ev.seq (Ev.name (Ev.mod (Ev.abs (Ev.cons0 (Ev.slot rfl) Ev.nil)) (Ev.bin2 (k := 100000000000000000000000000000000000000000000000000000000000000000000000000000000000000000000000000000000000000000000000000000000000000000000000000000000000000000000000000000000000000000000000000000000000000000000000000000000000000000000000000000000000000000000000000000000000000000000000000000000000000000000000000000000000000000) (Ev.bin2 (k := 100000000000000000000000000000000000000000000000) Ev.cst Ev.cst (by kernel_rfl)) Ev.cst (by kernel_rfl)) (by decide)) rfl)
      (Ev.seq (Ev.name (Ev.add (Ev.add (Ev.add (Ev.mul (Ev.mod (Ev.slot rfl) Ev.cst (by decide)) Ev.cst ?_ ?_) (Ev.mul Ev.cst (Ev.slot rfl) ?_ ?_)) (Ev.mul Ev.cst (Ev.bi (Ev.cons0 (Ev.cmpE (Ev.ltT (Ev.slot rfl) Ev.cst hn)) Ev.nil) (d := .int 1) rfl) ?_ ?_)) Ev.cst) rfl)
      (Ev.seqR (Ev.ret (Ev.lst (Ev.cons1 (Ev.max2 (Ev.cons0 Ev.cst (Ev.cons0 (Ev.sub (Ev.slot rfl) (Ev.bin2 (k := 1000000000000000) Ev.cst Ev.cst (by kernel_rfl))) Ev.nil))) rfl (Ev.cons1 (Ev.slot rfl) rfl (Ev.cons1 Ev.cst rfl Ev.nil))) rfl))))))⟩
    all_goals first | decide | omega
  · refine ⟨_, _, fun cl h ho => Ev.def_ (t := t59) (fd := ⟨2, [none, none, none], t59⟩) (by kernel_rfl) rfl (Ev.seq (en1 := [some (.obj 0), some (.int p), some (.int x), none, none]) (Ev.name (hx cl h ho) rfl)
      (Ev.seq (Ev.name (Ev.mod (Ev.abs (Ev.cons0 (Ev.slot rfl) Ev.nil)) (Ev.bin2 (k := 100000000000000000000000000000000000000000000000000000000000000000000000000000000000000000000000000000000000000000000000000000000000000000000000000000000000000000000000000000000000000000000000000000000000000000000000000000000000000000000000000000000000000000000000000000000000000000000000000000000000000000000000000000000000000000) (Ev.bin2 (k := 100000000000000000000000000000000000000000000000) Ev.cst Ev.cst (by kernel_rfl)) Ev.cst (by kernel_rfl)) (by decide)) rfl)
      (Ev.seq (Ev.name (Ev.add (Ev.add (Ev.add (Ev.mul (Ev.mod (Ev.slot rfl) Ev.cst (by decide)) Ev.cst ?_ ?_) (Ev.mul Ev.cst (Ev.slot rfl) ?_ ?_)) (Ev.mul Ev.cst (Ev.bi (Ev.cons0 (Ev.cmpE (Ev.ltF (Ev.slot rfl) Ev.cst hn)) Ev.nil) (d := .int 0) rfl) ?_ ?_)) Ev.cst) rfl)
      (Ev.seqR (Ev.ret (Ev.lst (Ev.cons1 (Ev.max2 (Ev.cons0 Ev.cst (Ev.cons0 (Ev.sub (Ev.slot rfl) (Ev.bin2 (k := 1000000000000000) Ev.cst Ev.cst (by kernel_rfl))) Ev.nil))) rfl (Ev.cons1 (Ev.slot rfl) rfl (Ev.cons1 Ev.cst rfl Ev.nil))) rfl))))))⟩
    all_goals first | decide | omega
end Lw
end
section
open PySem Pv PySem.W
set_option Elab.async false
set_option linter.all false
set_option maxRecDepth 100000
set_option maxHeartbeats 0
set_option autoImplicit false
namespace Lw
noncomputable def isD (f : Nat) : Bool := bif' (Nat.beq f 62) true (bif' (Nat.beq f 63) true (Nat.beq f 64))
noncomputable def isP (f : Nat) : Bool := bif' (Nat.beq f 46) true (bif' (Nat.beq f 48) true (Nat.beq f 58))
noncomputable def CL : Cl := orcC (pureC (LV 1000 21) isP) isD
/-- the script at its place, the dice at theirs -/
def Q0 (o : O) (h : Sh) : Prop := h.n = h.l.length ∧ 0 < h.n ∧ h.get 0 = some o
def Q3 (o : O) (d : Nat) (m : Int) (h : Sh) : Prop := Q0 o h ∧ 0 < d ∧ d < h.n ∧ ∃ a b c : Int, h.get d = some (.lst [.int a, .int b, .int c]) ∧ 0 ≤ c ∧ c ≤ m
theorem call_d {f : Nat} (hf : isD f = true) (hp : isP f = false) (hc : isC f = false) (sm : ∀ a b c : Int, 0 ≤ c → c ≤ 1000 → ∃ a' c' hs, 0 ≤ c' ∧ c' ≤ c + 10 ∧ callF L.B (LV 1000 20) f [.obj 0] (S a b c) = .ok (.bl true) hs ∧ hs.get 0 = some (.lst [.int a', .int b, .int c']))
    {o : O} {d : Nat} {m : Int} {h : Sh} (q : Q3 o d m h) (hm : m ≤ 1000) : ∃ h', CL.f f [.obj d] h = .ok (.bl true) h' ∧ Q3 o d (m + 10) h' := by
  obtain ⟨⟨w, n0, g0⟩, d0, dn, a, b, c, g, c0, c1⟩ := q
  obtain ⟨a', c', hs, e0, e1, e2, e3⟩ := sm a b c c0 (by omega)
  refine ⟨h.set d (.lst ([a', b, c'].map D.int)), ?_, ⟨?_, ?_, ?_⟩, d0, ?_, a', b, c', ?_, e0, by omega⟩
  · show bif' (isD f) (orcD ((pureC (LV 1000 21) isP).f f) [.obj d] h) _ = _
    rw [hf]
    show orcD ((pureC (LV 1000 21) isP).f f) [.obj d] h = _
    refine orcD_ok (ns := [a, b, c]) (ms := [a', b, c']) (hs := hs) g ?_ e3
    show bif' (isP f) _ ((LV 1000 21).f f [.obj 0] (S a b c)) = _
    rw [hp]
    show bif' (isC f) _ (callF L.B (LV 1000 20) f [.obj 0] (S a b c)) = _
    rw [hc]; exact e2
  · rw [Sh.set_eq]; show h.n = (h.l.set _ _).length; rw [List.length_set]; exact w
  · rw [Sh.set_eq]; exact n0
  · rw [Sh.get_set w dn, if_neg (by omega)]; exact g0
  · rw [Sh.set_eq]; exact dn
  · rw [Sh.get_set w dn, if_pos rfl]; rfl
noncomputable def resO (r : Rs D) : Option D := Rs.rec (motive := fun _ => Option D) (fun d _ => some d) (fun _ _ => none) none r
theorem resO_ok {r : Rs D} {d : D} (e : resO r = some d) : ∃ h, r = .ok d h := by
  cases r with
  | ok x h => cases e; exact ⟨h, rfl⟩
  | _ => cases e
theorem call_p {f : Nat} (hf : isD f = false) (hp : isP f = true) (hc : isC f = false) {ds : List D} {d : D} (e : resO (callF L.B (LV 1000 20) f ds ⟨0, [], []⟩) = some d) (h1 : allB (plain 8) ds = true) (h2 : plain 8 d = true) (h : Sh) : CL.f f ds h = .ok d h := by
  obtain ⟨hs, e⟩ := resO_ok e
  have e0 : (LV 1000 21).f f = callF L.B (LV 1000 20) f := by
    funext ds h
    show bif' (isC f) _ (callF L.B (LV 1000 20) f ds h) = _
    rw [hc]; rfl
  show bif' (isD f) _ ((pureC (LV 1000 21) isP).f f ds h) = _
  rw [hf]
  show bif' (isP f) (pureD ((LV 1000 21).f f) ds h) _ = _
  rw [hp]
  show bif' (allB (plain 8) ds) (pureR ((LV 1000 21).f f) ds h ((LV 1000 21).f f ds ⟨0, [], []⟩)) _ = _
  rw [h1]
  show pureR ((LV 1000 21).f f) ds h ((LV 1000 21).f f ds ⟨0, [], []⟩) = _
  rw [e0, e]
  show bif' (plain 8 d) (Rs.ok d h) _ = _
  rw [h2]; rfl
theorem turn (RA : RndAll) (SA : StiAll) {o : O} {d : Nat} {m : Int} {h : Sh} {en : En} (hs : nthK en 2 = some (some (.obj d))) (q : Q3 o d m h) (hm : m ≤ 900) : ∃ h', Q3 o d (m + 30) h' ∧
    (comp L.B (.cons 0 (.sif (.tor (.tnot (.call 62 (.cons 1 (.slot 2) .nil))) (.tor (.tnot (.call 63 (.cons 1 (.slot 2) .nil))) (.tnot (.call 64 (.cons 1 (.slot 2) .nil))))) (.cons 0 (.sret (.cst (.bl false))) .nil) .nil) .nil)).s CL en h = .nx en h' := by
  obtain ⟨h1, e1, q1⟩ := call_d (f := 62) (by kernel_rfl) (by kernel_rfl) (by kernel_rfl) (fun a b c c0 c1 => let ⟨a', c', g0, g1, e⟩ := sums a b c c0 c1; ⟨a', c', _, g0, g1, e 17, rfl⟩) q (by omega)
  obtain ⟨h2, e2, q2⟩ := call_d (f := 63) (by kernel_rfl) (by kernel_rfl) (by kernel_rfl) (rounds RA) q1 (by omega)
  obtain ⟨h3, e3, q3⟩ := call_d (f := 64) (by kernel_rfl) (by kernel_rfl) (by kernel_rfl) (stills SA) q2 (by omega)
  refine ⟨h3, (by omega : m + 10 + 10 + 10 = m + 30) ▸ q3, ?_⟩
  exact Ev.seq (Ev.sifF (Ev.orF (Ev.notF (Ev.callT (Ev.call (Ev.cons1 (Ev.slot hs) rfl Ev.nil) e1))) (Ev.orF (Ev.notF (Ev.callT (Ev.call (Ev.cons1 (Ev.slot hs) rfl Ev.nil) e2))) (Ev.notF (Ev.callT (Ev.call (Ev.cons1 (Ev.slot hs) rfl Ev.nil) e3))))) Ev.snil) Ev.snil
/-- one spot -/
theorem spot (RA : RndAll) (SA : StiAll) {ns : List Int} {o : O} (so : Scr ns o) {p : Nat} (hp : p < 64) {x y z : Option D} {h : Sh} (q : Q0 o h) : ∃ h' d, Q0 o h' ∧
    (comp L.B (.cons 0 (.sasg (.gname 2 true) (.call 59 (.cons 1 (.slot 0) (.cons 1 (.slot 1) .nil)))) (.cons 0 (.sfor (.gname 3 false) (.wrng (.cons 0 (.cst (.int 3)) .nil)) (.cons 0 (.sif (.tor (.tnot (.call 62 (.cons 1 (.slot 2) .nil))) (.tor (.tnot (.call 63 (.cons 1 (.slot 2) .nil))) (.tnot (.call 64 (.cons 1 (.slot 2) .nil))))) (.cons 0 (.sret (.cst (.bl false))) .nil) .nil) .nil)) .nil))).s CL [some (.obj 0), some (.int p), y, z] h = .nx [some (.obj 0), some (.int p), some (.obj d), some (.int 2)] h' := by
  obtain ⟨a, b, e⟩ := dice so p hp
  obtain ⟨w, n0, g0⟩ := q
  have gp : ∀ k, (h.push (.lst [.int a, .int b, .int 0])).get k = if k = h.n then some (.lst [.int a, .int b, .int 0]) else h.get k := fun k => Sh.get_push k _
  have q3 : Q3 o h.n 0 (h.push (.lst [.int a, .int b, .int 0])) := by
    refine ⟨⟨?_, ?_, ?_⟩, n0, ?_, a, b, 0, ?_, by omega, by omega⟩
    · rw [Sh.push_eq]; show h.n + 1 = (_ :: h.l).length; rw [List.length_cons, w]
    · rw [Sh.push_eq]; show 0 < h.n + 1; omega
    · rw [gp, if_neg (by omega)]; exact g0
    · rw [Sh.push_eq]; show h.n < h.n + 1; omega
    · rw [gp, if_pos rfl]
  obtain ⟨h1, q1, e1⟩ := turn RA SA (en := [some (.obj 0), some (.int p), some (.obj h.n), some (.int 0)]) rfl q3 (by omega)
  obtain ⟨h2, q2, e2⟩ := turn RA SA (en := [some (.obj 0), some (.int p), some (.obj h.n), some (.int 1)]) rfl q1 (by omega)
  obtain ⟨h3, q3, e3⟩ := turn RA SA (en := [some (.obj 0), some (.int p), some (.obj h.n), some (.int 2)]) rfl q2 (by omega)
  refine ⟨h3, h.n, q3.1, ?_⟩
  refine Ev.seq (Ev.nameK (en1 := [some (.obj 0), some (.int p), some (.obj h.n), z]) (h2 := h.push (.lst [.int a, .int b, .int 0])) (Ev.call (Ev.cons1 (Ev.slot rfl) rfl (Ev.cons1 (Ev.slot rfl) rfl Ev.nil)) (e (LV 1000 20) h g0)) rfl) ?_
  refine Ev.seq (Ev.sfor (w := .rng 0 1 3) (Ev.rng (Ev.cons0 Ev.cst Ev.nil) rfl) ?_) Ev.snil
  exact Ev.forNext (n := 999) (x := .int 0) (w' := .rng 1 1 2) rfl (Ev.gname rfl) e1 (Ev.forNext (n := 998) (x := .int 1) (w' := .rng 2 1 1) rfl (Ev.gname rfl) e2 (Ev.forNext (n := 997) (x := .int 2) (w' := .rng 3 1 0) rfl (Ev.gname rfl) e3 (Ev.forStop (n := 996) rfl)))
theorem spots (RA : RndAll) (SA : StiAll) {ns : List Int} {o : O} (so : Scr ns o) : ∀ (m i : Nat) (x y z : Option D) (h : Sh) (fuel : Nat), Q0 o h → i + m ≤ 60 → ∃ en' h', forK (comp L.B (.gname 1 false)).g (comp L.B (.cons 0 (.sasg (.gname 2 true) (.call 59 (.cons 1 (.slot 0) (.cons 1 (.slot 1) .nil)))) (.cons 0 (.sfor (.gname 3 false) (.wrng (.cons 0 (.cst (.int 3)) .nil)) (.cons 0 (.sif (.tor (.tnot (.call 62 (.cons 1 (.slot 2) .nil))) (.tor (.tnot (.call 63 (.cons 1 (.slot 2) .nil))) (.tnot (.call 64 (.cons 1 (.slot 2) .nil))))) (.cons 0 (.sret (.cst (.bl false))) .nil) .nil) .nil)) .nil))).s CL (fuel + m + 1) (.rng i 1 m) [some (.obj 0), x, y, z] h = .nx en' h'
  | 0, i, x, y, z, h, fuel, q, hi => ⟨_, h, Ev.forStop (n := fuel) rfl⟩
  | m + 1, i, x, y, z, h, fuel, q, hi => by
    obtain ⟨h1, d, q1, e1⟩ := spot RA SA so (p := i) (by omega) (x := x) (y := y) (z := z) q
    obtain ⟨en', h', e'⟩ := spots RA SA so m (i + 1) (some (.int i)) (some (.obj d)) (some (.int 2)) h1 fuel q1 (by omega)
    refine ⟨en', h', Ev.forNext (n := fuel + m + 1) (x := .int i) (w' := .rng (i + 1 : Nat) 1 m) ?_ (Ev.gname rfl) e1 e'⟩
    rw [stepW_rng]
    show frI (i : Int) (fun lo => Wr.item (.int lo) (.rng (lo + 1) 1 m)) = _
    rw [frI_eq]; rfl
theorem ev (RA : RndAll) (SA : StiAll) {ns : List Int} {o : O} (hl : ns.length ≤ 63) (so : Scr ns o) : ∃ h', callF L.B CL 65 [.obj 0] ⟨1, [o], []⟩ = .ok (.bl true) h' := by
  have g0 : (⟨1, [o], []⟩ : Sh).get 0 = some o := rfl
  obtain ⟨N, hN, hN2⟩ : ∃ N : Nat, N ≤ 6 ∧ (if (1 : Int) < (if ((ns.length : Nat) : Int) < 6 then ((ns.length : Nat) : Int) else 6) then (if ((ns.length : Nat) : Int) < 6 then ((ns.length : Nat) : Int) else 6) else 1) = (N : Int) := by
    by_cases z : ((ns.length : Nat) : Int) < 6
    · rw [if_pos z]
      by_cases y : (1 : Int) < ((ns.length : Nat) : Int)
      · rw [if_pos y]; exact ⟨ns.length, by omega, rfl⟩
      · rw [if_neg y]; exact ⟨1, by omega, rfl⟩
    · rw [if_neg z, if_pos (by decide)]; exact ⟨6, by omega, rfl⟩
  obtain ⟨en', h', e⟩ := spots RA SA so N 0 none none none ⟨1, [o], []⟩ (999 - N) ⟨rfl, by show 0 < 1; omega, rfl⟩ (by omega)
  rw [show 999 - N + N + 1 = 1000 by omega] at e
  refine ⟨h', Ev.def_ (t := t65) (fd := ⟨1, [none, none, none], t65⟩) (en1 := [some (.obj 0), none, none, none]) (by kernel_rfl) rfl ?_⟩
  refine Ev.seq (Ev.sfor (w := .rng 0 1 N) (Ev.rng (Ev.cons0 (Ev.max2 (Ev.cons0 Ev.cst (Ev.cons0 (Ev.min2 (Ev.cons0 Ev.cst (Ev.cons0 (Ev.bi (Ev.cons0 (Ev.slot rfl) Ev.nil) (len_s so g0)) Ev.nil))) Ev.nil))) Ev.nil) ?_) e) ?_
  · rw [hN2, Ev.rng1 (by omega) (by omega)]; rfl
  · refine Ev.seqR (Ev.ret (Ev.andET (Ev.cmpE (Ev.cmp (Ev.call (Ev.cons1 (Ev.tup Ev.nil rfl) rfl Ev.nil) (call_p (f := 58) (by kernel_rfl) (by kernel_rfl) (by kernel_rfl) (d := .tup [.int 0]) (by kernel_rfl) (by kernel_rfl) (by kernel_rfl) h')) (Ev.tup (Ev.cons1 Ev.cst rfl Ev.nil) rfl) (q := true) rfl))
      (Ev.andET (Ev.cmpE (Ev.cmp (Ev.call (Ev.cons1 Ev.cst rfl (Ev.cons1 (Ev.tup Ev.nil rfl) rfl Ev.nil)) (call_p (f := 48) (by kernel_rfl) (by kernel_rfl) (by kernel_rfl) (d := .int 0) (by kernel_rfl) (by kernel_rfl) (by kernel_rfl) h')) Ev.cst (q := true) rfl))
      (Ev.cmpE (Ev.cmp (Ev.call (Ev.cons1 Ev.cst rfl (Ev.cons1 (Ev.tup Ev.nil rfl) rfl Ev.nil)) (call_p (f := 46) (by kernel_rfl) (by kernel_rfl) (by kernel_rfl) (d := .tup []) (by kernel_rfl) (by kernel_rfl) (by kernel_rfl) h')) (Ev.tup Ev.nil rfl) (q := true) rfl)))))
end Lw
end
section
open PySem Pv PySem.W
set_option Elab.async false
set_option linter.all false
set_option maxRecDepth 100000
set_option maxHeartbeats 0
set_option autoImplicit false
namespace Lw
theorem r1_1_0 (x : O) : chk (rnd 1 1 0 x) = some x := by kernel_rfl
theorem r1_1_1 (x : O) : chk (rnd 1 1 1 x) = some x := by kernel_rfl
theorem r1_2_0 (x : O) : chk (rnd 1 2 0 x) = some x := by kernel_rfl
theorem r1_2_1 (x : O) : chk (rnd 1 2 1 x) = some x := by kernel_rfl
theorem r1_3_0 (x : O) : chk (rnd 1 3 0 x) = some x := by kernel_rfl
theorem r1_3_1 (x : O) : chk (rnd 1 3 1 x) = some x := by kernel_rfl
theorem r1_4_0 (x : O) : chk (rnd 1 4 0 x) = some x := by kernel_rfl
theorem r1_4_1 (x : O) : chk (rnd 1 4 1 x) = some x := by kernel_rfl
theorem r1_5_0 (x : O) : chk (rnd 1 5 0 x) = some x := by kernel_rfl
theorem r1_5_1 (x : O) : chk (rnd 1 5 1 x) = some x := by kernel_rfl
theorem r1_6_0 (x : O) : chk (rnd 1 6 0 x) = some x := by kernel_rfl
theorem r1_6_1 (x : O) : chk (rnd 1 6 1 x) = some x := by kernel_rfl
theorem r2_1_0 (x : O) : chk (rnd 2 1 0 x) = some x := by kernel_rfl
theorem r2_1_1 (x : O) : chk (rnd 2 1 1 x) = some x := by kernel_rfl
theorem r2_1_2 (x : O) : chk (rnd 2 1 2 x) = some x := by kernel_rfl
theorem r2_2_0 (x : O) : chk (rnd 2 2 0 x) = some x := by kernel_rfl
theorem r2_2_1 (x : O) : chk (rnd 2 2 1 x) = some x := by kernel_rfl
theorem r2_2_2 (x : O) : chk (rnd 2 2 2 x) = some x := by kernel_rfl
theorem r2_3_0 (x : O) : chk (rnd 2 3 0 x) = some x := by kernel_rfl
theorem r2_3_1 (x : O) : chk (rnd 2 3 1 x) = some x := by kernel_rfl
theorem r2_3_2 (x : O) : chk (rnd 2 3 2 x) = some x := by kernel_rfl
theorem r2_4_0 (x : O) : chk (rnd 2 4 0 x) = some x := by kernel_rfl
theorem r2_4_1 (x : O) : chk (rnd 2 4 1 x) = some x := by kernel_rfl
theorem r2_4_2 (x : O) : chk (rnd 2 4 2 x) = some x := by kernel_rfl
theorem r2_5_0 (x : O) : chk (rnd 2 5 0 x) = some x := by kernel_rfl
theorem r2_5_1 (x : O) : chk (rnd 2 5 1 x) = some x := by kernel_rfl
theorem r2_5_2 (x : O) : chk (rnd 2 5 2 x) = some x := by kernel_rfl
theorem r2_6_0 (x : O) : chk (rnd 2 6 0 x) = some x := by kernel_rfl
theorem r2_6_1 (x : O) : chk (rnd 2 6 1 x) = some x := by kernel_rfl
theorem r2_6_2 (x : O) : chk (rnd 2 6 2 x) = some x := by kernel_rfl
theorem r3_1_0 (x : O) : chk (rnd 3 1 0 x) = some x := by kernel_rfl
theorem r3_1_1 (x : O) : chk (rnd 3 1 1 x) = some x := by kernel_rfl
theorem r3_1_2 (x : O) : chk (rnd 3 1 2 x) = some x := by kernel_rfl
theorem r3_1_3 (x : O) : chk (rnd 3 1 3 x) = some x := by kernel_rfl
theorem r3_2_0 (x : O) : chk (rnd 3 2 0 x) = some x := by kernel_rfl
theorem r3_2_1 (x : O) : chk (rnd 3 2 1 x) = some x := by kernel_rfl
theorem r3_2_2 (x : O) : chk (rnd 3 2 2 x) = some x := by kernel_rfl
theorem r3_2_3 (x : O) : chk (rnd 3 2 3 x) = some x := by kernel_rfl
theorem r3_3_0 (x : O) : chk (rnd 3 3 0 x) = some x := by kernel_rfl
theorem r3_3_1 (x : O) : chk (rnd 3 3 1 x) = some x := by kernel_rfl
theorem r3_3_2 (x : O) : chk (rnd 3 3 2 x) = some x := by kernel_rfl
theorem r3_3_3 (x : O) : chk (rnd 3 3 3 x) = some x := by kernel_rfl
theorem r3_4_0 (x : O) : chk (rnd 3 4 0 x) = some x := by kernel_rfl
theorem r3_4_1 (x : O) : chk (rnd 3 4 1 x) = some x := by kernel_rfl
theorem r3_4_2 (x : O) : chk (rnd 3 4 2 x) = some x := by kernel_rfl
theorem r3_4_3 (x : O) : chk (rnd 3 4 3 x) = some x := by kernel_rfl
theorem r3_5_0 (x : O) : chk (rnd 3 5 0 x) = some x := by kernel_rfl
theorem r3_5_1 (x : O) : chk (rnd 3 5 1 x) = some x := by kernel_rfl
theorem r3_5_2 (x : O) : chk (rnd 3 5 2 x) = some x := by kernel_rfl
theorem r3_5_3 (x : O) : chk (rnd 3 5 3 x) = some x := by kernel_rfl
theorem r3_6_0 (x : O) : chk (rnd 3 6 0 x) = some x := by kernel_rfl
theorem r3_6_1 (x : O) : chk (rnd 3 6 1 x) = some x := by kernel_rfl
theorem r3_6_2 (x : O) : chk (rnd 3 6 2 x) = some x := by kernel_rfl
theorem r3_6_3 (x : O) : chk (rnd 3 6 3 x) = some x := by kernel_rfl
theorem r4_1_0 (x : O) : chk (rnd 4 1 0 x) = some x := by kernel_rfl
theorem r4_1_1 (x : O) : chk (rnd 4 1 1 x) = some x := by kernel_rfl
theorem r4_1_2 (x : O) : chk (rnd 4 1 2 x) = some x := by kernel_rfl
theorem r4_1_3 (x : O) : chk (rnd 4 1 3 x) = some x := by kernel_rfl
theorem r4_1_4 (x : O) : chk (rnd 4 1 4 x) = some x := by kernel_rfl
theorem r4_2_0 (x : O) : chk (rnd 4 2 0 x) = some x := by kernel_rfl
theorem r4_2_1 (x : O) : chk (rnd 4 2 1 x) = some x := by kernel_rfl
theorem r4_2_2 (x : O) : chk (rnd 4 2 2 x) = some x := by kernel_rfl
theorem r4_2_3 (x : O) : chk (rnd 4 2 3 x) = some x := by kernel_rfl
theorem r4_2_4 (x : O) : chk (rnd 4 2 4 x) = some x := by kernel_rfl
theorem r4_3_0 (x : O) : chk (rnd 4 3 0 x) = some x := by kernel_rfl
theorem r4_3_1 (x : O) : chk (rnd 4 3 1 x) = some x := by kernel_rfl
theorem r4_3_2 (x : O) : chk (rnd 4 3 2 x) = some x := by kernel_rfl
theorem r4_3_3 (x : O) : chk (rnd 4 3 3 x) = some x := by kernel_rfl
theorem r4_3_4 (x : O) : chk (rnd 4 3 4 x) = some x := by kernel_rfl
theorem r4_4_0 (x : O) : chk (rnd 4 4 0 x) = some x := by kernel_rfl
theorem r4_4_1 (x : O) : chk (rnd 4 4 1 x) = some x := by kernel_rfl
theorem r4_4_2 (x : O) : chk (rnd 4 4 2 x) = some x := by kernel_rfl
theorem r4_4_3 (x : O) : chk (rnd 4 4 3 x) = some x := by kernel_rfl
theorem r4_4_4 (x : O) : chk (rnd 4 4 4 x) = some x := by kernel_rfl
theorem r4_5_0 (x : O) : chk (rnd 4 5 0 x) = some x := by kernel_rfl
theorem r4_5_1 (x : O) : chk (rnd 4 5 1 x) = some x := by kernel_rfl
theorem r4_5_2 (x : O) : chk (rnd 4 5 2 x) = some x := by kernel_rfl
theorem r4_5_3 (x : O) : chk (rnd 4 5 3 x) = some x := by kernel_rfl
theorem r4_5_4 (x : O) : chk (rnd 4 5 4 x) = some x := by kernel_rfl
theorem r4_6_0 (x : O) : chk (rnd 4 6 0 x) = some x := by kernel_rfl
theorem r4_6_1 (x : O) : chk (rnd 4 6 1 x) = some x := by kernel_rfl
theorem r4_6_2 (x : O) : chk (rnd 4 6 2 x) = some x := by kernel_rfl
theorem r4_6_3 (x : O) : chk (rnd 4 6 3 x) = some x := by kernel_rfl
theorem r4_6_4 (x : O) : chk (rnd 4 6 4 x) = some x := by kernel_rfl
theorem r5_1_0 (x : O) : chk (rnd 5 1 0 x) = some x := by kernel_rfl
theorem r5_1_1 (x : O) : chk (rnd 5 1 1 x) = some x := by kernel_rfl
theorem r5_1_2 (x : O) : chk (rnd 5 1 2 x) = some x := by kernel_rfl
theorem r5_1_3 (x : O) : chk (rnd 5 1 3 x) = some x := by kernel_rfl
theorem r5_1_4 (x : O) : chk (rnd 5 1 4 x) = some x := by kernel_rfl
theorem r5_1_5 (x : O) : chk (rnd 5 1 5 x) = some x := by kernel_rfl
theorem r5_2_0 (x : O) : chk (rnd 5 2 0 x) = some x := by kernel_rfl
theorem r5_2_1 (x : O) : chk (rnd 5 2 1 x) = some x := by kernel_rfl
theorem r5_2_2 (x : O) : chk (rnd 5 2 2 x) = some x := by kernel_rfl
theorem r5_2_3 (x : O) : chk (rnd 5 2 3 x) = some x := by kernel_rfl
theorem r5_2_4 (x : O) : chk (rnd 5 2 4 x) = some x := by kernel_rfl
theorem r5_2_5 (x : O) : chk (rnd 5 2 5 x) = some x := by kernel_rfl
theorem r5_3_0 (x : O) : chk (rnd 5 3 0 x) = some x := by kernel_rfl
theorem r5_3_1 (x : O) : chk (rnd 5 3 1 x) = some x := by kernel_rfl
theorem r5_3_2 (x : O) : chk (rnd 5 3 2 x) = some x := by kernel_rfl
theorem r5_3_3 (x : O) : chk (rnd 5 3 3 x) = some x := by kernel_rfl
theorem r5_3_4 (x : O) : chk (rnd 5 3 4 x) = some x := by kernel_rfl
theorem r5_3_5 (x : O) : chk (rnd 5 3 5 x) = some x := by kernel_rfl
theorem r5_4_0 (x : O) : chk (rnd 5 4 0 x) = some x := by kernel_rfl
theorem r5_4_1 (x : O) : chk (rnd 5 4 1 x) = some x := by kernel_rfl
theorem r5_4_2 (x : O) : chk (rnd 5 4 2 x) = some x := by kernel_rfl
theorem r5_4_3 (x : O) : chk (rnd 5 4 3 x) = some x := by kernel_rfl
theorem r5_4_4 (x : O) : chk (rnd 5 4 4 x) = some x := by kernel_rfl
theorem r5_4_5 (x : O) : chk (rnd 5 4 5 x) = some x := by kernel_rfl
theorem r5_5_0 (x : O) : chk (rnd 5 5 0 x) = some x := by kernel_rfl
theorem r5_5_1 (x : O) : chk (rnd 5 5 1 x) = some x := by kernel_rfl
theorem r5_5_2 (x : O) : chk (rnd 5 5 2 x) = some x := by kernel_rfl
theorem r5_5_3 (x : O) : chk (rnd 5 5 3 x) = some x := by kernel_rfl
theorem r5_5_4 (x : O) : chk (rnd 5 5 4 x) = some x := by kernel_rfl
theorem r5_5_5 (x : O) : chk (rnd 5 5 5 x) = some x := by kernel_rfl
theorem r5_6_0 (x : O) : chk (rnd 5 6 0 x) = some x := by kernel_rfl
theorem r5_6_1 (x : O) : chk (rnd 5 6 1 x) = some x := by kernel_rfl
theorem r5_6_2 (x : O) : chk (rnd 5 6 2 x) = some x := by kernel_rfl
theorem r5_6_3 (x : O) : chk (rnd 5 6 3 x) = some x := by kernel_rfl
theorem r5_6_4 (x : O) : chk (rnd 5 6 4 x) = some x := by kernel_rfl
theorem r5_6_5 (x : O) : chk (rnd 5 6 5 x) = some x := by kernel_rfl
theorem s1_1 (x : O) : chk (sti 1 1 x) = some x := by kernel_rfl
theorem s1_2 (x : O) : chk (sti 1 2 x) = some x := by kernel_rfl
theorem s1_3 (x : O) : chk (sti 1 3 x) = some x := by kernel_rfl
theorem s1_4 (x : O) : chk (sti 1 4 x) = some x := by kernel_rfl
theorem s2_1 (x : O) : chk (sti 2 1 x) = some x := by kernel_rfl
theorem s2_2 (x : O) : chk (sti 2 2 x) = some x := by kernel_rfl
theorem s2_3 (x : O) : chk (sti 2 3 x) = some x := by kernel_rfl
theorem s2_4 (x : O) : chk (sti 2 4 x) = some x := by kernel_rfl
theorem s3_1 (x : O) : chk (sti 3 1 x) = some x := by kernel_rfl
theorem s3_2 (x : O) : chk (sti 3 2 x) = some x := by kernel_rfl
theorem s3_3 (x : O) : chk (sti 3 3 x) = some x := by kernel_rfl
theorem s3_4 (x : O) : chk (sti 3 4 x) = some x := by kernel_rfl
theorem s4_1 (x : O) : chk (sti 4 1 x) = some x := by kernel_rfl
theorem s4_2 (x : O) : chk (sti 4 2 x) = some x := by kernel_rfl
theorem s4_3 (x : O) : chk (sti 4 3 x) = some x := by kernel_rfl
theorem s4_4 (x : O) : chk (sti 4 4 x) = some x := by kernel_rfl
theorem s5_1 (x : O) : chk (sti 5 1 x) = some x := by kernel_rfl
theorem s5_2 (x : O) : chk (sti 5 2 x) = some x := by kernel_rfl
theorem s5_3 (x : O) : chk (sti 5 3 x) = some x := by kernel_rfl
theorem s5_4 (x : O) : chk (sti 5 4 x) = some x := by kernel_rfl
theorem rnd_all : RndAll := fun s r q x h1 h2 h3 h4 h5 => by
  obtain rfl | rfl | rfl | rfl | rfl : s = 1 ∨ s = 2 ∨ s = 3 ∨ s = 4 ∨ s = 5 := by omega
  · obtain rfl | rfl | rfl | rfl | rfl | rfl : r = 1 ∨ r = 2 ∨ r = 3 ∨ r = 4 ∨ r = 5 ∨ r = 6 := by omega
    · obtain rfl | rfl : q = 0 ∨ q = 1 := by omega
      · exact r1_1_0 x
      · exact r1_1_1 x
    · obtain rfl | rfl : q = 0 ∨ q = 1 := by omega
      · exact r1_2_0 x
      · exact r1_2_1 x
    · obtain rfl | rfl : q = 0 ∨ q = 1 := by omega
      · exact r1_3_0 x
      · exact r1_3_1 x
    · obtain rfl | rfl : q = 0 ∨ q = 1 := by omega
      · exact r1_4_0 x
      · exact r1_4_1 x
    · obtain rfl | rfl : q = 0 ∨ q = 1 := by omega
      · exact r1_5_0 x
      · exact r1_5_1 x
    · obtain rfl | rfl : q = 0 ∨ q = 1 := by omega
      · exact r1_6_0 x
      · exact r1_6_1 x
  · obtain rfl | rfl | rfl | rfl | rfl | rfl : r = 1 ∨ r = 2 ∨ r = 3 ∨ r = 4 ∨ r = 5 ∨ r = 6 := by omega
    · obtain rfl | rfl | rfl : q = 0 ∨ q = 1 ∨ q = 2 := by omega
      · exact r2_1_0 x
      · exact r2_1_1 x
      · exact r2_1_2 x
    · obtain rfl | rfl | rfl : q = 0 ∨ q = 1 ∨ q = 2 := by omega
      · exact r2_2_0 x
      · exact r2_2_1 x
      · exact r2_2_2 x
    · obtain rfl | rfl | rfl : q = 0 ∨ q = 1 ∨ q = 2 := by omega
      · exact r2_3_0 x
      · exact r2_3_1 x
      · exact r2_3_2 x
    · obtain rfl | rfl | rfl : q = 0 ∨ q = 1 ∨ q = 2 := by omega
      · exact r2_4_0 x
      · exact r2_4_1 x
      · exact r2_4_2 x
    · obtain rfl | rfl | rfl : q = 0 ∨ q = 1 ∨ q = 2 := by omega
      · exact r2_5_0 x
      · exact r2_5_1 x
      · exact r2_5_2 x
    · obtain rfl | rfl | rfl : q = 0 ∨ q = 1 ∨ q = 2 := by omega
      · exact r2_6_0 x
      · exact r2_6_1 x
      · exact r2_6_2 x
  · obtain rfl | rfl | rfl | rfl | rfl | rfl : r = 1 ∨ r = 2 ∨ r = 3 ∨ r = 4 ∨ r = 5 ∨ r = 6 := by omega
    · obtain rfl | rfl | rfl | rfl : q = 0 ∨ q = 1 ∨ q = 2 ∨ q = 3 := by omega
      · exact r3_1_0 x
      · exact r3_1_1 x
      · exact r3_1_2 x
      · exact r3_1_3 x
    · obtain rfl | rfl | rfl | rfl : q = 0 ∨ q = 1 ∨ q = 2 ∨ q = 3 := by omega
      · exact r3_2_0 x
      · exact r3_2_1 x
      · exact r3_2_2 x
      · exact r3_2_3 x
    · obtain rfl | rfl | rfl | rfl : q = 0 ∨ q = 1 ∨ q = 2 ∨ q = 3 := by omega
      · exact r3_3_0 x
      · exact r3_3_1 x
      · exact r3_3_2 x
      · exact r3_3_3 x
    · obtain rfl | rfl | rfl | rfl : q = 0 ∨ q = 1 ∨ q = 2 ∨ q = 3 := by omega
      · exact r3_4_0 x
      · exact r3_4_1 x
      · exact r3_4_2 x
      · exact r3_4_3 x
    · obtain rfl | rfl | rfl | rfl : q = 0 ∨ q = 1 ∨ q = 2 ∨ q = 3 := by omega
      · exact r3_5_0 x
      · exact r3_5_1 x
      · exact r3_5_2 x
      · exact r3_5_3 x
    · obtain rfl | rfl | rfl | rfl : q = 0 ∨ q = 1 ∨ q = 2 ∨ q = 3 := by omega
      · exact r3_6_0 x
      · exact r3_6_1 x
      · exact r3_6_2 x
      · exact r3_6_3 x
  · obtain rfl | rfl | rfl | rfl | rfl | rfl : r = 1 ∨ r = 2 ∨ r = 3 ∨ r = 4 ∨ r = 5 ∨ r = 6 := by omega
    · obtain rfl | rfl | rfl | rfl | rfl : q = 0 ∨ q = 1 ∨ q = 2 ∨ q = 3 ∨ q = 4 := by omega
      · exact r4_1_0 x
      · exact r4_1_1 x
      · exact r4_1_2 x
      · exact r4_1_3 x
      · exact r4_1_4 x
    · obtain rfl | rfl | rfl | rfl | rfl : q = 0 ∨ q = 1 ∨ q = 2 ∨ q = 3 ∨ q = 4 := by omega
      · exact r4_2_0 x
      · exact r4_2_1 x
      · exact r4_2_2 x
      · exact r4_2_3 x
      · exact r4_2_4 x
    · obtain rfl | rfl | rfl | rfl | rfl : q = 0 ∨ q = 1 ∨ q = 2 ∨ q = 3 ∨ q = 4 := by omega
      · exact r4_3_0 x
      · exact r4_3_1 x
      · exact r4_3_2 x
      · exact r4_3_3 x
      · exact r4_3_4 x
    · obtain rfl | rfl | rfl | rfl | rfl : q = 0 ∨ q = 1 ∨ q = 2 ∨ q = 3 ∨ q = 4 := by omega
      · exact r4_4_0 x
      · exact r4_4_1 x
      · exact r4_4_2 x
      · exact r4_4_3 x
      · exact r4_4_4 x
    · obtain rfl | rfl | rfl | rfl | rfl : q = 0 ∨ q = 1 ∨ q = 2 ∨ q = 3 ∨ q = 4 := by omega
      · exact r4_5_0 x
      · exact r4_5_1 x
      · exact r4_5_2 x
      · exact r4_5_3 x
      · exact r4_5_4 x
    · obtain rfl | rfl | rfl | rfl | rfl : q = 0 ∨ q = 1 ∨ q = 2 ∨ q = 3 ∨ q = 4 := by omega
      · exact r4_6_0 x
      · exact r4_6_1 x
      · exact r4_6_2 x
      · exact r4_6_3 x
      · exact r4_6_4 x
  · obtain rfl | rfl | rfl | rfl | rfl | rfl : r = 1 ∨ r = 2 ∨ r = 3 ∨ r = 4 ∨ r = 5 ∨ r = 6 := by omega
    · obtain rfl | rfl | rfl | rfl | rfl | rfl : q = 0 ∨ q = 1 ∨ q = 2 ∨ q = 3 ∨ q = 4 ∨ q = 5 := by omega
      · exact r5_1_0 x
      · exact r5_1_1 x
      · exact r5_1_2 x
      · exact r5_1_3 x
      · exact r5_1_4 x
      · exact r5_1_5 x
    · obtain rfl | rfl | rfl | rfl | rfl | rfl : q = 0 ∨ q = 1 ∨ q = 2 ∨ q = 3 ∨ q = 4 ∨ q = 5 := by omega
      · exact r5_2_0 x
      · exact r5_2_1 x
      · exact r5_2_2 x
      · exact r5_2_3 x
      · exact r5_2_4 x
      · exact r5_2_5 x
    · obtain rfl | rfl | rfl | rfl | rfl | rfl : q = 0 ∨ q = 1 ∨ q = 2 ∨ q = 3 ∨ q = 4 ∨ q = 5 := by omega
      · exact r5_3_0 x
      · exact r5_3_1 x
      · exact r5_3_2 x
      · exact r5_3_3 x
      · exact r5_3_4 x
      · exact r5_3_5 x
    · obtain rfl | rfl | rfl | rfl | rfl | rfl : q = 0 ∨ q = 1 ∨ q = 2 ∨ q = 3 ∨ q = 4 ∨ q = 5 := by omega
      · exact r5_4_0 x
      · exact r5_4_1 x
      · exact r5_4_2 x
      · exact r5_4_3 x
      · exact r5_4_4 x
      · exact r5_4_5 x
    · obtain rfl | rfl | rfl | rfl | rfl | rfl : q = 0 ∨ q = 1 ∨ q = 2 ∨ q = 3 ∨ q = 4 ∨ q = 5 := by omega
      · exact r5_5_0 x
      · exact r5_5_1 x
      · exact r5_5_2 x
      · exact r5_5_3 x
      · exact r5_5_4 x
      · exact r5_5_5 x
    · obtain rfl | rfl | rfl | rfl | rfl | rfl : q = 0 ∨ q = 1 ∨ q = 2 ∨ q = 3 ∨ q = 4 ∨ q = 5 := by omega
      · exact r5_6_0 x
      · exact r5_6_1 x
      · exact r5_6_2 x
      · exact r5_6_3 x
      · exact r5_6_4 x
      · exact r5_6_5 x
theorem sti_all : StiAll := fun m t x h1 h2 h3 h4 => by
  obtain rfl | rfl | rfl | rfl | rfl : m = 1 ∨ m = 2 ∨ m = 3 ∨ m = 4 ∨ m = 5 := by omega
  · obtain rfl | rfl | rfl | rfl : t = 1 ∨ t = 2 ∨ t = 3 ∨ t = 4 := by omega
    · exact s1_1 x
    · exact s1_2 x
    · exact s1_3 x
    · exact s1_4 x
  · obtain rfl | rfl | rfl | rfl : t = 1 ∨ t = 2 ∨ t = 3 ∨ t = 4 := by omega
    · exact s2_1 x
    · exact s2_2 x
    · exact s2_3 x
    · exact s2_4 x
  · obtain rfl | rfl | rfl | rfl : t = 1 ∨ t = 2 ∨ t = 3 ∨ t = 4 := by omega
    · exact s3_1 x
    · exact s3_2 x
    · exact s3_3 x
    · exact s3_4 x
  · obtain rfl | rfl | rfl | rfl : t = 1 ∨ t = 2 ∨ t = 3 ∨ t = 4 := by omega
    · exact s4_1 x
    · exact s4_2 x
    · exact s4_3 x
    · exact s4_4 x
  · obtain rfl | rfl | rfl | rfl : t = 1 ∨ t = 2 ∨ t = 3 ∨ t = 4 := by omega
    · exact s5_1 x
    · exact s5_2 x
    · exact s5_3 x
    · exact s5_4 x
end Lw
end
set_option Elab.async false
set_option maxRecDepth 100000 in
set_option maxHeartbeats 0 in
theorem PySem.Challenge.cw_diskdoubt_k91_closed_sums_of_asks_holds : PySem.Challenge.rw_diskdoubt_k91_closed_sums_of_asks.Holds := by
  exact Lw.hold (cl := Lw.CL) (dk := 21) (n := 1000) (by decide) ⟨rfl, by decide, by decide⟩ (fun w K mg base p => Pv.Glb.orc (Pv.Glb.pure (Pv.levT_ok p (by decide) (fun cl k g => Pv.Glb.pure g) 21))) (fun ns o hl so => Lw.ev Lw.rnd_all Lw.sti_all hl so)
