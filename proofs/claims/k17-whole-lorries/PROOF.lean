import PyProof.Rows.All
import HandS.TupMul
import PySem.PyData
import HandS.ForMost
import HandS.ForExc
import HandS.TupAny
import HandS.Deep
import HandS.Lambda
import HandS.IsInst
import HandS.Style
import HandS.RaiseMore
import KE.SortData
import HandS.ListEq
import HandS.DeepEq
import HandS.More
import HandS.TupLen
import KE.DataMinMax
import KE.KDictCopyH
import HandS.TryOnly
import HandS.Flow
import HandS.Zip
import KE.GoesEnum
import KE.GoesMore
import KE.GoesZip
import HandS.DictComp
import KE.KDictPairs
import HandS.SetKeys
import HandS.SetFor
import HandS.TupSets
import HandS.Conv
import HandS.Strs
import KE.DataMinKey
import PyProof.WalkInts
import PyProof.Rows.CallKwBuiltin
import HandS.EndTab
import KE.KNestM
import PySem.Challenge.RW_stagedoor_k17_whole_lorries
set_option autoImplicit false
set_option Elab.async false
set_option linter.all false
set_option maxRecDepth 100000
set_option maxHeartbeats 4000000
namespace Pv
open PySem PySem.Spec PyProof.Rows L2
/-! ### tuple * 1, tuple * 0 -/
theorem tuple_mul1 (l : Addr) (items : Array Value) (n : Nat) (dd : Option Addr) (sl : Array (Option Value)) (u : Tok) :
    Meets (Builtin.«tuple.__mul__» ⟨[.ref l, .int 1 u], []⟩) (fun _ R s => s.heap.get? l = some { cls := .type "tuple", dict := dd, data := .seq items n, slots := sl } ∧
      R (.ok (.ret (Value.ref l))) s) :=
  .of_wp fun prog w A R s h => by
    obtain ⟨hp, g, d, tk, os⟩ := s
    obtain ⟨hl, h⟩ := h
    have f1 := AutoSeq1.idx_int
    have c0 : (decide ((1 : Int) < -(2 ^ 63)) || decide ((1 : Int) ≥ 2 ^ 63)) = false := by decide
    have c1 : (items.isEmpty || (1 : Int) == 1) = true := by rw [show ((1 : Int) == 1) = true from rfl, Bool.or_true]
    wp_walk using wpAny_loadPart' hl
    repeat (first
      | (refine wpAny_ite_false (decide_eq_false (by rw [c0]; exact Bool.false_ne_true)) ?_; wp_walk using wpAny_loadPart' hl)
      | (refine wpAny_ite_true (decide_eq_true c1) ?_; wp_walk using wpAny_loadPart' hl))
    exact ⟨_, rfl, h⟩
theorem tuple_mul0 (l : Addr) (items : Array Value) (n : Nat) (dd : Option Addr) (sl : Array (Option Value)) (u : Tok) (ne : items.isEmpty = false) :
    Meets (Builtin.«tuple.__mul__» ⟨[.ref l, .int 0 u], []⟩) (fun _ R s => s.heap.get? l = some { cls := .type "tuple", dict := dd, data := .seq items n, slots := sl } ∧
      R (.ok (.ret (Value.ref s.heap.objs.size))) { s with heap := s.heap.push { cls := Value.type "tuple", data := Data.seq #[] }, toks := s.toks }) :=
  .of_wp fun prog w A R s h => by
    obtain ⟨hp, g, d, tk, os⟩ := s
    obtain ⟨hl, h⟩ := h
    have f1 := AutoSeq1.idx_int
    have c0 : (decide ((0 : Int) < -(2 ^ 63)) || decide ((0 : Int) ≥ 2 ^ 63)) = false := by decide
    have c1 : (items.isEmpty || (0 : Int) == 1) = false := by rw [ne]; rfl
    have c2 : (decide ((0 : Int) ≤ 0) || items.isEmpty) = true := by rw [ne]; rfl
    have hsz : (#[] : Array Value).size ≤ sizeLine := Nat.zero_le _
    wp_walk using wpAny_loadPart' hl
    repeat (first
      | (refine wpAny_ite_false (decide_eq_false (by rw [c0]; exact Bool.false_ne_true)) ?_; wp_walk using wpAny_loadPart' hl)
      | (refine wpAny_ite_false (decide_eq_false (by rw [c1]; exact Bool.false_ne_true)) ?_; wp_walk using wpAny_loadPart' hl)
      | (refine wpAny_ite_true (decide_eq_true c2) ?_; wp_walk using wpAny_loadPart' hl)
      | (refine wpAny_ite_false (decide_eq_false (Nat.not_lt.mpr hsz)) ?_; wp_walk using wpAny_loadPart' hl))
    exact ⟨_, rfl, h⟩
def rRepA (K : PySem.W.Frag) : R2 := fun x y H Q => ∃ l k xs, x = .ref l ∧ y = .int k ∧ SqT K H l xs ∧ xs ≠ [] ∧ ((k = 1 ∧ Q (.ref l) H) ∨ (k = 0 ∧ ∀ p, H p = none → Q (.ref p) (upd H p (.tup []))))
section
variable {X : Cx}
theorem op_repA : OpR X (binaryOp .Mult) (rRepA X.K) := by
  intro pins s σ H x y v u Q I rx ry h
  obtain ⟨l, k, xs, rfl, rfl, hT, hne, h⟩ := h
  cases rx
  obtain ⟨t, rfl⟩ := ry
  obtain ⟨its, r, ⟨⟨cls, dd, data, sl⟩, ho, hc, n, hd⟩, hs⟩ := I.tuple hT
  simp only at hc hd
  subst hc hd
  have hle : its.length = xs.length := r.length.symm
  have hn : its ≠ [] := fun e => hne (by
    rw [e] at hle
    exact List.eq_nil_of_length_eq_zero hle.symm)
  have hi : its.toArray.isEmpty = false := by
    cases its with
    | nil => exact absurd rfl hn
    | cons a b => rfl
  rcases h with ⟨rfl, q⟩ | ⟨rfl, q⟩
  · exact wpAny_binaryOp_repeat_ref (T := "tuple") (U := "int") (by decide) ⟨_, ho, rfl⟩ (fun s' => typeIs_int s' 1 t) noFill_tuple_mul F.fills_int_mul F.slot_int_rmul repeat_tuple F.slot_int_index.lookup
      (call_meets F.slot_int_rmul (typeIs_int s 1 t) F.entry_int_rmul (F.args_int_rmul_2 _ _) (int_rmul_tuple 1 t l its.toArray n dd sl)
        ⟨ho, rfl, ⟨_, ho, rfl⟩, call_meets F.slot_tuple_mul ⟨_, ho, rfl⟩ F.entry_tuple_mul (F.args_tuple_mul_2 _ _) (tuple_mul1 l its.toArray n dd sl t) ⟨ho, ⟨.ref l, H, I, rfl, q⟩⟩⟩)
  · refine wpAny_binaryOp_repeat_ref (T := "tuple") (U := "int") (by decide) ⟨_, ho, rfl⟩ (fun s' => typeIs_int s' 0 t) noFill_tuple_mul F.fills_int_mul F.slot_int_rmul repeat_tuple F.slot_int_index.lookup
      (call_meets F.slot_int_rmul (typeIs_int s 0 t) F.entry_int_rmul (F.args_int_rmul_2 _ _) (int_rmul_tuple 0 t l its.toArray n dd sl)
        ⟨ho, rfl, ⟨_, ho, rfl⟩, call_meets F.slot_tuple_mul ⟨_, ho, rfl⟩ F.entry_tuple_mul (F.args_tuple_mul_2 _ _) (tuple_mul0 l its.toArray n dd sl t hi) ⟨ho, ?_⟩⟩)
    refine ⟨.ref s.heap.objs.size, _, I.laid (t' := s.toks) (o := .tup []) (fun b ob q => Heap.get?_push_of_some _ q) (Nat.le_refl _) ?_, rfl, q _ (I.hok.fresh (Nat.le_refl _))⟩
    exact ⟨Nat.zero_le _, [], .nil, IsTup.new _ _⟩
end
end Pv
/-! A small language of its own for the program's Python, and how it runs: values are trees, changeable things stand in a numbered store. -/
set_option autoImplicit false
namespace Pv
open PySem (Str)

abbrev Key := Sum Int Str
/-- a value -/
inductive U where
  | non | bl (b : Bool) | int (i : Int) | str (s : Str)
  | tup (xs : List U) | lst (xs : List U)
  | dK (ks : List Key) (vs : List U) | dT (ks : List (List Key)) (vs : List U)
  | scr (ns : List Int) | ktp (xs : List U) | obj (n : Nat)

mutual
def U.beq : U → U → Bool
  | .non, .non => true
  | .bl a, .bl b => a == b
  | .int a, .int b => a == b
  | .str a, .str b => decide (a = b)
  | .tup a, .tup b => U.beqs a b
  | .lst a, .lst b => U.beqs a b
  | .dK k a, .dK l b => decide (k = l) && U.beqs a b
  | .dT k a, .dT l b => decide (k = l) && U.beqs a b
  | .scr a, .scr b => decide (a = b)
  | .ktp a, .ktp b => U.beqs a b
  | .obj a, .obj b => a == b
  | _, _ => false
def U.beqs : List U → List U → Bool
  | [], [] => true
  | x :: xs, y :: ys => U.beq x y && U.beqs xs ys
  | _, _ => false
end
mutual
theorem U.beq_iff : ∀ a b : U, U.beq a b = true ↔ a = b
  | .non, b => by cases b <;> simp [U.beq]
  | .bl _, b => by cases b <;> simp [U.beq]
  | .int _, b => by cases b <;> simp [U.beq]
  | .str _, b => by cases b <;> simp [U.beq]
  | .tup xs, b => by cases b <;> simp [U.beq, U.beqs_iff xs]
  | .lst xs, b => by cases b <;> simp [U.beq, U.beqs_iff xs]
  | .dK _ xs, b => by cases b <;> simp [U.beq, U.beqs_iff xs]
  | .dT _ xs, b => by cases b <;> simp [U.beq, U.beqs_iff xs]
  | .scr _, b => by cases b <;> simp [U.beq]
  | .ktp xs, b => by cases b <;> simp [U.beq, U.beqs_iff xs]
  | .obj _, b => by cases b <;> simp [U.beq]
theorem U.beqs_iff : ∀ a b : List U, U.beqs a b = true ↔ a = b
  | [], b => by cases b <;> simp [U.beqs]
  | x :: xs, b => by
    cases b with
    | nil => simp [U.beqs]
    | cons y ys => simp [U.beqs, U.beq_iff x, U.beqs_iff xs]
end
instance : DecidableEq U := fun a b => decidable_of_iff _ (U.beq_iff a b)

/-- a changeable thing -/
inductive O where
  | lst (xs : List U) | dK (kvs : List (Key × U)) | dT (kvs : List (List Key × U)) | ins (c : Nat) (fs : List (Str × U)) | tab (q : Str)
  deriving DecidableEq
abbrev MS := List O
abbrev SU := List (Option U)

/-- an outcome -/
inductive Rv (α : Type) where
  | ok (a : α) (m : MS) | ex (c : Nat) (m : MS) | no
def Rv.bind {α β : Type} (r : Rv α) (f : α → MS → Rv β) : Rv β :=
  match r with
  | .ok a m => f a m
  | .ex c m => .ex c m
  | .no => .no
@[simp] theorem Rv.bind_ok {α β : Type} (a : α) (m : MS) (f : α → MS → Rv β) : (Rv.ok a m).bind f = f a m := rfl
@[simp] theorem Rv.bind_ex {α β : Type} (c : Nat) (m : MS) (f : α → MS → Rv β) : (Rv.ex c m).bind f = .ex c m := rfl
@[simp] theorem Rv.bind_no {α β : Type} (f : α → MS → Rv β) : (Rv.no : Rv α).bind f = .no := rfl
/-- a plain value or nothing -/
def Rv.of {α : Type} (o : Option α) (m : MS) : Rv α :=
  match o with
  | some a => .ok a m
  | none => .no
@[simp] theorem Rv.of_some {α : Type} (a : α) (m : MS) : Rv.of (some a) m = .ok a m := rfl
@[simp] theorem Rv.of_none {α : Type} (m : MS) : Rv.of (none : Option α) m = .no := rfl

/-! ### the language -/
inductive BO where | add | sub | mul | fdiv | mod | pow
  deriving DecidableEq
inductive CO where | eq | ne | lt | le | gt | ge | isin | notin | is | isnot
  deriving DecidableEq
inductive TY where | int | bool | str | tup | lst
  deriving DecidableEq
inductive BI where
  | len | all | any | sum | max1 | min1 | max2 | min2 | tuple | list (m : Bool) | int | repr | sorted (m : Bool) | setsort (m : Bool) | setlen | rangelist | rangetup | dict (m : Bool) | maxkey (q : Str)
  deriving DecidableEq
inductive ME where | append | insert | pop | index | get
  deriving DecidableEq
mutual
inductive Tg where
  | name (i : Nat) | tup (ts : Tgs)
inductive Tgs where
  | nil | cons (t : Tg) (ts : Tgs)
end
mutual
inductive Ex where
  | var (i : Nat)
  | non | bl (b : Bool) | int (i : Int) | str (s : Str)
  | glb (x : Str)
  | bin (o : BO) (m : Bool) (a b : Ex)
  | neg (a : Ex)
  | cmp (o : CO) (a b : Ex)
  | chn (o o' : CO) (a b c : Ex)
  | band (es : Exs) | bor (es : Exs) | bnot (a : Ex)
  | ite (c : Tx) (a b : Ex)
  | tup (es : Exs) | lst (m : Bool) (es : Exs)
  | dis (m t : Bool) (kvs : Prs)
  | call (f : Nat) (es : Exs)
  | bi (b : BI) (es : Exs)
  | isi (a : Ex) (ts : List TY)
  | idx (a b : Ex)
  | slc (a : Ex) (lo hi : Exo)
  | rev (a : Ex)
  | me (w : ME) (o : Ex) (es : Exs)
  | lc (m : Bool) (vs : List Nat) (tg : Tg) (it : It) (c : Txs) (e : Ex)
  | lc2 (m : Bool) (vs : List Nat) (tg : Tg) (it : It) (c : Txs) (vs1 : List Nat) (tg1 : Tg) (it1 : It) (c1 : Txs) (e : Ex)
  | dc (m t : Bool) (vs : List Nat) (tg : Tg) (it : It) (c : Txs) (k v : Ex)
  | dc2 (m t : Bool) (vs : List Nat) (tg : Tg) (it : It) (c : Txs) (vs1 : List Nat) (tg1 : Tg) (it1 : It) (c1 : Txs) (k v : Ex)
  | fld (c : Nat) (o : Ex) (f : Str)
  | mth (o : Ex) (c f : Nat) (m : Str) (es : Exs)
  | new (c f : Nat) (es : Exs)
inductive Exs where
  | nil | cons (e : Ex) (es : Exs)
inductive Prs where
  | nil | cons (k v : Ex) (r : Prs)
inductive Exo where
  | none | some (e : Ex)
inductive Tx where
  | val (e : Ex)
  | cmp (o : CO) (a b : Ex)
  | chn (o o' : CO) (a b c : Ex)
  | band (ts : Txs) | bor (ts : Txs) | bnot (t : Tx)
inductive Txs where
  | nil | cons (t : Tx) (ts : Txs)
inductive It where
  | seq (e : Ex) | str (e : Ex) | rng (a : Ex) | rng2 (a b : Ex) | enu (a : Ex) | zip (a b : Ex) | keys (t : Bool) (e : Ex)
end
mutual
inductive St where
  | exp (e : Ex)
  | asg (tg : Tg) (e : Ex)
  | par (i j : Nat) (a b : Ex)
  | setI (o i e : Ex)
  | aug (i : Nat) (o : BO) (e : Ex)
  | ret (e : Ex) | retN
  | ife (c : Tx) (a b : Sts)
  | for (tg : Tg) (it : It) (body : Sts)
  | whl (n : Nat) (c : Tx) (body : Sts)
  | setF (c : Nat) (o : Ex) (f : Str) (e : Ex)
  | nev
  | rai (c : Nat)
  | brk | cnt | pas
inductive Sts where
  | nil | cons (s : St) (ss : Sts)
end
structure Def where
  np : Nat
  nn : Nat
  keep : Bool
  body : Sts

/-! ### what is done with values -/
/-- the line of lengths -/
def line : Nat := 16777216
def mkL (m : Bool) (xs : List U) (s : MS) : Rv U := if m then .ok (.obj s.length) (s ++ [.lst xs]) else .ok (.lst xs) s
def mkK (m : Bool) (kvs : List (Key × U)) (s : MS) : Rv U := if m then .ok (.obj s.length) (s ++ [.dK kvs]) else .ok (.dK (kvs.map (·.1)) (kvs.map (·.2))) s
def mkT (m : Bool) (kvs : List (List Key × U)) (s : MS) : Rv U := if m then .ok (.obj s.length) (s ++ [.dT kvs]) else .ok (.dT (kvs.map (·.1)) (kvs.map (·.2))) s
/-- the list that stands at u (a written one, or in the store) -/
def lstOf (s : MS) : U → Option (List U)
  | .lst xs => some xs
  | .obj n => match s[n]? with
    | some (.lst xs) => some xs
    | _ => none
  | _ => none
/-- a list or a tuple -/
def seqOf (s : MS) (u : U) : Option (List U) :=
  match u with
  | .tup xs => some xs
  | .scr ns => some (ns.map .int)
  | .ktp xs => some xs
  | u => lstOf s u
def keyOf : U → Option Key
  | .int i => some (.inl i)
  | .str x => some (.inr x)
  | _ => none
def keysOf : List U → Option (List Key)
  | [] => some []
  | x :: xs => match keyOf x, keysOf xs with
    | some k, some ks => some (k :: ks)
    | _, _ => none
def isStrK : Key → Bool
  | .inr _ => true
  | .inl _ => false
/-- tuples of this length that are not all texts may be keys; of all others it is known that they have no dict of their own -/
def keyLen : Nat := 2
def tkeyOf : U → Option (List Key)
  | .tup (x :: xs) => if (x :: xs).length = keyLen then (keysOf (x :: xs)).bind fun k => if k.all isStrK then none else some k else none
  | _ => none
def uKey : Key → U
  | .inl i => .int i
  | .inr x => .str x
def uTKey (k : List Key) : U := .tup (k.map uKey)
def dKOf (s : MS) : U → Option (List (Key × U))
  | .dK ks vs => some (ks.zip vs)
  | .obj n => match s[n]? with
    | some (.dK kvs) => some kvs
    | _ => none
  | _ => none
def dTOf (s : MS) : U → Option (List (List Key × U))
  | .dT ks vs => some (ks.zip vs)
  | .obj n => match s[n]? with
    | some (.dT kvs) => some kvs
    | _ => none
  | _ => none
def putA {κ : Type} [DecidableEq κ] (k : κ) (v : U) (kvs : List (κ × U)) : List (κ × U) :=
  if kvs.any (fun p => decide (p.1 = k)) then kvs.map (fun p => if p.1 = k then (p.1, v) else p) else kvs ++ [(k, v)]
def lookA {κ : Type} [DecidableEq κ] (k : κ) (kvs : List (κ × U)) : Option U := (kvs.find? fun p => decide (p.1 = k)).map (·.2)

def strOk (x : Str) : Bool := x.cps.all (· < 0x110000)
mutual
def dep : U → Nat
  | .tup xs | .lst xs => deps xs + 1
  | _ => 0
def deps : List U → Nat
  | [] => 0
  | x :: xs => max (dep x) (deps xs)
end
mutual
/-- data alone: no dict, nothing of the store -/
def plain : U → Bool
  | .non | .bl _ | .int _ => true
  | .str x => strOk x
  | .tup xs | .lst xs => plains xs
  | .dK _ _ | .dT _ _ | .scr _ | .ktp _ | .obj _ => false
def plains : List U → Bool
  | [] => true
  | x :: xs => plain x && plains xs
end
def dat (u : U) : Bool := plain u && decide (dep u ≤ 62)
def dats (us : List U) : Bool := plains us && decide (deps us ≤ 61)
mutual
def eqU : U → U → Bool
  | .non, .non => true
  | .bl a, .bl b => a == b
  | .bl a, .int j => (if a then 1 else 0) == j
  | .int i, .bl b => i == (if b then 1 else 0)
  | .int i, .int j => i == j
  | .str x, .str y => x == y
  | .lst xs, .lst ys => eqUs xs ys
  | .tup xs, .tup ys => eqUs xs ys
  | _, _ => false
def eqUs : List U → List U → Bool
  | [], [] => true
  | x :: xs, y :: ys => eqU x y && eqUs xs ys
  | _, _ => false
end
def inU (u : U) (xs : List U) : Bool := xs.any fun y => eqU y u
/-- what a list in the store is, as a tree -/
def der (s : MS) (u : U) : Option U :=
  match u with
  | .obj _ => (lstOf s u).map .lst
  | u => some u

def lexI : List Int → List Int → Bool
  | x :: xs, y :: ys => if x = y then lexI xs ys else decide (x < y)
  | [], _ :: _ => true
  | _, [] => false
def intsOf : List U → Option (List Int)
  | [] => some []
  | .int i :: r => (intsOf r).map (i :: ·)
  | _ => none
/-- tuples of ints -/
def tupsOf : List U → Option (List (List Int))
  | [] => some []
  | .tup xs :: r => match intsOf xs, tupsOf r with
    | some k, some ks => some (k :: ks)
    | _, _ => none
  | _ :: _ => none
def strsOf : List U → Option (List Str)
  | [] => some []
  | .str i :: r => (strsOf r).map (i :: ·)
  | _ => none
def blsOf : List U → Option (List Bool)
  | [] => some []
  | .bl i :: r => (blsOf r).map (i :: ·)
  | _ => none
def ltU : U → U → Option Bool
  | .int i, .int j => some (decide (i < j))
  | .str x, .str y => some (decide (x.cps.toList < y.cps.toList))
  | .tup xs, .tup ys => match intsOf xs, intsOf ys with
    | some is, some js => some (lexI is js)
    | _, _ => none
  | _, _ => none

/-- u within a list or a dict -/
def isinR (s : MS) (u v : U) : Option Bool :=
  match lstOf s v with
  | some xs => if dat u && dats xs then some (inU u xs) else none
  | none => match dKOf s v with
    | some kvs => (keyOf u).map fun k => (lookA k kvs).isSome
    | none => match dTOf s v with
      | some kvs => (tkeyOf u).map fun k => (lookA k kvs).isSome
      | none => none
def isinU (s : MS) (u v : U) : Option Bool :=
  match v with
  | .str z => match u with
    | .str c => if c.length = 1 then some (decide (c.cps.getD 0 0 ∈ z.cps.toList)) else none
    | _ => none
  | .tup xs => if dat u && dats xs then some (inU u xs) else none
  | .ktp xs => if dat u && dats xs then some (inU u xs) else none
  | v => isinR s u v
/-- a list, whatever is in it, against an empty one -/
def eqE (s : MS) (u v : U) : Option Bool :=
  match lstOf s u, lstOf s v with
  | some xs, some [] => some xs.isEmpty
  | _, _ => none
def cmpU (o : CO) (u v : U) (s : MS) : Option Bool :=
  match o with
  | .eq => match der s u, der s v with
    | some a, some b => if dat a && dat b then some (eqU a b) else eqE s u v
    | _, _ => none
  | .ne => match der s u, der s v with
    | some a, some b => if dat a && dat b then some (!eqU a b) else none
    | _, _ => none
  | .lt => ltU u v
  | .gt => match u, v with
    | .int i, .int j => some (decide (j < i))
    | _, _ => none
  | .le => match u, v with
    | .int i, .int j => some (decide (i ≤ j))
    | _, _ => none
  | .ge => match u, v with
    | .int i, .int j => some (decide (j ≤ i))
    | _, _ => none
  | .isin => isinU s u v
  | .notin => (isinU s u v).map (!·)
  | .is => match v with
    | .non => some (decide (u = .non))
    | .bl d => match u with
      | .bl c => some (c == d)
      | _ => none
    | _ => none
  | .isnot => match v with
    | .non => some (!decide (u = .non))
    | .bl d => match u with
      | .bl c => some (c != d)
      | _ => none
    | _ => none
def tru (s : MS) : U → Option Bool
  | .bl b => some b
  | _ => none

def ixN (n : Nat) (i : Int) : Option Nat := if 0 ≤ i then (if i < n then some i.toNat else none) else if -(n : Int) ≤ i then some (i + n).toNat else none
def atI {α : Type} (xs : List α) (i : Int) : Option α := (ixN xs.length i).bind fun j => xs[j]?
def idxS (u i : U) : Option U :=
  match u, i with
  | .str z, .int k => if z.length ≤ line then (atI z.cps.toList k).map fun c => .str ⟨#[c]⟩ else none
  | _, _ => none
def idxD (u i : U) (s : MS) : Option U :=
  match dKOf s u with
  | some kvs => (keyOf i).bind fun k => lookA k kvs
  | none => match dTOf s u with
    | some kvs => (tkeyOf i).bind fun k => lookA k kvs
    | none => idxS u i
def idxL (xs : List U) (i : U) : Option U :=
  match i with
  | .int k => atI xs k
  | _ => none
def idxU (u i : U) (s : MS) : Option U :=
  match seqOf s u with
  | some xs => idxL xs i
  | none => idxD u i s
def sIx (n d : Nat) : Option Int → Nat
  | none => d
  | some i => if i < 0 then (i + n).toNat else min i.toNat n
def cut {α : Type} (xs : List α) (lo hi : Option Int) : List α := (xs.drop (sIx xs.length 0 lo)).take (sIx xs.length xs.length hi - sIx xs.length 0 lo)
def tupOf : U → Option (List U)
  | .tup xs => some xs
  | _ => none
def slcU (u : U) (lo hi : Option Int) (s : MS) : Option U :=
  match tupOf u with
  | some xs => some (.tup (cut xs lo hi))
  | none => (lstOf s u).map fun xs => .lst (cut xs lo hi)
def lstRev (u : U) (s : MS) : Option U := (lstOf s u).map fun xs => .lst xs.reverse
def revU (u : U) (s : MS) : Option U :=
  match tupOf u with
  | some xs => some (.tup xs.reverse)
  | none => lstRev u s

def catL (m : Bool) (xs ys : Option (List U)) (s : MS) : Rv U :=
  match xs, ys with
  | some xs, some ys => if xs.length + ys.length ≤ line then mkL m (xs ++ ys) s else .no
  | _, _ => .no
def catU (m : Bool) (u v : U) (s : MS) : Rv U :=
  match u, v with
  | .int i, .int j => .ok (.int (i + j)) s
  | .str x, .str y => if x.length + y.length ≤ line then .ok (.str (x ++ y)) s else .no
  | .tup xs, .tup ys => if xs.length + ys.length ≤ line then .ok (.tup (xs ++ ys)) s else .no
  | u, v => catL m (lstOf s u) (lstOf s v) s
def binU (o : BO) (m : Bool) (u v : U) (s : MS) : Rv U :=
  match o with
  | .add => catU m u v s
  | .sub => match u, v with
    | .int i, .int j => .ok (.int (i - j)) s
    | _, _ => .no
  | .mul => match u, v with
    | .int i, .int j => if (-(2 ^ 64) < i ∧ i < 2 ^ 64) ∨ (-(2 ^ 64) < j ∧ j < 2 ^ 64) then .ok (.int (i * j)) s else .no
    | .tup xs, .int j => if 0 ≤ j ∧ j ≤ 1000 ∧ xs.length ≤ 1000 ∧ xs ≠ [] then .ok (.tup (List.replicate j.toNat xs).flatten) s else .no
    | _, _ => .no
  | .fdiv => match u, v with
    | .int i, .int j => if 0 < j ∧ j < 1073741824 then .ok (.int (i / j)) s else .no
    | _, _ => .no
  | .mod => match u, v with
    | .int i, .int j => if 0 < j then .ok (.int (i % j)) s else .no
    | _, _ => .no
  | .pow => match u, v with
    | .int i, .int j => if 0 ≤ j ∧ j ≤ 1000000 ∧ i.natAbs < 2 ^ 64 then .ok (.int (i ^ j.toNat)) s else .no
    | _, _ => .no

mutual
/-- a datum as a row of signs, by which data are ordered -/
def toks : U → List (Int ⊕ List Nat)
  | .bl b => [.inl (if b = true then 1 else 0)]
  | .int n => [.inl n]
  | .str x => [.inr x.cps.toList]
  | .tup xs | .lst xs => tokss xs
  | _ => []
def tokss : List U → List (Int ⊕ List Nat)
  | [] => [.inl 0]
  | x :: xs => .inl 1 :: (toks x ++ tokss xs)
end
def itLt : Int ⊕ List Nat → Int ⊕ List Nat → Bool
  | .inl a, .inl b => decide (a < b)
  | .inl _, .inr _ => true
  | .inr _, .inl _ => false
  | .inr a, .inr b => decide (a < b)
def ltTok : List (Int ⊕ List Nat) → List (Int ⊕ List Nat) → Bool
  | [], [] => false
  | [], _ :: _ => true
  | _ :: _, [] => false
  | x :: r, y :: t => itLt x y || (!itLt y x && ltTok r t)
def ltD (u v : U) : Bool := ltTok (toks u) (toks v)
def leU (u v : U) : Bool := !ltD v u
mutual
def alike : U → U → Bool
  | .non, .non => true
  | .bl _, .bl _ => true
  | .int _, .int _ => true
  | .str _, .str _ => true
  | .lst xs, .lst ys => alikes xs ys
  | .tup xs, .tup ys => alikes xs ys
  | _, _ => false
def alikes : List U → List U → Bool
  | x :: xs, y :: ys => alike x y && alikes xs ys
  | [], _ => true
  | _ :: _, [] => true
end
/-- what sorted takes: rowN, texts or tuples of one make -/
def sortable (xs : List U) : Bool :=
  (dats xs && xs.all fun x => xs.all fun y => alike x y) && decide (xs.length ≤ line) && ((xs.all fun x => match x with | .tup (_ :: _) => true | _ => false) || (xs.all fun x => match x with | .int _ | .str _ => true | _ => false))
def sortU (xs : List U) : List U := xs.mergeSort leU
def dedup : List U → List U
  | [] => []
  | x :: xs => x :: (dedup xs).filter fun y => !decide (y = x)

/-- data of one make, none of them None -/
def alikeAll (xs : List U) : Bool := dats xs && (xs.all fun x => xs.all fun y => alike x y) && xs.all fun x => !decide (x = .non)
def maxU (xs : List U) : Option U :=
  match xs with
  | [] => none
  | x :: r => if alikeAll xs then some (r.foldl (fun a y => if ltD a y then y else a) x) else none
def minU (xs : List U) : Option U :=
  match xs with
  | [] => none
  | x :: r => if alikeAll xs then some (r.foldl (fun a y => if ltD y a then y else a) x) else none
def truStr (b : Bool) : Str := if b then "True" else "False"
/-- the whole numbers from lo on, n of them -/
def rowN (lo : Int) (n : Nat) : List U := (List.range n).map fun i => .int (lo + (i : Nat))
def lenU (s : MS) (u : U) : Option Nat :=
  match seqOf s u with
  | some xs => some xs.length
  | none => match dKOf s u with
    | some kvs => some kvs.length
    | none => match u with
      | .str x => if x.length ≤ line then some x.length else none
      | _ => none
def sortArg (s : MS) (u : U) : Option (List U) :=
  match seqOf s u with
  | some xs => some xs
  | none => match dKOf s u with
    | some kvs => some (kvs.map fun p => uKey p.1)
    | none => (dTOf s u).bind fun kvs => if kvs.all (fun p => decide (p.1.length = keyLen) && !p.1.all isStrK) then some (kvs.map fun p => uTKey p.1) else none
/-- a row of pairs, each with a key at its head -/
def pairsK : List U → Option (List (Key × U))
  | [] => some []
  | .tup [k, u] :: r => match keyOf k, pairsK r with
    | some kk, some kvs => some ((kk, u) :: kvs)
    | _, _ => none
  | _ => none
/-- a list or a tuple of pairs -/
def pairSrc (s : MS) (u : U) : Option (List U) :=
  match tupOf u with
  | some xs => some xs
  | none => lstOf s u
def mergeA (kvs : List (Key × U)) : List (Key × U) := kvs.foldl (fun acc p => putA p.1 p.2 acc) []
def dictK (m : Bool) (ps : Option (List (Key × U))) (s : MS) : Rv U :=
  match ps with
  | some kvs => mkK m (mergeA kvs) s
  | none => .no
def headI : U → Option Int
  | .tup (.int i :: _) => some i
  | _ => none
def hI (u : U) : Int := (headI u).getD 0
/-- the first of those with the greatest head -/
def maxKey (x : U) (r : List U) : U := r.foldl (fun a y => if hI a < hI y then y else a) x
def biU (b : BI) (us : List U) (s : MS) : Rv U :=
  match b, us with
  | .len, [u] => Rv.of ((lenU s u).map fun (n : Nat) => .int (n : Int)) s
  | .all, [u] => Rv.of (((lstOf s u).bind blsOf).map fun bs => .bl (bs.all id)) s
  | .any, [u] => Rv.of (((lstOf s u).bind blsOf).map fun bs => .bl (bs.any id)) s
  | .sum, [u] => Rv.of (((seqOf s u).bind intsOf).map fun ns => .int ns.sum) s
  | .max1, [u] => Rv.of ((seqOf s u).bind maxU) s
  | .min1, [u] => Rv.of ((seqOf s u).bind minU) s
  | .max2, [.int i, .int j] => .ok (.int (if j > i then j else i)) s
  | .min2, [.int i, .int j] => .ok (.int (if j < i then j else i)) s
  | .tuple, [u] => match tupOf u with
    | some xs => .ok (.tup xs) s
    | none => Rv.of ((lstOf s u).map .tup) s
  | .list m, [u] => match seqOf s u with
    | some xs => mkL m xs s
    | none => .no
  | .int, [u] => match u with
    | .int i => .ok (.int i) s
    | .bl k => .ok (.int (if k then 1 else 0)) s
    | _ => .no
  | .repr, [.bl b] => .ok (.str (truStr b)) s
  | .sorted m, [u] => match sortArg s u with
    | some xs => if sortable xs then mkL m (sortU xs) s else .no
    | none => .no
  | .dict m, [u] => match dKOf s u with
    | some kvs => mkK m kvs s
    | none => dictK m ((pairSrc s u).bind pairsK) s
  | .setsort m, [u] => match seqOf s u with
    | some xs => if ((keysOf xs).isSome || (tupsOf xs).isSome) && sortable xs && decide (xs.length < 64) then mkL m (sortU (dedup xs)) s else .no
    | none => .no
  | .rangetup, [u] => match u with
    | .int j => if j = (keyLen : Int) then .ok (.tup (rowN 0 j.toNat)) s else .no
    | _ => .no
  | .rangelist, [u] => match u with
    | .int j => if 0 ≤ j ∧ j ≤ (line : Int) then .ok (.lst (rowN 0 j.toNat)) s else .no
    | _ => .no
  | .setlen, [u] => match seqOf s u with
    | some xs => if (keysOf xs).isSome && decide (xs.length < 64) then .ok (.int (dedup xs).length) s else .no
    | none => .no
  | .maxkey q, [u] => match lstOf s u with
    | some (x :: r) => match s[(0 : Nat)]? with
      | some (.tab q') => if q' = q ∧ (x :: r).all (fun u => (headI u).isSome) = true then .ok (maxKey x r) s else .no
      | _ => .no
    | _ => .no
  | _, _ => .no
def isiU (s : MS) (u : U) (ts : List TY) : Option Bool :=
  match u with
  | .non => some false
  | .bl _ => some (ts.contains .bool || ts.contains .int)
  | .int _ => some (ts.contains .int)
  | .str _ => some (ts.contains .str)
  | .tup _ => some (ts.contains .tup)
  | .lst _ => some (ts.contains .lst)
  | .obj n => match s[n]? with
    | some (.lst _) => some (ts.contains .lst)
    | _ => none
  | _ => none
def insAt {α : Type} (xs : List α) (i : Nat) (x : α) : List α := xs.take i ++ x :: xs.drop i
def indexOf (u : U) : List U → Option Nat
  | [] => none
  | x :: xs => if eqU x u then some 0 else (indexOf u xs).map (· + 1)
def getU (s : MS) (o k d : U) : Option U :=
  match dKOf s o with
  | some kvs => (keyOf k).map fun k => (lookA k kvs).getD d
  | none => match dTOf s o with
    | some kvs => (tkeyOf k).map fun k => (lookA k kvs).getD d
    | none => none
def meU (w : ME) (o : U) (us : List U) (s : MS) : Rv U :=
  match w, us with
  | .append, [u] => match o with
    | .obj n => match s[n]? with
      | some (.lst xs) => if xs.length < line then .ok .non (s.set n (.lst (xs ++ [u]))) else .no
      | _ => .no
    | _ => .no
  | .insert, [.int i, u] => match o with
    | .obj n => match s[n]? with
      | some (.lst xs) => if xs.length < line ∧ 0 ≤ i ∧ i ≤ xs.length then .ok .non (s.set n (.lst (insAt xs i.toNat u))) else .no
      | _ => .no
    | _ => .no
  | .pop, [] => match o with
    | .obj n => match s[n]? with
      | some (.lst xs) => match xs[xs.length - 1]? with
        | some y => .ok y (s.set n (.lst xs.dropLast))
        | none => .no
      | _ => .no
    | _ => .no
  | .index, [u] => match o, u with
    | .tup xs, .str _ => match strsOf xs with
      | some _ => Rv.of ((indexOf u xs).map fun (j : Nat) => .int (j : Int)) s
      | none => .no
    | _, _ => .no
  | .get, [k, d] => Rv.of (getU s o k d) s
  | _, _ => .no
def setU (o i v : U) (s : MS) : Option MS :=
  match o with
  | .obj n => match s[n]? with
    | some (.lst xs) => match i with
      | .int k => (ixN xs.length k).map fun j => s.set n (.lst (xs.set j v))
      | _ => none
    | some (.dK kvs) => if kvs.length < line then (keyOf i).map fun k => s.set n (.dK (putA k v kvs)) else none
    | some (.dT kvs) => if kvs.length < line then (tkeyOf i).map fun k => s.set n (.dT (putA k v kvs)) else none
    | _ => none
  | _ => none

/-! ### targets, slots -/
mutual
def bindT : Tg → U → SU → Option SU
  | .name i, u, su => some (su.set i (some u))
  | .tup ts, u, su => match u with
    | .tup xs => bindTs ts xs su
    | .lst xs => bindTs ts xs su
    | .ktp xs => bindTs ts xs su
    | _ => none
def bindTs : Tgs → List U → SU → Option SU
  | .nil, [], su => some su
  | .cons t ts, x :: xs, su => (bindT t x su).bind fun su' => bindTs ts xs su'
  | _, _, _ => none
end
def wipe (su : SU) : List Nat → SU
  | [] => su
  | v :: vs => (wipe su vs).set v none

/-- what a loop goes over: its items; the lists of the store that must stand still -/
structure Src where
  items : List U
  still : List (Nat × List U)
def Src.ok (r : Src) (s : MS) : Bool := r.still.all fun p => decide (s[p.1]? = some (.lst p.2))
def stillOf (s : MS) (u : U) : List (Nat × List U) :=
  match u with
  | .obj n => match s[n]? with
    | some (.lst xs) => [(n, xs)]
    | _ => []
  | _ => []
def srcSeq (u : U) (s : MS) : Option Src := (seqOf s u).map fun xs => ⟨xs, stillOf s u⟩
def srcStr : U → Option Src
  | .str x => if x.length ≤ line then some ⟨x.cps.toList.map fun c => .str ⟨#[c]⟩, []⟩ else none
  | _ => none
def srcRng (lo hi : U) : Option Src :=
  match lo, hi with
  | .int i, .int j => if -(2 ^ 62) ≤ i ∧ i < 2 ^ 62 ∧ -(2 ^ 62) ≤ j ∧ j < 2 ^ 62 ∧ (j - i).toNat ≤ line then some ⟨rowN i (j - i).toNat, []⟩ else none
  | _, _ => none
def enumFrom (k : Nat) : List U → List U
  | [] => []
  | x :: xs => .tup [.int (k : Int), x] :: enumFrom (k + 1) xs
def srcEnu (u : U) (s : MS) : Option Src := (seqOf s u).map fun xs => ⟨enumFrom 0 xs, stillOf s u⟩
def zipU : List U → List U → List U
  | x :: xs, y :: ys => .tup [x, y] :: zipU xs ys
  | _, _ => []
def srcZip (u v : U) (s : MS) : Option Src :=
  match seqOf s u, seqOf s v with
  | some xs, some ys => some ⟨zipU xs ys, stillOf s u ++ stillOf s v⟩
  | _, _ => none
/-- over a dict that is a tree -/
def srcKeys : U → Option Src
  | .dK ks _ => some ⟨ks.map uKey, []⟩
  | .dT ks _ => if ks.all fun k => decide (k.length = keyLen) && !k.all isStrK then some ⟨ks.map uTKey, []⟩ else none
  | _ => none

/-! ### running -/
structure Ctx where
  call : Nat → List U → MS → Rv U
  make : Nat → List U → MS → Rv U
  glb : Str → Option U

/-- a list comprehension's loop -/
def lcL (vs : List Nat) (tg : Tg) (c : SU → MS → Rv Bool) (e : SU → MS → Rv U) (r : Src) (su : SU) : List U → List U → MS → Rv (List U)
  | [], acc, s => if r.ok s then .ok acc s else .no
  | x :: xs, acc, s => if r.ok s then
      match bindT tg x (wipe su vs) with
      | some su' => match c su' s with
        | .ok true s' => match e su' s' with
          | .ok u s'' => lcL vs tg c e r su xs (acc ++ [u]) s''
          | _ => .no
        | .ok false s' => lcL vs tg c e r su xs acc s'
        | _ => .no
      | none => .no
    else .no
/-- the inner loop of one with two clauses: the list's length is not told ahead -/
def lcJ (vs : List Nat) (tg : Tg) (c : SU → MS → Rv Bool) (e : SU → MS → Rv U) (r : Src) (su : SU) : List U → List U → MS → Rv (List U)
  | [], acc, s => if r.ok s then .ok acc s else .no
  | x :: xs, acc, s => if r.ok s then
      match bindT tg x (wipe su vs) with
      | some su' => match c su' s with
        | .ok true s' => match e su' s' with
          | .ok u s'' => if acc.length < line then lcJ vs tg c e r su xs (acc ++ [u]) s'' else .no
          | _ => .no
        | .ok false s' => lcJ vs tg c e r su xs acc s'
        | _ => .no
      | none => .no
    else .no
/-- the outer loop -/
def lcI (vs : List Nat) (tg : Tg) (c : SU → MS → Rv Bool) (e : SU → List U → MS → Rv (List U)) (r : Src) (su : SU) : List U → List U → MS → Rv (List U)
  | [], acc, s => if r.ok s then .ok acc s else .no
  | x :: xs, acc, s => if r.ok s then
      match bindT tg x (wipe su vs) with
      | some su' => match c su' s with
        | .ok true s' => match e su' acc s' with
          | .ok acc' s'' => lcI vs tg c e r su xs acc' s''
          | _ => .no
        | .ok false s' => lcI vs tg c e r su xs acc s'
        | _ => .no
      | none => .no
    else .no
/-- a dict comprehension's loop -/
def dcL (t : Bool) (vs : List Nat) (tg : Tg) (c : SU → MS → Rv Bool) (k v : SU → MS → Rv U) (r : Src) (su : SU) : List U → List (Key × U) → List (List Key × U) → MS → Rv (List (Key × U) × List (List Key × U))
  | [], a, b, s => if r.ok s then .ok (a, b) s else .no
  | x :: xs, a, b, s => if r.ok s then
      match bindT tg x (wipe su vs) with
      | some su' => match c su' s with
        | .ok true s' => match k su' s' with
          | .ok ku s2 => match v su' s2 with
            | .ok u s3 => if t then (match tkeyOf ku with
                | some kk => dcL t vs tg c k v r su xs a (putA kk u b) s3
                | none => .no)
              else (match keyOf ku with
                | some kk => dcL t vs tg c k v r su xs (putA kk u a) b s3
                | none => .no)
            | _ => .no
          | _ => .no
        | .ok false s' => dcL t vs tg c k v r su xs a b s'
        | _ => .no
      | none => .no
    else .no
/-- the inner loop of one with two clauses -/
def dcJ (t : Bool) (vs : List Nat) (tg : Tg) (c : SU → MS → Rv Bool) (k v : SU → MS → Rv U) (r : Src) (su : SU) : List U → List (Key × U) → List (List Key × U) → MS → Rv (List (Key × U) × List (List Key × U))
  | [], a, b, s => if r.ok s then .ok (a, b) s else .no
  | x :: xs, a, b, s => if r.ok s then
      match bindT tg x (wipe su vs) with
      | some su' => match c su' s with
        | .ok true s' => match k su' s' with
          | .ok ku s2 => match v su' s2 with
            | .ok u s3 => if a.length < line ∧ b.length < line then (if t then (match tkeyOf ku with
                | some kk => dcJ t vs tg c k v r su xs a (putA kk u b) s3
                | none => .no)
              else (match keyOf ku with
                | some kk => dcJ t vs tg c k v r su xs (putA kk u a) b s3
                | none => .no)) else .no
            | _ => .no
          | _ => .no
        | .ok false s' => dcJ t vs tg c k v r su xs a b s'
        | _ => .no
      | none => .no
    else .no
/-- the outer loop of one with two clauses -/
def dcI (vs : List Nat) (tg : Tg) (c : SU → MS → Rv Bool) (e : SU → List (Key × U) × List (List Key × U) → MS → Rv (List (Key × U) × List (List Key × U))) (r : Src) (su : SU) : List U → List (Key × U) × List (List Key × U) → MS → Rv (List (Key × U) × List (List Key × U))
  | [], p, s => if r.ok s then .ok p s else .no
  | x :: xs, p, s => if r.ok s then
      match bindT tg x (wipe su vs) with
      | some su' => match c su' s with
        | .ok true s' => match e su' p s' with
          | .ok p' s'' => dcI vs tg c e r su xs p' s''
          | _ => .no
        | .ok false s' => dcI vs tg c e r su xs p s'
        | _ => .no
      | none => .no
    else .no
def mkD (m t : Bool) (a : List (Key × U)) (b : List (List Key × U)) (s : MS) : Rv U := if t then mkT m b s else mkK m a s
def dispK : List U → List U → List (Key × U) → Option (List (Key × U))
  | [], [], a => some a
  | k :: ks, v :: vs, a => match keyOf k with
    | some kk => dispK ks vs (putA kk v a)
    | none => none
  | _, _, _ => none
def dispT : List U → List U → List (List Key × U) → Option (List (List Key × U))
  | [], [], a => some a
  | k :: ks, v :: vs, a => match tkeyOf k with
    | some kk => dispT ks vs (putA kk v a)
    | none => none
  | _, _, _ => none
def insOf (s : MS) : U → Option (Nat × Nat × List (Str × U))
  | .obj n => match s[n]? with
    | some (.ins c fs) => some (n, c, fs)
    | _ => none
  | _ => none
def putF (f : Str) (v : U) : List (Str × U) → List (Str × U)
  | [] => [(f, v)]
  | (g, x) :: r => if g = f then (g, v) :: r else (g, x) :: putF f v r

def varU (i : Nat) (su : SU) (s : MS) : Rv U :=
  match su[i]? with
  | some (some u) => .ok u s
  | _ => .no
def negU (u : U) (s : MS) : Rv U :=
  match u with
  | .int i => .ok (.int (-i)) s
  | _ => .no
def notU (u : U) (s : MS) : Rv U :=
  match u with
  | .bl b => .ok (.bl (!b)) s
  | _ => .no
def partU (u : U) (s : MS) : Rv (Option Int) :=
  match u with
  | .int i => .ok (some i) s
  | _ => .no
def andK (u : U) (k : MS → Rv U) (s : MS) : Rv U :=
  match u with
  | .bl true => k s
  | .bl false => .ok (.bl false) s
  | _ => .no
def orK (u : U) (k : MS → Rv U) (s : MS) : Rv U :=
  match u with
  | .bl true => .ok (.bl true) s
  | .bl false => k s
  | .non => k s
  | .tup [] => k s
  | .tup (x :: xs) => .ok (.tup (x :: xs)) s
  | _ => .no
def chnK (o : Option Bool) (k : MS → Rv U) (s : MS) : Rv U :=
  match o with
  | some true => k s
  | some false => .ok (.bl false) s
  | none => .no
def chnB (o : Option Bool) (k : MS → Rv Bool) (s : MS) : Rv Bool :=
  match o with
  | some true => k s
  | some false => .ok false s
  | none => .no
def lenL (us : List U) (f : MS → Rv U) (s : MS) : Rv U := if us.length ≤ line then f s else .no
def disK (m : Bool) (us ws : List U) (s : MS) : Rv U :=
  match dispK us ws [] with
  | some kvs => mkK m kvs s
  | none => .no
def fldU (c : Nat) (u : U) (f : Str) (s : MS) : Rv U :=
  match insOf s u with
  | some (_, c', fs) => if c' = c then Rv.of (fs.lookup f) s else .no
  | none => .no
def mthK (c : Nat) (m : Str) (u : U) (k : MS → Rv U) (s : MS) : Rv U :=
  match insOf s u with
  | some (_, c', fs) => if c' = c ∧ fs.lookup m = none then k s else .no
  | none => .no
/-- may this be asked of it -/
def recv (w : ME) (u : U) (s : MS) : Bool :=
  match w with
  | .index => match tupOf u with
    | some xs => decide (xs.length ≠ keyLen) || (strsOf xs).isSome
    | none => false
  | .get => (dKOf s u).isSome || (dTOf s u).isSome
  | _ => match u with
    | .obj _ => (lstOf s u).isSome
    | _ => false
def meK (w : ME) (u : U) (k : MS → Rv U) (s : MS) : Rv U := if recv w u s then k s else .no
def newK (n : Nat) (v : U) (s : MS) : Rv U := if v = .non then .ok (.obj n) s else .no
mutual
def evE (X : Ctx) : Ex → SU → MS → Rv U
  | .var i, su, s => varU i su s
  | .non, _, s => .ok .non s
  | .bl b, _, s => .ok (.bl b) s
  | .int i, _, s => .ok (.int i) s
  | .str x, _, s => .ok (.str x) s
  | .glb x, _, s => Rv.of (X.glb x) s
  | .bin o m a b, su, s => (evE X a su s).bind fun u s1 => (evE X b su s1).bind fun v s2 => binU o m u v s2
  | .neg a, su, s => (evE X a su s).bind negU
  | .cmp o a b, su, s => (evE X a su s).bind fun u s1 => (evE X b su s1).bind fun v s2 => Rv.of ((cmpU o u v s2).map .bl) s2
  | .chn o o' a b c, su, s => (evE X a su s).bind fun u s1 => (evE X b su s1).bind fun v s2 => chnK (cmpU o u v s2) (fun s2 => (evE X c su s2).bind fun w s3 => Rv.of ((cmpU o' v w s3).map .bl) s3) s2
  | .band es, su, s => evAnd X es su s
  | .bor es, su, s => evOr X es su s
  | .bnot a, su, s => (evE X a su s).bind notU
  | .ite c a b, su, s => (evT X c su s).bind fun k s1 => if k then evE X a su s1 else evE X b su s1
  | .tup es, su, s => (evEs X es su s).bind fun us s1 => lenL us (.ok (.tup us)) s1
  | .lst m es, su, s => (evEs X es su s).bind fun us s1 => lenL us (mkL m us) s1
  | .dis m t kvs, su, s => match t with
    | true => mkT m [] s
    | false => (evPs X kvs su s).bind fun ps s1 => disK m ps.1 ps.2 s1
  | .call f es, su, s => (evEs X es su s).bind fun us s1 => X.call f us s1
  | .bi b es, su, s => (evEs X es su s).bind fun us s1 => biU b us s1
  | .isi a ts, su, s => (evE X a su s).bind fun u s1 => Rv.of ((isiU s1 u ts).map .bl) s1
  | .idx a b, su, s => (evE X a su s).bind fun u s1 => (evE X b su s1).bind fun v s2 => Rv.of (idxU u v s2) s2
  | .slc a lo hi, su, s => (evE X a su s).bind fun u s1 => (evO X lo su s1).bind fun l s2 => (evO X hi su s2).bind fun h s3 => Rv.of (slcU u l h s3) s3
  | .rev a, su, s => (evE X a su s).bind fun u s1 => Rv.of (revU u s1) s1
  | .me w o es, su, s => (evE X o su s).bind fun u s1 => meK w u (fun s1 => (evEs X es su s1).bind fun us s2 => meU w u us s2) s1
  | .lc m vs tg it c e, su, s => (evI X it su s).bind fun r s1 => (lcL vs tg (evAll X c) (evE X e) r su r.items [] s1).bind fun us s2 => mkL m us s2
  | .lc2 m vs tg it c vs1 tg1 it1 c1 e, su, s => (evI X it su s).bind fun r s1 => (lcI vs tg (evAll X c) (fun su' acc s' => (evI X it1 su' s').bind fun r1 s2 => lcJ vs1 tg1 (evAll X c1) (evE X e) r1 su' r1.items acc s2) r su r.items [] s1).bind fun us s2 => mkL m us s2
  | .dc m t vs tg it c k v, su, s => (evI X it su s).bind fun r s1 => (dcL t vs tg (evAll X c) (evE X k) (evE X v) r su r.items [] [] s1).bind fun p s2 => mkD m t p.1 p.2 s2
  | .dc2 m t vs tg it c vs1 tg1 it1 c1 k v, su, s => (evI X it su s).bind fun r s1 => (dcI vs tg (evAll X c) (fun su' p s' => (evI X it1 su' s').bind fun r1 s2 => dcJ t vs1 tg1 (evAll X c1) (evE X k) (evE X v) r1 su' r1.items p.1 p.2 s2) r su r.items ([], []) s1).bind fun p s2 => mkD m t p.1 p.2 s2
  | .fld c o f, su, s => (evE X o su s).bind fun u s1 => fldU c u f s1
  | .mth o c f m es, su, s => (evE X o su s).bind fun u s1 => mthK c m u (fun s1 => (evEs X es su s1).bind fun us s2 => X.call f (u :: us) s2) s1
  | .new c f es, su, s => (evEs X es su s).bind fun us s1 => (X.make f (.obj s1.length :: us) (s1 ++ [.ins c []])).bind fun v s2 => newK s1.length v s2
def evEs (X : Ctx) : Exs → SU → MS → Rv (List U)
  | .nil, _, s => .ok [] s
  | .cons e es, su, s => (evE X e su s).bind fun u s1 => (evEs X es su s1).bind fun us s2 => .ok (u :: us) s2
/-- a display's pairs, from the left -/
def evPs (X : Ctx) : Prs → SU → MS → Rv (List U × List U)
  | .nil, _, s => .ok ([], []) s
  | .cons k v r, su, s => (evE X k su s).bind fun u s1 => (evE X v su s1).bind fun w s2 => (evPs X r su s2).bind fun ps s3 => .ok (u :: ps.1, w :: ps.2) s3
def evO (X : Ctx) : Exo → SU → MS → Rv (Option Int)
  | .none, _, s => .ok none s
  | .some e, su, s => (evE X e su s).bind partU
/-- and, or as values: all but the last are truths -/
def evAnd (X : Ctx) : Exs → SU → MS → Rv U
  | .nil, _, _ => .no
  | .cons e .nil, su, s => evE X e su s
  | .cons e (.cons e' es), su, s => (evE X e su s).bind fun u s1 => andK u (evAnd X (.cons e' es) su) s1
def evOr (X : Ctx) : Exs → SU → MS → Rv U
  | .nil, _, _ => .no
  | .cons e .nil, su, s => evE X e su s
  | .cons e (.cons e' es), su, s => (evE X e su s).bind fun u s1 => orK u (evOr X (.cons e' es) su) s1
def evT (X : Ctx) : Tx → SU → MS → Rv Bool
  | .val e, su, s => (evE X e su s).bind fun u s1 => Rv.of (tru s1 u) s1
  | .cmp o a b, su, s => (evE X a su s).bind fun u s1 => (evE X b su s1).bind fun v s2 => Rv.of (cmpU o u v s2) s2
  | .chn o o' a b c, su, s => (evE X a su s).bind fun u s1 => (evE X b su s1).bind fun v s2 => chnB (cmpU o u v s2) (fun s2 => (evE X c su s2).bind fun w s3 => Rv.of (cmpU o' v w s3) s3) s2
  | .band ts, su, s => evAll X ts su s
  | .bor ts, su, s => evAny X ts su s
  | .bnot t, su, s => (evT X t su s).bind fun b s1 => .ok (!b) s1
def evAll (X : Ctx) : Txs → SU → MS → Rv Bool
  | .nil, _, s => .ok true s
  | .cons t ts, su, s => (evT X t su s).bind fun b s1 => if b then evAll X ts su s1 else .ok false s1
def evAny (X : Ctx) : Txs → SU → MS → Rv Bool
  | .nil, _, s => .ok false s
  | .cons t ts, su, s => (evT X t su s).bind fun b s1 => if b then .ok true s1 else evAny X ts su s1
def evI (X : Ctx) : It → SU → MS → Rv Src
  | .seq e, su, s => (evE X e su s).bind fun u s1 => Rv.of (srcSeq u s1) s1
  | .str e, su, s => (evE X e su s).bind fun u s1 => Rv.of (srcStr u) s1
  | .rng a, su, s => (evE X a su s).bind fun u s1 => Rv.of (srcRng (.int 0) u) s1
  | .rng2 a b, su, s => (evE X a su s).bind fun u s1 => (evE X b su s1).bind fun v s2 => Rv.of (srcRng u v) s2
  | .enu a, su, s => (evE X a su s).bind fun u s1 => Rv.of (srcEnu u s1) s1
  | .zip a b, su, s => (evE X a su s).bind fun u s1 => (evE X b su s1).bind fun v s2 => Rv.of (srcZip u v s2) s2
  | .keys _ e, su, s => (evE X e su s).bind fun u s1 => Rv.of (srcKeys u) s1
end

/-- how a statement ends -/
inductive Fl where
  | nx (su : SU) (s : MS) | rt (u : U) (s : MS) | bk (su : SU) (s : MS) | ct (su : SU) (s : MS) | ex (c : Nat) (su : SU) (s : MS) | no
def Fl.then (f : Fl) (k : SU → MS → Fl) : Fl :=
  match f with
  | .nx su s => k su s
  | f => f
def Rv.fl {α : Type} (r : Rv α) (su : SU) (k : α → MS → Fl) : Fl :=
  match r with
  | .ok a s => k a s
  | .ex c s => .ex c su s
  | .no => .no
@[simp] theorem Rv.fl_ok {α : Type} (a : α) (s : MS) (su : SU) (k : α → MS → Fl) : (Rv.ok a s).fl su k = k a s := rfl
@[simp] theorem Fl.then_nx (su : SU) (s : MS) (k : SU → MS → Fl) : (Fl.nx su s).then k = k su s := rfl
@[simp] theorem Fl.then_rt (u : U) (s : MS) (k : SU → MS → Fl) : (Fl.rt u s).then k = .rt u s := rfl
@[simp] theorem Fl.then_bk (u : SU) (s : MS) (k : SU → MS → Fl) : (Fl.bk u s).then k = .bk u s := rfl
@[simp] theorem Fl.then_ct (u : SU) (s : MS) (k : SU → MS → Fl) : (Fl.ct u s).then k = .ct u s := rfl
/-- a for's loop -/
def forL (tg : Tg) (body : SU → MS → Fl) (r : Src) : List U → SU → MS → Fl
  | [], su, s => if r.ok s then .nx su s else .no
  | x :: xs, su, s => if r.ok s then
      match bindT tg x su with
      | some su' => match body su' s with
        | .nx su2 s2 => forL tg body r xs su2 s2
        | .ct su2 s2 => forL tg body r xs su2 s2
        | .bk su2 s2 => .nx su2 s2
        | f => f
      | none => .no
    else .no
def whlL (c : SU → MS → Rv Bool) (body : SU → MS → Fl) : Nat → SU → MS → Fl
  | 0, _, _ => .no
  | n + 1, su, s => (c su s).fl su fun b s1 => if b then
      match body su s1 with
      | .nx su2 s2 => whlL c body n su2 s2
      | .ct su2 s2 => whlL c body n su2 s2
      | .bk su2 s2 => .nx su2 s2
      | f => f
    else .nx su s1
def asgK (tg : Tg) (u : U) (su : SU) (s : MS) : Fl :=
  match bindT tg u su with
  | some su' => .nx su' s
  | none => .no
def setK (u k v : U) (su : SU) (s : MS) : Fl :=
  match setU u k v s with
  | some s' => .nx su s'
  | none => .no
def augK (i : Nat) (o : BO) (u v : U) (su : SU) (s : MS) : Fl :=
  match o, u, v with
  | .add, .int a, .int b => .nx (su.set i (some (.int (a + b)))) s
  | _, _, _ => .no
def setFK (c : Nat) (u : U) (f : Str) (v : U) (su : SU) (s : MS) : Fl :=
  match insOf s u with
  | some (n, c', fs) => if c' = c ∧ fs.length < 1000 then .nx su (s.set n (.ins c (putF f v fs))) else .no
  | none => .no
mutual
def evS (X : Ctx) : St → SU → MS → Fl
  | .exp e, su, s => (evE X e su s).fl su fun _ s1 => .nx su s1
  | .asg tg e, su, s => (evE X e su s).fl su fun u s1 => asgK tg u su s1
  | .par i j a b, su, s => (evE X a su s).fl su fun u s1 => (evE X b su s1).fl su fun v s2 => .nx ((su.set i (some u)).set j (some v)) s2
  | .setI o i e, su, s => (evE X e su s).fl su fun v s1 => (evE X o su s1).fl su fun u s2 => (evE X i su s2).fl su fun k s3 => setK u k v su s3
  | .aug i o e, su, s => (varU i su s).fl su fun u s1 => (evE X e su s1).fl su fun v s2 => augK i o u v su s2
  | .ret e, su, s => (evE X e su s).fl su fun u s1 => .rt u s1
  | .retN, _, s => .rt .non s
  | .ife c a b, su, s => (evT X c su s).fl su fun k s1 => if k then evSs X a su s1 else evSs X b su s1
  | .for tg it body, su, s => (evI X it su s).fl su fun r s1 => forL tg (evSs X body) r r.items su s1
  | .whl n c body, su, s => whlL (evT X c) (evSs X body) n su s
  | .setF c o f e, su, s => (evE X e su s).fl su fun v s1 => (evE X o su s1).fl su fun u s2 => setFK c u f v su s2
  | .nev, _, _ => .no
  | .rai c, su, s => .ex c su s
  | .brk, su, s => .bk su s
  | .cnt, su, s => .ct su s
  | .pas, su, s => .nx su s
def evSs (X : Ctx) : Sts → SU → MS → Fl
  | .nil, su, s => .nx su s
  | .cons t ts, su, s => (evS X t su s).then (evSs X ts)
end

/-! ### a def's call -/
mutual
def cls (b : Nat) : U → Bool
  | .obj n => decide (n < b)
  | .tup xs | .lst xs | .ktp xs => clss b xs
  | .dK _ vs | .dT _ vs => clss b vs
  | _ => true
def clss (b : Nat) : List U → Bool
  | [] => true
  | x :: xs => cls b x && clss b xs
end
def clsO (b : Nat) : O → Bool
  | .lst xs => clss b xs
  | .dK kvs => clss b (kvs.map (·.2))
  | .dT kvs => clss b (kvs.map (·.2))
  | .ins _ fs => clss b (fs.map (·.2))
  | .tab _ => true
/-- a list or dict of one's own, told: from now on a tree -/
def frz (b : Nat) (s : MS) (u : U) : U :=
  match u with
  | .obj n => if b ≤ n then (match s[n]? with
      | some (.lst xs) => .lst xs
      | some (.dK kvs) => .dK (kvs.map (·.1)) (kvs.map (·.2))
      | some (.dT kvs) => .dT (kvs.map (·.1)) (kvs.map (·.2))
      | _ => u) else u
  | u => u
/-- which of the elder things are as they were, or speak of elder things alone -/
def heldO (b : Nat) : MS → MS → Bool
  | o :: os, p :: ps => (decide (o = p) || clsO b p) && heldO b os ps
  | _, _ => true
def fin (keep : Bool) (s0 : MS) (u : U) (s : MS) : Rv U :=
  if keep || decide (s.length = s0.length) then .ok u s
  else if cls s0.length (frz s0.length s u) && heldO s0.length s0 s then .ok (frz s0.length s u) (s.take s0.length) else .no
def start (n : Nat) (us : List U) : SU := us.map some ++ List.replicate (n - us.length) none
def runD (X : Ctx) (d : Def) (us : List U) (s : MS) : Rv U :=
  if us.length = d.np then
    match evSs X d.body (start d.nn us) s with
    | .nx _ s' => fin d.keep s .non s'
    | .rt u s' => fin d.keep s u s'
    | .ex c _ s' => if d.keep || decide (s'.length = s.length) then .ex c s' else .no
    | _ => .no
  else .no
def callF (D : Nat → Option Def) (G : Str → Option U) : Nat → Nat → List U → MS → Rv U
  | 0, _, _, _ => .no
  | k + 1, f, us, s => match D f with
    | some d => runD ⟨callF D G k, callF D G (k - 1), G⟩ d us s
    | none => .no
theorem enumFrom_len : ∀ (us : List U) (k : Nat), (enumFrom k us).length = us.length
  | [], _ => rfl
  | _ :: us, k => by simp [enumFrom, enumFrom_len us]
theorem enumFrom_get : ∀ (us : List U) (k i : Nat) (w : U), (enumFrom k us)[i]? = some w → ∃ x, us[i]? = some x ∧ w = .tup [.int ((k + i : Nat) : Int), x]
  | [], _, _, _, h => by simp [enumFrom] at h
  | x :: us, k, 0, w, h => by simp [enumFrom] at h; exact ⟨x, rfl, by simp [h]⟩
  | x :: us, k, i + 1, w, h => by
    obtain ⟨y, h1, h2⟩ := enumFrom_get us (k + 1) i w (by simpa [enumFrom] using h)
    exact ⟨y, by simpa using h1, by rw [h2, show k + 1 + i = k + (i + 1) by omega]⟩
end Pv
set_option autoImplicit false
set_option Elab.async false
set_option linter.all false
set_option maxRecDepth 100000
set_option maxHeartbeats 4000000
namespace Pv
open PySem PySem.Spec PyProof.Rows L2

/-! ### tuples whose object is known to have no dict: those of references alone, and the empty one -/
def isRefV : V → Bool
  | .ref _ => true
  | _ => false
def isStrV : V → Bool
  | .str _ => true
  | _ => false
def dictish (vs : List V) : Bool := vs.all isRefV || decide (vs.length ≠ keyLen) || vs.all isStrV
def tupO (vs : List V) (o : Obj) : HO := if dictish vs = true then .frz o (.tup vs) else .tup vs
/-- a tuple stands at a -/
def TupP (H : Hp) (a : Addr) (vs : List V) : Prop := ∃ o : Obj, o.dict = none ∧ H a = some (tupO vs o)
section
variable {H H' : Hp} {a : Addr} {vs : List V}
theorem TupP.rd (h : TupP H a vs) : Rd H a (.tup vs) := by
  obtain ⟨o, _, e⟩ := h
  unfold tupO at e
  split at e
  · exact .inr ⟨o, e⟩
  · exact .inl e
theorem TupP.sq {K : PySem.W.Frag} (h : TupP H a vs) : SqT K H a vs := .inl h.rd
theorem TupP.any (h : TupP H a vs) : ∃ o, H a = some o := let ⟨_, _, e⟩ := h; ⟨_, e⟩
theorem TupP.of_eq (h : TupP H a vs) (e : H' a = H a) : TupP H' a vs := let ⟨o, d, q⟩ := h; ⟨o, d, e.trans q⟩
theorem TupP.plain (h : TupP H a vs) (d : dictish vs = true) : ∃ o : Obj, o.dict = none ∧ H a = some (.frz o (.tup vs)) := by
  obtain ⟨o, e1, e2⟩ := h
  unfold tupO at e2
  rw [if_pos d] at e2
  exact ⟨o, e1, e2⟩
theorem TupP.keys (h : TupP H a vs) (d : dictish vs = false) : H a = some (.tup vs) := by
  obtain ⟨o, e1, e2⟩ := h
  unfold tupO at e2
  rw [if_neg (by rw [d]; exact Bool.false_ne_true)] at e2
  exact e2
theorem TupP.old (h : H a = some (.tup vs)) (d : dictish vs = false) : TupP H a vs := ⟨⟨.none, none, .plain, #[]⟩, rfl, by unfold tupO; rw [if_neg (by rw [d]; exact Bool.false_ne_true)]; exact h⟩
end
section
variable {X : Cx} {pins : List (Addr × Obj)} {σ : L2.St} {H : Hp} {s : Shared}
theorem laidT (I : Inv X pins σ H s) {its : List Value} {xs : List V} (t' : Nat) (r : Vals xs its) (z : xs.length ≤ sizeLine) :
    Inv X pins σ (upd H s.heap.objs.size (tupO xs { cls := .type "tuple", data := .seq its.toArray })) { s with heap := s.heap.push { cls := .type "tuple", data := .seq its.toArray }, toks := t' } := by
  refine I.laid (t' := t') (fun b ob q => Heap.get?_push_of_some _ q) (Nat.le_refl _) ?_
  unfold tupO
  split
  · exact ⟨Heap.get?_push_size _ rfl, z, its, r, IsTup.new _ _⟩
  · exact ⟨z, its, r, IsTup.new _ _⟩
/-- what a new tuple is wanted for -/
def NewT (H : Hp) (xs : List V) (Q : VK) : Prop := ∀ p (o : Obj), o.dict = none → H p = none → Q (.ref p) (upd H p (tupO xs o))
theorem newT {its : List Value} {xs : List V} {Q : VK} (I : Inv X pins σ H s) (t' : Nat) (r : Vals xs its) (z : xs.length ≤ sizeLine) (q : NewT H xs Q) : EP X pins σ Q (.ref s.heap.objs.size) { s with heap := s.heap.push { cls := .type "tuple", data := .seq its.toArray }, toks := t' } :=
  ⟨.ref s.heap.objs.size, _, laidT I t' r z, rfl, q _ _ rfl (I.hok.fresh (Nat.le_refl _))⟩
end
section
variable {X : Cx}
/-! displays -/
def tTupN (t : TA) : TE := fun σ H Q => t σ H fun xs H1 => xs.length ≤ sizeLine ∧ NewT H1 xs Q
theorem pe_tupN {es : List Expr} {t : TA} {x1 : Nat} {pos : Pos} (h : PA X es t) : PE X (.Tuple es x1 pos) (tTupN t) := by
  refine ⟨fun pins s σ H Q I hq => ?_⟩
  exact wpAny_Tuple_spliced (thn (h.run pos pins s σ H _ I hq) fun us s1 ⟨xs, H1, I1, r, z, q⟩ => ⟨by rw [← r.length]; exact z, newT I1 s1.toks r z q⟩)
/-! t + u -/
def rCatN (K : PySem.W.Frag) : R2 := fun x y H Q => ∃ a b xs ys, x = .ref a ∧ y = .ref b ∧ SqT K H a xs ∧ SqT K H b ys ∧ xs.length + ys.length ≤ sizeLine ∧
  (xs = [] → Q (.ref b) H) ∧ (xs ≠ [] → ys = [] → Q (.ref a) H) ∧ (xs ≠ [] → ys ≠ [] → NewT H (xs ++ ys) Q)
theorem op_catN : OpR X (binaryOp .Add) (rCatN X.K) := by
  intro pins s σ H x y v u Q I rx ry h
  obtain ⟨a, b, xs, ys, rfl, rfl, ha, hb, hz, q0, q1, q2⟩ := h
  cases rx
  cases ry
  obtain ⟨its, r1, p1, _⟩ := I.tuple ha
  obtain ⟨its2, r2, p2, _⟩ := I.tuple hb
  by_cases hx : xs = []
  · subst hx
    cases r1
    exact cat_tup0 p1 p2 ⟨.ref b, H, I, rfl, q0 rfl⟩
  · refine HT.cat_tup p1 p2 (fun w => hx (r1.nil_iff.mp w)) (fun w => ⟨.ref a, H, I, rfl, q1 hx (r2.nil_iff.mp w)⟩) (fun w => ?_) (by rw [← r1.length, ← r2.length]; exact hz)
    exact newT I s.toks (r1.append r2) (by rw [List.length_append]; exact hz) (q2 hx fun e => w (r2.nil_iff.mpr e))
/-! t[lo:hi] -/
def rSlN (K : PySem.W.Frag) : V → Option Int → Option Int → Hp → VK → Prop := fun x lo hi H Q => ∃ a xs, x = .ref a ∧ SqT K H a xs ∧
  (HT.sIx xs.length 0 lo = 0 ∧ HT.sIx xs.length xs.length hi = xs.length → Q (.ref a) H) ∧ (¬ (HT.sIx xs.length 0 lo = 0 ∧ HT.sIx xs.length xs.length hi = xs.length) → NewT H (cutV xs lo hi) Q)
theorem sl_tupN : SlR X (rSlN X.K) := by
  intro pins s σ H x v vl vu lo hi sl Q I rx hs pl pu h
  obtain ⟨a, xs, rfl, hx, q1, q2⟩ := h
  cases rx
  obtain ⟨its, r, ht, hz⟩ := I.tuple hx
  have hlen : its.toArray.size = xs.length := by rw [List.size_toArray]; exact r.length.symm
  refine ⟨"tuple", _, PyProof.Rows.slot_tuple_getitem.lookup, ht.typeIs, ?_⟩
  by_cases hw : HT.sIx xs.length 0 lo = 0 ∧ HT.sIx xs.length xs.length hi = xs.length
  · exact getItem_tuple_whole ht hs pl pu (by rw [hlen]; exact hw) ⟨.ref a, H, I, rfl, q1 hw⟩
  · refine HT.getItem_tuple_cut ht hs pl pu (by rw [hlen]; exact hw) ?_ (by rw [hlen]; exact hz)
    rw [hlen]
    exact newT I s.toks ((r.drop (HT.sIx xs.length 0 lo)).take (HT.sIx xs.length xs.length hi - HT.sIx xs.length 0 lo)) (Nat.le_trans (cutV_length xs lo hi) hz) (q2 hw)
/-! tuple(..) -/
theorem call_tupleN : CallR X (.type "tuple") (fun xs H Q => ∃ p ys, xs = [.ref p] ∧ ((SqL X.K H p ys ∧ NewT H ys Q) ∨ (SqT X.K H p ys ∧ Q (.ref p) H))) := by
  intro pins s σ H xs us Q I r h
  obtain ⟨p, ys, rfl, h⟩ := h
  obtain ⟨u, rfl, rx⟩ := vals1 r
  cases rx
  rcases h with ⟨hq, q⟩ | ⟨hq, q⟩
  · obtain ⟨its, r', pl, hz⟩ := I.list hq
    have hl := r'.length
    refine call_tuple_list pl.isList (fun h' kp => ?_) (by simp only [List.size_toArray] <;> omega)
    have I1 : Inv X pins σ H { s with heap := h' } := I.kept (t' := s.toks) kp
    exact newT I1 s.toks r' hz q
  · obtain ⟨its, r', pl, hz⟩ := I.tuple hq
    exact call_tuple_same pl ⟨.ref p, H, I, rfl, q⟩
/-! t * k -/
def rRepN (K : PySem.W.Frag) : R2 := fun x y H Q => ∃ l k xs, x = .ref l ∧ y = .int k ∧ SqT K H l xs ∧ xs ≠ [] ∧ 0 ≤ k ∧ k ≤ 1000 ∧ xs.length ≤ 1000 ∧ (k = 1 → Q (.ref l) H) ∧ (k ≠ 1 → NewT H (List.replicate k.toNat xs).flatten Q)
theorem op_repN : OpR X (binaryOp .Mult) (rRepN X.K) := by
  intro pins s σ H x y v u Q I rx ry h
  obtain ⟨l, k, xs, rfl, rfl, hT, hne, h1, h2, hz, q1, q⟩ := h
  cases rx
  obtain ⟨t, rfl⟩ := ry
  obtain ⟨its, r, ⟨⟨cls, dd, data, sl⟩, ho, hc, n, hd⟩, hs⟩ := I.tuple hT
  simp only at hc hd
  subst hc hd
  have hle : its.length = xs.length := r.length.symm
  have hn : its ≠ [] := fun e => hne (by
    rw [e] at hle
    exact List.eq_nil_of_length_eq_zero hle.symm)
  have hi : its.toArray.isEmpty = false := by
    cases its with
    | nil => exact absurd rfl hn
    | cons a b => rfl
  by_cases k1 : k = 1
  · subst k1
    exact wpAny_binaryOp_repeat_ref (T := "tuple") (U := "int") (by decide) ⟨_, ho, rfl⟩ (fun s' => typeIs_int s' 1 t) noFill_tuple_mul F.fills_int_mul F.slot_int_rmul repeat_tuple F.slot_int_index.lookup
      (call_meets F.slot_int_rmul (typeIs_int s 1 t) F.entry_int_rmul (F.args_int_rmul_2 _ _) (int_rmul_tuple 1 t l its.toArray n dd sl)
        ⟨ho, rfl, ⟨_, ho, rfl⟩, call_meets F.slot_tuple_mul ⟨_, ho, rfl⟩ F.entry_tuple_mul (F.args_tuple_mul_2 _ _) (tuple_mul1 l its.toArray n dd sl t) ⟨ho, ⟨.ref l, H, I, rfl, q1 rfl⟩⟩⟩)
  · by_cases k0 : k = 0
    · subst k0
      refine wpAny_binaryOp_repeat_ref (T := "tuple") (U := "int") (by decide) ⟨_, ho, rfl⟩ (fun s' => typeIs_int s' 0 t) noFill_tuple_mul F.fills_int_mul F.slot_int_rmul repeat_tuple F.slot_int_index.lookup
        (call_meets F.slot_int_rmul (typeIs_int s 0 t) F.entry_int_rmul (F.args_int_rmul_2 _ _) (int_rmul_tuple 0 t l its.toArray n dd sl)
          ⟨ho, rfl, ⟨_, ho, rfl⟩, call_meets F.slot_tuple_mul ⟨_, ho, rfl⟩ F.entry_tuple_mul (F.args_tuple_mul_2 _ _) (tuple_mul0 l its.toArray n dd sl t hi) ⟨ho, ?_⟩⟩)
      exact newT (its := []) I s.toks .nil (Nat.zero_le _) (q k1)
    · have z0 : its.toArray.size = xs.length := by rw [List.size_toArray, hle]
      have hm : ((its.toArray.size : Nat) : Int) * k ≤ 1000000 := by
        rw [z0]
        have a1 : ((xs.length : Nat) : Int) * k ≤ 1000 * k := Int.mul_le_mul_of_nonneg_right (by omega) (by omega)
        omega
      have flen : (List.replicate k.toNat its).flatten.length ≤ sizeLine := by
        rw [PyProof.Rows.lm_len_rep_flat, hle, sizeLine_eq]
        have a1 : k.toNat * xs.length ≤ 1000 * 1000 := Nat.mul_le_mul (by omega) hz
        omega
      have c0 : (decide (k < -(2 ^ 63)) || decide (k ≥ 2 ^ 63)) = false := by
        rw [decide_eq_false (by omega), decide_eq_false (by omega)] <;> rfl
      have c1 : (its.toArray.isEmpty || k == 1) = false := by
        rw [hi, Bool.false_or]
        exact beq_eq_false_iff_ne.mpr (by omega)
      have c2 : (decide (k ≤ 0) || its.toArray.isEmpty) = false := by
        rw [hi, Bool.or_false]
        exact decide_eq_false (by omega)
      have c4 : Builtin.Tuple.tupleTooMany (((its.toArray.size : Nat) : Int) * k) = false := by
        unfold Builtin.Tuple.tupleTooMany
        rw [sizeLine_eq]
        exact decide_eq_false (by omega)
      refine wpAny_binaryOp_repeat_ref (T := "tuple") (U := "int") (by decide) ⟨_, ho, rfl⟩ (fun s' => typeIs_int s' k t) noFill_tuple_mul F.fills_int_mul F.slot_int_rmul repeat_tuple F.slot_int_index.lookup
        (call_meets F.slot_int_rmul (typeIs_int s k t) F.entry_int_rmul (F.args_int_rmul_2 _ _) (int_rmul_tuple k t l its.toArray n dd sl)
          ⟨ho, rfl, ⟨_, ho, rfl⟩, call_meets F.slot_tuple_mul ⟨_, ho, rfl⟩ F.entry_tuple_mul (F.args_tuple_mul_2 _ _) (tuple_mulW l its.toArray n dd sl k t c0 c1 c2 (by omega) c4 (by rw [size_rep, List.size_toArray]; exact flen)) ⟨ho, ?_⟩⟩)
      rw [size_rep]
      exact newT I s.toks (r.rep k.toNat) (by rw [PyProof.Rows.lm_len_rep_flat, sizeLine_eq]; have a1 : k.toNat * xs.length ≤ 1000 * 1000 := Nat.mul_le_mul (by omega) hz; omega) (q k1)
end
end Pv
set_option autoImplicit false
set_option Elab.async false
set_option linter.all false
set_option maxRecDepth 100000
namespace Pv
open PySem PySem.Spec PyProof.Rows L2

/-- where the store's things lie; addresses that a comprehension is at work on -/
structure Gh where
  al : List (Option Addr)
  zs : List Addr
def Gh.out (g : Gh) (a : Addr) : Prop := ∀ n : Nat, g.al[n]? ≠ some (some a)
def Gh.no (g : Gh) (a : Addr) : Prop := g.out a ∧ a ∉ g.zs

def KT (K : PySem.W.Frag) (a : Addr) (xs : List V) : Prop :=
  ∃ (o : Obj) (its : Array Value) (n : Nat), K.lookup a = some o ∧ o.cls = .type "tuple" ∧ o.data = .seq its n ∧ its.size ≤ sizeLine ∧ Vals xs its.toList

mutual
inductive RelU (K : PySem.W.Frag) (g : Gh) (H : Hp) : U → V → Prop
  | non : RelU K g H .non .non
  | bl (b : Bool) : RelU K g H (.bl b) (.bl b)
  | int (i : Int) : RelU K g H (.int i) (.int i)
  | str (x : Str) : RelU K g H (.str x) (.str x)
  | tup {a : Addr} {us : List U} {vs : List V} : TupP H a vs → g.no a → us.length ≤ sizeLine → RelUs K g H us vs → RelU K g H (.tup us) (.ref a)
  | ktp {a : Addr} {us : List U} {vs : List V} : KT K a vs → us.length ≤ sizeLine → RelUs K g H us vs → RelU K g H (.ktp us) (.ref a)
  | lst {a : Addr} {us : List U} {vs : List V} : H a = some (.lst vs) → g.no a → us.length ≤ sizeLine → RelUs K g H us vs → RelU K g H (.lst us) (.ref a)
  | dK {a : Addr} {ks : List Key} {us : List U} {vs : List V} : Rd H a (.dK (ks.zip vs)) → g.no a → ks.length = us.length → ks.length ≤ sizeLine → RelUs K g H us vs → RelU K g H (.dK ks us) (.ref a)
  | dT {a : Addr} {ks : List (List Key)} {us : List U} {vs : List V} : Rd H a (.dT (ks.zip vs)) → g.no a → ks.length = us.length → ks.length ≤ sizeLine → RelUs K g H us vs → RelU K g H (.dT ks us) (.ref a)
  | scr {a : Addr} {ns : List Int} : ns.length ≤ sizeLine → (∃ o, H a = some o ∧ (o = .lst (ns.map V.int) ∨ ∃ od, o = .frz od (.lst (ns.map V.int))) ∧ g.no a) ∨ (∀ H' : Hp, SqL K H' a (ns.map V.int)) → RelU K g H (.scr ns) (.ref a)
  | obj {n : Nat} {a : Addr} : g.al[n]? = some (some a) → RelU K g H (.obj n) (.ref a)
inductive RelUs (K : PySem.W.Frag) (g : Gh) (H : Hp) : List U → List V → Prop
  | nil : RelUs K g H [] []
  | cons {u : U} {v : V} {us : List U} {vs : List V} : RelU K g H u v → RelUs K g H us vs → RelUs K g H (u :: us) (v :: vs)
end

def isD : HO → Prop
  | .dK _ => True
  | .dT _ => True
  | _ => False
/-- as it was; or a dict that from now on is not written any more -/
def Kept (z : List Addr) (a : Addr) (o o' : HO) : Prop := o' = o ∨ (a ∉ z ∧ isD o ∧ ∃ od, o' = .frz od o)
theorem Kept.trans {z z1 : List Addr} {a : Addr} {o o1 o2 : HO} (h1 : Kept z a o o1) (h2 : Kept z1 a o1 o2) (hz : a ∈ z → a ∈ z1) : Kept z a o o2 := by
  rcases h1 with rfl | ⟨n, d, od, rfl⟩
  · rcases h2 with rfl | ⟨n, d, od, rfl⟩
    · exact .inl rfl
    · exact .inr ⟨fun m => n (hz m), d, od, rfl⟩
  · rcases h2 with rfl | ⟨_, d2, _⟩
    · exact .inr ⟨n, d, od, rfl⟩
    · exact d2.elim
theorem Kept.weak {z : List Addr} {a : Addr} {o o' : HO} (h : Kept z a o o') : Kept [] a o o' := h.imp id fun ⟨_, d, q⟩ => ⟨by simp, d, q⟩
theorem Kept.same {z : List Addr} {a : Addr} {o o' : HO} (h : Kept z a o o') (nd : ¬ isD o ∨ a ∈ z) : o' = o := by
  rcases h with h | ⟨n, d, _⟩
  · exact h
  · exact (nd.elim (fun q => q d) n).elim
/-- what stood stays: all but the store's own things; those keep their places -/
structure Ext (g : Gh) (H : Hp) (g' : Gh) (H' : Hp) : Prop where
  keep : ∀ a o, H a = some o → g.out a → (∃ o', H' a = some o' ∧ Kept g.zs a o o') ∧ g'.out a
  obj : ∀ (n : Nat) a, g.al[n]? = some (some a) → g'.al[n]? = some (some a)
  nz : ∀ a o, H a = some o → a ∉ g.zs → a ∉ g'.zs
  zk : ∀ a, a ∈ g.zs → a ∈ g'.zs
  lv : ∀ a o, H a = some o → ∃ o', H' a = some o'
theorem Ext.of {g g' : Gh} {H H' : Hp} (k : ∀ a o, H a = some o → g.out a → H' a = some o ∧ g'.out a) (ob : ∀ (n : Nat) a, g.al[n]? = some (some a) → g'.al[n]? = some (some a)) (nz : ∀ a o, H a = some o → a ∉ g.zs → a ∉ g'.zs)
    (zk : ∀ a, a ∈ g.zs → a ∈ g'.zs) (lv : ∀ a o, H a = some o → ∃ o', H' a = some o') : Ext g H g' H' := ⟨fun a o h n => ⟨⟨o, (k a o h n).1, .inl rfl⟩, (k a o h n).2⟩, ob, nz, zk, lv⟩
theorem Ext.keep1 {g g1 : Gh} {H H1 : Hp} (e : Ext g H g1 H1) {a : Addr} {o : HO} (h : H a = some o) (n : g.out a) (nd : ¬ isD o ∨ a ∈ g.zs) : H1 a = some o ∧ g1.out a := by
  obtain ⟨⟨o', h', k⟩, n'⟩ := e.keep a o h n
  rw [k.same nd] at h'
  exact ⟨h', n'⟩
theorem Ext.refl (g : Gh) (H : Hp) : Ext g H g H := Ext.of (fun _ _ h n => ⟨h, n⟩) (fun _ _ h => h) (fun _ _ _ h => h) (fun _ h => h) (fun _ o h => ⟨o, h⟩)
/-- what a hidden or changeable place is, it stays: so an address outside the books stays outside -/
theorem Ext.trans {g g1 g2 : Gh} {H H1 H2 : Hp} (a : Ext g H g1 H1) (b : Ext g1 H1 g2 H2) : Ext g H g2 H2 :=
  ⟨fun c o h n => let ⟨⟨o1, h1, k1⟩, n1⟩ := a.keep c o h n; let ⟨⟨o2, h2, k2⟩, n2⟩ := b.keep c o1 h1 n1; ⟨⟨o2, h2, k1.trans k2 (a.zk c)⟩, n2⟩, fun n c h => b.obj n c (a.obj n c h), fun c o h n => let ⟨o', h'⟩ := a.lv c o h; b.nz c o' h' (a.nz c o h n), fun c h => b.zk c (a.zk c h), fun c o h => let ⟨o', h'⟩ := a.lv c o h; b.lv c o' h'⟩
/-- the same, the hidden things let go -/
structure ExtW (g : Gh) (H : Hp) (g' : Gh) (H' : Hp) : Prop where
  keep : ∀ a o, H a = some o → g.no a → (∃ o', H' a = some o' ∧ Kept [] a o o') ∧ g'.out a
  obj : ∀ (n : Nat) a, g.al[n]? = some (some a) → g'.al[n]? = some (some a)
  nz : ∀ a o, H a = some o → a ∉ g.zs → a ∉ g'.zs
  lv : ∀ a o, H a = some o → ∃ o', H' a = some o'
theorem Ext.weak {g g1 : Gh} {H H1 : Hp} (e : Ext g H g1 H1) : ExtW g H g1 H1 := ⟨fun a o h n => let ⟨⟨o', h', k⟩, n'⟩ := e.keep a o h n.1; ⟨⟨o', h', k.weak⟩, n'⟩, e.obj, e.nz, e.lv⟩
theorem ExtW.no {g g1 : Gh} {H H1 : Hp} (e : ExtW g H g1 H1) {a : Addr} {o : HO} (h : H a = some o) (n : g.no a) (nd : ¬ isD o) : H1 a = some o ∧ g1.no a := by
  obtain ⟨⟨o', h', k⟩, n'⟩ := e.keep a o h n
  rw [k.same (.inl nd)] at h'
  exact ⟨h', n', e.nz a o h n.2⟩
theorem ExtW.rd {g g1 : Gh} {H H1 : Hp} (e : ExtW g H g1 H1) {a : Addr} {o : HO} (h : Rd H a o) (n : g.no a) : Rd H1 a o ∧ g1.no a := by
  rcases h with h | ⟨od, h⟩
  · obtain ⟨⟨o', h', k⟩, n'⟩ := e.keep a o h n
    refine ⟨?_, n', e.nz a o h n.2⟩
    rcases k with rfl | ⟨_, _, od, rfl⟩
    · exact .inl h'
    · exact .inr ⟨od, h'⟩
  · obtain ⟨h1, n1⟩ := e.no h n id
    exact ⟨.inr ⟨od, h1⟩, n1⟩
theorem ExtW.trans {g g1 g2 : Gh} {H H1 H2 : Hp} (a : ExtW g H g1 H1) (b : ExtW g1 H1 g2 H2) : ExtW g H g2 H2 :=
  ⟨fun c o h n => let ⟨⟨o1, h1, k1⟩, n1⟩ := a.keep c o h n; let ⟨⟨o2, h2, k2⟩, n2⟩ := b.keep c o1 h1 ⟨n1, a.nz c o h n.2⟩; ⟨⟨o2, h2, k1.trans k2 id⟩, n2⟩, fun n c h => b.obj n c (a.obj n c h), fun c o h n => let ⟨o', h'⟩ := a.lv c o h; b.nz c o' h' (a.nz c o h n), fun c o h => let ⟨o', h'⟩ := a.lv c o h; b.lv c o' h'⟩
theorem rd_mono {H H' : Hp} {a : Addr} {o : HO} (h : Rd H a o) (f : ∀ x, H a = some x → H' a = some x) : Rd H' a o := h.imp (f _) fun ⟨od, q⟩ => ⟨od, f _ q⟩
theorem tupO_nd {vs : List V} {o : Obj} : ¬ isD (tupO vs o) := by
  unfold tupO
  split <;> exact id
theorem ExtW.tup {g g1 : Gh} {H H1 : Hp} (e : ExtW g H g1 H1) {a : Addr} {vs : List V} (h : TupP H a vs) (n : g.no a) : TupP H1 a vs ∧ g1.no a := by
  obtain ⟨o, d, q⟩ := h
  have := e.no q n tupO_nd
  exact ⟨⟨o, d, this.1⟩, this.2⟩
mutual
theorem RelU.extW {K : PySem.W.Frag} {g g' : Gh} {H H' : Hp} (e : ExtW g H g' H') : ∀ {u : U} {v : V}, RelU K g H u v → RelU K g' H' u v
  | _, _, .non => .non
  | _, _, .bl b => .bl b
  | _, _, .int i => .int i
  | _, _, .str x => .str x
  | _, _, .tup h n z r => .tup (e.tup h n).1 (e.tup h n).2 z (RelUs.extW e r)
  | _, _, .ktp h z r => .ktp h z (RelUs.extW e r)
  | _, _, .lst h n z r => .lst (e.no h n id).1 (e.no h n id).2 z (RelUs.extW e r)
  | _, _, .dK h n l z r => .dK (e.rd h n).1 (e.rd h n).2 l z (RelUs.extW e r)
  | _, _, .dT h n l z r => .dT (e.rd h n).1 (e.rd h n).2 l z (RelUs.extW e r)
  | _, _, .scr z h => .scr z (h.imp (fun ⟨o, q, k, n⟩ => have nd : ¬ isD o := by { rcases k with rfl | ⟨_, rfl⟩ <;> exact id }; ⟨o, (e.no q n nd).1, k, (e.no q n nd).2⟩) id)
  | _, _, .obj h => .obj (e.obj _ _ h)
theorem RelUs.extW {K : PySem.W.Frag} {g g' : Gh} {H H' : Hp} (e : ExtW g H g' H') : ∀ {us : List U} {vs : List V}, RelUs K g H us vs → RelUs K g' H' us vs
  | _, _, .nil => .nil
  | _, _, .cons h r => .cons (RelU.extW e h) (RelUs.extW e r)
end
theorem RelU.ext {K : PySem.W.Frag} {g g' : Gh} {H H' : Hp} (e : Ext g H g' H') {u : U} {v : V} (r : RelU K g H u v) : RelU K g' H' u v := r.extW e.weak
theorem RelUs.ext {K : PySem.W.Frag} {g g' : Gh} {H H' : Hp} (e : Ext g H g' H') {u : List U} {v : List V} (r : RelUs K g H u v) : RelUs K g' H' u v := r.extW e.weak
section
variable {K : PySem.W.Frag} {g : Gh} {H : Hp}
theorem RelUs.length : ∀ {us : List U} {vs : List V}, RelUs K g H us vs → us.length = vs.length
  | _, _, .nil => rfl
  | _, _, .cons _ r => by simp [RelUs.length r]
theorem RelUs.get : ∀ {us : List U} {vs : List V} {i : Nat} {u : U}, RelUs K g H us vs → us[i]? = some u → ∃ v, vs[i]? = some v ∧ RelU K g H u v
  | _, _, _, _, .nil, e => by simp at e
  | _, _, 0, _, .cons r _, e => by simp at e; subst e; exact ⟨_, rfl, r⟩
  | _, _, i + 1, _, .cons _ t, e => by
    obtain ⟨v, h1, h2⟩ := RelUs.get (i := i) t (by simpa using e)
    exact ⟨v, by simpa using h1, h2⟩
theorem RelUs.getV : ∀ {us : List U} {vs : List V} {i : Nat} {v : V}, RelUs K g H us vs → vs[i]? = some v → ∃ u, us[i]? = some u ∧ RelU K g H u v
  | _, _, _, _, .nil, e => by simp at e
  | _, _, 0, _, .cons r _, e => by simp at e; subst e; exact ⟨_, rfl, r⟩
  | _, _, i + 1, _, .cons _ t, e => by
    obtain ⟨v, h1, h2⟩ := RelUs.getV (i := i) t (by simpa using e)
    exact ⟨v, by simpa using h1, h2⟩
theorem RelUs.append : ∀ {us us' : List U} {vs vs' : List V}, RelUs K g H us vs → RelUs K g H us' vs' → RelUs K g H (us ++ us') (vs ++ vs')
  | _, _, _, _, .nil, s => s
  | _, _, _, _, .cons r t, s => .cons r (RelUs.append t s)
theorem RelUs.take : ∀ {us : List U} {vs : List V} (n : Nat), RelUs K g H us vs → RelUs K g H (us.take n) (vs.take n)
  | _, _, 0, _ => .nil
  | _, _, _ + 1, .nil => .nil
  | _, _, n + 1, .cons r t => .cons r (RelUs.take n t)
theorem RelUs.drop : ∀ {us : List U} {vs : List V} (n : Nat), RelUs K g H us vs → RelUs K g H (us.drop n) (vs.drop n)
  | _, _, 0, r => r
  | _, _, _ + 1, .nil => .nil
  | _, _, n + 1, .cons _ t => RelUs.drop n t
theorem RelUs.set {u : U} {v : V} (r : RelU K g H u v) : ∀ {us : List U} {vs : List V} (i : Nat), RelUs K g H us vs → RelUs K g H (us.set i u) (vs.set i v)
  | _, _, _, .nil => .nil
  | _, _, 0, .cons _ t => .cons r t
  | _, _, i + 1, .cons q t => .cons q (RelUs.set r i t)
theorem RelUs.rev {us : List U} {vs : List V} (h : RelUs K g H us vs) : RelUs K g H us.reverse vs.reverse := by
  induction us generalizing vs with
  | nil => cases h; exact .nil
  | cons u us ih =>
    cases h with
    | cons r t =>
      rw [List.reverse_cons, List.reverse_cons]
      exact (ih t).append (.cons r .nil)
theorem RelUs.cut {us : List U} {vs : List V} (h : RelUs K g H us vs) (lo hi : Option Int) : RelUs K g H (Pv.cut us lo hi) (Pv.cut vs lo hi) := by
  unfold Pv.cut
  rw [h.length]
  exact (h.drop _).take _
end

theorem upd_lv {H : Hp} {p a : Addr} {o u : HO} (h : H a = some u) : ∃ o', upd H p o a = some o' := by
  by_cases e : a = p
  · subst e; exact ⟨_, upd_same⟩
  · exact ⟨u, by rw [upd_ne e]; exact h⟩
/-- what stands at a changeable thing's place -/
def RO (K : PySem.W.Frag) (C : Nat → Addr) (g : Gh) (H : Hp) (a : Addr) : O → Prop
  | .lst us => us.length ≤ sizeLine ∧ ∃ vs, H a = some (.lst vs) ∧ RelUs K g H us vs
  | .dK kvs => kvs.length ≤ sizeLine ∧ ∃ vs, H a = some (.dK ((kvs.map (·.1)).zip vs)) ∧ RelUs K g H (kvs.map (·.2)) vs
  | .dT kvs => kvs.length ≤ sizeLine ∧ ∃ vs, H a = some (.dT ((kvs.map (·.1)).zip vs)) ∧ RelUs K g H (kvs.map (·.2)) vs
  | .ins c fs => ∃ dx vs, H a = some (.ins (C c) dx ((fs.map (·.1)).zip vs)) ∧ RelUs K g H (fs.map (·.2)) vs
  | .tab q => a = C 1000 ∧ ∃ ps : Array Value, H a = some (.tbl ps) ∧ TriplesOk ps.toList ∧ ∀ (pos : Pos) (cv : Value), codeAmong pos ps.toList = some cv → ∃ c, cv = .ref c ∧ H c = some (LamX.CodeO c q) ∧ g.no c
/-- the kinds that change -/
def chg : HO → Prop
  | .lst _ => True
  | .dK _ => True
  | .dT _ => True
  | .ins _ _ _ => True
  | _ => False
theorem RO.ext {K : PySem.W.Frag} {C : Nat → Addr} {g g' : Gh} {H H' : Hp} {a : Addr} (e : Ext g H g' H') (h : H' a = H a) : ∀ {o : O}, RO K C g H a o → RO K C g' H' a o
  | .lst us, ⟨z, vs, q, r⟩ => ⟨z, vs, h.trans q, r.ext e⟩
  | .dK us, ⟨z, vs, q, r⟩ => ⟨z, vs, h.trans q, r.ext e⟩
  | .dT us, ⟨z, vs, q, r⟩ => ⟨z, vs, h.trans q, r.ext e⟩
  | .ins c fs, ⟨dx, vs, q, r⟩ => ⟨dx, vs, h.trans q, r.ext e⟩
  | .tab _, ⟨z, ps, q, t, r⟩ => ⟨z, ps, h.trans q, t, fun pos cv hc => let ⟨c, h1, h2, h3⟩ := r pos cv hc; ⟨c, h1, (e.weak.no h2 h3 id).1, (e.weak.no h2 h3 id).2⟩⟩
/-- .. or a table of code objects -/
def chgT (o : HO) : Prop := chg o ∨ ∃ ps, o = .tbl ps
theorem tupO_nc {vs : List V} {o : Obj} : ¬ chgT (tupO vs o) := by
  unfold tupO
  rintro (h | ⟨ps, h⟩)
  · split at h <;> exact h
  · split at h <;> cases h

structure RS (K : PySem.W.Frag) (C : Nat → Addr) (g : Gh) (s : MS) (H : Hp) : Prop where
  len : g.al.length = s.length
  there : ∀ (n : Nat) o, s[n]? = some o → ∃ a, g.al[n]? = some (some a)
  at_ : ∀ (n : Nat) o a, s[n]? = some o → g.al[n]? = some (some a) → RO K C g H a o
  inj : ∀ (n m : Nat) a, g.al[n]? = some (some a) → g.al[m]? = some (some a) → n = m
  kind : ∀ (n : Nat) a, g.al[n]? = some (some a) → ∃ o, H a = some o ∧ chgT o
  zsd : ∀ a ∈ g.zs, (∃ o, H a = some o ∧ chg o) ∧ g.out a
section
variable {K : PySem.W.Frag} {C : Nat → Addr} {g : Gh} {s : MS} {H : Hp}
theorem RS.tbl (R : RS K C g s H) {n : Nat} {a : Addr} {ps : Array Value} (h : g.al[n]? = some (some a)) (e : H a = some (.tbl ps)) : a = C 1000 := by
  have hn : n < s.length := by rw [← R.len]; exact (List.getElem?_eq_some_iff.mp h).1
  have ro := R.at_ n _ a (List.getElem?_eq_getElem hn) h
  cases hs : s[n] with
  | tab q => rw [hs] at ro; exact ro.1
  | lst us => rw [hs] at ro; obtain ⟨_, _, q, _⟩ := ro; rw [e] at q; cases q
  | dK us => rw [hs] at ro; obtain ⟨_, _, q, _⟩ := ro; rw [e] at q; cases q
  | dT us => rw [hs] at ro; obtain ⟨_, _, q, _⟩ := ro; rw [e] at q; cases q
  | ins c fs => rw [hs] at ro; obtain ⟨_, _, q, _⟩ := ro; rw [e] at q; cases q
theorem RS.fresh (R : RS K C g s H) {p : Addr} (hp : H p = none) : g.no p := by
  refine ⟨fun n e => ?_, fun z => ?_⟩
  · obtain ⟨o, q, _⟩ := R.kind n p e
    rw [hp] at q; cases q
  · obtain ⟨⟨o, q, _⟩, _⟩ := R.zsd p z
    rw [hp] at q; cases q
theorem RS.tupPNo (R : RS K C g s H) {b : Addr} {vs : List V} (h : TupP H b vs) : g.no b := by
  obtain ⟨w, _, h⟩ := h
  have nc : ¬ chgT (tupO vs w) := tupO_nc
  refine ⟨fun n e => ?_, fun z => ?_⟩
  · obtain ⟨o, q, c⟩ := R.kind n b e
    rw [h] at q; cases q; exact nc c
  · obtain ⟨⟨o, q, c⟩, _⟩ := R.zsd b z
    rw [h] at q; cases q; exact nc (.inl c)
theorem RS.tupNo (R : RS K C g s H) {b : Addr} {vs : List V} (h : H b = some (.tup vs)) : g.no b := by
  refine ⟨fun n e => ?_, fun z => ?_⟩
  · obtain ⟨o, q, c⟩ := R.kind n b e
    rw [h] at q; cases q; exact c.elim id fun ⟨_, z⟩ => by cases z
  · obtain ⟨⟨o, q, c⟩, _⟩ := R.zsd b z
    rw [h] at q; cases q; exact c
theorem Ext.new (R : RS K C g s H) {p : Addr} {o : HO} (hp : H p = none) : Ext g H g (upd H p o) :=
  .of (fun a u h n => ⟨by rw [upd_ne (ne_of_none h hp)]; exact h, n⟩) (fun _ _ h => h) (fun _ _ _ h => h) (fun _ h => h) (fun _ _ h => upd_lv h)
/-- a new thing that no one changes -/
theorem RS.new (R : RS K C g s H) {p : Addr} {o : HO} (hp : H p = none) : RS K C g s (upd H p o) := by
  have e : Ext g H g (upd H p o) := Ext.new R hp
  refine ⟨R.len, R.there, fun n u a h1 h2 => ?_, R.inj, fun n a h => ?_, fun a h => ⟨?_, (R.zsd a h).2⟩⟩
  · obtain ⟨w, q, _⟩ := R.kind n a h2
    exact (R.at_ n u a h1 h2).ext e (upd_ne (ne_of_none q hp))
  · obtain ⟨w, q, c⟩ := R.kind n a h
    exact ⟨w, by rw [upd_ne (ne_of_none q hp)]; exact q, c⟩
  · obtain ⟨⟨w, q, c⟩, _⟩ := R.zsd a h
    exact ⟨w, by rw [upd_ne (ne_of_none q hp)]; exact q, c⟩
/-- a new changeable thing -/
def Gh.push (g : Gh) (p : Addr) : Gh := ⟨g.al ++ [some p], g.zs⟩
theorem Gh.push_old {g : Gh} {p : Addr} {n : Nat} {a : Addr} (h : g.al[n]? = some (some a)) : (g.push p).al[n]? = some (some a) := by
  show (g.al ++ [some p])[n]? = _
  have hn : n < g.al.length := (List.getElem?_eq_some_iff.mp h).1
  rw [List.getElem?_append_left hn]
  exact h
theorem Gh.push_cases {g : Gh} {p : Addr} {n : Nat} {a : Addr} (h : (g.push p).al[n]? = some (some a)) : g.al[n]? = some (some a) ∨ (n = g.al.length ∧ a = p) := by
  have h' : (g.al ++ [some p])[n]? = some (some a) := h
  by_cases hn : n < g.al.length
  · rw [List.getElem?_append_left hn] at h'
    exact .inl h'
  · rw [List.getElem?_append_right (by omega)] at h'
    have hz : n - g.al.length = 0 := by
      cases q : n - g.al.length with
      | zero => rfl
      | succ k => rw [q] at h'; simp at h'
    rw [hz] at h'
    simp at h'
    exact .inr ⟨by omega, h'.symm⟩
theorem Gh.push_last {g : Gh} {p : Addr} : (g.push p).al[g.al.length]? = some (some p) := by
  show (g.al ++ [some p])[g.al.length]? = _
  simp
theorem Gh.push_out {g : Gh} {p a : Addr} (h : g.out a) (ne : a ≠ p) : (g.push p).out a := fun n q => by
  rcases Gh.push_cases q with z | z
  · exact h n z
  · exact ne z.2
theorem Ext.newO (R : RS K C g s H) {p : Addr} {o : HO} (hp : H p = none) : Ext g H (g.push p) (upd H p o) :=
  .of (fun a u h n => ⟨by rw [upd_ne (ne_of_none h hp)]; exact h, Gh.push_out n (ne_of_none h hp)⟩) (fun _ _ h => Gh.push_old h) (fun _ _ _ h => h) (fun _ h => h) (fun _ _ h => upd_lv h)
theorem RS.newO (R : RS K C g s H) {p : Addr} {ho : HO} {o : O} (hp : H p = none) (hc : chg ho) (ro : RO K C (g.push p) (upd H p ho) p o) : RS K C (g.push p) (s ++ [o]) (upd H p ho) := by
  have e : Ext g H (g.push p) (upd H p ho) := Ext.newO R hp
  have lenS := R.len
  have lenP : (g.push p).al.length = g.al.length + 1 := by show (g.al ++ [some p]).length = _; simp
  refine ⟨by simp [lenP, lenS], fun n u h => ?_, fun n u a h1 h2 => ?_, fun n m a h1 h2 => ?_, fun n a h => ?_, fun a h => ⟨?_, ?_⟩⟩
  · by_cases hn : n < s.length
    · rw [List.getElem?_append_left hn] at h
      obtain ⟨a, q⟩ := R.there n u h
      exact ⟨a, Gh.push_old q⟩
    · have hn2 : n < (s ++ [o]).length := (List.getElem?_eq_some_iff.mp h).1
      have : n = g.al.length := by simp at hn2; omega
      subst this
      exact ⟨p, Gh.push_last⟩
  · rcases Gh.push_cases h2 with z | ⟨z1, z2⟩
    · have hn : n < s.length := by rw [← lenS]; exact (List.getElem?_eq_some_iff.mp z).1
      rw [List.getElem?_append_left hn] at h1
      obtain ⟨w, q, _⟩ := R.kind n a z
      exact (R.at_ n u a h1 z).ext e (upd_ne (ne_of_none q hp))
    · subst z1; subst z2
      rw [lenS] at h1
      simp at h1
      subst h1
      exact ro
  · rcases Gh.push_cases h1 with z | ⟨z1, z2⟩ <;> rcases Gh.push_cases h2 with y | ⟨y1, y2⟩
    · exact R.inj n m a z y
    · subst y2
      exact absurd z ((R.fresh hp).1 n)
    · subst z2
      exact absurd y ((R.fresh hp).1 m)
    · omega
  · rcases Gh.push_cases h with z | ⟨z1, z2⟩
    · obtain ⟨w, q, c⟩ := R.kind n a z
      exact ⟨w, by rw [upd_ne (ne_of_none q hp)]; exact q, c⟩
    · subst z2
      exact ⟨ho, upd_same, .inl hc⟩
  · obtain ⟨⟨w, q, c⟩, _⟩ := R.zsd a h
    exact ⟨w, by rw [upd_ne (ne_of_none q hp)]; exact q, c⟩
  · obtain ⟨⟨w, q, c⟩, q2⟩ := R.zsd a h
    refine Gh.push_out q2 (ne_of_none q hp)
/-- a changeable thing changed -/
theorem Ext.write (R : RS K C g s H) {n : Nat} {a : Addr} {ho : HO} (h : g.al[n]? = some (some a)) : Ext g H g (upd H a ho) :=
  .of (fun b u q o => ⟨by rw [upd_ne (fun z => o n (by rw [z]; exact h))]; exact q, o⟩) (fun _ _ q => q) (fun _ _ _ h => h) (fun _ h => h) (fun _ _ h => upd_lv h)
theorem RS.write (R : RS K C g s H) {n : Nat} {a : Addr} {ho : HO} {o : O} (h : g.al[n]? = some (some a)) (hc : chg ho) (ro : RO K C g (upd H a ho) a o) : RS K C g (s.set n o) (upd H a ho) := by
  have e : Ext g H g (upd H a ho) := Ext.write R h
  have hn : n < s.length := by rw [← R.len]; exact (List.getElem?_eq_some_iff.mp h).1
  refine ⟨by rw [List.length_set]; exact R.len, fun m u q => ?_, fun m u b h1 h2 => ?_, R.inj, fun m b q => ?_, fun b q => ⟨?_, (R.zsd b q).2⟩⟩
  · by_cases hm : m = n
    · subst hm; exact ⟨a, h⟩
    · rw [List.getElem?_set_ne (Ne.symm hm)] at q
      exact R.there m u q
  · by_cases hm : m = n
    · subst hm
      rw [h] at h2
      cases h2
      rw [List.getElem?_set_self hn] at h1
      cases h1
      exact ro
    · rw [List.getElem?_set_ne (Ne.symm hm)] at h1
      refine (R.at_ m u b h1 h2).ext e (upd_ne fun z => hm ?_)
      subst z
      exact R.inj m n _ h2 h
  · by_cases hb : b = a
    · subst hb; exact ⟨ho, upd_same, .inl hc⟩
    · obtain ⟨w, z, c⟩ := R.kind m b q
      exact ⟨w, by rw [upd_ne hb]; exact z, c⟩
  · obtain ⟨⟨w, z, c⟩, _⟩ := R.zsd b q
    by_cases hb : b = a
    · subst hb; exact ⟨ho, upd_same, hc⟩
    · exact ⟨w, by rw [upd_ne hb]; exact z, c⟩
/-! a list that a comprehension is at work on -/
def Gh.hide (g : Gh) (D : Addr) : Gh := ⟨g.al, D :: g.zs⟩
def Gh.bare (g : Gh) (D : Addr) : Gh := ⟨g.al, g.zs.filter fun a => decide (a ≠ D)⟩
theorem Ext.hide {D : Addr} {o : HO} (hD : H D = none) : Ext g H (g.hide D) (upd H D o) :=
  .of (fun a u h n => ⟨by rw [upd_ne (ne_of_none h hD)]; exact h, n⟩) (fun _ _ h => h) (fun a u h n m => (List.mem_cons.mp m).elim (ne_of_none h hD) n) (fun _ h => List.mem_cons_of_mem _ h) (fun _ _ h => upd_lv h)
mutual
/-- the hidden list is written: nothing that is told hangs on it -/
theorem RelU.under {D : Addr} {o : HO} (hD : D ∈ g.zs) : ∀ {u : U} {v : V}, RelU K g H u v → RelU K g (upd H D o) u v
  | _, _, .non => .non
  | _, _, .bl b => .bl b
  | _, _, .int i => .int i
  | _, _, .str x => .str x
  | _, _, .tup h n z r => .tup (h.of_eq (upd_ne (fun e => n.2 (by rw [e]; exact hD)))) n z (RelUs.under hD r)
  | _, _, .ktp h z r => .ktp h z (RelUs.under hD r)
  | _, _, .lst h n z r => .lst (by rw [upd_ne (fun e => n.2 (by rw [e]; exact hD))]; exact h) n z (RelUs.under hD r)
  | _, _, .dK h n l z r => .dK (rd_mono h fun x q => by rw [upd_ne (fun e => n.2 (by rw [e]; exact hD))]; exact q) n l z (RelUs.under hD r)
  | _, _, .dT h n l z r => .dT (rd_mono h fun x q => by rw [upd_ne (fun e => n.2 (by rw [e]; exact hD))]; exact q) n l z (RelUs.under hD r)
  | _, _, .scr z h => .scr z (h.imp (fun ⟨w, q⟩ => ⟨w, by rw [upd_ne (fun e => q.2.2.2 (by rw [e]; exact hD))]; exact q.1, q.2⟩) id)
  | _, _, .obj h => .obj h
theorem RelUs.under {D : Addr} {o : HO} (hD : D ∈ g.zs) : ∀ {us : List U} {vs : List V}, RelUs K g H us vs → RelUs K g (upd H D o) us vs
  | _, _, .nil => .nil
  | _, _, .cons h r => .cons (RelU.under hD h) (RelUs.under hD r)
end
mutual
/-- another way to keep the books -/
theorem RelU.sub {g' : Gh} (hn : ∀ a, g.no a → g'.no a) (ho : ∀ (n : Nat) a, g.al[n]? = some (some a) → g'.al[n]? = some (some a)) : ∀ {u : U} {v : V}, RelU K g H u v → RelU K g' H u v
  | _, _, .non => .non
  | _, _, .bl b => .bl b
  | _, _, .int i => .int i
  | _, _, .str x => .str x
  | _, _, .tup h n z r => .tup h (hn _ n) z (RelUs.sub hn ho r)
  | _, _, .ktp h z r => .ktp h z (RelUs.sub hn ho r)
  | _, _, .lst h n z r => .lst h (hn _ n) z (RelUs.sub hn ho r)
  | _, _, .dK h n l z r => .dK h (hn _ n) l z (RelUs.sub hn ho r)
  | _, _, .dT h n l z r => .dT h (hn _ n) l z (RelUs.sub hn ho r)
  | _, _, .scr z h => .scr z (h.imp (fun ⟨w, q⟩ => ⟨w, q.1, q.2.1, hn _ q.2.2⟩) id)
  | _, _, .obj h => .obj (ho _ _ h)
theorem RelUs.sub {g' : Gh} (hn : ∀ a, g.no a → g'.no a) (ho : ∀ (n : Nat) a, g.al[n]? = some (some a) → g'.al[n]? = some (some a)) : ∀ {us : List U} {vs : List V}, RelUs K g H us vs → RelUs K g' H us vs
  | _, _, .nil => .nil
  | _, _, .cons h r => .cons (RelU.sub hn ho h) (RelUs.sub hn ho r)
end
theorem RO.map {g' : Gh} {H' : Hp} {a : Addr} (h : H' a = H a) (f : ∀ {us : List U} {vs : List V}, RelUs K g H us vs → RelUs K g' H' us vs) (f2 : ∀ c o, g.no c → H c = some o → H' c = some o ∧ g'.no c) : ∀ {o : O}, RO K C g H a o → RO K C g' H' a o
  | .lst us, ⟨z, vs, q, r⟩ => ⟨z, vs, h.trans q, f r⟩
  | .dK us, ⟨z, vs, q, r⟩ => ⟨z, vs, h.trans q, f r⟩
  | .dT us, ⟨z, vs, q, r⟩ => ⟨z, vs, h.trans q, f r⟩
  | .ins c fs, ⟨dx, vs, q, r⟩ => ⟨dx, vs, h.trans q, f r⟩
  | .tab _, ⟨z, ps, q, t, r⟩ => ⟨z, ps, h.trans q, t, fun pos cv hc => let ⟨c, h1, h2, h3⟩ := r pos cv hc; ⟨c, h1, (f2 c _ h3 h2).1, (f2 c _ h3 h2).2⟩⟩
theorem RS.hide (R : RS K C g s H) {D : Addr} {o : HO} (ho : chg o) (hD : H D = none) : RS K C (g.hide D) s (upd H D o) := by
  refine ⟨R.len, R.there, fun n u a h1 h2 => ?_, R.inj, fun n a h => ?_, fun a h => ?_⟩
  · obtain ⟨w, q, _⟩ := R.kind n a h2
    exact (R.at_ n u a h1 h2).ext (Ext.hide hD) (upd_ne (ne_of_none q hD))
  · obtain ⟨w, q, c⟩ := R.kind n a h
    exact ⟨w, by rw [upd_ne (ne_of_none q hD)]; exact q, c⟩
  · rcases List.mem_cons.mp h with rfl | h
    · exact ⟨⟨o, upd_same, ho⟩, (R.fresh hD).1⟩
    · obtain ⟨⟨w, q, c⟩, q2⟩ := R.zsd a h
      exact ⟨⟨w, by rw [upd_ne (ne_of_none q hD)]; exact q, c⟩, q2⟩
theorem RS.under {D : Addr} {o : HO} (ho : chg o) (hD : D ∈ g.zs) (R : RS K C g s H) : RS K C g s (upd H D o) := by
  have oD : g.out D := (R.zsd D hD).2
  refine ⟨R.len, R.there, fun n u a h1 h2 => ?_, R.inj, fun n a h => ?_, fun a h => ⟨?_, (R.zsd a h).2⟩⟩
  · exact (R.at_ n u a h1 h2).map (upd_ne fun e => oD n (by rw [← e]; exact h2)) (fun r => r.under hD) fun c o n h => ⟨by rw [upd_ne (fun e => n.2 (by rw [e]; exact hD))]; exact h, n⟩
  · obtain ⟨w, q, c⟩ := R.kind n a h
    exact ⟨w, by rw [upd_ne fun e => oD n (by rw [← e]; exact h)]; exact q, c⟩
  · obtain ⟨⟨w, q, c⟩, _⟩ := R.zsd a h
    by_cases hb : a = D
    · subst hb; exact ⟨o, upd_same, ho⟩
    · exact ⟨w, by rw [upd_ne hb]; exact q, c⟩
theorem Gh.bare_no {D a : Addr} (h : g.no a) : (g.bare D).no a := ⟨h.1, fun m => h.2 (List.mem_filter.mp m).1⟩
theorem RS.bare (R : RS K C g s H) (D : Addr) : RS K C (g.bare D) s H :=
  ⟨R.len, R.there, fun n u a h1 h2 => (R.at_ n u a h1 h2).map rfl (fun r => r.sub (fun _ h => Gh.bare_no h) fun _ _ h => h) (fun _ _ n h => ⟨h, Gh.bare_no n⟩), R.inj, R.kind, fun a h => R.zsd a (List.mem_filter.mp h).1⟩
/-- from ahead of the comprehension to behind it -/
theorem Ext.behind {g1 : Gh} {H1 : Hp} {D : Addr} {o : HO} (R : RS K C g s H) (hD : H D = none) (e : Ext (g.hide D) (upd H D o) g1 H1) (k : ∀ a u, a ≠ D → H a = some u → g.out a → H1 a = some u ∧ g1.out a) : Ext g H (g1.bare D) H1 := by
  refine .of (fun a u h n => k a u (ne_of_none h hD) h n) e.obj (fun a u h n m => ?_) (fun a h => ?_) fun a u h => e.lv a u (by rw [upd_ne (ne_of_none h hD)]; exact h)
  · exact e.nz a u (by rw [upd_ne (ne_of_none h hD)]; exact h) (fun z => (List.mem_cons.mp z).elim (ne_of_none h hD) n) (List.mem_filter.mp m).1
  · obtain ⟨⟨w, q, _⟩, _⟩ := R.zsd a h
    exact List.mem_filter.mpr ⟨e.zk a (List.mem_cons_of_mem _ h), decide_eq_true (ne_of_none q hD)⟩
/-- the hidden list becomes a changeable thing -/
theorem promote_no {D a : Addr} (hD : D ∈ g.zs) (h : g.no a) : ((g.bare D).push D).no a :=
  ⟨Gh.push_out h.1 (fun e => h.2 (by rw [e]; exact hD)), fun m => h.2 (List.mem_filter.mp m).1⟩
theorem RS.promote (R : RS K C g s H) {D : Addr} {ho : HO} {o : O} (hD : D ∈ g.zs) (hH : H D = some ho) (hc : chg ho) (ro : RO K C ((g.bare D).push D) H D o) : RS K C ((g.bare D).push D) (s ++ [o]) H := by
  have oD : g.out D := (R.zsd D hD).2
  have lenS := R.len
  have e0 : (g.bare D).al = g.al := rfl
  have sub : ∀ {us : List U} {vs : List V}, RelUs K g H us vs → RelUs K ((g.bare D).push D) H us vs := fun r => r.sub (fun _ h => promote_no hD h) fun _ _ h => Gh.push_old h
  refine ⟨by show (g.al ++ [some D]).length = _; simp [lenS], fun n u h => ?_, fun n u a h1 h2 => ?_, fun n m a h1 h2 => ?_, fun n a h => ?_, fun a h => ⟨?_, ?_⟩⟩
  · by_cases hn : n < s.length
    · rw [List.getElem?_append_left hn] at h
      obtain ⟨a, q⟩ := R.there n u h
      exact ⟨a, Gh.push_old q⟩
    · have hn2 : n < (s ++ [o]).length := (List.getElem?_eq_some_iff.mp h).1
      have : n = (g.bare D).al.length := by simp at hn2; rw [e0]; omega
      subst this
      exact ⟨D, Gh.push_last⟩
  · rcases Gh.push_cases h2 with z | ⟨z1, z2⟩
    · have hn : n < s.length := by rw [← lenS]; exact (List.getElem?_eq_some_iff.mp z).1
      rw [List.getElem?_append_left hn] at h1
      exact (R.at_ n u a h1 z).map rfl sub fun _ _ n h => ⟨h, promote_no hD n⟩
    · subst z1; subst z2
      rw [e0, lenS] at h1
      simp at h1
      subst h1
      exact ro
  · rcases Gh.push_cases h1 with z | ⟨z1, z2⟩ <;> rcases Gh.push_cases h2 with y | ⟨y1, y2⟩
    · exact R.inj n m a z y
    · subst y2
      exact absurd z (oD n)
    · subst z2
      exact absurd y (oD m)
    · omega
  · rcases Gh.push_cases h with z | ⟨z1, z2⟩
    · exact R.kind n a z
    · subst z2
      exact ⟨ho, hH, .inl hc⟩
  · exact (R.zsd a (List.mem_filter.mp h).1).1
  · exact Gh.push_out (R.zsd a (List.mem_filter.mp h).1).2 (of_decide_eq_true (List.mem_filter.mp h).2)
end

def RSt (K : PySem.W.Frag) (g : Gh) (H : Hp) (su : SU) (σ : L2.St) : Prop :=
  su.length = σ.length ∧ ∀ (i : Nat) u, su[i]? = some (some u) → ∃ v, σ[i]? = some (some v) ∧ RelU K g H u v
theorem RSt.ext {K : PySem.W.Frag} {g g' : Gh} {H H' : Hp} {su : SU} {σ : L2.St} (r : RSt K g H su σ) (e : Ext g H g' H') : RSt K g' H' su σ :=
  ⟨r.1, fun i u h => let ⟨v, h1, h2⟩ := r.2 i u h; ⟨v, h1, h2.ext e⟩⟩
theorem RSt.set {K : PySem.W.Frag} {g : Gh} {H : Hp} {su : SU} {σ : L2.St} {u : U} {v : V} (r : RSt K g H su σ) (i : Nat) (h : RelU K g H u v) : RSt K g H (su.set i (some u)) (σ.set i (some v)) := by
  refine ⟨by simp [r.1], fun j w q => ?_⟩
  by_cases hj : i = j
  · subst hj
    by_cases hi : i < su.length
    · rw [List.getElem?_set_self hi] at q
      cases q
      exact ⟨v, by rw [List.getElem?_set_self (by rw [← r.1]; exact hi)], h⟩
    · rw [List.getElem?_eq_none (by simpa using hi)] at q
      cases q
  · rw [List.getElem?_set_ne hj] at q ⊢
    exact r.2 j w q
theorem RSt.unset {K : PySem.W.Frag} {g : Gh} {H : Hp} {su : SU} {σ : L2.St} (r : RSt K g H su σ) (i : Nat) : RSt K g H (su.set i none) (σ.set i none) := by
  refine ⟨by simp [r.1], fun j w q => ?_⟩
  by_cases hj : i = j
  · subst hj
    by_cases hi : i < su.length
    · rw [List.getElem?_set_self hi] at q
      cases q
    · rw [List.getElem?_eq_none (by simpa using hi)] at q
      cases q
  · rw [List.getElem?_set_ne hj] at q ⊢
    exact r.2 j w q
theorem RSt.wipe {K : PySem.W.Frag} {g : Gh} {H : Hp} {su : SU} {σ : L2.St} (r : RSt K g H su σ) : ∀ vs : List Nat, RSt K g H (Pv.wipe su vs) (L2.wipe σ vs)
  | [] => r
  | v :: vs => (RSt.wipe r vs).unset v

/-! ### outcomes -/
/-- what is wanted of an outcome -/
def Pst {α β : Type} (K : PySem.W.Frag) (C : Nat → Addr) (R : Gh → Hp → α → β → Prop) (W : Value → Hp → Prop) (g : Gh) (H : Hp) (r : Rv α) (Q : β → Hp → Prop) : Prop :=
  match r with
  | .ok a s => ∀ g' H' b, RS K C g' s H' → Ext g H g' H' → R g' H' a b → Q b H'
  | .ex c s => ∀ g' H', RS K C g' s H' → Ext g H g' H' → W (.ref (C c)) H'
  | .no => False
section
variable {α β γ δ : Type} {K : PySem.W.Frag} {C : Nat → Addr} {R : Gh → Hp → α → β → Prop} {S : Gh → Hp → γ → δ → Prop} {W : Value → Hp → Prop} {g g1 : Gh} {H H1 : Hp}
theorem Pst.ext {r : Rv α} {Q : β → Hp → Prop} (e : Ext g H g1 H1) (p : Pst K C R W g H r Q) : Pst K C R W g1 H1 r Q := by
  cases r with
  | ok a s => exact fun g' H' b rs e' r => p g' H' b rs (e.trans e') r
  | ex c s => exact fun g' H' rs e' => p g' H' rs (e.trans e')
  | no => exact p
theorem Pst.mono {r : Rv α} {Q Q' : β → Hp → Prop} (h : ∀ b H', Q b H' → Q' b H') (p : Pst K C R W g H r Q) : Pst K C R W g H r Q' := by
  cases r with
  | ok a s => exact fun g' H' b rs e' r => h _ _ (p g' H' b rs e' r)
  | ex c s => exact p
  | no => exact p
theorem Pst.bind {r : Rv α} {f : α → MS → Rv γ} {Q : δ → Hp → Prop} (p : Pst K C S W g H (r.bind f) Q) :
    Pst K C R W g H r (fun b H' => ∃ g' s' a, RS K C g' s' H' ∧ Ext g H g' H' ∧ R g' H' a b ∧ Pst K C S W g' H' (f a s') Q) := by
  cases r with
  | ok a s => exact fun g' H' b rs e r => ⟨g', s, a, rs, e, r, Pst.ext e p⟩
  | ex c s => exact p
  | no => exact p
theorem Pst.ok_ {a : α} {b : β} {s : MS} {Q : β → Hp → Prop} (p : Pst K C R W g H (.ok a s) Q) {g' : Gh} {H' : Hp} (rs : RS K C g' s H') (e : Ext g H g' H') (r : R g' H' a b) : Q b H' := p g' H' b rs e r
theorem Pst.of_ {o : Option α} {s : MS} {Q : β → Hp → Prop} (p : Pst K C R W g H (Rv.of o s) Q) : ∃ a, o = some a ∧ Pst K C R W g H (.ok a s) Q := by
  cases o with
  | none => exact p.elim
  | some a => exact ⟨a, rfl, p⟩
end
end Pv
set_option autoImplicit false
set_option Elab.async false
set_option linter.all false
set_option maxRecDepth 100000
set_option maxHeartbeats 1000000
namespace Pv
open PySem PySem.Spec PyProof.Rows L2

/-! ### data -/
mutual
def toD : U → PyData
  | .non => .none
  | .bl b => .bool b
  | .int i => .int i
  | .str x => .str x
  | .tup xs => .tuple (toDs xs)
  | .lst xs => .list (toDs xs)
  | _ => .none
def toDs : List U → List PyData
  | [] => []
  | x :: xs => toD x :: toDs xs
end
theorem toDs_map : ∀ xs : List U, toDs xs = xs.map toD
  | [] => rfl
  | x :: xs => by rw [toDs, toDs_map xs, List.map_cons]
mutual
theorem toD_lay : ∀ u : U, plain u = true → (toD u).canLay0 = true
  | .non, _ => by simp [toD, PyData.canLay0]
  | .bl _, _ => by simp [toD, PyData.canLay0]
  | .int _, _ => by simp [toD, PyData.canLay0]
  | .str x, h => by
    simp only [plain] at h
    simp only [toD, PyData.canLay0]
    exact h
  | .tup xs, h => by
    simp only [plain] at h
    simp only [toD, PyData.canLay0]
    exact toDs_lay xs h
  | .lst xs, h => by
    simp only [plain] at h
    simp only [toD, PyData.canLay0]
    exact toDs_lay xs h
  | .dK _ _, h => by simp [plain] at h
  | .dT _ _, h => by simp [plain] at h
  | .scr _, h => by simp [plain] at h
  | .ktp _, h => by simp [plain] at h
  | .obj _, h => by simp [plain] at h
theorem toDs_lay : ∀ us : List U, plains us = true → PyData.canLayAll0 (toDs us) = true
  | [], _ => by simp [toDs, PyData.canLayAll0]
  | x :: xs, h => by
    simp only [plains, Bool.and_eq_true] at h
    simp only [toDs, PyData.canLayAll0, Bool.and_eq_true]
    exact ⟨toD_lay x h.1, toDs_lay xs h.2⟩
end
mutual
theorem toD_dep : ∀ u : U, (toD u).depth = dep u
  | .non => by simp [toD, PyData.depth, dep]
  | .bl _ => by simp [toD, PyData.depth, dep]
  | .int _ => by simp [toD, PyData.depth, dep]
  | .str x => by simp [toD, PyData.depth, dep]
  | .tup xs => by simp only [toD, PyData.depth, dep, toDs_dep xs]
  | .lst xs => by simp only [toD, PyData.depth, dep, toDs_dep xs]
  | .dK _ _ => by simp [toD, PyData.depth, dep]
  | .dT _ _ => by simp [toD, PyData.depth, dep]
  | .scr _ => by simp [toD, PyData.depth, dep]
  | .ktp _ => by simp [toD, PyData.depth, dep]
  | .obj _ => by simp [toD, PyData.depth, dep]
theorem toDs_dep : ∀ us : List U, PyData.depthAll (toDs us) = deps us
  | [] => by simp [toDs, PyData.depthAll, deps]
  | x :: xs => by simp only [toDs, PyData.depthAll, deps, toD_dep x, toDs_dep xs]
end
theorem toD_shaped {u : U} (h : dat u = true) : SeqAt.shaped (toD u) = true := by
  simp only [dat, Bool.and_eq_true, decide_eq_true_eq] at h
  show ((toD u).canLay0 && decide ((toD u).depth ≤ 64)) = true
  rw [Bool.and_eq_true]
  exact ⟨toD_lay u h.1, decide_eq_true (by rw [toD_dep]; omega)⟩
theorem toDs_shapedL {us : List U} (h : dats us = true) : SeqAt.shaped (.list (toDs us)) = true := by
  simp only [dats, Bool.and_eq_true, decide_eq_true_eq] at h
  show (PyData.canLay0 (.list (toDs us)) && decide (PyData.depth (.list (toDs us)) ≤ 64)) = true
  rw [Bool.and_eq_true]
  refine ⟨by simp only [PyData.canLay0]; exact toDs_lay us h.1, decide_eq_true ?_⟩
  simp only [PyData.depth, toDs_dep]
  omega
theorem toDs_shapedT {us : List U} (h : dats us = true) : SeqAt.shaped (.tuple (toDs us)) = true := by
  simp only [dats, Bool.and_eq_true, decide_eq_true_eq] at h
  show (PyData.canLay0 (.tuple (toDs us)) && decide (PyData.depth (.tuple (toDs us)) ≤ 64)) = true
  rw [Bool.and_eq_true]
  refine ⟨by simp only [PyData.canLay0]; exact toDs_lay us h.1, decide_eq_true ?_⟩
  simp only [PyData.depth, toDs_dep]
  omega
mutual
theorem toD_eqv : ∀ u v : U, plain u = true → plain v = true → PyData.eqv (toD u) (toD v) = eqU u v
  | .non, v, _, hv => by cases v <;> simp_all [toD, PyData.eqv, eqU, plain]
  | .bl _, v, _, hv => by cases v <;> simp_all [toD, PyData.eqv, eqU, plain]
  | .int _, v, _, hv => by cases v <;> simp_all [toD, PyData.eqv, eqU, plain]
  | .str _, v, _, hv => by cases v <;> simp_all [toD, PyData.eqv, eqU, plain]
  | .tup xs, v, hu, hv => by
    cases v with
    | tup ys =>
      simp only [plain] at hu hv
      simp only [toD, PyData.eqv, eqU]
      exact toDs_eqv xs ys hu hv
    | _ => simp_all [toD, PyData.eqv, eqU, plain]
  | .lst xs, v, hu, hv => by
    cases v with
    | lst ys =>
      simp only [plain] at hu hv
      simp only [toD, PyData.eqv, eqU]
      exact toDs_eqv xs ys hu hv
    | _ => simp_all [toD, PyData.eqv, eqU, plain]
  | .dK _ _, _, h, _ => by simp [plain] at h
  | .dT _ _, _, h, _ => by simp [plain] at h
  | .scr _, _, h, _ => by simp [plain] at h
  | .ktp _, _, h, _ => by simp [plain] at h
  | .obj _, _, h, _ => by simp [plain] at h
theorem toDs_eqv : ∀ us vs : List U, plains us = true → plains vs = true → PyData.eqvAll (toDs us) (toDs vs) = eqUs us vs
  | [], vs, _, _ => by cases vs <;> simp [toDs, PyData.eqvAll, eqUs]
  | x :: xs, vs, hu, hv => by
    cases vs with
    | nil => simp [toDs, PyData.eqvAll, eqUs]
    | cons y ys =>
      simp only [plains, Bool.and_eq_true] at hu hv
      simp only [toDs, PyData.eqvAll, eqUs, toD_eqv x y hu.1 hv.1, toDs_eqv xs ys hu.2 hv.2]
end
section
variable {K : PySem.W.Frag} {C : Nat → Addr} {g : Gh} {s : MS} {H : Hp}
mutual
theorem RelU.dp : ∀ {u : U} {v : V}, RelU K g H u v → plain u = true → Dp K H v (toD u)
  | _, _, .non, _ => by rw [toD]; exact .non
  | _, _, .bl b, _ => by rw [toD]; exact .bl b
  | _, _, .int i, _ => by rw [toD]; exact .int i
  | _, _, .str x, _ => by rw [toD]; exact .str x
  | _, _, .tup h n z r, p => by
    rw [toD]
    exact .tup h.sq (RelUs.dp r (by simpa only [plain] using p))
  | _, _, .lst h n z r, p => by
    rw [toD]
    exact .lst (SqL.of h) (RelUs.dp r (by simpa only [plain] using p))
  | _, _, .dK _ _ _ _ _, p => by simp [plain] at p
  | _, _, .dT _ _ _ _ _, p => by simp [plain] at p
  | _, _, .scr _ _, p => by simp [plain] at p
  | _, _, .ktp _ _ _, p => by simp [plain] at p
  | _, _, .obj _, p => by simp [plain] at p
theorem RelUs.dp : ∀ {us : List U} {vs : List V}, RelUs K g H us vs → plains us = true → DpAll K H vs (toDs us)
  | _, _, .nil, _ => by rw [toDs]; exact .nil
  | _, _, .cons h r, p => by
    simp only [plains, Bool.and_eq_true] at p
    rw [toDs]
    exact .cons (RelU.dp h p.1) (RelUs.dp r p.2)
end
/-- the list at u -/
theorem RS.lstOf (R : RS K C g s H) {u : U} {v : V} {us : List U} (r : RelU K g H u v) (h : Pv.lstOf s u = some us) : ∃ a vs, v = .ref a ∧ H a = some (.lst vs) ∧ us.length ≤ sizeLine ∧ RelUs K g H us vs := by
  cases r with
  | lst h1 h2 h3 h4 => simp only [Pv.lstOf] at h; cases h; exact ⟨_, _, rfl, h1, h3, h4⟩
  | @obj n a ha =>
    simp only [Pv.lstOf] at h
    split at h
    · rename_i xs e
      cases h
      obtain ⟨z, vs, q, r⟩ := R.at_ n _ a e ha
      exact ⟨a, vs, rfl, q, z, r⟩
    · cases h
  | _ => simp [Pv.lstOf] at h
theorem vals_ns : ∀ ns : List Int, RelUs K g H (ns.map U.int) (ns.map V.int)
  | [] => .nil
  | n :: ns => .cons (.int n) (vals_ns ns)
theorem RS.seqOf (R : RS K C g s H) {u : U} {v : V} {us : List U} (r : RelU K g H u v) (h : Pv.seqOf s u = some us) :
    ∃ a vs, v = .ref a ∧ (SqL K H a vs ∨ SqT K H a vs) ∧ us.length ≤ sizeLine ∧ RelUs K g H us vs := by
  cases r with
  | tup h1 h2 h3 h4 => simp only [Pv.seqOf] at h; cases h; exact ⟨_, _, rfl, .inr h1.sq, h3, h4⟩
  | ktp h1 h2 h3 => simp only [Pv.seqOf] at h; cases h; exact ⟨_, _, rfl, .inr (.inr h1), h2, h3⟩
  | @scr a ns z q =>
    simp only [Pv.seqOf] at h
    cases h
    refine ⟨_, ns.map V.int, rfl, .inl ?_, by simpa using z, vals_ns ns⟩
    rcases q with ⟨o, q, k, _⟩ | q
    · rcases k with rfl | ⟨od, rfl⟩
      · exact .inl (.inl q)
      · exact .inl (.inr ⟨od, q⟩)
    · exact q H
  | lst h1 h2 h3 h4 =>
    obtain ⟨a, vs, e, q, z, r⟩ := R.lstOf (.lst h1 h2 h3 h4) (us := us) (by simpa [Pv.seqOf] using h)
    exact ⟨a, vs, e, .inl (SqL.of q), z, r⟩
  | obj ha =>
    obtain ⟨a, vs, e, q, z, r⟩ := R.lstOf (.obj ha) (us := us) (by simpa [Pv.seqOf] using h)
    exact ⟨a, vs, e, .inl (SqL.of q), z, r⟩
  | _ => simp [Pv.seqOf, Pv.lstOf] at h
theorem RS.der (R : RS K C g s H) {u u' : U} {v : V} (r : RelU K g H u v) (h : Pv.der s u = some u') (p : plain u' = true) : Dp K H v (toD u') := by
  cases u with
  | obj n =>
    simp only [Pv.der] at h
    cases e : Pv.lstOf s (.obj n) with
    | none => rw [e] at h; cases h
    | some us =>
      rw [e] at h
      cases h
      obtain ⟨a, vs, e1, q, z, r'⟩ := R.lstOf r e
      subst e1
      rw [toD]
      exact .lst (SqL.of q) (r'.dp (by simpa only [plain] using p))
  | _ => simp only [Pv.der] at h; cases h; exact r.dp p
/-- a new tree -/
theorem tupNew {us : List U} {vs : List V} (R : RS K C g s H) {p : Addr} {o : Obj} (ho : o.dict = none) (hp : H p = none) (z : us.length ≤ sizeLine) (r : RelUs K g H us vs) : RelU K g (upd H p (tupO vs o)) (.tup us) (.ref p) :=
  .tup ⟨o, ho, upd_same⟩ (R.fresh hp) z (r.ext (Ext.new R hp))
theorem lstNew {us : List U} {vs : List V} (R : RS K C g s H) {p : Addr} (hp : H p = none) (z : us.length ≤ sizeLine) (r : RelUs K g H us vs) : RelU K g (upd H p (.lst vs)) (.lst us) (.ref p) :=
  .lst upd_same (R.fresh hp) z (r.ext (Ext.new R hp))
variable {W : Value → Hp → Prop} {Q : VK}
theorem Pst.mkL {m : Bool} {us : List U} {vs : List V} (p : Pst K C (RelU K) W g H (mkL m us s) Q) (R : RS K C g s H) (z : us.length ≤ sizeLine) (r : RelUs K g H us vs) (a : Addr) (ha : H a = none) : Q (.ref a) (upd H a (.lst vs)) := by
  cases m with
  | false => exact Pst.ok_ p (R.new ha) (Ext.new R ha) (lstNew R ha z r)
  | true =>
    have e : Ext g H (g.push a) (upd H a (.lst vs)) := Ext.newO R ha
    refine Pst.ok_ p (R.newO ha trivial ⟨z, vs, upd_same, r.ext e⟩) e (.obj ?_)
    rw [← R.len]
    exact Gh.push_last
theorem Pst.tup {us : List U} {vs : List V} (p : Pst K C (RelU K) W g H (.ok (.tup us) s) Q) (R : RS K C g s H) (z : us.length ≤ sizeLine) (r : RelUs K g H us vs) : NewT H vs Q := fun a _ ho ha =>
  Pst.ok_ p (R.new ha) (Ext.new R ha) (tupNew R ho ha z r)
theorem Pst.val {u : U} {v : V} (p : Pst K C (RelU K) W g H (.ok u s) Q) (R : RS K C g s H) (r : RelU K g H u v) : Q v H := Pst.ok_ p R (Ext.refl _ _) r
end
theorem line_eq : line = sizeLine := by rw [sizeLine_eq]; rfl

/-! ### two-place operations -/
def boOp : BO → Operator
  | .add => .Add | .sub => .Sub | .mul => .Mult | .fdiv => .FloorDiv | .mod => .Mod | .pow => .Pow
def coOp : CO → CmpOp
  | .eq => .Eq | .ne => .NotEq | .lt => .Lt | .le => .LtE | .gt => .Gt | .ge => .GtE | .isin => .In | .notin => .NotIn | .is => .Is | .isnot => .IsNot
/-- an operation's reading -/
def rB (K : PySem.W.Frag) (C : Nat → Addr) (W : Value → Hp → Prop) (op : U → U → MS → Rv U) : R2 := fun x y H Q =>
  ∃ g s u w, RS K C g s H ∧ RelU K g H u x ∧ RelU K g H w y ∧ Pst K C (RelU K) W g H (op u w s) Q
section
variable {X : Cx} {C : Nat → Addr} {W : Value → Hp → Prop}
theorem catU_L {K : PySem.W.Frag} {g : Gh} {s : MS} {H : Hp} {Q : VK} {m : Bool} {u w : U} {x y : V} (R : RS K C g s H) (ru : RelU K g H u x) (rw_ : RelU K g H w y)
    (h : Pst K C (RelU K) W g H (catL m (lstOf s u) (lstOf s w) s) Q) : rCat x y H Q := by
  unfold catL at h
  split at h
  · rename_i xs ys e1 e2
    split at h
    · rename_i hz
      obtain ⟨a, vs, rfl, h1, z1, r1⟩ := R.lstOf ru e1
      obtain ⟨b, ws, rfl, h2, z2, r2⟩ := R.lstOf rw_ e2
      rw [line_eq] at hz
      exact ⟨a, b, vs, ws, rfl, rfl, h1, h2, by rw [← r1.length, ← r2.length]; exact hz, fun p hp => Pst.mkL h R (by rw [List.length_append]; exact hz) (r1.append r2) p hp⟩
    · exact h.elim
  · exact h.elim
theorem op_add_ {m : Bool} : OpR X (binaryOp .Add) (rB X.K C W (catU m)) := by
  intro pins σt σ H x y v u Q I rx ry h
  obtain ⟨g, s, a, b, R, ra, rb, p⟩ := h
  have lists : rCat x y H Q → wpAny (model X.prog X.w) X.A (binaryOp .Add v u) (EP X pins σ Q) X.xe σt := fun q => op_cat pins σt σ H x y v u Q I rx ry q
  cases a with
  | int i =>
    cases b with
    | int j =>
      cases ra; cases rb
      exact op_add pins σt σ H _ _ v u Q I rx ry ⟨i, j, rfl, rfl, Pst.val p R (.int _)⟩
    | _ => simp [catU, catL, lstOf] at p; exact p.elim
  | str i =>
    cases b with
    | str j =>
      cases ra; cases rb
      simp only [catU] at p
      split at p
      · rename_i hz
        exact op_add_str pins σt σ H _ _ v u Q I rx ry ⟨i, j, rfl, rfl, by rw [← line_eq]; exact hz, Pst.val p R (.str _)⟩
      · exact p.elim
    | _ => simp [catU, catL, lstOf] at p; exact p.elim
  | tup xs =>
    cases b with
    | tup ys =>
      simp only [catU] at p
      split at p
      · rename_i hz
        rw [line_eq] at hz
        obtain ⟨a1, vs, h1, z1, r1⟩ : ∃ a1 vs, x = .ref a1 ∧ SqT X.K H a1 vs ∧ RelUs X.K g H xs vs := by cases ra with | tup h1 h2 h3 h4 => exact ⟨_, _, rfl, h1.sq, h4⟩
        obtain ⟨a2, ws, h2, z2, r2⟩ : ∃ a1 vs, y = .ref a1 ∧ SqT X.K H a1 vs ∧ RelUs X.K g H ys vs := by cases rb with | tup h1 h2 h3 h4 => exact ⟨_, _, rfl, h1.sq, h4⟩
        refine op_catN pins σt σ H x y v u Q I rx ry ⟨a1, a2, vs, ws, h1, h2, z1, z2, by rw [← r1.length, ← r2.length]; exact hz, fun e => ?_, fun _ e => ?_, fun _ _ => ?_⟩
        · subst e
          cases r1
          rw [← h2]
          exact Pst.val p R rb
        · subst e
          cases r2
          rw [← h1]
          rw [List.append_nil] at p
          exact Pst.val p R ra
        · exact Pst.tup p R (by rw [List.length_append]; exact hz) (r1.append r2)
      · exact p.elim
    | _ => simp [catU, catL, lstOf] at p; exact p.elim
  | lst xs => exact lists (catU_L R ra rb (by simpa only [catU] using p))
  | obj n => exact lists (catU_L R ra rb (by simpa only [catU] using p))
  | _ => simp [catU, catL, lstOf] at p; exact p.elim
theorem op_sub_ {m : Bool} : OpR X (binaryOp .Sub) (rB X.K C W (binU .sub m)) := by
  intro pins σt σ H x y v u Q I rx ry h
  obtain ⟨g, s, a, b, R, ra, rb, p⟩ := h
  simp only [binU] at p
  split at p
  · cases ra; cases rb
    exact op_sub pins σt σ H _ _ v u Q I rx ry ⟨_, _, rfl, rfl, Pst.val p R (.int _)⟩
  · exact p.elim
theorem RelUs.rep {K : PySem.W.Frag} {g : Gh} {H : Hp} {us : List U} {vs : List V} (h : RelUs K g H us vs) : ∀ k : Nat, RelUs K g H (List.replicate k us).flatten (List.replicate k vs).flatten
  | 0 => .nil
  | k + 1 => by
    rw [List.replicate_succ, List.replicate_succ, List.flatten_cons, List.flatten_cons]
    exact h.append (RelUs.rep h k)
theorem rep_len {α : Type} (xs : List α) : ∀ k : Nat, (List.replicate k xs).flatten.length = k * xs.length
  | 0 => by simp
  | k + 1 => by rw [List.replicate_succ, List.flatten_cons, List.length_append, rep_len xs k, Nat.succ_mul]; omega
theorem op_mul_ {m : Bool} : OpR X (binaryOp .Mult) (rB X.K C W (binU .mul m)) := by
  intro pins σt σ H x y v u Q I rx ry h
  obtain ⟨g, s, a, b, R, ra, rb, p⟩ := h
  simp only [binU] at p
  split at p
  · split at p
    · rename_i hz
      cases ra; cases rb
      exact op_mul pins σt σ H _ _ v u Q I rx ry ⟨_, _, rfl, rfl, hz, Pst.val p R (.int _)⟩
    · exact p.elim
  · split at p
    · rename_i xs j hz
      obtain ⟨a1, vs, h1, z1, r1⟩ : ∃ a1 vs, x = .ref a1 ∧ SqT X.K H a1 vs ∧ RelUs X.K g H xs vs := by cases ra with | tup h1 h2 h3 h4 => exact ⟨_, _, rfl, h1.sq, h4⟩
      cases rb
      have hne : vs ≠ [] := fun e => by
        subst e
        cases r1
        exact hz.2.2.2 rfl
      have zl : ((List.replicate j.toNat xs).flatten).length ≤ sizeLine := by
        rw [rep_len, sizeLine_eq]
        have h1 : j.toNat ≤ 1000 := by omega
        have h2 := hz.2.2.1
        exact Nat.le_trans (Nat.mul_le_mul h1 h2) (by decide)
      refine op_repN pins σt σ H x _ v u Q I rx ry ⟨a1, j, vs, h1, rfl, z1, hne, hz.1, hz.2.1, by rw [← r1.length]; exact hz.2.2.1, fun j1 => ?_, fun _ => Pst.tup p R zl (r1.rep _)⟩
      subst j1
      have e : (List.replicate (1 : Int).toNat xs).flatten = xs := by
        show (List.replicate 1 xs).flatten = xs
        simp
      rw [e] at p
      rw [← h1]
      exact Pst.ok_ p R (Ext.refl g H) ra
    · exact p.elim
  · exact p.elim
theorem op_fdiv_ {m : Bool} : OpR X (binaryOp .FloorDiv) (rB X.K C W (binU .fdiv m)) := by
  intro pins σt σ H x y v u Q I rx ry h
  obtain ⟨g, s, a, b, R, ra, rb, p⟩ := h
  simp only [binU] at p
  split at p
  · split at p
    · rename_i hz
      cases ra; cases rb
      exact op_fdiv pins σt σ H _ _ v u Q I rx ry ⟨_, _, rfl, rfl, hz, Pst.val p R (.int _)⟩
    · exact p.elim
  · exact p.elim
theorem op_mod_ {m : Bool} : OpR X (binaryOp .Mod) (rB X.K C W (binU .mod m)) := by
  intro pins σt σ H x y v u Q I rx ry h
  obtain ⟨g, s, a, b, R, ra, rb, p⟩ := h
  simp only [binU] at p
  split at p
  · split at p
    · rename_i hz
      cases ra; cases rb
      exact op_mod pins σt σ H _ _ v u Q I rx ry ⟨_, _, rfl, rfl, hz, Pst.val p R (.int _)⟩
    · exact p.elim
  · exact p.elim
theorem op_pow_ {m : Bool} : OpR X (binaryOp .Pow) (rB X.K C W (binU .pow m)) := by
  intro pins σt σ H x y v u Q I rx ry h
  obtain ⟨g, s, a, b, R, ra, rb, p⟩ := h
  simp only [binU] at p
  split at p
  · split at p
    · rename_i hz
      cases ra; cases rb
      exact op_pow pins σt σ H _ _ v u Q I rx ry ⟨_, _, rfl, rfl, hz, Pst.val p R (.int _)⟩
    · exact p.elim
  · exact p.elim
end
end Pv
set_option autoImplicit false
set_option Elab.async false
set_option linter.all false
set_option maxRecDepth 100000
namespace Pv
open PySem PySem.SeqAt
open AutoSeq1 (wpAny_loadPart')
open MeetsSeq MeetsSeq2 MeetsSeq3 SeqRoads2
section
variable {prog : Program} {w : World}
/-- a list compared with an empty one -/
theorem eqE_in (l b : Addr) (its : Array Value) (n n2 : Nat) (dd dd2 : Option Addr) (sl sl2 : Array (Option Value)) (hz : its.size ≠ 0) :
    MeetsIn prog w (Builtin.«list.__eq__» ⟨[.ref l, .ref b], []⟩)
      (fun A R s => s.heap.get? l = some { cls := .type "list", dict := dd, data := .seq its n, slots := sl } ∧ s.heap.get? b = some { cls := .type "list", dict := dd2, data := .seq #[] n2, slots := sl2 } ∧ R (.ok (.ret (.bool false))) s) := by
  intro A R s q
  obtain ⟨hp, g, d, tk, os⟩ := s
  obtain ⟨h1, h2, q⟩ := q
  have f3 := AutoSeq1.sub_list_list
  have hne : (its.size != (#[] : Array Value).size) = true := by simpa using hz
  wp_walk using wpAny_loadPart' h1, wpAny_loadPart' h2
  exact q
theorem rcE_lists {A : Around} {s : Shared} {l b : Addr} {its : Array Value} (hl : s.heap.IsList l its) (hb : s.heap.IsList b #[]) (hu : A.units < cLine) (E Q : Value → Shared → Prop) (h : Q (.bool its.isEmpty) s) : wpAny (model prog w) A (richCompare .Eq (.ref l) (.ref b)) Q E s := by
  by_cases hz : its.size = 0
  · have e : its = #[] := Array.eq_empty_of_size_eq_zero hz
    subst e
    refine rcP_lists (e := fun _ => true) hl hb rfl hu (fun j h1 _ => by simp at h1) E Q ?_
    exact h
  · obtain ⟨⟨cls, dd, data, sl⟩, ho, hc, n, hd⟩ := id hl
    obtain ⟨⟨cls2, dd2, data2, sl2⟩, ho2, hc2, n2, hd2⟩ := id hb
    simp only at hc hd hc2 hd2
    subst hc hd hc2 hd2
    have ta : s.TypeIs (.ref l) "list" := ⟨_, ho, rfl⟩
    have tb : s.TypeIs (.ref b) "list" := ⟨_, ho2, rfl⟩
    have he : its.isEmpty = false := by
      rw [Array.isEmpty_eq_false_iff]
      exact fun e => hz (by rw [e]; rfl)
    rw [he] at h
    exact wpAny_richCompare_same_room (op := .Eq) ta tb F.slot_list_eq (call_meetsIn F.slot_list_eq ta F.entry_list_eq (F.args_list_eq_2 _ _) (eqE_in l b its n n2 dd dd2 sl sl2 hz)
      ⟨ho, ho2, show Value.bool false ≠ Value.notImplemented ∧ Q (.bool false) s from ⟨(fun x => nomatch x), h⟩⟩) hu
end
end Pv
set_option autoImplicit false
set_option Elab.async false
set_option linter.all false
set_option maxRecDepth 100000
set_option maxHeartbeats 1000000
namespace Pv
open PySem PySem.Spec PyProof.Rows L2

section
variable {K : PySem.W.Frag} {C : Nat → Addr} {g : Gh} {s : MS} {H : Hp}
/-! ### dicts -/
variable {κ : Type} [DecidableEq κ]
theorem look_rel (k : κ) : ∀ {kvs : List (κ × U)} {vs : List V}, RelUs K g H (kvs.map (·.2)) vs →
    (lookA k kvs = none ∧ valV ((kvs.map (·.1)).zip vs) k = none) ∨ ∃ u v, lookA k kvs = some u ∧ valV ((kvs.map (·.1)).zip vs) k = some v ∧ RelU K g H u v
  | [], _, .nil => .inl ⟨rfl, rfl⟩
  | (l, u) :: r, _, .cons (v := v) (vs := vs) h t => by
    by_cases e : l = k
    · exact .inr ⟨u, v, by simp [lookA, List.find?_cons, e], by simp [valV, List.find?_cons, e], h⟩
    · rcases look_rel k t with ⟨h1, h2⟩ | ⟨u', v', h1, h2, h3⟩
      · refine .inl ⟨?_, ?_⟩
        · simpa [lookA, List.find?_cons, e] using h1
        · simpa [valV, List.find?_cons, e] using h2
      · refine .inr ⟨u', v', ?_, ?_, h3⟩
        · simpa [lookA, List.find?_cons, e] using h1
        · simpa [valV, List.find?_cons, e] using h2
theorem any_rel (k : κ) : ∀ {kvs : List (κ × U)} {vs : List V}, RelUs K g H (kvs.map (·.2)) vs → (((kvs.map (·.1)).zip vs).any fun p => decide (p.1 = k)) = kvs.any fun p => decide (p.1 = k)
  | [], _, .nil => rfl
  | (l, u) :: r, _, .cons (v := v) (vs := vs) h t => by
    simp only [List.map_cons, List.zip_cons_cons, List.any_cons]
    rw [any_rel k t]
theorem repl_rel (k : κ) {u : U} {v : V} (h : RelU K g H u v) : ∀ {kvs : List (κ × U)} {vs : List V}, RelUs K g H (kvs.map (·.2)) vs →
    ∃ vs', (((kvs.map (·.1)).zip vs).map fun p => if p.1 = k then (p.1, v) else p) = ((kvs.map fun p => if p.1 = k then (p.1, u) else p).map (·.1)).zip vs' ∧ RelUs K g H ((kvs.map fun p => if p.1 = k then (p.1, u) else p).map (·.2)) vs'
  | [], _, .nil => ⟨[], rfl, .nil⟩
  | (l, w) :: r, _, .cons (v := x) (vs := vs) h1 t => by
    obtain ⟨vs', e1, e2⟩ := repl_rel k h t
    by_cases e : l = k
    · refine ⟨v :: vs', ?_, ?_⟩
      · simp only [List.map_cons, List.zip_cons_cons, if_pos e, e1]
      · simp only [List.map_cons, if_pos e]
        exact .cons h e2
    · refine ⟨x :: vs', ?_, ?_⟩
      · simp only [List.map_cons, List.zip_cons_cons, if_neg e, e1]
      · simp only [List.map_cons, if_neg e]
        exact .cons h1 e2
theorem put_rel (k : κ) {u : U} {v : V} (h : RelU K g H u v) {kvs : List (κ × U)} {vs : List V} (r : RelUs K g H (kvs.map (·.2)) vs) :
    ∃ vs', putK ((kvs.map (·.1)).zip vs) k v = ((putA k u kvs).map (·.1)).zip vs' ∧ RelUs K g H ((putA k u kvs).map (·.2)) vs' := by
  unfold putK putA
  rw [any_rel k r]
  split
  · exact repl_rel k h r
  · refine ⟨vs ++ [v], ?_, ?_⟩
    · rw [List.map_append, List.zip_append (by simpa using r.length)]
      rfl
    · rw [List.map_append]
      exact r.append (.cons h .nil)
theorem putA_len (k : κ) (u : U) (kvs : List (κ × U)) : (putA k u kvs).length ≤ kvs.length + 1 := by
  unfold putA
  split <;> simp
/-- the dict at u, keys ints and texts -/
theorem RS.dKOf (R : RS K C g s H) {u : U} {v : V} {kvs : List (Key × U)} (r : RelU K g H u v) (h : Pv.dKOf s u = some kvs) :
    ∃ a vs, v = .ref a ∧ Rd H a (.dK ((kvs.map (·.1)).zip vs)) ∧ kvs.length ≤ sizeLine ∧ RelUs K g H (kvs.map (·.2)) vs := by
  cases r with
  | @dK a ks us vs h1 h2 h3 h4 h5 =>
    simp only [Pv.dKOf] at h
    cases h
    refine ⟨a, vs, rfl, ?_, ?_, ?_⟩
    · rw [List.map_fst_zip (by omega)]; exact h1
    · simp; omega
    · rw [List.map_snd_zip (by omega)]; exact h5
  | @obj n a ha =>
    simp only [Pv.dKOf] at h
    split at h
    · rename_i xs e
      cases h
      obtain ⟨z, vs, q, r⟩ := R.at_ n _ a e ha
      exact ⟨a, vs, rfl, .inl q, z, r⟩
    · cases h
  | _ => simp [Pv.dKOf] at h
theorem RS.dTOf (R : RS K C g s H) {u : U} {v : V} {kvs : List (List Key × U)} (r : RelU K g H u v) (h : Pv.dTOf s u = some kvs) :
    ∃ a vs, v = .ref a ∧ Rd H a (.dT ((kvs.map (·.1)).zip vs)) ∧ kvs.length ≤ sizeLine ∧ RelUs K g H (kvs.map (·.2)) vs := by
  cases r with
  | @dT a ks us vs h1 h2 h3 h4 h5 =>
    simp only [Pv.dTOf] at h
    cases h
    refine ⟨a, vs, rfl, ?_, ?_, ?_⟩
    · rw [List.map_fst_zip (by omega)]; exact h1
    · simp; omega
    · rw [List.map_snd_zip (by omega)]; exact h5
  | @obj n a ha =>
    simp only [Pv.dTOf] at h
    split at h
    · rename_i xs e
      cases h
      obtain ⟨z, vs, q, r⟩ := R.at_ n _ a e ha
      exact ⟨a, vs, rfl, .inl q, z, r⟩
    · cases h
  | _ => simp [Pv.dTOf] at h
theorem key_rel {u : U} {v : V} {k : Key} (r : RelU K g H u v) (h : keyOf u = some k) : v = kV k := by
  cases r <;> simp only [keyOf] at h <;> first | (cases h; rfl) | cases h
theorem keys_rel : ∀ {us : List U} {vs : List V} {ks : List Key}, RelUs K g H us vs → keysOf us = some ks → vs = ks.map kV
  | [], _, _, .nil, h => by simp only [keysOf] at h; cases h; rfl
  | x :: xs, _, _, .cons r t, h => by
    simp only [keysOf] at h
    split at h
    · rename_i k ks e1 e2
      cases h
      rw [key_rel r e1, keys_rel t e2]
      rfl
    · cases h
theorem strK_V : ∀ k : List Key, (k.map kV).all isStrV = k.all isStrK
  | [] => rfl
  | .inl _ :: _ => rfl
  | .inr _ :: k => by simp only [List.map_cons, List.all_cons, strK_V k]; rfl
theorem dictish_keys {k : List Key} (h : k.length = keyLen) (hs : k.all isStrK = false) : dictish (k.map kV) = false := by
  cases k with
  | nil => cases h
  | cons x xs =>
    unfold dictish
    rw [List.length_map, decide_eq_false (fun q => q h), Bool.or_false, strK_V, hs, Bool.or_false]
    cases x <;> rfl
theorem keysOf_len : ∀ {xs : List U} {k : List Key}, keysOf xs = some k → k.length = xs.length
  | [], k, h => by simp only [keysOf] at h; cases h; rfl
  | x :: xs, k, h => by
    simp only [keysOf] at h
    split at h
    · rename_i kk ks e1 e2
      cases h
      rw [List.length_cons, List.length_cons, keysOf_len e2]
    · cases h
theorem tkey_rel {u : U} {v : V} {k : List Key} (r : RelU K g H u v) (h : tkeyOf u = some k) : ∃ b, v = .ref b ∧ H b = some (.tup (k.map kV)) := by
  cases r with
  | @tup a us vs h1 h2 h3 h4 =>
    cases us with
    | nil => simp [tkeyOf] at h
    | cons x xs =>
      simp only [tkeyOf] at h
      split at h
      · rename_i hl
        obtain ⟨k2, h, h9⟩ := Option.bind_eq_some_iff.mp h
        split at h9
        · cases h9
        · rename_i hs
          cases h9
          have hk : k.length = keyLen := by rw [keysOf_len h]; exact hl
          rw [keys_rel h4 h] at h1
          exact ⟨_, rfl, h1.keys (dictish_keys hk (by simpa using hs))⟩
      · cases h
  | _ => simp [tkeyOf] at h
/-- a look-up by key in a dict of either make -/
theorem dget_k (R : RS K C g s H) {u i : U} {v y : V} {kvs : List (Key × U)} {k : Key} (r : RelU K g H u v) (ri : RelU K g H i y) (h : Pv.dKOf s u = some kvs) (hk : keyOf i = some k) :
    ∃ a o, v = .ref a ∧ DGet H a y o ∧ ((lookA k kvs = none ∧ o = none) ∨ ∃ w x, lookA k kvs = some w ∧ o = some x ∧ RelU K g H w x) := by
  obtain ⟨a, vs, e, q, z, rr⟩ := R.dKOf r h
  refine ⟨a, _, e, by rw [key_rel ri hk]; exact .inl ⟨_, _, q, rfl, rfl⟩, ?_⟩
  rcases look_rel k rr with ⟨h1, h2⟩ | ⟨w, x, h1, h2, h3⟩
  · exact .inl ⟨h1, h2⟩
  · exact .inr ⟨w, x, h1, h2, h3⟩
theorem dget_t (R : RS K C g s H) {u i : U} {v y : V} {kvs : List (List Key × U)} {k : List Key} (r : RelU K g H u v) (ri : RelU K g H i y) (h : Pv.dTOf s u = some kvs) (hk : tkeyOf i = some k) :
    ∃ a o, v = .ref a ∧ DGet H a y o ∧ ((lookA k kvs = none ∧ o = none) ∨ ∃ w x, lookA k kvs = some w ∧ o = some x ∧ RelU K g H w x) := by
  obtain ⟨a, vs, e, q, z, rr⟩ := R.dTOf r h
  obtain ⟨b, e2, q2⟩ := tkey_rel ri hk
  subst e2
  refine ⟨a, _, e, .inr ⟨_, _, b, q, rfl, q2, rfl⟩, ?_⟩
  rcases look_rel k rr with ⟨h1, h2⟩ | ⟨w, x, h1, h2, h3⟩
  · exact .inl ⟨h1, h2⟩
  · exact .inr ⟨w, x, h1, h2, h3⟩
end

/-! ### comparisons -/
section
variable {X : Cx} {C : Nat → Addr} {W : Value → Hp → Prop}
abbrev cmpR (o : CO) : U → U → MS → Rv U := fun u w s => Rv.of ((cmpU o u w s).map .bl) s
theorem cmp_of {K : PySem.W.Frag} {g : Gh} {s : MS} {H : Hp} {Q : VK} {o : Option Bool} (R : RS K C g s H) (p : Pst K C (RelU K) W g H (Rv.of (o.map U.bl) s) Q) : ∃ b, o = some b ∧ Q (.bl b) H := by
  obtain ⟨a, e, p⟩ := p.of_
  cases o with
  | none => cases e
  | some b =>
    cases e
    exact ⟨b, rfl, Pst.val p R (.bl b)⟩
theorem dat_plain {u : U} (h : dat u = true) : plain u = true := by
  simp only [dat, Bool.and_eq_true] at h
  exact h.1
theorem op_eq_ (hu : X.A.units + 64 < cLine) : OpR X (compareOp .Eq) (rB X.K C W (cmpR .eq)) := by
  intro pins σt σ H x y v u Q I rx ry h
  obtain ⟨g, s, a, b, R, ra, rb, p⟩ := h
  obtain ⟨k, e, q⟩ := cmp_of R p
  simp only [cmpU] at e
  split at e
  · rename_i a' b' e1 e2
    split at e
    · rename_i hd
      rw [Bool.and_eq_true] at hd
      cases e
      refine op_eqD hu pins σt σ H x y v u Q I rx ry ⟨toD a', toD b', R.der ra e1 (dat_plain hd.1), R.der rb e2 (dat_plain hd.2), toD_shaped hd.1, toD_shaped hd.2, ?_⟩
      rw [toD_eqv _ _ (dat_plain hd.1) (dat_plain hd.2)]
      exact q
    · unfold eqE at e
      split at e
      · rename_i xs h1 h2
        cases e
        obtain ⟨l, vs, rfl, hl, _, rr⟩ := R.lstOf ra h1
        obtain ⟨l2, vs2, rfl, hl2, _, rr2⟩ := R.lstOf rb h2
        cases rr2
        cases rx
        cases ry
        obtain ⟨its, rv, pl, _⟩ := I.list (.inl (.inl hl))
        obtain ⟨its2, rv2, pl2, _⟩ := I.list (.inl (.inl hl2))
        cases rv2
        have e3 : xs.isEmpty = its.toArray.isEmpty := by
          have e4 := rr.length
          have e5 := rv.length
          cases xs with
          | nil =>
            have : its = [] := List.length_eq_zero_iff.mp (by rw [← e5, ← e4]; rfl)
            rw [this]
            rfl
          | cons x xs =>
            cases its with
            | nil => rw [← e4] at e5; simp at e5
            | cons y ys => rfl
        rw [e3] at q
        exact rcE_lists pl.isList pl2.isList (by omega) _ _ ⟨.bl _, H, I, rfl, q⟩
      · cases e
  · cases e
theorem op_ne_ (hu : X.A.units + 64 < cLine) : OpR X (compareOp .NotEq) (rB X.K C W (cmpR .ne)) := by
  intro pins σt σ H x y v u Q I rx ry h
  obtain ⟨g, s, a, b, R, ra, rb, p⟩ := h
  obtain ⟨k, e, q⟩ := cmp_of R p
  simp only [cmpU] at e
  split at e
  · rename_i a' b' e1 e2
    split at e
    · rename_i hd
      rw [Bool.and_eq_true] at hd
      cases e
      refine op_neD hu pins σt σ H x y v u Q I rx ry ⟨toD a', toD b', R.der ra e1 (dat_plain hd.1), R.der rb e2 (dat_plain hd.2), toD_shaped hd.1, toD_shaped hd.2, ?_⟩
      rw [toD_eqv _ _ (dat_plain hd.1) (dat_plain hd.2)]
      exact q
    · cases e
  · cases e
theorem ints_rel {K : PySem.W.Frag} {g : Gh} {H : Hp} : ∀ {us : List U} {vs : List V} {ns : List Int}, RelUs K g H us vs → intsOf us = some ns → vs = ns.map V.int
  | [], _, _, .nil, h => by simp only [intsOf] at h; cases h; rfl
  | x :: xs, _, _, .cons r t, h => by
    cases r with
    | int i =>
      simp only [intsOf] at h
      cases e : intsOf xs with
      | none => rw [e] at h; cases h
      | some ms =>
        rw [e] at h
        cases h
        rw [ints_rel t e]
        rfl
    | _ => simp [intsOf] at h
theorem strs_rel {K : PySem.W.Frag} {g : Gh} {H : Hp} : ∀ {us : List U} {vs : List V} {ns : List Str}, RelUs K g H us vs → strsOf us = some ns → vs = ns.map V.str
  | [], _, _, .nil, h => by simp only [strsOf] at h; cases h; rfl
  | x :: xs, _, _, .cons r t, h => by
    cases r with
    | str i =>
      simp only [strsOf] at h
      cases e : strsOf xs with
      | none => rw [e] at h; cases h
      | some ms =>
        rw [e] at h
        cases h
        rw [strs_rel t e]
        rfl
    | _ => simp [strsOf] at h
theorem bls_rel {K : PySem.W.Frag} {g : Gh} {H : Hp} : ∀ {us : List U} {vs : List V} {ns : List Bool}, RelUs K g H us vs → blsOf us = some ns → vs = ns.map V.bl
  | [], _, _, .nil, h => by simp only [blsOf] at h; cases h; rfl
  | x :: xs, _, _, .cons r t, h => by
    cases r with
    | bl i =>
      simp only [blsOf] at h
      cases e : blsOf xs with
      | none => rw [e] at h; cases h
      | some ms =>
        rw [e] at h
        cases h
        rw [bls_rel t e]
        rfl
    | _ => simp [blsOf] at h
theorem lexI_eq : ∀ xs ys : List Int, HT.lexLt xs ys = lexI xs ys
  | [], [] => rfl
  | [], _ :: _ => rfl
  | _ :: _, [] => rfl
  | x :: xs, y :: ys => by
    rw [HT.lexLt_cons, lexI, lexI_eq xs ys]
theorem op_lt_ (hu : X.A.units < cLine) : OpR X (compareOp .Lt) (rB X.K C W (cmpR .lt)) := by
  intro pins σt σ H x y v u Q I rx ry h
  obtain ⟨g, s, a, b, R, ra, rb, p⟩ := h
  obtain ⟨k, e, q⟩ := cmp_of R p
  simp only [cmpU, ltU] at e
  split at e
  · cases e; cases ra; cases rb
    exact op_lt pins σt σ H _ _ v u Q I rx ry ⟨_, _, rfl, rfl, q⟩
  · cases e; cases ra; cases rb
    exact op_lt_str pins σt σ H _ _ v u Q I rx ry ⟨_, _, rfl, rfl, q⟩
  · rename_i xs ys
    split at e
    · rename_i is js e1 e2
      cases e
      cases ra with
      | tup h1 h2 h3 h4 =>
        cases rb with
        | tup k1 k2 k3 k4 =>
          rw [ints_rel h4 e1] at h1
          rw [ints_rel k4 e2] at k1
          exact op_ltT hu pins σt σ H _ _ v u Q I rx ry ⟨_, _, is, js, rfl, rfl, h1.sq, k1.sq, by rw [lexI_eq]; exact q⟩
    · cases e
  · cases e
theorem op_gt_ : OpR X (compareOp .Gt) (rB X.K C W (cmpR .gt)) := by
  intro pins σt σ H x y v u Q I rx ry h
  obtain ⟨g, s, a, b, R, ra, rb, p⟩ := h
  obtain ⟨k, e, q⟩ := cmp_of R p
  simp only [cmpU] at e
  split at e
  · cases e; cases ra; cases rb
    exact op_gt pins σt σ H _ _ v u Q I rx ry ⟨_, _, rfl, rfl, q⟩
  · cases e
theorem op_le_ : OpR X (compareOp .LtE) (rB X.K C W (cmpR .le)) := by
  intro pins σt σ H x y v u Q I rx ry h
  obtain ⟨g, s, a, b, R, ra, rb, p⟩ := h
  obtain ⟨k, e, q⟩ := cmp_of R p
  simp only [cmpU] at e
  split at e
  · cases e; cases ra; cases rb
    exact op_le pins σt σ H _ _ v u Q I rx ry ⟨_, _, rfl, rfl, q⟩
  · cases e
theorem op_ge_ : OpR X (compareOp .GtE) (rB X.K C W (cmpR .ge)) := by
  intro pins σt σ H x y v u Q I rx ry h
  obtain ⟨g, s, a, b, R, ra, rb, p⟩ := h
  obtain ⟨k, e, q⟩ := cmp_of R p
  simp only [cmpU] at e
  split at e
  · cases e; cases ra; cases rb
    exact op_ge pins σt σ H _ _ v u Q I rx ry ⟨_, _, rfl, rfl, q⟩
  · cases e
theorem non_rel {K : PySem.W.Frag} {g : Gh} {H : Hp} {u : U} {v : V} (r : RelU K g H u v) : decide (v = .non) = decide (u = .non) := by
  cases r <;> simp
theorem op_is_ : OpR X (compareOp .Is) (rB X.K C W (cmpR .is)) := by
  intro pins σt σ H x y v u Q I rx ry h
  obtain ⟨g, s, a, b, R, ra, rb, p⟩ := h
  obtain ⟨k, e, q⟩ := cmp_of R p
  simp only [cmpU] at e
  split at e
  · cases e; cases rb
    exact op_isN pins σt σ H _ _ v u Q I rx ry ⟨rfl, by rw [non_rel ra]; exact q⟩
  · split at e
    · cases e; cases ra; cases rb; cases rx; cases ry
      exact is_bool (fin_bl I q rfl)
    · cases e
  · cases e
theorem op_isnot_ : OpR X (compareOp .IsNot) (rB X.K C W (cmpR .isnot)) := by
  intro pins σt σ H x y v u Q I rx ry h
  obtain ⟨g, s, a, b, R, ra, rb, p⟩ := h
  obtain ⟨k, e, q⟩ := cmp_of R p
  simp only [cmpU] at e
  split at e
  · cases e; cases rb
    exact op_notN pins σt σ H _ _ v u Q I rx ry ⟨rfl, by rw [non_rel ra]; exact q⟩
  · split at e
    · cases e; cases ra; cases rb; cases rx; cases ry
      exact isnot_bool (fin_bl I q rfl)
    · cases e
  · cases e
/-! in -/
theorem eqv_any {u : U} (hu : plain u = true) : ∀ xs : List U, plains xs = true → ((toDs xs).any fun z => PyData.eqv z (toD u)) = inU u xs
  | [], _ => by simp [toDs, inU]
  | x :: xs, h => by
    simp only [plains, Bool.and_eq_true] at h
    have ih := eqv_any hu xs h.2
    unfold inU at ih ⊢
    rw [toDs, List.any_cons, List.any_cons, ih, toD_eqv x u h.1 hu]
theorem str1 {c : Str} (h : c.length = 1) : c = ⟨#[c.cps.getD 0 0]⟩ := by
  obtain ⟨a⟩ := c
  have h' : a.size = 1 := h
  congr
  apply Array.ext
  · simp [h']
  · intro i h1 h2
    have : i = 0 := by omega
    subst this
    simp [Array.getD, h']
def inRes (neg : Bool) (b : Bool) : Bool := if neg then !b else b
theorem in_raw (neg : Bool) (hu : X.A.units + 65 < cLine) : OpR X (compareOp (if neg then .NotIn else .In)) (fun x y H Q => ∃ g s u w b, RS X.K C g s H ∧ RelU X.K g H u x ∧ RelU X.K g H w y ∧ isinU s u w = some b ∧ Q (.bl (inRes neg b)) H) := by
  intro pins σt σ H x y v u Q I rx ry h
  obtain ⟨g, s, a, w, k, R, ra, rb, e, q⟩ := h
  -- data in a list or tuple
  have tup : ∀ {xs : List U} {vs : List V} {ad : Addr}, y = .ref ad → SqT X.K H ad vs → RelUs X.K g H xs vs → dat a = true → dats xs = true → Q (.bl (inRes neg (inU a xs))) H → wpAny (model X.prog X.w) X.A (compareOp (if neg then .NotIn else .In) v u) (EP X pins σ Q) X.xe σt := by
    intro xs vs ad ey hs hr da ds q
    subst ey
    have pa := dat_plain da
    have ps : plains xs = true := by simp only [dats, Bool.and_eq_true] at ds; exact ds.1
    obtain ⟨as, r1⟩ := Dp.reads I (toD a) x v (ra.dp pa) rx
    obtain ⟨bs, r2⟩ := Dp.reads I (.tuple (toDs xs)) (.ref ad) u (.tup hs (hr.dp ps)) ry
    have c1 := SeqAt.canLay_of_shaped (toDs_shapedT ds)
    have c2 := SeqAt.canLay_of_shaped (toD_shaped da)
    cases neg with
    | false => exact SeqAt.in_tuple_reads r2 r1 c1 c2 (room_in_shaped (toD_shaped da) hu) ⟨.bl _, H, I, rfl, by rw [eqv_any pa xs ps]; exact q⟩
    | true => exact SeqAt.notIn_tuple_reads r2 r1 c1 c2 (room_in_shaped (toD_shaped da) hu) ⟨.bl _, H, I, rfl, by rw [eqv_any pa xs ps]; exact q⟩
  have lst : ∀ {xs : List U}, lstOf s w = some xs → dat a = true → dats xs = true → Q (.bl (inRes neg (inU a xs))) H → wpAny (model X.prog X.w) X.A (compareOp (if neg then .NotIn else .In) v u) (EP X pins σ Q) X.xe σt := by
    intro xs hl da ds q
    obtain ⟨ad, vs, ey, hs, z, hr⟩ := R.lstOf rb hl
    subst ey
    have pa := dat_plain da
    have ps : plains xs = true := by simp only [dats, Bool.and_eq_true] at ds; exact ds.1
    have hd : Dp X.K H (.ref ad) (.list (toDs xs)) := .lst (SqL.of hs) (hr.dp ps)
    cases neg with
    | false => exact op_inD hu pins σt σ H x _ v u Q I rx ry ⟨toD a, toDs xs, ra.dp pa, hd, toD_shaped da, toDs_shapedL ds, by rw [eqv_any pa xs ps]; exact q⟩
    | true => exact op_notInD hu pins σt σ H x _ v u Q I rx ry ⟨toD a, toDs xs, ra.dp pa, hd, toD_shaped da, toDs_shapedL ds, by rw [eqv_any pa xs ps]; exact q⟩
  have dk : ∀ {kvs : List (Key × U)} {kk : Key}, dKOf s w = some kvs → keyOf a = some kk → Q (.bl (inRes neg (lookA kk kvs).isSome)) H → wpAny (model X.prog X.w) X.A (compareOp (if neg then .NotIn else .In) v u) (EP X pins σ Q) X.xe σt := by
    intro kvs kk h1 h2 q
    obtain ⟨ad, o, ey, dg, hh⟩ := dget_k R rb ra h1 h2
    subst ey
    cases ry
    have ho : o.isSome = (lookA kk kvs).isSome := by rcases hh with ⟨e1, e2⟩ | ⟨w1, w2, e1, e2, _⟩ <;> simp [e1, e2]
    have hu1 : X.A.units + 1 < cLine := by omega
    cases neg with
    | false => exact d_in hu1 I dg rx fun s2 I2 => ⟨.bl _, H, I2, rfl, by rw [ho]; exact q⟩
    | true => exact d_notIn hu1 I dg rx fun s2 I2 => ⟨.bl _, H, I2, rfl, by rw [ho]; exact q⟩
  have dt : ∀ {kvs : List (List Key × U)} {kk : List Key}, dTOf s w = some kvs → tkeyOf a = some kk → Q (.bl (inRes neg (lookA kk kvs).isSome)) H → wpAny (model X.prog X.w) X.A (compareOp (if neg then .NotIn else .In) v u) (EP X pins σ Q) X.xe σt := by
    intro kvs kk h1 h2 q
    obtain ⟨ad, o, ey, dg, hh⟩ := dget_t R rb ra h1 h2
    subst ey
    cases ry
    have ho : o.isSome = (lookA kk kvs).isSome := by rcases hh with ⟨e1, e2⟩ | ⟨w1, w2, e1, e2, _⟩ <;> simp [e1, e2]
    have hu1 : X.A.units + 1 < cLine := by omega
    cases neg with
    | false => exact d_in hu1 I dg rx fun s2 I2 => ⟨.bl _, H, I2, rfl, by rw [ho]; exact q⟩
    | true => exact d_notIn hu1 I dg rx fun s2 I2 => ⟨.bl _, H, I2, rfl, by rw [ho]; exact q⟩
  have rest : isinR s a w = some k → wpAny (model X.prog X.w) X.A (compareOp (if neg then .NotIn else .In) v u) (EP X pins σ Q) X.xe σt := by
    intro e
    unfold isinR at e
    split at e
    · rename_i xs hl
      split at e
      · rename_i hd
        rw [Bool.and_eq_true] at hd
        cases e
        exact lst hl hd.1 hd.2 q
      · cases e
    · split at e
      · rename_i kvs h1
        cases h2 : keyOf a with
        | none => rw [h2] at e; cases e
        | some kk =>
          rw [h2] at e
          cases e
          exact dk h1 h2 q
      · split at e
        · rename_i kvs h1
          cases h2 : tkeyOf a with
          | none => rw [h2] at e; cases e
          | some kk =>
            rw [h2] at e
            cases e
            exact dt h1 h2 q
        · cases e
  cases w with
  | str z =>
    cases rb
    cases a with
    | str c =>
      cases ra
      simp only [isinU] at e
      split at e
      · rename_i h1
        cases e
        have ec := str1 h1
        rw [ec] at rx
        cases neg with
        | false => exact op_in_sign pins σt σ H _ _ v u Q I rx ry ⟨_, z, rfl, rfl, q⟩
        | true => exact op_notIn_sign pins σt σ H _ _ v u Q I rx ry ⟨_, z, rfl, rfl, q⟩
      · cases e
    | _ => simp [isinU] at e
  | tup xs =>
    simp only [isinU] at e
    split at e
    · rename_i hd
      rw [Bool.and_eq_true] at hd
      cases e
      cases rb with
      | tup h1 h2 h3 h4 => exact tup rfl (h1.sq) h4 hd.1 hd.2 q
    · cases e
  | ktp xs =>
    simp only [isinU] at e
    split at e
    · rename_i hd
      rw [Bool.and_eq_true] at hd
      cases e
      cases rb with
      | ktp h1 h2 h3 => exact tup rfl (.inr h1) h3 hd.1 hd.2 q
    · cases e
  | lst xs => exact rest (by simpa only [isinU] using e)
  | obj n => exact rest (by simpa only [isinU] using e)
  | dK ks vs => exact rest (by simpa only [isinU] using e)
  | dT ks vs => exact rest (by simpa only [isinU] using e)
  | _ => simp [isinU, isinR, lstOf, dKOf, dTOf] at e
theorem op_in_ (hu : X.A.units + 65 < cLine) : OpR X (compareOp .In) (rB X.K C W (cmpR .isin)) := by
  intro pins σt σ H x y v u Q I rx ry h
  obtain ⟨g, s, a, b, R, ra, rb, p⟩ := h
  obtain ⟨k, e, q⟩ := cmp_of R p
  exact in_raw (C := C) false hu pins σt σ H x y v u Q I rx ry ⟨g, s, a, b, k, R, ra, rb, e, q⟩
theorem op_notin_ (hu : X.A.units + 65 < cLine) : OpR X (compareOp .NotIn) (rB X.K C W (cmpR .notin)) := by
  intro pins σt σ H x y v u Q I rx ry h
  obtain ⟨g, s, a, b, R, ra, rb, p⟩ := h
  obtain ⟨k, e, q⟩ := cmp_of R p
  simp only [cmpU] at e
  cases e2 : isinU s a b with
  | none => rw [e2] at e; cases e
  | some j =>
    rw [e2] at e
    cases e
    exact in_raw (C := C) true hu pins σt σ H x y v u Q I rx ry ⟨g, s, a, b, j, R, ra, rb, e2, q⟩
end
end Pv
set_option autoImplicit false
set_option Elab.async false
set_option linter.all false
set_option maxRecDepth 100000
set_option maxHeartbeats 1000000
namespace Pv
open PySem PySem.Spec PyProof.Rows L2

/-- a call's reading -/
def rA (K : PySem.W.Frag) (C : Nat → Addr) (W : Value → Hp → Prop) (op : List U → MS → Rv U) : List V → Hp → VK → Prop := fun vs H Q =>
  ∃ g s us, RS K C g s H ∧ RelUs K g H us vs ∧ Pst K C (RelU K) W g H (op us s) Q
/-- a method's -/
def rM (K : PySem.W.Frag) (C : Nat → Addr) (W : Value → Hp → Prop) (op : U → List U → MS → Rv U) : V → List V → Hp → VK → Prop := fun x vs H Q =>
  ∃ g s u us, RS K C g s H ∧ RelU K g H u x ∧ RelUs K g H us vs ∧ Pst K C (RelU K) W g H (op u us s) Q
section
variable {K : PySem.W.Frag} {C : Nat → Addr} {g : Gh} {s : MS} {H : Hp}
theorem rel1 {us : List U} {v : V} (r : RelUs K g H us [v]) : ∃ u, us = [u] ∧ RelU K g H u v := by
  cases r with
  | cons h t => cases t; exact ⟨_, rfl, h⟩
theorem rel1' {u : U} {vs : List V} (r : RelUs K g H [u] vs) : ∃ v, vs = [v] ∧ RelU K g H u v := by
  cases r with
  | cons h t => cases t; exact ⟨_, rfl, h⟩
theorem rel2' {u u' : U} {vs : List V} (r : RelUs K g H [u, u'] vs) : ∃ v v', vs = [v, v'] ∧ RelU K g H u v ∧ RelU K g H u' v' := by
  cases r with
  | cons h t => cases t with | cons h' t => cases t; exact ⟨_, _, rfl, h, h'⟩
theorem rel0' {vs : List V} (r : RelUs K g H [] vs) : vs = [] := by cases r; rfl
theorem plain_get {us : List U} {i : Nat} {u : U} (h : plains us = true) (e : us[i]? = some u) : plain u = true := by
  induction us generalizing i with
  | nil => simp at e
  | cons x xs ih =>
    simp only [plains, Bool.and_eq_true] at h
    cases i with
    | zero => simp at e; subst e; exact h.1
    | succ i => exact ih h.2 (by simpa using e)
theorem plain_mem {us : List U} {u : U} (h : plains us = true) (e : u ∈ us) : plain u = true := by
  obtain ⟨i, hi, rfl⟩ := List.getElem_of_mem e
  exact plain_get h (List.getElem?_eq_getElem hi)
mutual
theorem toD_inj : ∀ u v : U, plain u = true → plain v = true → toD u = toD v → u = v
  | .non, v, _, hv, e => by cases v <;> simp_all [toD, plain]
  | .bl _, v, _, hv, e => by cases v <;> simp_all [toD, plain]
  | .int _, v, _, hv, e => by cases v <;> simp_all [toD, plain]
  | .str _, v, _, hv, e => by cases v <;> simp_all [toD, plain]
  | .tup xs, v, hu, hv, e => by
    cases v with
    | tup ys =>
      simp only [plain] at hu hv
      simp only [toD, PyData.tuple.injEq] at e
      rw [toDs_inj xs ys hu hv e]
    | _ => simp_all [toD, plain]
  | .lst xs, v, hu, hv, e => by
    cases v with
    | lst ys =>
      simp only [plain] at hu hv
      simp only [toD, PyData.list.injEq] at e
      rw [toDs_inj xs ys hu hv e]
    | _ => simp_all [toD, plain]
  | .dK _ _, _, h, _, _ => by simp [plain] at h
  | .dT _ _, _, h, _, _ => by simp [plain] at h
  | .scr _, _, h, _, _ => by simp [plain] at h
  | .ktp _, _, h, _, _ => by simp [plain] at h
  | .obj _, _, h, _, _ => by simp [plain] at h
theorem toDs_inj : ∀ us vs : List U, plains us = true → plains vs = true → toDs us = toDs vs → us = vs
  | [], vs, _, _, e => by cases vs <;> simp_all [toDs]
  | x :: xs, vs, hu, hv, e => by
    cases vs with
    | nil => simp [toDs] at e
    | cons y ys =>
      simp only [plains, Bool.and_eq_true] at hu hv
      simp only [toDs, List.cons.injEq] at e
      rw [toD_inj x y hu.1 hv.1 e.1, toDs_inj xs ys hu.2 hv.2 e.2]
end
/-! the order -/
mutual
theorem toks_eq : ∀ u : U, plain u = true → PySem.W.keyToks (toD u) = toks u
  | .non, _ => by simp [toD, PySem.W.keyToks, toks]
  | .bl _, _ => by simp [toD, PySem.W.keyToks, toks]
  | .int _, _ => by simp [toD, PySem.W.keyToks, toks]
  | .str _, _ => by simp [toD, PySem.W.keyToks, toks]
  | .tup xs, h => by simp only [plain] at h; simp only [toD, PySem.W.keyToks, toks, tokss_eq xs h]
  | .lst xs, h => by simp only [plain] at h; simp only [toD, PySem.W.keyToks, toks, tokss_eq xs h]
  | .dK _ _, h => by simp [plain] at h
  | .dT _ _, h => by simp [plain] at h
  | .scr _, h => by simp [plain] at h
  | .ktp _, h => by simp [plain] at h
  | .obj _, h => by simp [plain] at h
theorem tokss_eq : ∀ us : List U, plains us = true → PySem.W.keyToksAll (toDs us) = tokss us
  | [], _ => by simp [toDs, PySem.W.keyToksAll, tokss]
  | x :: xs, h => by
    simp only [plains, Bool.and_eq_true] at h
    simp only [toDs, PySem.W.keyToksAll, tokss, toks_eq x h.1, tokss_eq xs h.2]
end
theorem itLt_eq (a b : Int ⊕ List Nat) : PyProof.Rows.itemLt a b = itLt a b := by cases a <;> cases b <;> rfl
theorem ltTok_eq : ∀ a b : List (Int ⊕ List Nat), PyProof.Rows.lexLt PyProof.Rows.itemOrd a b = ltTok a b
  | [], [] => rfl
  | [], _ :: _ => rfl
  | _ :: _, [] => rfl
  | x :: r, y :: t => by
    rw [PyProof.Rows.lex_cons, ltTok, ltTok_eq r t]
    show (PyProof.Rows.itemLt x y || (!PyProof.Rows.itemLt y x && _)) = _
    rw [itLt_eq, itLt_eq]
theorem ltD_eq {u v : U} (hu : plain u = true) (hv : plain v = true) : PySem.W.dataLt (toD u) (toD v) = ltD u v := by
  unfold PySem.W.dataLt ltD
  rw [toks_eq u hu, toks_eq v hv, ltTok_eq]
mutual
theorem alike_eq : ∀ u v : U, plain u = true → plain v = true → PySem.W.alike (toD u) (toD v) = alike u v
  | .non, v, _, hv => by cases v <;> simp_all [toD, PySem.W.alike, alike, plain]
  | .bl _, v, _, hv => by cases v <;> simp_all [toD, PySem.W.alike, alike, plain]
  | .int _, v, _, hv => by cases v <;> simp_all [toD, PySem.W.alike, alike, plain]
  | .str _, v, _, hv => by cases v <;> simp_all [toD, PySem.W.alike, alike, plain]
  | .tup xs, v, hu, hv => by
    cases v with
    | tup ys =>
      simp only [plain] at hu hv
      simp only [toD, PySem.W.alike, alike]
      exact alikes_eq xs ys hu hv
    | _ => simp_all [toD, PySem.W.alike, alike, plain]
  | .lst xs, v, hu, hv => by
    cases v with
    | lst ys =>
      simp only [plain] at hu hv
      simp only [toD, PySem.W.alike, alike]
      exact alikes_eq xs ys hu hv
    | _ => simp_all [toD, PySem.W.alike, alike, plain]
  | .dK _ _, _, h, _ => by simp [plain] at h
  | .dT _ _, _, h, _ => by simp [plain] at h
  | .scr _, _, h, _ => by simp [plain] at h
  | .ktp _, _, h, _ => by simp [plain] at h
  | .obj _, _, h, _ => by simp [plain] at h
theorem alikes_eq : ∀ us vs : List U, plains us = true → plains vs = true → PySem.W.alikeAll (toDs us) (toDs vs) = alikes us vs
  | [], vs, _, _ => by cases vs <;> simp [toDs, PySem.W.alikeAll, alikes]
  | x :: xs, vs, hu, hv => by
    cases vs with
    | nil => simp [toDs, PySem.W.alikeAll, alikes]
    | cons y ys =>
      simp only [plains, Bool.and_eq_true] at hu hv
      simp only [toDs, PySem.W.alikeAll, alikes, alike_eq x y hu.1 hv.1, alikes_eq xs ys hu.2 hv.2]
end
theorem dats_plains {us : List U} (h : dats us = true) : plains us = true := by
  simp only [dats, Bool.and_eq_true] at h
  exact h.1
theorem deps_mem : ∀ {us : List U} {u : U}, u ∈ us → dep u ≤ deps us
  | x :: xs, u, h => by
    rw [deps]
    rcases List.mem_cons.mp h with rfl | h
    · exact Nat.le_max_left _ _
    · exact Nat.le_trans (deps_mem h) (Nat.le_max_right _ _)
end

section
variable {X : Cx} {C : Nat → Addr} {W : Value → Hp → Prop}
theorem len_dct : CallR X (.builtin "len") (fun xs H Q => ∃ a kvs, xs = [V.ref a] ∧ Rd H a (.dK kvs) ∧ Q (.int kvs.length) H) := by
  rintro pins σt σ H xs us Q I r ⟨a, kvs, rfl, ha, q⟩
  obtain ⟨u, rfl, ru⟩ := vals1 r
  cases ru
  exact d_len I ha fun t s' I' => ⟨.int kvs.length, H, I', ⟨t, rfl⟩, q⟩
theorem call_len_ : CallR X (.builtin "len") (rA X.K C W (biU .len)) := by
  intro pins σt σ H xs us Q I r h
  obtain ⟨g, s, as, R, ra, p⟩ := h
  match as, ra, p with
  | [], ra, p => exact (show False from p).elim
  | _ :: _ :: _, ra, p => exact (show False from p).elim
  | [u], ra, p =>
    obtain ⟨v, rfl, rv⟩ := rel1' ra
    simp only [biU] at p
    obtain ⟨a, e, p⟩ := p.of_
    cases h1 : lenU s u with
    | none => rw [h1] at e; cases e
    | some n =>
      rw [h1] at e
      cases e
      unfold lenU at h1
      split at h1
      · rename_i ys hs
        cases h1
        obtain ⟨ad, vs, rfl, hq, z, rr⟩ := R.seqOf rv hs
        exact call_len_seq pins σt σ H _ us Q I r ⟨ad, vs, rfl, hq, by rw [← rr.length]; exact Pst.val p R (.int _)⟩
      · split at h1
        · rename_i kvs hs
          cases h1
          obtain ⟨ad, vs, rfl, hq, z, rr⟩ := R.dKOf rv hs
          refine len_dct pins σt σ H _ us Q I r ⟨ad, _, rfl, hq, ?_⟩
          have hl : ((kvs.map (·.1)).zip vs).length = kvs.length := by rw [List.length_zip, ← rr.length]; simp
          rw [hl]
          exact Pst.val p R (.int _)
        · split at h1
          · split at h1
            · rename_i hz
              cases h1
              cases rv
              exact call_len_str pins σt σ H _ us Q I r ⟨_, rfl, by rw [← line_eq]; exact hz, Pst.val p R (.int _)⟩
            · cases h1
          · cases h1
theorem call_all_ (hc : X.calm = true) : CallR X (.builtin "all") (rA X.K C W (biU .all)) := by
  intro pins σt σ H xs us Q I r h
  obtain ⟨g, s, as, R, ra, p⟩ := h
  match as, ra, p with
  | [], ra, p => exact (show False from p).elim
  | _ :: _ :: _, ra, p => exact (show False from p).elim
  | [u], ra, p =>
    obtain ⟨v, rfl, rv⟩ := rel1' ra
    simp only [biU] at p
    obtain ⟨a, e, p⟩ := p.of_
    cases h1 : lstOf s u with
    | none => rw [h1] at e; cases e
    | some ys =>
      rw [h1] at e
      cases h2 : blsOf ys with
      | none => simp [h2] at e
      | some bs =>
        simp [h2] at e
        subst e
        obtain ⟨ad, vs, rfl, hq, z, rr⟩ := R.lstOf rv h1
        rw [bls_rel rr h2] at hq
        exact cr_all hc pins σt σ H _ us Q I r ⟨ad, bs, rfl, SqL.of hq, Pst.val p R (.bl _)⟩
theorem call_any_ (hc : X.calm = true) : CallR X (.builtin "any") (rA X.K C W (biU .any)) := by
  intro pins σt σ H xs us Q I r h
  obtain ⟨g, s, as, R, ra, p⟩ := h
  match as, ra, p with
  | [], ra, p => exact (show False from p).elim
  | _ :: _ :: _, ra, p => exact (show False from p).elim
  | [u], ra, p =>
    obtain ⟨v, rfl, rv⟩ := rel1' ra
    simp only [biU] at p
    obtain ⟨a, e, p⟩ := p.of_
    cases h1 : lstOf s u with
    | none => rw [h1] at e; cases e
    | some ys =>
      rw [h1] at e
      cases h2 : blsOf ys with
      | none => simp [h2] at e
      | some bs =>
        simp [h2] at e
        subst e
        obtain ⟨ad, vs, rfl, hq, z, rr⟩ := R.lstOf rv h1
        rw [bls_rel rr h2] at hq
        exact cr_any hc pins σt σ H _ us Q I r ⟨ad, bs, rfl, SqL.of hq, Pst.val p R (.bl _)⟩
/-- the sum of a tuple of ints -/
theorem sum_tupG {P : Program} {w : World} {A : Around} {E : Value → Shared → Prop} {s : Shared} {l : Addr} {its : List Value} {ns : List Int} {Q : Value → Shared → Prop} (hh : A.handled = none) (hl : s.heap.IsTuple l its.toArray) (hi : IntsAre its ns)
    (h : ∀ h' tk t', (∀ b o, s.heap.get? b = some o → h'.get? b = some o) → Q (.int ns.sum t') { s with heap := h', toks := tk }) : wpAny (model P w) A (call (.builtin "sum") [.ref l]) Q E s := by
  obtain ⟨xs, e⟩ := hi.allInts.items
  have hn : numsOf (intItems xs).toList = ns := by rw [← e]; exact hi.numsOf
  rw [nums_intItems] at hn
  rw [e] at hl
  refine call_sum_walkAnyS (PySem.W.iter_tupleW (A := A.in1) hh hl fun s₂ e₂ W st hfp hw hk => ?_)
  refine ⟨_, _, _, _, _, _, _, numAt xs, rfl, W, st, hfp, (fun _ _ => intItems_at), fun s' t' m => ?_⟩
  obtain ⟨h', tk, rfl, hk'⟩ := PySem.W.moved_old e₂ rfl m
  have q := h h' tk t' hk'
  have e3 : preSum (numAt xs) (intItems xs).size = ns.sum := by
    rw [preSum_eq, List.take_of_length_le (by simp [intItems]), hn]
  rw [e3]
  exact q
theorem call_sum_ (hc : X.calm = true) : CallR X (.builtin "sum") (rA X.K C W (biU .sum)) := by
  intro pins σt σ H xs us Q I r h
  obtain ⟨g, s, as, R, ra, p⟩ := h
  match as, ra, p with
  | [], ra, p => exact (show False from p).elim
  | _ :: _ :: _, ra, p => exact (show False from p).elim
  | [u], ra, p =>
    obtain ⟨v, rfl, rv⟩ := rel1' ra
    simp only [biU] at p
    obtain ⟨a, e, p⟩ := p.of_
    cases h1 : seqOf s u with
    | none => rw [h1] at e; cases e
    | some ys =>
      rw [h1] at e
      cases h2 : intsOf ys with
      | none => simp [h2] at e
      | some bs =>
        simp [h2] at e
        subst e
        obtain ⟨ad, vs, rfl, hq, z, rr⟩ := R.seqOf rv h1
        rw [ints_rel rr h2] at hq
        rcases hq with hq | hq
        · exact cr_sum hc pins σt σ H _ us Q I r ⟨ad, bs, rfl, hq, Pst.val p R (.int _)⟩
        · obtain ⟨u1, rfl, ru⟩ := vals1 r
          cases ru
          obtain ⟨its, rv2, ht, hz⟩ := I.tuple hq
          exact sum_tupG (I.ok.hd hc) (show σt.heap.IsTuple ad its.toArray from ht) rv2.ints fun h' tk t' hk => ⟨.int _, H, I.kept hk, ⟨_, rfl⟩, Pst.val p R (.int _)⟩
/-- the least, the greatest as trees -/
theorem fold_toD (f : U → U → Bool) (f' : PyData → PyData → Bool) : ∀ (xs : List U) (x : U), plain x = true → plains xs = true → (∀ a b, plain a = true → plain b = true → f' (toD a) (toD b) = f a b) →
    (xs.map toD).foldl (fun a y => if f' y a then y else a) (toD x) = toD (xs.foldl (fun a y => if f y a then y else a) x) ∧ plain (xs.foldl (fun a y => if f y a then y else a) x) = true
  | [], x, hx, _, _ => ⟨rfl, hx⟩
  | y :: ys, x, hx, hy, h => by
    simp only [plains, Bool.and_eq_true] at hy
    simp only [List.map_cons, List.foldl_cons]
    rw [h y x hy.1 hx]
    by_cases e : f y x = true
    · rw [if_pos e, if_pos e]
      exact fold_toD f f' ys y hy.1 hy.2 h
    · rw [if_neg e, if_neg e]
      exact fold_toD f f' ys x hx hy.2 h
theorem Reads.det {h : Heap} : ∀ {d e : PyData} {v : Value} {as bs : List Addr}, d.canLay0 = true → e.canLay0 = true → Reads h v d as → Reads h v e bs → d = e := by
  intro d e v as bs hd he r1 r2
  exact (SeqAt.readOf_eq hd r1).symm.trans (SeqAt.readOf_eq he r2)
end
end Pv
set_option autoImplicit false
set_option Elab.async false
set_option linter.all false
set_option maxRecDepth 100000
set_option maxHeartbeats 1000000
namespace Pv
open PySem PySem.Spec PyProof.Rows L2
section
variable {K : PySem.W.Frag} {g : Gh} {H : Hp}
theorem alikeAll_of {us : List U} (h : alikeAll us = true) : dats us = true ∧ PySem.W.AlikeAll (toDs us) := by
  simp only [alikeAll, Bool.and_eq_true, List.all_eq_true] at h
  obtain ⟨⟨h1, h2⟩, h3⟩ := h
  have hp := dats_plains h1
  refine ⟨h1, fun x hx y hy => ?_, fun x hx e => ?_⟩
  · rw [toDs_map] at hx hy
    obtain ⟨a, ha, rfl⟩ := List.mem_map.mp hx
    obtain ⟨b, hb, rfl⟩ := List.mem_map.mp hy
    rw [alike_eq a b (plain_mem hp ha) (plain_mem hp hb)]
    exact h2 a ha b hb
  · rw [toDs_map] at hx
    obtain ⟨a, ha, rfl⟩ := List.mem_map.mp hx
    have h4 := h3 a ha
    have : a = .non := toD_inj a .non (plain_mem hp ha) rfl (by rw [e, toD])
    subst this
    simp at h4
theorem ReadsAll.at' {h : Heap} : ∀ {us : List U} {vs : List Value} {as : List Addr}, ReadsAll h vs (toDs us) as → us.length = vs.length
  | [], _, _, r => by rw [toDs] at r; cases r; rfl
  | x :: xs, _, _, r => by
    rw [toDs] at r
    cases r with
    | cons h1 h2 => simp [ReadsAll.at' h2]
end
mutual
theorem reads_there {h : Heap} : ∀ (d : PyData) (v : Value) (as : List Addr), d.canLay0 = true → Reads h v d as → ∀ a ∈ as, ∃ o, h.get? a = some o
  | .none, _, _, _, r, a, m => by cases r; simp at m
  | .bool _, _, _, _, r, a, m => by cases r; simp at m
  | .int _, _, _, _, r, a, m => by cases r; simp at m
  | .str _, _, _, _, r, a, m => by cases r; simp at m
  | .list xs, _, _, c, r, a, m => by
    simp only [PyData.canLay0] at c
    cases r with
    | list h1 h2 h3 h4 =>
      rcases List.mem_cons.mp m with rfl | m
      · exact ⟨_, h1⟩
      · exact readsAll_there xs _ _ c h4 a m
  | .tuple xs, _, _, c, r, a, m => by
    simp only [PyData.canLay0] at c
    cases r with
    | tuple h1 h2 h3 h4 => exact readsAll_there xs _ _ c h4 a m
  | .dict _, _, _, c, _, _, _ => by simp [PyData.canLay0] at c
theorem readsAll_there {h : Heap} : ∀ (ds : List PyData) (vs : List Value) (as : List Addr), PyData.canLayAll0 ds = true → ReadsAll h vs ds as → ∀ a ∈ as, ∃ o, h.get? a = some o
  | [], _, _, _, r, a, m => by cases r; simp at m
  | d :: ds, _, _, c, r, a, m => by
    simp only [PyData.canLayAll0, Bool.and_eq_true] at c
    cases r with
    | cons h1 h2 =>
      rcases List.mem_append.mp m with m | m
      · exact reads_there d _ _ c.1 h1 a m
      · exact readsAll_there ds _ _ c.2 h2 a m
end
section
variable {X : Cx} {C : Nat → Addr} {W : Value → Hp → Prop}
/-- what min, max hand back: an item that reads as the least, the greatest -/
theorem pick_rel {pins : List (Addr × Obj)} {σ : L2.St} {st : Shared} {g : Gh} {s : MS} {H : Hp} {Q : VK} {us : List U} {vs : List V} {its : List Value} {w : U} {i : Nat} {v : Value} {h' : Heap} {tk : Nat} {bs : List Addr}
    (I : Inv X pins σ H st) (R : RS X.K C g s H) (rr : RelUs X.K g H us vs) (rv : Vals vs its) (hp : plains us = true) (pw : plain w = true) (hk : ∀ b o, st.heap.get? b = some o → h'.get? b = some o)
    (hv : its[i]? = some v) (r : Reads h' v (toD w) bs) (p : Pst X.K C (RelU X.K) W g H (.ok w s) Q) : EP X pins σ Q v { st with heap := h', toks := tk } := by
  have I2 : Inv X pins σ H { st with heap := h', toks := tk } := I.kept hk
  have hi : i < vs.length := by rw [rv.length]; exact (List.getElem?_eq_some_iff.mp hv).1
  obtain ⟨u', e2, rvu⟩ := rv.get (List.getElem?_eq_getElem hi)
  rw [hv] at e2
  cases e2
  obtain ⟨x, e3, rx⟩ := rr.getV (List.getElem?_eq_getElem hi)
  have px := plain_get hp e3
  obtain ⟨as, r2⟩ := Dp.reads I2 (toD x) _ v (rx.dp px) rvu
  have e4 : toD x = toD w := Reads.det (toD_lay x px) (toD_lay w pw) r2 r
  have e5 := toD_inj x w px pw e4
  subst e5
  exact ⟨_, H, I2, rvu, Pst.val p R rx⟩
theorem minmax_ (hc : X.calm = true) (hu : X.A.units + 64 < cLine) (mx : Bool) : CallR X (.builtin (if mx then "max" else "min")) (fun vs H Q => ∃ g s us xs w, RS X.K C g s H ∧ RelUs X.K g H us vs ∧ us.length = 1 ∧ (∀ u, us = [u] → seqOf s u = some xs) ∧
    (if mx then maxU xs else minU xs) = some w ∧ Pst X.K C (RelU X.K) W g H (.ok w s) Q) := by
  intro pins σt σ H xs us Q I r h
  obtain ⟨g, s, as, ys, w, R, ra, hl1, hs, hm, p⟩ := h
  obtain ⟨u, rfl⟩ : ∃ u, as = [u] := by
    match as, hl1 with
    | [u], _ => exact ⟨u, rfl⟩
  obtain ⟨v, rfl, rv⟩ := rel1' ra
  obtain ⟨ad, vs, rfl, hq, z, rr⟩ := R.seqOf rv (hs u rfl)
  obtain ⟨u1, rfl, ru⟩ := vals1 r
  cases ru
  obtain ⟨y, yr, rfl⟩ : ∃ y yr, ys = y :: yr := by
    cases ys with
    | nil => cases mx <;> simp [maxU, minU] at hm
    | cons y yr => exact ⟨y, yr, rfl⟩
  have ha : alikeAll (y :: yr) = true := by
    cases hh : alikeAll (y :: yr) with
    | true => rfl
    | false => cases mx <;> simp [maxU, minU, hh] at hm
  obtain ⟨hd, hal⟩ := alikeAll_of ha
  have hp := dats_plains hd
  have hp' := hp
  simp only [plains, Bool.and_eq_true] at hp'
  have hdep : X.A.units + 1 + PyData.depthAll (toD y :: yr.map toD) < cLine := by
    rw [← toDs_map, ← toDs, toDs_dep]
    simp only [dats, Bool.and_eq_true, decide_eq_true_eq] at hd
    omega
  have hal' : PySem.W.AlikeAll (toD y :: yr.map toD) := by rw [← toDs_map, ← toDs]; exact hal
  have rd : DpAll X.K H vs (toD y :: yr.map toD) := by rw [← toDs_map, ← toDs]; exact rr.dp hp
  have key : ∀ (its : List Value), Vals vs its → ∃ bs, ReadsAll σt.heap its (toD y :: yr.map toD) bs := fun its rv => Dp.readsAll I _ _ its rd rv
  cases mx with
  | false =>
    have ew : w = yr.foldl (fun a y => if ltD y a then y else a) y := by
      simp only [Bool.false_eq_true, if_false, minU, ha, if_true] at hm
      exact (Option.some.inj hm).symm
    obtain ⟨f1, f2⟩ := fold_toD ltD PySem.W.dataLt yr y hp'.1 hp'.2 (fun a b ha hb => ltD_eq ha hb)
    have emin : PySem.W.minD (toD y) (yr.map toD) = toD w := by rw [ew]; exact f1
    rw [← ew] at f2
    rcases hq with hq | hq
    · obtain ⟨its, rv2, ht, hz⟩ := I.list hq
      obtain ⟨bs, hr⟩ := key its rv2
      exact PySem.W.min_list_data (I.ok.hd hc) ht.isList (by simpa using hr) hal' hdep fun i v h' tk bs hv r hk => pick_rel I R rr rv2 hp f2 hk (by simpa using hv) (by rw [← emin]; exact r) p
    · obtain ⟨its, rv2, ht, hz⟩ := I.tuple hq
      obtain ⟨bs, hr⟩ := key its rv2
      exact PySem.W.min_tuple_data (I.ok.hd hc) (show σt.heap.IsTuple ad its.toArray from ht) (by simpa using hr) hal' hdep fun i v h' tk bs hv r hk => pick_rel I R rr rv2 hp f2 hk (by simpa using hv) (by rw [← emin]; exact r) p
  | true =>
    have ew : w = yr.foldl (fun a y => if ltD a y then y else a) y := by
      simp only [if_true, maxU, ha] at hm
      exact (Option.some.inj hm).symm
    obtain ⟨f1, f2⟩ := fold_toD (fun y a => ltD a y) (fun y a => PySem.W.dataLt a y) yr y hp'.1 hp'.2 (fun a b ha hb => ltD_eq hb ha)
    have emax : PySem.W.maxD (toD y) (yr.map toD) = toD w := by rw [ew]; exact f1
    rw [← ew] at f2
    rcases hq with hq | hq
    · obtain ⟨its, rv2, ht, hz⟩ := I.list hq
      obtain ⟨bs, hr⟩ := key its rv2
      exact PySem.W.max_list_data (I.ok.hd hc) ht.isList (by simpa using hr) hal' hdep fun i v h' tk bs hv r hk => pick_rel I R rr rv2 hp f2 hk (by simpa using hv) (by rw [← emax]; exact r) p
    · obtain ⟨its, rv2, ht, hz⟩ := I.tuple hq
      obtain ⟨bs, hr⟩ := key its rv2
      exact PySem.W.max_tuple_data (I.ok.hd hc) (show σt.heap.IsTuple ad its.toArray from ht) (by simpa using hr) hal' hdep fun i v h' tk bs hv r hk => pick_rel I R rr rv2 hp f2 hk (by simpa using hv) (by rw [← emax]; exact r) p
theorem call_max1_ (hc : X.calm = true) (hu : X.A.units + 64 < cLine) : CallR X (.builtin "max") (rA X.K C W (biU .max1)) := by
  intro pins σt σ H xs us Q I r h
  obtain ⟨g, s, as, R, ra, p⟩ := h
  match as, ra, p with
  | [], ra, p => exact (show False from p).elim
  | _ :: _ :: _, ra, p => exact (show False from p).elim
  | [u], ra, p =>
    simp only [biU] at p
    obtain ⟨w, e, p⟩ := p.of_
    cases h1 : seqOf s u with
    | none => rw [h1] at e; cases e
    | some ys =>
      rw [h1] at e
      exact minmax_ hc hu true pins σt σ H xs us Q I r ⟨g, s, [u], ys, w, R, ra, rfl, fun u' e' => by cases e'; exact h1, e, p⟩
theorem call_min1_ (hc : X.calm = true) (hu : X.A.units + 64 < cLine) : CallR X (.builtin "min") (rA X.K C W (biU .min1)) := by
  intro pins σt σ H xs us Q I r h
  obtain ⟨g, s, as, R, ra, p⟩ := h
  match as, ra, p with
  | [], ra, p => exact (show False from p).elim
  | _ :: _ :: _, ra, p => exact (show False from p).elim
  | [u], ra, p =>
    simp only [biU] at p
    obtain ⟨w, e, p⟩ := p.of_
    cases h1 : seqOf s u with
    | none => rw [h1] at e; cases e
    | some ys =>
      rw [h1] at e
      exact minmax_ hc hu false pins σt σ H xs us Q I r ⟨g, s, [u], ys, w, R, ra, rfl, fun u' e' => by cases e'; exact h1, e, p⟩
theorem call_max2_ (hc : X.calm = true) : CallR X (.builtin "max") (rA X.K C W (biU .max2)) := by
  intro pins σt σ H xs us Q I r h
  obtain ⟨g, s, as, R, ra, p⟩ := h
  unfold biU at p
  split at p <;> first | (rename_i e; cases e) | skip
  all_goals first
    | exact (show False from p).elim
    | (obtain ⟨v, v', rfl, h1, h2⟩ := rel2' ra
       cases h1; cases h2
       exact call_max2 hc pins σt σ H _ us Q I r ⟨_, _, rfl, Pst.val p R (.int _)⟩)
theorem call_min2_ (hc : X.calm = true) : CallR X (.builtin "min") (rA X.K C W (biU .min2)) := by
  intro pins σt σ H xs us Q I r h
  obtain ⟨g, s, as, R, ra, p⟩ := h
  unfold biU at p
  split at p <;> first | (rename_i e; cases e) | skip
  all_goals first
    | exact (show False from p).elim
    | (obtain ⟨v, v', rfl, h1, h2⟩ := rel2' ra
       cases h1; cases h2
       exact call_min2 hc pins σt σ H _ us Q I r ⟨_, _, rfl, Pst.val p R (.int _)⟩)
theorem call_tuple_ : CallR X (.type "tuple") (rA X.K C W (biU .tuple)) := by
  intro pins σt σ H xs us Q I r h
  obtain ⟨g, s, as, R, ra, p⟩ := h
  match as, ra, p with
  | [], ra, p => exact (show False from p).elim
  | _ :: _ :: _, ra, p => exact (show False from p).elim
  | [u], ra, p =>
    obtain ⟨v, rfl, rv⟩ := rel1' ra
    simp only [biU] at p
    cases u with
    | tup ys =>
      simp only [tupOf] at p
      cases rv with
      | tup h1 h2 h3 h4 => exact call_tupleN pins σt σ H _ us Q I r ⟨_, _, rfl, .inr ⟨h1.sq, Pst.val p R (.tup h1 h2 h3 h4)⟩⟩
    | _ =>
      simp only [tupOf] at p
      obtain ⟨w, e, p⟩ := p.of_
      first
        | (simp [lstOf] at e; done)
        | (obtain ⟨ys, h1, h2⟩ := Option.map_eq_some_iff.mp e
           subst h2
           obtain ⟨ad, vs, rfl, hq, z, rr⟩ := R.lstOf rv h1
           exact call_tupleN pins σt σ H _ us Q I r ⟨ad, vs, rfl, .inl ⟨SqL.of hq, Pst.tup p R z rr⟩⟩)
theorem call_list_ {m : Bool} : CallR X (.type "list") (rA X.K C W (biU (.list m))) := by
  intro pins σt σ H xs us Q I r h
  obtain ⟨g, s, as, R, ra, p⟩ := h
  match as, ra, p with
  | [], ra, p => exact (show False from p).elim
  | _ :: _ :: _, ra, p => exact (show False from p).elim
  | [u], ra, p =>
    obtain ⟨v, rfl, rv⟩ := rel1' ra
    simp only [biU] at p
    split at p
    · rename_i ys h1
      obtain ⟨ad, vs, rfl, hq, z, rr⟩ := R.seqOf rv h1
      exact call_list_of pins σt σ H _ us Q I r ⟨ad, vs, rfl, hq, fun l hl => Pst.mkL p R z rr l hl⟩
    · exact p.elim
theorem call_int_ : CallR X (.type "int") (rA X.K C W (biU .int)) := by
  intro pins σt σ H xs us Q I r h
  obtain ⟨g, s, as, R, ra, p⟩ := h
  match as, ra, p with
  | [], ra, p => exact (show False from p).elim
  | _ :: _ :: _, ra, p => exact (show False from p).elim
  | [u], ra, p =>
    obtain ⟨v, rfl, rv⟩ := rel1' ra
    simp only [biU] at p
    split at p
    · cases rv
      exact call_int1 pins σt σ H _ us Q I r (.inl ⟨_, rfl, Pst.val p R (.int _)⟩)
    · cases rv
      exact call_int1 pins σt σ H _ us Q I r (.inr ⟨_, rfl, Pst.val p R (.int _)⟩)
    · exact p.elim
theorem call_repr_ : CallR X (.builtin "repr") (rA X.K C W (biU .repr)) := by
  intro pins σt σ H xs us Q I r h
  obtain ⟨g, s, as, R, ra, p⟩ := h
  unfold biU at p
  split at p <;> first | (rename_i e; cases e) | skip
  all_goals first
    | exact (show False from p).elim
    | (obtain ⟨v, rfl, h1⟩ := rel1' ra
       cases h1
       obtain ⟨u1, rfl, ru⟩ := vals1 r
       cases ru
       exact PySem.P.repr_of_bool ⟨.str _, H, I.tok _, ⟨_, rfl⟩, Pst.val p R (.str _)⟩)

/-! ### sorted -/
theorem map_sort {α β : Type} (f : α → β) (le : β → β → Bool) (l : List α) : (l.mergeSort fun a b => le (f a) (f b)).map f = (l.map f).mergeSort le := by
  exact (List.map_mergeSort (r := fun a b => le (f a) (f b)) (s := le) (l := l) (f := f) (fun _ _ _ _ => rfl))
theorem zipP {K : PySem.W.Frag} {g : Gh} {H : Hp} : ∀ {us : List U} {vs : List V}, RelUs K g H us vs → ∀ p ∈ us.zip vs, RelU K g H p.1 p.2
  | _, _, .nil, p, h => by simp at h
  | _, _, .cons r t, p, h => by
    rw [List.zip_cons_cons] at h
    rcases List.mem_cons.mp h with rfl | h
    · exact r
    · exact zipP t p h
theorem ofPairs {K : PySem.W.Frag} {g : Gh} {H : Hp} : ∀ {ps : List (U × V)}, (∀ p ∈ ps, RelU K g H p.1 p.2) → RelUs K g H (ps.map (·.1)) (ps.map (·.2))
  | [], _ => .nil
  | p :: ps, h => .cons (h p List.mem_cons_self) (ofPairs fun q hq => h q (List.mem_cons_of_mem _ hq))
theorem sortable_of {us : List U} (h : sortable us = true) : dats us = true ∧ us.length ≤ sizeLine ∧ PySem.W.AllAlike (us.map toD) ∧ PySem.W.Sortable (us.map toD) := by
  simp only [sortable, Bool.and_eq_true, List.all_eq_true, decide_eq_true_eq] at h
  obtain ⟨⟨⟨h1, h2⟩, h4⟩, h3⟩ := h
  have hp := dats_plains h1
  refine ⟨h1, by rw [← line_eq]; exact h4, fun d hd d' hd' => ?_, ?_⟩
  · obtain ⟨a, ha, rfl⟩ := List.mem_map.mp hd
    obtain ⟨b, hb, rfl⟩ := List.mem_map.mp hd'
    rw [alike_eq a b (plain_mem hp ha) (plain_mem hp hb)]
    exact h2 a ha b hb
  · rw [Bool.or_eq_true, List.all_eq_true, List.all_eq_true] at h3
    rcases h3 with h3 | h3
    · refine .inl fun d hd => ?_
      obtain ⟨a, ha, rfl⟩ := List.mem_map.mp hd
      have := h3 a ha
      split at this
      · rename_i x r
        exact ⟨toD x, toDs r, by rw [toD, toDs]⟩
      · cases this
    · refine .inr fun d hd => ?_
      obtain ⟨a, ha, rfl⟩ := List.mem_map.mp hd
      have := h3 a ha
      split at this
      · exact ⟨by rw [toD]; exact (fun z => nomatch z), fun xs => by rw [toD]; exact (fun z => nomatch z)⟩
      · exact ⟨by rw [toD]; exact (fun z => nomatch z), fun xs => by rw [toD]; exact (fun z => nomatch z)⟩
      · cases this
theorem eachP {K : PySem.W.Frag} {g : Gh} {H : Hp} : ∀ {us : List U} {vs : List V} {its : List Value}, RelUs K g H us vs → Vals vs its → PySem.W.EachIs (fun v (b : U × V) => RelV b.2 v) its (us.zip vs)
  | _, _, _, .nil, .nil => .nil
  | _, _, _, .cons _ t, .cons r t' => .cons r (eachP t t')
theorem eachV {ps : List (U × V)} {out : List Value} (h : PySem.W.EachIs (fun v (b : U × V) => RelV b.2 v) out ps) : Vals (ps.map (·.2)) out := by
  induction h with
  | nil => exact .nil
  | cons h _ ih => exact .cons h ih
/-- behind the items' gathering: the new list, sorted -/
theorem sort_tail {A : Around} {E : Value → Shared → Prop} {pins : List (Addr × Obj)} {σ : L2.St} {H : Hp} {st : Shared} {g : Gh} {s : MS} {Q : VK} {us : List U} {vs : List V} {its : List Value} {m : Bool} (hu : A.units + 100 < cLine)
    (I : Inv X pins σ H st) (R : RS X.K C g s H) (rr : RelUs X.K g H us vs) (rv : Vals vs its) (hs : sortable us = true) (p : Pst X.K C (RelU X.K) W g H (mkL m (sortU us) s) Q) :
    wpAny (model X.prog X.w) A (newList its >>= fun l => holding [l] (call (.builtin "list.sort") [l]) >>= fun _ => (ret l : Sem PySem.Fin)) (fun fin s' => ∃ r, fin = .done (.ret r) ∧ EP X pins σ Q r s') E st := by
  obtain ⟨hd, hlen, hal, hk⟩ := sortable_of hs
  have hp := dats_plains hd
  have hl1 := rr.length
  have hl2 := rv.length
  refine wpAny_bind (wpAny_newList ?_ (by rw [← hl2, ← hl1]; exact hlen))
  have ho : (st.heap.push (seqObj "list" its.toArray 0)).get? st.heap.objs.size = some (seqObj "list" its.toArray 0) := Heap.get?_push_size _ rfl
  show wpAny _ _ _ _ _ { st with heap := st.heap.push (seqObj "list" its.toArray 0) }
  have I1 : Inv X pins σ H { st with heap := st.heap.push (seqObj "list" its.toArray 0) } := I.kept (t' := st.toks) fun b o e => Heap.get?_push_of_some _ e
  have er : PySem.W.EachIs (fun v (b : U × V) => ∃ as, Reads st.heap v (toD b.1) as ∧ plain b.1 = true) its (us.zip vs) := by
    have go : ∀ {us : List U} {vs : List V} {its : List Value}, RelUs X.K g H us vs → Vals vs its → plains us = true → PySem.W.EachIs (fun v (b : U × V) => ∃ as, Reads st.heap v (toD b.1) as ∧ plain b.1 = true) its (us.zip vs) := by
      intro us vs its rr rv hp
      induction its generalizing us vs with
      | nil => cases rv; cases rr; exact .nil
      | cons i its ih =>
        cases rv with
        | cons r1 t1 =>
          cases rr with
          | cons r2 t2 =>
            simp only [plains, Bool.and_eq_true] at hp
            exact .cons (let ⟨as, q⟩ := Dp.reads I _ _ _ (r2.dp hp.1) r1; ⟨as, q, hp.1⟩) (ih t2 t1 hp.2)
    exact go rr rv hp
  have er' : PySem.W.EachIs (fun v (b : U × V) => ∃ as, Reads (st.heap.push (seqObj "list" its.toArray 0)) v (toD b.1) as ∧ st.heap.objs.size ∉ as) its (us.zip vs) := er.mono fun v b ⟨as, r, pl⟩ => by
    refine ⟨as, PyProof.Rows.Reads.keeps (fun b o e => Heap.get?_push_of_some _ e) r, fun hm => ?_⟩
    obtain ⟨o, ho⟩ := reads_there _ _ _ (toD_lay _ pl) r _ hm
    exact absurd (Heap.lt_size ho) (Nat.lt_irrefl _)
  have emap : (us.zip vs).map (fun b : U × V => toD b.1) = us.map toD := by
    rw [show (fun b : U × V => toD b.1) = toD ∘ (·.1) from rfl, ← List.map_map, List.map_fst_zip (by omega)]
  refine wpAny_bind (wpAny_holding (PySem.W.list_sort_data (enc := fun b : U × V => toD b.1) (R := fun v (b : U × V) => RelV b.2 v) ho (eachP rr rv) er' (by rw [emap]; exact hal) (by rw [emap]; exact hk) (by rw [List.length_zip]; omega) (fun b hb => ?_) fun out hout e => ?_))
  · have hm : b.1 ∈ us := (List.of_mem_zip hb).1
    rw [toD_dep]
    have h1 := deps_mem hm
    simp only [dats, Bool.and_eq_true, decide_eq_true_eq] at hd
    have : A.in1.units = A.units + 1 := rfl
    omega
  · refine wpAny_pure ⟨_, rfl, ?_⟩
    obtain ⟨e', he'⟩ := PyProof.Rows.sortedHeap_at (vs := its) (out := out.toArray) ho
    have eord : (us.zip vs).mergeSort (PySem.W.dataLe false fun b : U × V => toD b.1) = (us.zip vs).mergeSort fun a b => leU a.1 b.1 := by
      refine PySem.W.sort_congr fun a ha b hb => ?_
      have pa := plain_mem hp (List.of_mem_zip ha).1
      have pb := plain_mem hp (List.of_mem_zip hb).1
      show (!PySem.W.dataLt (toD b.1) (toD a.1)) = leU a.1 b.1
      rw [ltD_eq pb pa]
      rfl
    rw [eord] at e
    have e1 := eachV e
    have e2 : ((us.zip vs).mergeSort fun a b => leU a.1 b.1).map (·.1) = sortU us := by
      rw [map_sort (fun b : U × V => b.1) leU, List.map_fst_zip (by omega)]
      rfl
    have rel : RelUs X.K g H (sortU us) (((us.zip vs).mergeSort fun a b => leU a.1 b.1).map (·.2)) := by
      rw [← e2]
      exact ofPairs fun q hq => zipP rr q (List.mem_mergeSort.mp hq)
    have hz : (sortU us).length ≤ sizeLine := by rw [sortU, List.length_mergeSort]; exact hlen
    have hf : H st.heap.objs.size = none := I.hok.fresh (Nat.le_refl _)
    refine ⟨.ref st.heap.objs.size, upd H st.heap.objs.size (.lst _), I.laid (t' := st.toks) (fun b u e => ?_) (Nat.le_refl _) ⟨by rw [← rel.length]; exact hz, out, e', e1, he'⟩, rfl, Pst.mkL p R hz rel _ hf⟩
    have hb : b < st.heap.objs.size := Heap.lt_size e
    rw [PyProof.Rows.sortedHeap_old (Nat.ne_of_lt hb) (by rw [size_push']; exact Nat.lt_succ_of_lt hb)]
    exact Heap.get?_push_of_some _ e
end
end Pv
set_option autoImplicit false
set_option Elab.async false
set_option linter.all false
set_option maxRecDepth 100000
set_option maxHeartbeats 1000000
namespace Pv
open PySem PySem.Spec PyProof.Rows L2
section
variable {X : Cx} {C : Nat → Addr} {W : Value → Hp → Prop}
/-- sorted(x), x gathered into its -/
theorem sorted_by {pins : List (Addr × Obj)} {σ : L2.St} {H : Hp} {st : Shared} {g : Gh} {s : MS} {Q : VK} {us : List U} {vs : List V} {m : Bool} {x : Value} (hu : X.A.units + 110 < cLine) (R : RS X.K C g s H) (rr : RelUs X.K g H us vs) (hs : sortable us = true) (p : Pst X.K C (RelU X.K) W g H (mkL m (sortU us) s) Q)
    (h : ∀ (P : List Value → Shared → Prop) (E : Value → Shared → Prop), (∀ its s', Inv X pins σ H s' → Vals vs its → P its s') → wpAny (model X.prog X.w) X.A.in1 (collect x) P E st) :
    wpAny (model X.prog X.w) X.A (call (.builtin "sorted") [x]) (EP X pins σ Q) X.xe st := by
  refine Calls.call_function_entry PyProof.Rows.kind_sorted PyProof.Rows.plain_sorted PyProof.Rows.entry_sorted (PyProof.Rows.args_sorted1 _) ?_
  unfold Builtin.«sorted»
  refine wpAny_bind (m := checkCount "sorted" 1 1 _) (wpAny_pure ?_)
  refine wpAny_bind (h _ _ fun its s' I' rv => ?_)
  have hu' : X.A.in1.units + 100 < cLine := by
    have : X.A.in1.units = X.A.units + 1 := rfl
    omega
  exact sort_tail hu' I' R rr rv hs p
theorem keys_relU {K : PySem.W.Frag} {g : Gh} {H : Hp} : ∀ ks : List Key, RelUs K g H (ks.map uKey) (ks.map kV)
  | [] => .nil
  | .inl i :: ks => .cons (.int i) (keys_relU ks)
  | .inr x :: ks => .cons (.str x) (keys_relU ks)
theorem raw_addr {κ : Type} {R : Nat → κ} : True := trivial
theorem call_sorted_ (hc : X.calm = true) (hu : X.A.units + 110 < cLine) {m : Bool} : CallR X (.builtin "sorted") (rA X.K C W (biU (.sorted m))) := by
  intro pins σt σ H xs us Q I r h
  obtain ⟨g, s, as, R, ra, p⟩ := h
  match as, ra, p with
  | [], ra, p => exact (show False from p).elim
  | _ :: _ :: _, ra, p => exact (show False from p).elim
  | [u], ra, p =>
    obtain ⟨v, rfl, rv⟩ := rel1' ra
    obtain ⟨u1, rfl, ru⟩ := vals1 r
    simp only [biU] at p
    split at p
    · rename_i ys h1
      split at p
      · rename_i hs
        unfold sortArg at h1
        split at h1
        · rename_i zs hq0
          cases h1
          obtain ⟨ad, vs, rfl, hq, z, rr⟩ := R.seqOf rv hq0
          cases ru
          refine sorted_by hu R rr hs p fun P E hP => ?_
          rcases hq with hq | hq
          · obtain ⟨its, rv2, ht, hz⟩ := I.list hq
            obtain ⟨o, ho, hcl, n, hd⟩ := ht.isList
            exact wpAny_collect_seq (hsz := by rw [List.size_toArray, ← rv2.length]; exact hz) ad (.inl rfl) ho hcl hd fun h' hk => hP _ _ (I.kept hk) (by simpa using rv2)
          · obtain ⟨its, rv2, ht, hz⟩ := I.tuple hq
            obtain ⟨o, ho, hcl, n, hd⟩ := ht
            exact wpAny_collect_seq (hsz := by rw [List.size_toArray, ← rv2.length]; exact hz) ad (.inr rfl) ho hcl hd fun h' hk => hP _ _ (I.kept hk) (by simpa using rv2)
        · split at h1
          · rename_i kvs hq0
            cases h1
            obtain ⟨ad, vs, rfl, hq, z, rr⟩ := R.dKOf rv hq0
            cases ru
            have e1 : (kvs.map fun p => uKey p.1) = (kvs.map (·.1)).map uKey := by rw [List.map_map]; rfl
            rw [e1] at hs p
            refine sorted_by hu R (keys_relU (kvs.map (·.1))) hs p fun P E hP => ?_
            obtain ⟨z2, lo, ws, rel, dd⟩ := dk_rd I.hok hq
            obtain ⟨ep, hat⟩ := dd.dictAt
            have ek : kvs.map (·.1) = ws.map (·.1) := by
              have e := rel.keys
              rw [List.map_fst_zip (by have := rr.length; simp at this; simp; omega)] at e
              exact e
            refine PySem.W.kdu_collect (PySem.W.kdl_dict (knd := mixKind X.prog X.w) (kvs := ws) (ep := ep) lo) (I.ok.hd hc) hat (by rw [← rel.length]; exact z2) fun h' tk acc hk hacc => ?_
            refine hP _ _ (I.kept hk) ?_
            have hv : Vals (ws.map fun p => kV p.1) acc.toList := keys_at (by rw [Array.length_toList]; exact hacc.1) fun j v e => hacc.2 j v (by rw [← Array.getElem?_toList]; exact e)
            have e2 : (ws.map fun p => kV p.1) = (kvs.map (·.1)).map kV := by rw [ek, List.map_map]; rfl
            rw [← e2]
            exact hv
          · obtain ⟨kvs, hq0, h1⟩ := Option.bind_eq_some_iff.mp h1
            split at h1
            case isFalse => cases h1
            rename_i hne
            cases h1
            obtain ⟨ad, vs, rfl, hq, z, rr⟩ := R.dTOf rv hq0
            cases ru
            have hl := rr.length
            have hlz : ((kvs.map (·.1)).zip vs).length = kvs.length := by rw [List.length_zip, ← hl]; simp
            obtain ⟨z2, lo, xs, rel, o, es, ep, ho, hx, hd, hes, hnd⟩ := (show ObjOk X.prog X.w H σt.heap ad (.dT ((kvs.map (·.1)).zip vs)) from rd_of I.hok hq)
            have ew := Paired.length rel
            have esz : es.size = xs.length := by rw [← Array.length_toList, hes, List.length_map]
            -- the keys, by their tuples
            have keyAt : ∀ {kv : List (List Key × V)} {xs : List (List Key × Addr × Value)}, L2.KT H kv xs → (∀ p ∈ kv, p.1.length = keyLen ∧ p.1.all isStrK = false) → RelUs X.K g H (kv.map fun p => uTKey p.1) (xs.map fun q => V.ref q.2.1) := by
              intro kv xs h
              induction h with
              | nil => exact fun _ => .nil
              | cons h _ ih =>
                intro hn
                obtain ⟨h1, h2, _⟩ := h
                refine .cons ?_ (ih fun p hp => hn p (List.mem_cons_of_mem _ hp))
                obtain ⟨hz, _⟩ := (show ObjOk X.prog X.w H σt.heap _ (.tup _) from I.hok _ _ h2)
                exact .tup (TupP.old h2 (dictish_keys (hn _ (List.mem_cons_self ..)).1 (hn _ (List.mem_cons_self ..)).2)) (R.tupNo h2) (by rw [List.length_map] at hz ⊢; exact hz) (keys_relU _)
            have rk : RelUs X.K g H (kvs.map fun p => uTKey p.1) (xs.map fun q => V.ref q.2.1) := by
              have e := keyAt rel fun p hp => by
                obtain ⟨q, hq1, hq2⟩ := List.mem_map.mp (List.of_mem_zip (b := p.2) (a := p.1) hp).1
                have := List.all_eq_true.mp hne q hq1
                rw [← hq2]
                simpa only [Bool.and_eq_true, decide_eq_true_eq, Bool.not_eq_true'] using this
              have e2 : (((kvs.map (·.1)).zip vs).map fun p => uTKey p.1) = kvs.map fun p => uTKey p.1 := by
                rw [show (fun p : List Key × V => uTKey p.1) = uTKey ∘ (·.1) from rfl, ← List.map_map, List.map_fst_zip (by rw [List.length_map, ← hl, List.length_map]; exact Nat.le_refl _), List.map_map]
                rfl
              rw [e2] at e
              exact e
            refine sorted_by hu R rk hs p fun P E hP => ?_
            refine PySem.W.kdu_collect (PySem.KdlSrc.rawDict (es := es) (ep := ep) lo) (I.ok.hd hc) ⟨o, ho, hx, hd⟩ (by rw [esz, ← ew]; exact z2) fun h' tk acc hk hacc => ?_
            refine hP _ _ (I.kept hk) ?_
            have hal : acc.toList.length = xs.length := by rw [Array.length_toList, hacc.1, esz]
            have go : ∀ (xs : List (List Key × Addr × Value)) (us : List Value), us.length = xs.length → (∀ (j : Nat) v, us[j]? = some v → ∃ q, xs[j]? = some q ∧ v = .ref q.2.1) → Vals (xs.map fun q => V.ref q.2.1) us := by
              intro xs
              induction xs with
              | nil => intro us hl _; cases us with
                | nil => exact .nil
                | cons _ _ => simp at hl
              | cons x xs ih =>
                intro us hl h
                cases us with
                | nil => simp at hl
                | cons u us =>
                  refine .cons ?_ (ih us (by simpa using hl) fun j v e => ?_)
                  · obtain ⟨q, e1, e2⟩ := h 0 u rfl
                    cases e1
                    exact e2
                  · obtain ⟨q, e1, e2⟩ := h (j + 1) v (by simpa using e)
                    exact ⟨q, by simpa using e1, e2⟩
            refine go xs acc.toList hal fun j v e => ?_
            obtain ⟨hj, ev⟩ := hacc.2 j v (by rw [← Array.getElem?_toList]; exact e)
            have hj' : j < xs.length := by rw [← esz]; exact hj
            refine ⟨xs[j], List.getElem?_eq_getElem hj', ?_⟩
            rw [ev]
            have e4 : es.toList[j]? = some (entryOfKey (tupleKind (mixKind X.prog X.w)) xs[j]) := by rw [hes, List.getElem?_map, List.getElem?_eq_getElem hj']; rfl
            rw [Array.getElem?_toList, Array.getElem?_eq_getElem hj] at e4
            rw [Option.some.inj e4]
            rfl
      · exact p.elim
    · exact p.elim
/-! ### isinstance -/
def tyName : TY → String
  | .int => "int" | .bool => "bool" | .str => "str" | .tup => "tuple" | .lst => "list"
/-- the type of a value -/
def tyOfU (s : MS) : U → Option String
  | .non => some "NoneType"
  | .bl _ => some "bool"
  | .int _ => some "int"
  | .str _ => some "str"
  | .tup _ => some "tuple"
  | .lst _ => some "list"
  | .obj n => match s[n]? with
    | some (.lst _) => some "list"
    | _ => none
  | _ => none
theorem tyX_of {K : PySem.W.Frag} {g : Gh} {s : MS} {H : Hp} {u : U} {v : V} {T : String} (R : RS K C g s H) (r : RelU K g H u v) (h : tyOfU s u = some T) : TyX K H v (.type T) := by
  cases r <;> simp only [tyOfU] at h
  case non => cases h; exact .base .non
  case bl b => cases h; exact .base (.bl b)
  case int i => cases h; exact .base (.int i)
  case str x => cases h; exact .base (.str x)
  case tup h1 h2 h3 h4 =>
    cases h
    rcases h1.rd with q | ⟨o, q⟩
    · exact .base (.tup q)
    · exact .fTuple q
  case lst h1 h2 h3 h4 => cases h; exact .base (.lst h1)
  case obj n a ha =>
    split at h
    · rename_i ys e
      cases h
      obtain ⟨z, vs, q, _⟩ := R.at_ n _ a e ha
      exact .base (.lst q)
    · cases h
  all_goals cases h
theorem isi_kit {K : PySem.W.Frag} {s : MS} {u : U} {ts : List TY} {b : Bool} (h : isiU s u ts = some b) : ∃ T, tyOfU s u = some T ∧ ∀ t ∈ ts, ∃ k, PySem.W.kitOne K (.type T) (.type (tyName t)) = some k := by
  have all : ∀ T, (T = "NoneType" ∨ T = "bool" ∨ T = "int" ∨ T = "str" ∨ T = "tuple" ∨ T = "list") → ∀ t : TY, ∃ k, PySem.W.kitOne K (.type T) (.type (tyName t)) = some k := by
    intro T hT t
    rcases hT with rfl | rfl | rfl | rfl | rfl | rfl <;> cases t <;> first
      | exact ⟨true, kit_ty (by decide +kernel)⟩
      | exact ⟨false, kit_ty (by decide +kernel)⟩
  unfold isiU at h
  split at h
  · exact ⟨"NoneType", rfl, fun t _ => all _ (by simp) t⟩
  · exact ⟨"bool", rfl, fun t _ => all _ (by simp) t⟩
  · exact ⟨"int", rfl, fun t _ => all _ (by simp) t⟩
  · exact ⟨"str", rfl, fun t _ => all _ (by simp) t⟩
  · exact ⟨"tuple", rfl, fun t _ => all _ (by simp) t⟩
  · exact ⟨"list", rfl, fun t _ => all _ (by simp) t⟩
  · split at h
    · rename_i e
      exact ⟨"list", by simp [tyOfU, e], fun t _ => all _ (by simp) t⟩
    · cases h
  · cases h
/-- what isinstance says of one class -/
def isi1 (T : String) (t : TY) : Bool := T == tyName t || (T == "bool" && tyName t == "int")
theorem kit1 {K : PySem.W.Frag} {T : String} (hT : T = "NoneType" ∨ T = "bool" ∨ T = "int" ∨ T = "str" ∨ T = "tuple" ∨ T = "list") (t : TY) : PySem.W.kitOne K (.type T) (.type (tyName t)) = some (isi1 T t) := by
  rcases hT with rfl | rfl | rfl | rfl | rfl | rfl <;> cases t <;> exact kit_ty (by decide +kernel)
theorem tyOf_cases {s : MS} {u : U} {T : String} (h : tyOfU s u = some T) : T = "NoneType" ∨ T = "bool" ∨ T = "int" ∨ T = "str" ∨ T = "tuple" ∨ T = "list" := by
  unfold tyOfU at h
  split at h <;> first | (cases h; simp; done) | (cases h; done) | skip
  split at h
  · cases h; simp
  · cases h
theorem isi_val {s : MS} {u : U} {ts : List TY} {b : Bool} (h : isiU s u ts = some b) : ∃ T, tyOfU s u = some T ∧ b = ts.any (isi1 T) := by
  have one : ∀ (T : String) (t : TY), tyName t = T → T ≠ "bool" → ∀ ts : List TY, ts.any (isi1 T) = ts.contains t := by
    intro T t ht hb ts
    induction ts with
    | nil => rfl
    | cons a ts ih =>
      rw [List.any_cons, List.contains_cons, ih]
      congr 1
      subst ht
      cases t <;> cases a <;> first | rfl | decide | (exact absurd rfl hb)
  have nn : ∀ ts : List TY, ts.any (isi1 "NoneType") = false := by
    intro ts
    induction ts with
    | nil => rfl
    | cons a ts ih => rw [List.any_cons, ih]; cases a <;> decide
  have bb : ∀ ts : List TY, ts.any (isi1 "bool") = (ts.contains .bool || ts.contains .int) := by
    intro ts
    induction ts with
    | nil => rfl
    | cons a ts ih =>
      rw [List.any_cons, List.contains_cons, List.contains_cons, ih]
      cases a <;> simp [isi1, tyName] <;> (try rfl) <;> (cases ts.contains .bool <;> cases ts.contains .int <;> rfl)
  unfold isiU at h
  split at h
  · cases h; exact ⟨"NoneType", rfl, (nn ts).symm⟩
  · cases h; exact ⟨"bool", rfl, (bb ts).symm⟩
  · cases h; exact ⟨"int", rfl, (one "int" .int rfl (by decide) ts).symm⟩
  · cases h; exact ⟨"str", rfl, (one "str" .str rfl (by decide) ts).symm⟩
  · cases h; exact ⟨"tuple", rfl, (one "tuple" .tup rfl (by decide) ts).symm⟩
  · cases h; exact ⟨"list", rfl, (one "list" .lst rfl (by decide) ts).symm⟩
  · split at h
    · rename_i e
      cases h
      exact ⟨"list", by simp [tyOfU, e], (one "list" .lst rfl (by decide) ts).symm⟩
    · cases h
  · cases h
theorem kitAll {K : PySem.W.Frag} {T : String} (hT : T = "NoneType" ∨ T = "bool" ∨ T = "int" ∨ T = "str" ∨ T = "tuple" ∨ T = "list") : ∀ ts : List TY, PySem.W.kitAny K (.type T) (ts.map fun t => .type (tyName t)) = some (ts.any (isi1 T))
  | [] => kitAny_nil
  | t :: ts => by
    rw [List.map_cons]
    refine kitAny_cons (kit1 hT t) (fun e => ?_) (fun e => ?_)
    · rw [List.any_cons, e, Bool.false_or]
      exact kitAll hT ts
    · rw [List.any_cons, e, Bool.true_or]
/-- isinstance of one class, a built-in's -/
theorem isi_one {t : TY} : CallR X (.builtin "isinstance") (fun vs H Q => ∃ g s u x, RS X.K C g s H ∧ RelU X.K g H u x ∧ vs = [x, .ty (tyName t)] ∧ Pst X.K C (RelU X.K) W g H (Rv.of ((isiU s u [t]).map .bl) s) Q) := by
  intro pins σt σ H xs us Q I r h
  obtain ⟨g, s, u, x, R, rx, rfl, p⟩ := h
  obtain ⟨b, e, q⟩ := cmp_of R p
  obtain ⟨T, hT, eb⟩ := isi_val e
  refine call_isi pins σt σ H _ us Q I r ⟨x, .ty (tyName t), .type T, .type (tyName t), b, rfl, .ty _, tyX_of R rx hT, ?_, q⟩
  · rw [eb]
    simp only [List.any_cons, List.any_nil, Bool.or_false]
    exact kit1 (tyOf_cases hT) t
end
end Pv
set_option autoImplicit false
set_option Elab.async false
set_option linter.all false
set_option maxRecDepth 100000
set_option maxHeartbeats 1000000
namespace Pv
open PySem PySem.Spec PyProof.Rows L2
section
variable {prog : Program} {w : World} {A : Around} {E : Value → Shared → Prop} {s : Shared}
theorem back_places (n : Nat) : Builtin.Slice.slicePlaces ((n : Int) - 1) (-1) (-1) = n := by
  unfold Builtin.Slice.slicePlaces
  rw [if_neg (by decide)]
  cases n with
  | zero => rfl
  | succ n =>
    rw [if_pos (by omega)]
    have : (((n + 1 : Nat) : Int) - 1 - -1 - 1) / (- -1 : Int) + 1 = ((n + 1 : Nat) : Int) := by
      rw [show (- -1 : Int) = 1 by decide, Int.ediv_one]
      omega
    rw [this]
    rfl
theorem back_applied {sl : Addr} {vl vu vs : Value} {n : Nat} {Q : Int × Int × Nat → Shared → Prop} (hs : s.heap.IsSliceOf sl vl vu vs) (p1 : IsPart vl none) (p2 : IsPart vu none) (p3 : IsPart vs (some (-1))) (h : Q ((n : Int) - 1, -1, n) s) :
    wpAny (model prog w) A (Builtin.Slice.sliceApplied (.ref sl) (pure (n : Int))) Q E s := by
  obtain ⟨oS, hoS, _, hdS⟩ := id hs
  unfold Builtin.Slice.sliceApplied Builtin.Slice.sliceFields
  refine wpAny_bind (wpAny_bind (wpAny_field hoS hdS (x := vl) rfl ?_))
  refine wpAny_bind (wpAny_field hoS hdS (x := vu) rfl ?_)
  refine wpAny_bind (wpAny_field hoS hdS (x := vs) rfl (wpAny_pure ?_))
  refine wpAny_bind (HT.slicePart_ p3 ?_)
  show wpAny _ _ (if ((-1 : Int) == 0) = true then _ else _) _ _ s
  rw [if_neg (by decide)]
  refine wpAny_bind (HT.slicePart_ p1 ?_)
  refine wpAny_bind (HT.slicePart_ p2 (wpAny_bind (wpAny_pure ?_)))
  show wpAny _ _ (pure ((n : Int) - 1, (-1 : Int), Builtin.Slice.slicePlaces ((n : Int) - 1) (-1) (-1))) _ _ s
  rw [back_places]
  exact wpAny_pure h
theorem filterMap_all {α β : Type} {f : α → Option β} {g : α → β} : ∀ {l : List α}, (∀ k ∈ l, f k = some (g k)) → l.filterMap f = l.map g
  | [], _ => rfl
  | x :: r, h => by
    rw [List.filterMap_cons, h x List.mem_cons_self, List.map_cons, filterMap_all fun k hk => h k (List.mem_cons_of_mem _ hk)]
theorem back_pick (xs : Array Value) : ((List.range xs.size).filterMap fun (k : Nat) => xs[(((xs.size : Int) - 1) + (k : Int) * (-1)).toNat]?).toArray = xs.toList.reverse.toArray := by
  congr 1
  apply List.ext_getElem?
  intro i
  by_cases hi : i < xs.size
  · have e : ∀ k ∈ List.range xs.size, (xs[(((xs.size : Int) - 1) + (k : Int) * (-1)).toNat]?) = some (xs[xs.size - 1 - k]!) := by
      intro k hk
      have hk' : k < xs.size := List.mem_range.mp hk
      have e1 : (((xs.size : Int) - 1) + (k : Int) * (-1)).toNat = xs.size - 1 - k := by omega
      rw [e1, Array.getElem?_eq_getElem (by omega), getElem!_pos xs (xs.size - 1 - k) (by omega)]
    rw [filterMap_all e, List.getElem?_map, List.getElem?_range hi, List.getElem?_reverse (by simpa using hi)]
    simp only [Option.map_some, Array.length_toList]
    rw [Array.getElem?_toList, getElem!_pos xs (xs.size - 1 - i) (by omega), Array.getElem?_eq_getElem (by omega)]
  · have h1 : ((List.range xs.size).filterMap fun (k : Nat) => xs[(((xs.size : Int) - 1) + (k : Int) * (-1)).toNat]?).length ≤ i := by
      have := List.length_filterMap_le (fun (k : Nat) => xs[(((xs.size : Int) - 1) + (k : Int) * (-1)).toNat]?) (List.range xs.size)
      rw [List.length_range] at this
      omega
    rw [List.getElem?_eq_none h1, List.getElem?_eq_none (by simp; omega)]
theorem tup_back {t sl : Addr} {items : Array Value} {vl vu vs : Value} {Q : Value → Shared → Prop} (ht : IsTup s.heap t items) (hs : s.heap.IsSliceOf sl vl vu vs) (p1 : IsPart vl none) (p2 : IsPart vu none) (p3 : IsPart vs (some (-1))) (hz : items.size ≤ sizeLine)
    (h : Q (.ref s.heap.objs.size) { s with heap := s.heap.push { cls := .type "tuple", data := .seq items.toList.reverse.toArray } }) : wpAny (model prog w) A (getItem (.ref t) (.ref sl)) Q E s := by
  have hT : s.TypeIs (.ref sl) "slice" := by
    obtain ⟨o1, h1, h2, _⟩ := id hs
    exact ⟨o1, h1, h2⟩
  have hok : sizeOk (.seq items.toList.reverse.toArray) := by
    show items.toList.reverse.toArray.size ≤ sizeLine
    rw [List.size_toArray, List.length_reverse, Array.length_toList]
    exact hz
  unfold getItem
  try with_reducible refine wpAny_holding ?_
  first | refine wpAny_bind (wpAny_pure ?_) | skip
  refine wpAny_bind (wpAny_sequenceKey ht.typeIs (by decide) ?_)
  refine wpAny_bind (wpAny_callSpecial?_slot (name := Str.ofString "__getitem__") ht.typeIs PyProof.Rows.slot_tuple_getitem (wpAny_call_entry PyProof.Rows.slot_tuple_getitem ht.typeIs PyProof.Rows.entry_tuple_getitem ?_ (PyProof.Rows.args_tuple_getitem _ _)))
  show wpAny _ _ (Builtin.Tuple.tupleItemsOf (.ref t) >>= _) _ _ s
  refine wpAny_bind (PyProof.Rows.tupleItemsOf_ ht (wpAny_bind (wpAny_typeOf hT ?_)))
  rw [if_pos (by decide)]
  refine wpAny_bind (back_applied hs p1 p2 p3 ?_)
  show wpAny _ _ (if (((items.size : Int) - 1) == 0 && (-1 : Int) == 1 && items.size == items.size) = true then _ else _) _ _ s
  rw [if_neg (by rw [show ((-1 : Int) == 1) = false from rfl, Bool.and_false, Bool.false_and]; exact Bool.false_ne_true), back_pick]
  first
    | exact wpAny_bind (m := Builtin.Tuple.tupleExact _) (wpAny_newObj_type (wpAny_pure ⟨_, rfl, wpAny_pure h⟩) hok)
    | exact wpAny_bind (m := Builtin.Tuple.tupleExact _) (wpAny_newObj_type (wpAny_bind (wpAny_pure (wpAny_pure ⟨_, rfl, wpAny_pure h⟩))) hok)
    | exact wpAny_bind (wpAny_bind (m := Builtin.Tuple.tupleExact _) (wpAny_newObj_type (wpAny_pure (wpAny_pure ⟨_, rfl, wpAny_pure h⟩)) hok))
    | exact wpAny_bind (wpAny_bind (m := Builtin.Tuple.tupleExact _) (wpAny_newObj_type (wpAny_pure ⟨_, rfl, wpAny_pure h⟩) hok))
end
section
variable {X : Cx}
/-- x[::-1] of a list or a tuple -/
def tRev (K : PySem.W.Frag) (te : TE) : TE := fun σ H Q => te σ H fun x H1 => ∃ a xs, x = .ref a ∧ ((SqL K H1 a xs ∧ ∀ p, H1 p = none → Q (.ref p) (upd H1 p (.lst xs.reverse))) ∨ (SqT K H1 a xs ∧ NewT H1 xs.reverse Q))
theorem pe_rev {e : Expr} {te : TE} {k : Nat} {p1 p2 p3 pos : Pos} (he : PE X e te) : PE X (.Subscript e (.Slice none none (some (.UnaryOp .USub (.Constant (.int 1) k p1) p2)) p3) pos) (tRev X.K te) := by
  refine ⟨fun pins s σ H Q I h => Subscript_ (thn (he.run pins s σ H _ I h) fun v s1 ⟨x, H1, I1, r1, q1⟩ => ?_)⟩
  obtain ⟨a, xs, ex, hq⟩ := q1
  subst ex
  cases r1
  have back : PO X (some (.UnaryOp .USub (.Constant (.int 1) k p1) p2)) (tPart (tUn (rU fun i => .int (-i)) (tC (.int 1)))) := po_some (pe_un un_neg pe_int)
  refine wpAny_Slice (thn (po_none.run pins s1 σ H1 (fun o G => o = none ∧ G = H1) I1 ⟨rfl, rfl⟩) fun vl s2 ⟨l, G2, I2, pl, el, eG2⟩ => ?_)
  subst el eG2
  refine thn (po_none.run pins s2 σ G2 (fun o G => o = none ∧ G = G2) I2 ⟨rfl, rfl⟩) fun vu s3 ⟨u, G3, I3, pu, eu, eG3⟩ => ?_
  subst eu eG3
  refine thn (back.run pins s3 σ G3 (fun o G => o = some (-1) ∧ G = G3) I3 ⟨1, rfl, -1, rfl, rfl, rfl⟩) fun vs s4 ⟨o, G4, I4, ps, eo, eG4⟩ => ?_
  subst eo eG4
  have I5 : Inv X pins σ G4 { s4 with heap := s4.heap.push { cls := .type "slice", data := .fields #[vl, vu, vs] } } := I4.kept (t' := s4.toks) fun b ob q => Heap.get?_push_of_some _ q
  rcases hq with ⟨hx, q⟩ | ⟨hx, q⟩
  · obtain ⟨its, r, ht, hz⟩ := I5.list hx
    have hl := r.length
    refine tail_any (ops := [.ref a, .ref s4.heap.objs.size]) ht.isList.typeIs PySem.slot_list_getitem.lookup ?_ (by with_unfolding_all rfl)
    refine wpAny_getItem_list_slice ht.isList (Heap.IsSliceOf.new _ vl vu vs) pl pu ps (by decide) ?_ (by rw [List.size_toArray]; omega)
    rw [PySem.W.krv_pick]
    refine ⟨.ref _, _, I5.laid (t' := s4.toks) (o := .lst xs.reverse) (fun b ob q => Heap.get?_push_of_some _ q) (Nat.le_refl _) ?_, rfl, q _ (I5.hok.fresh (Nat.le_refl _))⟩
    exact ⟨by rw [List.length_reverse]; exact hz, its.reverse, 0, r.reverse, Heap.get?_push_size _ rfl⟩
  · obtain ⟨its, r, ht, hz⟩ := I5.tuple hx
    have hl := r.length
    refine tail_any (ops := [.ref a, .ref s4.heap.objs.size]) ht.typeIs PyProof.Rows.slot_tuple_getitem.lookup ?_ (by with_unfolding_all rfl)
    refine tup_back ht (Heap.IsSliceOf.new _ vl vu vs) pl pu ps (by rw [List.size_toArray]; omega) ?_
    exact newT I5 s4.toks r.reverse (by rw [List.length_reverse]; exact hz) q
end
end Pv
set_option autoImplicit false
set_option Elab.async false
set_option linter.all false
set_option maxRecDepth 100000
set_option maxHeartbeats 1000000
namespace Pv
open PySem PySem.Spec PyProof.Rows L2

/-! ### readings of runs -/
section
variable (K : PySem.W.Frag) (C : Nat → Addr) (E : XK)
abbrev WOf : Value → Hp → Prop := fun c H' => E c none H'
def eEv (m : SU → MS → Rv U) : TE := fun σ H Q => ∃ g su s, RS K C g s H ∧ RSt K g H su σ ∧ Pst K C (RelU K) (WOf E) g H (m su s) Q
def tEv (m : SU → MS → Rv Bool) : TT := fun σ H Q => ∃ g su s, RS K C g s H ∧ RSt K g H su σ ∧ Pst K C (fun _ _ a b => a = b) (WOf E) g H (m su s) Q
def aEv (m : SU → MS → Rv (List U)) : TA := fun σ H Q => ∃ g su s, RS K C g s H ∧ RSt K g H su σ ∧ Pst K C (RelUs K) (WOf E) g H (m su s) Q
def oEv (m : SU → MS → Rv (Option Int)) : TO := fun σ H Q => ∃ g su s, RS K C g s H ∧ RSt K g H su σ ∧ Pst K C (fun _ _ a b => a = b) (WOf E) g H (m su s) Q
end
section
variable {K : PySem.W.Frag} {C : Nat → Addr} {E : XK} {α β : Type} {R : Gh → Hp → α → β → Prop}
theorem eEv_seq {ma : SU → MS → Rv U} {f : SU → U → MS → Rv α} {g : Gh} {su : SU} {s : MS} {σ : L2.St} {H : Hp} {Q : β → Hp → Prop} (rs : RS K C g s H) (r : RSt K g H su σ) (p : Pst K C R (WOf E) g H ((ma su s).bind (f su)) Q) :
    eEv K C E ma σ H (fun v H1 => ∃ g1 s1 u, RS K C g1 s1 H1 ∧ RSt K g1 H1 su σ ∧ RelU K g1 H1 u v ∧ Ext g H g1 H1 ∧ Pst K C R (WOf E) g1 H1 (f su u s1) Q) :=
  ⟨g, su, s, rs, r, (Pst.bind (R := RelU K) p).mono fun v H1 ⟨g1, s1, u, rs1, e, ru, p1⟩ => ⟨g1, s1, u, rs1, r.ext e, ru, e, p1⟩⟩
theorem aEv_seq {ma : SU → MS → Rv (List U)} {f : SU → List U → MS → Rv α} {g : Gh} {su : SU} {s : MS} {σ : L2.St} {H : Hp} {Q : β → Hp → Prop} (rs : RS K C g s H) (r : RSt K g H su σ) (p : Pst K C R (WOf E) g H ((ma su s).bind (f su)) Q) :
    aEv K C E ma σ H (fun v H1 => ∃ g1 s1 u, RS K C g1 s1 H1 ∧ RSt K g1 H1 su σ ∧ RelUs K g1 H1 u v ∧ Ext g H g1 H1 ∧ Pst K C R (WOf E) g1 H1 (f su u s1) Q) :=
  ⟨g, su, s, rs, r, (Pst.bind (R := RelUs K) p).mono fun v H1 ⟨g1, s1, u, rs1, e, ru, p1⟩ => ⟨g1, s1, u, rs1, r.ext e, ru, e, p1⟩⟩
theorem tEv_seq {ma : SU → MS → Rv Bool} {f : SU → Bool → MS → Rv α} {g : Gh} {su : SU} {s : MS} {σ : L2.St} {H : Hp} {Q : β → Hp → Prop} (rs : RS K C g s H) (r : RSt K g H su σ) (p : Pst K C R (WOf E) g H ((ma su s).bind (f su)) Q) :
    tEv K C E ma σ H (fun b H1 => ∃ g1 s1, RS K C g1 s1 H1 ∧ RSt K g1 H1 su σ ∧ Ext g H g1 H1 ∧ Pst K C R (WOf E) g1 H1 (f su b s1) Q) :=
  ⟨g, su, s, rs, r, (Pst.bind (R := fun _ _ a b => a = b) p).mono fun v H1 ⟨g1, s1, u, rs1, e, ru, p1⟩ => by subst ru; exact ⟨g1, s1, rs1, r.ext e, e, p1⟩⟩
theorem oEv_seq {ma : SU → MS → Rv (Option Int)} {f : SU → Option Int → MS → Rv α} {g : Gh} {su : SU} {s : MS} {σ : L2.St} {H : Hp} {Q : β → Hp → Prop} (rs : RS K C g s H) (r : RSt K g H su σ) (p : Pst K C R (WOf E) g H ((ma su s).bind (f su)) Q) :
    oEv K C E ma σ H (fun b H1 => ∃ g1 s1, RS K C g1 s1 H1 ∧ RSt K g1 H1 su σ ∧ Ext g H g1 H1 ∧ Pst K C R (WOf E) g1 H1 (f su b s1) Q) :=
  ⟨g, su, s, rs, r, (Pst.bind (R := fun _ _ a b => a = b) p).mono fun v H1 ⟨g1, s1, u, rs1, e, ru, p1⟩ => by subst ru; exact ⟨g1, s1, rs1, r.ext e, e, p1⟩⟩
end
theorem PE.imp {X : Cx} {e : Expr} {t t' : TE} (h : PE X e t) (i : ∀ σ H Q, t' σ H Q → t σ H Q) : PE X e t' := ⟨fun pins s σ H Q I q => h.run pins s σ H Q I (i σ H Q q)⟩
theorem PT.imp {X : Cx} {e : Expr} {t t' : TT} (h : PT X e t) (i : ∀ σ H Q, t' σ H Q → t σ H Q) : PT X e t' := ⟨fun pins s σ H Q I q => h.run pins s σ H Q I (i σ H Q q)⟩
theorem PW.imp {X : Cx} {e : Expr} {t t' : TT} (h : PW X e t) (i : ∀ σ H Q, t' σ H Q → t σ H Q) : PW X e t' := ⟨fun wh pins s σ H Q I q => h.run wh pins s σ H Q I (i σ H Q q)⟩
theorem PA.imp {X : Cx} {e : List Expr} {t t' : TA} (h : PA X e t) (i : ∀ σ H Q, t' σ H Q → t σ H Q) : PA X e t' := ⟨fun pos pins s σ H Q I q => h.run pos pins s σ H Q I (i σ H Q q)⟩
theorem PO.imp {X : Cx} {e : Option Expr} {t t' : TO} (h : PO X e t) (i : ∀ σ H Q, t' σ H Q → t σ H Q) : PO X e t' := ⟨fun pins s σ H Q I q => h.run pins s σ H Q I (i σ H Q q)⟩
theorem PTs.imp {X : Cx} {e : List Expr} {t t' : TT} (h : PTs X e t) (i : ∀ σ H Q, t' σ H Q → t σ H Q) : PTs X e t' := ⟨fun pins s σ H Q I q => h.run pins s σ H Q I (i σ H Q q)⟩
theorem PI.imp {X : Cx} {tg e : Expr} {t t' : TI} (h : PI X tg e t) (i : ∀ σ H R, t' σ H R → t σ H R) : PI X tg e t' := ⟨fun pins s σ H R I q => h.run pins s σ H R I (i σ H R q)⟩
theorem PS.imp {X : Cx} {e : Stmt} {t t' : TS} (h : PS X e t) (i : ∀ D σ H, t' D σ H → t D σ H) : PS X e t' := ⟨fun pins s σ H D I q => h.run pins s σ H D I (i D σ H q)⟩
theorem PSs.imp {X : Cx} {e : List Stmt} {t t' : TS} (h : PSs X e t) (i : ∀ D σ H, t' D σ H → t D σ H) : PSs X e t' := ⟨fun pins s σ H D I q => h.run pins s σ H D I (i D σ H q)⟩

/-- an operation's reading, the wish about exceptions left open -/
def rX (K : PySem.W.Frag) (C : Nat → Addr) (op : U → U → MS → Rv U) : R2 := fun x y H Q => ∃ W, rB K C W op x y H Q
theorem OpR.rx {X : Cx} {C : Nat → Addr} {f : Value → Value → Sem Value} {op : U → U → MS → Rv U} (h : ∀ W, OpR X f (rB X.K C W op)) : OpR X f (rX X.K C op) :=
  fun pins s σ H x y v u Q I rx ry ⟨W, q⟩ => h W pins s σ H x y v u Q I rx ry q
def rAX (K : PySem.W.Frag) (C : Nat → Addr) (op : List U → MS → Rv U) : List V → Hp → VK → Prop := fun vs H Q => ∃ W, rA K C W op vs H Q
theorem CallR.rx {X : Cx} {C : Nat → Addr} {f : Value} {op : List U → MS → Rv U} (h : ∀ W, CallR X f (rA X.K C W op)) : CallR X f (rAX X.K C op) :=
  fun pins s σ H xs us Q I r ⟨W, q⟩ => h W pins s σ H xs us Q I r q
def rMX (K : PySem.W.Frag) (C : Nat → Addr) (op : U → List U → MS → Rv U) : V → List V → Hp → VK → Prop := fun x vs H Q => ∃ W, rM K C W op x vs H Q

section
variable {X : Cx} {C : Nat → Addr} {E : XK} {pos : Pos} {a b c : Expr} {ma mb mc : SU → MS → Rv U}
/-! ### the small things -/
theorem se_var {i : Nat} {x : Str} (hN : X.N[i]? = some x) (hv : Vis X.env.scope x) (hd : (x == ("__debug__" : Str)) = false) (hcd : (x == ("__classdict__" : Str)) = false) : PE X (.Name x pos) (eEv X.K C E (varU i)) := by
  refine PE.imp (pe_var hN hv hd hcd) fun σ H Q ⟨g, su, s, R, r, p⟩ => ?_
  unfold varU at p
  split at p
  · rename_i u e
    obtain ⟨v, e1, ru⟩ := r.2 i u e
    exact ⟨v, e1, Pst.val p R ru⟩
  · exact p.elim
theorem se_c {e : Expr} {v : V} {u : U} (h : PE X e (tC v)) (r : ∀ g H, RelU X.K g H u v) : PE X e (eEv X.K C E fun _ s => .ok u s) :=
  PE.imp h fun σ H Q ⟨g, su, s, R, _, p⟩ => Pst.val p R (r g H)
theorem bi_bind {op : U → U → MS → Rv U} {op2 : U → U → MS → Rv U} {r : R2} (i : ∀ x y H Q, rX X.K C op x y H Q → r x y H Q) {σ : L2.St} {H : Hp} {Q : VK} (h : eEv X.K C E (fun su s => (ma su s).bind fun u s1 => (mb su s1).bind fun v s2 => op u v s2) σ H Q) :
    tOp r (eEv X.K C E ma) (eEv X.K C E mb) σ H Q := by
  obtain ⟨g, su, s, R, rs, p⟩ := h
  obtain ⟨g0, su0, s0, q1, q2, q3⟩ := eEv_seq (f := fun su u s1 => (mb su s1).bind fun v s2 => op u v s2) R rs p
  refine ⟨g0, su0, s0, q1, q2, q3.mono fun x H1 ⟨g1, s1, u, R1, rs1, ru, e1, p1⟩ => ?_⟩
  obtain ⟨g0, su0, s0, q1, q2, q3⟩ := eEv_seq (f := fun su v s2 => op u v s2) R1 rs1 p1
  refine ⟨g0, su0, s0, q1, q2, q3.mono fun y H2 ⟨g2, s2, w, R2, rs2, rw, e2, p2⟩ => ?_⟩
  exact i _ _ _ _ ⟨_, g2, s2, u, w, R2, ru.ext e2, rw, p2⟩
theorem se_bin {o : BO} {m : Bool} (ha : PE X a (eEv X.K C E ma)) (hb : PE X b (eEv X.K C E mb)) :
    PE X (.BinOp a (boOp o) b pos) (eEv X.K C E fun su s => (ma su s).bind fun u s1 => (mb su s1).bind fun v s2 => binU o m u v s2) := by
  have ho : OpR X (binaryOp (boOp o)) (rX X.K C (binU o m)) := by
    cases o with
    | add => exact OpR.rx fun W => op_add_
    | sub => exact OpR.rx fun W => op_sub_
    | mul => exact OpR.rx fun W => op_mul_
    | fdiv => exact OpR.rx fun W => op_fdiv_
    | mod => exact OpR.rx fun W => op_mod_
    | pow => exact OpR.rx fun W => op_pow_
  exact PE.imp (pe_op ho ha hb) fun σ H Q h => bi_bind (op2 := binU o m) (fun _ _ _ _ q => q) h
theorem se_neg (ha : PE X a (eEv X.K C E ma)) : PE X (.UnaryOp .USub a pos) (eEv X.K C E fun su s => (ma su s).bind negU) := by
  refine PE.imp (pe_un un_neg ha) fun σ H Q ⟨g, su, s, R, rs, p⟩ => ?_
  obtain ⟨g0, su0, s0, q1, q2, q3⟩ := eEv_seq (f := fun su => negU) R rs p
  refine ⟨g0, su0, s0, q1, q2, q3.mono fun x H1 ⟨g1, s1, u, R1, rs1, ru, e1, p1⟩ => ?_⟩
  simp only [negU, notU, partU, lenL, andK, orK] at p1
  split at p1
  · cases ru
    exact ⟨_, rfl, Pst.val p1 R1 (.int _)⟩
  · exact p1.elim
theorem co_op (hu : X.A.units + 110 < cLine) (o : CO) : OpR X (compareOp (coOp o)) (rX X.K C (cmpR o)) := by
  cases o with
  | eq => exact OpR.rx fun W => op_eq_ (by omega)
  | ne => exact OpR.rx fun W => op_ne_ (by omega)
  | lt => exact OpR.rx fun W => op_lt_ (by omega)
  | le => exact OpR.rx fun W => op_le_
  | gt => exact OpR.rx fun W => op_gt_
  | ge => exact OpR.rx fun W => op_ge_
  | isin => exact OpR.rx fun W => op_in_ (by omega)
  | notin => exact OpR.rx fun W => op_notin_ (by omega)
  | is => exact OpR.rx fun W => op_is_
  | isnot => exact OpR.rx fun W => op_isnot_
theorem se_cmp (hu : X.A.units + 110 < cLine) {o : CO} (hm : behindInMarks (coOp o) b = false) (ha : PE X a (eEv X.K C E ma)) (hb : PE X b (eEv X.K C E mb)) :
    PE X (.Compare a [coOp o] [b] pos) (eEv X.K C E fun su s => (ma su s).bind fun u s1 => (mb su s1).bind fun v s2 => Rv.of ((cmpU o u v s2).map .bl) s2) :=
  PE.imp (pe_cmpR (co_op (C := C) hu o) ha hb hm) fun σ H Q h => bi_bind (op2 := cmpR o) (fun _ _ _ _ q => q) h
/-- a truth of an outcome -/
theorem of_bl {K : PySem.W.Frag} {g : Gh} {s : MS} {H : Hp} {o : Option Bool} {W : Value → Hp → Prop} {Q : Bool → Hp → Prop} (p : Pst K C (fun _ _ a b => a = b) W g H (Rv.of o s) Q) : Pst K C (RelU K) W g H (Rv.of (o.map .bl) s) (fun x H' => ∃ k, x = .bl k ∧ Q k H') := by
  cases o with
  | none => exact p
  | some k =>
    intro g' H' b rs e r
    cases r
    exact ⟨k, rfl, p g' H' k rs e rfl⟩
theorem st_cmp (hu : X.A.units + 110 < cLine) {o : CO} (hm : behindInMarks (coOp o) b = false) (ha : PE X a (eEv X.K C E ma)) (hb : PE X b (eEv X.K C E mb)) :
    PT X (.Compare a [coOp o] [b] pos) (tEv X.K C E fun su s => (ma su s).bind fun u s1 => (mb su s1).bind fun v s2 => Rv.of (cmpU o u v s2) s2) := by
  refine PT.imp (pt_cmpR (co_op (C := C) hu o) ha hb hm) fun σ H Q ⟨g, su, s, R, rs, p⟩ => ?_
  obtain ⟨g0, su0, s0, q1, q2, q3⟩ := eEv_seq (f := fun su u s1 => (mb su s1).bind fun v s2 => Rv.of (cmpU o u v s2) s2) R rs p
  refine ⟨g0, su0, s0, q1, q2, q3.mono fun x H1 ⟨g1, s1, u, R1, rs1, ru, e1, p1⟩ => ?_⟩
  obtain ⟨g0, su0, s0, q1, q2, q3⟩ := eEv_seq (f := fun su v s2 => Rv.of (cmpU o u v s2) s2) R1 rs1 p1
  refine ⟨g0, su0, s0, q1, q2, q3.mono fun y H2 ⟨g2, s2, w, R2, rs2, rw, e2, p2⟩ => ?_⟩
  exact ⟨_, g2, s2, u, w, R2, ru.ext e2, rw, of_bl p2⟩
theorem se_bnot (ha : PE X a (eEv X.K C E ma)) : PE X (.UnaryOp .Not a pos) (eEv X.K C E fun su s => (ma su s).bind notU) := by
  refine PE.imp (pe_not ha) fun σ H Q ⟨g, su, s, R, rs, p⟩ => ?_
  obtain ⟨g0, su0, s0, q1, q2, q3⟩ := eEv_seq (f := fun su => notU) R rs p
  refine ⟨g0, su0, s0, q1, q2, q3.mono fun x H1 ⟨g1, s1, u, R1, rs1, ru, e1, p1⟩ => ?_⟩
  simp only [negU, notU, partU, lenL, andK, orK] at p1
  split at p1
  · cases ru
    exact ⟨_, rfl, Pst.val p1 R1 (.bl _)⟩
  · exact p1.elim
theorem se_ite {mt : SU → MS → Rv Bool} (hc : PT X c (tEv X.K C E mt)) (ha : PE X a (eEv X.K C E ma)) (hb : PE X b (eEv X.K C E mb)) :
    PE X (.IfExp c a b pos) (eEv X.K C E fun su s => (mt su s).bind fun k s1 => if k then ma su s1 else mb su s1) := by
  refine PE.imp (pe_ifExp hc ha hb) fun σ H Q ⟨g, su, s, R, rs, p⟩ => ?_
  obtain ⟨g0, su0, s0, q1, q2, q3⟩ := tEv_seq (f := fun su k s1 => if k then ma su s1 else mb su s1) R rs p
  refine ⟨g0, su0, s0, q1, q2, q3.mono fun k H1 ⟨g1, s1, R1, rs1, e1, p1⟩ => ?_⟩
  cases k with
  | true => rw [if_pos rfl]; exact ⟨g1, su, s1, R1, rs1, by simpa using p1⟩
  | false => rw [if_neg Bool.false_ne_true]; exact ⟨g1, su, s1, R1, rs1, by simpa using p1⟩
variable {es : List Expr} {e : Expr} {me : SU → MS → Rv U} {mes : SU → MS → Rv (List U)}
theorem sa_nil : PA X [] (aEv X.K C E fun _ s => .ok [] s) := PA.imp pa_nil fun σ H Q ⟨g, su, s, R, rs, p⟩ => Pst.ok_ p R (Ext.refl _ _) .nil
theorem sa_cons (he : PE X e (eEv X.K C E me)) (hes : PA X es (aEv X.K C E mes)) (hs : starEach (e :: es) X.env = (false, eval e X.env) :: starEach es X.env) :
    PA X (e :: es) (aEv X.K C E fun su s => (me su s).bind fun u s1 => (mes su s1).bind fun us s2 => .ok (u :: us) s2) := by
  refine PA.imp (pa_cons he hes hs) fun σ H Q ⟨g, su, s, R, rs, p⟩ => ?_
  obtain ⟨g0, su0, s0, q1, q2, q3⟩ := eEv_seq (f := fun su u s1 => (mes su s1).bind fun us s2 => .ok (u :: us) s2) R rs p
  refine ⟨g0, su0, s0, q1, q2, q3.mono fun x H1 ⟨g1, s1, u, R1, rs1, ru, e1, p1⟩ => ?_⟩
  obtain ⟨g0, su0, s0, q1, q2, q3⟩ := aEv_seq (f := fun su us s2 => .ok (u :: us) s2) R1 rs1 p1
  refine ⟨g0, su0, s0, q1, q2, q3.mono fun xs H2 ⟨g2, s2, us, R2, rs2, rus, e2, p2⟩ => ?_⟩
  exact Pst.ok_ p2 R2 (Ext.refl _ _) (.cons (ru.ext e2) rus)
theorem se_tup {x1 : Nat} (h : PA X es (aEv X.K C E mes)) : PE X (.Tuple es x1 pos) (eEv X.K C E fun su s => (mes su s).bind fun us s1 => lenL us (.ok (.tup us)) s1) := by
  refine PE.imp (pe_tupN h) fun σ H Q ⟨g, su, s, R, rs, p⟩ => ?_
  obtain ⟨g0, su0, s0, q1, q2, q3⟩ := aEv_seq (f := fun su us s1 => lenL us (.ok (.tup us)) s1) R rs p
  refine ⟨g0, su0, s0, q1, q2, q3.mono fun xs H1 ⟨g1, s1, us, R1, rs1, rus, e1, p1⟩ => ?_⟩
  simp only [negU, notU, partU, lenL, andK, orK] at p1
  split at p1
  · rename_i hz
    rw [line_eq] at hz
    exact ⟨by rw [← rus.length]; exact hz, Pst.tup p1 R1 hz rus⟩
  · exact p1.elim
theorem se_lst {m : Bool} (h : PA X es (aEv X.K C E mes)) : PE X (.List es pos) (eEv X.K C E fun su s => (mes su s).bind fun us s1 => lenL us (mkL m us) s1) := by
  refine PE.imp (pe_lst h) fun σ H Q ⟨g, su, s, R, rs, p⟩ => ?_
  obtain ⟨g0, su0, s0, q1, q2, q3⟩ := aEv_seq (f := fun su us s1 => lenL us (mkL m us) s1) R rs p
  refine ⟨g0, su0, s0, q1, q2, q3.mono fun xs H1 ⟨g1, s1, us, R1, rs1, rus, e1, p1⟩ => ?_⟩
  simp only [negU, notU, partU, lenL, andK, orK] at p1
  split at p1
  · rename_i hz
    rw [line_eq] at hz
    exact ⟨by rw [← rus.length]; exact hz, fun q hq => Pst.mkL p1 R1 hz rus q hq⟩
  · exact p1.elim
/-! calls of built-ins -/
theorem se_bi {x : Str} {p0 : Pos} {id : String} {op : List U → MS → Rv U} (hc : CallR X (.builtin id) (rAX X.K C op)) (hg : Gl X x) (hm : X.mg x = none) (hv : bootBuiltins x = some (.builtin id)) (h : PA X (e :: es) (aEv X.K C E mes))
    (hn : x ≠ "__name__") (hd : (x == ("__debug__" : Str)) = false) (he : starEach (e :: es) X.env = (false, eval e X.env) :: starEach es X.env) (hpl : (backTo pos (starEach es X.env)).any (·.1) = false) :
    PE X (.Call (.Name x p0) (e :: es) [] pos) (eEv X.K C E fun su s => (mes su s).bind fun us s1 => op us s1) := by
  refine PE.imp (pe_callB hc hg hm hv h hn hd he hpl) fun σ H Q ⟨g, su, s, R, rs, p⟩ => ?_
  obtain ⟨g0, su0, s0, q1, q2, q3⟩ := aEv_seq (f := fun su us s1 => op us s1) R rs p
  exact ⟨g0, su0, s0, q1, q2, q3.mono fun xs H1 ⟨g1, s1, us, R1, rs1, rus, e1, p1⟩ => ⟨_, g1, s1, us, R1, rus, p1⟩⟩
theorem se_ty {x : Str} {p0 : Pos} {id : String} {op : List U → MS → Rv U} (hc : CallR X (.type id) (rAX X.K C op)) (hg : Gl X x) (hm : X.mg x = none) (hv : bootBuiltins x = some (.type id)) (h : PA X (e :: es) (aEv X.K C E mes))
    (hn : x ≠ "__name__") (hd : (x == ("__debug__" : Str)) = false) (he : starEach (e :: es) X.env = (false, eval e X.env) :: starEach es X.env) (hpl : (backTo pos (starEach es X.env)).any (·.1) = false) :
    PE X (.Call (.Name x p0) (e :: es) [] pos) (eEv X.K C E fun su s => (mes su s).bind fun us s1 => op us s1) := by
  refine PE.imp (pe_callTy hc hg hm hv h hn hd he hpl) fun σ H Q ⟨g, su, s, R, rs, p⟩ => ?_
  obtain ⟨g0, su0, s0, q1, q2, q3⟩ := aEv_seq (f := fun su us s1 => op us s1) R rs p
  exact ⟨g0, su0, s0, q1, q2, q3.mono fun xs H1 ⟨g1, s1, us, R1, rs1, rus, e1, p1⟩ => ⟨_, g1, s1, us, R1, rus, p1⟩⟩
/-! subscripts -/
theorem ixN_eq (n : Nat) (i : Int) : L2.ixN n i = Pv.ixN n i := rfl
theorem at_rel {K : PySem.W.Frag} {g : Gh} {H : Hp} {us : List U} {vs : List V} {i : Int} {u : U} (r : RelUs K g H us vs) (h : Pv.atI us i = some u) : ∃ v, L2.atI vs i = some v ∧ RelU K g H u v := by
  unfold Pv.atI at h
  unfold L2.atI
  rw [ixN_eq, ← r.length]
  cases e : Pv.ixN us.length i with
  | none => rw [e] at h; cases h
  | some j =>
    rw [e] at h
    exact r.get h
theorem ix_ (hu : X.A.units + 110 < cLine) : IxR X (rX X.K C fun u v s => Rv.of (idxU u v s) s) := by
  intro value slice pins st σ H x y v u Q I rx ry h hs
  obtain ⟨W, g, s, a, i, R, ra, ri, p0⟩ := h
  obtain ⟨w, e, p⟩ := p0.of_
  clear p0
  unfold idxU at e
  split at e
  · rename_i us h1
    unfold idxL at e
    split at e
    · cases ri
      obtain ⟨ad, vs, rfl, hq, z, rr⟩ := R.seqOf ra h1
      obtain ⟨v', e1, rv⟩ := at_rel rr e
      rcases hq with hq | hq
      · exact ix_list value slice pins st σ H _ _ v u Q I rx ry ⟨ad, vs, _, v', rfl, rfl, hq, e1, Pst.val p R rv⟩ hs
      · exact ix_tup value slice pins st σ H _ _ v u Q I rx ry ⟨ad, vs, _, v', rfl, rfl, hq, e1, Pst.val p R rv⟩ hs
    · cases e
  · unfold idxD at e
    have hu1 : X.A.units + 1 < cLine := by omega
    split at e
    · rename_i kvs h1
      cases h2 : keyOf i with
      | none => rw [h2] at e; cases e
      | some k =>
        rw [h2] at e
        have e' : lookA k kvs = some w := e
        obtain ⟨ad, o, rfl, dg, hh⟩ := dget_k R ra ri h1 h2
        rcases hh with ⟨e1, _⟩ | ⟨w1, w2, e1, e2, rw⟩
        · rw [e'] at e1; cases e1
        · rw [e'] at e1
          cases e1
          subst e2
          cases rx
          exact tail_any (dict_typeIs I dg) PySem.F.slot_dict_getitem.lookup (d_getItem hu1 I dg ry fun w' s' I' rw' => ⟨w2, H, I', rw', Pst.val p R rw⟩) hs
    · split at e
      · rename_i kvs h1
        cases h2 : tkeyOf i with
        | none => rw [h2] at e; cases e
        | some k =>
          rw [h2] at e
          have e' : lookA k kvs = some w := e
          obtain ⟨ad, o, rfl, dg, hh⟩ := dget_t R ra ri h1 h2
          rcases hh with ⟨e1, _⟩ | ⟨w1, w2, e1, e2, rw⟩
          · rw [e'] at e1; cases e1
          · rw [e'] at e1
            cases e1
            subst e2
            cases rx
            exact tail_any (dict_typeIs I dg) PySem.F.slot_dict_getitem.lookup (d_getItem hu1 I dg ry fun w' s' I' rw' => ⟨w2, H, I', rw', Pst.val p R rw⟩) hs
      · unfold idxS at e
        split at e
        · split at e
          · rename_i hz
            obtain ⟨c, e2, e3⟩ := Option.map_eq_some_iff.mp e
            subst e3
            cases ra; cases ri
            exact ix_str value slice pins st σ H _ _ v u Q I rx ry ⟨_, _, c, rfl, rfl, by rw [← line_eq]; exact hz, e2, Pst.val p R (.str _)⟩ hs
          · cases e
        · cases e
theorem se_idx (hu : X.A.units + 110 < cLine) (ha : PE X a (eEv X.K C E ma)) (hb : PE X b (eEv X.K C E mb)) (hs : PlainIx b) :
    PE X (.Subscript a b pos) (eEv X.K C E fun su s => (ma su s).bind fun u s1 => (mb su s1).bind fun v s2 => Rv.of (idxU u v s2) s2) :=
  PE.imp (pe_ix (ix_ (C := C) hu) ha hb hs) fun σ H Q h => bi_bind (op2 := fun u v s => Rv.of (idxU u v s) s) (fun _ _ _ _ q => q) h
theorem sIx_eq (n d : Nat) (o : Option Int) : HT.sIx n d o = Pv.sIx n d o := by
  cases o with
  | none => rfl
  | some i =>
    show HT.sIx n d (some i) = (if i < 0 then (i + n).toNat else min i.toNat n)
    have h := HT.clip_eq i n d
    by_cases hi : i < 0
    · rw [if_pos hi] at h ⊢
      omega
    · rw [if_neg hi] at h ⊢
      omega
theorem cut_eq (xs : List V) (lo hi : Option Int) : cutV xs lo hi = Pv.cut xs lo hi := by
  unfold cutV Pv.cut
  rw [sIx_eq, sIx_eq]
theorem cut_len {α : Type} (xs : List α) (lo hi : Option Int) : (Pv.cut xs lo hi).length ≤ xs.length := by
  unfold Pv.cut
  rw [List.length_take, List.length_drop]
  omega
theorem sIx_le' (n d : Nat) (h : d ≤ n) (o : Option Int) : Pv.sIx n d o ≤ n := by rw [← sIx_eq]; exact HT.sIx_le n d h o
theorem se_slc {lo hi : Option Expr} {ml mh : SU → MS → Rv (Option Int)} {p2 : Pos} (ha : PE X a (eEv X.K C E ma)) (hl : PO X lo (oEv X.K C E ml)) (hh : PO X hi (oEv X.K C E mh)) :
    PE X (.Subscript a (.Slice lo hi none p2) pos) (eEv X.K C E fun su s => (ma su s).bind fun u s1 => (ml su s1).bind fun l s2 => (mh su s2).bind fun h s3 => Rv.of (slcU u l h s3) s3) := by
  refine PE.imp (pe_slice (sl_list.or sl_tupN) ha hl hh) fun σ H Q ⟨g, su, s, R, rs, p⟩ => ?_
  obtain ⟨g0, su0, s0, q1, q2, q3⟩ := eEv_seq (f := fun su u s1 => (ml su s1).bind fun l s2 => (mh su s2).bind fun h s3 => Rv.of (slcU u l h s3) s3) R rs p
  refine ⟨g0, su0, s0, q1, q2, q3.mono fun x H1 ⟨g1, s1, u, R1, rs1, ru, e1, p1⟩ => ?_⟩
  obtain ⟨g0, su0, s0, q1, q2, q3⟩ := oEv_seq (f := fun su l s2 => (mh su s2).bind fun h s3 => Rv.of (slcU u l h s3) s3) R1 rs1 p1
  refine ⟨g0, su0, s0, q1, q2, q3.mono fun l H2 ⟨g2, s2, R2, rs2, e2, p2⟩ => ?_⟩
  obtain ⟨g0, su0, s0, q1, q2, q3⟩ := oEv_seq (f := fun su h s3 => Rv.of (slcU u l h s3) s3) R2 rs2 p2
  refine ⟨g0, su0, s0, q1, q2, q3.mono fun h H3 ⟨g3, s3, R3, rs3, e3, p3⟩ => ?_⟩
  have ru3 := (ru.ext e2).ext e3
  obtain ⟨w, ew, p4⟩ := p3.of_
  unfold slcU at ew
  cases u with
  | tup xs =>
    simp only [tupOf] at ew
    cases ew
    cases ru3 with
    | @tup ad _ vs h1 h2 h3 h4 =>
      have hlen := h4.length
      refine .inr ⟨ad, vs, rfl, h1.sq, fun ⟨z1, z2⟩ => ?_, fun _ => ?_⟩
      · have : Pv.cut xs l h = xs := by
          unfold Pv.cut
          rw [sIx_eq] at z1 z2
          rw [hlen, z1, z2, List.drop_zero, Nat.sub_zero, ← hlen, List.take_length]
        rw [this] at p4
        exact Pst.val p4 R3 (.tup h1 h2 h3 h4)
      · rw [cut_eq]
        exact Pst.tup p4 R3 (Nat.le_trans (cut_len _ _ _) h3) (h4.cut l h)
  | _ =>
    simp only [tupOf] at ew
    first
      | (simp [lstOf] at ew; done)
      | (obtain ⟨ys, h1, h2⟩ := Option.map_eq_some_iff.mp ew
         subst h2
         obtain ⟨ad, vs, rfl, hq, z, rr⟩ := R3.lstOf ru3 h1
         refine .inl ⟨ad, vs, rfl, SqL.of hq, fun q hq' => ?_⟩
         rw [cut_eq]
         exact Pst.ok_ p4 (R3.new hq') (Ext.new R3 hq') (lstNew R3 hq' (Nat.le_trans (cut_len _ _ _) z) (rr.cut l h)))
theorem so_none : PO X none (oEv X.K C E fun _ s => .ok none s) := PO.imp po_none fun σ H Q ⟨g, su, s, R, _, p⟩ => Pst.ok_ p R (Ext.refl _ _) rfl
theorem so_some (h : PE X e (eEv X.K C E me)) : PO X (some e) (oEv X.K C E fun su s => (me su s).bind partU) := by
  refine PO.imp (po_some h) fun σ H Q ⟨g, su, s, R, rs, p⟩ => ?_
  obtain ⟨g0, su0, s0, q1, q2, q3⟩ := eEv_seq (f := fun su => partU) R rs p
  refine ⟨g0, su0, s0, q1, q2, q3.mono fun x H1 ⟨g1, s1, u, R1, rs1, ru, e1, p1⟩ => ?_⟩
  simp only [negU, notU, partU, lenL, andK, orK] at p1
  split at p1
  · cases ru
    exact ⟨_, rfl, Pst.ok_ p1 R1 (Ext.refl _ _) rfl⟩
  · exact p1.elim
theorem se_rev {k : Nat} {p1 p2 p3 : Pos} (ha : PE X a (eEv X.K C E ma)) : PE X (.Subscript a (.Slice none none (some (.UnaryOp .USub (.Constant (.int 1) k p1) p2)) p3) pos)
    (eEv X.K C E fun su s => (ma su s).bind fun u s1 => Rv.of (revU u s1) s1) := by
  refine PE.imp (pe_rev ha) fun σ H Q ⟨g, su, s, R, rs, p⟩ => ?_
  obtain ⟨g0, su0, s0, q1, q2, q3⟩ := eEv_seq (f := fun su u s1 => Rv.of (revU u s1) s1) R rs p
  refine ⟨g0, su0, s0, q1, q2, q3.mono fun x H1 ⟨g1, s1, u, R1, rs1, ru, e1, p1⟩ => ?_⟩
  obtain ⟨w, ew, p4⟩ := p1.of_
  unfold revU at ew
  cases u with
  | tup xs =>
    simp only [tupOf] at ew
    cases ew
    cases ru with
    | tup h1 h2 h3 h4 => exact ⟨_, _, rfl, .inr ⟨h1.sq, Pst.tup p4 R1 (by rw [List.length_reverse]; exact h3) h4.rev⟩⟩
  | _ =>
    simp only [tupOf, lstRev] at ew
    first
      | (simp [lstOf] at ew; done)
      | (obtain ⟨ys, h1, h2⟩ := Option.map_eq_some_iff.mp ew
         subst h2
         obtain ⟨ad, vs, rfl, hq, z, rr⟩ := R1.lstOf ru h1
         exact ⟨ad, vs, rfl, .inl ⟨SqL.of hq, fun q hq' => Pst.ok_ p4 (R1.new hq') (Ext.new R1 hq') (lstNew R1 hq' (by rw [List.length_reverse]; exact z) rr.rev)⟩⟩)
/-! and, or -/
theorem st_val (ha : PE X a (eEv X.K C E ma)) (he : ∀ whole, isTrue a X.env whole = (do let v ← whole; standAt a.pos; holding [v] (truthy v))) : PT X a (tEv X.K C E fun su s => (ma su s).bind fun u s1 => Rv.of (tru s1 u) s1) := by
  refine PT.imp (pt_val ha he) fun σ H Q ⟨g, su, s, R, rs, p⟩ => ?_
  obtain ⟨g0, su0, s0, q1, q2, q3⟩ := eEv_seq (f := fun su u s1 => Rv.of (tru s1 u) s1) R rs p
  refine ⟨g0, su0, s0, q1, q2, q3.mono fun x H1 ⟨g1, s1, u, R1, rs1, ru, e1, p1⟩ => ?_⟩
  obtain ⟨w, ew, p4⟩ := p1.of_
  unfold tru at ew
  split at ew
  · cases ew
    cases ru
    exact ⟨_, rfl, Pst.ok_ p4 R1 (Ext.refl _ _) rfl⟩
  · cases ew
theorem st_not {mt : SU → MS → Rv Bool} (h : PT X a (tEv X.K C E mt)) : PT X (.UnaryOp .Not a pos) (tEv X.K C E fun su s => (mt su s).bind fun b s1 => .ok (!b) s1) := by
  refine PT.imp (pt_not h) fun σ H Q ⟨g, su, s, R, rs, p⟩ => ?_
  obtain ⟨g0, su0, s0, q1, q2, q3⟩ := tEv_seq (f := fun su b s1 => .ok (!b) s1) R rs p
  exact ⟨g0, su0, s0, q1, q2, q3.mono fun k H1 ⟨g1, s1, R1, rs1, e1, p1⟩ => Pst.ok_ p1 R1 (Ext.refl _ _) rfl⟩
variable {mt mu : SU → MS → Rv Bool}
theorem sw_and1 (h : PT X a (tEv X.K C E mt)) : PW X (.BoolOp .And [a] pos) (tEv X.K C E fun su s => (mt su s).bind fun b s1 => if b then .ok true s1 else .ok false s1) := by
  refine PW.imp (pw_and1 h) fun σ H Q ⟨g, su, s, R, rs, p⟩ => ?_
  obtain ⟨g0, su0, s0, q1, q2, q3⟩ := tEv_seq (f := fun su b s1 => if b then .ok true s1 else .ok false s1) R rs p
  refine ⟨g0, su0, s0, q1, q2, q3.mono fun k H1 ⟨g1, s1, R1, rs1, e1, p1⟩ => ?_⟩
  cases k <;> exact Pst.ok_ p1 R1 (Ext.refl _ _) rfl
theorem sw_and {rest : List Expr} (h : PT X a (tEv X.K C E mt)) (h2 : PW X (.BoolOp .And (b :: rest) pos) (tEv X.K C E mu)) : PW X (.BoolOp .And (a :: b :: rest) pos) (tEv X.K C E fun su s => (mt su s).bind fun b s1 => if b then mu su s1 else .ok false s1) := by
  refine PW.imp (pw_and h h2) fun σ H Q ⟨g, su, s, R, rs, p⟩ => ?_
  obtain ⟨g0, su0, s0, q1, q2, q3⟩ := tEv_seq (f := fun su b s1 => if b then mu su s1 else .ok false s1) R rs p
  refine ⟨g0, su0, s0, q1, q2, q3.mono fun k H1 ⟨g1, s1, R1, rs1, e1, p1⟩ => ?_⟩
  cases k with
  | true => rw [if_pos rfl]; exact ⟨g1, su, s1, R1, rs1, by simpa using p1⟩
  | false => rw [if_neg Bool.false_ne_true]; exact Pst.ok_ p1 R1 (Ext.refl _ _) rfl
theorem sw_or1 (h : PT X a (tEv X.K C E mt)) : PW X (.BoolOp .Or [a] pos) (tEv X.K C E fun su s => (mt su s).bind fun b s1 => if b then .ok true s1 else .ok false s1) := by
  refine PW.imp (pw_or1 h) fun σ H Q ⟨g, su, s, R, rs, p⟩ => ?_
  obtain ⟨g0, su0, s0, q1, q2, q3⟩ := tEv_seq (f := fun su b s1 => if b then .ok true s1 else .ok false s1) R rs p
  refine ⟨g0, su0, s0, q1, q2, q3.mono fun k H1 ⟨g1, s1, R1, rs1, e1, p1⟩ => ?_⟩
  cases k <;> exact Pst.ok_ p1 R1 (Ext.refl _ _) rfl
theorem sw_or {rest : List Expr} (h : PT X a (tEv X.K C E mt)) (h2 : PW X (.BoolOp .Or (b :: rest) pos) (tEv X.K C E mu)) : PW X (.BoolOp .Or (a :: b :: rest) pos) (tEv X.K C E fun su s => (mt su s).bind fun b s1 => if b then .ok true s1 else mu su s1) := by
  refine PW.imp (pw_or h h2) fun σ H Q ⟨g, su, s, R, rs, p⟩ => ?_
  obtain ⟨g0, su0, s0, q1, q2, q3⟩ := tEv_seq (f := fun su b s1 => if b then .ok true s1 else mu su s1) R rs p
  refine ⟨g0, su0, s0, q1, q2, q3.mono fun k H1 ⟨g1, s1, R1, rs1, e1, p1⟩ => ?_⟩
  cases k with
  | true => rw [if_pos rfl]; exact Pst.ok_ p1 R1 (Ext.refl _ _) rfl
  | false => rw [if_neg Bool.false_ne_true]; exact ⟨g1, su, s1, R1, rs1, by simpa using p1⟩
theorem se_and {rest : List Expr} (h : PE X a (eEv X.K C E ma)) (h2 : PE X (.BoolOp .And (b :: rest) pos) (eEv X.K C E mb)) : PE X (.BoolOp .And (a :: b :: rest) pos) (eEv X.K C E fun su s => (ma su s).bind fun u s1 => andK u (mb su) s1) := by
  refine PE.imp (pe_and h h2) fun σ H Q ⟨g, su, s, R, rs, p⟩ => ?_
  obtain ⟨g0, su0, s0, q1, q2, q3⟩ := eEv_seq (f := fun su u s1 => andK u (mb su) s1) R rs p
  refine ⟨g0, su0, s0, q1, q2, q3.mono fun x H1 ⟨g1, s1, u, R1, rs1, ru, e1, p1⟩ => ?_⟩
  simp only [negU, notU, partU, lenL, andK, orK] at p1
  split at p1
  · cases ru
    exact ⟨_, rfl, by rw [if_pos rfl]; exact ⟨g1, su, s1, R1, rs1, p1⟩⟩
  · cases ru
    exact ⟨_, rfl, by rw [if_neg Bool.false_ne_true]; exact Pst.val p1 R1 (.bl _)⟩
  · exact p1.elim
theorem se_or {rest : List Expr} (h : PE X a (eEv X.K C E ma)) (h2 : PE X (.BoolOp .Or (b :: rest) pos) (eEv X.K C E mb)) : PE X (.BoolOp .Or (a :: b :: rest) pos) (eEv X.K C E fun su s => (ma su s).bind fun u s1 => orK u (mb su) s1) := by
  refine PE.imp (pe_orT h h2) fun σ H Q ⟨g, su, s, R, rs, p⟩ => ?_
  obtain ⟨g0, su0, s0, q1, q2, q3⟩ := eEv_seq (f := fun su u s1 => orK u (mb su) s1) R rs p
  refine ⟨g0, su0, s0, q1, q2, q3.mono fun x H1 ⟨g1, s1, u, R1, rs1, ru, e1, p1⟩ => ?_⟩
  simp only [orK] at p1
  split at p1
  · cases ru
    exact ⟨true, rfl, by rw [if_pos rfl]; exact Pst.val p1 R1 (.bl _)⟩
  · cases ru
    exact ⟨false, rfl, by rw [if_neg Bool.false_ne_true]; exact ⟨g1, su, s1, R1, rs1, p1⟩⟩
  · cases ru
    exact ⟨false, rfl, by rw [if_neg Bool.false_ne_true]; exact ⟨g1, su, s1, R1, rs1, p1⟩⟩
  · cases ru with
    | @tup a _ vs h1 h2 h3 h4 =>
      cases h4
      exact ⟨false, .inr (.inl ⟨[], h1.sq, rfl⟩), by rw [if_neg Bool.false_ne_true]; exact ⟨g1, su, s1, R1, rs1, p1⟩⟩
  · cases ru with
    | @tup a _ vs h1 h2 h3 h4 =>
      cases h4 with
      | cons hx hr => exact ⟨true, .inr (.inl ⟨_, h1.sq, rfl⟩), by rw [if_pos rfl]; exact Pst.val p1 R1 (.tup h1 h2 h3 (.cons hx hr))⟩
  · exact p1.elim
end
end Pv
set_option autoImplicit false
set_option Elab.async false
set_option linter.all false
set_option maxRecDepth 100000
set_option maxHeartbeats 1000000
namespace Pv
open PySem PySem.Spec PyProof.Rows L2

/-! ### rows of either kind: true a list, false a tuple -/
def SqK (K : PySem.W.Frag) (b : Bool) (H : Hp) (a : Addr) (xs : List V) : Prop :=
  match b with
  | true => SqL K H a xs
  | false => SqT K H a xs
def IsK (b : Bool) (h : Heap) (a : Addr) (its : Array Value) : Prop :=
  match b with
  | true => h.IsList a its
  | false => h.IsTuple a its
def ItK (b : Bool) (h : Heap) (it a : Addr) (i : Nat) : Prop :=
  match b with
  | true => h.IsListIter it a i
  | false => h.IsTupleIter it a i
def itN (b : Bool) : String := if b then "list_iterator" else "tuple_iterator"
def itO (b : Bool) (a : Addr) : Obj := { cls := .type (itN b), data := .fields #[.ref a, .int 0 0] }
theorem drawsK {P : Program} {w : World} {A : Around} (hh : A.handled = none) (b : Bool) (it a : Addr) (hne : a ≠ it) (its : Array Value) : Draws P w A it [it, a] its.size (fun i v => its[i]? = some v) (fun i h => ItK b h it a i ∧ IsK b h a its) := by
  cases b with
  | true => exact Draws.list hh it a hne its
  | false => exact Draws.tuple hh it a hne its
theorem beginsK (b : Bool) (a : Addr) (its : Array Value) : Begins (.ref a) (itO b a) fun h => IsK b h a its := by
  cases b with
  | true => exact begins_list a its
  | false => exact begins_tuple a its
theorem itK_new {b : Bool} {h : Heap} {it a : Addr} (e : h.get? it = some (itO b a)) : ItK b h it a 0 := by
  cases b with
  | true => exact ⟨_, e, rfl, rfl⟩
  | false => exact ⟨_, e, rfl, rfl⟩
theorem ItK.obj {b : Bool} {h : Heap} {it a : Addr} {i : Nat} (q : ItK b h it a i) : ∃ o, h.get? it = some o ∧ (∀ v, o.data ≠ .cell v) ∧ o.cls = .type (itN b) := by
  cases b with
  | true => obtain ⟨o, e, c, d⟩ := q; exact ⟨o, e, fun v z => (by rw [d] at z; cases z), c⟩
  | false => obtain ⟨o, e, c, d⟩ := q; exact ⟨o, e, fun v z => (by rw [d] at z; cases z), c⟩
theorem ItK.mv {b : Bool} {h h' : Heap} {it a : Addr} {i : Nat} (q : ItK b h it a i) (k : ∀ o, h.get? it = some o → h'.get? it = some o) : ItK b h' it a i := by
  cases b with
  | true => exact Heap.IsListIter.at q k
  | false => exact Heap.IsTupleIter.at q k
theorem IsK.obj {b : Bool} {h : Heap} {a : Addr} {its : Array Value} (q : IsK b h a its) : ∃ o, h.get? a = some o ∧ o.cls = .type (if b then "list" else "tuple") := by
  cases b with
  | true => obtain ⟨o, e, c, _⟩ := q; exact ⟨o, e, c⟩
  | false => obtain ⟨o, e, c, _⟩ := q; exact ⟨o, e, c⟩
theorem apartK {b b' : Bool} {h : Heap} {it a a' : Addr} {i : Nat} {its : Array Value} (q : ItK b' h it a' i) (r : IsK b h a its) : a ≠ it := fun z => by
  subst z
  obtain ⟨o, e, _, c⟩ := q.obj
  obtain ⟨o', e', c'⟩ := r.obj
  rw [e] at e'
  cases e'
  rw [c] at c'
  cases b <;> cases b' <;> simp [itN] at c'
theorem apartC {b : Bool} {h : Heap} {z a : Addr} {its : Array Value} {o : Obj} {n : String} (e : h.get? z = some o) (c : o.cls = .type n) (hn : n ≠ "list" ∧ n ≠ "tuple") (r : IsK b h a its) : a ≠ z := fun q => by
  subst q
  obtain ⟨o', e', c'⟩ := r.obj
  rw [e] at e'
  cases e'
  rw [c] at c'
  cases b with
  | true => exact hn.1 (by simpa using c')
  | false => exact hn.2 (by simpa using c')
section
variable {X : Cx} {pins : List (Addr × Obj)} {σ : L2.St} {H : Hp} {s : Shared}
theorem seqK {b : Bool} {a : Addr} {xs : List V} (I : Inv X pins σ H s) (h : SqK X.K b H a xs) : ∃ its : List Value, Vals xs its ∧ IsK b s.heap a its.toArray := by
  cases b with
  | true => obtain ⟨its, rv, p, _⟩ := I.list h; exact ⟨its, rv, p.isList⟩
  | false => obtain ⟨its, rv, p, _⟩ := I.tuple h; exact ⟨its, rv, p⟩
theorem seqK_inj {b : Bool} {a : Addr} {xs ys : List V} (I : Inv X pins σ H s) (h : SqK X.K b H a xs) (h' : SqK X.K b H a ys) : xs = ys := by
  cases b with
  | true => exact I.list_inj h h'
  | false => exact I.tuple_inj h h'
end
/-! ### enumerate -/
def Ien (K : PySem.W.Frag) (b : Bool) (a : Addr) : L2.It :=
  ⟨fun i H => ∃ (xs : List V) (x : V), SqK K b H a xs ∧ xs[i]? = some x, fun i H v H' => ∃ T x, v = .ref T ∧ H T = none ∧ H' = upd H T (.tup [.int (i : Nat), x]) ∧ ∀ xs, SqK K b H a xs → xs[i]? = some x, fun i H => ∃ xs : List V, SqK K b H a xs ∧ xs.length = i⟩
theorem turn_en {P : Program} {w : World} {K : PySem.W.Frag} {elts : List Expr} {kk : Nat} {tpos : Pos} (b : Bool) (a e it : Addr) :
    Turn P w K (.Tuple elts kk tpos) (Ien K b a) [e, it] e (fun i h => (∃ old, IsEnum h e it ((i : Nat) : Int) old) ∧ ItK b h it a i ∧ e ≠ it) where
  mem := List.mem_cons_self ..
  obj := fun i h st c hc => by
    obtain ⟨⟨old, he⟩, hi, _⟩ := st
    rcases List.mem_cons.mp hc with z | z
    · subst z
      exact ⟨_, he, fun v q => nomatch q⟩
    · rw [List.mem_singleton.mp z]
      obtain ⟨o, ho, hd, _⟩ := hi.obj
      exact ⟨o, ho, hd⟩
  keep := fun i h h' ⟨⟨old, he⟩, hi, hne⟩ k => ⟨⟨old, k e (by simp) _ he⟩, hi.mv fun o q => k it (by simp) o q, hne⟩
  item := by
    intro X hP hw hK hc i pins s σ H E I hf st hg
    subst hP hw hK
    obtain ⟨⟨old, he⟩, hit, hne⟩ := st
    obtain ⟨xs, x, hq, hx⟩ := hg
    obtain ⟨its, rv, p⟩ := seqK I hq
    have ai := apartK hit p
    have ae : a ≠ e := apartC he rfl (by decide) p
    have hlt : i < its.toArray.size := by
      have := (List.getElem?_eq_some_iff.mp hx).1
      have := rv.length
      simp
      omega
    have D := drawsK (P := X.prog) (w := X.w) (A := X.A.in1) (I.ok.hd hc) b it a ai its.toArray
    have hel : e < s.heap.objs.size := Heap.lt_size he
    refine wpAny_pyNext_enum_itemC D he ⟨hit, p⟩ hlt hne (by simp [hne, Ne.symm ae]) fun x2 h' tk hx2 ho st' hT hsz hk => ?_
    obtain ⟨u, hu, ru⟩ := rv.get hx
    have eu : x2 = u := by
      have q : its[i]? = some x2 := by simpa using hx2
      rw [hu] at q; cases q; rfl
    subst eu
    refine ⟨_, rfl, wpAny_letOwnedTupleGo_enum (s := { s with heap := h', toks := tk + 1 }) ho fun h2 he' sb => ?_⟩
    have hT2 : h2.get? s.heap.objs.size = some { cls := .type "tuple", data := .seq #[.int i tk, x2] } := (sb.2 _ (Nat.ne_of_gt hel)).trans hT
    have new : ObjOk X.prog X.w (upd H s.heap.objs.size (.tup [.int (i : Nat), x])) h2 s.heap.objs.size (.tup [.int (i : Nat), x]) :=
      ⟨by show 2 ≤ sizeLine; decide, [.int i tk, x2], .cons ⟨_, rfl⟩ (.cons ru .nil), ⟨_, hT2, rfl, _, rfl⟩⟩
    have I1 : Inv X pins σ (upd H s.heap.objs.size (.tup [.int (i : Nat), x])) { s with heap := h2, toks := tk + 1 } :=
      I.turnedNew (ch := [e, it]) (fun c ob hb q => (sb.2 c (fun z => hb (by simp [z]))).trans (hk c ob (fun z => hb (by simp [z])) (fun z => hb (by simp [z])) q)) hf (Nat.le_refl _) new
    refine ⟨.ref s.heap.objs.size, _, I1, rfl, ⟨_, x, rfl, I.hok.fresh (Nat.le_refl _), rfl, fun ys hy => by rw [seqK_inj I hy hq]; exact hx⟩, ⟨⟨x2, ?_⟩, st'.1.mv fun o q => (sb.2 it (Ne.symm hne)).trans q, hne⟩, fun c hc => ?_⟩
    · have e1 : ((i + 1 : Nat) : Int) = (i : Int) + 1 := by omega
      rw [e1]; exact he'
    · have hl : c < s.heap.objs.size := by
        rcases List.mem_cons.mp hc with z | z
        · rw [z]; exact hel
        · rw [List.mem_singleton.mp z]
          obtain ⟨o, q, _⟩ := hit.obj
          exact Heap.lt_size q
      rw [upd_ne (Nat.ne_of_lt hl)]
      exact (hf c hc).1
  done := by
    intro X hP hw hK hc i pins s σ H E I hf st hg
    subst hP hw hK
    obtain ⟨⟨old, he⟩, hit, hne⟩ := st
    obtain ⟨xs, hq, hx⟩ := hg
    obtain ⟨its, rv, p⟩ := seqK I hq
    have ai := apartK hit p
    have D := drawsK (P := X.prog) (w := X.w) (A := X.A.in1) (I.ok.hd hc) b it a ai its.toArray
    have hl : i = its.toArray.size := by
      have := rv.length
      simp
      omega
    subst hl
    obtain ⟨f0, f1, f2, f3, f4, f5⟩ := hf it (by simp)
    exact wpAny_pyNext_enum_endD D he ⟨hit, p⟩ fun h' eb => ⟨rfl, I.turned (t' := s.toks) (fun c o hb q => eb c o hb q) f0 f1 f3 f4 f5⟩
  self := fun A i s Q E ⟨⟨_, he⟩, _⟩ h => wpAny_pyIter_enum he h
theorem meets_en1 {v : Value} {o : Obj} {N : Heap → Prop} (B : Begins v o N) :
    Meets (Builtin.«enumerate.__new__» ⟨[.type "enumerate", v], []⟩) (fun _ R s => N s.heap ∧
      R (.ok (.ret (.ref (s.heap.push o).objs.size))) { s with heap := (s.heap.push o).push { cls := .type "enumerate", data := .fields #[.none, .bool false, .ref s.heap.objs.size, rawInt 0, .none, .none] } }) :=
  .of_wp fun prog w A R s h => by
    obtain ⟨hp, g, d, tk, os⟩ := s
    obtain ⟨n1, h⟩ := h
    have hsub := sub_enumerate
    have go : ∀ {A' : Around} {E : Value → Shared → Prop} {Q : Value → Shared → Prop}, Q (.ref hp.objs.size) ⟨hp.push o, g, d, tk, os⟩ → wpAny (model prog w) A' (pyIter v) Q E ⟨hp, g, d, tk, os⟩ := fun q => B.iter prog w _ _ ⟨hp, g, d, tk, os⟩ _ n1 q
    wp_walk using go
    refine wpAny_stack_any fun st => wpAny_pure ?_
    split
    · rename_i c _ _ _ _ _
      cases (c == Value.type "enumerate") <;>
        (wp_walk using go
         exact ⟨_, rfl, h⟩)
    · wp_walk using go
      exact ⟨_, rfl, h⟩
theorem call_en1 {prog : Program} {w : World} {A : Around} {E : Value → Shared → Prop} {s : Shared} {v : Value} {o : Obj} {N : Heap → Prop} {Q : Value → Shared → Prop} (B : Begins v o N) (n1 : N s.heap)
    (h : ∀ h', IsEnum h' (s.heap.objs.size + 1) s.heap.objs.size 0 .none → h'.get? s.heap.objs.size = some o → (∀ b o, s.heap.get? b = some o → h'.get? b = some o) → Q (.ref (s.heap.objs.size + 1)) { s with heap := h' }) :
    wpAny (model prog w) A (call (.type "enumerate") [v]) Q E s := by
  refine callType_new F.called_enumerate (by decide) (F.typeCall_enumerate_1 _) (F.newCall_enumerate_1 _) (fun obj => F.args_object_init_2 obj _) F.entry_enumerate_new (meets_en1 B) ⟨n1, ?_⟩
  have z1 : (s.heap.push o).objs.size = s.heap.objs.size + 1 := Heap.size_push ..
  have e1 := Heap.get?_push_size (s.heap.push o) (o := { cls := .type "enumerate", data := .fields #[.none, .bool false, .ref s.heap.objs.size, rawInt 0, .none, .none] }) rfl
  show _ ∧ _
  rw [z1] at e1 ⊢
  exact ⟨⟨_, e1, rfl⟩, h _ e1 (Heap.get?_push_of_some _ (Heap.get?_push_size _ B.free)) fun b o x => Heap.get?_push_of_some _ (Heap.get?_push_of_some _ x)⟩
def iEn (K : PySem.W.Frag) (ta : TE) : TI := fun σ H R => ta σ H fun v H1 => ∃ b a xs, [v] = [.ref a] ∧ SqK K b H1 a xs ∧ R (Ien K b a) H1
theorem two_fresh {X : Cx} {pins : List (Addr × Obj)} {σ : L2.St} {H : Hp} {s : Shared} (I : Inv X pins σ H s) (k : Nat) {c : Addr} (h : c = s.heap.objs.size + k) : FpOk X pins H c :=
  have hle : s.heap.objs.size ≤ c := by rw [h]; exact Nat.le_add_right _ _
  I.fpOk hle (I.hok.fresh hle)
theorem pi_en {X : Cx} {e : Expr} {te : TE} {p pos tpos : Pos} {elts : List Expr} {kk : Nat} (hg : Gl X "enumerate") (hm : X.mg "enumerate" = none) (he : PE X e te) (hs : starEach [e] X.env = [(false, eval e X.env)] := by rfl) :
    PI X (.Tuple elts kk tpos) (.Call (.Name "enumerate" p) [e] [] pos) (iEn X.K te) := by
  refine ⟨fun pins s σ H R I h => ?_⟩
  have ha : PA X [e] (fun σ H Q => te σ H fun v H1 => Q [v] H1) := PA.imp (pa_cons he pa_nil (by rw [hs]; rfl)) fun σ H Q q => q
  refine Call_ (ld_blt I hg hm boot_enumerate (PyProof.Rows.callWith_type1 (thn (ha.run pos pins s σ H (fun vs H1 => ∃ b a xs, vs = [.ref a] ∧ SqK X.K b H1 a xs ∧ R (Ien X.K b a) H1) I h) fun us s1 ⟨vs, H1, I1, r1, q1⟩ => ?_) hs rfl))
  obtain ⟨b, a, xs, ex, hq, q⟩ := q1
  subst ex
  cases r1 with
  | cons r rr =>
    cases rr
    cases r
    obtain ⟨its, rv, p'⟩ := seqK I1 hq
    refine call_en1 (beginsK b a its.toArray) p' fun h' he hit hk => wpAny_pyIter_enum he ?_
    refine ⟨s1.heap.objs.size + 1, [s1.heap.objs.size + 1, s1.heap.objs.size], _, _, H1, rfl, I1.kept (t' := s1.toks) hk, turn_en b a (s1.heap.objs.size + 1) s1.heap.objs.size, ⟨⟨.none, he⟩, itK_new hit, Nat.succ_ne_self _⟩, fun c hc => ?_, q⟩
    rcases List.mem_cons.mp hc with z | z
    · exact two_fresh I1 1 z
    · exact two_fresh I1 0 (List.mem_singleton.mp z)
/-! ### zip of two -/
def Izp (K : PySem.W.Frag) (b1 b2 : Bool) (a1 a2 : Addr) : L2.It :=
  ⟨fun i H => ∃ (xs ys : List V) (x y : V), SqK K b1 H a1 xs ∧ SqK K b2 H a2 ys ∧ xs[i]? = some x ∧ ys[i]? = some y,
    fun i H v H' => ∃ T x y, ∃ ob : Obj, ob.dict = none ∧ v = .ref T ∧ H T = none ∧ H' = upd H T (tupO [x, y] ob) ∧ (∀ xs, SqK K b1 H a1 xs → xs[i]? = some x) ∧ ∀ ys, SqK K b2 H a2 ys → ys[i]? = some y,
    fun i H => ∃ xs ys : List V, SqK K b1 H a1 xs ∧ SqK K b2 H a2 ys ∧ i ≤ xs.length ∧ i ≤ ys.length ∧ (i = xs.length ∨ i = ys.length)⟩
/-- the parts of a zip lie apart from each other, and so from the rows -/
structure ZAp (z TI TO i1 i2 : Addr) : Prop where
  z1 : z ≠ i1
  z2 : z ≠ i2
  zT : TI ≠ z
  zO : TO ≠ z
  TO_ : TI ≠ TO
  T1 : TI ≠ i1
  T2 : TI ≠ i2
  O1 : TO ≠ i1
  O2 : TO ≠ i2
  ii : i1 ≠ i2
theorem ZAp.sep {z TI TO i1 i2 a1 a2 : Addr} (Z : ZAp z TI TO i1 i2) (n1 : a1 ≠ z ∧ a1 ≠ TO ∧ a1 ≠ i2) (n2 : a2 ≠ z ∧ a2 ≠ TO ∧ a2 ≠ i1) : ZipSep2 z TI TO i1 i2 [i1, a1] [i2, a2] :=
  { TIz := Z.zT, TOz := Z.zO, TITO := Z.TO_, TIi1 := Z.T1, mem1 := by simp, zf1 := by simp [Z.z1, Ne.symm n1.1], Tf1 := by simp [Z.O1, Ne.symm n1.2.1], TIi2 := Z.T2, mem2 := by simp, zf2 := by simp [Z.z2, Ne.symm n2.1], Tf2 := by simp [Z.O2, Ne.symm n2.2.1],
    sep1_2 := by simp [Z.ii, Ne.symm n2.2.2], sep2_1 := by simp [Ne.symm Z.ii, Ne.symm n1.2.2] }
theorem turn_zp {P : Program} {w : World} {K : PySem.W.Frag} {elts : List Expr} {kk : Nat} {tpos : Pos} (b1 b2 : Bool) {a1 a2 z TI TO i1 i2 : Addr} (Z : ZAp z TI TO i1 i2) (o1 : a1 ≠ TO) (o2 : a2 ≠ TO) :
    Turn P w K (.Tuple elts kk tpos) (Izp K b1 b2 a1 a2) [z, TI, TO, i1, i2] z (fun i h => IsZip h z TI TO .none ∧ IsTupOf2 h TI (.ref i1) (.ref i2) ∧ (∃ x y, IsTupOf2 h TO x y) ∧ ItK b1 h i1 a1 i ∧ ItK b2 h i2 a2 i) where
  mem := List.mem_cons_self ..
  obj := fun i h st c hc => by
    obtain ⟨hz, hTI, ⟨x, y, hTO⟩, h1, h2⟩ := st
    simp only [List.mem_cons, List.not_mem_nil, or_false] at hc
    rcases hc with q | q | q | q | q <;> rw [q]
    · exact ⟨_, hz, fun v q => nomatch q⟩
    · exact ⟨_, hTI, fun v q => nomatch q⟩
    · exact ⟨_, hTO, fun v q => nomatch q⟩
    · obtain ⟨o, e, d, _⟩ := h1.obj; exact ⟨o, e, d⟩
    · obtain ⟨o, e, d, _⟩ := h2.obj; exact ⟨o, e, d⟩
  keep := fun i h h' ⟨hz, hTI, ⟨x, y, hTO⟩, h1, h2⟩ k => ⟨k z (by simp) _ hz, k TI (by simp) _ hTI, ⟨x, y, k TO (by simp) _ hTO⟩, h1.mv fun o q => k i1 (by simp) o q, h2.mv fun o q => k i2 (by simp) o q⟩
  item := by
    intro X hP hw hK hc i pins s σ H E I hf st hg
    subst hP hw hK
    obtain ⟨hz, hTI, ⟨x0, y0, hTO⟩, h1, h2⟩ := st
    obtain ⟨xs, ys, x, y, hqx, hqy, hx, hy⟩ := hg
    obtain ⟨its1, rv1, p1⟩ := seqK I hqx
    obtain ⟨its2, rv2, p2⟩ := seqK I hqy
    have S := Z.sep (a1 := a1) (a2 := a2) ⟨apartC hz rfl (by decide) p1, o1, apartK h2 p1⟩ ⟨apartC hz rfl (by decide) p2, o2, apartK h1 p2⟩
    have D1 := drawsK (P := X.prog) (w := X.w) (A := X.A.in1) (I.ok.hd hc) b1 i1 a1 (apartK h1 p1) its1.toArray
    have D2 := drawsK (P := X.prog) (w := X.w) (A := X.A.in1) (I.ok.hd hc) b2 i2 a2 (apartK h2 p2) its2.toArray
    obtain ⟨u1, hu1, ru1⟩ := rv1.get hx
    obtain ⟨u2, hu2, ru2⟩ := rv2.get hy
    have hzl : z < s.heap.objs.size := Heap.lt_size hz
    refine wpAny_pyNext_zipD2_item S D1 D2 hz hTI hTO ⟨h1, p1⟩ ⟨h2, p2⟩ (by simpa using (List.getElem?_eq_some_iff.mp hu1).1) (by simpa using (List.getElem?_eq_some_iff.mp hu2).1) fun v1 v2 h' tk e1 e2 z' TO' st1 st2 hT hsz hk => ?_
    have q1 : v1 = u1 := by
      have q : its1[i]? = some v1 := by simpa using e1
      rw [hu1] at q; cases q; rfl
    have q2 : v2 = u2 := by
      have q : its2[i]? = some v2 := by simpa using e2
      rw [hu2] at q; cases q; rfl
    subst q1 q2
    refine ⟨_, rfl, wpAny_letOwnedTupleGo_zip (s := { s with heap := h', toks := tk }) z' fun h'' z'' sb => ?_⟩
    have hT2 : h''.get? s.heap.objs.size = some { cls := .type "tuple", data := .seq #[v1, v2] } := (sb.2 _ (Nat.ne_of_gt hzl)).trans hT
    have new : ObjOk X.prog X.w (upd H s.heap.objs.size (tupO [x, y] { cls := .type "tuple", data := .seq #[v1, v2] })) h'' s.heap.objs.size (tupO [x, y] { cls := .type "tuple", data := .seq #[v1, v2] }) := by
      unfold tupO
      split
      · exact ⟨hT2, by show 2 ≤ sizeLine; decide, [v1, v2], .cons ru1 (.cons ru2 .nil), ⟨_, hT2, rfl, _, rfl⟩⟩
      · exact ⟨by show 2 ≤ sizeLine; decide, [v1, v2], .cons ru1 (.cons ru2 .nil), ⟨_, hT2, rfl, _, rfl⟩⟩
    have I1 : Inv X pins σ (upd H s.heap.objs.size (tupO [x, y] { cls := .type "tuple", data := .seq #[v1, v2] })) { s with heap := h'', toks := tk } :=
      I.turnedNew (ch := [z, TI, TO, i1, i2]) (fun c o hb q => (sb.2 c (fun q' => hb (by simp [q']))).trans (hk c o (fun q' => hb (by simp [q'])) (fun q' => hb (by simp [q'])) (fun q' => hb (by simp [q'])) (fun q' => hb (by simp [q'])) q)) hf (Nat.le_refl _) new
    refine ⟨.ref s.heap.objs.size, _, I1, rfl, ⟨_, x, y, _, rfl, rfl, I.hok.fresh (Nat.le_refl _), rfl, fun l hl => by rw [seqK_inj I hl hqx]; exact hx, fun l hl => by rw [seqK_inj I hl hqy]; exact hy⟩, ⟨z'', ?_, ⟨v1, v2, ?_⟩, ?_, ?_⟩, fun c hcm => ?_⟩
    · exact (sb.2 _ Z.zT).trans (hk _ _ Z.zT Z.TO_ Z.T1 Z.T2 hTI)
    · exact (sb.2 _ Z.zO).trans TO'
    · exact st1.1.mv fun o q => (sb.2 _ (Ne.symm Z.z1)).trans q
    · exact st2.1.mv fun o q => (sb.2 _ (Ne.symm Z.z2)).trans q
    · have hlt : c < s.heap.objs.size := by
        have e' := hcm
        simp only [List.mem_cons, List.not_mem_nil, or_false] at e'
        rcases e' with q | q | q | q | q <;> rw [q]
        · exact hzl
        · exact Heap.lt_size hTI
        · exact Heap.lt_size hTO
        · obtain ⟨_, e1, _⟩ := h1.obj; exact Heap.lt_size e1
        · obtain ⟨_, e2, _⟩ := h2.obj; exact Heap.lt_size e2
      rw [upd_ne (Nat.ne_of_lt hlt)]
      exact (hf c hcm).1
  done := by
    intro X hP hw hK hc i pins s σ H E I hf st hg
    subst hP hw hK
    obtain ⟨hz, hTI, ⟨x0, y0, hTO⟩, h1, h2⟩ := st
    obtain ⟨xs, ys, hqx, hqy, le1, le2, hend⟩ := hg
    obtain ⟨its1, rv1, p1⟩ := seqK I hqx
    obtain ⟨its2, rv2, p2⟩ := seqK I hqy
    have S := Z.sep (a1 := a1) (a2 := a2) ⟨apartC hz rfl (by decide) p1, o1, apartK h2 p1⟩ ⟨apartC hz rfl (by decide) p2, o2, apartK h1 p2⟩
    have D1 := drawsK (P := X.prog) (w := X.w) (A := X.A.in1) (I.ok.hd hc) b1 i1 a1 (apartK h1 p1) its1.toArray
    have D2 := drawsK (P := X.prog) (w := X.w) (A := X.A.in1) (I.ok.hd hc) b2 i2 a2 (apartK h2 p2) its2.toArray
    have l1 := rv1.length
    have l2 := rv2.length
    exact wpAny_pyNext_zipD2_end S D1 D2 hz hTI hTO ⟨h1, p1⟩ ⟨h2, p2⟩ (by simp; omega) (by simp; omega) (by simp; omega) fun h' tk hk => ⟨rfl, I.turnedL (t' := tk) (ch := [z, TI, TO, i1, i2]) (fun c o hb q =>
      hk c o (fun q' => hb (by simp [q'])) (fun q' => hb (by simp [q'])) (fun q' => hb (by simp [q'])) (fun q' => hb (by simp [q'])) q) hf⟩
  self := fun A i s Q E st h => wpAny_pyIter_zip st.1 h
def iZp (K : PySem.W.Frag) (ta : TA) : TI := fun σ H R => ta σ H fun vs H1 => ∃ b1 b2 a1 a2 xs ys, vs = [.ref a1, .ref a2] ∧ SqK K b1 H1 a1 xs ∧ SqK K b2 H1 a2 ys ∧ R (Izp K b1 b2 a1 a2) H1
theorem pi_zp {X : Cx} {e e2 : Expr} {ta : TA} {p pos tpos : Pos} {elts : List Expr} {kk : Nat} (hg : Gl X "zip") (hm : X.mg "zip" = none) (ha : PA X [e, e2] ta)
    (hs : starEach [e, e2] X.env = (false, eval e X.env) :: starEach [e2] X.env := by rfl) (hpl : (backTo pos (starEach [e2] X.env)).any (·.1) = false := by rfl) :
    PI X (.Tuple elts kk tpos) (.Call (.Name "zip" p) [e, e2] [] pos) (iZp X.K ta) := by
  refine ⟨fun pins s σ H R I h => ?_⟩
  refine Call_ (ld_blt I hg hm PyProof.Rows.boot_zip (PyProof.Rows.callWith_type1 (thn (ha.run pos pins s σ H _ I h) fun us s1 ⟨vs, H1, I1, r1, q1⟩ => ?_) hs hpl))
  obtain ⟨b1, b2, a1, a2, xs, ys, ex, hqx, hqy, q⟩ := q1
  subst ex
  cases r1 with
  | cons r rr =>
    cases rr with
    | cons r' rr =>
      cases rr
      cases r
      cases r'
      obtain ⟨its1, rv1, p1⟩ := seqK I1 hqx
      obtain ⟨its2, rv2, p2⟩ := seqK I1 hqy
      have l1 : a1 < s1.heap.objs.size := by obtain ⟨_, e, _⟩ := p1.obj; exact Heap.lt_size e
      have l2 : a2 < s1.heap.objs.size := by obtain ⟨_, e, _⟩ := p2.obj; exact Heap.lt_size e
      refine zip_begins2 (beginsK b1 a1 its1.toArray) (beginsK b2 a2 its2.toArray) p1 p2 fun h' hz hTI hTO g1 g2 hsz hk => wpAny_pyIter_zip hz ?_
      have Z : ZAp (s1.heap.objs.size + 4) (s1.heap.objs.size + 2) (s1.heap.objs.size + 3) s1.heap.objs.size (s1.heap.objs.size + 1) := by
        constructor <;> (show (_ : Nat) ≠ _; omega)
      refine ⟨s1.heap.objs.size + 4, [s1.heap.objs.size + 4, s1.heap.objs.size + 2, s1.heap.objs.size + 3, s1.heap.objs.size, s1.heap.objs.size + 1], _, _, H1, rfl, I1.kept (t' := s1.toks) hk, turn_zp b1 b2 Z (Nat.ne_of_lt (Nat.lt_of_lt_of_le l1 (Nat.le_add_right _ _))) (Nat.ne_of_lt (Nat.lt_of_lt_of_le l2 (Nat.le_add_right _ _))),
        ⟨hz, hTI, ⟨_, _, hTO⟩, itK_new g1, itK_new g2⟩, fun c hc => ?_, q⟩
      simp only [List.mem_cons, List.not_mem_nil, or_false] at hc
      rcases hc with z | z | z | z | z
      · exact two_fresh I1 4 z
      · exact two_fresh I1 2 z
      · exact two_fresh I1 3 z
      · exact two_fresh I1 0 z
      · exact two_fresh I1 1 z
/-! ### a list or a tuple itself -/
def Isq (K : PySem.W.Frag) (b : Bool) (a : Addr) : L2.It := if b then Itl K a else Itt K a
def iSq (K : PySem.W.Frag) (te : TE) : TI := fun σ H R => te σ H fun x H1 => ∃ b a xs, x = .ref a ∧ SqK K b H1 a xs ∧ R (Isq K b a) H1
theorem turn_sq {P : Program} {w : World} {K : PySem.W.Frag} {tg : Expr} (b : Bool) (a it : Addr) : Turn P w K tg (Isq K b a) [it] it (fun i h => ItK b h it a i) := by
  cases b with
  | true => exact turn_list a it
  | false => exact turn_tuple a it
theorem pi_sq {X : Cx} {tg l : Expr} {te : TE} (hl : PE X l te) : PI X tg l (iSq X.K te) := by
  refine ⟨fun pins s σ H R I h => thn (hl.run pins s σ H _ I h) fun v s1 ⟨x, H1, I1, r1, b, a, xs, e, hq, q⟩ => ?_⟩
  subst e
  cases r1
  obtain ⟨its, rv, p⟩ := seqK I1 hq
  exact (beginsK b a its.toArray).iter _ _ _ _ _ _ p (pi_one (tk := s1.toks) I1 _ (turn_sq b a _) (itK_new (Heap.get?_push_size _ (beginsK b a its.toArray).free)) q)

/-! ### the readings -/
structure ItOk (K : PySem.W.Frag) (C : Nat → Addr) (J : L2.It) (r : Src) (g0 : Gh) (H0 : Hp) : Prop where
  len : r.items.length ≤ sizeLine
  go : ∀ (i : Nat) (u : U) (g : Gh) (s : MS) (H : Hp), RS K C g s H → ExtW g0 H0 g H → r.ok s = true → r.items[i]? = some u → J.go i H ∧ ∀ y H', J.yld i H y H' → RS K C g s H' ∧ Ext g H g H' ∧ RelU K g H' u y ∧ (∀ c o, H c = some o → H' c = some o)
  stop : ∀ (g : Gh) (s : MS) (H : Hp), RS K C g s H → ExtW g0 H0 g H → r.ok s = true → J.stop r.items.length H
def iEv (K : PySem.W.Frag) (C : Nat → Addr) (E : XK) (m : SU → MS → Rv Src) : TI := fun σ H R => ∃ g su s, RS K C g s H ∧ RSt K g H su σ ∧ Pst K C (fun g' H' r J => ItOk K C J r g' H') (WOf E) g H (m su s) R
/-- which rows are lists -/
def kindU : U → Bool
  | .tup _ => false
  | .ktp _ => false
  | .scr _ => true
  | _ => true
end Pv
set_option autoImplicit false
set_option Elab.async false
set_option linter.all false
set_option maxRecDepth 100000
set_option maxHeartbeats 1000000
namespace Pv
open PySem PySem.Spec PyProof.Rows L2

theorem Rv.assoc {α β γ : Type} (r : Rv α) (f : α → MS → Rv β) (k : β → MS → Rv γ) : (r.bind f).bind k = r.bind fun a s => (f a s).bind k := by cases r <;> rfl
section
variable {K : PySem.W.Frag} {C : Nat → Addr} {g : Gh} {s : MS} {H : Hp}
theorem SqT.k {a : Addr} {vs : List V} (h : H a = some (.tup vs)) : SqK K false H a vs := SqT.of h
theorem SqL.k {a : Addr} {vs : List V} (h : H a = some (.lst vs)) : SqK K true H a vs := SqL.of h
theorem RS.seqKind (R : RS K C g s H) {u : U} {v : V} {us : List U} (r : RelU K g H u v) (h : Pv.seqOf s u = some us) :
    ∃ a vs, v = .ref a ∧ SqK K (kindU u) H a vs ∧ us.length ≤ sizeLine ∧ RelUs K g H us vs := by
  cases r with
  | tup h1 h2 h3 h4 => simp only [Pv.seqOf] at h; cases h; exact ⟨_, _, rfl, h1.sq, h3, h4⟩
  | ktp h1 h2 h3 => simp only [Pv.seqOf] at h; cases h; exact ⟨_, _, rfl, .inr h1, h2, h3⟩
  | @scr a ns z q =>
    simp only [Pv.seqOf] at h
    cases h
    refine ⟨_, ns.map V.int, rfl, ?_, by simpa using z, vals_ns ns⟩
    rcases q with ⟨o, q, k, _⟩ | q
    · rcases k with rfl | ⟨od, rfl⟩
      · exact .inl (.inl q)
      · exact .inl (.inr ⟨od, q⟩)
    · exact q H
  | lst h1 h2 h3 h4 => simp only [Pv.seqOf, Pv.lstOf] at h; cases h; exact ⟨_, _, rfl, SqL.k h1, h3, h4⟩
  | @obj n a ha =>
    simp only [Pv.seqOf] at h
    obtain ⟨ad, vs, e, hq, z, rr⟩ := R.lstOf (.obj ha) h
    exact ⟨ad, vs, e, SqL.k hq, z, rr⟩
  | _ => simp [Pv.seqOf, Pv.lstOf] at h
def okL (l : List (Nat × List U)) (s : MS) : Bool := l.all fun p => decide (s[p.1]? = some (.lst p.2))
theorem still_seq {s' : MS} {u : U} {us : List U} (h : Pv.seqOf s u = some us) (ok : okL (stillOf s u) s' = true) : Pv.seqOf s' u = some us := by
  cases u with
  | obj n =>
    simp only [Pv.seqOf, Pv.lstOf] at h ⊢
    split at h
    · rename_i xs e
      cases h
      simp only [stillOf, e, okL, List.all_cons, List.all_nil, Bool.and_true, decide_eq_true_eq] at ok
      rw [ok]
    · cases h
  | _ => exact h
/-- a row that stands still, later -/
theorem seq_later {u : U} {v : V} {us : List U} (r : RelU K g H u v) (h : Pv.seqOf s u = some us) {g' : Gh} {s' : MS} {H' : Hp} (R' : RS K C g' s' H') (e : ExtW g H g' H') (ok : okL (stillOf s u) s' = true) {a : Addr} (ea : v = .ref a) :
    ∃ vs, SqK K (kindU u) H' a vs ∧ us.length ≤ sizeLine ∧ RelUs K g' H' us vs := by
  obtain ⟨a', vs, ea', q, z, rr⟩ := R'.seqKind (r.extW e) (still_seq h ok)
  rw [ea] at ea'
  cases ea'
  exact ⟨vs, q, z, rr⟩
theorem itok_seq (R : RS K C g s H) {u : U} {v : V} {us : List U} (r : RelU K g H u v) (h : Pv.seqOf s u = some us) :
    ∃ a vs, v = .ref a ∧ SqK K (kindU u) H a vs ∧ ItOk K C (Isq K (kindU u) a) ⟨us, stillOf s u⟩ g H := by
  obtain ⟨a, vs, ea, q, z, rr⟩ := R.seqKind r h
  refine ⟨a, vs, ea, q, z, fun i w g' s' H' R' e ok hi => ?_, fun g' s' H' R' e ok => ?_⟩
  · obtain ⟨vs', q', _, rr'⟩ := seq_later r h R' e ok ea
    obtain ⟨y, hy, ry⟩ := rr'.get hi
    cases hb : kindU u with
    | true =>
      rw [hb] at q'
      refine ⟨⟨vs', y, q', hy⟩, fun y' H2 ⟨e1, e2⟩ => ?_⟩
      have := e2 vs' q'
      rw [hy] at this
      cases this
      subst e1
      exact ⟨R', Ext.refl _ _, ry, fun _ _ z => z⟩
    | false =>
      rw [hb] at q'
      refine ⟨⟨vs', y, q', hy⟩, fun y' H2 ⟨e1, e2⟩ => ?_⟩
      have := e2 vs' q'
      rw [hy] at this
      cases this
      subst e1
      exact ⟨R', Ext.refl _ _, ry, fun _ _ z => z⟩
  · obtain ⟨vs', q', _, rr'⟩ := seq_later r h R' e ok ea
    have hl := rr'.length
    cases hb : kindU u with
    | true => rw [hb] at q'; exact ⟨vs', q', by simp; omega⟩
    | false => rw [hb] at q'; exact ⟨vs', q', by simp; omega⟩
theorem itok_enu (R : RS K C g s H) {u : U} {v : V} {us : List U} (r : RelU K g H u v) (h : Pv.seqOf s u = some us) :
    ∃ a vs, v = .ref a ∧ SqK K (kindU u) H a vs ∧ ItOk K C (Ien K (kindU u) a) ⟨enumFrom 0 us, stillOf s u⟩ g H := by
  obtain ⟨a, vs, ea, q, z, rr⟩ := R.seqKind r h
  refine ⟨a, vs, ea, q, by rw [enumFrom_len]; exact z, fun i w g' s' H' R' e ok hi => ?_, fun g' s' H' R' e ok => ?_⟩
  · obtain ⟨vs', q', _, rr'⟩ := seq_later r h R' e ok ea
    obtain ⟨x, hx, rfl⟩ := enumFrom_get us 0 i w hi
    obtain ⟨y, hy, ry⟩ := rr'.get hx
    refine ⟨⟨vs', y, q', hy⟩, fun y' H2 yl => ?_⟩
    obtain ⟨T, y2, rfl, hT, rfl, e2⟩ := yl
    have := e2 vs' q'
    rw [hy] at this
    cases this
    refine ⟨R'.new hT, Ext.new R' hT, ?_, fun c o hc => by rw [upd_ne (ne_of_none hc hT)]; exact hc⟩
    rw [Nat.zero_add]
    exact tupNew (o := ⟨.none, none, .plain, #[]⟩) R' rfl hT (by show 2 ≤ sizeLine; decide) (.cons (.int _) (.cons ry .nil))
  · obtain ⟨vs', q', _, rr'⟩ := seq_later r h R' e ok ea
    exact ⟨vs', q', by rw [← rr'.length]; exact (enumFrom_len us 0).symm⟩
theorem zipU_len : ∀ us ws : List U, (zipU us ws).length = min us.length ws.length
  | [], _ => by simp [zipU]
  | _ :: _, [] => by simp [zipU]
  | _ :: us, _ :: ws => by simp [zipU, zipU_len us ws]
theorem zipU_get : ∀ (us ws : List U) (i : Nat) (w : U), (zipU us ws)[i]? = some w → ∃ x y, us[i]? = some x ∧ ws[i]? = some y ∧ w = .tup [x, y]
  | [], _, _, _, h => by simp [zipU] at h
  | _ :: _, [], _, _, h => by simp [zipU] at h
  | x :: us, y :: ws, 0, w, h => by simp [zipU] at h; exact ⟨x, y, rfl, rfl, h.symm⟩
  | x :: us, y :: ws, i + 1, w, h => by
    obtain ⟨p, q, h1, h2, h3⟩ := zipU_get us ws i w (by simpa [zipU] using h)
    exact ⟨p, q, by simpa using h1, by simpa using h2, h3⟩
theorem okL_append {l l' : List (Nat × List U)} {s' : MS} (h : okL (l ++ l') s' = true) : okL l s' = true ∧ okL l' s' = true := by
  unfold okL at h ⊢
  rw [List.all_append, Bool.and_eq_true] at h
  exact h
theorem itok_zip (R : RS K C g s H) {u u2 : U} {v v2 : V} {us ws : List U} (r : RelU K g H u v) (r2 : RelU K g H u2 v2) (h : Pv.seqOf s u = some us) (h2 : Pv.seqOf s u2 = some ws) :
    ∃ a a2 vs vs2, v = .ref a ∧ v2 = .ref a2 ∧ SqK K (kindU u) H a vs ∧ SqK K (kindU u2) H a2 vs2 ∧ ItOk K C (Izp K (kindU u) (kindU u2) a a2) ⟨zipU us ws, stillOf s u ++ stillOf s u2⟩ g H := by
  obtain ⟨a, vs, ea, q, z, rr⟩ := R.seqKind r h
  obtain ⟨a2, vs2, ea2, q2, z2, rr2⟩ := R.seqKind r2 h2
  refine ⟨a, a2, vs, vs2, ea, ea2, q, q2, by rw [zipU_len]; omega, fun i w g' s' H' R' e ok hi => ?_, fun g' s' H' R' e ok => ?_⟩
  · obtain ⟨vs', q', _, rr'⟩ := seq_later r h R' e (okL_append ok).1 ea
    obtain ⟨ws', p', _, tt'⟩ := seq_later r2 h2 R' e (okL_append ok).2 ea2
    obtain ⟨x, x2, hx, hx2, rfl⟩ := zipU_get us ws i w hi
    obtain ⟨y, hy, ry⟩ := rr'.get hx
    obtain ⟨y2, hy2, ry2⟩ := tt'.get hx2
    refine ⟨⟨vs', ws', y, y2, q', p', hy, hy2⟩, fun y' H2 yl => ?_⟩
    obtain ⟨T, c1, c2, ob, hob, rfl, hT, rfl, f1, f2⟩ := yl
    have h1 := f1 vs' q'
    have h2 := f2 ws' p'
    rw [hy] at h1
    rw [hy2] at h2
    cases h1; cases h2
    exact ⟨R'.new hT, Ext.new R' hT, tupNew R' hob hT (by show 2 ≤ sizeLine; decide) (.cons ry (.cons ry2 .nil)), fun c o hc => by rw [upd_ne (ne_of_none hc hT)]; exact hc⟩
  · obtain ⟨vs', q', _, rr'⟩ := seq_later r h R' e (okL_append ok).1 ea
    obtain ⟨ws', p', _, tt'⟩ := seq_later r2 h2 R' e (okL_append ok).2 ea2
    have l1 := rr'.length
    have l2 := tt'.length
    have l3 := zipU_len us ws
    exact ⟨vs', ws', q', p', by show (zipU us ws).length ≤ _; omega, by show (zipU us ws).length ≤ _; omega, by show (zipU us ws).length = _ ∨ (zipU us ws).length = _; omega⟩
theorem itok_rng (lo : Int) (n : Nat) (z : n ≤ sizeLine) : ItOk K C (Itr lo n) ⟨rowN lo n, []⟩ g H := by
  have hl : (rowN lo n).length = n := by simp [rowN]
  refine ⟨by rw [hl]; exact z, fun i w g' s' H' R' e ok hi => ?_, fun g' s' H' R' e ok => ?_⟩
  · have hi' : i < n := by
      have := (List.getElem?_eq_some_iff.mp hi).1
      simpa [rowN] using this
    have hw : w = .int (lo + (i : Nat)) := by
      have h1 : (rowN lo n)[i]? = some (.int (lo + (i : Nat))) := by simp [rowN, hi']
      have h2 : (rowN lo n)[i]? = some w := hi
      rw [h1] at h2
      cases h2; rfl
    subst hw
    refine ⟨hi', fun y H2 ⟨e1, e2⟩ => ?_⟩
    subst e1 e2
    exact ⟨R', Ext.refl _ _, .int _, fun _ _ z => z⟩
  · show n ≤ (rowN lo n).length
    omega
theorem itok_str (x : Str) (z : x.length ≤ sizeLine) : ItOk K C (Its x) ⟨x.cps.toList.map fun c => .str ⟨#[c]⟩, []⟩ g H := by
  have hl : (x.cps.toList.map fun c => U.str ⟨#[c]⟩).length = x.cps.size := by simp
  refine ⟨by rw [hl]; exact z, fun i w g' s' H' R' e ok hi => ?_, fun g' s' H' R' e ok => ?_⟩
  · have hi2 : (x.cps.toList.map fun c => U.str ⟨#[c]⟩)[i]? = some w := hi
    rw [List.getElem?_map] at hi2
    obtain ⟨c, hc, rfl⟩ := Option.map_eq_some_iff.mp hi2
    have hc' : x.cps[i]? = some c := by simpa using hc
    refine ⟨(Array.getElem?_eq_some_iff.mp hc').1, fun y H2 ⟨e1, c', e2, e3⟩ => ?_⟩
    rw [hc'] at e2
    cases e2
    subst e1 e3
    exact ⟨R', Ext.refl _ _, .str _, fun _ _ z => z⟩
  · show x.cps.size ≤ _
    rw [hl]
    exact Nat.le_refl _
end
section
variable {X : Cx} {C : Nat → Addr} {E : XK} {tg a b : Expr} {ma mb : SU → MS → Rv U} {p0 pos tpos : Pos} {elts : List Expr} {kk : Nat}
theorem si_seq (ha : PE X a (eEv X.K C E ma)) : PI X tg a (iEv X.K C E fun su s => (ma su s).bind fun u s1 => Rv.of (srcSeq u s1) s1) := by
  refine PI.imp (pi_sq ha) fun σ H R ⟨g, su, s, Rr, rs, p⟩ => ?_
  obtain ⟨g0, su0, s0, q1, q2, q3⟩ := eEv_seq (f := fun su u s1 => Rv.of (srcSeq u s1) s1) Rr rs p
  refine ⟨g0, su0, s0, q1, q2, q3.mono fun x H1 ⟨g1, s1, u, R1, rs1, ru, e1, p1⟩ => ?_⟩
  obtain ⟨r, er, p2⟩ := p1.of_
  obtain ⟨us, hu, rfl⟩ := Option.map_eq_some_iff.mp er
  obtain ⟨ad, vs, ex, hq, ok⟩ := itok_seq R1 ru hu
  exact ⟨_, ad, vs, ex, hq, Pst.ok_ p2 R1 (Ext.refl _ _) ok⟩
theorem si_enu (hg : Gl X "enumerate") (hm : X.mg "enumerate" = none) (ha : PE X a (eEv X.K C E ma)) (hs : starEach [a] X.env = [(false, eval a X.env)]) :
    PI X (.Tuple elts kk tpos) (.Call (.Name "enumerate" p0) [a] [] pos) (iEv X.K C E fun su s => (ma su s).bind fun u s1 => Rv.of (srcEnu u s1) s1) := by
  refine PI.imp (pi_en hg hm ha hs) fun σ H R ⟨g, su, s, Rr, rs, p⟩ => ?_
  obtain ⟨g0, su0, s0, q1, q2, q3⟩ := eEv_seq (f := fun su u s1 => Rv.of (srcEnu u s1) s1) Rr rs p
  refine ⟨g0, su0, s0, q1, q2, q3.mono fun x H1 ⟨g1, s1, u, R1, rs1, ru, e1, p1⟩ => ?_⟩
  obtain ⟨r, er, p2⟩ := p1.of_
  obtain ⟨us, hu, rfl⟩ := Option.map_eq_some_iff.mp er
  obtain ⟨ad, vs, ex, hq, ok⟩ := itok_enu R1 ru hu
  exact ⟨_, ad, vs, by rw [ex], hq, Pst.ok_ p2 R1 (Ext.refl _ _) ok⟩
theorem si_str (ha : PE X a (eEv X.K C E ma)) : PI X tg a (iEv X.K C E fun su s => (ma su s).bind fun u s1 => Rv.of (srcStr u) s1) := by
  refine PI.imp (pi_str ha) fun σ H R ⟨g, su, s, Rr, rs, p⟩ => ?_
  obtain ⟨g0, su0, s0, q1, q2, q3⟩ := eEv_seq (f := fun su u s1 => Rv.of (srcStr u) s1) Rr rs p
  refine ⟨g0, su0, s0, q1, q2, q3.mono fun x H1 ⟨g1, s1, u, R1, rs1, ru, e1, p1⟩ => ?_⟩
  obtain ⟨r, er, p2⟩ := p1.of_
  unfold srcStr at er
  split at er
  · split at er
    · rename_i hz
      cases er
      cases ru
      exact ⟨_, rfl, Pst.ok_ p2 R1 (Ext.refl _ _) (itok_str _ (by rw [← line_eq]; exact hz))⟩
    · cases er
  · cases er
variable (hsA : starEach [a] X.env = [(false, eval a X.env)]) (hsB : starEach [a, b] X.env = [(false, eval a X.env), (false, eval b X.env)]) (hsC : starEach [b] X.env = [(false, eval b X.env)])
include hsA in
theorem si_rng (hg : Gl X "range") (hm : X.mg "range" = none) (ha : PE X a (eEv X.K C E ma)) :
    PI X tg (.Call (.Name "range" p0) [a] [] pos) (iEv X.K C E fun su s => (ma su s).bind fun u s1 => Rv.of (srcRng (.int 0) u) s1) := by
  refine PI.imp (pi_range1 hg hm (sa_cons ha (sa_nil (C := C) (E := E)) (by rw [hsA]; rfl)) hsA) fun σ H R ⟨g, su, s, Rr, rs, p⟩ => ?_
  have p' : Pst X.K C (fun g' H' r J => ItOk X.K C J r g' H') (WOf E) g H (((ma su s).bind fun u s1 => (Rv.ok [] s1 : Rv (List U)).bind fun us s2 => .ok (u :: us) s2).bind fun us s1 => (match us with
    | [u] => Rv.of (srcRng (.int 0) u) s1
    | _ => .no)) R := by rw [Rv.assoc]; exact p
  obtain ⟨g0, su0, s0, q1, q2, q3⟩ := aEv_seq (ma := fun su s => (ma su s).bind fun u s1 => (Rv.ok [] s1 : Rv (List U)).bind fun us s2 => .ok (u :: us) s2) (f := fun _ us s1 => (match us with
    | [u] => Rv.of (srcRng (.int 0) u) s1
    | _ => .no)) Rr rs p'
  refine ⟨g0, su0, s0, q1, q2, q3.mono fun xs H1 ⟨g1, s1, us, R1, rs1, rus, e1, p1⟩ => ?_⟩
  split at p1
  · obtain ⟨r, er, p2⟩ := p1.of_
    unfold srcRng at er
    split at er
    · rename_i l j h0
      split at er
      · rename_i hz
        cases er
        cases h0
        cases rus with
        | cons r0 rr =>
          cases rr
          cases r0
          have e2 : (j - 0).toNat = j.toNat := by rw [Int.sub_zero]
          rw [e2] at p2
          exact ⟨j, rfl, hz.2.2.1, hz.2.2.2.1, Pst.ok_ p2 R1 (Ext.refl _ _) (itok_rng 0 j.toNat (by rw [← line_eq, ← e2]; exact hz.2.2.2.2))⟩
      · cases er
    · cases er
  · exact p1.elim
include hsB hsC in
theorem si_rng2 (hg : Gl X "range") (hm : X.mg "range" = none) (ha : PE X a (eEv X.K C E ma)) (hb : PE X b (eEv X.K C E mb)) :
    PI X tg (.Call (.Name "range" p0) [a, b] [] pos) (iEv X.K C E fun su s => (ma su s).bind fun u s1 => (mb su s1).bind fun v s2 => Rv.of (srcRng u v) s2) := by
  refine PI.imp (pi_range2 hg hm (sa_cons ha (sa_cons hb (sa_nil (C := C) (E := E)) (by rw [hsC]; rfl)) (by rw [hsB, hsC])) hsB hsC) fun σ H R ⟨g, su, s, Rr, rs, p⟩ => ?_
  have p' : Pst X.K C (fun g' H' r J => ItOk X.K C J r g' H') (WOf E) g H (((ma su s).bind fun u s1 => ((mb su s1).bind fun u s1 => (Rv.ok [] s1 : Rv (List U)).bind fun us s2 => .ok (u :: us) s2).bind fun us s2 => .ok (u :: us) s2).bind fun us s1 => (match us with
    | [u, v] => Rv.of (srcRng u v) s1
    | _ => .no)) R := by simp only [Rv.assoc]; exact p
  obtain ⟨g0, su0, s0, q1, q2, q3⟩ := aEv_seq (ma := fun su s => (ma su s).bind fun u s1 => ((mb su s1).bind fun u s1 => (Rv.ok [] s1 : Rv (List U)).bind fun us s2 => .ok (u :: us) s2).bind fun us s2 => .ok (u :: us) s2) (f := fun _ us s1 => (match us with
    | [u, v] => Rv.of (srcRng u v) s1
    | _ => .no)) Rr rs p'
  refine ⟨g0, su0, s0, q1, q2, q3.mono fun xs H1 ⟨g1, s1, us, R1, rs1, rus, e1, p1⟩ => ?_⟩
  split at p1
  · obtain ⟨r, er, p2⟩ := p1.of_
    unfold srcRng at er
    split at er
    · split at er
      · rename_i hz
        cases er
        cases rus with
        | cons r0 rr =>
          cases rr with
          | cons r1 rr =>
            cases rr
            cases r0
            cases r1
            exact ⟨_, _, rfl, ⟨hz.1, hz.2.1, hz.2.2.1, hz.2.2.2.1⟩, Pst.ok_ p2 R1 (Ext.refl _ _) (itok_rng _ _ (by rw [← line_eq]; exact hz.2.2.2.2))⟩
      · cases er
    · cases er
  · exact p1.elim
include hsB hsC in
theorem si_zip (hg : Gl X "zip") (hm : X.mg "zip" = none) (ha : PE X a (eEv X.K C E ma)) (hb : PE X b (eEv X.K C E mb)) :
    PI X (.Tuple elts kk tpos) (.Call (.Name "zip" p0) [a, b] [] pos) (iEv X.K C E fun su s => (ma su s).bind fun u s1 => (mb su s1).bind fun v s2 => Rv.of (srcZip u v s2) s2) := by
  refine PI.imp (pi_zp hg hm (sa_cons ha (sa_cons hb (sa_nil (C := C) (E := E)) (by rw [hsC]; rfl)) (by rw [hsB, hsC])) (by rw [hsB, hsC]) (by rw [hsC]; rfl)) fun σ H R ⟨g, su, s, Rr, rs, p⟩ => ?_
  have p' : Pst X.K C (fun g' H' r J => ItOk X.K C J r g' H') (WOf E) g H (((ma su s).bind fun u s1 => ((mb su s1).bind fun u s1 => (Rv.ok [] s1 : Rv (List U)).bind fun us s2 => .ok (u :: us) s2).bind fun us s2 => .ok (u :: us) s2).bind fun us s1 => (match us with
    | [u, v] => Rv.of (srcZip u v s1) s1
    | _ => .no)) R := by simp only [Rv.assoc]; exact p
  obtain ⟨g0, su0, s0, q1, q2, q3⟩ := aEv_seq (ma := fun su s => (ma su s).bind fun u s1 => ((mb su s1).bind fun u s1 => (Rv.ok [] s1 : Rv (List U)).bind fun us s2 => .ok (u :: us) s2).bind fun us s2 => .ok (u :: us) s2) (f := fun _ us s1 => (match us with
    | [u, v] => Rv.of (srcZip u v s1) s1
    | _ => .no)) Rr rs p'
  refine ⟨g0, su0, s0, q1, q2, q3.mono fun xs H1 ⟨g1, s1, us, R1, rs1, rus, e1, p1⟩ => ?_⟩
  split at p1
  · obtain ⟨r, er, p2⟩ := p1.of_
    unfold srcZip at er
    split at er
    · rename_i us1 us2 h1 h2
      cases er
      cases rus with
      | cons r0 rr =>
        cases rr with
        | cons r1 rr =>
          cases rr
          obtain ⟨ad, ad2, vs, vs2, rfl, rfl, hq, hq2, ok⟩ := itok_zip R1 r0 r1 h1 h2
          exact ⟨_, _, ad, ad2, vs, vs2, rfl, hq, hq2, Pst.ok_ p2 R1 (Ext.refl _ _) ok⟩
    · cases er
  · exact p1.elim
end
end Pv
set_option autoImplicit false
set_option Elab.async false
set_option linter.all false
set_option maxRecDepth 100000
set_option maxHeartbeats 1000000
namespace Pv
open PySem PySem.Spec PyProof.Rows L2

/-! ### targets -/
mutual
def slT : Tg → List Nat
  | .name i => [i]
  | .tup ts => slTs ts
def slTs : Tgs → List Nat
  | .nil => []
  | .cons t ts => slT t ++ slTs ts
end
def Tgs.len : Tgs → Nat
  | .nil => 0
  | .cons _ ts => ts.len + 1
/-- the same but for these places -/
def offS (l : List Nat) (σ σ' : L2.St) : Prop := ∀ i, i ∉ l → σ'[i]? = σ[i]?
def gEv (K : PySem.W.Frag) (C : Nat → Addr) (tg : Tg) : TG := fun v σ H Q => ∃ g su s u su', RS K C g s H ∧ RSt K g H su σ ∧ RelU K g H u v ∧ bindT tg u su = some su' ∧ ∀ σ', RSt K g H su' σ' → offS (slT tg) σ σ' → Q σ' H
def gsEv (K : PySem.W.Frag) (C : Nat → Addr) (ts : Tgs) : TGs := fun vs σ H Q => ∃ g su s us su', RS K C g s H ∧ RSt K g H su σ ∧ RelUs K g H us vs ∧ bindTs ts us su = some su' ∧ ∀ σ', RSt K g H su' σ' → offS (slTs ts) σ σ' → Q σ' H
theorem PG.imp {X : Cx} {e : Expr} {t t' : TG} (h : PG X e t) (i : ∀ v σ H Q, t' v σ H Q → t v σ H Q) : PG X e t' := ⟨fun pins s σ H v u Q I r q => h.run pins s σ H v u Q I r (i v σ H Q q)⟩
theorem PGs.imp {X : Cx} {e : List Expr} {t t' : TGs} (h : PGs X e t) (i : ∀ v σ H Q, t' v σ H Q → t v σ H Q) : PGs X e t' := ⟨fun pins s σ H v u Q I r q => h.run pins s σ H v u Q I r (i v σ H Q q)⟩
theorem PG.or {X : Cx} {e : Expr} {t t' : TG} (h : PG X e t) (h' : PG X e t') : PG X e (fun v σ H Q => t v σ H Q ∨ t' v σ H Q) := ⟨fun pins s σ H v u Q I r q => q.elim (h.run pins s σ H v u Q I r) (h'.run pins s σ H v u Q I r)⟩
theorem bindTs_len : ∀ (ts : Tgs) (us : List U) (su su' : SU), bindTs ts us su = some su' → us.length = ts.len
  | .nil, [], _, _, _ => rfl
  | .nil, _ :: _, _, _, h => by simp [bindTs] at h
  | .cons _ _, [], _, _, h => by simp [bindTs] at h
  | .cons t ts, u :: us, su, su', h => by
    simp only [bindTs] at h
    obtain ⟨s1, _, h2⟩ := Option.bind_eq_some_iff.mp h
    simp [Tgs.len, bindTs_len ts us s1 su' h2]
section
variable {X : Cx} {C : Nat → Addr} {pos : Pos}
theorem sg_name {i : Nat} {x : Str} (hN : X.N.Nodup) (hi : X.N[i]? = some x) (hx : Loc X.env.scope x) (hf : X.fn x = true ∨ X.env.scope.names.lookup x = some .local) : PG X (.Name x pos) (gEv X.K C (.name i)) :=
  PG.imp (pg_name hN hi hx hf) fun v σ H Q ⟨g, su, s, u, su', R, rs, ru, e, q⟩ => by
    simp only [bindT] at e
    cases e
    exact q _ (rs.set i ru) fun j hj => by rw [List.getElem?_set_ne (fun z => hj (by simp [slT, z]))]
theorem sg_nil : PGs X [] (gsEv X.K C .nil) := PGs.imp pgs_nil fun vs σ H Q ⟨g, su, s, us, su', R, rs, ru, e, q⟩ => by
  cases us with
  | nil =>
    cases ru
    simp only [bindTs] at e
    cases e
    exact ⟨rfl, q _ rs fun _ _ => rfl⟩
  | cons _ _ => simp [bindTs] at e
theorem sg_cons {e : Expr} {es : List Expr} {t : Tg} {ts : Tgs} (h1 : PG X e (gEv X.K C t)) (h2 : PGs X es (gsEv X.K C ts)) (hs : (assignEach (e :: es) X.env).map (·.2) = assign e X.env :: (assignEach es X.env).map (·.2)) : PGs X (e :: es) (gsEv X.K C (.cons t ts)) :=
  PGs.imp (pgs_cons h1 h2 hs) fun vs σ H Q ⟨g, su, s, us, su', R, rs, ru, eb, q⟩ => by
    cases ru with
    | nil => simp [bindTs] at eb
    | cons r rr =>
      simp only [bindTs] at eb
      obtain ⟨s1, b1, b2⟩ := Option.bind_eq_some_iff.mp eb
      refine ⟨_, _, rfl, g, su, s, _, s1, R, rs, r, b1, fun σ1 r1 o1 => ⟨g, s1, s, _, su', R, r1, rr, b2, fun σ2 r2 o2 => q σ2 r2 fun i hi => ?_⟩⟩
      simp only [slTs, List.mem_append, not_or] at hi
      rw [o2 i hi.2, o1 i hi.1]
theorem sg_tup {es : List Expr} {k : Nat} {ts : Tgs} (hc : X.calm = true) (h : PGs X es (gsEv X.K C ts)) (hn : (assignEach es X.env).length = ts.len) (hst : (assignEach es X.env).findIdx? (·.1) = none) : PG X (.Tuple es k pos) (gEv X.K C (.tup ts)) :=
  PG.imp (PG.or (pg_tup hc h hn hst) (pg_lst hc h hn hst)) fun v σ H Q ⟨g, su, s, u, su', R, rs, ru, e, q⟩ => by
    simp only [bindT] at e
    split at e
    · cases ru with
      | tup h1 h2 h3 h4 => exact .inl ⟨_, _, rfl, h1.sq, by rw [← h4.length, bindTs_len _ _ _ _ e], g, su, s, _, su', R, rs, h4, e, q⟩
    · cases ru with
      | lst h1 h2 h3 h4 => exact .inr ⟨_, _, rfl, SqL.of h1, by rw [← h4.length, bindTs_len _ _ _ _ e], g, su, s, _, su', R, rs, h4, e, q⟩
    · cases ru with
      | ktp h1 h2 h3 => exact .inl ⟨_, _, rfl, .inr h1, by rw [← h3.length, bindTs_len _ _ _ _ e], g, su, s, _, su', R, rs, h3, e, q⟩
    · cases e
/-! several tests -/
theorem sts_nil {E : XK} : PTs X [] (tEv X.K C E fun _ s => .ok true s) := PTs.imp pts_nil fun σ H Q ⟨g, su, s, R, rs, p⟩ => Pst.ok_ p R (Ext.refl _ _) rfl
theorem sts_one {E : XK} {c : Expr} {mt : SU → MS → Rv Bool} (h : PT X c (tEv X.K C E mt)) : PTs X [c] (tEv X.K C E fun su s => (mt su s).bind fun b s1 => if b then .ok true s1 else .ok false s1) :=
  PTs.imp (pts_one h) fun σ H Q ⟨g, su, s, R, rs, p⟩ => ⟨g, su, s, R, rs, by
    replace p : Pst X.K C (fun _ _ a b => a = b) (WOf E) g H ((mt su s).bind fun b s1 => if b then .ok true s1 else .ok false s1) Q := p
    show Pst X.K C (fun _ _ a b => a = b) (WOf E) g H (mt su s) Q
    generalize mt su s = r at p ⊢
    cases r with
    | ok b s' => cases b <;> exact p
    | ex c s' => exact p
    | no => exact p⟩
end
/-! ### forgetting names -/
theorem wipe_get (σ : L2.St) : ∀ (vs : List Nat) (i : Nat), (L2.wipe σ vs)[i]? = if i ∈ vs then (σ[i]?).map (fun _ => none) else σ[i]?
  | [], i => by simp [L2.wipe]
  | v :: vs, i => by
    unfold L2.wipe
    by_cases h : v = i
    · subst h
      rw [List.getElem?_set]
      simp only [if_true, List.mem_cons, true_or]
      by_cases hl : v < σ.length
      · simp [wipe_length, hl]
      · simp [wipe_length, hl]
    · rw [List.getElem?_set_ne h, wipe_get σ vs i]
      simp [Ne.symm h]
theorem wipe_off {σ σ' : L2.St} {vs l : List Nat} (hl : ∀ i ∈ l, i ∈ vs) (ln : σ'.length = (L2.wipe σ vs).length) (h : offS l (L2.wipe σ vs) σ') : L2.wipe σ' vs = L2.wipe σ vs := by
  refine List.ext_getElem? fun i => ?_
  rw [wipe_get]
  by_cases hi : i ∈ vs
  · rw [if_pos hi, wipe_get, if_pos hi]
    rw [wipe_length] at ln
    by_cases hlt : i < σ.length
    · rw [List.getElem?_eq_getElem hlt, List.getElem?_eq_getElem (by omega)]; rfl
    · rw [List.getElem?_eq_none (by omega), List.getElem?_eq_none (by omega)]
  · rw [if_neg hi]
    exact h i fun z => hi (hl i z)
theorem RSt.len' {K : PySem.W.Frag} {g : Gh} {H : Hp} {su su' : SU} {σ σ' : L2.St} (a : RSt K g H su σ) (b : RSt K g H su' σ') (h : su'.length = su.length) : σ'.length = σ.length := by rw [← b.1, ← a.1, h]
mutual
theorem bindT_len : ∀ (t : Tg) (u : U) (su su' : SU), bindT t u su = some su' → su'.length = su.length
  | .name i, u, su, su', h => by simp only [bindT] at h; cases h; simp
  | .tup ts, u, su, su', h => by
    simp only [bindT] at h
    split at h
    · exact bindTs_ln ts _ su su' h
    · exact bindTs_ln ts _ su su' h
    · exact bindTs_ln ts _ su su' h
    · cases h
theorem bindTs_ln : ∀ (ts : Tgs) (us : List U) (su su' : SU), bindTs ts us su = some su' → su'.length = su.length
  | .nil, [], su, su', h => by simp only [bindTs] at h; cases h; rfl
  | .nil, _ :: _, _, _, h => by simp [bindTs] at h
  | .cons _ _, [], _, _, h => by simp [bindTs] at h
  | .cons t ts, u :: us, su, su', h => by
    simp only [bindTs] at h
    obtain ⟨s1, h1, h2⟩ := Option.bind_eq_some_iff.mp h
    rw [bindTs_ln ts us s1 su' h2, bindT_len t u su s1 h1]
end
/-! ### a list under work -/
section
variable {K : PySem.W.Frag} {C : Nat → Addr} {g g1 : Gh} {s : MS} {H H1 : Hp} {D : Addr}
theorem Ext.under {o : HO} (e : Ext g1 H1 g H) (hD : H1 D = none) : Ext g1 H1 g (upd H D o) :=
  ⟨fun a u h n => let ⟨⟨o1, h1, k1⟩, n1⟩ := e.keep a u h n; ⟨⟨o1, by rw [upd_ne (ne_of_none h hD)]; exact h1, k1⟩, n1⟩, e.obj, e.nz, e.zk, fun a u h => let ⟨o', h'⟩ := e.lv a u h; ⟨o', by rw [upd_ne (ne_of_none h hD)]; exact h'⟩⟩
theorem Ext.bare (R1 : RS K C g1 s H1) (e : Ext g1 H1 g H) (hD : H1 D = none) : Ext g1 H1 (g.bare D) H :=
  ⟨e.keep, e.obj, fun a u h n m => e.nz a u h n (List.mem_filter.mp m).1, fun a h => by
    obtain ⟨⟨w, q, _⟩, _⟩ := R1.zsd a h
    exact List.mem_filter.mpr ⟨e.zk a h, decide_eq_true (ne_of_none q hD)⟩, e.lv⟩
theorem Ext.prom (R1 : RS K C g1 s H1) (e : Ext g1 H1 g H) (hD : H1 D = none) : Ext g1 H1 ((g.bare D).push D) H :=
  ⟨fun a u h n => let ⟨h1, n1⟩ := e.keep a u h n; ⟨h1, Gh.push_out (g := g.bare D) n1 (ne_of_none h hD)⟩, fun n a h => Gh.push_old (g := g.bare D) (e.obj n a h), fun a u h n m => e.nz a u h n (List.mem_filter.mp m).1, fun a h => by
    obtain ⟨⟨w, q, _⟩, _⟩ := R1.zsd a h
    exact List.mem_filter.mpr ⟨e.zk a h, decide_eq_true (ne_of_none q hD)⟩, e.lv⟩
theorem RSt.under {su : SU} {σ : L2.St} {o : HO} (hD : D ∈ g.zs) (r : RSt K g H su σ) : RSt K g (upd H D o) su σ := ⟨r.1, fun i u h => let ⟨v, h1, h2⟩ := r.2 i u h; ⟨v, h1, h2.under hD⟩⟩
/-- the state at a turn -/
structure LcI (K : PySem.W.Frag) (C : Nat → Addr) (g1 : Gh) (H1 : Hp) (D : Addr) (su : SU) (σ : L2.St) (g : Gh) (s : MS) (H : Hp) (acc : List U) : Prop where
  R : RS K C g s H
  z : D ∈ g.zs
  st : RSt K g H su σ
  e : Ext g1 H1 g H
  at_ : ∃ vs, H D = some (.lst vs) ∧ RelUs K g H acc vs
theorem LcI.ext {su : SU} {σ : L2.St} {acc : List U} (I : LcI K C g1 H1 D su σ g s H acc) {g' : Gh} {s' : MS} {H' : Hp} (R' : RS K C g' s' H') (e : Ext g H g' H') : LcI K C g1 H1 D su σ g' s' H' acc :=
  let ⟨vs, h, r⟩ := I.at_
  ⟨R', e.zk _ I.z, I.st.ext e, I.e.trans e, vs, (e.keep1 h (I.R.zsd D I.z).2 (.inr I.z)).1, r.ext e⟩
theorem LcI.app {su : SU} {σ : L2.St} {acc : List U} (I : LcI K C g1 H1 D su σ g s H acc) (hD : H1 D = none) {u : U} {v : V} (r : RelU K g H u v) : ∃ vs, H D = some (.lst vs) ∧ vs.length = acc.length ∧ LcI K C g1 H1 D su σ g s (upd H D (.lst (vs ++ [v]))) (acc ++ [u]) := by
  obtain ⟨vs, h, rr⟩ := I.at_
  exact ⟨vs, h, rr.length.symm, RS.under trivial I.z I.R, I.z, I.st.under I.z, I.e.under hD, _, upd_same, (rr.append (.cons r .nil)).under I.z⟩
theorem LcI.start {su : SU} {σ : L2.St} (R : RS K C g1 s H1) (st : RSt K g1 H1 su σ) (hD : H1 D = none) : LcI K C g1 H1 D su σ (g1.hide D) s (upd H1 D (.lst [])) [] :=
  ⟨R.hide (o := .lst []) trivial hD, List.mem_cons_self .., st.ext (Ext.hide hD), Ext.hide hD, [], upd_same, .nil⟩
theorem LcI.fin {su : SU} {σ : L2.St} {acc : List U} {W : Value → Hp → Prop} {Q : VK} {m : Bool} {s1 : MS} (R1 : RS K C g1 s1 H1) (I : LcI K C g1 H1 D su σ g s H acc) (hD : H1 D = none) (z : acc.length ≤ sizeLine) (p : Pst K C (RelU K) W g1 H1 (mkL m acc s) Q) : Q (.ref D) H := by
  obtain ⟨vs, h, rr⟩ := I.at_
  have nD : (g.bare D).no D := ⟨(I.R.zsd D I.z).2, fun x => by simpa using (List.mem_filter.mp x).2⟩
  unfold mkL at p
  cases m with
  | false => exact Pst.ok_ p (I.R.bare D) (I.e.bare R1 hD) (.lst h nD z (rr.sub (fun _ h => Gh.bare_no h) fun _ _ h => h))
  | true =>
    refine Pst.ok_ p (I.R.promote I.z h trivial ⟨z, vs, h, rr.sub (fun _ h => promote_no I.z h) fun _ _ h => Gh.push_old (g := g.bare D) h⟩) (I.e.prom R1 hD) ?_
    rw [← I.R.len]
    exact .obj (Gh.push_last (g := g.bare D))
end
/-- a turn's invariant: k what remains, B how long the list may be -/
structure LcW (K : PySem.W.Frag) (C : Nat → Addr) (W : Value → Hp → Prop) (g1 : Gh) (H1 : Hp) (D : Addr) (su : SU) (σ : L2.St) (n : Nat) (B : Nat → Nat → Prop) (k : Nat → List U → MS → Rv U) (Q : VK) (i m : Nat) (H : Hp) : Prop where
  eq : m = n - i
  le : i ≤ n
  st : ∃ g s acc, LcI K C g1 H1 D su σ g s H acc ∧ B i acc.length ∧ Pst K C (RelU K) W g1 H1 (k i acc s) Q
def E0 : XK := fun _ _ _ => False
section
variable {X : Cx} {C : Nat → Addr} {E : XK} {pos : Pos} {elt tgE iter : Expr} {ifs : List Expr} {scope : Scope} {own : List (Str × Nat)} {mi : SU → MS → Rv Src} {tg : Tg} {mt : SU → MS → Rv Bool} {me : SU → MS → Rv U} {m : Bool}
theorem drop_cons {α : Type} {l : List α} {i : Nat} (h : i < l.length) : ∃ x, l[i]? = some x ∧ l.drop i = x :: l.drop (i + 1) := ⟨l[i], List.getElem?_eq_getElem h, List.drop_eq_getElem_cons h⟩
/-- one comprehension's reading -/
theorem lc_read {K : PySem.W.Frag} {vs : List Nat} (hsl : ∀ i ∈ slT tg, i ∈ vs) {σ : L2.St} {H : Hp} {Q : VK} (h : eEv K C E (fun su s => (mi su s).bind fun r s1 => (lcL vs tg mt me r su r.items [] s1).bind fun us s2 => mkL m us s2) σ H Q) :
    tLc (iEv K C E mi) (gEv K C tg) (tEv K C E0 mt) (eEv K C E0 me) vs σ H Q := by
  obtain ⟨g, su, s, R, rs, p⟩ := h
  refine ⟨g, su, s, R, rs, (Pst.bind (R := fun g' H' r J => ItOk K C J r g' H') p).mono fun J H1 ⟨g1, s1, r, R1, e1, ok, p1⟩ D hD => ?_⟩
  refine ⟨LcW K C (WOf E) g1 H1 D su σ r.items.length (fun i n => n ≤ i) (fun i acc s => (lcL vs tg mt me r su (r.items.drop i) acc s).bind fun us s2 => mkL m us s2) Q,
    ⟨r.items.length, by simp, Nat.zero_le _, _, s1, [], LcI.start R1 (rs.ext e1) hD, Nat.le_refl _, p1⟩, ?_⟩
  rintro i n H2 ⟨rfl, hi, g2, s2, acc, I, ha, p2⟩
  replace p2 : Pst K C (RelU K) (WOf E) g1 H1 ((lcL vs tg mt me r su (r.items.drop i) acc s2).bind fun us s2 => mkL m us s2) Q := p2
  have len := ok.len
  by_cases hlt : i < r.items.length
  · refine .inr ?_
    obtain ⟨x, hx, hd⟩ := drop_cons hlt
    rw [hd, lcL] at p2
    by_cases ho : r.ok s2 = true
    · rw [if_pos ho] at p2
      obtain ⟨go, yl⟩ := ok.go i x g2 s2 H2 I.R I.e.weak ho hx
      refine ⟨go, _, fun H' hH => ⟨r.items.length - (i + 1), by omega, hH⟩, fun y H3 hy => ?_⟩
      obtain ⟨R3, e3, ry, _⟩ := yl y H3 hy
      have I3 := I.ext R3 e3
      cases hb : bindT tg x (wipe su vs) with
      | none => rw [hb] at p2; exact p2.elim
      | some su' =>
        rw [hb] at p2
        refine ⟨g2, wipe su vs, s2, x, su', R3, I3.st.wipe vs, ry, hb, fun σ2 r2 off => ⟨wipe_off hsl (RSt.len' (I3.st.wipe vs) r2 (bindT_len _ _ _ _ hb)) off, g2, su', s2, R3, r2, ?_⟩⟩
        simp only at p2
        cases hc : mt su' s2 with
        | no => rw [hc] at p2; exact p2.elim
        | ex c s' => rw [hc] at p2; exact p2.elim
        | ok b s3 =>
          rw [hc] at p2
          intro g4 H4 b' R4 e4 hb'
          cases hb'
          have I4 := I3.ext R4 e4
          cases b with
          | false =>
            rw [if_neg Bool.false_ne_true]
            exact ⟨rfl, hlt, g4, s3, acc, I4, by omega, p2⟩
          | true =>
            rw [if_pos rfl]
            simp only at p2
            refine ⟨g4, su', s3, R4, r2.ext e4, ?_⟩
            cases he : me su' s3 with
            | no => rw [he] at p2; exact p2.elim
            | ex c s' => rw [he] at p2; exact p2.elim
            | ok u s4 =>
              rw [he] at p2
              intro g5 H5 v R5 e5 rv
              obtain ⟨vs5, h5, l5, I5⟩ := (I4.ext R5 e5).app hD rv
              exact ⟨vs5, h5, by omega, rfl, hlt, g5, s4, acc ++ [u], I5, by simp; omega, p2⟩
    · rw [if_neg ho] at p2
      exact p2.elim
  · have e : i = r.items.length := by omega
    subst e
    refine .inl ?_
    rw [List.drop_length, lcL] at p2
    by_cases ho : r.ok s2 = true
    · rw [if_pos ho] at p2
      exact ⟨ok.stop g2 s2 H2 I.R I.e.weak ho, I.fin R1 hD (by omega) p2⟩
    · rw [if_neg ho] at p2
      exact p2.elim
theorem se_lc (hc : X.calm = true) (hN : X.N.Nodup) (hi : PI X tgE iter (iEv X.K C E mi)) (ok : BlkOk X.N X.env.scope scope own) (hsl : ∀ i ∈ slT tg, i ∈ own.map (·.2))
    (hg : ∀ (s : Shared) (H : Hp) (D : Addr) (cl : List (Str × Addr)) (fp : List Addr), PG (X.blk s H scope (compEnvC scope cl D X.env) fp) tgE (gEv X.K C tg)) (ht : ∀ (s : Shared) (H : Hp) (D : Addr) (cl : List (Str × Addr)) (fp : List Addr), PTs (X.blk s H scope (compEnvC scope cl D X.env) fp) ifs (tEv X.K C E0 mt))
    (he : ∀ (s : Shared) (H : Hp) (D : Addr) (cl : List (Str × Addr)) (fp : List Addr), PE (X.blk s H scope (compEnvC scope cl D X.env) fp) elt (eEv X.K C E0 me)) (hs : ∀ x, foldedSetIterable iter X.env x = pure x) :
    PE X (.ListComp elt [⟨tgE, iter, ifs, 0⟩] scope pos) (eEv X.K C E fun su s => (mi su s).bind fun r s1 => (lcL (own.map (·.2)) tg mt me r su r.items [] s1).bind fun us s2 => mkL m us s2) :=
  PE.imp (pe_lc hc hN hi ok hg ht he hs) fun σ H Q h => lc_read hsl h
end
end Pv
set_option autoImplicit false
set_option Elab.async false
set_option linter.all false
set_option maxRecDepth 100000
set_option maxHeartbeats 1000000
namespace Pv
open PySem PySem.Spec PyProof.Rows L2

section
variable {K : PySem.W.Frag} {C : Nat → Addr} {g g1 : Gh} {s : MS} {H H1 : Hp} {D : Addr}
theorem ExtW.under {g0 : Gh} {H0 : Hp} {o : HO} (e : ExtW g0 H0 g H) (hD : D ∈ g0.zs) : ExtW g0 H0 g (upd H D o) :=
  ⟨fun a u h n => let ⟨⟨o1, h1, k1⟩, n1⟩ := e.keep a u h n; ⟨⟨o1, by rw [upd_ne (fun z => n.2 (by rw [z]; exact hD))]; exact h1, k1⟩, n1⟩, e.obj, e.nz, fun a u h => let ⟨o', h'⟩ := e.lv a u h; upd_lv h'⟩
end
/-- the inner turn's invariant -/
structure LcW2 (K : PySem.W.Frag) (C : Nat → Addr) (W : Value → Hp → Prop) (g1 : Gh) (H1 : Hp) (D : Addr) (su : SU) (σ : L2.St) (gi : Gh) (Hi : Hp) (su' : SU) (σ' : L2.St) (n : Nat) (k : Nat → List U → MS → Rv U) (Q : VK) (i m : Nat) (H : Hp) : Prop where
  eq : m = n - i
  le : i ≤ n
  st : ∃ g s acc, LcI K C g1 H1 D su σ g s H acc ∧ RSt K g H su' σ' ∧ ExtW gi Hi g H ∧ acc.length ≤ line ∧ Pst K C (RelU K) W g1 H1 (k i acc s) Q
section
variable {X : Cx} {C : Nat → Addr} {E : XK} {pos : Pos} {elt tgE iter tgE1 iter1 : Expr} {ifs ifs1 : List Expr} {scope : Scope} {own : List (Str × Nat)} {mi mi1 : SU → MS → Rv Src} {tg tg1 : Tg} {mt mt1 : SU → MS → Rv Bool} {me : SU → MS → Rv U} {m : Bool}
def inLc (vs1 : List Nat) (tg1 : Tg) (mi1 : SU → MS → Rv Src) (mt1 : SU → MS → Rv Bool) (me : SU → MS → Rv U) (su' : SU) (acc : List U) (s' : MS) : Rv (List U) := (mi1 su' s').bind fun r1 s2 => lcJ vs1 tg1 mt1 me r1 su' r1.items acc s2
theorem lc2_read {K : PySem.W.Frag} {vs vs1 : List Nat} (hsl : ∀ i ∈ slT tg, i ∈ vs) (hsl1 : ∀ i ∈ slT tg1, i ∈ vs1) {σ : L2.St} {H : Hp} {Q : VK} (h : eEv K C E (fun su s => (mi su s).bind fun r s1 => (lcI vs tg mt (inLc vs1 tg1 mi1 mt1 me) r su r.items [] s1).bind fun us s2 => mkL m us s2) σ H Q) :
    tLc2 (iEv K C E mi) (gEv K C tg) (tEv K C E0 mt) (iEv K C E0 mi1) (gEv K C tg1) (tEv K C E0 mt1) (eEv K C E0 me) vs vs1 σ H Q := by
  obtain ⟨g, su, s, R, rs, p⟩ := h
  refine ⟨g, su, s, R, rs, (Pst.bind (R := fun g' H' r J => ItOk K C J r g' H') p).mono fun J H1 ⟨g1, s1, r, R1, e1, ok, p1⟩ D hD => ?_⟩
  refine ⟨LcW K C (WOf E) g1 H1 D su σ r.items.length (fun i n => n ≤ line) (fun i acc s => (lcI vs tg mt (inLc vs1 tg1 mi1 mt1 me) r su (r.items.drop i) acc s).bind fun us s2 => mkL m us s2) Q,
    ⟨r.items.length, by simp, Nat.zero_le _, _, s1, [], LcI.start R1 (rs.ext e1) hD, Nat.zero_le _, p1⟩, ?_⟩
  rintro i n H2 ⟨rfl, hi, g2, s2, acc, I, ha, p2⟩
  replace p2 : Pst K C (RelU K) (WOf E) g1 H1 ((lcI vs tg mt (inLc vs1 tg1 mi1 mt1 me) r su (r.items.drop i) acc s2).bind fun us s2 => mkL m us s2) Q := p2
  have len := ok.len
  by_cases hlt : i < r.items.length
  · refine .inr ?_
    obtain ⟨x, hx, hd⟩ := drop_cons hlt
    rw [hd, lcI] at p2
    by_cases ho : r.ok s2 = true
    · rw [if_pos ho] at p2
      obtain ⟨go, yl⟩ := ok.go i x g2 s2 H2 I.R I.e.weak ho hx
      refine ⟨go, _, fun H' hH => ⟨r.items.length - (i + 1), by omega, hH⟩, fun y H3 hy => ?_⟩
      obtain ⟨R3, e3, ry, _⟩ := yl y H3 hy
      have I3 := I.ext R3 e3
      cases hb : bindT tg x (wipe su vs) with
      | none => rw [hb] at p2; exact p2.elim
      | some su' =>
        rw [hb] at p2
        refine ⟨g2, wipe su vs, s2, x, su', R3, I3.st.wipe vs, ry, hb, fun σ2 r2 off => ⟨wipe_off hsl (RSt.len' (I3.st.wipe vs) r2 (bindT_len _ _ _ _ hb)) off, g2, su', s2, R3, r2, ?_⟩⟩
        simp only at p2
        cases hc : mt su' s2 with
        | no => rw [hc] at p2; exact p2.elim
        | ex c s' => rw [hc] at p2; exact p2.elim
        | ok b s3 =>
          rw [hc] at p2
          intro g4 H4 b' R4 e4 hb'
          cases hb'
          have I4 := I3.ext R4 e4
          cases b with
          | false =>
            rw [if_neg Bool.false_ne_true]
            exact ⟨rfl, hlt, g4, s3, acc, I4, ha, p2⟩
          | true =>
            rw [if_pos rfl]
            simp only [inLc] at p2
            refine ⟨g4, su', s3, R4, r2.ext e4, ?_⟩
            cases hi1 : mi1 su' s3 with
            | no => rw [hi1] at p2; exact p2.elim
            | ex c s' => rw [hi1] at p2; exact p2.elim
            | ok r1 s4 =>
              rw [hi1] at p2
              intro g5 H5 J1 R5 e5 ok1
              have I5 := I4.ext R5 e5
              have len1 := ok1.len
              refine ⟨LcW2 K C (WOf E) g1 H1 D su σ g5 H5 su' σ2 r1.items.length (fun j acc s => (match lcJ vs1 tg1 mt1 me r1 su' (r1.items.drop j) acc s with
                | .ok acc' s'' => lcI vs tg mt (inLc vs1 tg1 mi1 mt1 me) r su (r.items.drop (i + 1)) acc' s''
                | _ => .no).bind fun us s2 => mkL m us s2) Q,
                ⟨r1.items.length, by simp, Nat.zero_le _, g5, s4, acc, I5, (r2.ext e4).ext e5, (Ext.refl _ _).weak, ha, p2⟩, ?_⟩
              rintro j n H6 ⟨rfl, hj, g6, s6, acc6, I6, r6, e6, ha6, p6⟩
              replace p6 : Pst K C (RelU K) (WOf E) g1 H1 ((match lcJ vs1 tg1 mt1 me r1 su' (r1.items.drop j) acc6 s6 with
                | .ok acc' s'' => lcI vs tg mt (inLc vs1 tg1 mi1 mt1 me) r su (r.items.drop (i + 1)) acc' s''
                | _ => .no).bind fun us s2 => mkL m us s2) Q := p6
              by_cases hjt : j < r1.items.length
              · refine .inr ?_
                obtain ⟨x1, hx1, hd1⟩ := drop_cons hjt
                rw [hd1, lcJ] at p6
                by_cases ho1 : r1.ok s6 = true
                · rw [if_pos ho1] at p6
                  obtain ⟨go1, yl1⟩ := ok1.go j x1 g6 s6 H6 I6.R e6 ho1 hx1
                  refine ⟨go1, _, fun H' hH => ⟨r1.items.length - (j + 1), by omega, hH⟩, fun y1 H7 hy1 => ?_⟩
                  obtain ⟨R7, e7, ry1, _⟩ := yl1 y1 H7 hy1
                  have I7 := I6.ext R7 e7
                  have r7 := r6.ext e7
                  cases hb1 : bindT tg1 x1 (wipe su' vs1) with
                  | none => rw [hb1] at p6; exact p6.elim
                  | some su2 =>
                    rw [hb1] at p6
                    refine ⟨g6, wipe su' vs1, s6, x1, su2, R7, r7.wipe vs1, ry1, hb1, fun σ3 r3 off3 => ⟨wipe_off hsl1 (RSt.len' (r7.wipe vs1) r3 (bindT_len _ _ _ _ hb1)) off3, g6, su2, s6, R7, r3, ?_⟩⟩
                    simp only at p6
                    cases hc1 : mt1 su2 s6 with
                    | no => rw [hc1] at p6; exact p6.elim
                    | ex c s' => rw [hc1] at p6; exact p6.elim
                    | ok b1 s7 =>
                      rw [hc1] at p6
                      intro g8 H8 b8 R8 e8 hb8
                      cases hb8
                      have I8 := I7.ext R8 e8
                      have x8 : ExtW g5 H5 g8 H8 := (e6.trans e7.weak).trans e8.weak
                      cases b1 with
                      | false =>
                        rw [if_neg Bool.false_ne_true]
                        exact ⟨rfl, hjt, g8, s7, acc6, I8, r7.ext e8, x8, ha6, p6⟩
                      | true =>
                        rw [if_pos rfl]
                        simp only at p6
                        refine ⟨g8, su2, s7, R8, r3.ext e8, ?_⟩
                        cases he : me su2 s7 with
                        | no => rw [he] at p6; exact p6.elim
                        | ex c s' => rw [he] at p6; exact p6.elim
                        | ok u s8 =>
                          rw [he] at p6
                          simp only at p6
                          by_cases hz : acc6.length < line
                          · rw [if_pos hz] at p6
                            intro g9 H9 v R9 e9 rv
                            have I9 := I8.ext R9 e9
                            obtain ⟨vs9, h9, l9, I10⟩ := I9.app hD rv
                            refine ⟨vs9, h9, by rw [l9, ← line_eq]; exact hz, rfl, hjt, g9, s8, acc6 ++ [u], I10, ((r7.ext e8).ext e9).under I9.z, (x8.trans e9.weak).under I5.z, by simp; omega, p6⟩
                          · rw [if_neg hz] at p6
                            exact p6.elim
                · rw [if_neg ho1] at p6
                  exact p6.elim
              · have e : j = r1.items.length := by omega
                subst e
                refine .inl ?_
                rw [List.drop_length, lcJ] at p6
                by_cases ho1 : r1.ok s6 = true
                · rw [if_pos ho1] at p6
                  exact ⟨ok1.stop g6 s6 H6 I6.R e6 ho1, rfl, hlt, g6, s6, acc6, I6, ha6, p6⟩
                · rw [if_neg ho1] at p6
                  exact p6.elim
    · rw [if_neg ho] at p2
      exact p2.elim
  · have e : i = r.items.length := by omega
    subst e
    refine .inl ?_
    rw [List.drop_length, lcI] at p2
    by_cases ho : r.ok s2 = true
    · rw [if_pos ho] at p2
      exact ⟨ok.stop g2 s2 H2 I.R I.e.weak ho, I.fin R1 hD (by rw [← line_eq]; exact ha) p2⟩
    · rw [if_neg ho] at p2
      exact p2.elim
theorem se_lc2 {vs1 : List Nat} (hc : X.calm = true) (hN : X.N.Nodup) (hi : PI X tgE iter (iEv X.K C E mi)) (ok : BlkOk X.N X.env.scope scope own) (hsl : ∀ i ∈ slT tg, i ∈ own.map (·.2)) (hv : ∀ i ∈ vs1, i ∈ own.map (·.2)) (hsl1 : ∀ i ∈ slT tg1, i ∈ vs1)
    (hg : ∀ (s : Shared) (H : Hp) (D : Addr) (cl : List (Str × Addr)) (fp : List Addr), PG (X.blk s H scope (compEnvC scope cl D X.env) fp) tgE (gEv X.K C tg)) (ht : ∀ (s : Shared) (H : Hp) (D : Addr) (cl : List (Str × Addr)) (fp : List Addr), PTs (X.blk s H scope (compEnvC scope cl D X.env) fp) ifs (tEv X.K C E0 mt))
    (hi1 : ∀ (s : Shared) (H : Hp) (D : Addr) (cl : List (Str × Addr)) (fp : List Addr), PI (X.blk s H scope (compEnvC scope cl D X.env) fp) tgE1 iter1 (iEv X.K C E0 mi1))
    (hg1 : ∀ (s : Shared) (H : Hp) (D : Addr) (cl : List (Str × Addr)) (fp : List Addr), PG (X.blk s H scope (compEnvC scope cl D X.env) fp) tgE1 (gEv X.K C tg1)) (ht1 : ∀ (s : Shared) (H : Hp) (D : Addr) (cl : List (Str × Addr)) (fp : List Addr), PTs (X.blk s H scope (compEnvC scope cl D X.env) fp) ifs1 (tEv X.K C E0 mt1))
    (he : ∀ (s : Shared) (H : Hp) (D : Addr) (cl : List (Str × Addr)) (fp : List Addr), PE (X.blk s H scope (compEnvC scope cl D X.env) fp) elt (eEv X.K C E0 me)) (hs : ∀ x, foldedSetIterable iter X.env x = pure x) (hs1 : ∀ env x, foldedSetIterable iter1 env x = pure x) :
    PE X (.ListComp elt [⟨tgE, iter, ifs, 0⟩, ⟨tgE1, iter1, ifs1, 0⟩] scope pos) (eEv X.K C E fun su s => (mi su s).bind fun r s1 => (lcI (own.map (·.2)) tg mt (inLc vs1 tg1 mi1 mt1 me) r su r.items [] s1).bind fun us s2 => mkL m us s2) :=
  PE.imp (pe_lc2 hc hN hi ok hv hg ht hi1 hg1 ht1 he hs hs1) fun σ H Q h => lc2_read hsl hsl1 h
end
end Pv
set_option autoImplicit false
set_option Elab.async false
set_option linter.all false
set_option maxRecDepth 100000
set_option maxHeartbeats 1000000
namespace Pv
open PySem PySem.Spec PyProof.Rows L2

section
variable {K : PySem.W.Frag} {C : Nat → Addr} {g : Gh} {s : MS} {H : Hp} {W : Value → Hp → Prop} {Q : VK}
theorem Pst.mkK0 {m : Bool} (p : Pst K C (RelU K) W g H (mkK m [] s) Q) (R : RS K C g s H) (a : Addr) (ha : H a = none) : Q (.ref a) (upd H a (.dK [])) := by
  unfold mkK at p
  cases m with
  | false => exact Pst.ok_ p (R.new ha) (Ext.new R ha) (.dK (ks := []) (us := []) (vs := []) (.inl upd_same) (R.fresh ha) rfl (Nat.zero_le _) .nil)
  | true =>
    refine Pst.ok_ p (R.newO (ho := .dK []) ha trivial ⟨Nat.zero_le _, [], upd_same, .nil⟩) (Ext.newO R ha) ?_
    rw [← R.len]
    exact .obj Gh.push_last
theorem Pst.mkT0 {m : Bool} (p : Pst K C (RelU K) W g H (mkT m [] s) Q) (R : RS K C g s H) (a : Addr) (ha : H a = none) : Q (.ref a) (upd H a (.dT [])) := by
  unfold mkT at p
  cases m with
  | false => exact Pst.ok_ p (R.new ha) (Ext.new R ha) (.dT (ks := []) (us := []) (vs := []) (.inl upd_same) (R.fresh ha) rfl (Nat.zero_le _) .nil)
  | true =>
    refine Pst.ok_ p (R.newO (ho := .dT []) ha trivial ⟨Nat.zero_le _, [], upd_same, .nil⟩) (Ext.newO R ha) ?_
    rw [← R.len]
    exact .obj Gh.push_last
end
section
variable {X : Cx} {C : Nat → Addr} {E : XK} {pos : Pos} {a b c : Expr} {ma mb mc : SU → MS → Rv U}
theorem se_chn (hu : X.A.units + 110 < cLine) {o o' : CO} (hm : lastMarks [coOp o, coOp o'] [b, c] = false) (ha : PE X a (eEv X.K C E ma)) (hb : PE X b (eEv X.K C E mb)) (hc : PE X c (eEv X.K C E mc)) :
    PE X (.Compare a [coOp o, coOp o'] [b, c] pos) (eEv X.K C E fun su s => (ma su s).bind fun u s1 => (mb su s1).bind fun v s2 => chnK (cmpU o u v s2) (fun s2 => (mc su s2).bind fun w s3 => Rv.of ((cmpU o' v w s3).map .bl) s3) s2) := by
  refine PE.imp (pe_chain (co_op (C := C) hu o) (co_op (C := C) hu o') ha hb hc hm) fun σ H Q ⟨g, su, s, R, rs, p⟩ => ?_
  obtain ⟨g0, su0, s0, q1, q2, q3⟩ := eEv_seq (f := fun su u s1 => (mb su s1).bind fun v s2 => chnK (cmpU o u v s2) (fun s2 => (mc su s2).bind fun w s3 => Rv.of ((cmpU o' v w s3).map .bl) s3) s2) R rs p
  refine ⟨g0, su0, s0, q1, q2, q3.mono fun x H1 ⟨g1, s1, u, R1, rs1, ru, e1, p1⟩ => ?_⟩
  obtain ⟨g0, su0, s0, q1, q2, q3⟩ := eEv_seq (f := fun su v s2 => chnK (cmpU o u v s2) (fun s2 => (mc su s2).bind fun w s3 => Rv.of ((cmpU o' v w s3).map .bl) s3) s2) R1 rs1 p1
  refine ⟨g0, su0, s0, q1, q2, q3.mono fun y H2 ⟨g2, s2, v, R2, rs2, rv, e2, p2⟩ => ?_⟩
  refine ⟨WOf E, g2, s2, u, v, R2, ru.ext e2, rv, ?_⟩
  unfold cmpR
  cases hk : cmpU o u v s2 with
  | none => rw [hk] at p2; exact p2.elim
  | some k =>
    rw [hk] at p2
    intro g' H' z R' e' rz
    cases rz
    refine ⟨k, rfl, ?_⟩
    cases k with
    | false =>
      rw [if_neg Bool.false_ne_true]
      exact Pst.ok_ p2 R' e' (.bl _)
    | true =>
      rw [if_pos rfl]
      simp only [chnK] at p2
      obtain ⟨g0, su0, s0, q1, q2, q3⟩ := eEv_seq (f := fun su w s3 => Rv.of ((cmpU o' v w s3).map U.bl) s3) R' (rs2.ext e') (p2.ext e')
      refine ⟨g0, su0, s0, q1, q2, q3.mono fun t H3 ⟨g3, s3, w, R3, rs3, rt, e3, p3⟩ => ?_⟩
      exact ⟨_, g3, s3, v, w, R3, (rv.ext e').ext e3, rt, p3⟩
theorem st_chn (hu : X.A.units + 110 < cLine) {o o' : CO} (hm : lastMarks [coOp o, coOp o'] [b, c] = false) (ha : PE X a (eEv X.K C E ma)) (hb : PE X b (eEv X.K C E mb)) (hc : PE X c (eEv X.K C E mc)) :
    PT X (.Compare a [coOp o, coOp o'] [b, c] pos) (tEv X.K C E fun su s => (ma su s).bind fun u s1 => (mb su s1).bind fun v s2 => chnB (cmpU o u v s2) (fun s2 => (mc su s2).bind fun w s3 => Rv.of (cmpU o' v w s3) s3) s2) := by
  refine PT.imp (pt_chain (co_op (C := C) hu o) (co_op (C := C) hu o') ha hb hc hm) fun σ H Q ⟨g, su, s, R, rs, p⟩ => ?_
  obtain ⟨g0, su0, s0, q1, q2, q3⟩ := eEv_seq (f := fun su u s1 => (mb su s1).bind fun v s2 => chnB (cmpU o u v s2) (fun s2 => (mc su s2).bind fun w s3 => Rv.of (cmpU o' v w s3) s3) s2) R rs p
  refine ⟨g0, su0, s0, q1, q2, q3.mono fun x H1 ⟨g1, s1, u, R1, rs1, ru, e1, p1⟩ => ?_⟩
  obtain ⟨g0, su0, s0, q1, q2, q3⟩ := eEv_seq (f := fun su v s2 => chnB (cmpU o u v s2) (fun s2 => (mc su s2).bind fun w s3 => Rv.of (cmpU o' v w s3) s3) s2) R1 rs1 p1
  refine ⟨g0, su0, s0, q1, q2, q3.mono fun y H2 ⟨g2, s2, v, R2, rs2, rv, e2, p2⟩ => ?_⟩
  refine ⟨WOf E, g2, s2, u, v, R2, ru.ext e2, rv, ?_⟩
  unfold cmpR
  cases hk : cmpU o u v s2 with
  | none => rw [hk] at p2; exact p2.elim
  | some k =>
    rw [hk] at p2
    intro g' H' z R' e' rz
    cases rz
    refine ⟨k, rfl, ?_⟩
    cases k with
    | false =>
      rw [if_neg Bool.false_ne_true]
      exact ⟨false, rfl, Pst.ok_ p2 R' e' rfl⟩
    | true =>
      rw [if_pos rfl]
      simp only [chnB] at p2
      obtain ⟨g0, su0, s0, q1, q2, q3⟩ := eEv_seq (f := fun su w s3 => Rv.of (cmpU o' v w s3) s3) R' (rs2.ext e') (p2.ext e')
      refine ⟨g0, su0, s0, q1, q2, q3.mono fun t H3 ⟨g3, s3, w, R3, rs3, rt, e3, p3⟩ => ?_⟩
      exact ⟨_, g3, s3, v, w, R3, (rv.ext e').ext e3, rt, of_bl p3⟩
/-! {} -/
theorem se_disT {m : Bool} : PE X (.Dict [] [] pos) (eEv X.K C E fun _ s => mkT m [] s) :=
  PE.imp pe_dnewT fun σ H Q ⟨g, su, s, R, rs, p⟩ a ha => Pst.mkT0 p R a ha
theorem se_disK {m : Bool} : PE X (.Dict [] [] pos) (eEv X.K C E fun _ s => (Rv.ok ([], []) s : Rv (List U × List U)).bind fun ps s1 => disK m ps.1 ps.2 s1) :=
  PE.imp pe_dnewK fun σ H Q ⟨g, su, s, R, rs, p⟩ a ha => Pst.mkK0 p R a ha
/-! isinstance(x, T) -/
theorem pe_bt {x : Str} {T : String} {p : Pos} (hg : Gl X x) (hm : X.mg x = none) (hv : bootBuiltins x = some (.type T)) (hn : x ≠ "__name__") (hd : (x == ("__debug__" : Str)) = false) : PE X (.Name x p) (fun _ H Q => Q (.ty T) H) :=
  ⟨fun pins s σ H Q I h => ld_blt I hg hm hv ⟨.ty T, H, I, rfl, h⟩ hn hd⟩
theorem se_isi {t : TY} {x y : Str} {p0 p1 : Pos} (hx : x = "isinstance") (hg : Gl X x) (hm : X.mg x = none) (hgy : Gl X y) (hmy : X.mg y = none) (hvy : bootBuiltins y = some (.type (tyName t))) (hny : y ≠ "__name__") (hdy : (y == ("__debug__" : Str)) = false)
    (ha : PE X a (eEv X.K C E ma)) (hsA : starEach [a, .Name y p1] X.env = [(false, eval a X.env), (false, eval (.Name y p1) X.env)]) :
    PE X (.Call (.Name x p0) [a, .Name y p1] [] pos) (eEv X.K C E fun su s => (ma su s).bind fun u s1 => Rv.of ((isiU s1 u [t]).map .bl) s1) := by
  subst hx
  refine PE.imp (pe_callB (isi_one (C := C) (W := WOf E) (t := t)) hg hm (by decide +kernel) (pa_cons ha (pa_cons (pe_bt hgy hmy hvy hny hdy) pa_nil rfl) hsA) (by decide) (by decide) hsA (by rfl)) fun σ H Q ⟨g, su, s, R, rs, p⟩ => ?_
  obtain ⟨g0, su0, s0, q1, q2, q3⟩ := eEv_seq (f := fun su u s1 => Rv.of ((isiU s1 u [t]).map U.bl) s1) R rs p
  exact ⟨g0, su0, s0, q1, q2, q3.mono fun v H1 ⟨g1, s1, u, R1, rs1, ru, e1, p1⟩ => ⟨g1, s1, u, v, R1, ru, rfl, p1⟩⟩
/-! calls of defs -/
/-- what a def promises -/
def spEv (K : PySem.W.Frag) (C : Nat → Addr) (n : Nat) (F : List U → MS → Rv U) : Sp := fun vs H Q E => vs.length = n ∧ ∃ g s us, RS K C g s H ∧ RelUs K g H us vs ∧ Pst K C (RelU K) (WOf E) g H (F us s) Q
variable {es : List Expr} {e : Expr} {mes : SU → MS → Rv (List U)}
theorem se_call {CX : CXT} {k n : Nat} {f : Addr} {fd : FuncData} {ps : List Str} {x : Str} {p0 : Pos} {F : List U → MS → Rv U} (hF : FnOk X.prog X.w X.K X.mg X.base CX k f fd ps (spEv X.K C n F)) (hn : ∀ us s, us.length ≠ n → F us s = .no) (hr : Room k X.A) (hg : Gl X x) (hm : X.mg x = some (.ref f))
    (hk : PySem.W.keepIn X.K (.ref f) = true) (hb : Binds X.K fd ps []) (hx : Passes CX X E) (h : PA X (e :: es) (aEv X.K C E mes)) (hd : (x == ("__debug__" : Str)) = false) (he : starEach (e :: es) X.env = (false, eval e X.env) :: starEach es X.env) (hpl : (backTo pos (starEach es X.env)).any (·.1) = false) :
    PE X (.Call (.Name x p0) (e :: es) [] pos) (eEv X.K C E fun su s => (mes su s).bind fun us s1 => F us s1) := by
  refine PE.imp (pe_call hF hr hg hm hk hb (dvs := []) .nil hx h hd he hpl) fun σ H Q ⟨g, su, s, R, rs, p⟩ => ?_
  obtain ⟨g0, su0, s0, q1, q2, q3⟩ := aEv_seq (f := fun su us s1 => F us s1) R rs p
  refine ⟨g0, su0, s0, q1, q2, q3.mono fun vs H1 ⟨g1, s1, us, R1, rs1, rus, e1, p1⟩ => ?_⟩
  have hl : us.length = n := by
    by_cases q : us.length = n
    · exact q
    · rw [hn us s1 q] at p1
      exact p1.elim
  show spEv X.K C n F (vs ++ []) H1 Q E
  rw [List.append_nil]
  exact ⟨by rw [← rus.length]; exact hl, g1, s1, us, R1, rus, p1⟩
/-! methods of lists -/
theorem se_append {o : Expr} {mo me : SU → MS → Rv U} {apos : Pos} (ho : PE X o (eEv X.K C E mo)) (he : PE X e (eEv X.K C E me)) (hbase : attributeBase o "append" X.env (eval o X.env) = eval o X.env) (hline : (apos.endLine == pos.line) = true) (hs : starEach [e] X.env = [(false, eval e X.env)]) :
    PE X (.Call (.Attribute o "append" apos) [e] [] pos) (eEv X.K C E fun su s => (mo su s).bind fun u s1 => meK .append u (fun s1 => ((me su s1).bind fun w s2 => (Rv.ok [] s2 : Rv (List U)).bind fun us s3 => .ok (w :: us) s3).bind fun us s2 => meU .append u us s2) s1) := by
  refine PE.imp (pe_bm PySem.F.plainAttrs_list PySem.F.slot_list_append PySem.F.type_list_append mt_append ho (pa_cons he pa_nil (by rw [hs]; rfl)) hbase (by rw [hs]; rfl) hline (by rw [hs]; rfl) (by rfl)) fun σ H Q ⟨g, su, s, R, rs, p⟩ => ?_
  obtain ⟨g0, su0, s0, q1, q2, q3⟩ := eEv_seq (f := fun su u s1 => meK .append u (fun s1 => ((me su s1).bind fun w s2 => (Rv.ok [] s2 : Rv (List U)).bind fun us s3 => .ok (w :: us) s3).bind fun us s2 => meU .append u us s2) s1) R rs p
  refine ⟨g0, su0, s0, q1, q2, q3.mono fun x H1 ⟨g1, s1, u, R1, rs1, ru, e1, p1⟩ => ?_⟩
  unfold meK at p1
  split at p1
  · rename_i hrc
    unfold recv at hrc
    simp only at hrc
    split at hrc
    · rename_i n
      obtain ⟨xs, hx⟩ := Option.isSome_iff_exists.mp hrc
      obtain ⟨ad, vs, ex, hq, _, _⟩ := R1.lstOf ru hx
      refine ⟨by rw [ex]; exact .inl ⟨rfl, vs, SqL.of hq⟩, ?_⟩
      simp only [Rv.assoc, Rv.bind_ok] at p1
      obtain ⟨g0, su0, s0, q1, q2, q3⟩ := eEv_seq (f := fun su w s2 => meU .append (.obj n) [w] s2) R1 rs1 p1
      refine ⟨g0, su0, s0, q1, q2, q3.mono fun y H2 ⟨g2, s2, w, R2, rs2, rw, e2, p2⟩ => ?_⟩
      have ru2 := ru.ext e2
      unfold meU at p2
      simp only at p2
      split at p2
      · rename_i ys hy
        split at p2
        · rename_i hz
          cases ru2 with
          | obj ha =>
            obtain ⟨z, vs2, hq2, rr⟩ := R2.at_ n _ _ hy ha
            have hl := rr.length
            rw [line_eq] at hz
            refine ⟨_, vs2, y, rfl, rfl, hq2, by omega, ?_⟩
            have xw := Ext.write R2 (ho := .lst (vs2 ++ [y])) ha
            exact Pst.ok_ p2 (R2.write ha trivial ⟨by simp; omega, vs2 ++ [y], upd_same, (rr.ext xw).append (.cons (rw.ext xw) .nil)⟩) xw .non
        · exact p2.elim
      · exact p2.elim
    · cases hrc
  · exact p1.elim
end
end Pv
set_option autoImplicit false
set_option Elab.async false
set_option linter.all false
set_option maxRecDepth 100000
set_option maxHeartbeats 1000000
namespace Pv
open PySem PySem.Spec PyProof.Rows L2

/-! ### dict of pairs -/
section
variable {K : PySem.W.Frag} {C : Nat → Addr} {g : Gh} {s : MS} {H : Hp} {W : Value → Hp → Prop} {Q : VK}
theorem Pst.mkK {m : Bool} {kvs : List (Key × U)} {vs : List V} (p : Pst K C (RelU K) W g H (mkK m kvs s) Q) (R : RS K C g s H) (z : kvs.length ≤ sizeLine) (r : RelUs K g H (kvs.map (·.2)) vs) (a : Addr) (ha : H a = none) : Q (.ref a) (upd H a (.dK ((kvs.map (·.1)).zip vs))) := by
  unfold Pv.mkK at p
  cases m with
  | false => exact Pst.ok_ p (R.new ha) (Ext.new R ha) (.dK (.inl upd_same) (R.fresh ha) (by simp) (by simpa using z) (r.ext (Ext.new R ha)))
  | true =>
    refine Pst.ok_ p (R.newO (ho := .dK ((kvs.map Prod.fst).zip vs)) (o := .dK kvs) ha trivial ⟨z, vs, upd_same, r.ext (Ext.newO R ha)⟩) (Ext.newO R ha) ?_
    rw [← R.len]
    exact .obj Gh.push_last
theorem pairs_rel (R : RS K C g s H) : ∀ {ps : List U} {vs : List V} {kvs : List (Key × U)}, RelUs K g H ps vs → pairsK ps = some kvs →
    ∃ (as : List Addr) (ws : List V), vs = as.map V.ref ∧ RelUs K g H (kvs.map (·.2)) ws ∧ kvs.length = ps.length ∧ Paired (fun p kv => SqT K H p [kV kv.1, kv.2]) as ((kvs.map (·.1)).zip ws)
  | [], _, _, .nil, h => by
    simp only [pairsK] at h
    cases h
    exact ⟨[], [], rfl, .nil, rfl, .nil⟩
  | x :: xs, _, _, .cons (v := v) (vs := vs) r t, h => by
    unfold pairsK at h
    split at h
    · rename_i e; cases e
    · rename_i k u r' e
      cases e
      split at h
      · rename_i kk kvs e1 e2
        cases h
        obtain ⟨as, ws, h1, h2, h3, h4⟩ := pairs_rel R t e2
        cases r with
        | @tup a us ys q1 q2 q3 q4 =>
          cases q4 with
          | cons ra rb =>
            cases rb with
            | cons rb rc =>
              cases rc
              have ek := key_rel ra e1
              subst ek
              exact ⟨a :: as, _ :: ws, by rw [h1]; rfl, .cons rb h2, by simp [h3], .cons q1.sq h4⟩
      · cases h
    · cases h
theorem merge_rel : ∀ {kvs acc : List (Key × U)} {ws vs : List V}, RelUs K g H (kvs.map (·.2)) ws → RelUs K g H (acc.map (·.2)) vs →
    ∃ vs', mergeK ((acc.map (·.1)).zip vs) ((kvs.map (·.1)).zip ws) = ((kvs.foldl (fun acc p => putA p.1 p.2 acc) acc).map (·.1)).zip vs' ∧ RelUs K g H ((kvs.foldl (fun acc p => putA p.1 p.2 acc) acc).map (·.2)) vs'
  | [], acc, _, vs, .nil, r => ⟨vs, rfl, r⟩
  | (k, u) :: kvs, acc, _, vs, .cons (v := w) (vs := ws) h t, r => by
    obtain ⟨vs1, e1, r1⟩ := put_rel k h r
    obtain ⟨vs2, e2, r2⟩ := merge_rel (kvs := kvs) (acc := putA k u acc) t r1
    refine ⟨vs2, ?_, r2⟩
    rw [List.foldl_cons, ← e2, ← e1]
    rfl
theorem merge_len : ∀ (kvs acc : List (Key × U)), (kvs.foldl (fun acc p => putA p.1 p.2 acc) acc).length ≤ acc.length + kvs.length
  | [], acc => Nat.le_refl _
  | (k, u) :: kvs, acc => by
    have h1 := merge_len kvs (putA k u acc)
    have h2 := putA_len k u acc
    rw [List.foldl_cons, List.length_cons]
    show (List.foldl (fun acc p => putA p.1 p.2 acc) (putA k u acc) kvs).length ≤ _
    omega
end
section
variable {X : Cx} {C : Nat → Addr} {W : Value → Hp → Prop}
theorem pairs_two {pins : List (Addr × Obj)} {σ : L2.St} {H : Hp} {s : Shared} (I : Inv X pins σ H s) : ∀ {ps : List Addr} {kvs : List (Key × V)}, Paired (fun p kv => SqT X.K H p [kV kv.1, kv.2]) ps kvs →
    ∃ (prs : List (Key × Value)) (kps : List (Value × Value)), KV kvs prs ∧ prs.length = ps.length ∧ kps.length = ps.length ∧ ∀ (j : Nat) (u y : Value), kps[j]? = some (u, y) → ∃ (b : Addr) (k : Key), ps[j]? = some b ∧ prs[j]? = some (k, y) ∧ IsTup s.heap b #[u, y] ∧ keyIs k u = true
  | _, _, .nil => ⟨[], [], .nil, rfl, rfl, fun j u y e => by simp at e⟩
  | _, _, .cons (a := p) (b := kv) h t => by
    obtain ⟨prs, kps, r, h1, h2, hp⟩ := pairs_two I t
    obtain ⟨its, rv, ht, _⟩ := I.tuple h
    obtain ⟨u, y, ei, ru, ry⟩ := vals2 rv
    subst ei
    refine ⟨(kv.1, y) :: prs, (u, y) :: kps, .cons ⟨rfl, ry⟩ r, by simp [h1], by simp [h2], fun j u' y' e => ?_⟩
    cases j with
    | zero =>
      simp only [List.getElem?_cons_zero, Option.some.injEq, Prod.mk.injEq] at e
      obtain ⟨rfl, rfl⟩ := e
      exact ⟨p, kv.1, rfl, rfl, ht, kV_is (P := X.prog) (w := X.w) ru⟩
    | succ j =>
      obtain ⟨b, k, e1, e2, e3, e4⟩ := hp j u' y' (by simpa using e)
      exact ⟨b, k, by simpa using e1, by simpa using e2, e3, e4⟩
/-- dict(t) of a tuple of pairs -/
theorem call_dictPT (hcalm : X.calm = true) : CallR X (.type "dict") (fun xs H Q => ∃ (a : Addr) (ps : List Addr) (kvs : List (Key × V)), xs = [.ref a] ∧ TupP H a (ps.map V.ref) ∧ Paired (fun p kv => SqT X.K H p [kV kv.1, kv.2]) ps kvs ∧
    ∀ p, H p = none → Q (.ref p) (upd H p (.dK (mergeK [] kvs)))) := by
  intro pins s σ H xs us Q I r q
  obtain ⟨a, ps, kvs, ex, hq, hp, q⟩ := q
  subst ex
  obtain ⟨u, eu, rx⟩ := vals1 r
  subst eu
  cases rx
  have dd : dictish (ps.map V.ref) = true := by
    unfold dictish
    rw [Bool.or_eq_true, Bool.or_eq_true]
    left
    left
    rw [List.all_map, List.all_eq_true]
    exact fun _ _ => rfl
  obtain ⟨o, od, ho⟩ := hq.plain dd
  obtain ⟨ho1, hz, its, rv, o', ho2, hc, n, hdat⟩ := (show ObjOk X.prog X.w H s.heap a (.frz o (.tup (ps.map V.ref))) from I.hok a _ ho)
  rw [ho1] at ho2
  cases ho2
  have ei := refs_at rv
  subst ei
  rw [List.length_map] at hz
  obtain ⟨prs, kps, rel, hl, hl2, hpr⟩ := pairs_two I hp
  have ok : PlainSeq "tuple" s.heap a (ps.map Value.ref).toArray ∧ PairItems s.heap (ps.map Value.ref).toArray (fun j => ps.getD j 0) kps := by
    refine ⟨⟨o, n, ho1, hc, od, hdat⟩, by simp [hl2], fun j u y e => ?_⟩
    obtain ⟨b, k, e1, e2, e3, e4⟩ := hpr j u y e
    have eb : ps.getD j 0 = b := by rw [List.getD_eq_getElem?_getD, e1]; rfl
    refine ⟨by simp [e1], .inl ?_⟩
    show s.heap.IsTuple (ps.getD j 0) _
    rw [eb]
    exact e3
  refine PySem.call_dict_pairs (knd := mixKind X.prog X.w) (kvs := prs) (PairArg.tuple (prog := X.prog) (w := X.w) a (ps.map Value.ref).toArray (fun j => ps.getD j 0) kps) (I.ok.hd hcalm) ok ⟨by rw [hl, hl2], fun i key v e => ?_⟩ (by rw [hl2]; exact hz) fun h' tk hd' k => ?_
  · obtain ⟨b, k, e1, e2, e3, e4⟩ := hpr i key v e
    exact ⟨k, e2, e4⟩
  · have hm : (s.heap.objs.size == sysModules) = false := beq_eq_false_iff_ne.mpr (Nat.ne_of_gt I.big)
    have hlen : (mergeK [] kvs).length ≤ sizeLine := by
      refine Nat.le_trans (length_mergeK kvs []) ?_
      rw [List.length_nil, Nat.zero_add, rel.length, hl]
      exact hz
    exact ⟨.ref s.heap.objs.size, upd H s.heap.objs.size (.dK (mergeK [] kvs)), I.laid (t' := tk) (fun b o e => k b o (by simp) e) (Nat.le_refl _) (show ObjOk X.prog X.w _ _ _ (.dK (mergeK [] kvs)) from ⟨hlen, hm, merged [] prs, KV.merge rel .nil, hd'⟩), rfl, q _ (I.hok.fresh (Nat.le_refl _))⟩
theorem call_dict_ (hc : X.calm = true) {m : Bool} : CallR X (.type "dict") (rA X.K C W (biU (.dict m))) := by
  intro pins σt σ H xs us Q I r h
  obtain ⟨g, s, as, R, ra, p⟩ := h
  match as, ra, p with
  | [], ra, p => exact (show False from p).elim
  | _ :: _ :: _, ra, p => exact (show False from p).elim
  | [u], ra, p =>
    obtain ⟨v, rfl, rv⟩ := rel1' ra
    simp only [biU] at p
    split at p
    · rename_i kvs h1
      obtain ⟨ad, vs, rfl, hq, z, rr⟩ := R.dKOf rv h1
      exact call_dictD pins σt σ H _ us Q I r ⟨ad, _, rfl, hq, fun a ha => Pst.mkK p R z rr a ha⟩
    · simp only [dictK] at p
      split at p
      · rename_i kvs h1
        obtain ⟨ps, h2, h3⟩ := Option.bind_eq_some_iff.mp h1
        have fin : ∀ {ad : Addr} {vs : List V} {bs : List Addr} {ws : List V}, ps.length ≤ sizeLine → RelUs X.K g H (kvs.map (·.2)) ws → kvs.length = ps.length → ∀ a, H a = none → Q (.ref a) (upd H a (.dK (mergeK [] ((kvs.map (·.1)).zip ws)))) := fun {ad vs bs ws} z r1 hl a ha => by
          obtain ⟨vs', e1, r2⟩ := merge_rel (acc := []) (vs := []) r1 .nil
          have e2 : mergeK [] ((kvs.map (·.1)).zip ws) = ((mergeA kvs).map (·.1)).zip vs' := e1
          rw [e2]
          refine Pst.mkK p R ?_ r2 a ha
          have := merge_len kvs []
          unfold mergeA
          simp only [List.length_nil, Nat.zero_add] at this
          omega
        unfold pairSrc at h2
        cases u with
        | tup xs =>
          simp only [tupOf] at h2
          cases h2
          cases rv with
          | @tup ad _ vs q1 q2 q3 q4 =>
            obtain ⟨bs, ws, rfl, r1, hl, hp⟩ := pairs_rel R q4 h3
            exact call_dictPT hc pins σt σ H _ us Q I r ⟨ad, bs, _, rfl, q1, hp, fin (ad := ad) (vs := []) (bs := bs) q3 r1 hl⟩
        | _ =>
          simp only [tupOf] at h2
          first
            | (simp [lstOf] at h2; done)
            | (obtain ⟨ad, vs, rfl, hq, z, rr⟩ := R.lstOf rv h2
               obtain ⟨bs, ws, rfl, r1, hl, hp⟩ := pairs_rel R rr h3
               exact call_dictP hc pins σt σ H _ us Q I r ⟨ad, bs, _, rfl, SqL.of hq, hp, fin (ad := ad) (vs := []) (bs := bs) z r1 hl⟩)
      · exact p.elim
end
end Pv
set_option autoImplicit false
set_option Elab.async false
set_option linter.all false
set_option maxRecDepth 100000
set_option maxHeartbeats 1000000
namespace Pv
open PySem PySem.Spec PyProof.Rows L2

/-! ### dict comprehensions, with keys of either kind -/
def dk0 (t : Bool) : HO := if t then .dT [] else .dK []
theorem dk0_empty (t : Bool) {P : Program} {w : World} {H : Hp} (h : Heap) (hb : sysModules < h.objs.size) : ObjOk P w H (h.push { cls := .type "dict", data := .dict #[] }) h.objs.size (dk0 t) := by
  cases t
  · exact dk_empty h hb
  · exact dt_empty h hb
theorem d_setP {X : Cx} {pins : List (Addr × Obj)} {σ : L2.St} {H H' : Hp} {s : Shared} {E : Value → Shared → Prop} {D : Addr} {y v : V} {u r : Value} {Q : Unit → Shared → Prop} (hu : X.A.units + 1 < cLine) (I : Inv X pins σ H s) (g : DPut H D y v H')
    (ry : RelV y u) (rv : RelV v r) (h : ∀ s', Inv X pins σ H' s' → Q () s') : wpAny (model X.prog X.w) X.A (dictSet D u r) Q E s := by
  rcases g with ⟨kvs, k, e, ey, hl, eH⟩ | ⟨kvs, k, b, e, ey, eb, hl, eH⟩
  · subst ey eH
    exact d_dictSet I e hl ry rv h
  · subst ey eH
    obtain rfl : u = .ref b := ry
    obtain ⟨z, hsys, xs, rel, dd⟩ := dt_of I.hok e
    have hz : xs.length ≤ sizeLine := Paired.length rel ▸ z
    have hp : (putK kvs k v).length ≤ sizeLine := Nat.le_trans (length_putK kvs k v) hl
    refine wpAny_dictSet_heap (hsz := hz) (show (tupleKind (mixKind X.prog X.w)).room X.A from Nat.lt_of_succ_lt hu) (key_of I.hok eb) dd fun h' dd' hs => h _ ?_
    obtain ⟨q, es, ep, hq, a2, a3, a4, _, a5⟩ := dd'
    refine d_write I (e ▸ True.intro) hs ⟨q, hq⟩ ⟨hp, hsys, _, (rel.put k eb rv).keeps fun c ys ec => ?_, q, es, ep, hq, a2, a3, a4, a5⟩
    exact (upd_ne (ne_of ec e fun z => nomatch z)).trans ec
def tDcP (t : Bool) (wi : TI) (g : TG) (tt : TT) (tk tv : TE) (vs : List Nat) : TE := fun σ H Q => wi σ H fun J H1 => ∀ D, H1 D = none → ∃ W : Nat → Nat → Hp → Prop, (∃ m, W 0 m (upd H1 D (dk0 t))) ∧ ∀ i m H, W i m H →
  J.stop i H ∧ Q (.ref D) H ∨ J.go i H ∧ (∃ Nx : Hp → Prop, (∀ H', Nx H' → ∃ m', m' < m ∧ W (i + 1) m' H') ∧ ∀ x H', J.yld i H x H' → g x (L2.wipe σ vs) H' fun σ2 H2 => L2.wipe σ2 vs = L2.wipe σ vs ∧ tt σ2 H2 fun b H3 =>
    if b = true then tk σ2 H3 fun y H4 => tv σ2 H4 fun z H5 => ∃ H6, DPut H5 D y z H6 ∧ Nx H6 else Nx H3)
section
variable {X : Cx}
theorem dcp_core {t : Bool} {pins : List (Addr × Obj)} {s : Shared} {σ : L2.St} {H : Hp} {Q : VK} {kx vx tg iter : Expr} {ifs : List Expr} {scope : Scope} {own : List (Str × Nat)} {pos posB : Pos} {wi : TI} {g : TG} {tt : TT} {tk tv : TE} {use : Option (Value → Sem Unit)} {Qf : Value → Shared → Prop}
    (hc : X.calm = true) (hNd : X.N.Nodup) (I : Inv X pins σ H s) (hi : PI X tg iter wi) (ok : BlkOk X.N X.env.scope scope own)
    (hg : ∀ (sx : Shared) (Hx : Hp) (C : Addr) (cx : List (Str × Addr)) (fp : List Addr), PG (X.blk sx Hx scope (compEnvC scope cx C X.env) fp) tg g) (ht : ∀ (sx : Shared) (Hx : Hp) (C : Addr) (cx : List (Str × Addr)) (fp : List Addr), PTs (X.blk sx Hx scope (compEnvC scope cx C X.env) fp) ifs tt)
    (hk : ∀ (sx : Shared) (Hx : Hp) (C : Addr) (cx : List (Str × Addr)) (fp : List Addr), PE (X.blk sx Hx scope (compEnvC scope cx C X.env) fp) kx tk)
    (he : ∀ (sx : Shared) (Hx : Hp) (C : Addr) (cx : List (Str × Addr)) (fp : List Addr), PE (X.blk sx Hx scope (compEnvC scope cx C X.env) fp) vx tv) (hs : ∀ x, foldedSetIterable iter X.env x = pure x)
    (hu : X.A.units + 1 < cLine) (h : tDcP t wi g tt tk tv (own.map (·.2)) σ H Q)
    (hEnd : ∀ D C s' m H', Inv X pins σ H' s' → Q (.ref D) H' → s'.heap.Ns C m → FpOk X pins H' C → compPost (model X.prog X.w) X.A X.xe use Qf (.ref D) C (.ok .next) s') :
    wpAny (model X.prog X.w) X.A (comprehension (.DictComp kx vx [⟨tg, iter, ifs, 0⟩] scope pos) scope X.env posB newDict false (eval iter X.env) use) Qf X.xe s := by
  have hfr : ∀ y ∈ scope.names, y.2 = .free → ∃ c, X.env.cells.lookup y.1 = some c := fun y hy e => by
    rcases ok.free y hy e with kk | kk
    · exact I.ok.has _ (.inl kk)
    · exact I.ok.has _ (.inr kk)
  refine wpAny_comprehension_free (use := use) rfl hs (closure_ok hfr) ok.kind (fun y hy e => by rw [ok.uniq y hy, e])
    (thn (hi.run pins s σ H _ I h) fun xv u1 hx => thn hx fun itv u2 h2 => ?_)
  obtain ⟨it, fp, tn, J, G2, e, J2, T, st_2, f2, q⟩ := h2
  subst e
  refine wpAny_newObj_type <| newEnv_comp ?_
  generalize hD : u2.heap.objs.size = D
  have hDn : G2 D = none := J2.hok.fresh (Nat.le_of_eq hD)
  obtain ⟨W, ⟨m0, w0⟩, trn⟩ := q D hDn
  -- the new list
  generalize hs3 : ({ u2 with heap := u2.heap.push { cls := .type "dict", data := .dict #[] } } : Shared) = u3
  have J3 : Inv X pins σ (upd G2 D (dk0 t)) u3 := by
    rw [← hs3]
    refine J2.laid (t' := u2.toks) (fun b o e => Heap.get?_push_of_some _ e) (Nat.le_of_eq hD) ?_
    rw [← hD]
    exact dk0_empty t u2.heap J2.big
  have e3 : u3.heap = u2.heap.push { cls := .type "dict", data := .dict #[] } := by rw [← hs3]
  have fz : ∀ b ∈ fp, b < u2.heap.objs.size := fun b hb => by
    obtain ⟨o, e, _⟩ := T.obj _ _ st_2 b hb
    exact Heap.lt_size e
  have k3 : ∀ b ∈ fp, FpOk X pins (upd G2 D (dk0 t)) b ∧ b < u3.heap.objs.size := fun b hb => by
    have hlt := fz b hb
    refine ⟨⟨?_, (f2 b hb).2⟩, by rw [e3, Heap.size_push]; exact Nat.lt_succ_of_lt hlt⟩
    rw [upd_ne (hD ▸ Nat.ne_of_lt hlt)]
    exact (f2 b hb).1
  have tt3 : tn 0 u3.heap := T.keep _ _ _ st_2 fun b _ o e => by rw [e3]; exact Heap.get?_push_of_some _ e
  have J4 := block_start J3 ok hNd k3
  have qg := hg u3 (upd G2 D (dk0 t)) u3.heap.objs.size (cellsFrom (u3.heap.objs.size + 1) scope.names (cloFrom X.env.cells scope.names [])) fp
  have qt := ht u3 (upd G2 D (dk0 t)) u3.heap.objs.size (cellsFrom (u3.heap.objs.size + 1) scope.names (cloFrom X.env.cells scope.names [])) fp
  have qk := hk u3 (upd G2 D (dk0 t)) u3.heap.objs.size (cellsFrom (u3.heap.objs.size + 1) scope.names (cloFrom X.env.cells scope.names [])) fp
  have qe := he u3 (upd G2 D (dk0 t)) u3.heap.objs.size (cellsFrom (u3.heap.objs.size + 1) scope.names (cloFrom X.env.cells scope.names [])) fp
  show codeAny _ _ (.compStart (.DictComp kx vx [⟨tg, iter, ifs, 0⟩] scope pos) 0 (.ref it) (.ref D) (compEnvC scope (cellsFrom (u3.heap.objs.size + 1) scope.names (cloFrom X.env.cells scope.names [])) u3.heap.objs.size X.env)) (compPost (model X.prog X.w) X.A X.xe use Qf (.ref D) u3.heap.objs.size) { u3 with heap := pushCells (u3.heap.push { cls := .type "dict", data := .dict #[] }) scope.names }
  have nf : ∀ b ∈ fp, (upd G2 D (dk0 t)) b = none := fun b hb => (k3 b hb).1.1
  generalize hce : compEnvC scope (cellsFrom (u3.heap.objs.size + 1) scope.names (cloFrom X.env.cells scope.names [])) u3.heap.objs.size X.env = cenv at J4 qg qt qk qe ⊢
  have eL : cenv.locals = u3.heap.objs.size := by subst hce; rfl
  generalize hH3 : upd G2 D (dk0 t) = G3 at J3 J4 qg qt qk qe w0 nf k3
  generalize hs4 : ({ u3 with heap := pushCells (u3.heap.push { cls := .type "dict", data := .dict #[] }) scope.names } : Shared) = u4 at J4 ⊢
  have tt4 : tn 0 u4.heap := T.keep _ _ _ tt3 fun b _ o e => by rw [← hs4]; exact pushCells_keeps _ _ _ _ (Heap.get?_push_of_some _ e)
  have still : ∀ {σ' : L2.St} {H' : Hp} {s' : Shared}, Inv (X.blk u3 G3 scope cenv fp) [] σ' H' s' → (∀ b ∈ fp, H' b = none) → ∀ b ∈ fp, FpOk (X.blk u3 G3 scope cenv fp) [] H' b := fun {σ' H' s'} I' hn b hb =>
    ⟨hn b hb, (I'.ok.exf b hb).left, I'.ok.exfs b hb, .inl hb, fun x c e => (I'.ok.exf b hb).2 x c e, fun p hp => absurd (show p ∈ ([] : List (Addr × Obj)) ++ [] from hp) (by simp)⟩
  have lp : codeAny (model X.prog X.w) X.A (.compLoop (.DictComp kx vx [⟨tg, iter, ifs, 0⟩] scope pos) 0 (.ref it) (.ref D) cenv) (compPost (model X.prog X.w) X.A X.xe use Qf (.ref D) u3.heap.objs.size) u4 := by
    refine compLoop_anyD (fun n s' => ∃ i H', Inv (X.blk u3 G3 scope cenv fp) [] (L2.wipe σ (own.map (·.2))) H' s' ∧ tn i s'.heap ∧ (∀ b ∈ fp, H' b = none) ∧ W i n H') ?_ m0 ⟨0, G3, J4, tt4, nf, w0⟩
    rintro n u5 ⟨i, G5, J5, st5, n5, w5⟩
    rcases trn i n G5 w5 with ⟨stop, qq⟩ | ⟨go, Nx, hNx, stp⟩
    · have td := T.done (X.blk u3 G3 scope cenv fp) rfl rfl rfl hc i [] u5 _ G5 (fun _ _ => False) J5 (still J5 n5) st5 stop
      refine thnF td fun r u6 ⟨hr, J6⟩ => ?_
      subst hr
      -- back in the def's context
      have J7 : Inv X pins σ G5 u6 := J3.call' (ch := fp) J6.os J6.base J6.hok J6.bare fun b hb => ⟨(k3 b hb).1.2.2.2.1, (k3 b hb).1.2.1, (k3 b hb).1.2.2.2.2.1, (k3 b hb).1.2.2.2.2.2⟩
      have nC : G5 u3.heap.objs.size = none := by
        have z : G5 cenv.locals = none := J6.free
        rw [eL] at z
        exact z
      obtain ⟨m, hn, _⟩ := J6.loc
      have hn : u6.heap.Ns cenv.locals m := hn
      rw [eL] at hn
      exact hEnd D u3.heap.objs.size u6 m G5 J7 qq hn (J3.fpOk (Nat.le_refl _) nC)
    · have ti := T.item (X.blk u3 G3 scope cenv fp) rfl rfl rfl hc i [] u5 _ G5 (fun _ _ => False) J5 (still J5 n5) st5 go
      refine thnF ti fun r u6 ⟨u, hr, h6⟩ => ?_
      subst hr
      refine thnF h6 fun _ u7 ⟨x, G7, J7, r7, y7, st_7, n7⟩ => ?_
      have J7' := J7.pinned (still J7 n7) (T.obj _ _ st_7)
      refine thnF (qg.run _ u7 _ G7 x u _ J7' r7 (stp x G7 y7)) fun _ u8 ⟨σ8, G8, J8, hw8, q8⟩ => ?_
      refine thnF (qt.run _ u8 σ8 G8 _ J8 q8) fun b u9 ⟨G9, J9, q9⟩ => ?_
      -- the trn's end
      have endT : ∀ {s' : Shared} {H' : Hp}, Inv (X.blk u3 G3 scope cenv fp) ([] ++ pinsAt fp u7.heap) σ8 H' s' → Nx H' → ∃ m, m < n ∧ ∃ i H', Inv (X.blk u3 G3 scope cenv fp) [] (L2.wipe σ (own.map (·.2))) H' s' ∧ tn i s'.heap ∧ (∀ b ∈ fp, H' b = none) ∧ W i m H' := fun {s' H'} I' nx => by
        obtain ⟨m', hlt2, w2⟩ := hNx _ nx
        have pin' : ∀ b ∈ fp, ∀ o, u7.heap.get? b = some o → s'.heap.get? b = some o ∧ H' b = none := fun b hb o e =>
          let z := I'.pin (b, o) (List.mem_append_right _ (List.mem_append_right _ (mem_pinsAt hb e)))
          ⟨z.1, z.2.1⟩
        have hl : (L2.wipe σ (own.map (·.2))).length = σ8.length := by rw [← hw8, wipe_length]
        refine ⟨m', hlt2, i + 1, H', (I'.unpinned (pins := [])).weak hl (fun j v e => ?_), T.keep _ _ _ st_7 fun b hb o e => (pin' b hb o e).1, fun b hb => ?_, w2⟩
        · rw [← hw8] at e
          exact (wipe_some e).1
        · obtain ⟨o, e, _⟩ := T.obj _ _ st_7 b hb
          exact (pin' b hb o e).2
      cases b with
      | false =>
        simp only [if_false, Bool.false_eq_true] at q9 ⊢
        exact endT J9 q9
      | true =>
        simp only [if_true] at q9 ⊢
        refine thnF (qk.run _ u9 σ8 G9 _ J9 q9) fun z u10 ⟨yk, G10, J10, r10, q10⟩ => ?_
        refine thnF (qe.run _ u10 σ8 G10 _ J10 q10) fun z2 u11 ⟨yv, G11, J11, r11, G12, dp, nx⟩ => ?_
        exact d_setP (X := X.blk u3 G3 scope cenv fp) hu J11 dp r10 r11 fun u12 J12 => endT J12 nx
  exact codeAny_compStart_dict lp (T.self X.A 0 _ _ _ tt4 lp)
/-- as a value -/
theorem pe_dcP {t : Bool} {kx vx tg iter : Expr} {ifs : List Expr} {scope : Scope} {own : List (Str × Nat)} {pos : Pos} {wi : TI} {g : TG} {tt : TT} {tk tv : TE} (hc : X.calm = true) (hNd : X.N.Nodup) (hi : PI X tg iter wi) (ok : BlkOk X.N X.env.scope scope own)
    (hg : ∀ (sx : Shared) (Hx : Hp) (C : Addr) (cx : List (Str × Addr)) (fp : List Addr), PG (X.blk sx Hx scope (compEnvC scope cx C X.env) fp) tg g) (ht : ∀ (sx : Shared) (Hx : Hp) (C : Addr) (cx : List (Str × Addr)) (fp : List Addr), PTs (X.blk sx Hx scope (compEnvC scope cx C X.env) fp) ifs tt)
    (hk : ∀ (sx : Shared) (Hx : Hp) (C : Addr) (cx : List (Str × Addr)) (fp : List Addr), PE (X.blk sx Hx scope (compEnvC scope cx C X.env) fp) kx tk)
    (he : ∀ (sx : Shared) (Hx : Hp) (C : Addr) (cx : List (Str × Addr)) (fp : List Addr), PE (X.blk sx Hx scope (compEnvC scope cx C X.env) fp) vx tv) (hs : ∀ x, foldedSetIterable iter X.env x = pure x) (hu : X.A.units + 1 < cLine) :
    PE X (.DictComp kx vx [⟨tg, iter, ifs, 0⟩] scope pos) (tDcP t wi g tt tk tv (own.map (·.2))) := by
  refine ⟨fun pins s σ H Q I h => ?_⟩
  rw [arm_eval_DictComp]
  refine dcp_core hc hNd I hi ok hg ht hk he hs hu h fun D C s' m H' I' q hn ⟨f0, f1, f2, f3, f4, f5⟩ => ⟨m, hn, fun h'' sb => ?_⟩
  refine ⟨.ref D, H', I'.turned (t' := s'.toks) (fun b o hb e => (sb.2 b hb).trans e) f0 f1 f3 f4 f5, rfl, q⟩
end
end Pv
set_option autoImplicit false
set_option Elab.async false
set_option linter.all false
set_option maxRecDepth 100000
set_option maxHeartbeats 1000000
namespace Pv
open PySem PySem.Spec PyProof.Rows L2

/-- the dict under work -/
def dO (t : Bool) (a : List (Key × U)) (b : List (List Key × U)) : O := if t then .dT b else .dK a
def dLen (t : Bool) (a : List (Key × U)) (b : List (List Key × U)) : Nat := if t then b.length else a.length
section
variable {K : PySem.W.Frag} {C : Nat → Addr} {g g1 : Gh} {s : MS} {H H1 : Hp} {D : Addr} {t : Bool} {a : List (Key × U)} {b : List (List Key × U)}
structure DcI (K : PySem.W.Frag) (C : Nat → Addr) (g1 : Gh) (H1 : Hp) (D : Addr) (su : SU) (σ : L2.St) (g : Gh) (s : MS) (H : Hp) (t : Bool) (a : List (Key × U)) (b : List (List Key × U)) : Prop where
  R : RS K C g s H
  z : D ∈ g.zs
  st : RSt K g H su σ
  e : Ext g1 H1 g H
  at_ : RO K C g H D (dO t a b)
theorem dO_some (h : RO K C g H D (dO t a b)) : ∃ o, H D = some o ∧ chg o := by
  cases t
  · obtain ⟨_, vs, q, _⟩ := h; exact ⟨_, q, trivial⟩
  · obtain ⟨_, vs, q, _⟩ := h; exact ⟨_, q, trivial⟩
theorem DcI.ext {su : SU} {σ : L2.St} (I : DcI K C g1 H1 D su σ g s H t a b) {g' : Gh} {s' : MS} {H' : Hp} (R' : RS K C g' s' H') (e : Ext g H g' H') : DcI K C g1 H1 D su σ g' s' H' t a b := by
  obtain ⟨o, q, _⟩ := dO_some I.at_
  exact ⟨R', e.zk _ I.z, I.st.ext e, I.e.trans e, I.at_.ext e ((e.keep1 q (I.R.zsd D I.z).2 (.inr I.z)).1.trans q.symm)⟩
theorem DcI.start {su : SU} {σ : L2.St} (R : RS K C g1 s H1) (st : RSt K g1 H1 su σ) (hD : H1 D = none) : DcI K C g1 H1 D su σ (g1.hide D) s (upd H1 D (dk0 t)) t [] [] := by
  have hc : chg (dk0 t) := by cases t <;> exact trivial
  refine ⟨R.hide hc hD, List.mem_cons_self .., st.ext (Ext.hide hD), Ext.hide hD, ?_⟩
  cases t
  · exact ⟨Nat.zero_le _, [], upd_same, .nil⟩
  · exact ⟨Nat.zero_le _, [], upd_same, .nil⟩
theorem DcI.putK {su : SU} {σ : L2.St} (I : DcI K C g1 H1 D su σ g s H false a b) (hD : H1 D = none) (hz : a.length < sizeLine) {ku u : U} {y v : V} {kk : Key} (rk : RelU K g H ku y) (ek : keyOf ku = some kk) (rv : RelU K g H u v) :
    ∃ H6, DPut H D y v H6 ∧ DcI K C g1 H1 D su σ g s H6 false (putA kk u a) b := by
  obtain ⟨z, vs, q, r⟩ := I.at_
  have ey := key_rel rk ek
  subst ey
  obtain ⟨vs', e1, r1⟩ := put_rel kk rv r
  have hl : ((a.map (·.1)).zip vs).length < sizeLine := by
    rw [List.length_zip, List.length_map]
    omega
  refine ⟨_, DPut.k q hl, RS.under trivial I.z I.R, I.z, I.st.under I.z, I.e.under hD, ?_⟩
  have := putA_len kk u a
  exact ⟨by omega, vs', by rw [upd_same, e1], r1.under I.z⟩
theorem DcI.putT {su : SU} {σ : L2.St} (I : DcI K C g1 H1 D su σ g s H true a b) (hD : H1 D = none) (hz : b.length < sizeLine) {ku u : U} {y v : V} {kk : List Key} (rk : RelU K g H ku y) (ek : tkeyOf ku = some kk) (rv : RelU K g H u v) :
    ∃ H6, DPut H D y v H6 ∧ DcI K C g1 H1 D su σ g s H6 true a (putA kk u b) := by
  obtain ⟨z, vs, q, r⟩ := I.at_
  obtain ⟨p, rfl, hp⟩ := tkey_rel rk ek
  obtain ⟨vs', e1, r1⟩ := put_rel kk rv r
  have hl : ((b.map (·.1)).zip vs).length < sizeLine := by
    rw [List.length_zip, List.length_map]
    omega
  refine ⟨_, DPut.t q hp hl, RS.under trivial I.z I.R, I.z, I.st.under I.z, I.e.under hD, ?_⟩
  have := putA_len kk u b
  exact ⟨by omega, vs', by rw [upd_same, e1], r1.under I.z⟩
theorem DcI.fin {su : SU} {σ : L2.St} {W : Value → Hp → Prop} {Q : VK} {m : Bool} {s1 : MS} (R1 : RS K C g1 s1 H1) (I : DcI K C g1 H1 D su σ g s H t a b) (hD : H1 D = none) (p : Pst K C (RelU K) W g1 H1 (mkD m t a b s) Q) : Q (.ref D) H := by
  have nD : (g.bare D).no D := ⟨(I.R.zsd D I.z).2, fun x => by simpa using (List.mem_filter.mp x).2⟩
  have fr : ∀ {us : List U} {vs : List V}, RelUs K g H us vs → RelUs K (g.bare D) H us vs := fun r => r.sub (fun _ h => Gh.bare_no h) fun _ _ h => h
  have fp : ∀ {us : List U} {vs : List V}, RelUs K g H us vs → RelUs K ((g.bare D).push D) H us vs := fun r => r.sub (fun _ h => promote_no I.z h) fun _ _ h => Gh.push_old (g := g.bare D) h
  unfold mkD at p
  cases t with
  | false =>
    obtain ⟨z, vs, h, rr⟩ := I.at_
    rw [if_neg Bool.false_ne_true] at p
    unfold Pv.mkK at p
    cases m with
    | false => exact Pst.ok_ p (I.R.bare D) (I.e.bare R1 hD) (.dK (.inl h) nD (by simp) (by simpa using z) (fr rr))
    | true =>
      refine Pst.ok_ p (I.R.promote (o := .dK a) I.z h trivial ⟨z, vs, h, fp rr⟩) (I.e.prom R1 hD) ?_
      rw [← I.R.len]
      exact .obj (Gh.push_last (g := g.bare D))
  | true =>
    obtain ⟨z, vs, h, rr⟩ := I.at_
    rw [if_pos rfl] at p
    unfold Pv.mkT at p
    cases m with
    | false => exact Pst.ok_ p (I.R.bare D) (I.e.bare R1 hD) (.dT (.inl h) nD (by simp) (by simpa using z) (fr rr))
    | true =>
      refine Pst.ok_ p (I.R.promote (o := .dT b) I.z h trivial ⟨z, vs, h, fp rr⟩) (I.e.prom R1 hD) ?_
      rw [← I.R.len]
      exact .obj (Gh.push_last (g := g.bare D))
end
/-- a turn's invariant -/
structure DcW (K : PySem.W.Frag) (C : Nat → Addr) (W : Value → Hp → Prop) (g1 : Gh) (H1 : Hp) (D : Addr) (su : SU) (σ : L2.St) (t : Bool) (n : Nat) (k : Nat → List (Key × U) → List (List Key × U) → MS → Rv U) (Q : VK) (i m : Nat) (H : Hp) : Prop where
  eq : m = n - i
  le : i ≤ n
  st : ∃ g s a b, DcI K C g1 H1 D su σ g s H t a b ∧ a.length ≤ i ∧ b.length ≤ i ∧ Pst K C (RelU K) W g1 H1 (k i a b s) Q
section
variable {X : Cx} {C : Nat → Addr} {E : XK} {pos : Pos} {kx vx tgE iter : Expr} {ifs : List Expr} {scope : Scope} {own : List (Str × Nat)} {mi : SU → MS → Rv Src} {tg : Tg} {mt : SU → MS → Rv Bool} {mk mv : SU → MS → Rv U} {m t : Bool}
theorem dc_read {K : PySem.W.Frag} {vs : List Nat} (hsl : ∀ i ∈ slT tg, i ∈ vs) {σ : L2.St} {H : Hp} {Q : VK} (h : eEv K C E (fun su s => (mi su s).bind fun r s1 => (dcL t vs tg mt mk mv r su r.items [] [] s1).bind fun p s2 => mkD m t p.1 p.2 s2) σ H Q) :
    tDcP t (iEv K C E mi) (gEv K C tg) (tEv K C E0 mt) (eEv K C E0 mk) (eEv K C E0 mv) vs σ H Q := by
  obtain ⟨g, su, s, R, rs, p⟩ := h
  refine ⟨g, su, s, R, rs, (Pst.bind (R := fun g' H' r J => ItOk K C J r g' H') p).mono fun J H1 ⟨g1, s1, r, R1, e1, ok, p1⟩ D hD => ?_⟩
  refine ⟨DcW K C (WOf E) g1 H1 D su σ t r.items.length (fun i a b s => (dcL t vs tg mt mk mv r su (r.items.drop i) a b s).bind fun p s2 => mkD m t p.1 p.2 s2) Q,
    ⟨r.items.length, by simp, Nat.zero_le _, _, s1, [], [], DcI.start R1 (rs.ext e1) hD, Nat.le_refl _, Nat.le_refl _, p1⟩, ?_⟩
  rintro i n H2 ⟨rfl, hi, g2, s2, a, b, I, ha, hb, p2⟩
  replace p2 : Pst K C (RelU K) (WOf E) g1 H1 ((dcL t vs tg mt mk mv r su (r.items.drop i) a b s2).bind fun p s2 => mkD m t p.1 p.2 s2) Q := p2
  have len := ok.len
  by_cases hlt : i < r.items.length
  · refine .inr ?_
    obtain ⟨x, hx, hd⟩ := drop_cons hlt
    rw [hd, dcL] at p2
    by_cases ho : r.ok s2 = true
    · rw [if_pos ho] at p2
      obtain ⟨go, yl⟩ := ok.go i x g2 s2 H2 I.R I.e.weak ho hx
      refine ⟨go, _, fun H' hH => ⟨r.items.length - (i + 1), by omega, hH⟩, fun y H3 hy => ?_⟩
      obtain ⟨R3, e3, ry, _⟩ := yl y H3 hy
      have I3 := I.ext R3 e3
      cases hbd : bindT tg x (wipe su vs) with
      | none => rw [hbd] at p2; exact p2.elim
      | some su' =>
        rw [hbd] at p2
        refine ⟨g2, wipe su vs, s2, x, su', R3, I3.st.wipe vs, ry, hbd, fun σ2 r2 off => ⟨wipe_off hsl (RSt.len' (I3.st.wipe vs) r2 (bindT_len _ _ _ _ hbd)) off, g2, su', s2, R3, r2, ?_⟩⟩
        simp only at p2
        cases hc : mt su' s2 with
        | no => rw [hc] at p2; exact p2.elim
        | ex c s' => rw [hc] at p2; exact p2.elim
        | ok q s3 =>
          rw [hc] at p2
          intro g4 H4 b' R4 e4 hb'
          cases hb'
          have I4 := I3.ext R4 e4
          cases q with
          | false =>
            rw [if_neg Bool.false_ne_true]
            exact ⟨rfl, hlt, g4, s3, a, b, I4, by omega, by omega, p2⟩
          | true =>
            rw [if_pos rfl]
            simp only at p2
            refine ⟨g4, su', s3, R4, r2.ext e4, ?_⟩
            cases he : mk su' s3 with
            | no => rw [he] at p2; exact p2.elim
            | ex c s' => rw [he] at p2; exact p2.elim
            | ok ku s4 =>
              rw [he] at p2
              intro g5 H5 yk R5 e5 rk
              refine ⟨g5, su', s4, R5, (r2.ext e4).ext e5, ?_⟩
              simp only at p2
              cases hv : mv su' s4 with
              | no => rw [hv] at p2; exact p2.elim
              | ex c s' => rw [hv] at p2; exact p2.elim
              | ok u s5 =>
                rw [hv] at p2
                intro g6 H6 v R6 e6 rv
                have I6 := (I4.ext R5 e5).ext R6 e6
                simp only at p2
                cases t with
                | true =>
                  rw [if_pos rfl] at p2
                  cases hk : tkeyOf ku with
                  | none => rw [hk] at p2; exact p2.elim
                  | some kk =>
                    rw [hk] at p2
                    obtain ⟨H7, dp, I7⟩ := I6.putT hD (by omega) (rk.ext e6) hk rv
                    have := putA_len kk u b
                    exact ⟨H7, dp, rfl, hlt, g6, s5, a, _, I7, by omega, by omega, p2⟩
                | false =>
                  rw [if_neg Bool.false_ne_true] at p2
                  cases hk : keyOf ku with
                  | none => rw [hk] at p2; exact p2.elim
                  | some kk =>
                    rw [hk] at p2
                    obtain ⟨H7, dp, I7⟩ := I6.putK hD (by omega) (rk.ext e6) hk rv
                    have := putA_len kk u a
                    exact ⟨H7, dp, rfl, hlt, g6, s5, _, b, I7, by omega, by omega, p2⟩
    · rw [if_neg ho] at p2
      exact p2.elim
  · have e : i = r.items.length := by omega
    subst e
    refine .inl ?_
    rw [List.drop_length, dcL] at p2
    by_cases ho : r.ok s2 = true
    · rw [if_pos ho] at p2
      exact ⟨ok.stop g2 s2 H2 I.R I.e.weak ho, I.fin R1 hD p2⟩
    · rw [if_neg ho] at p2
      exact p2.elim
theorem se_dc (hc : X.calm = true) (hu : X.A.units + 1 < cLine) (hN : X.N.Nodup) (hi : PI X tgE iter (iEv X.K C E mi)) (ok : BlkOk X.N X.env.scope scope own) (hsl : ∀ i ∈ slT tg, i ∈ own.map (·.2))
    (hg : ∀ (s : Shared) (H : Hp) (D : Addr) (cl : List (Str × Addr)) (fp : List Addr), PG (X.blk s H scope (compEnvC scope cl D X.env) fp) tgE (gEv X.K C tg)) (ht : ∀ (s : Shared) (H : Hp) (D : Addr) (cl : List (Str × Addr)) (fp : List Addr), PTs (X.blk s H scope (compEnvC scope cl D X.env) fp) ifs (tEv X.K C E0 mt))
    (hk : ∀ (s : Shared) (H : Hp) (D : Addr) (cl : List (Str × Addr)) (fp : List Addr), PE (X.blk s H scope (compEnvC scope cl D X.env) fp) kx (eEv X.K C E0 mk)) (hv : ∀ (s : Shared) (H : Hp) (D : Addr) (cl : List (Str × Addr)) (fp : List Addr), PE (X.blk s H scope (compEnvC scope cl D X.env) fp) vx (eEv X.K C E0 mv)) (hs : ∀ x, foldedSetIterable iter X.env x = pure x) :
    PE X (.DictComp kx vx [⟨tgE, iter, ifs, 0⟩] scope pos) (eEv X.K C E fun su s => (mi su s).bind fun r s1 => (dcL t (own.map (·.2)) tg mt mk mv r su r.items [] [] s1).bind fun p s2 => mkD m t p.1 p.2 s2) :=
  PE.imp (pe_dcP hc hN hi ok hg ht hk hv hs hu) fun σ H Q h => dc_read hsl h
end
end Pv
set_option autoImplicit false
set_option Elab.async false
set_option linter.all false
set_option maxRecDepth 100000
set_option maxHeartbeats 2000000
namespace Pv
open PySem PySem.Spec PyProof.Rows L2

/-! ### dict comprehensions with two clauses -/
theorem cturnD_out (kx vx p0 q0 p1 q1 : Expr) (cs0 cs1 : List Expr) (scope : Scope) (pos : Pos) (it : Value) (D : Addr) (env : Env) :
    compTurn (.DictComp kx vx [⟨p0, q0, cs0, 0⟩, ⟨p1, q1, cs1, 0⟩] scope pos) 0 it (.ref D) env = (do
      standAt q0.pos
      match ← pyNext it with
      | none => pure (.done .next)
      | some v =>
        letOwnedTupleGo p0 it v
        assign p0 env v
        let mut ok := true
        for c in cs0 do
          if ok then ok ← isTrue c env (eval c env)
        if ok then
          let x ← eval q1 env
          standAt q1.pos
          let x ← foldedSetIterable q1 env x
          let _ ← runOwn (.compStart (.DictComp kx vx [⟨p0, q0, cs0, 0⟩, ⟨p1, q1, cs1, 0⟩] scope pos) 1 (← holding [x] (pyIter x)) (.ref D) env) env
        again (.compLoop (.DictComp kx vx [⟨p0, q0, cs0, 0⟩, ⟨p1, q1, cs1, 0⟩] scope pos) 0 it (.ref D) env)) := by rfl
theorem cturnD_in (kx vx p0 q0 p1 q1 : Expr) (cs0 cs1 : List Expr) (scope : Scope) (pos : Pos) (it : Value) (D : Addr) (env : Env) :
    compTurn (.DictComp kx vx [⟨p0, q0, cs0, 0⟩, ⟨p1, q1, cs1, 0⟩] scope pos) 1 it (.ref D) env = (do
      standAt q1.pos
      match ← pyNext it with
      | none => pure (.done .next)
      | some v =>
        letOwnedTupleGo p1 it v
        assign p1 env v
        let mut ok := true
        for c in cs1 do
          if ok then ok ← isTrue c env (eval c env)
        if ok then
          (do
            let kv ← eval kx env
            let vv ← holding [kv] (eval vx env)
            standAt { kx.pos with endLine := vx.pos.endLine, endCol := vx.pos.endCol }
            holding [kv, vv] (dictSet D kv vv))
        again (.compLoop (.DictComp kx vx [⟨p0, q0, cs0, 0⟩, ⟨p1, q1, cs1, 0⟩] scope pos) 1 it (.ref D) env)) := by rfl

section
variable {prog : Program} {w : World} {A : Around} {R : Result → Shared → Prop} {s : Shared} {kx vx p0 q0 p1 q1 : Expr} {cs0 cs1 : List Expr} {scope : Scope} {pos : Pos} {it : Value} {D : Addr} {env : Env}
/-- the roundA of the first clause -/
theorem cloopD_out (hfs : ∀ x, foldedSetIterable q1 env x = pure x) (I : Nat → Shared → Prop)
    (trn : ∀ n s, I n s → wpAny (model prog w) A (pyNext it) (fun r u₁ => match r with
      | none => R (.ok .next) u₁
      | some v => wpAny (model prog w) A (letOwnedTupleGo p0 it v) (fun _ u₁' => wpAny (model prog w) A (assign p0 env v) (fun _ u₂ =>
          wpAny (model prog w) A (forIn cs0 true fun c r => if r = true then do let ok ← isTrue c env (eval c env); pure (ForInStep.yield ok) else pure (ForInStep.yield r)) (fun ok u₃ =>
            if ok = true then wpAny (model prog w) A (eval q1 env) (fun x u₄ => wpAny (model prog w) A (pyIter x) (fun it1 u₅ =>
              codeAny (model prog w) A (.compStart (.DictComp kx vx [⟨p0, q0, cs0, 0⟩, ⟨p1, q1, cs1, 0⟩] scope pos) 1 it1 (.ref D) env) (fun r s' => match r with
                | .ok _ => ∃ m, m < n ∧ I m s'
                | .error _ => False) u₅) (notedBy (model prog w) A env fun e s' => R (.error e) s') u₄) (notedBy (model prog w) A env fun e s' => R (.error e) s') u₃
            else ∃ m, m < n ∧ I m u₃) (notedBy (model prog w) A env fun e s' => R (.error e) s') u₂) (notedBy (model prog w) A env fun e s' => R (.error e) s') u₁') (notedBy (model prog w) A env fun e s' => R (.error e) s') u₁) (notedBy (model prog w) A env fun e s' => R (.error e) s') s)
    (n : Nat) (h : I n s) :
    codeAny (model prog w) A (.compLoop (.DictComp kx vx [⟨p0, q0, cs0, 0⟩, ⟨p1, q1, cs1, 0⟩] scope pos) 0 it (.ref D) env) R s := by
  refine codeAny_loop rfl I (fun n s hI => ?_) n h
  show wpAny _ A ((compTurn (.DictComp kx vx [⟨p0, q0, cs0, 0⟩, ⟨p1, q1, cs1, 0⟩] scope pos) 0 it (.ref D) env).onRaise (fun x => do noteFrame x env; theTreesLotGoes x)) _ _ s
  refine wpAny_noted ?_
  rw [cturnD_out]
  refine wpAny_bind (wpAny_standAt (wpAny_bind (wpAny_mono (trn n s hI) (fun r u₁ k₁ => ?_) fun _ _ h' => h')))
  cases r with
  | none => exact wpAny_pure k₁
  | some v =>
    refine wpAny_bind (wpAny_mono k₁ (fun _ u₁' k₁' => ?_) fun _ _ h' => h')
    refine wpAny_bind (wpAny_mono k₁' (fun _ u₂ k₂ => wpAny_bind (wpAny_mono k₂ (fun ok u₃ k₃ => ?_) fun _ _ h' => h')) fun _ _ h' => h')
    cases ok with
    | false => exact wpAny_pure ⟨rfl, k₃⟩
    | true =>
      refine wpAny_bind (wpAny_mono k₃ (fun x u₄ k₄ => ?_) fun _ _ h' => h')
      refine wpAny_bind (wpAny_standAt (wpAny_bind (wpAny_of_eq (hfs x) (wpAny_bind (wpAny_holding (wpAny_mono k₄ (fun it1 u₅ k₅ => ?_) fun _ _ h' => h'))))))
      refine wpAny_bind (wpAny_runOwn ?_)
      rw [Around.mark_none]
      refine codeAny_mono k₅ fun r s' hr => ?_
      cases r with
      | ok f =>
        first
          | exact wpAny_pure ⟨rfl, hr⟩
          | exact wpAny_bind (wpAny_pure (wpAny_pure ⟨rfl, hr⟩))
      | error e => exact hr.elim
/-- the roundA of the second -/
theorem cloopD_in (I : Nat → Shared → Prop)
    (trn : ∀ n s, I n s → wpAny (model prog w) A (pyNext it) (fun r u₁ => match r with
      | none => R (.ok .next) u₁
      | some v => wpAny (model prog w) A (letOwnedTupleGo p1 it v) (fun _ u₁' => wpAny (model prog w) A (assign p1 env v) (fun _ u₂ =>
          wpAny (model prog w) A (forIn cs1 true fun c r => if r = true then do let ok ← isTrue c env (eval c env); pure (ForInStep.yield ok) else pure (ForInStep.yield r)) (fun ok u₃ =>
            if ok = true then wpAny (model prog w) A (eval kx env) (fun kv u₄ => wpAny (model prog w) A (eval vx env) (fun vv u₅ =>
              wpAny (model prog w) A (dictSet D kv vv) (fun _ u₆ => ∃ m, m < n ∧ I m u₆) (notedBy (model prog w) A env fun e s' => R (.error e) s') u₅) (notedBy (model prog w) A env fun e s' => R (.error e) s') u₄) (notedBy (model prog w) A env fun e s' => R (.error e) s') u₃
            else ∃ m, m < n ∧ I m u₃) (notedBy (model prog w) A env fun e s' => R (.error e) s') u₂) (notedBy (model prog w) A env fun e s' => R (.error e) s') u₁') (notedBy (model prog w) A env fun e s' => R (.error e) s') u₁) (notedBy (model prog w) A env fun e s' => R (.error e) s') s)
    (n : Nat) (h : I n s) :
    codeAny (model prog w) A (.compLoop (.DictComp kx vx [⟨p0, q0, cs0, 0⟩, ⟨p1, q1, cs1, 0⟩] scope pos) 1 it (.ref D) env) R s := by
  refine codeAny_loop rfl I (fun n s hI => ?_) n h
  show wpAny _ A ((compTurn (.DictComp kx vx [⟨p0, q0, cs0, 0⟩, ⟨p1, q1, cs1, 0⟩] scope pos) 1 it (.ref D) env).onRaise (fun x => do noteFrame x env; theTreesLotGoes x)) _ _ s
  refine wpAny_noted ?_
  rw [cturnD_in]
  refine wpAny_bind (wpAny_standAt (wpAny_bind (wpAny_mono (trn n s hI) (fun r u₁ k₁ => ?_) fun _ _ h' => h')))
  cases r with
  | none => exact wpAny_pure k₁
  | some v =>
    refine wpAny_bind (wpAny_mono k₁ (fun _ u₁' k₁' => ?_) fun _ _ h' => h')
    refine wpAny_bind (wpAny_mono k₁' (fun _ u₂ k₂ => wpAny_bind (wpAny_mono k₂ (fun ok u₃ k₃ => ?_) fun _ _ h' => h')) fun _ _ h' => h')
    cases ok with
    | false => exact wpAny_pure ⟨rfl, k₃⟩
    | true =>
      exact wpAny_bind (wpAny_bind (wpAny_mono k₃ (fun kv u₄ k₄ => wpAny_bind (wpAny_holding (wpAny_mono k₄ (fun vv u₅ k₅ => wpAny_bind (wpAny_standAt (wpAny_holding (wpAny_mono k₅ (fun _ u₆ k₆ => wpAny_pure ⟨rfl, k₆⟩) fun _ _ h' => h')))) fun _ _ h' => h'))) fun _ _ h' => h'))
/-- the second clause's start -/
theorem cstartD_ok (h0 : codeAny (model prog w) A (.compLoop (.DictComp kx vx [⟨p0, q0, cs0, 0⟩, ⟨p1, q1, cs1, 0⟩] scope pos) 1 it (.ref D) env) R s)
    (h : wpAny (model prog w) A (pyIter it) (fun it' s' => codeAny (model prog w) A (.compLoop (.DictComp kx vx [⟨p0, q0, cs0, 0⟩, ⟨p1, q1, cs1, 0⟩] scope pos) 1 it' (.ref D) env) R s')
      (notedBy (model prog w) A env fun x s' => R (.error x) s') s) :
    codeAny (model prog w) A (.compStart (.DictComp kx vx [⟨p0, q0, cs0, 0⟩, ⟨p1, q1, cs1, 0⟩] scope pos) 1 it (.ref D) env) R s := by
  refine codeAny_of_tree ?_
  show wpAny _ _ ((compStart (.DictComp kx vx [⟨p0, q0, cs0, 0⟩, ⟨p1, q1, cs1, 0⟩] scope pos) 1 it (.ref D) env).onRaise (fun x => do noteFrame x env; standAt theWindowsPlace)) _ _ s
  refine wpAny_notedAt ?_
  unfold compStart
  show wpAny _ _ (ask >>= _) _ _ s
  refine wpAny_bind (wpAny_askSetting (wpAny_ite ?_))
  split
  · first
      | exact wpAny_bind (wpAny_pure (wpAny_pure (And.intro rfl h0)))
      | exact wpAny_pure (And.intro rfl h0)
  · first
      | exact wpAny_bind (wpAny_rule (wpAny_bind (wpAny_standAt (wpAny_bind (wpAny_mono h (fun it' s' h' => wpAny_pure (And.intro rfl h')) fun _ _ x => x)))))
      | (refine wpAny_bind (wpAny_rule ?_); show wpAny _ _ (standAt q1.pos >>= _) _ _ s; exact wpAny_bind (wpAny_standAt (wpAny_bind (wpAny_mono h (fun it' s' h' => wpAny_pure (And.intro rfl h')) fun _ _ x => x))))
end

section
variable {X : Cx}
def tDc2 (t : Bool) (wi : TI) (g : TG) (tt : TT) (wi1 : TI) (g1 : TG) (tt1 : TT) (tk tv : TE) (vs vs1 : List Nat) : TE := fun σ H Q => wi σ H fun J H1 => ∀ D, H1 D = none → ∃ W : Nat → Nat → Hp → Prop, (∃ m, W 0 m (upd H1 D (dk0 t))) ∧ ∀ i m H, W i m H →
  J.stop i H ∧ Q (.ref D) H ∨ J.go i H ∧ (∃ Nx : Hp → Prop, (∀ H', Nx H' → ∃ m', m' < m ∧ W (i + 1) m' H') ∧ ∀ x H', J.yld i H x H' → g x (L2.wipe σ vs) H' fun σ2 H2 => L2.wipe σ2 vs = L2.wipe σ vs ∧ tt σ2 H2 fun b H3 =>
    if b = true then wi1 σ2 H3 fun J1 H4 => ∃ W1 : Nat → Nat → Hp → Prop, (∃ m, W1 0 m H4) ∧ ∀ j k H, W1 j k H →
      J1.stop j H ∧ Nx H ∨ J1.go j H ∧ (∃ Nx1 : Hp → Prop, (∀ H', Nx1 H' → ∃ k', k' < k ∧ W1 (j + 1) k' H') ∧ ∀ x H', J1.yld j H x H' → g1 x (L2.wipe σ2 vs1) H' fun σ3 H5 => L2.wipe σ3 vs1 = L2.wipe σ2 vs1 ∧ tt1 σ3 H5 fun b H6 =>
        if b = true then tk σ3 H6 fun y H7 => tv σ3 H7 fun z H8 => ∃ H9, DPut H8 D y z H9 ∧ Nx1 H9 else Nx1 H6)
    else Nx H3)
theorem dc2_core {pins : List (Addr × Obj)} {s : Shared} {σ : L2.St} {H : Hp} {Q : VK} {kx vx tg iter tg1 iter1 : Expr} {ifs cs1 : List Expr} {scope : Scope} {own : List (Str × Nat)} {vs1 : List Nat} {pos posB : Pos} {wi wi1 : TI} {g g1 : TG} {tt tt1 : TT} {tk tv : TE} {t : Bool} {use : Option (Value → Sem Unit)} {Qf : Value → Shared → Prop}
    (hc : X.calm = true) (hu : X.A.units + 1 < cLine) (hN : X.N.Nodup) (I : Inv X pins σ H s) (hi : PI X tg iter wi) (ok : BlkOk X.N X.env.scope scope own) (hv : ∀ i ∈ vs1, i ∈ own.map (·.2))
    (hg : ∀ (s : Shared) (H : Hp) (C : Addr) (cl : List (Str × Addr)) (fpl : List Addr), PG (X.blk s H scope (compEnvC scope cl C X.env) fpl) tg g) (ht : ∀ (s : Shared) (H : Hp) (C : Addr) (cl : List (Str × Addr)) (fpl : List Addr), PTs (X.blk s H scope (compEnvC scope cl C X.env) fpl) ifs tt)
    (hk : ∀ (s : Shared) (H : Hp) (C : Addr) (cl : List (Str × Addr)) (fpl : List Addr), PE (X.blk s H scope (compEnvC scope cl C X.env) fpl) kx tk) (he : ∀ (s : Shared) (H : Hp) (C : Addr) (cl : List (Str × Addr)) (fpl : List Addr), PE (X.blk s H scope (compEnvC scope cl C X.env) fpl) vx tv) (hfs : ∀ x, foldedSetIterable iter X.env x = pure x)
    (hi1 : ∀ (s : Shared) (H : Hp) (C : Addr) (cl : List (Str × Addr)) (fpl : List Addr), PI (X.blk s H scope (compEnvC scope cl C X.env) fpl) tg1 iter1 wi1)
    (hg1 : ∀ (s : Shared) (H : Hp) (C : Addr) (cl : List (Str × Addr)) (fpl : List Addr), PG (X.blk s H scope (compEnvC scope cl C X.env) fpl) tg1 g1)
    (ht1 : ∀ (s : Shared) (H : Hp) (C : Addr) (cl : List (Str × Addr)) (fpl : List Addr), PTs (X.blk s H scope (compEnvC scope cl C X.env) fpl) cs1 tt1)
    (hs1 : ∀ env x, foldedSetIterable iter1 env x = pure x)
    (h : tDc2 t wi g tt wi1 g1 tt1 tk tv (own.map (·.2)) vs1 σ H Q)
    (hEnd : ∀ D C s' m H', Inv X pins σ H' s' → Q (.ref D) H' → s'.heap.Ns C m → FpOk X pins H' C → compPost (model X.prog X.w) X.A X.xe use Qf (.ref D) C (.ok .next) s') :
    wpAny (model X.prog X.w) X.A (comprehension (.DictComp kx vx [⟨tg, iter, ifs, 0⟩, ⟨tg1, iter1, cs1, 0⟩] scope pos) scope X.env posB newDict false (eval iter X.env) use) Qf X.xe s := by
  have hfr : ∀ y ∈ scope.names, y.2 = .free → ∃ c, X.env.cells.lookup y.1 = some c := fun y hy e => by
    rcases ok.free y hy e with k | k
    · exact I.ok.has _ (.inl k)
    · exact I.ok.has _ (.inr k)
  refine wpAny_comprehension_free (use := use) rfl hfs (closure_ok hfr) ok.kind (fun y hy e => by rw [ok.uniq y hy, e])
    (thn (hi.run pins s σ H _ I h) fun xv u1 hx => thn hx fun itv u2 h2 => ?_)
  obtain ⟨it, fpl, tn, J, G2, e, J_2, T, sv2, f2, q⟩ := h2
  subst e
  refine wpAny_newObj_type <| newEnv_comp ?_
  generalize hD : u2.heap.objs.size = D
  have hDn : G2 D = none := J_2.hok.fresh (Nat.le_of_eq hD)
  obtain ⟨W, ⟨m0, w0⟩, trn⟩ := q D hDn
  -- the new list
  generalize hs3 : ({ u2 with heap := u2.heap.push { cls := .type "dict", data := .dict #[] } } : Shared) = u3
  have J_3 : Inv X pins σ (upd G2 D (dk0 t)) u3 := by
    rw [← hs3]
    refine J_2.laid (t' := u2.toks) (fun b o e => Heap.get?_push_of_some _ e) (Nat.le_of_eq hD) ?_
    rw [← hD]
    exact dk0_empty t u2.heap J_2.big
  have h3 : u3.heap = u2.heap.push { cls := .type "dict", data := .dict #[] } := by rw [← hs3]
  have sz : ∀ b ∈ fpl, b < u2.heap.objs.size := fun b hb => by
    obtain ⟨o, e, _⟩ := T.obj _ _ sv2 b hb
    exact Heap.lt_size e
  have f3 : ∀ b ∈ fpl, FpOk X pins (upd G2 D (dk0 t)) b ∧ b < u3.heap.objs.size := fun b hb => by
    have hlt := sz b hb
    refine ⟨⟨?_, (f2 b hb).2⟩, by rw [h3, Heap.size_push]; exact Nat.lt_succ_of_lt hlt⟩
    rw [upd_ne (by rw [← hD]; exact Nat.ne_of_lt hlt)]
    exact (f2 b hb).1
  have sv3 : tn 0 u3.heap := T.keep _ _ _ sv2 fun b _ o e => by rw [h3]; exact Heap.get?_push_of_some _ e
  have J_4 := block_start J_3 ok hN f3
  have pg := hg u3 (upd G2 D (dk0 t)) u3.heap.objs.size (cellsFrom (u3.heap.objs.size + 1) scope.names (cloFrom X.env.cells scope.names [])) fpl
  have pt := ht u3 (upd G2 D (dk0 t)) u3.heap.objs.size (cellsFrom (u3.heap.objs.size + 1) scope.names (cloFrom X.env.cells scope.names [])) fpl
  have pk := hk u3 (upd G2 D (dk0 t)) u3.heap.objs.size (cellsFrom (u3.heap.objs.size + 1) scope.names (cloFrom X.env.cells scope.names [])) fpl
  have pe := he u3 (upd G2 D (dk0 t)) u3.heap.objs.size (cellsFrom (u3.heap.objs.size + 1) scope.names (cloFrom X.env.cells scope.names [])) fpl
  have pi1 := hi1 u3 (upd G2 D (dk0 t)) u3.heap.objs.size (cellsFrom (u3.heap.objs.size + 1) scope.names (cloFrom X.env.cells scope.names [])) fpl
  have pg1 := hg1 u3 (upd G2 D (dk0 t)) u3.heap.objs.size (cellsFrom (u3.heap.objs.size + 1) scope.names (cloFrom X.env.cells scope.names [])) fpl
  have pt1 := ht1 u3 (upd G2 D (dk0 t)) u3.heap.objs.size (cellsFrom (u3.heap.objs.size + 1) scope.names (cloFrom X.env.cells scope.names [])) fpl
  show codeAny _ _ (.compStart (.DictComp kx vx [⟨tg, iter, ifs, 0⟩, ⟨tg1, iter1, cs1, 0⟩] scope pos) 0 (.ref it) (.ref D) (compEnvC scope (cellsFrom (u3.heap.objs.size + 1) scope.names (cloFrom X.env.cells scope.names [])) u3.heap.objs.size X.env)) (compPost (model X.prog X.w) X.A X.xe use Qf (.ref D) u3.heap.objs.size) { u3 with heap := pushCells (u3.heap.push { cls := .type "dict", data := .dict #[] }) scope.names }
  have nofp : ∀ b ∈ fpl, (upd G2 D (dk0 t)) b = none := fun b hb => (f3 b hb).1.1
  generalize hce : compEnvC scope (cellsFrom (u3.heap.objs.size + 1) scope.names (cloFrom X.env.cells scope.names [])) u3.heap.objs.size X.env = cenv at J_4 pg pt pk pe pi1 pg1 pt1 ⊢
  have cL : cenv.locals = u3.heap.objs.size := by subst hce; rfl
  generalize hH3 : upd G2 D (dk0 t) = G3 at J_3 J_4 pg pt pk pe pi1 pg1 pt1 w0 nofp f3
  generalize hs4 : ({ u3 with heap := pushCells (u3.heap.push { cls := .type "dict", data := .dict #[] }) scope.names } : Shared) = u4 at J_4 ⊢
  have sv4 : tn 0 u4.heap := T.keep _ _ _ sv3 fun b _ o e => by rw [← hs4]; exact pushCells_keeps _ _ _ _ (Heap.get?_push_of_some _ e)
  have quiet : ∀ {σ' : L2.St} {H' : Hp} {s' : Shared}, Inv (X.blk u3 G3 scope cenv fpl) [] σ' H' s' → (∀ b ∈ fpl, H' b = none) → ∀ b ∈ fpl, FpOk (X.blk u3 G3 scope cenv fpl) [] H' b := fun {σ' H' s'} I' hn b hb =>
    ⟨hn b hb, (I'.ok.exf b hb).1, I'.ok.exfs b hb, .inl hb, fun x c e => (I'.ok.exf b hb).2 x c e, fun p hp => absurd (show p ∈ ([] : List (Addr × Obj)) ++ [] from hp) (by simp)⟩
  have roundA : codeAny (model X.prog X.w) X.A (.compLoop (.DictComp kx vx [⟨tg, iter, ifs, 0⟩, ⟨tg1, iter1, cs1, 0⟩] scope pos) 0 (.ref it) (.ref D) cenv) (compPost (model X.prog X.w) X.A X.xe use Qf (.ref D) u3.heap.objs.size) u4 := by
    refine cloopD_out (hs1 cenv) (fun n s' => ∃ i H', Inv (X.blk u3 G3 scope cenv fpl) [] (L2.wipe σ (own.map (·.2))) H' s' ∧ tn i s'.heap ∧ (∀ b ∈ fpl, H' b = none) ∧ W i n H') ?_ m0 ⟨0, G3, J_4, sv4, nofp, w0⟩
    rintro n u5 ⟨i, G5, J_5, sv5, n5, w5⟩
    rcases trn i n G5 w5 with ⟨stop, qq⟩ | ⟨go, Nx, hNx, stp⟩
    · have td := T.done (X.blk u3 G3 scope cenv fpl) rfl rfl rfl hc i [] u5 _ G5 (fun _ _ => False) J_5 (quiet J_5 n5) sv5 stop
      refine thnF td fun r u6 ⟨hr, J_6⟩ => ?_
      subst hr
      -- back in the def's context
      have J_7 : Inv X pins σ G5 u6 := J_3.call' (ch := fpl) J_6.os J_6.base J_6.hok J_6.bare fun b hb => ⟨(f3 b hb).1.2.2.2.1, (f3 b hb).1.2.1, (f3 b hb).1.2.2.2.2.1, (f3 b hb).1.2.2.2.2.2⟩
      have nC : G5 u3.heap.objs.size = none := by
        have z : G5 cenv.locals = none := J_6.free
        rw [cL] at z
        exact z
      obtain ⟨m, hn, _⟩ := J_6.loc
      have hn : u6.heap.Ns cenv.locals m := hn
      rw [cL] at hn
      exact hEnd D u3.heap.objs.size u6 m G5 J_7 qq hn (J_3.fpOk (Nat.le_refl _) nC)
    · have ti := T.item (X.blk u3 G3 scope cenv fpl) rfl rfl rfl hc i [] u5 _ G5 (fun _ _ => False) J_5 (quiet J_5 n5) sv5 go
      refine thnF ti fun r u6 ⟨u, hr, h6⟩ => ?_
      subst hr
      refine thnF h6 fun _ u7 ⟨x, G7, J_7, r7, y7, sv7, n7⟩ => ?_
      have J_7' := J_7.pinned (quiet J_7 n7) (T.obj _ _ sv7)
      refine thnF (pg.run _ u7 _ G7 x u _ J_7' r7 (stp x G7 y7)) fun _ u8 ⟨σ8, G8, J_8, hw8, q8⟩ => ?_
      refine thnF (pt.run _ u8 σ8 G8 _ J_8 q8) fun b u9 ⟨G9, J_9, q9⟩ => ?_
      -- the trn's end, from any slots that know what the block knew at its start
      have endA : ∀ {σ9 : L2.St} {s' : Shared} {H' : Hp}, Inv (X.blk u3 G3 scope cenv fpl) ([] ++ pinsAt fpl u7.heap) σ9 H' s' → (L2.wipe σ (own.map (·.2))).length = σ9.length → (∀ (j : Nat) v, (L2.wipe σ (own.map (·.2)))[j]? = some (some v) → σ9[j]? = some (some v)) → Nx H' →
          ∃ m, m < n ∧ ∃ i H', Inv (X.blk u3 G3 scope cenv fpl) [] (L2.wipe σ (own.map (·.2))) H' s' ∧ tn i s'.heap ∧ (∀ b ∈ fpl, H' b = none) ∧ W i m H' := fun {σ9 s' H'} I' hl hk nxt => by
        obtain ⟨m', hm, w'⟩ := hNx H' nxt
        have pinB : ∀ b ∈ fpl, ∀ o, u7.heap.get? b = some o → s'.heap.get? b = some o ∧ H' b = none := fun b hb o e =>
          let z := I'.pin (b, o) (List.mem_append_right _ (List.mem_append_right _ (mem_pinsAt hb e)))
          ⟨z.1, z.2.1⟩
        refine ⟨m', hm, i + 1, H', (I'.unpinned (pins := [])).weak hl hk, T.keep _ _ _ sv7 fun b hb o e => (pinB b hb o e).1, fun b hb => ?_, w'⟩
        obtain ⟨o, e, _⟩ := T.obj _ _ sv7 b hb
        exact (pinB b hb o e).2
      have hl8 : (L2.wipe σ (own.map (·.2))).length = σ8.length := by rw [← hw8, wipe_length]
      have hk8 : ∀ (j : Nat) v, (L2.wipe σ (own.map (·.2)))[j]? = some (some v) → σ8[j]? = some (some v) := fun j v e => by
        rw [← hw8] at e
        exact (wipe_some e).1
      have hk9 : ∀ (j : Nat) v, (L2.wipe σ (own.map (·.2)))[j]? = some (some v) → (L2.wipe σ8 vs1)[j]? = some (some v) := fun j v e => by
        rw [← hw8] at e
        obtain ⟨e1, e2⟩ := wipe_some e
        rw [wipe_out fun z => e2 (hv j z)]
        exact e1
      cases b with
      | false =>
        simp only [Bool.false_eq_true, if_false] at q9 ⊢
        exact endA J_9 hl8 hk8 q9
      | true =>
        simp only [if_true] at q9 ⊢
        refine thnF (pi1.run _ u9 σ8 G9 _ J_9 q9) fun xv u10 hx => thnF hx fun itv u11 h11 => ?_
        obtain ⟨it1, fp1, tn1, J1, G11, e1, J_11, T1, sv11, f11, W1, ⟨m1, w1⟩, trnB⟩ := h11
        subst e1
        -- the inner roundA
        have quiet1 : ∀ {H' : Hp}, (∀ b ∈ fp1, H' b = none) → ∀ b ∈ fp1, FpOk (X.blk u3 G3 scope cenv fpl) ([] ++ pinsAt fpl u7.heap) H' b := fun hn b hb => ⟨hn b hb, (f11 b hb).2⟩
        have roundB : codeAny (model X.prog X.w) X.A (.compLoop (.DictComp kx vx [⟨tg, iter, ifs, 0⟩, ⟨tg1, iter1, cs1, 0⟩] scope pos) 1 (.ref it1) (.ref D) cenv)
            (fun r s' => match r with
              | .ok _ => ∃ m, m < n ∧ ∃ i H', Inv (X.blk u3 G3 scope cenv fpl) [] (L2.wipe σ (own.map (·.2))) H' s' ∧ tn i s'.heap ∧ (∀ b ∈ fpl, H' b = none) ∧ W i m H'
              | .error _ => False) u11 := by
          refine cloopD_in (fun k s' => ∃ j H', Inv (X.blk u3 G3 scope cenv fpl) ([] ++ pinsAt fpl u7.heap) (L2.wipe σ8 vs1) H' s' ∧ tn1 j s'.heap ∧ (∀ b ∈ fp1, H' b = none) ∧ W1 j k H') ?_ m1 ⟨0, G11, J_11.weak (wipe_length _ _) (fun j v e => (wipe_some e).1), sv11, fun b hb => (f11 b hb).1, w1⟩
          rintro k u12 ⟨j, G12, J_12, sv12, n12, w12⟩
          rcases trnB j k G12 w12 with ⟨stop1, nx1⟩ | ⟨go1, Nx1, hNx1, stpB⟩
          · refine thnF (T1.done (X.blk u3 G3 scope cenv fpl) rfl rfl rfl hc j _ u12 (L2.wipe σ8 vs1) G12 (fun _ _ => False) J_12 (quiet1 n12) sv12 stop1) fun r u13 ⟨hr, J_13⟩ => ?_
            subst hr
            exact endA J_13 (hl8.trans (wipe_length σ8 vs1).symm) hk9 nx1
          · refine thnF (T1.item (X.blk u3 G3 scope cenv fpl) rfl rfl rfl hc j _ u12 (L2.wipe σ8 vs1) G12 (fun _ _ => False) J_12 (quiet1 n12) sv12 go1) fun r u13 ⟨u1, hr, h13⟩ => ?_
            subst hr
            refine thnF h13 fun _ u14 ⟨x1, G14, J_14, r14, y14, sv14, n14⟩ => ?_
            have J_14' := J_14.pinned (quiet1 n14) (T1.obj _ _ sv14)
            refine thnF (pg1.run _ u14 (L2.wipe σ8 vs1) G14 x1 u1 _ J_14' r14 (stpB x1 G14 y14)) fun _ u15 ⟨σ15, G15, J_15, hw15, q15⟩ => ?_
            refine thnF (pt1.run _ u15 σ15 G15 _ J_15 q15) fun b1 u16 ⟨G16, J_16, q16⟩ => ?_
            have endB : ∀ {s' : Shared} {H' : Hp}, Inv (X.blk u3 G3 scope cenv fpl) (([] ++ pinsAt fpl u7.heap) ++ pinsAt fp1 u14.heap) σ15 H' s' → Nx1 H' → ∃ m, m < k ∧ ∃ j H', Inv (X.blk u3 G3 scope cenv fpl) ([] ++ pinsAt fpl u7.heap) (L2.wipe σ8 vs1) H' s' ∧ tn1 j s'.heap ∧ (∀ b ∈ fp1, H' b = none) ∧ W1 j m H' := fun {s' H'} I' nxt => by
              obtain ⟨m', hm, w'⟩ := hNx1 H' nxt
              have pinB : ∀ b ∈ fp1, ∀ o, u14.heap.get? b = some o → s'.heap.get? b = some o ∧ H' b = none := fun b hb o e =>
                let z := I'.pin (b, o) (List.mem_append_right _ (List.mem_append_right _ (mem_pinsAt hb e)))
                ⟨z.1, z.2.1⟩
              refine ⟨m', hm, j + 1, H', I'.unpinned.weak (by rw [← hw15, wipe_length]) (fun j v e => by rw [← hw15] at e; exact (wipe_some e).1), T1.keep _ _ _ sv14 fun b hb o e => (pinB b hb o e).1, fun b hb => ?_, w'⟩
              obtain ⟨o, e, _⟩ := T1.obj _ _ sv14 b hb
              exact (pinB b hb o e).2
            cases b1 with
            | false =>
              simp only [Bool.false_eq_true, if_false] at q16 ⊢
              exact endB J_16 q16
            | true =>
              simp only [if_true] at q16 ⊢
              refine thnF (pk.run _ u16 σ15 G16 _ J_16 q16) fun z u17 ⟨yk, G17, J_17, r17, q17⟩ => ?_
              refine thnF (pe.run _ u17 σ15 G17 _ J_17 q17) fun z2 u18 ⟨yv, G18, J_18, r18, G19, dp, nxt⟩ => ?_
              exact d_setP (X := X.blk u3 G3 scope cenv fpl) hu J_18 dp r17 r18 fun u19 J_19 => endB J_19 nxt
        exact cstartD_ok roundB (T1.self X.A 0 _ _ _ sv11 roundB)
  exact codeAny_compStart_dict roundA (T.self X.A 0 _ _ _ sv4 roundA)
/-- as a value -/
theorem pe_dc2 {kx vx tg iter tg1 iter1 : Expr} {ifs cs1 : List Expr} {scope : Scope} {own : List (Str × Nat)} {vs1 : List Nat} {pos : Pos} {wi wi1 : TI} {g g1 : TG} {tt tt1 : TT} {tk tv : TE} {t : Bool} (hc : X.calm = true) (hu : X.A.units + 1 < cLine) (hN : X.N.Nodup) (hi : PI X tg iter wi) (ok : BlkOk X.N X.env.scope scope own) (hv : ∀ i ∈ vs1, i ∈ own.map (·.2))
    (hg : ∀ (s : Shared) (H : Hp) (C : Addr) (cl : List (Str × Addr)) (fpl : List Addr), PG (X.blk s H scope (compEnvC scope cl C X.env) fpl) tg g) (ht : ∀ (s : Shared) (H : Hp) (C : Addr) (cl : List (Str × Addr)) (fpl : List Addr), PTs (X.blk s H scope (compEnvC scope cl C X.env) fpl) ifs tt)
    (hi1 : ∀ (s : Shared) (H : Hp) (C : Addr) (cl : List (Str × Addr)) (fpl : List Addr), PI (X.blk s H scope (compEnvC scope cl C X.env) fpl) tg1 iter1 wi1)
    (hg1 : ∀ (s : Shared) (H : Hp) (C : Addr) (cl : List (Str × Addr)) (fpl : List Addr), PG (X.blk s H scope (compEnvC scope cl C X.env) fpl) tg1 g1) (ht1 : ∀ (s : Shared) (H : Hp) (C : Addr) (cl : List (Str × Addr)) (fpl : List Addr), PTs (X.blk s H scope (compEnvC scope cl C X.env) fpl) cs1 tt1)
    (hk : ∀ (s : Shared) (H : Hp) (C : Addr) (cl : List (Str × Addr)) (fpl : List Addr), PE (X.blk s H scope (compEnvC scope cl C X.env) fpl) kx tk) (he : ∀ (s : Shared) (H : Hp) (C : Addr) (cl : List (Str × Addr)) (fpl : List Addr), PE (X.blk s H scope (compEnvC scope cl C X.env) fpl) vx tv) (hfs : ∀ x, foldedSetIterable iter X.env x = pure x := by intro _; rfl) (hs1 : ∀ env x, foldedSetIterable iter1 env x = pure x := by intro _ _; rfl) :
    PE X (.DictComp kx vx [⟨tg, iter, ifs, 0⟩, ⟨tg1, iter1, cs1, 0⟩] scope pos) (tDc2 t wi g tt wi1 g1 tt1 tk tv (own.map (·.2)) vs1) := by
  refine ⟨fun pins s σ H Q I h => ?_⟩
  rw [arm_eval_DictComp]
  refine dc2_core hc hu hN I hi ok hv hg ht hk he hfs hi1 hg1 ht1 hs1 h fun D C s' m H' I' q hn f => ⟨m, hn, fun h'' sb => ?_⟩
  obtain ⟨f0, f1, f2, f3, f4, f5⟩ := f
  exact ⟨.ref D, H', I'.turned (t' := s'.toks) (fun b o hb e => (sb.2 b hb).trans e) f0 f1 f3 f4 f5, rfl, q⟩
end
end Pv
set_option autoImplicit false
set_option Elab.async false
set_option linter.all false
set_option maxRecDepth 100000
set_option maxHeartbeats 1000000
namespace Pv
open PySem PySem.Spec PyProof.Rows L2

abbrev KT2 := List (Key × U) × List (List Key × U)
/-- the outer turn's invariant -/
structure DcWo (K : PySem.W.Frag) (C : Nat → Addr) (W : Value → Hp → Prop) (g1 : Gh) (H1 : Hp) (D : Addr) (su : SU) (σ : L2.St) (t : Bool) (n : Nat) (k : Nat → KT2 → MS → Rv U) (Q : VK) (i m : Nat) (H : Hp) : Prop where
  eq : m = n - i
  le : i ≤ n
  st : ∃ g s p, DcI K C g1 H1 D su σ g s H t p.1 p.2 ∧ Pst K C (RelU K) W g1 H1 (k i p s) Q
/-- the inner one -/
structure DcWi (K : PySem.W.Frag) (C : Nat → Addr) (W : Value → Hp → Prop) (g1 : Gh) (H1 : Hp) (D : Addr) (su : SU) (σ : L2.St) (gi : Gh) (Hi : Hp) (su' : SU) (σ' : L2.St) (t : Bool) (n : Nat) (k : Nat → KT2 → MS → Rv U) (Q : VK) (i m : Nat) (H : Hp) : Prop where
  eq : m = n - i
  le : i ≤ n
  st : ∃ g s p, DcI K C g1 H1 D su σ g s H t p.1 p.2 ∧ RSt K g H su' σ' ∧ ExtW gi Hi g H ∧ Pst K C (RelU K) W g1 H1 (k i p s) Q
section
variable {K : PySem.W.Frag} {C : Nat → Addr} {g g1 : Gh} {s : MS} {H H1 : Hp} {D : Addr} {a : List (Key × U)} {b : List (List Key × U)}
theorem DcI.putK2 {su su' : SU} {σ σ' : L2.St} {gi : Gh} {Hi : Hp} (I : DcI K C g1 H1 D su σ g s H false a b) (hD : H1 D = none) (hz : a.length < sizeLine) {ku u : U} {y v : V} {kk : Key} (rk : RelU K g H ku y) (ek : keyOf ku = some kk) (rv : RelU K g H u v) (r' : RSt K g H su' σ') (x : ExtW gi Hi g H) (zi : D ∈ gi.zs) :
    ∃ H6, DPut H D y v H6 ∧ DcI K C g1 H1 D su σ g s H6 false (putA kk u a) b ∧ RSt K g H6 su' σ' ∧ ExtW gi Hi g H6 := by
  obtain ⟨z, vs, q, r⟩ := I.at_
  have ey := key_rel rk ek
  subst ey
  obtain ⟨vs', e1, r1⟩ := put_rel kk rv r
  have hl : ((a.map (·.1)).zip vs).length < sizeLine := by
    rw [List.length_zip, List.length_map]
    omega
  refine ⟨_, DPut.k q hl, ⟨RS.under trivial I.z I.R, I.z, I.st.under I.z, I.e.under hD, ?_⟩, r'.under I.z, x.under zi⟩
  have := putA_len kk u a
  exact ⟨by omega, vs', by rw [upd_same, e1], r1.under I.z⟩
theorem DcI.putT2 {su su' : SU} {σ σ' : L2.St} {gi : Gh} {Hi : Hp} (I : DcI K C g1 H1 D su σ g s H true a b) (hD : H1 D = none) (hz : b.length < sizeLine) {ku u : U} {y v : V} {kk : List Key} (rk : RelU K g H ku y) (ek : tkeyOf ku = some kk) (rv : RelU K g H u v) (r' : RSt K g H su' σ') (x : ExtW gi Hi g H) (zi : D ∈ gi.zs) :
    ∃ H6, DPut H D y v H6 ∧ DcI K C g1 H1 D su σ g s H6 true a (putA kk u b) ∧ RSt K g H6 su' σ' ∧ ExtW gi Hi g H6 := by
  obtain ⟨z, vs, q, r⟩ := I.at_
  obtain ⟨p, rfl, hp⟩ := tkey_rel rk ek
  obtain ⟨vs', e1, r1⟩ := put_rel kk rv r
  have hl : ((b.map (·.1)).zip vs).length < sizeLine := by
    rw [List.length_zip, List.length_map]
    omega
  refine ⟨_, DPut.t q hp hl, ⟨RS.under trivial I.z I.R, I.z, I.st.under I.z, I.e.under hD, ?_⟩, r'.under I.z, x.under zi⟩
  have := putA_len kk u b
  exact ⟨by omega, vs', by rw [upd_same, e1], r1.under I.z⟩
end
def inDc (t : Bool) (vs1 : List Nat) (tg1 : Tg) (mi1 : SU → MS → Rv Src) (mt1 : SU → MS → Rv Bool) (mk mv : SU → MS → Rv U) (su' : SU) (p : KT2) (s' : MS) : Rv KT2 := (mi1 su' s').bind fun r1 s2 => dcJ t vs1 tg1 mt1 mk mv r1 su' r1.items p.1 p.2 s2
section
variable {X : Cx} {C : Nat → Addr} {E : XK} {pos : Pos} {kx vx tgE iter tgE1 iter1 : Expr} {ifs ifs1 : List Expr} {scope : Scope} {own : List (Str × Nat)} {mi mi1 : SU → MS → Rv Src} {tg tg1 : Tg} {mt mt1 : SU → MS → Rv Bool} {mk mv : SU → MS → Rv U} {m t : Bool}
theorem dc2_read {K : PySem.W.Frag} {vs vs1 : List Nat} (hsl : ∀ i ∈ slT tg, i ∈ vs) (hsl1 : ∀ i ∈ slT tg1, i ∈ vs1) {σ : L2.St} {H : Hp} {Q : VK} (h : eEv K C E (fun su s => (mi su s).bind fun r s1 => (dcI vs tg mt (inDc t vs1 tg1 mi1 mt1 mk mv) r su r.items ([], []) s1).bind fun p s2 => mkD m t p.1 p.2 s2) σ H Q) :
    tDc2 t (iEv K C E mi) (gEv K C tg) (tEv K C E0 mt) (iEv K C E0 mi1) (gEv K C tg1) (tEv K C E0 mt1) (eEv K C E0 mk) (eEv K C E0 mv) vs vs1 σ H Q := by
  obtain ⟨g, su, s, R, rs, p⟩ := h
  refine ⟨g, su, s, R, rs, (Pst.bind (R := fun g' H' r J => ItOk K C J r g' H') p).mono fun J H1 ⟨g1, s1, r, R1, e1, ok, p1⟩ D hD => ?_⟩
  refine ⟨DcWo K C (WOf E) g1 H1 D su σ t r.items.length (fun i p s => (dcI vs tg mt (inDc t vs1 tg1 mi1 mt1 mk mv) r su (r.items.drop i) p s).bind fun p s2 => mkD m t p.1 p.2 s2) Q,
    ⟨r.items.length, by simp, Nat.zero_le _, _, s1, ([], []), DcI.start R1 (rs.ext e1) hD, p1⟩, ?_⟩
  rintro i n H2 ⟨rfl, hi, g2, s2, acc, I, p2⟩
  replace p2 : Pst K C (RelU K) (WOf E) g1 H1 ((dcI vs tg mt (inDc t vs1 tg1 mi1 mt1 mk mv) r su (r.items.drop i) acc s2).bind fun p s2 => mkD m t p.1 p.2 s2) Q := p2
  have len := ok.len
  by_cases hlt : i < r.items.length
  · refine .inr ?_
    obtain ⟨x, hx, hd⟩ := drop_cons hlt
    rw [hd, dcI] at p2
    by_cases ho : r.ok s2 = true
    · rw [if_pos ho] at p2
      obtain ⟨go, yl⟩ := ok.go i x g2 s2 H2 I.R I.e.weak ho hx
      refine ⟨go, _, fun H' hH => ⟨r.items.length - (i + 1), by omega, hH⟩, fun y H3 hy => ?_⟩
      obtain ⟨R3, e3, ry, _⟩ := yl y H3 hy
      have I3 := I.ext R3 e3
      cases hb : bindT tg x (wipe su vs) with
      | none => rw [hb] at p2; exact p2.elim
      | some su' =>
        rw [hb] at p2
        refine ⟨g2, wipe su vs, s2, x, su', R3, I3.st.wipe vs, ry, hb, fun σ2 r2 off => ⟨wipe_off hsl (RSt.len' (I3.st.wipe vs) r2 (bindT_len _ _ _ _ hb)) off, g2, su', s2, R3, r2, ?_⟩⟩
        simp only at p2
        cases hc : mt su' s2 with
        | no => rw [hc] at p2; exact p2.elim
        | ex c s' => rw [hc] at p2; exact p2.elim
        | ok b s3 =>
          rw [hc] at p2
          intro g4 H4 b' R4 e4 hb'
          cases hb'
          have I4 := I3.ext R4 e4
          cases b with
          | false =>
            rw [if_neg Bool.false_ne_true]
            exact ⟨rfl, hlt, g4, s3, acc, I4, p2⟩
          | true =>
            rw [if_pos rfl]
            simp only [inDc] at p2
            refine ⟨g4, su', s3, R4, r2.ext e4, ?_⟩
            cases hi1 : mi1 su' s3 with
            | no => rw [hi1] at p2; exact p2.elim
            | ex c s' => rw [hi1] at p2; exact p2.elim
            | ok r1 s4 =>
              rw [hi1] at p2
              intro g5 H5 J1 R5 e5 ok1
              have I5 := I4.ext R5 e5
              have len1 := ok1.len
              refine ⟨DcWi K C (WOf E) g1 H1 D su σ g5 H5 su' σ2 t r1.items.length (fun j p s => (match dcJ t vs1 tg1 mt1 mk mv r1 su' (r1.items.drop j) p.1 p.2 s with
                | .ok p' s'' => dcI vs tg mt (inDc t vs1 tg1 mi1 mt1 mk mv) r su (r.items.drop (i + 1)) p' s''
                | _ => .no).bind fun p s2 => mkD m t p.1 p.2 s2) Q,
                ⟨r1.items.length, by simp, Nat.zero_le _, g5, s4, acc, I5, (r2.ext e4).ext e5, (Ext.refl _ _).weak, p2⟩, ?_⟩
              rintro j n H6 ⟨rfl, hj, g6, s6, ⟨a6, b6⟩, I6, r6, e6, p6⟩
              replace p6 : Pst K C (RelU K) (WOf E) g1 H1 ((match dcJ t vs1 tg1 mt1 mk mv r1 su' (r1.items.drop j) a6 b6 s6 with
                | .ok p' s'' => dcI vs tg mt (inDc t vs1 tg1 mi1 mt1 mk mv) r su (r.items.drop (i + 1)) p' s''
                | _ => .no).bind fun p s2 => mkD m t p.1 p.2 s2) Q := p6
              by_cases hjt : j < r1.items.length
              · refine .inr ?_
                obtain ⟨x1, hx1, hd1⟩ := drop_cons hjt
                rw [hd1, dcJ] at p6
                by_cases ho1 : r1.ok s6 = true
                · rw [if_pos ho1] at p6
                  obtain ⟨go1, yl1⟩ := ok1.go j x1 g6 s6 H6 I6.R e6 ho1 hx1
                  refine ⟨go1, _, fun H' hH => ⟨r1.items.length - (j + 1), by omega, hH⟩, fun y1 H7 hy1 => ?_⟩
                  obtain ⟨R7, e7, ry1, _⟩ := yl1 y1 H7 hy1
                  have I7 := I6.ext R7 e7
                  have r7 := r6.ext e7
                  cases hb1 : bindT tg1 x1 (wipe su' vs1) with
                  | none => rw [hb1] at p6; exact p6.elim
                  | some su2 =>
                    rw [hb1] at p6
                    refine ⟨g6, wipe su' vs1, s6, x1, su2, R7, r7.wipe vs1, ry1, hb1, fun σ3 r3 off3 => ⟨wipe_off hsl1 (RSt.len' (r7.wipe vs1) r3 (bindT_len _ _ _ _ hb1)) off3, g6, su2, s6, R7, r3, ?_⟩⟩
                    simp only at p6
                    cases hc1 : mt1 su2 s6 with
                    | no => rw [hc1] at p6; exact p6.elim
                    | ex c s' => rw [hc1] at p6; exact p6.elim
                    | ok b1 s7 =>
                      rw [hc1] at p6
                      intro g8 H8 b8 R8 e8 hb8
                      cases hb8
                      have I8 := I7.ext R8 e8
                      have x8 : ExtW g5 H5 g8 H8 := (e6.trans e7.weak).trans e8.weak
                      cases b1 with
                      | false =>
                        rw [if_neg Bool.false_ne_true]
                        exact ⟨rfl, hjt, g8, s7, (a6, b6), I8, r7.ext e8, x8, p6⟩
                      | true =>
                        rw [if_pos rfl]
                        simp only at p6
                        refine ⟨g8, su2, s7, R8, r3.ext e8, ?_⟩
                        cases he : mk su2 s7 with
                        | no => rw [he] at p6; exact p6.elim
                        | ex c s' => rw [he] at p6; exact p6.elim
                        | ok ku s8 =>
                          rw [he] at p6
                          simp only at p6
                          intro g9 H9 yk R9 e9 rk
                          have I9 := I8.ext R9 e9
                          refine ⟨g9, su2, s8, R9, (r3.ext e8).ext e9, ?_⟩
                          cases hv : mv su2 s8 with
                          | no => rw [hv] at p6; exact p6.elim
                          | ex c s' => rw [hv] at p6; exact p6.elim
                          | ok u s9 =>
                            rw [hv] at p6
                            simp only at p6
                            intro g10 H10 v R10 e10 rv
                            have I10 := I9.ext R10 e10
                            by_cases hz : a6.length < line ∧ b6.length < line
                            · rw [if_pos hz] at p6
                              rw [line_eq] at hz
                              have x10 := ((x8.trans e9.weak).trans e10.weak)
                              have r10 := ((r7.ext e8).ext e9).ext e10
                              cases t with
                              | true =>
                                rw [if_pos rfl] at p6
                                cases hk : tkeyOf ku with
                                | none => rw [hk] at p6; exact p6.elim
                                | some kk =>
                                  rw [hk] at p6
                                  obtain ⟨H11, dp, I11, rr⟩ := I10.putT2 hD hz.2 (rk.ext e10) hk rv r10 x10 I5.z
                                  exact ⟨H11, dp, rfl, hjt, g10, s9, (a6, _), I11, rr.1, rr.2, p6⟩
                              | false =>
                                rw [if_neg Bool.false_ne_true] at p6
                                cases hk : keyOf ku with
                                | none => rw [hk] at p6; exact p6.elim
                                | some kk =>
                                  rw [hk] at p6
                                  obtain ⟨H11, dp, I11, rr⟩ := I10.putK2 hD hz.1 (rk.ext e10) hk rv r10 x10 I5.z
                                  exact ⟨H11, dp, rfl, hjt, g10, s9, (_, b6), I11, rr.1, rr.2, p6⟩
                            · rw [if_neg hz] at p6
                              exact p6.elim
                · rw [if_neg ho1] at p6
                  exact p6.elim
              · have e : j = r1.items.length := by omega
                subst e
                refine .inl ?_
                rw [List.drop_length, dcJ] at p6
                by_cases ho1 : r1.ok s6 = true
                · rw [if_pos ho1] at p6
                  exact ⟨ok1.stop g6 s6 H6 I6.R e6 ho1, rfl, hlt, g6, s6, (a6, b6), I6, p6⟩
                · rw [if_neg ho1] at p6
                  exact p6.elim
    · rw [if_neg ho] at p2
      exact p2.elim
  · have e : i = r.items.length := by omega
    subst e
    refine .inl ?_
    rw [List.drop_length, dcI] at p2
    by_cases ho : r.ok s2 = true
    · rw [if_pos ho] at p2
      exact ⟨ok.stop g2 s2 H2 I.R I.e.weak ho, I.fin R1 hD p2⟩
    · rw [if_neg ho] at p2
      exact p2.elim
theorem se_dc2 {vs1 : List Nat} (hc : X.calm = true) (hu : X.A.units + 1 < cLine) (hN : X.N.Nodup) (hi : PI X tgE iter (iEv X.K C E mi)) (ok : BlkOk X.N X.env.scope scope own) (hsl : ∀ i ∈ slT tg, i ∈ own.map (·.2)) (hv : ∀ i ∈ vs1, i ∈ own.map (·.2)) (hsl1 : ∀ i ∈ slT tg1, i ∈ vs1)
    (hg : ∀ (s : Shared) (H : Hp) (D : Addr) (cl : List (Str × Addr)) (fp : List Addr), PG (X.blk s H scope (compEnvC scope cl D X.env) fp) tgE (gEv X.K C tg)) (ht : ∀ (s : Shared) (H : Hp) (D : Addr) (cl : List (Str × Addr)) (fp : List Addr), PTs (X.blk s H scope (compEnvC scope cl D X.env) fp) ifs (tEv X.K C E0 mt))
    (hi1 : ∀ (s : Shared) (H : Hp) (D : Addr) (cl : List (Str × Addr)) (fp : List Addr), PI (X.blk s H scope (compEnvC scope cl D X.env) fp) tgE1 iter1 (iEv X.K C E0 mi1))
    (hg1 : ∀ (s : Shared) (H : Hp) (D : Addr) (cl : List (Str × Addr)) (fp : List Addr), PG (X.blk s H scope (compEnvC scope cl D X.env) fp) tgE1 (gEv X.K C tg1)) (ht1 : ∀ (s : Shared) (H : Hp) (D : Addr) (cl : List (Str × Addr)) (fp : List Addr), PTs (X.blk s H scope (compEnvC scope cl D X.env) fp) ifs1 (tEv X.K C E0 mt1))
    (hk : ∀ (s : Shared) (H : Hp) (D : Addr) (cl : List (Str × Addr)) (fp : List Addr), PE (X.blk s H scope (compEnvC scope cl D X.env) fp) kx (eEv X.K C E0 mk)) (he : ∀ (s : Shared) (H : Hp) (D : Addr) (cl : List (Str × Addr)) (fp : List Addr), PE (X.blk s H scope (compEnvC scope cl D X.env) fp) vx (eEv X.K C E0 mv))
    (hs : ∀ x, foldedSetIterable iter X.env x = pure x) (hs1 : ∀ env x, foldedSetIterable iter1 env x = pure x) :
    PE X (.DictComp kx vx [⟨tgE, iter, ifs, 0⟩, ⟨tgE1, iter1, ifs1, 0⟩] scope pos) (eEv X.K C E fun su s => (mi su s).bind fun r s1 => (dcI (own.map (·.2)) tg mt (inDc t vs1 tg1 mi1 mt1 mk mv) r su r.items ([], []) s1).bind fun p s2 => mkD m t p.1 p.2 s2) :=
  PE.imp (pe_dc2 hc hu hN hi ok hv hg ht hi1 hg1 ht1 hk he hs hs1) fun σ H Q h => dc2_read hsl hsl1 h
end
end Pv
set_option autoImplicit false
set_option Elab.async false
set_option linter.all false
set_option maxRecDepth 100000
set_option maxHeartbeats 1000000
namespace Pv
open PySem PySem.Spec PyProof.Rows L2
/-! ### displays of dicts, keys ints and texts -/
abbrev MF := SU → MS → Rv U
def pEv : List (MF × MF) → SU → MS → Rv (List U × List U)
  | [], _, s => .ok ([], []) s
  | p :: r, su, s => (p.1 su s).bind fun u s1 => (p.2 su s1).bind fun w s2 => (pEv r su s2).bind fun ps s3 => .ok (u :: ps.1, w :: ps.2) s3
section
variable {K : PySem.W.Frag} {C : Nat → Addr} {g g1 : Gh} {s : MS} {H H1 : Hp} {D : Addr}
theorem DcI.mergeK {su : SU} {σ : L2.St} (I : DcI K C g1 H1 D su σ g s H false [] []) (hD : H1 D = none) {kvs : List (Key × U)} {ws : List V} (hz : kvs.length ≤ 15) (r : RelUs K g H (kvs.map (·.2)) ws) :
    H D = some (.dK []) ∧ DcI K C g1 H1 D su σ g s (upd H D (.dK (L2.mergeK [] ((kvs.map (·.1)).zip ws)))) false (kvs.foldl (fun acc p => putA p.1 p.2 acc) []) [] := by
  obtain ⟨z, vs, q, r0⟩ := I.at_
  have q' : H D = some (.dK []) := q
  obtain ⟨vs', e1, r1⟩ := merge_rel (acc := []) (vs := []) r .nil
  have hl := merge_len kvs []
  rw [List.length_nil, Nat.zero_add] at hl
  refine ⟨q', RS.under trivial I.z I.R, I.z, I.st.under I.z, I.e.under hD, ?_⟩
  refine ⟨?_, vs', ?_, r1.under I.z⟩
  · have : sizeLine = 16777216 := sizeLine_eq
    omega
  · rw [upd_same]
    congr 2
theorem disp_zip {K : PySem.W.Frag} {g : Gh} {H : Hp} : ∀ {us ws : List U} {qs : List (V × V)} {a kvs : List (Key × U)}, RelUs K g H us (qs.map (·.1)) → RelUs K g H ws (qs.map (·.2)) → dispK us ws a = some kvs →
    ∃ ls : List (Key × U), kvs = ls.foldl (fun acc p => putA p.1 p.2 acc) a ∧ ls.length = qs.length ∧ ∃ vs, RelUs K g H (ls.map (·.2)) vs ∧ qs = ((ls.map (·.1)).zip vs).map fun kv => (kV kv.1, kv.2)
  | [], [], [], a, kvs, _, _, h => by
    simp only [dispK] at h
    cases h
    exact ⟨[], rfl, rfl, [], .nil, rfl⟩
  | u :: us, w :: ws, q :: qs, a, kvs, .cons r1 t1, .cons r2 t2, h => by
    simp only [dispK] at h
    split at h
    · rename_i kk ek
      obtain ⟨ls, e1, e2, vs, e3, e4⟩ := disp_zip t1 t2 h
      have ey := key_rel r1 ek
      refine ⟨(kk, w) :: ls, e1, by simp [e2], q.2 :: vs, .cons r2 e3, ?_⟩
      rw [List.map_cons, List.zip_cons_cons, List.map_cons, ← e4]
      congr 1
      exact Prod.ext ey rfl
    · cases h
theorem pEv_len : ∀ {ms : List (MF × MF)} {su : SU} {s s' : MS} {ps : List U × List U}, pEv ms su s = .ok ps s' → ps.1.length = ms.length
  | [], su, s, s', ps, h => by
    simp only [pEv] at h
    cases h
    rfl
  | p :: r, su, s, s', ps, h => by
    simp only [pEv] at h
    cases h1 : p.1 su s with
    | no => rw [h1] at h; cases h
    | ex c s1 => rw [h1] at h; cases h
    | ok u s1 =>
      rw [h1] at h
      simp only [Rv.bind_ok] at h
      cases h2 : p.2 su s1 with
      | no => rw [h2] at h; cases h
      | ex c s1 => rw [h2] at h; cases h
      | ok w s2 =>
        rw [h2] at h
        simp only [Rv.bind_ok] at h
        cases h3 : pEv r su s2 with
        | no => rw [h3] at h; cases h
        | ex c s1 => rw [h3] at h; cases h
        | ok qs s3 =>
          rw [h3] at h
          simp only [Rv.bind_ok] at h
          cases h
          simp [pEv_len h3]
end
section
variable {X : Cx} {C : Nat → Addr} {E : XK} {pos : Pos}
def trsP (K : PySem.W.Frag) (C : Nat → Addr) (E : XK) (ms : List (MF × MF)) : List (TE × TE) := ms.map fun p => (eEv K C E p.1, eEv K C E p.2)
theorem prs_read {K : PySem.W.Frag} {g1 : Gh} {H1 : Hp} {D : Addr} {su : SU} {σ : L2.St} {Q : VK} : ∀ (ms : List (MF × MF)) {f : List U × List U → MS → Rv U} {Q2 : List (V × V) → Hp → Prop} {g : Gh} {s : MS} {H : Hp}, DcI K C g1 H1 D su σ g s H false [] [] →
    Pst K C (RelU K) (WOf E) g1 H1 ((pEv ms su s).bind f) Q →
    (∀ ps qs g' s' H', Ext g H g' H' → DcI K C g1 H1 D su σ g' s' H' false [] [] → RelUs K g' H' ps.1 (qs.map (·.1)) → RelUs K g' H' ps.2 (qs.map (·.2)) → ps.1.length = ms.length → Pst K C (RelU K) (WOf E) g1 H1 (f ps s') Q → Q2 qs H') → tPairs (trsP K C E ms) σ H Q2
  | [], f, Q2, g, s, H, I, p, fin => fin ([], []) [] g s H (Ext.refl g H) I .nil .nil rfl p
  | m :: ms, f, Q2, g, s, H, I, p, fin => by
    simp only [pEv] at p
    refine ⟨g, su, s, I.R, I.st, ?_⟩
    cases h1 : m.1 su s with
    | no => rw [h1] at p; exact p.elim
    | ex c s' => rw [h1] at p; exact fun g' H' R' e' => p g' H' R' (I.e.trans e')
    | ok u s1 =>
      rw [h1] at p
      simp only [Rv.bind_ok] at p
      intro g2 H2 x R2 e2 rx
      have I2 := I.ext R2 e2
      refine ⟨g2, su, s1, R2, I2.st, ?_⟩
      cases h2 : m.2 su s1 with
      | no => rw [h2] at p; exact p.elim
      | ex c s' => rw [h2] at p; exact fun g' H' R' e' => p g' H' R' (I2.e.trans e')
      | ok w s2 =>
        rw [h2] at p
        simp only [Rv.bind_ok] at p
        intro g3 H3 y R3 e3 ry
        have I3 := I2.ext R3 e3
        refine prs_read (Q := Q) (f := fun ps s3 => f (u :: ps.1, w :: ps.2) s3) (Q2 := fun ps H3 => Q2 ((x, y) :: ps) H3) ms I3 ?_ fun ps qs g4 s4 H4 e4 I4 ra rb hl p4 => ?_
        · revert p
          cases pEv ms su s2 <;> exact id
        · exact fin (u :: ps.1, w :: ps.2) ((x, y) :: qs) g4 s4 H4 ((e2.trans e3).trans e4) I4 (.cons ((rx.ext e3).ext e4) ra) (.cons (ry.ext e4) rb) (by simp [hl]) p4
theorem se_dis {m : Bool} {keys : List (Option Expr)} {values : List Expr} (ms : List (MF × MF)) (h : PPs X pos keys values (trsP X.K C E ms)) (hall : keys.all (·.isSome) = true) (hl : keys.length = values.length) (h0 : keys ≠ [])
    (h15 : keys.length ≤ 15) (hm : ms.length = keys.length) : PE X (.Dict keys values pos) (eEv X.K C E fun su s => (pEv ms su s).bind fun ps s1 => disK m ps.1 ps.2 s1) := by
  refine PE.imp (pe_disp h hall hl h0 h15) fun σ H Q ⟨g, su, s, R, rs, p⟩ D hD => ?_
  refine prs_read ms (f := fun ps s1 => disK m ps.1 ps.2 s1) (DcI.start (t := false) R rs hD) p fun ps qs g' s' H' e I ra rb hn p => ?_
  unfold disK at p
  cases hd : dispK ps.1 ps.2 [] with
  | none => rw [hd] at p; exact p.elim
  | some kvs =>
    rw [hd] at p
    obtain ⟨ls, e1, e2, vs, e3, e4⟩ := disp_zip ra rb hd
    have hq : ps.1.length = qs.length := by
      have := ra.length
      rw [List.length_map] at this
      exact this
    obtain ⟨h1, I2⟩ := I.mergeK hD (kvs := ls) (ws := vs) (by omega) e3
    refine ⟨h1, _, e4, ?_, ?_⟩
    · rw [List.length_zip, List.length_map]
      omega
    · rw [← e1] at I2
      exact I2.fin R hD p
end
def msP (X : Ctx) : Prs → List (MF × MF)
  | .nil => []
  | .cons k v r => (evE X k, evE X v) :: msP X r
theorem evPs_eq (X : Ctx) : ∀ (r : Prs) (su : SU) (s : MS), evPs X r su s = pEv (msP X r) su s
  | .nil, su, s => by rw [evPs]; rfl
  | .cons k v r, su, s => by
    rw [evPs]
    show _ = pEv ((evE X k, evE X v) :: msP X r) su s
    simp only [pEv, evPs_eq X r]
end Pv
set_option autoImplicit false
set_option Elab.async false
set_option linter.all false
set_option maxRecDepth 100000
set_option maxHeartbeats 1000000
namespace Pv
open PySem PySem.Spec PyProof.Rows L2
/-! ### isinstance(x, (T, ..)) -/
section
variable {X : Cx} {C : Nat → Addr} {W : Value → Hp → Prop} {E : XK} {a : Expr} {ma : SU → MS → Rv U} {pos : Pos}
theorem cls_all (ts : List TY) : Paired ClsV (ts.map fun t => V.ty (tyName t)) (ts.map fun t => Value.type (tyName t)) := by
  induction ts with
  | nil => exact .nil
  | cons t ts ih => exact .cons (.ty _) ih
theorem isi_many {ts : List TY} : CallR X (.builtin "isinstance") (fun vs H Q => ∃ g s u x p, RS X.K C g s H ∧ RelU X.K g H u x ∧ vs = [x, .ref p] ∧ H p = some (.tup (ts.map fun t => V.ty (tyName t))) ∧ Pst X.K C (RelU X.K) W g H (Rv.of ((isiU s u ts).map .bl) s) Q) := by
  intro pins σt σ H xs us Q I r h
  obtain ⟨g, s, u, x, p, R, rx, rfl, hp, pp⟩ := h
  obtain ⟨b, e, q⟩ := cmp_of R pp
  obtain ⟨T, hT, eb⟩ := isi_val e
  refine call_isiT pins σt σ H _ us Q I r ⟨x, p, _, .type T, _, b, rfl, hp, cls_all ts, tyX_of R rx hT, ?_, q⟩
  rw [eb]
  exact kitAll (tyOf_cases hT) ts
def tTys (ts : List TY) : TA := fun _ H Q => Q (ts.map fun t => V.ty (tyName t)) H
theorem se_isiN {ts : List TY} {es : List Expr} {k : Nat} {tp : Pos} {x : Str} {p0 : Pos} (hx : x = "isinstance") (hg : Gl X x) (hm : X.mg x = none) (hty : PA X es (tTys ts)) (hl : ts.length ≤ sizeLine)
    (ha : PE X a (eEv X.K C E ma)) (hsA : starEach [a, .Tuple es k tp] X.env = [(false, eval a X.env), (false, eval (.Tuple es k tp) X.env)]) :
    PE X (.Call (.Name x p0) [a, .Tuple es k tp] [] pos) (eEv X.K C E fun su s => (ma su s).bind fun u s1 => Rv.of ((isiU s1 u ts).map .bl) s1) := by
  subst hx
  refine PE.imp (pe_callB (isi_many (C := C) (W := WOf E) (ts := ts)) hg hm (by decide +kernel) (pa_cons ha (pa_cons (pe_tup hty) pa_nil rfl) hsA) (by decide) (by decide) hsA (by rfl)) fun σ H Q ⟨g, su, s, R, rs, p⟩ => ?_
  obtain ⟨g0, su0, s0, q1, q2, q3⟩ := eEv_seq (f := fun su u s1 => Rv.of ((isiU s1 u ts).map U.bl) s1) R rs p
  refine ⟨g0, su0, s0, q1, q2, q3.mono fun v H1 ⟨g1, s1, u, R1, rs1, ru, e1, p1⟩ => ⟨by rw [List.length_map]; exact hl, fun q hq => ?_⟩⟩
  exact ⟨g1, s1, u, v, q, R1.new hq, ru.ext (Ext.new R1 hq), rfl, upd_same, p1.ext (Ext.new R1 hq)⟩
end
end Pv
set_option autoImplicit false
set_option Elab.async false
set_option linter.all false
set_option maxRecDepth 100000
set_option maxHeartbeats 1000000
namespace Pv
open PySem PySem.Spec PyProof.Rows L2
/-! ### over a dict's keys: from the first such loop on the dict is not written -/
section
variable {K : PySem.W.Frag} {C : Nat → Addr} {g : Gh} {s : MS} {H : Hp}
theorem Ext.lockd {D : Addr} {o : HO} {od : Obj} (h : H D = some o) (hd : isD o) (n : g.no D) : Ext g H g (upd H D (.frz od o)) := by
  refine ⟨fun a u e m => ⟨?_, m⟩, fun _ _ e => e, fun _ _ _ e => e, fun _ e => e, fun _ _ e => upd_lv e⟩
  by_cases z : a = D
  · subst z
    rw [h] at e
    cases e
    exact ⟨_, upd_same, .inr ⟨n.2, hd, od, rfl⟩⟩
  · exact ⟨u, by rw [upd_ne z]; exact e, .inl rfl⟩
theorem RS.lockd (R : RS K C g s H) {D : Addr} {o : HO} {od : Obj} (h : H D = some o) (hd : isD o) (n : g.no D) : RS K C g s (upd H D (.frz od o)) := by
  have e := Ext.lockd (g := g) (od := od) h hd n
  refine ⟨R.len, R.there, fun m u a h1 h2 => ?_, R.inj, fun m a q => ?_, fun a q => ⟨?_, (R.zsd a q).2⟩⟩
  · exact (R.at_ m u a h1 h2).ext e (upd_ne fun z => n.1 m (by rw [← z]; exact h2))
  · obtain ⟨w, x, c⟩ := R.kind m a q
    exact ⟨w, by rw [upd_ne fun z => n.1 m (by rw [← z]; exact q)]; exact x, c⟩
  · obtain ⟨⟨w, x, c⟩, _⟩ := R.zsd a q
    exact ⟨w, by rw [upd_ne fun z => n.2 (by rw [← z]; exact q)]; exact x, c⟩
theorem key_relU (k : Key) : RelU K g H (uKey k) (kV k) := by
  cases k with
  | inl i => exact .int i
  | inr x => exact .str x
theorem itok_keysK {a : Addr} {o : Obj} {ks : List Key} {vs : List V} (h : H a = some (.frz o (.dK (ks.zip vs)))) (n : g.no a) (hl : ks.length = vs.length) (z : ks.length ≤ sizeLine) : ItOk K C (Itk a o (ks.zip vs)) ⟨ks.map uKey, []⟩ g H := by
  have hz : (ks.zip vs).length = ks.length := by rw [List.length_zip]; omega
  refine ⟨by simpa using z, fun i u g' s' H' R' e ok hi => ?_, fun g' s' H' R' e ok => ?_⟩
  · have h' := (e.no h n id).1
    rw [List.getElem?_map] at hi
    obtain ⟨k, hk, rfl⟩ := Option.map_eq_some_iff.mp hi
    have hlt := (List.getElem?_eq_some_iff.mp hk).1
    refine ⟨⟨h', by omega⟩, fun y H2 ⟨e1, k2, v, e2, e3⟩ => ?_⟩
    subst e1 e3
    rw [List.getElem?_zip_eq_some] at e2
    rw [hk] at e2
    cases e2.1
    exact ⟨R', Ext.refl _ _, key_relU _, fun _ _ q => q⟩
  · exact ⟨(e.no h n id).1, by simp only [List.length_map]; omega⟩
theorem itok_keysT {a : Addr} {o : Obj} {ks : List (List Key)} {vs : List V} (h : H a = some (.frz o (.dT (ks.zip vs)))) (n : g.no a) (hl : ks.length = vs.length) (z : ks.length ≤ sizeLine) (hk : ks.all (fun k => decide (k.length = keyLen) && !k.all isStrK) = true) : ItOk K C (Itkt a o (ks.zip vs)) ⟨ks.map uTKey, []⟩ g H := by
  have hz : (ks.zip vs).length = ks.length := by rw [List.length_zip]; omega
  refine ⟨by simpa using z, fun i u g' s' H' R' e ok hi => ?_, fun g' s' H' R' e ok => ?_⟩
  · have h' := (e.no h n id).1
    rw [List.getElem?_map] at hi
    obtain ⟨k, hkk, rfl⟩ := Option.map_eq_some_iff.mp hi
    have hlt := (List.getElem?_eq_some_iff.mp hkk).1
    refine ⟨⟨h', by omega⟩, fun y H2 ⟨e1, k2, v, q, e2, e3, e4⟩ => ?_⟩
    subst e1 e3
    rw [List.getElem?_zip_eq_some] at e2
    have hkl := List.all_eq_true.mp hk k (List.mem_of_getElem? hkk)
    simp only [Bool.and_eq_true, decide_eq_true_eq, Bool.not_eq_true'] at hkl
    obtain ⟨hkl, hks⟩ := hkl
    have hkz : k.length ≤ line := by rw [hkl]; decide
    rw [hkk] at e2
    cases e2.1
    exact ⟨R', Ext.refl _ _, .tup (TupP.old e4 (dictish_keys hkl hks)) (R'.tupNo e4) (by rw [List.length_map, ← line_eq]; exact hkz) (keys_relU _), fun _ _ q => q⟩
  · exact ⟨(e.no h n id).1, by simp only [List.length_map]; omega⟩
end
section
variable {X : Cx} {C : Nat → Addr} {E : XK} {tg a : Expr} {ma : SU → MS → Rv U}
theorem pie_K {pins : List (Addr × Obj)} {σ : L2.St} {H : Hp} {s : Shared} {R : L2.It → Hp → Prop} {d : Addr} {o : Obj} {kvs : List (Key × V)} (I : L2.Inv X pins σ H s) (hd : H d = some (.frz o (.dK kvs))) (q : R (Itk d o kvs) H) :
    wpAny (model X.prog X.w) X.A (pyIter (.ref d)) (PIE X pins σ tg R) X.xe s := by
  obtain ⟨hs, hgd, hx, es, ep, vs, hdt, hsz, _, _⟩ := I.frzK hd
  refine iter_keys hs hgd hx hdt (pi_one (tk := s.toks) I _ (turn_keys _ hdt) ⟨_, Heap.get?_push_size _ rfl, rfl, ?_⟩ q)
  rw [hsz] <;> rfl
theorem pie_T {pins : List (Addr × Obj)} {σ : L2.St} {H : Hp} {s : Shared} {R : L2.It → Hp → Prop} {d : Addr} {o : Obj} {kvs : List (List Key × V)} (I : L2.Inv X pins σ H s) (hd : H d = some (.frz o (.dT kvs))) (q : R (Itkt d o kvs) H) :
    wpAny (model X.prog X.w) X.A (pyIter (.ref d)) (PIE X pins σ tg R) X.xe s := by
  obtain ⟨hs, hgd, hx, es, ep, hdt, hsz, _⟩ := I.frzT hd
  refine iter_keys hs hgd hx hdt (pi_one (tk := s.toks) I _ (turn_keysT _ hdt) ⟨_, Heap.get?_push_size _ rfl, rfl, ?_⟩ q)
  rw [hsz] <;> rfl
theorem si_keys (ha : PE X a (eEv X.K C E ma)) : PI X tg a (iEv X.K C E fun su s => (ma su s).bind fun u s1 => Rv.of (srcKeys u) s1) := by
  refine ⟨fun pins s σ H R I ⟨g, su, s0, Rr, rs, p⟩ => ?_⟩
  obtain ⟨g0, su0, s2, q1, q2, q3⟩ := eEv_seq (f := fun su u s1 => Rv.of (srcKeys u) s1) Rr rs p
  refine thn (ha.run pins s σ H _ I ⟨g0, su0, s2, q1, q2, q3⟩) fun w s1 ⟨x, H1, I1, rx, g1, m1, u, R1, rs1, ru, e1, p1⟩ => ?_
  obtain ⟨r, er, p2⟩ := p1.of_
  unfold srcKeys at er
  split at er
  · cases er
    cases ru with
    | @dK d ks us vs h1 h2 h3 h4 h5 =>
      have hl := h5.length
      obtain rfl : w = .ref d := rx
      rcases h1 with h1 | ⟨od, h1⟩
      · obtain ⟨od, I2⟩ := I1.lock h1 trivial
        have e2 := Ext.lockd (g := g1) (od := od) h1 trivial h2
        exact pie_K I2 upd_same (Pst.ok_ p2 (R1.lockd h1 trivial h2) e2 (itok_keysK upd_same h2 (by omega) h4))
      · exact pie_K I1 h1 (Pst.ok_ p2 R1 (Ext.refl _ _) (itok_keysK h1 h2 (by omega) h4))
  · split at er
    · rename_i hk
      cases er
      cases ru with
      | @dT d ks us vs h1 h2 h3 h4 h5 =>
        have hl := h5.length
        obtain rfl : w = .ref d := rx
        rcases h1 with h1 | ⟨od, h1⟩
        · obtain ⟨od, I2⟩ := I1.lock h1 trivial
          have e2 := Ext.lockd (g := g1) (od := od) h1 trivial h2
          exact pie_T I2 upd_same (Pst.ok_ p2 (R1.lockd h1 trivial h2) e2 (itok_keysT upd_same h2 (by omega) h4 hk))
        · exact pie_T I1 h1 (Pst.ok_ p2 R1 (Ext.refl _ _) (itok_keysT h1 h2 (by omega) h4 hk))
    · cases er
  · cases er
end
end Pv
set_option autoImplicit false
set_option Elab.async false
set_option linter.all false
set_option maxRecDepth 100000
set_option maxHeartbeats 4000000
namespace Pv
open PySem PySem.Spec PyProof.Rows L2

/-! ### sets of keys (ints, texts): as the kit's sets of ints, with what a walk asks of the table -/
def kyV : Value → Key
  | .int k _ => .inl k
  | .str x _ => .inr x
  | _ => .inl 0
def kyE (e : Int × Value) : Key := kyV e.2
theorem kyV_is {k : Key} {v : Value} (h : keyIs k v = true) : kyV v = k := by
  rcases keyIs_shape h with ⟨i, t, rfl, rfl⟩ | ⟨x, t, rfl, rfl⟩ <;> rfl
def GoodM (w : World) (e : Int × Value) : Prop := ∃ k : Key, keyIs k e.2 = true ∧ e.1 = keyH w k
def SetM (w : World) (h : Heap) (a : Addr) (S : Key → Bool) (n : Nat) : Prop :=
  ∃ o es ep t, (h.get? a = some o ∧ o.ExactSet ∧ o.data = .set es ep t) ∧ (∀ e ∈ es.toList, GoodM w e) ∧ (es.toList.map kyE).Nodup ∧ (∀ k, S k = true ↔ k ∈ es.toList.map kyE) ∧
    es.size < scanBound ∧ t.fits es.size = true ∧ es.size = n ∧ Ris t.place.toList ∧ (w.params.followText "set-order" = true ∨ t.led = true)
section
variable {P : Program} {w : World} {h h' : Heap} {a : Addr} {S : Key → Bool} {n : Nat}
theorem SetM.at (R : SetM w h a S n) (k : ∀ o, h.get? a = some o → h'.get? a = some o) : SetM w h' a S n := by
  obtain ⟨o, es, ep, t, ⟨ho, r1⟩, r⟩ := R
  exact ⟨o, es, ep, t, ⟨k o ho, r1⟩, r⟩
theorem SetM.congr {S' : Key → Bool} (R : SetM w h a S n) (e : ∀ k, S' k = S k) : SetM w h a S' n := (funext e : S' = S) ▸ R
theorem goodM_elems {l : List (Int × Value)} (g : ∀ e ∈ l, GoodM w e) : ElemsOf (mixKind P w) l := fun e he => by
  obtain ⟨k, h1, h2⟩ := g e he
  exact ⟨⟨k, h1, h2⟩, key_scan (relV_key h1)⟩
theorem goodM_is {e : Int × Value} (g : GoodM w e) (k : Key) : (mixKind P w).is k e.2 = true ↔ kyE e = k := by
  obtain ⟨k0, h1, _⟩ := g
  have h2 : kyE e = k0 := kyV_is h1
  constructor
  · intro h3
    exact kyV_is h3
  · intro h3
    rw [← h3, h2]
    exact h1
theorem goodM_mem {l : List (Int × Value)} (g : ∀ e ∈ l, GoodM w e) (k : Key) : k ∈ l.map kyE ↔ ∃ e ∈ l, (mixKind P w).is k e.2 = true := by
  constructor
  · intro h
    obtain ⟨e, he, q⟩ := List.mem_map.mp h
    exact ⟨e, he, (goodM_is (g e he) k).2 q⟩
  · rintro ⟨e, he, q⟩
    exact List.mem_map.mpr ⟨e, he, (goodM_is (g e he) k).1 q⟩
end
section
variable {P : Program} {w : World} {A : Around} {E : Value → Shared → Prop} {s : Shared} {a : Addr} {S : Key → Bool} {n : Nat}
theorem setM_tail {g : Bool → Sem Unit} (hg : ∀ (b : Bool) (s₁ : Shared) (Q' : Unit → Shared → Prop), Q' () s₁ → wpAny (model P w) A (g b) Q' E s₁)
    {o : Obj} {es : Array (Int × Value)} {ep : Nat} {t : SetTable} (ho : s.heap.get? a = some o) (hexa : o.ExactSet) (hd : o.data = .set es ep t)
    {fs1 : Array (Int × Value)} {u2 : SetTable} {S' : Key → Bool} (gd1 : ∀ e ∈ fs1.toList, GoodM w e) (nda : (fs1.toList.map kyE).Nodup) (mm1 : ∀ k, S' k = true ↔ k ∈ fs1.toList.map kyE)
    (hba : fs1.size < scanBound) (hfb : u2.fits fs1.size = true) (hr : Ris u2.place.toList) (hl : w.params.followText "set-order" = true ∨ u2.led = true) {wasD : Bool} {R : Option Bool → Shared → Prop}
    (hR : ∀ h', Heap.SameBut a s.heap h' → SetM w h' a S' fs1.size → R (some true) { s with heap := h' }) :
    wpAny (model P w) A (do
        storeSet a fs1 u2
        if (!wasD && u2.tooFull) = true then do
            g (relayAll u2 fs1 (SetTable.grown fs1.size)).2.2
            storeSet a (relayAll u2 fs1 (SetTable.grown fs1.size)).1 (relayAll u2 fs1 (SetTable.grown fs1.size)).2.1
            pure (some true)
          else pure (some true)) R E s := by
  refine wpAny_bind (wpAny_storeSet_of ho hd ?_ (fits_of_scanBound hba))
  have hoa := store_at (es' := fs1) (t' := u2) ho hd
  have sba := Heap.SameBut.update s.heap a (Obj.putSet fs1 u2)
  split
  · have prm := relayAll_perm u2 fs1 (SetTable.grown fs1.size)
    have hfc := relayAll_fits u2 fs1 (SetTable.grown fs1.size)
    have hrc := relayAll_ris u2 fs1 (SetTable.grown fs1.size)
    have hlc := relayAll_led u2 fs1 (SetTable.grown fs1.size)
    generalize relayAll u2 fs1 (SetTable.grown fs1.size) = Z at prm hfc hrc hlc ⊢
    obtain ⟨fs2, u3, gav⟩ := Z
    dsimp only at prm hfc hrc hlc ⊢
    have hsiz : fs2.size = fs1.size := by rw [← Array.length_toList, prm.length_eq, Array.length_toList]
    have hbb : fs2.size < scanBound := by rw [hsiz]; exact hba
    refine wpAny_bind (hg _ _ _ ?_)
    refine wpAny_bind (wpAny_storeSet_of hoa rfl ?_ (fits_of_scanBound hbb))
    have hob := store_at (es' := fs2) (t' := u3) hoa rfl
    refine wpAny_pure (hR _ (sba.trans (Heap.SameBut.update _ a _)) ?_)
    exact ⟨_, fs2, _, u3, ⟨hob, hexa, rfl⟩, fun e he => gd1 e (prm.mem_iff.mp he), (prm.map kyE).nodup_iff.mpr nda, fun k => (mm1 k).trans (prm.map kyE).mem_iff.symm, hbb, hfc, hsiz, hrc,
      hl.imp id fun z => by rw [hlc]; exact z⟩
  · exact wpAny_pure (hR _ sba ⟨_, fs1, _, u2, ⟨hoa, hexa, rfl⟩, gd1, nda, mm1, hba, hfb, rfl, hr, hl⟩)

theorem setM_hashed {k : Key} {v : Value} {Q : Bool → Shared → Prop} (hkv : keyIs k v = true) (R : SetM w s.heap a S n) (rm : n + 1 < scanBound)
    (hQQ : ∀ h', Heap.SameBut a s.heap h' → SetM w h' a (fun j => S j || decide (j = k)) (if S k = true then n else n + 1) → Q (!S k) { s with heap := h' }) :
    wpAny (model P w) A (setAddHashed a v ((mixKind P w).hash k)) Q E s := by
  obtain ⟨o, es, ep, t, ⟨ho, hexa, hd⟩, g, nd, hm, hb, hf, hn, hr, hl⟩ := R
  have hkey : (mixKind P w).is k v = true := hkv
  have hky : kyV v = k := kyV_is hkv
  have hsc : v.scannable = true := key_scan (relV_key hkv)
  have hels : ElemsOf (mixKind P w) es.toList := goodM_elems g
  unfold setAddHashed setAddHashedIn
  refine wpAny_holding (wpAny_bind (wpAny_setState_of ho hd hf ?_))
  dsimp only
  rw [byScan_of hsc hb hels]
  simp only [↓reduceIte]
  unfold setAddByScan
  refine wpAny_bind ?_
  refine wpAny_bind (wpAny_rule ?_)
  refine wpAny_bind (wpAny_setScan_of hkey ho hd hf hels ?_)
  cases hfd : List.findIdx? (fun e => (mixKind P w).is k e.2) es.toList with
  | some j =>
    dsimp only
    obtain ⟨hj, pj, _⟩ := List.findIdx?_eq_some_iff_getElem.mp hfd
    have hSS : S k = true := (hm k).2 ((goodM_mem (P := P) (w := w) g k).2 ⟨es.toList[j], List.getElem_mem hj, pj⟩)
    refine wpAny_pure (wpAny_pure ?_)
    have q := hQQ s.heap (Heap.SameBut.refl a s.heap) ⟨o, es, ep, t, ⟨ho, hexa, hd⟩, g, nd, fun i => by
      rw [Bool.or_eq_true, decide_eq_true_eq, ← hm i]
      exact ⟨fun z => z.elim id (fun e => e ▸ hSS), .inl⟩, hb, hf, by rw [if_pos hSS]; exact hn, hr, hl⟩
    rw [hSS] at q
    exact q
  | none =>
    dsimp only
    have hno : k ∉ es.toList.map kyE := fun z => by
      obtain ⟨e, he, q⟩ := (goodM_mem (P := P) (w := w) g k).1 z
      have c := List.findIdx?_eq_none_iff.mp hfd e he
      rw [q] at c
      cases c
    have hSS : S k = false := by
      cases q : S k with
      | false => rfl
      | true => exact absurd ((hm k).1 q) hno
    have hgv : ∀ (b : Bool) {s₁ : Shared} {Q' : Unit → Shared → Prop}, Q' () s₁ → wpAny (model P w) A (match b with | true => rule "set.scan.the-table-gave-way" | false => pure ()) Q' E s₁ :=
      fun b s₁ Q' q => by cases b <;> first | exact wpAny_pure q | exact wpAny_rule q
    have prm := layNew_perm t es ((mixKind P w).hash k) v
    have hfa := layNew_fits t es ((mixKind P w).hash k) v
    have hra := layNew_ris t es ((mixKind P w).hash k) v hr
    have hla := layNew_led t es ((mixKind P w).hash k) v
    generalize layNew t es ((mixKind P w).hash k) v = Z at prm hfa hra hla ⊢
    obtain ⟨fs1, u1, wasD, gav⟩ := Z
    dsimp only at prm hfa hra hla ⊢
    rw [Array.toList_push] at prm
    have pcn : fs1.toList.Perm (((mixKind P w).hash k, v) :: es.toList) := prm.trans (List.perm_append_singleton _ _)
    have pkn : (fs1.toList.map kyE).Perm (k :: es.toList.map kyE) := by
      have q := pcn.map kyE
      rwa [List.map_cons, show kyE ((mixKind P w).hash k, v) = k from hky] at q
    have gd1 : ∀ e ∈ fs1.toList, GoodM w e := fun e he => by
      rcases List.mem_cons.mp (pcn.mem_iff.mp he) with z | z
      · rw [z]; exact ⟨k, hkv, rfl⟩
      · exact g e z
    have nda : (fs1.toList.map kyE).Nodup := pkn.nodup_iff.mpr (List.nodup_cons.mpr ⟨hno, nd⟩)
    have mm1 : ∀ i, (S i || decide (i = k)) = true ↔ i ∈ fs1.toList.map kyE := fun i => by
      rw [Bool.or_eq_true, decide_eq_true_eq, hm i, pkn.mem_iff, List.mem_cons]
      exact Or.comm
    have hsiz : fs1.size = n + 1 := by rw [← Array.length_toList, pcn.length_eq, List.length_cons, Array.length_toList, hn]
    have hba : fs1.size < scanBound := by rw [hsiz]; exact rm
    have hld : w.params.followText "set-order" = true ∨ u1.led = true := hl.imp id fun z => by rw [hla]; exact z
    have fend : ∀ h', Heap.SameBut a s.heap h' → SetM w h' a (fun j => S j || decide (j = k)) fs1.size → Q true { s with heap := h' } := fun h' sb r => by
      have q := hQQ h' sb
      rw [hSS] at q
      rw [hsiz] at r
      exact q r
    refine wpAny_bind (hgv _ ?_)
    split
    · refine wpAny_bind ?_
      rw [hashByValue_scannable 8 hsc]
      refine wpAny_pure ?_
      refine setM_tail ?_ ho hexa hd gd1 nda mm1 hba ?_ ?_ ?_ ?_
      · intro b s₁ Q' q; cases b <;> first | exact wpAny_pure q | exact wpAny_rule q
      · first | (split <;> first | exact hfa | exact SetTable.fits_plain_off hfa) | exact hfa
      · first | (split <;> exact hra) | exact hra
      · first | (split <;> exact hld) | exact hld
      · intro h' sb r; dsimp only; exact wpAny_pure (fend h' sb r)
    · refine wpAny_bind (wpAny_pure ?_)
      simp only [↓reduceIte]
      refine setM_tail ?_ ho hexa hd gd1 nda mm1 hba hfa hra hld ?_
      · intro b s₁ Q' q; cases b <;> first | exact wpAny_pure q | exact wpAny_rule q
      · intro h' sb r; dsimp only; exact wpAny_pure (fend h' sb r)


end
def memK (ks : List Key) (j : Key) : Bool := ks.any fun k => decide (k = j)
theorem memK_iff {ks : List Key} {j : Key} : memK ks j = true ↔ j ∈ ks := by
  unfold memK
  rw [List.any_eq_true]
  constructor
  · rintro ⟨k, hk, e⟩
    rw [← of_decide_eq_true e]; exact hk
  · intro h
    exact ⟨j, h, decide_eq_true rfl⟩
end Pv
set_option autoImplicit false
set_option Elab.async false
set_option linter.all false
set_option maxRecDepth 100000
set_option maxHeartbeats 4000000
namespace Pv
open PySem PySem.Spec PyProof.Rows L2
theorem setM_new_at {w : World} {h : Heap} {a : Addr} {ks : List Key} (ho : h.get? a = some { cls := .type "set", dict := none, data := .set #[] 0 (.fresh 0 0 (!w.params.followText "set-order")) }) : SetM w h a (fun j => memK (ks.take 0) j) 0 :=
  ⟨_, #[], 0, _, ⟨ho, ⟨rfl, rfl, rfl⟩, rfl⟩, (fun e he => by simp at he), (by simp), (fun k => by simp [memK]), (by decide), (by rfl), rfl, List.Pairwise.nil, by
    show _ ∨ (!w.params.followText "set-order") = true
    cases w.params.followText "set-order"
    · exact .inr rfl
    · exact .inl rfl⟩
section
variable {P : Program} {w : World} {A : Around} {E : Value → Shared → Prop} {s : Shared}
theorem setM_update {I : Addr} {fp wr : List Addr} {G : Array GenState → Array GenState → Prop} {n : Nat} {Pv : Nat → Value → Prop} {St : Nat → Shared → Prop} {R : Result → Shared → Prop}
    (W : WalksS P w A.in1 I fp wr G n Pv St) (S : Addr) (hSf : S ∉ fp) (ks : List Key) (hn : n = ks.length) (hb : ks.length + 1 < scanBound) (hval : ∀ i v, Pv i v → ∃ k, ks[i]? = some k ∧ keyIs k v = true) :
    ∀ (k i : Nat) (s : Shared), n - i = k → i ≤ n → St i s → (∃ c, c ≤ i ∧ SetM w s.heap S (fun j => memK (ks.take i) j) c) →
      (∀ s' c, Moved (S :: wr) G s s' → c ≤ n → SetM w s'.heap S (fun j => memK (ks) j) c → R (.ok (.ret .none)) s') →
      codeAny (model P w) A (.builtin "set.update.loop" ⟨[.ref S, .ref I], []⟩) R s := by
  have hSw : S ∉ wr := fun h => hSf (W.sub _ h)
  have hsub : ∀ b ∈ wr, b ∈ S :: wr := fun b hb => List.mem_cons_of_mem _ hb
  intro k
  induction k with
  | zero =>
    intro i s hk' hi hst ⟨c, hc, hS⟩ hR
    have hin : i = n := by omega
    subst hin
    refine codeAny_builtin F.entry_set_update_loop ?_
    rw [Around.under_plainId F.plain_set_update_loop _]
    show wpAny _ A.in1 (pyNext (.ref I) >>= _) _ _ s
    refine wpAny_bind (W.done s _ _ hst fun s' hm => ?_)
    show wpAny _ A.in1 (ret Value.none) _ _ s'
    have e : ks.take i = ks := List.take_of_length_le (by omega)
    rw [e] at hS
    exact wpAny_pure (hR s' c (hm.mono hsub) hc (hS.at fun o e => hm.heap S o hSw e))
  | succ k ih =>
    intro i s hk' hi hst ⟨c, hc, hS⟩ hR
    have hlt : i < n := by omega
    refine codeAny_builtin F.entry_set_update_loop ?_
    rw [Around.under_plainId F.plain_set_update_loop _]
    show wpAny _ A.in1 (pyNext (.ref I) >>= _) _ _ s
    refine wpAny_bind (W.item i s _ _ hlt hst fun v s' hP hst' hm => ?_)
    obtain ⟨z, hz, hv⟩ := hval i v hP
    have hS' : SetM w s'.heap S (fun j => memK (ks.take i) j) c := hS.at fun o e => hm.heap S o hSw e
    show wpAny _ A.in1 (holding [v] (setAdd S v) >>= _) _ _ s'
    refine wpAny_bind (wpAny_holding ?_)
    unfold setAdd
    refine wpAny_holding ?_
    refine wpAny_bind ((mixKind P w).pyHash (k := z) hv ?_)
    refine setM_hashed (s := { s' with toks := s'.toks + 1 }) hv hS' (by omega) fun h' hsb hS2 => ?_
    have hS3 : SetM w h' S (fun j => memK (ks.take (i + 1)) j) (if memK (ks.take i) z = true then c else c + 1) := hS2.congr fun j => by
      rw [List.take_add_one, hz, Option.toList_some]
      unfold memK
      rw [List.any_append]
      congr 1
      simp [eq_comm]
    have hc3 : (if memK (ks.take i) z = true then c else c + 1) ≤ i + 1 := by
      split <;> omega
    refine wpAny_pure ⟨plainId_quiet F.plain_set_update_loop _, ih (i + 1) _ (by omega) hlt (W.frame _ s' _ _ hst' (Nat.le_succ _) fun b hb o e => ?_) ⟨_, hc3, hS3⟩ fun s'' c2 hm'' hc'' hS'' => ?_⟩
    · rw [hsb.2 b (fun h : b = S => hSf (by rw [← h]; exact hb))]; exact e
    · refine hR s'' c2 (Moved.trans W.gtrans ((hm.mono hsub).then_heap (Nat.le_succ _) fun b o hb e => ?_) hm'') hc'' hS''
      rw [hsb.2 b (fun h : b = S => hb (by rw [h]; exact List.mem_cons_self))]; exact e


set_option maxRecDepth 100000 in
set_option maxHeartbeats 6400000 in
theorem setM_ofT {l : Addr} {items : Array Value} (ks : List Key) {Q : Value → Shared → Prop} (hh : A.handled = none) (hl : s.heap.IsTuple l items) (hit : Vals (ks.map kV) items.toList) (hb : ks.length + 1 < scanBound)
    (h : ∀ (h' : Heap) (tk c : Nat), SetM w h' s.heap.objs.size (fun j => memK (ks) j) c → c ≤ ks.length → (∀ b o, s.heap.get? b = some o → h'.get? b = some o) → Q (.ref s.heap.objs.size) { s with heap := h', toks := tk }) :
    wpAny (model P w) A (call (.type "set") [.ref l]) Q E s := by
  have hisz : items.size = ks.length := by
    have q : (ks.map kV).length = items.toList.length := Paired.length hit
    rw [List.length_map] at q
    rw [← Array.length_toList, ← q]
  obtain ⟨c, tl, qr⟩ := F.called_set.mro
  have qm := F.called_set.made
  have qs := F.called_set.sub
  refine wpAny_call (codeAny_of_tree ?_)
  show wpAny _ _ (callAny (.type "set") _) _ _ _
  refine wpAny_pure ⟨Code.quiet_builtin _ (by decide +kernel), codeAny_builtin F.entry_type_call ?_⟩
  rw [Around.under_plain (weight_type_call_type "set" [.ref l] []) rfl]
  have q1 := F.called_set.notType
  have q2 := F.called_set.canCreate
  have q3 := F.typeCall_set_1 (.ref l)
  repeat (any_goals (first | assumption | wp_step))

  refine codeAny_mono (code_set_led1 (.ref l) (E := E) (Q₁ := fun obj s₁ => obj = .ref s.heap.objs.size ∧ s₁ = { s with heap := s.heap.push { cls := .type "set", dict := none, data := .set #[] 0 (.fresh 0 0 (!w.params.followText "set-order")) } }) ⟨rfl, rfl⟩) fun r s₁ hr => ?_
  cases r with
  | error e => exact hr
  | ok fl =>
    cases fl with
    | ret obj =>
      obtain ⟨rfl, rfl⟩ := hr
      have hSet : (s.heap.push { cls := .type "set", dict := none, data := .set #[] 0 (.fresh 0 0 (!w.params.followText "set-order")) }).get? s.heap.objs.size = some { cls := .type "set", dict := none, data := .set #[] 0 (.fresh 0 0 (!w.params.followText "set-order")) } := Heap.get?_push_size _ rfl
      have hTy : Shared.TypeIs { s with heap := s.heap.push { cls := .type "set", dict := none, data := .set #[] 0 (.fresh 0 0 (!w.params.followText "set-order")) } } (.ref s.heap.objs.size) "set" := ⟨_, hSet, rfl⟩
      have hlk := F.called_set.init.lookup
      have hbn := F.called_set.init.bind (.ref s.heap.objs.size)
      repeat (any_goals (first | assumption | wp_step))

      refine codeAny_mono (codeAny_call_builtin (R := wants (fun r s₂ => r = .none ∧ ∃ h' tk c, s₂ = { s with heap := h', toks := tk } ∧ SetM w h' s.heap.objs.size (fun j => memK (ks) j) c ∧ c ≤ ks.length ∧
          (∀ b o, s.heap.get? b = some o → h'.get? b = some o)) E) F.called_set.init.plain F.entry_set_init (check_set_init_1 hTy ?_)) fun r₂ s₂ hr₂ => ?_
      · obtain ⟨obl, hobl, hcls, nn, hdat⟩ := hl
        obtain ⟨ocls, odict, odata, oslots⟩ := obl
        simp only at hcls hdat
        subst hcls; subst hdat
        have hobl' : (s.heap.push { cls := .type "set", dict := none, data := .set #[] 0 (.fresh 0 0 (!w.params.followText "set-order")) }).get? l = some { cls := .type "tuple", dict := odict, data := .seq items nn, slots := oslots } := Heap.get?_push_of_some _ hobl
        have hsA := F.sub_tuple_set
        have hsB := F.sub_tuple_frozenset
        have hnD : (Value.type "tuple" == Value.type "dict") = false := by decide
        have hrow : (s.heap.push { cls := .type "set", dict := none, data := .set #[] 0 (.fresh 0 0 (!w.params.followText "set-order")) }).IsTuple l items := ⟨_, hobl', rfl, nn, rfl⟩
        unfold Builtin.«set.__init__» noKeywords Builtin.Frozenset.updateFrom
        generalize hPit : pyIter = Pit
        wp_walk
        subst hPit

        refine wpAny_pyIter_tuple hrow ?_
        refine wpAny_bind (wpAny_runValue ?_)
        have hlow : l < s.heap.objs.size := Heap.lt_size hobl
        have hhd : A.in1.in1.in1.handled = none := by simp [hh]
        have hzz : (s.heap.push { cls := .type "set", dict := none, data := .set #[] 0 (.fresh 0 0 (!w.params.followText "set-order")) }).objs.size = s.heap.objs.size + 1 := Heap.size_push ..
        have hnI : l ≠ (s.heap.push { cls := .type "set", dict := none, data := .set #[] 0 (.fresh 0 0 (!w.params.followText "set-order")) }).objs.size := by
          rw [Heap.size_push]; exact Nat.ne_of_lt (Nat.lt_succ_of_lt hlow)
        have hSn : s.heap.objs.size ∉ [(s.heap.push { cls := .type "set", dict := none, data := .set #[] 0 (.fresh 0 0 (!w.params.followText "set-order")) }).objs.size, l] := by
          rw [Heap.size_push]; simp only [List.mem_cons, List.mem_singleton, List.not_mem_nil, or_false, not_or]
          exact ⟨Nat.ne_of_lt (Nat.lt_succ_self _), Nat.ne_of_gt hlow⟩
        have hval : ∀ (i : Nat) (v : Value), items[i]? = some v → ∃ k, ks[i]? = some k ∧ keyIs k v = true := fun i v hv => by
          have hi : i < ks.length := by rw [← hisz]; exact (Array.getElem?_eq_some_iff.mp hv).1
          obtain ⟨v', e, rx⟩ := Vals.get (i := i) (x := kV ks[i]) hit (by rw [List.getElem?_map, List.getElem?_eq_getElem hi]; rfl)
          rw [Array.getElem?_toList, hv] at e
          cases e
          exact ⟨ks[i], List.getElem?_eq_getElem hi, kV_is (P := P) (w := w) rx⟩
        refine setM_update ((Walks.tuple hhd _ l hnI items).toS) s.heap.objs.size
          hSn ks hisz hb hval (items.size - 0) 0 _ (by omega) (Nat.zero_le _)
          ⟨⟨_, Heap.get?_push_size _ rfl, rfl, rfl⟩, (hrow.push _)⟩ ?hS0 ?hR
        case hS0 =>
          have hgt : ((s.heap.push { cls := .type "set", dict := none, data := .set #[] 0 (.fresh 0 0 (!w.params.followText "set-order")) }).push { cls := .type "tuple_iterator", data := .fields #[.ref l, .int 0 0] }).get? s.heap.objs.size
              = some { cls := .type "set", dict := none, data := .set #[] 0 (.fresh 0 0 (!w.params.followText "set-order")) } := Heap.get?_push_of_some _ hSet
          exact ⟨0, Nat.le_refl 0, setM_new_at hgt⟩
        case hR =>
          intro s' c' hm hc' hS'
          obtain ⟨h', g2, d', tk', os'⟩ := s'
          have eg : g2 = s.gens := hm.gens
          have ed : d' = s.drawn := hm.drawn
          have eo : os' = s.os := hm.os
          subst eg; subst ed; subst eo
          show wpAny _ _ _ _ _ _
          refine wpAny_pure ?_
          show wpAny _ _ (ret Value.none) _ _ _
          rw [hisz] at hc'
          refine wpAny_pure ⟨rfl, h', tk', c', rfl, hS', hc', fun b o e => ?_⟩
          have b0 : b < s.heap.objs.size := Heap.lt_size e
          have b1 : b ≠ s.heap.objs.size := Nat.ne_of_lt b0
          have b2 : b ≠ (s.heap.push { cls := .type "set", dict := none, data := .set #[] 0 (.fresh 0 0 (!w.params.followText "set-order")) }).objs.size := by
            rw [Heap.size_push]; exact Nat.ne_of_lt (Nat.lt_succ_of_lt b0)
          exact hm.heap b o (by simp only [List.mem_cons, List.mem_singleton, List.not_mem_nil, or_false, not_or]; exact ⟨b1, b2⟩) (Heap.get?_push_of_some _ (Heap.get?_push_of_some _ e))

      · cases r₂ with
        | error e => exact hr₂
        | ok fl₂ =>
          cases fl₂ with
          | ret r =>
            obtain ⟨rfl, h', tk, c', rfl, hS', hc', hk'⟩ := hr₂
            repeat (any_goals (first | assumption | wp_step))
            exact h _ _ _ hS' hc' hk'
          | _ => exact hr₂.elim
    | _ => exact hr.elim
set_option maxRecDepth 100000 in
set_option maxHeartbeats 6400000 in
theorem setM_ofL {l : Addr} {items : Array Value} (ks : List Key) {Q : Value → Shared → Prop} (hh : A.handled = none) (hl : s.heap.IsList l items) (hit : Vals (ks.map kV) items.toList) (hb : ks.length + 1 < scanBound)
    (h : ∀ (h' : Heap) (tk c : Nat), SetM w h' s.heap.objs.size (fun j => memK (ks) j) c → c ≤ ks.length → (∀ b o, s.heap.get? b = some o → h'.get? b = some o) → Q (.ref s.heap.objs.size) { s with heap := h', toks := tk }) :
    wpAny (model P w) A (call (.type "set") [.ref l]) Q E s := by
  have hisz : items.size = ks.length := by
    have q : (ks.map kV).length = items.toList.length := Paired.length hit
    rw [List.length_map] at q
    rw [← Array.length_toList, ← q]
  obtain ⟨c, tl, qr⟩ := F.called_set.mro
  have qm := F.called_set.made
  have qs := F.called_set.sub
  refine wpAny_call (codeAny_of_tree ?_)
  show wpAny _ _ (callAny (.type "set") _) _ _ _
  refine wpAny_pure ⟨Code.quiet_builtin _ (by decide +kernel), codeAny_builtin F.entry_type_call ?_⟩
  rw [Around.under_plain (weight_type_call_type "set" [.ref l] []) rfl]
  have q1 := F.called_set.notType
  have q2 := F.called_set.canCreate
  have q3 := F.typeCall_set_1 (.ref l)
  repeat (any_goals (first | assumption | wp_step))

  refine codeAny_mono (code_set_led1 (.ref l) (E := E) (Q₁ := fun obj s₁ => obj = .ref s.heap.objs.size ∧ s₁ = { s with heap := s.heap.push { cls := .type "set", dict := none, data := .set #[] 0 (.fresh 0 0 (!w.params.followText "set-order")) } }) ⟨rfl, rfl⟩) fun r s₁ hr => ?_
  cases r with
  | error e => exact hr
  | ok fl =>
    cases fl with
    | ret obj =>
      obtain ⟨rfl, rfl⟩ := hr
      have hSet : (s.heap.push { cls := .type "set", dict := none, data := .set #[] 0 (.fresh 0 0 (!w.params.followText "set-order")) }).get? s.heap.objs.size = some { cls := .type "set", dict := none, data := .set #[] 0 (.fresh 0 0 (!w.params.followText "set-order")) } := Heap.get?_push_size _ rfl
      have hTy : Shared.TypeIs { s with heap := s.heap.push { cls := .type "set", dict := none, data := .set #[] 0 (.fresh 0 0 (!w.params.followText "set-order")) } } (.ref s.heap.objs.size) "set" := ⟨_, hSet, rfl⟩
      have hlk := F.called_set.init.lookup
      have hbn := F.called_set.init.bind (.ref s.heap.objs.size)
      repeat (any_goals (first | assumption | wp_step))

      refine codeAny_mono (codeAny_call_builtin (R := wants (fun r s₂ => r = .none ∧ ∃ h' tk c, s₂ = { s with heap := h', toks := tk } ∧ SetM w h' s.heap.objs.size (fun j => memK (ks) j) c ∧ c ≤ ks.length ∧
          (∀ b o, s.heap.get? b = some o → h'.get? b = some o)) E) F.called_set.init.plain F.entry_set_init (check_set_init_1 hTy ?_)) fun r₂ s₂ hr₂ => ?_
      · obtain ⟨obl, hobl, hcls, nn, hdat⟩ := hl
        obtain ⟨ocls, odict, odata, oslots⟩ := obl
        simp only at hcls hdat
        subst hcls; subst hdat
        have hobl' : (s.heap.push { cls := .type "set", dict := none, data := .set #[] 0 (.fresh 0 0 (!w.params.followText "set-order")) }).get? l = some { cls := .type "list", dict := odict, data := .seq items nn, slots := oslots } := Heap.get?_push_of_some _ hobl
        have hsA := F.sub_list_set
        have hsB := F.sub_list_frozenset
        have hnD : (Value.type "list" == Value.type "dict") = false := by decide
        have hrow : (s.heap.push { cls := .type "set", dict := none, data := .set #[] 0 (.fresh 0 0 (!w.params.followText "set-order")) }).IsList l items := ⟨_, hobl', rfl, nn, rfl⟩
        unfold Builtin.«set.__init__» noKeywords Builtin.Frozenset.updateFrom
        generalize hPit : pyIter = Pit
        wp_walk
        subst hPit

        refine wpAny_pyIter_list hrow ?_
        refine wpAny_bind (wpAny_runValue ?_)
        have hlow : l < s.heap.objs.size := Heap.lt_size hobl
        have hhd : A.in1.in1.in1.handled = none := by simp [hh]
        have hzz : (s.heap.push { cls := .type "set", dict := none, data := .set #[] 0 (.fresh 0 0 (!w.params.followText "set-order")) }).objs.size = s.heap.objs.size + 1 := Heap.size_push ..
        have hnI : l ≠ (s.heap.push { cls := .type "set", dict := none, data := .set #[] 0 (.fresh 0 0 (!w.params.followText "set-order")) }).objs.size := by
          rw [Heap.size_push]; exact Nat.ne_of_lt (Nat.lt_succ_of_lt hlow)
        have hSn : s.heap.objs.size ∉ [(s.heap.push { cls := .type "set", dict := none, data := .set #[] 0 (.fresh 0 0 (!w.params.followText "set-order")) }).objs.size, l] := by
          rw [Heap.size_push]; simp only [List.mem_cons, List.mem_singleton, List.not_mem_nil, or_false, not_or]
          exact ⟨Nat.ne_of_lt (Nat.lt_succ_self _), Nat.ne_of_gt hlow⟩
        have hval : ∀ (i : Nat) (v : Value), items[i]? = some v → ∃ k, ks[i]? = some k ∧ keyIs k v = true := fun i v hv => by
          have hi : i < ks.length := by rw [← hisz]; exact (Array.getElem?_eq_some_iff.mp hv).1
          obtain ⟨v', e, rx⟩ := Vals.get (i := i) (x := kV ks[i]) hit (by rw [List.getElem?_map, List.getElem?_eq_getElem hi]; rfl)
          rw [Array.getElem?_toList, hv] at e
          cases e
          exact ⟨ks[i], List.getElem?_eq_getElem hi, kV_is (P := P) (w := w) rx⟩
        refine setM_update ((Walks.list hhd _ l hnI items).toS) s.heap.objs.size
          hSn ks hisz hb hval (items.size - 0) 0 _ (by omega) (Nat.zero_le _)
          ⟨⟨_, Heap.get?_push_size _ rfl, rfl, rfl⟩, (hrow.push _)⟩ ?hS0 ?hR
        case hS0 =>
          have hgt : ((s.heap.push { cls := .type "set", dict := none, data := .set #[] 0 (.fresh 0 0 (!w.params.followText "set-order")) }).push { cls := .type "list_iterator", data := .fields #[.ref l, .int 0 0] }).get? s.heap.objs.size
              = some { cls := .type "set", dict := none, data := .set #[] 0 (.fresh 0 0 (!w.params.followText "set-order")) } := Heap.get?_push_of_some _ hSet
          exact ⟨0, Nat.le_refl 0, setM_new_at hgt⟩
        case hR =>
          intro s' c' hm hc' hS'
          obtain ⟨h', g2, d', tk', os'⟩ := s'
          have eg : g2 = s.gens := hm.gens
          have ed : d' = s.drawn := hm.drawn
          have eo : os' = s.os := hm.os
          subst eg; subst ed; subst eo
          show wpAny _ _ _ _ _ _
          refine wpAny_pure ?_
          show wpAny _ _ (ret Value.none) _ _ _
          rw [hisz] at hc'
          refine wpAny_pure ⟨rfl, h', tk', c', rfl, hS', hc', fun b o e => ?_⟩
          have b0 : b < s.heap.objs.size := Heap.lt_size e
          have b1 : b ≠ s.heap.objs.size := Nat.ne_of_lt b0
          have b2 : b ≠ (s.heap.push { cls := .type "set", dict := none, data := .set #[] 0 (.fresh 0 0 (!w.params.followText "set-order")) }).objs.size := by
            rw [Heap.size_push]; exact Nat.ne_of_lt (Nat.lt_succ_of_lt b0)
          exact hm.heap b o (by simp only [List.mem_cons, List.mem_singleton, List.not_mem_nil, or_false, not_or]; exact ⟨b1, b2⟩) (Heap.get?_push_of_some _ (Heap.get?_push_of_some _ e))

      · cases r₂ with
        | error e => exact hr₂
        | ok fl₂ =>
          cases fl₂ with
          | ret r =>
            obtain ⟨rfl, h', tk, c', rfl, hS', hc', hk'⟩ := hr₂
            repeat (any_goals (first | assumption | wp_step))
            exact h _ _ _ hS' hc' hk'
          | _ => exact hr₂.elim
    | _ => exact hr.elim
end
end Pv
set_option autoImplicit false
set_option Elab.async false
set_option linter.all false
set_option maxRecDepth 100000
set_option maxHeartbeats 1000000
namespace Pv
open PySem PySem.Spec PyProof.Rows L2
/-! ### the order of keys -/
theorem keysOf_map : ∀ {xs : List U} {ks : List Key}, keysOf xs = some ks → xs = ks.map uKey
  | [], ks, h => by simp only [keysOf] at h; cases h; rfl
  | x :: xs, ks, h => by
    simp only [keysOf] at h
    split at h
    · rename_i k ks' e1 e2
      cases h
      rw [keysOf_map e2, List.map_cons]
      congr 1
      cases x <;> simp only [keyOf] at e1 <;> first | (cases e1; rfl) | cases e1
    · cases h
theorem le_ii (a b : Int) : leU (uKey (.inl a)) (uKey (.inl b)) = decide (a ≤ b) := by
  have : ltD (.int b) (.int a) = decide (b < a) := by simp [ltD, toks, ltTok, itLt]
  show (!ltD (.int b) (.int a)) = _
  rw [this]
  by_cases h : b < a
  · rw [decide_eq_true h, decide_eq_false (by omega)]; rfl
  · rw [decide_eq_false h, decide_eq_true (by omega)]; rfl
theorem le_ss (x y : Str) : leU (uKey (.inr x)) (uKey (.inr y)) = decide (x.cps.toList ≤ y.cps.toList) := by
  have : ltD (.str y) (.str x) = decide (y.cps.toList < x.cps.toList) := by simp [ltD, toks, ltTok, itLt]
  show (!ltD (.str y) (.str x)) = _
  rw [this]
  by_cases h : y.cps.toList < x.cps.toList
  · rw [decide_eq_true h, decide_eq_false (fun g => absurd h (List.not_lt.mpr g))]; rfl
  · rw [decide_eq_false h, decide_eq_true (List.not_lt.mp h)]; rfl
theorem le_is (a : Int) (y : Str) : leU (uKey (.inl a)) (uKey (.inr y)) = true := by
  have : ltD (.str y) (.int a) = false := by simp [ltD, toks, ltTok, itLt]
  show (!ltD (.str y) (.int a)) = _
  rw [this]; rfl
theorem le_si (x : Str) (b : Int) : leU (uKey (.inr x)) (uKey (.inl b)) = false := by
  have : ltD (.int b) (.str x) = true := by simp [ltD, toks, ltTok, itLt]
  show (!ltD (.int b) (.str x)) = _
  rw [this]; rfl
theorem leK_trans (a b c : Key) (h1 : leU (uKey a) (uKey b) = true) (h2 : leU (uKey b) (uKey c) = true) : leU (uKey a) (uKey c) = true := by
  cases a with
  | inl i =>
    cases c with
    | inr z => exact le_is i z
    | inl k =>
      cases b with
      | inr y => rw [le_si] at h2; cases h2
      | inl j =>
        rw [le_ii] at h1 h2 ⊢
        simp only [decide_eq_true_eq] at h1 h2 ⊢
        omega
  | inr x =>
    cases b with
    | inl j => rw [le_si] at h1; cases h1
    | inr y =>
      cases c with
      | inl k => rw [le_si] at h2; cases h2
      | inr z =>
        rw [le_ss] at h1 h2 ⊢
        simp only [decide_eq_true_eq] at h1 h2 ⊢
        exact List.le_trans h1 h2
theorem leK_total (a b : Key) : leU (uKey a) (uKey b) = true ∨ leU (uKey b) (uKey a) = true := by
  cases a with
  | inl i =>
    cases b with
    | inl j =>
      rw [le_ii, le_ii]
      simp only [decide_eq_true_eq]
      omega
    | inr y => exact .inl (le_is i y)
  | inr x =>
    cases b with
    | inl j => exact .inr (le_is j x)
    | inr y =>
      rw [le_ss, le_ss]
      simp only [decide_eq_true_eq]
      exact List.le_total _ _
theorem leK_anti (a b : Key) (h1 : leU (uKey a) (uKey b) = true) (h2 : leU (uKey b) (uKey a) = true) : uKey a = uKey b := by
  cases a with
  | inl i =>
    cases b with
    | inl j =>
      rw [le_ii] at h1 h2
      simp only [decide_eq_true_eq] at h1 h2
      have : i = j := by omega
      rw [this]
    | inr y => rw [le_si] at h2; cases h2
  | inr x =>
    cases b with
    | inl j => rw [le_si] at h1; cases h1
    | inr y =>
      rw [le_ss] at h1 h2
      simp only [decide_eq_true_eq] at h1 h2
      have e : x.cps.toList = y.cps.toList := List.le_antisymm h1 h2
      have e2 : x.cps = y.cps := Array.toList_inj.mp e
      cases x; cases y
      simp only at e2
      rw [e2]
theorem sort_perm {a b : List Key} (p : a.Perm b) : sortU (a.map uKey) = sortU (b.map uKey) := by
  have hs : ∀ l : List Key, (sortU (l.map uKey)).Pairwise (fun x y => leU x y = true) ∧ ∀ x ∈ sortU (l.map uKey), ∃ k, x = uKey k := fun l => by
    have e : sortU (l.map uKey) = (l.mergeSort fun x y => leU (uKey x) (uKey y)).map uKey := by
      unfold sortU
      exact (List.map_mergeSort (f := uKey) (r := fun x y => leU (uKey x) (uKey y)) (s := leU) fun a _ b _ => rfl).symm
    rw [e]
    refine ⟨List.pairwise_map.mpr (List.pairwise_mergeSort (fun a b c => leK_trans a b c) (fun a b => by rw [Bool.or_eq_true]; exact leK_total a b) l), fun x hx => ?_⟩
    obtain ⟨k, _, rfl⟩ := List.mem_map.mp hx
    exact ⟨k, rfl⟩
  obtain ⟨a1, a2⟩ := hs a
  obtain ⟨b1, b2⟩ := hs b
  refine List.Perm.eq_of_pairwise (le := fun x y => leU x y = true) (fun x y hx hy h1 h2 => ?_) a1 b1 (((List.mergeSort_perm _ _).trans (p.map uKey)).trans (List.mergeSort_perm _ _).symm)
  obtain ⟨i, rfl⟩ := a2 x hx
  obtain ⟨j, rfl⟩ := b2 y hy
  exact leK_anti i j h1 h2
theorem dedup_mem : ∀ {xs : List U} {u : U}, u ∈ dedup xs ↔ u ∈ xs
  | [], u => by simp [dedup]
  | x :: xs, u => by
    simp only [dedup, List.mem_cons, List.mem_filter, dedup_mem (xs := xs), Bool.not_eq_true', decide_eq_false_iff_not]
    constructor
    · rintro (h | ⟨h, _⟩)
      · exact .inl h
      · exact .inr h
    · rintro (h | h)
      · exact .inl h
      · by_cases e : u = x
        · exact .inl e
        · exact .inr ⟨h, e⟩
theorem dedup_nodup : ∀ xs : List U, (dedup xs).Nodup
  | [] => .nil
  | x :: xs => by
    simp only [dedup]
    rw [List.nodup_cons]
    refine ⟨fun h => ?_, (dedup_nodup xs).filter _⟩
    have := (List.mem_filter.mp h).2
    simp at this
theorem uKey_inj {a b : Key} (h : uKey a = uKey b) : a = b := by
  cases a <;> cases b <;> simp [uKey] at h <;> first | (rw [h]) | (cases h)
theorem dedup_key {ks ls : List Key} (nd : ls.Nodup) (h : ∀ k, k ∈ ls ↔ k ∈ ks) : (ls.map uKey).Perm (dedup (ks.map uKey)) := by
  have n1 : (ls.map uKey).Nodup := by
    rw [List.nodup_iff_pairwise_ne, List.pairwise_map]
    exact (List.nodup_iff_pairwise_ne.mp nd).imp fun hne e => hne (uKey_inj e)
  rw [List.perm_ext_iff_of_nodup n1 (dedup_nodup _)]
  intro u
  rw [dedup_mem, List.mem_map, List.mem_map]
  constructor
  · rintro ⟨k, hk, e⟩; exact ⟨k, (h k).mp hk, e⟩
  · rintro ⟨k, hk, e⟩; exact ⟨k, (h k).mpr hk, e⟩
def kyU : U → Key
  | .int i => .inl i
  | .str x => .inr x
  | _ => .inl 0
theorem kyU_uKey : kyU ∘ uKey = id := funext fun k => by cases k <;> rfl
theorem dedup_len : ∀ xs : List U, (dedup xs).length ≤ xs.length
  | [] => Nat.le_refl _
  | x :: xs => by
    simp only [dedup, List.length_cons]
    have h1 := List.length_filter_le (fun y => !decide (y = x)) (dedup xs)
    have h2 := dedup_len xs
    omega
theorem plains_all {xs : List U} : plains xs = true ↔ ∀ x ∈ xs, plain x = true := by
  induction xs with
  | nil => simp [plains]
  | cons x xs ih => simp [plains, ih]
theorem deps_all {xs : List U} {n : Nat} : deps xs ≤ n ↔ ∀ x ∈ xs, dep x ≤ n := by
  induction xs with
  | nil => simp [deps]
  | cons x xs ih =>
    simp only [deps, List.mem_cons, forall_eq_or_imp, ← ih]
    exact Nat.max_le
theorem sortable_sub {xs ys : List U} (h : sortable xs = true) (sub : ∀ u ∈ ys, u ∈ xs) (hl : ys.length ≤ xs.length) : sortable ys = true := by
  unfold sortable at h ⊢
  unfold dats at h ⊢
  simp only [Bool.and_eq_true, decide_eq_true_eq, Bool.or_eq_true, List.all_eq_true] at h ⊢
  obtain ⟨⟨⟨⟨h1, h2⟩, h3⟩, h4⟩, h5⟩ := h
  refine ⟨⟨⟨⟨plains_all.mpr fun x hx => plains_all.mp h1 x (sub x hx), deps_all.mpr fun x hx => deps_all.mp h2 x (sub x hx)⟩, fun x hx y hy => h3 x (sub x hx) y (sub y hy)⟩, by omega⟩, ?_⟩
  exact h5.imp (fun q x hx => q x (sub x hx)) fun q x hx => q x (sub x hx)
/-! ### the set -/
def SetH (w : World) (a : Addr) (S : Key → Bool) (n : Nat) : HO := .ext fun h => SetM w h a S n
section
variable {X : Cx} {C : Nat → Addr} {W : Value → Hp → Prop}
theorem setH_new {w : World} {P : Program} {H : Hp} {h : Heap} {a : Addr} {S : Key → Bool} {n : Nat} (R : SetM w h a S n) : ObjOk P w H h a (SetH w a S n) := by
  have ⟨o, _, _, _, ⟨ho, _⟩, _⟩ := R
  exact ⟨R, ⟨o, ho⟩, fun h1 h2 p k => SetM.at p k⟩
theorem setH_get {pins : List (Addr × Obj)} {σ : L2.St} {H : Hp} {s : Shared} {a : Addr} {S : Key → Bool} {n : Nat} (I : L2.Inv X pins σ H s) (ha : H a = some (SetH X.w a S n)) : SetM X.w s.heap a S n := (I.hok a _ ha).1
/-- set(xs), xs a list or a tuple of keys -/
def rSetK (K : PySem.W.Frag) (w : World) : List V → Hp → VK → Prop := fun xs H Q => ∃ (a : Addr) (ks : List Key), xs = [V.ref a] ∧ (SqL K H a (ks.map kV) ∨ SqT K H a (ks.map kV)) ∧ ks.length < 64 ∧
  ∀ (p : Addr) (c : Nat), c ≤ ks.length → H p = none → Q (.ref p) (upd H p (SetH w p (memK ks) c))
theorem cr_setK (hc : X.calm = true) : CallR X (.type "set") (rSetK X.K X.w) := by
  intro pins σt σ H xs us Q I r h
  obtain ⟨a, ks, rfl, hq, hl, q⟩ := h
  obtain ⟨u1, rfl, ru⟩ := vals1 r
  cases ru
  have hb : ks.length + 1 < scanBound := by unfold scanBound; omega
  have go : ∀ (h' : Heap) (tk c : Nat), SetM X.w h' σt.heap.objs.size (fun j => memK ks j) c → c ≤ ks.length → (∀ b o, σt.heap.get? b = some o → h'.get? b = some o) → EP X pins σ Q (.ref σt.heap.objs.size) { σt with heap := h', toks := tk } := fun h' tk c R hcl keep => by
    have hn : H σt.heap.objs.size = none := I.hok.fresh (Nat.le_refl _)
    exact ⟨.ref _, upd H σt.heap.objs.size (SetH X.w σt.heap.objs.size (memK ks) c), I.laid (t' := tk) keep (Nat.le_refl _) (setH_new R), rfl, q _ c hcl hn⟩
  rcases hq with hq | hq
  · obtain ⟨its, rv, ht, hz⟩ := I.list hq
    exact setM_ofL ks (I.ok.hd hc) ht.isList (by simpa using rv) hb go
  · obtain ⟨its, rv, ht, hz⟩ := I.tuple hq
    exact setM_ofT ks (I.ok.hd hc) ht (by simpa using rv) hb go
/-- sorted of it -/
def rSortK (K : PySem.W.Frag) (C : Nat → Addr) (w : World) (W : Value → Hp → Prop) (m : Bool) : List V → Hp → VK → Prop := fun xs H Q => ∃ (g : Gh) (s : MS) (a : Addr) (ks : List Key) (n : Nat), RS K C g s H ∧ xs = [V.ref a] ∧ H a = some (SetH w a (memK ks) n) ∧ sortable (ks.map uKey) = true ∧
  Pst K C (RelU K) W g H (mkL m (sortU (dedup (ks.map uKey))) s) Q
theorem kyE_vals {w : World} : ∀ {out : List Value}, (∀ v ∈ out, ∃ k, keyIs k v = true) → Vals ((out.map kyV).map kV) out
  | [], _ => .nil
  | v :: out, h => by
    obtain ⟨k, hk⟩ := h v (List.mem_cons_self ..)
    refine .cons ?_ (kyE_vals (w := w) fun u hu => h u (List.mem_cons_of_mem _ hu))
    rw [kyV_is hk]
    exact relV_key hk
theorem cr_sortK (hc : X.calm = true) (hu : X.A.units + 110 < cLine) {m : Bool} : CallR X (.builtin "sorted") (rSortK X.K C X.w W m) := by
  intro pins σt σ H xs us Q I r h
  obtain ⟨g, s, a, ks, n, R, rfl, ha, hso, p⟩ := h
  obtain ⟨u1, rfl, ru⟩ := vals1 r
  cases ru
  obtain ⟨o, es, ep, t, ⟨ho, hex, hd⟩, gd, nd, hm, hb, hf, hn, hr, hl⟩ := setH_get I ha
  refine Calls.call_function_entry PyProof.Rows.kind_sorted PyProof.Rows.plain_sorted PyProof.Rows.entry_sorted (PyProof.Rows.args_sorted1 _) ?_
  unfold Builtin.«sorted»
  refine wpAny_bind (m := checkCount "sorted" 1 1 _) (wpAny_pure ?_)
  refine wpAny_bind (collect_set (A := X.A.in1) (I.ok.hd hc) ⟨o, ho, hex.1, hd⟩ hf hb hr hl fun s1 out k1 hz g1 o1 pm => ?_)
  have I' : L2.Inv X pins σ H s1 := I.call' (ch := []) o1 (Un.kept k1) (I.hok.kept k1) (by rw [g1]; exact I.bare) (fun _ z => nomatch z)
  have hk : ∀ v ∈ out, ∃ k, keyIs k v = true := fun v hv => by
    obtain ⟨e, he, q⟩ := List.mem_map.mp (pm.mem_iff.mp hv)
    obtain ⟨k, h1, _⟩ := gd e he
    exact ⟨k, by rw [← q]; exact h1⟩
  have pk : (out.map kyV).Perm (es.toList.map kyE) := by
    have q := pm.map kyV
    rwa [List.map_map] at q
  have pd : ((out.map kyV).map uKey).Perm (dedup (ks.map uKey)) := dedup_key (pk.nodup_iff.mpr nd) fun k => by rw [pk.mem_iff, ← hm k, memK_iff]
  obtain ⟨ds, hds⟩ : ∃ ds : List Key, dedup (ks.map uKey) = ds.map uKey := by
    have : ∀ l : List U, (∀ u ∈ l, ∃ k, u = uKey k) → ∃ ds : List Key, l = ds.map uKey := by
      intro l
      induction l with
      | nil => intro _; exact ⟨[], rfl⟩
      | cons x l ih =>
        intro h
        obtain ⟨k, e⟩ := h x (List.mem_cons_self ..)
        obtain ⟨ds, e2⟩ := ih fun u hu => h u (List.mem_cons_of_mem _ hu)
        exact ⟨k :: ds, by rw [e, e2]; rfl⟩
    refine this _ fun u hu => ?_
    obtain ⟨k, _, e⟩ := List.mem_map.mp (dedup_mem.mp hu)
    exact ⟨k, e.symm⟩
  have eso : sortU ((out.map kyV).map uKey) = sortU (dedup (ks.map uKey)) := by
    rw [hds] at pd ⊢
    refine sort_perm ?_
    have := pd.map kyU
    have e1 : ∀ l : List Key, (l.map uKey).map kyU = l := fun l => by rw [List.map_map, kyU_uKey, List.map_id]
    rwa [e1, e1] at this
  have hs2 : sortable ((out.map kyV).map uKey) = true := by
    have sub : ∀ u ∈ (out.map kyV).map uKey, u ∈ ks.map uKey := fun u hu => dedup_mem.mp (pd.mem_iff.mp hu)
    refine sortable_sub hso sub ?_
    have l1 := pd.length_eq
    have l2 := dedup_len (ks.map uKey)
    omega
  rw [← eso] at p
  have hu' : X.A.in1.units + 100 < cLine := by
    have : X.A.in1.units = X.A.units + 1 := rfl
    omega
  exact sort_tail hu' I' R (keys_relU _) (kyE_vals (w := X.w) hk) hs2 p
end
end Pv
set_option autoImplicit false
set_option Elab.async false
set_option linter.all false
set_option maxRecDepth 100000
set_option maxHeartbeats 4000000
namespace Pv
open PySem PySem.Spec PyProof.Rows L2
/-! ### sets of tuples of ints -/
section
variable {P : Program} {w : World} {A : Around} {E : Value → Shared → Prop} {s : Shared}
set_option maxRecDepth 100000 in
set_option maxHeartbeats 6400000 in
theorem setT_ofT {l : Addr} {items : Array Value} (ks : List (Addr × List Int)) {Q : Value → Shared → Prop} (hh : A.handled = none) (hl : s.heap.IsTuple l items) (hit : items.toList = ks.map fun p => Value.ref p.1) (hk : ∀ p ∈ ks, IsT P w s.heap p.2 p.1) (hfew : ks.length < 64) (hu : A.units + 3 < cLine)
    (h : ∀ (h' : Heap) (tk : Nat) L es ep t, SetTR P w h' s.heap.objs.size L es ep t → Got ks ks.length L → (∀ b o, s.heap.get? b = some o → h'.get? b = some o) → Q (.ref s.heap.objs.size) { s with heap := h', toks := tk }) :
    wpAny (model P w) A (call (.type "set") [.ref l]) Q E s := by
  have hisz : items.size = ks.length := by
    have q := congrArg List.length hit
    rwa [Array.length_toList, List.length_map] at q
  obtain ⟨c, tl, qr⟩ := F.called_set.mro
  have qm := F.called_set.made
  have qs := F.called_set.sub
  refine wpAny_call (codeAny_of_tree ?_)
  show wpAny _ _ (callAny (.type "set") _) _ _ _
  refine wpAny_pure ⟨Code.quiet_builtin _ (by decide +kernel), codeAny_builtin F.entry_type_call ?_⟩
  rw [Around.under_plain (weight_type_call_type "set" [.ref l] []) rfl]
  have q1 := F.called_set.notType
  have q2 := F.called_set.canCreate
  have q3 := F.typeCall_set_1 (.ref l)
  repeat (any_goals (first | assumption | wp_step))

  refine codeAny_mono (code_set_led1 (.ref l) (E := E) (Q₁ := fun obj s₁ => obj = .ref s.heap.objs.size ∧ s₁ = { s with heap := s.heap.push { cls := .type "set", dict := none, data := .set #[] 0 (.fresh 0 0 (!w.params.followText "set-order")) } }) ⟨rfl, rfl⟩) fun r s₁ hr => ?_
  cases r with
  | error e => exact hr
  | ok fl =>
    cases fl with
    | ret obj =>
      obtain ⟨rfl, rfl⟩ := hr
      have hSet : (s.heap.push { cls := .type "set", dict := none, data := .set #[] 0 (.fresh 0 0 (!w.params.followText "set-order")) }).get? s.heap.objs.size = some { cls := .type "set", dict := none, data := .set #[] 0 (.fresh 0 0 (!w.params.followText "set-order")) } := Heap.get?_push_size _ rfl
      have hTy : Shared.TypeIs { s with heap := s.heap.push { cls := .type "set", dict := none, data := .set #[] 0 (.fresh 0 0 (!w.params.followText "set-order")) } } (.ref s.heap.objs.size) "set" := ⟨_, hSet, rfl⟩
      have hlk := F.called_set.init.lookup
      have hbn := F.called_set.init.bind (.ref s.heap.objs.size)
      repeat (any_goals (first | assumption | wp_step))

      refine codeAny_mono (codeAny_call_builtin (R := wants (fun r s₂ => r = .none ∧ ∃ h' tk L es ep t, s₂ = { s with heap := h', toks := tk } ∧ SetTR P w h' s.heap.objs.size L es ep t ∧ Got ks ks.length L ∧
          (∀ b o, s.heap.get? b = some o → h'.get? b = some o)) E) F.called_set.init.plain F.entry_set_init (check_set_init_1 hTy ?_)) fun r₂ s₂ hr₂ => ?_
      · obtain ⟨obl, hobl, hcls, nn, hdat⟩ := hl
        obtain ⟨ocls, odict, odata, oslots⟩ := obl
        simp only at hcls hdat
        subst hcls; subst hdat
        have hobl' : (s.heap.push { cls := .type "set", dict := none, data := .set #[] 0 (.fresh 0 0 (!w.params.followText "set-order")) }).get? l = some { cls := .type "tuple", dict := odict, data := .seq items nn, slots := oslots } := Heap.get?_push_of_some _ hobl
        have hsA := F.sub_tuple_set
        have hsB := F.sub_tuple_frozenset
        have hnD : (Value.type "tuple" == Value.type "dict") = false := by decide
        have hrow : (s.heap.push { cls := .type "set", dict := none, data := .set #[] 0 (.fresh 0 0 (!w.params.followText "set-order")) }).IsTuple l items := ⟨_, hobl', rfl, nn, rfl⟩
        unfold Builtin.«set.__init__» noKeywords Builtin.Frozenset.updateFrom
        generalize hPit : pyIter = Pit
        wp_walk
        subst hPit

        refine wpAny_pyIter_tuple hrow ?_
        refine wpAny_bind (wpAny_runValue ?_)
        have hlow : l < s.heap.objs.size := Heap.lt_size hobl
        have hhd : A.in1.in1.in1.handled = none := by simp [hh]
        have hzz : (s.heap.push { cls := .type "set", dict := none, data := .set #[] 0 (.fresh 0 0 (!w.params.followText "set-order")) }).objs.size = s.heap.objs.size + 1 := Heap.size_push ..
        have hnI : l ≠ (s.heap.push { cls := .type "set", dict := none, data := .set #[] 0 (.fresh 0 0 (!w.params.followText "set-order")) }).objs.size := by
          rw [Heap.size_push]; exact Nat.ne_of_lt (Nat.lt_succ_of_lt hlow)
        have hSn : s.heap.objs.size ∉ [(s.heap.push { cls := .type "set", dict := none, data := .set #[] 0 (.fresh 0 0 (!w.params.followText "set-order")) }).objs.size, l] := by
          rw [Heap.size_push]; simp only [List.mem_cons, List.mem_singleton, List.not_mem_nil, or_false, not_or]
          exact ⟨Nat.ne_of_lt (Nat.lt_succ_self _), Nat.ne_of_gt hlow⟩
        have hval : ∀ (i : Nat) (v : Value), items[i]? = some v → ∃ p, ks[i]? = some p ∧ v = .ref p.1 := fun i v hv => by
          have q : items.toList[i]? = some v := by rw [Array.getElem?_toList]; exact hv
          rw [hit, List.getElem?_map] at q
          obtain ⟨p, hp, e⟩ := Option.map_eq_some_iff.mp q
          exact ⟨p, hp, e.symm⟩
        have noB : ∀ b, s.heap.objs.size ≤ b → s.heap.get? b = none := fun b hb => by
          cases q : s.heap.get? b with
          | none => rfl
          | some o => exact absurd (Nat.lt_of_lt_of_le (Heap.lt_size q) hb) (Nat.lt_irrefl _)
        refine set_update_tups ((Walks.tuple hhd _ l hnI items).toS) s.heap.objs.size
          hSn ks hisz hfew hval s.heap hk (noB _ (Nat.le_refl _)) (fun b hb => noB b (by
            rw [List.mem_singleton.mp hb, Heap.size_push]; exact Nat.le_succ _)) hu (items.size - 0) 0 _ (by omega) (Nat.zero_le _)
          ⟨⟨_, Heap.get?_push_size _ rfl, rfl, rfl⟩, (hrow.push _)⟩ (fun b o e => Heap.get?_push_of_some _ (Heap.get?_push_of_some _ e)) ?hS0 ?hR
        case hS0 =>
          have hgt : ((s.heap.push { cls := .type "set", dict := none, data := .set #[] 0 (.fresh 0 0 (!w.params.followText "set-order")) }).push { cls := .type "tuple_iterator", data := .fields #[.ref l, .int 0 0] }).get? s.heap.objs.size
              = some { cls := .type "set", dict := none, data := .set #[] 0 (.fresh 0 0 (!w.params.followText "set-order")) } := Heap.get?_push_of_some _ hSet
          exact ⟨[], #[], 0, _, setTR_fresh hgt, Got.zero ks⟩
        case hR =>
          intro s' L es ep t hm hS' g' hkp
          obtain ⟨h', g2, d', tk', os'⟩ := s'
          have eg : g2 = s.gens := hm.gens
          have ed : d' = s.drawn := hm.drawn
          have eo : os' = s.os := hm.os
          subst eg; subst ed; subst eo
          show wpAny _ _ _ _ _ _
          refine wpAny_pure ?_
          show wpAny _ _ (ret Value.none) _ _ _
          rw [hisz] at g'
          exact wpAny_pure ⟨rfl, h', tk', L, es, ep, t, rfl, hS', g', hkp⟩

      · cases r₂ with
        | error e => exact hr₂
        | ok fl₂ =>
          cases fl₂ with
          | ret r =>
            obtain ⟨rfl, h', tk, L, es, ep, t, rfl, hS', g', hk'⟩ := hr₂
            repeat (any_goals (first | assumption | wp_step))
            exact h _ _ _ _ _ _ hS' g' hk'
          | _ => exact hr₂.elim
    | _ => exact hr.elim
end
end Pv
set_option autoImplicit false
set_option Elab.async false
set_option linter.all false
set_option maxRecDepth 100000
set_option maxHeartbeats 4000000
namespace Pv
open PySem PySem.Spec PyProof.Rows L2
/-! ### tuples of ints in order -/
theorem sqT_upd {K : PySem.W.Frag} {H : Hp} {a q : Addr} {xs : List V} {o : HO} (h : SqT K H a xs) (hq : H q = none) : SqT K (upd H q o) a xs := by
  have k : ∀ b u, H b = some u → upd H q o b = some u := fun b u e => by rw [upd_ne (fun z => by rw [z, hq] at e; cases e)]; exact e
  exact h.elim (fun h => .inl (h.elim (fun h => .inl (k _ _ h)) fun ⟨o, h⟩ => .inr ⟨o, k _ _ h⟩)) fun h => .inr h
theorem nodup_le {α : Type} [DecidableEq α] : ∀ {l D : List α}, l.Nodup → (∀ x ∈ l, x ∈ D) → l.length ≤ D.length
  | [], _, _, _ => Nat.zero_le _
  | x :: l, D, hn, hs => by
    obtain ⟨h1, h2⟩ := List.nodup_cons.mp hn
    have hx : x ∈ D := hs x (List.mem_cons_self ..)
    have := nodup_le (D := D.erase x) h2 fun y hy => (List.mem_erase_of_ne fun e => h1 (by rw [← e]; exact hy)).2 (hs y (List.mem_cons_of_mem _ hy))
    have e := List.length_erase_of_mem hx
    have p : 0 < D.length := List.length_pos_of_mem hx
    rw [List.length_cons]
    omega
def tupU (k : List Int) : U := .tup (k.map .int)
theorem intsOf_eq : ∀ {xs : List U} {ns : List Int}, intsOf xs = some ns → xs = ns.map .int
  | [], ns, h => by simp only [intsOf] at h; cases h; rfl
  | x :: xs, ns, h => by
    cases x <;> simp only [intsOf] at h <;> first | (cases h; done) | skip
    obtain ⟨r, hr, rfl⟩ := Option.map_eq_some_iff.mp h
    rw [intsOf_eq hr]
    rfl
theorem ints_self : ∀ k : List Int, intsOf (k.map U.int) = some k
  | [] => rfl
  | x :: k => by simp only [List.map_cons, intsOf, ints_self k, Option.map_some]
theorem tupsOf_map : ∀ {xs : List U} {ks : List (List Int)}, tupsOf xs = some ks → xs = ks.map tupU
  | [], ks, h => by simp only [tupsOf] at h; cases h; rfl
  | x :: xs, ks, h => by
    cases x <;> simp only [tupsOf] at h <;> first | (cases h; done) | skip
    split at h
    · rename_i k ks' e1 e2
      cases h
      rw [tupsOf_map e2, intsOf_eq e1]
      rfl
    · cases h
theorem ltD_lex (u v : U) : ltD u v = PyProof.Rows.lexLt PyProof.Rows.itemOrd (toks u) (toks v) := (ltTok_eq _ _).symm
theorem leU_trans (a b c : U) (h1 : leU a b = true) (h2 : leU b c = true) : leU a c = true := by
  unfold leU at *
  rw [ltD_lex] at *
  simp only [Bool.not_eq_true'] at *
  cases h : PyProof.Rows.lexLt PyProof.Rows.itemOrd (toks c) (toks a) with
  | false => rfl
  | true =>
    rcases PyProof.Rows.lex_negTrans _ (toks b) _ h with q | q
    · rw [q] at h2; cases h2
    · rw [q] at h1; cases h1
theorem leU_total (a b : U) : leU a b = true ∨ leU b a = true := by
  unfold leU
  rw [ltD_lex, ltD_lex]
  cases h : PyProof.Rows.lexLt PyProof.Rows.itemOrd (toks b) (toks a) with
  | false => exact .inl rfl
  | true =>
    cases h2 : PyProof.Rows.lexLt PyProof.Rows.itemOrd (toks a) (toks b) with
    | false => exact .inr rfl
    | true =>
      have := PyProof.Rows.lex_trans _ _ _ h h2
      rw [PyProof.Rows.lex_irrefl] at this
      cases this
theorem leU_toks (a b : U) (h1 : leU a b = true) (h2 : leU b a = true) : toks a = toks b := by
  unfold leU at *
  rw [ltD_lex] at *
  simp only [Bool.not_eq_true'] at *
  exact PyProof.Rows.lex_total _ _ h2 h1
theorem tup_toks : ∀ {k l : List Int}, tokss (k.map .int) = tokss (l.map .int) → k = l
  | [], [], _ => rfl
  | [], _ :: _, h => by simp [tokss] at h
  | _ :: _, [], h => by simp [tokss] at h
  | x :: k, y :: l, h => by
    simp only [List.map_cons, tokss, toks, List.cons_append, List.nil_append, List.cons.injEq, Sum.inl.injEq, true_and] at h
    rw [h.1, tup_toks h.2]
theorem tupU_inj {k l : List Int} (h : tupU k = tupU l) : k = l := by
  have : toks (tupU k) = toks (tupU l) := by rw [h]
  simp only [tupU, toks] at this
  exact tup_toks this
theorem sort_permT {a b : List (List Int)} (p : a.Perm b) : sortU (a.map tupU) = sortU (b.map tupU) := by
  have hs : ∀ l : List (List Int), (sortU (l.map tupU)).Pairwise (fun x y => leU x y = true) ∧ ∀ x ∈ sortU (l.map tupU), ∃ k, x = tupU k := fun l => by
    unfold sortU
    refine ⟨List.pairwise_mergeSort leU_trans (fun a b => by rw [Bool.or_eq_true]; exact leU_total a b) _, fun x hx => ?_⟩
    obtain ⟨k, _, rfl⟩ := List.mem_map.mp ((List.mergeSort_perm _ _).mem_iff.mp hx)
    exact ⟨k, rfl⟩
  obtain ⟨a1, a2⟩ := hs a
  obtain ⟨b1, b2⟩ := hs b
  refine List.Perm.eq_of_pairwise (le := fun x y => leU x y = true) (fun x y hx hy h1 h2 => ?_) a1 b1 (((List.mergeSort_perm _ _).trans (p.map tupU)).trans (List.mergeSort_perm _ _).symm)
  obtain ⟨i, rfl⟩ := a2 x hx
  obtain ⟨j, rfl⟩ := b2 y hy
  have e := leU_toks _ _ h1 h2
  simp only [tupU, toks] at e
  rw [tup_toks e]
theorem dedup_tup {ks ls : List (List Int)} (nd : ls.Nodup) (h : ∀ k, k ∈ ls ↔ k ∈ ks) : (ls.map tupU).Perm (dedup (ks.map tupU)) := by
  have n1 : (ls.map tupU).Nodup := by
    rw [List.nodup_iff_pairwise_ne, List.pairwise_map]
    exact (List.nodup_iff_pairwise_ne.mp nd).imp fun hne e => hne (tupU_inj e)
  rw [List.perm_ext_iff_of_nodup n1 (dedup_nodup _)]
  intro u
  rw [dedup_mem, List.mem_map, List.mem_map]
  constructor
  · rintro ⟨k, hk, e⟩; exact ⟨k, (h k).mp hk, e⟩
  · rintro ⟨k, hk, e⟩; exact ⟨k, (h k).mpr hk, e⟩
theorem dedup_tups : ∀ l : List U, (∀ u ∈ l, ∃ k, u = tupU k) → ∃ ds : List (List Int), l = ds.map tupU
  | [], _ => ⟨[], rfl⟩
  | x :: l, h => by
    obtain ⟨k, e⟩ := h x (List.mem_cons_self ..)
    obtain ⟨ds, e2⟩ := dedup_tups l fun u hu => h u (List.mem_cons_of_mem _ hu)
    exact ⟨k :: ds, by rw [e, e2]; rfl⟩
theorem sort_dedup {ks ls : List (List Int)} (nd : ls.Nodup) (h : ∀ k, k ∈ ls ↔ k ∈ ks) : sortU (ls.map tupU) = sortU (dedup (ks.map tupU)) := by
  have p := dedup_tup nd h
  obtain ⟨ds, hds⟩ := dedup_tups (dedup (ks.map tupU)) fun u hu => by
    obtain ⟨k, _, e⟩ := List.mem_map.mp (dedup_mem.mp hu)
    exact ⟨k, e.symm⟩
  rw [hds] at p ⊢
  refine sort_permT ?_
  have e1 : ∀ l : List (List Int), (l.map tupU).map (fun u => match u with | .tup xs => (intsOf xs).getD [] | _ => []) = l := fun l => by
    rw [List.map_map]
    conv => rhs; rw [← List.map_id l]
    refine List.map_congr_left fun k _ => ?_
    simp only [Function.comp, tupU, id]
    rw [ints_self]
    rfl
  have := p.map (fun u => match u with | .tup xs => (intsOf xs).getD [] | _ => [])
  rwa [e1, e1] at this
theorem tups_rel {K : PySem.W.Frag} {g : Gh} {H : Hp} : ∀ {xs : List U} {vs : List V} {ks : List (List Int)}, RelUs K g H xs vs → tupsOf xs = some ks →
    ∃ ps : List (Addr × List Int), vs = ps.map (fun p => V.ref p.1) ∧ ks = ps.map (·.2) ∧ ∀ p ∈ ps, SqT K H p.1 (p.2.map V.int) ∧ RelU K g H (tupU p.2) (.ref p.1)
  | [], _, ks, .nil, h => by
    simp only [tupsOf] at h
    cases h
    exact ⟨[], rfl, rfl, fun p hp => by cases hp⟩
  | x :: xs, _, ks, .cons (v := v) r t, h => by
    cases x <;> simp only [tupsOf] at h <;> first | (cases h; done) | skip
    split at h
    · rename_i k ks' e1 e2
      cases h
      obtain ⟨ps, h1, h2, h3⟩ := tups_rel t e2
      cases r with
      | @tup a us ys q1 q2 q3 q4 =>
        have ev := ints_rel q4 e1
        have ex := intsOf_eq e1
        subst ev ex
        refine ⟨(a, k) :: ps, by rw [h1]; rfl, by rw [h2]; rfl, fun p hp => ?_⟩
        rcases List.mem_cons.mp hp with rfl | hp
        · exact ⟨q1.sq, .tup q1 q2 q3 q4⟩
        · exact h3 p hp
    · cases h
/-- a row in another order, seen through a map -/
theorem perm_lift {α β : Type} {f : α → β} : ∀ {l : List β} {L : List α}, l.Perm (L.map f) → ∃ L' : List α, L'.Perm L ∧ l = L'.map f
  | [], L, h => by
    have := h.length_eq
    rw [List.length_map, List.length_nil] at this
    have : L = [] := List.length_eq_zero_iff.mp this.symm
    subst this
    exact ⟨[], List.Perm.refl _, rfl⟩
  | x :: l, L, h => by
    obtain ⟨q, hq, e⟩ := List.mem_map.mp (h.mem_iff.mp (List.mem_cons_self ..))
    obtain ⟨s, t, rfl⟩ := List.append_of_mem hq
    have h2 : l.Perm ((s ++ t).map f) := by
      refine List.Perm.cons_inv (a := x) (h.trans ?_)
      rw [List.map_append, List.map_cons, e, List.map_append]
      exact List.perm_middle
    obtain ⟨L', p, e2⟩ := perm_lift h2
    exact ⟨q :: L', (p.cons q).trans List.perm_middle.symm, by rw [List.map_cons, e, e2]⟩
section
variable {X : Cx} {C : Nat → Addr} {W : Value → Hp → Prop}
theorem cr_or {f : Value} {r1 r2 : List V → Hp → VK → Prop} (h1 : CallR X f r1) (h2 : CallR X f r2) : CallR X f (fun xs H Q => r1 xs H Q ∨ r2 xs H Q) := by
  intro pins σt σ H xs us Q I r h
  rcases h with h | h
  · exact h1 pins σt σ H xs us Q I r h
  · exact h2 pins σt σ H xs us Q I r h
def rSetT (K : PySem.W.Frag) (P : Program) (w : World) : List V → Hp → VK → Prop := fun xs H Q => ∃ (l : Addr) (ks : List (Addr × List Int)), xs = [V.ref l] ∧ (SqL K H l (ks.map fun p => V.ref p.1) ∨ SqT K H l (ks.map fun p => V.ref p.1)) ∧ (∀ p ∈ ks, SqT K H p.1 (p.2.map V.int)) ∧ ks.length < 64 ∧
  ∀ a L, H a = none → (∀ p ∈ L, p ∈ ks) → (∀ p ∈ ks, p.2 ∈ L.map (·.2)) → (L.map (·.2)).Nodup → Q (.ref a) (upd H a (SetTO P w a L))
theorem cr_setT (hc : X.calm = true) (hu : X.A.units + 64 < cLine) : CallR X (.type "set") (rSetT X.K X.prog X.w) := by
  intro pins s σ H xs us Q I r h
  obtain ⟨l, ks, rfl, hl, hk, hf, q⟩ := h
  rw [Vals.ref1 r]
  have hn : H s.heap.objs.size = none := I.hok.fresh (Nat.le_refl _)
  have go : ∀ (h' : Heap) (tk : Nat) L es ep t, SetTR X.prog X.w h' s.heap.objs.size L es ep t → Got ks ks.length L → (∀ b o, s.heap.get? b = some o → h'.get? b = some o) → EP X pins σ Q (.ref s.heap.objs.size) { s with heap := h', toks := tk } := fun h' tk L es ep t R g k =>
    ⟨.ref s.heap.objs.size, upd H s.heap.objs.size (SetTO X.prog X.w s.heap.objs.size L), I.laid (t' := tk) k (Nat.le_refl _) (setTO_new R.t0), rfl, q _ L hn (fun p hp => List.mem_of_mem_take (g.sub p hp)) (fun p hp => g.all p (by rw [List.take_length]; exact hp)) R.nd⟩
  rcases hl with hl | hl
  · obtain ⟨its, rv, pl, hz⟩ := I.list hl
    exact call_set_tups (P := X.prog) (w := X.w) ks (I.ok.hd hc) pl.isList (by simpa using refs_of_vals rv) (fun p hp => I.isT (hk p hp)) hf (by omega) go
  · obtain ⟨its, rv, pl, hz⟩ := I.tuple hl
    exact setT_ofT (P := X.prog) (w := X.w) ks (I.ok.hd hc) pl (by simpa using refs_of_vals rv) (fun p hp => I.isT (hk p hp)) hf (by omega) go
def rSortT (K : PySem.W.Frag) (C : Nat → Addr) (P : Program) (w : World) (W : Value → Hp → Prop) (m : Bool) : List V → Hp → VK → Prop := fun xs H Q => ∃ (g : Gh) (s : MS) (a : Addr) (L : List (Addr × List Int)), RS K C g s H ∧ xs = [V.ref a] ∧ H a = some (SetTO P w a L) ∧ (∀ p ∈ L, SqT K H p.1 (p.2.map V.int) ∧ RelU K g H (tupU p.2) (.ref p.1)) ∧
  sortable (L.map fun p => tupU p.2) = true ∧ Pst K C (RelU K) W g H (mkL m (sortU (L.map fun p => tupU p.2)) s) Q
theorem cr_sortT (hc : X.calm = true) (hu : X.A.units + 110 < cLine) {m : Bool} : CallR X (.builtin "sorted") (rSortT X.K C X.prog X.w W m) := by
  intro pins σt σ H xs us Q I r h
  obtain ⟨g, s, a, L, R, rfl, ha, hk, hso, p⟩ := h
  rw [Vals.ref1 r]
  have R0 : SetT0 X.prog X.w σt.heap a L := (I.hok a _ ha).1
  obtain ⟨es, ep, t, S⟩ := R0.full fun p hp => I.isT (hk p hp).1
  obtain ⟨o, ho, hex, hd⟩ := S.ob
  have hsz := S.size
  have hfew := S.few
  refine Calls.call_function_entry PyProof.Rows.kind_sorted PyProof.Rows.plain_sorted PyProof.Rows.entry_sorted (PyProof.Rows.args_sorted1 _) ?_
  unfold Builtin.«sorted»
  refine wpAny_bind (m := checkCount "sorted" 1 1 _) (wpAny_pure ?_)
  refine wpAny_bind (collect_set (A := X.A.in1) (I.ok.hd hc) ⟨o, ho, hex.1, hd⟩ S.fits (by unfold scanBound; omega) S.tab.ris S.led fun s1 out k1 hz g1 o1 pm => ?_)
  have I' : L2.Inv X pins σ H s1 := I.call' (ch := []) o1 (Un.kept k1) (I.hok.kept k1) (by rw [g1]; exact I.bare) (fun _ z => nomatch z)
  have hes : es.toList.map (·.2) = L.map fun q => Value.ref q.1 := by
    rw [S.rows]
    unfold rowsOf
    rw [List.map_map]
    rfl
  rw [hes] at pm
  obtain ⟨L', pL, eo⟩ := perm_lift pm
  have rr : RelUs X.K g H (L'.map fun q => tupU q.2) (L'.map fun q => V.ref q.1) := by
    have : ∀ M : List (Addr × List Int), (∀ q ∈ M, q ∈ L) → RelUs X.K g H (M.map fun q => tupU q.2) (M.map fun q => V.ref q.1) := by
      intro M
      induction M with
      | nil => intro _; exact .nil
      | cons q M ih => intro h; exact .cons (hk q (h q (List.mem_cons_self ..))).2 (ih fun r hr => h r (List.mem_cons_of_mem _ hr))
    exact this L' fun q hq => pL.mem_iff.mp hq
  have e1 : ∀ M : List (Addr × List Int), (M.map fun q => tupU q.2) = (M.map (·.2)).map tupU := fun M => by rw [List.map_map]; rfl
  have eso : sortU (L'.map fun q => tupU q.2) = sortU (L.map fun q => tupU q.2) := by
    rw [e1, e1]
    exact sort_permT (pL.map _)
  have hs2 : sortable (L'.map fun q => tupU q.2) = true := by
    refine sortable_sub hso (fun u hu => ?_) ?_
    · obtain ⟨q, hq, e⟩ := List.mem_map.mp hu
      exact List.mem_map.mpr ⟨q, pL.mem_iff.mp hq, e⟩
    · rw [List.length_map, List.length_map, pL.length_eq]
      exact Nat.le_refl _
  rw [← eso] at p
  have hu' : X.A.in1.units + 100 < cLine := by
    have : X.A.in1.units = X.A.units + 1 := rfl
    omega
  refine sort_tail hu' I' R rr ?_ hs2 p
  rw [eo]
  exact vals_of_refs L'
variable {E : XK} {a : Expr} {ma : SU → MS → Rv U} {pos : Pos}
theorem se_setsort {m : Bool} {x y : Str} {p0 p1 pos1 : Pos} (hx : x = "sorted") (hy : y = "set") (hc : X.calm = true) (hu : X.A.units + 110 < cLine) (hg : Gl X x) (hm : X.mg x = none) (hgy : Gl X y) (hmy : X.mg y = none)
    (ha : PE X a (eEv X.K C E ma)) (hs : starEach [a] X.env = [(false, eval a X.env)]) :
    PE X (.Call (.Name x p0) [.Call (.Name y p1) [a] [] pos1] [] pos) (eEv X.K C E fun su s => (ma su s).bind fun u s1 => biU (.setsort m) [u] s1) := by
  subst hx hy
  have inner : PE X (.Call (.Name "set" p1) [a] [] pos1) _ := pe_callTy (cr_or (cr_setK hc) (cr_setT hc (by omega))) hgy hmy (by decide +kernel) (pa_cons ha pa_nil (by rw [hs]; rfl)) (by decide) (by decide) (by rw [hs]; rfl) (by rfl)
  refine PE.imp (pe_callB (cr_or (cr_sortK (C := C) (W := WOf E) (m := m) hc hu) (cr_sortT (C := C) (W := WOf E) (m := m) hc hu)) hg hm (by decide +kernel) (pa_cons inner pa_nil rfl) (by decide) (by decide) rfl (by rfl)) fun σ H Q ⟨g, su, s, R, rs, p⟩ => ?_
  obtain ⟨g0, su0, s0, q1, q2, q3⟩ := eEv_seq (f := fun su u s1 => biU (.setsort m) [u] s1) R rs p
  refine ⟨g0, su0, s0, q1, q2, q3.mono fun v H1 ⟨g1, s1, u, R1, rs1, ru, e1, p1⟩ => ?_⟩
  simp only [biU] at p1
  split at p1
  · rename_i xs h1
    split at p1
    · rename_i hcond
      simp only [Bool.and_eq_true, decide_eq_true_eq, Bool.or_eq_true] at hcond
      obtain ⟨⟨h2, h3⟩, h4⟩ := hcond
      obtain ⟨ad, vs, rfl, hq, z, rr⟩ := R1.seqOf ru h1
      rcases h2 with h2 | h2
      · obtain ⟨ks, hks⟩ := Option.isSome_iff_exists.mp h2
        have ev := keys_rel rr hks
        have ex := keysOf_map hks
        subst ev ex
        rw [List.length_map] at h4
        exact .inl ⟨ad, ks, rfl, hq, h4, fun q c hcl hq' => .inl ⟨g1, s1, q, ks, c, R1.new hq', rfl, upd_same, h3, p1.ext (Ext.new R1 hq')⟩⟩
      · obtain ⟨ks, hks⟩ := Option.isSome_iff_exists.mp h2
        obtain ⟨ps, ev, ek, hps⟩ := tups_rel rr hks
        have ex := tupsOf_map hks
        subst ev ex ek
        simp only [List.length_map] at h4
        refine .inr ⟨ad, ps, rfl, hq, fun p hp => (hps p hp).1, h4, fun q L hq' sub cov nd => .inr ⟨g1, s1, q, L, R1.new hq', rfl, upd_same, fun p hp => ?_, ?_, ?_⟩⟩
        · obtain ⟨a1, a2⟩ := hps p (sub p hp)
          exact ⟨sqT_upd a1 hq', a2.ext (Ext.new R1 hq')⟩
        · refine sortable_sub h3 (fun u hu => ?_) ?_
          · obtain ⟨p, hp, rfl⟩ := List.mem_map.mp hu
            rw [List.map_map]
            exact List.mem_map.mpr ⟨p, sub p hp, rfl⟩
          · have : (L.map (·.2)).length ≤ (ps.map (·.2)).length := by
              refine nodup_le nd fun k hk => ?_
              obtain ⟨p, hp, rfl⟩ := List.mem_map.mp hk
              exact List.mem_map.mpr ⟨p, sub p hp, rfl⟩
            simpa using this
        · have e : sortU (L.map fun p => tupU p.2) = sortU (dedup ((ps.map (·.2)).map tupU)) := by
            rw [← sort_dedup nd (ks := ps.map (·.2)) fun k => ⟨fun h => ?_, fun h => ?_⟩, List.map_map]
            · rfl
            · obtain ⟨p, hp, rfl⟩ := List.mem_map.mp h
              exact List.mem_map.mpr ⟨p, sub p hp, rfl⟩
            · obtain ⟨p, hp, rfl⟩ := List.mem_map.mp h
              exact cov p hp
          rw [e]
          exact p1.ext (Ext.new R1 hq')
    · exact p1.elim
  · exact p1.elim
/-- len of it -/
def rLenK (w : World) : List V → Hp → VK → Prop := fun xs H Q => ∃ (a : Addr) (ks : List Key) (n : Nat), xs = [V.ref a] ∧ H a = some (SetH w a (memK ks) n) ∧ Q (.int (dedup (ks.map uKey)).length) H
theorem cr_lenK : CallR X (.builtin "len") (rLenK X.w) := by
  intro pins σt σ H xs us Q I r h
  obtain ⟨a, ks, n, rfl, ha, q⟩ := h
  obtain ⟨u1, rfl, ru⟩ := vals1 r
  cases ru
  obtain ⟨o, es, ep, t, ⟨ho, hex, hd⟩, gd, nd, hm, hb, hf, hn, hr, hl⟩ := setH_get I ha
  have pd : ((es.toList.map kyE).map uKey).Perm (dedup (ks.map uKey)) := dedup_key nd fun k => by rw [← hm k, memK_iff]
  have e : es.size = (dedup (ks.map uKey)).length := by
    have := pd.length_eq
    rwa [List.length_map, List.length_map, Array.length_toList] at this
  refine call_len_set ho hex hd hf (by unfold scanBound at hb; omega) ⟨.int _, H, I.tok _, ⟨_, by rw [e]⟩, q⟩
theorem se_setlen {x y : Str} {p0 p1 pos1 : Pos} (hx : x = "len") (hy : y = "set") (hc : X.calm = true) (hu : X.A.units + 110 < cLine) (hg : Gl X x) (hm : X.mg x = none) (hgy : Gl X y) (hmy : X.mg y = none)
    (ha : PE X a (eEv X.K C E ma)) (hs : starEach [a] X.env = [(false, eval a X.env)]) :
    PE X (.Call (.Name x p0) [.Call (.Name y p1) [a] [] pos1] [] pos) (eEv X.K C E fun su s => (ma su s).bind fun u s1 => biU .setlen [u] s1) := by
  subst hx hy
  have inner : PE X (.Call (.Name "set" p1) [a] [] pos1) _ := pe_callTy (cr_setK hc) hgy hmy (by decide +kernel) (pa_cons ha pa_nil (by rw [hs]; rfl)) (by decide) (by decide) (by rw [hs]; rfl) (by rfl)
  refine PE.imp (pe_callB cr_lenK hg hm (by decide +kernel) (pa_cons inner pa_nil rfl) (by decide) (by decide) rfl (by rfl)) fun σ H Q ⟨g, su, s, R, rs, p⟩ => ?_
  obtain ⟨g0, su0, s0, q1, q2, q3⟩ := eEv_seq (f := fun su u s1 => biU .setlen [u] s1) R rs p
  refine ⟨g0, su0, s0, q1, q2, q3.mono fun v H1 ⟨g1, s1, u, R1, rs1, ru, e1, p1⟩ => ?_⟩
  simp only [biU] at p1
  split at p1
  · rename_i xs h1
    split at p1
    · rename_i hcond
      simp only [Bool.and_eq_true, decide_eq_true_eq] at hcond
      obtain ⟨h2, h4⟩ := hcond
      obtain ⟨ks, hks⟩ := Option.isSome_iff_exists.mp h2
      obtain ⟨ad, vs, rfl, hq, z, rr⟩ := R1.seqOf ru h1
      have ev := keys_rel rr hks
      have ex := keysOf_map hks
      subst ev ex
      rw [List.length_map] at h4
      exact ⟨ad, ks, rfl, hq, h4, fun q c hcl hq' => ⟨q, ks, c, rfl, upd_same, Pst.ok_ p1 (R1.new hq') (Ext.new R1 hq') (.int _)⟩⟩
    · exact p1.elim
  · exact p1.elim
end
end Pv
set_option autoImplicit false
set_option Elab.async false
set_option linter.all false
set_option maxRecDepth 100000
set_option maxHeartbeats 1000000
namespace Pv
open PySem PySem.Spec PyProof.Rows L2
/-! ### list(range(n)), tuple(range(n)) -/
theorem row_relU {K : PySem.W.Frag} {g : Gh} {H : Hp} (j : Int) : RelUs K g H (rowN 0 j.toNat) (rgV 0 j) := by
  unfold rowN rgV
  rw [Int.sub_zero]
  have : ∀ l : List Nat, RelUs K g H (l.map fun i => U.int (0 + (i : Nat))) (l.map fun i => V.int (0 + (i : Nat))) := by
    intro l
    induction l with
    | nil => exact .nil
    | cons x l ih => exact .cons (.int _) ih
  exact this _
theorem rg_nd {j : Int} (hj : j = (keyLen : Int)) : dictish (rgV 0 j) = false := by
  subst hj
  decide
theorem rg_nd' {j : Int} (h : 0 < j) : (rgV 0 j).all isRefV = false := by
  unfold rgV
  obtain ⟨n, e⟩ : ∃ n, (j - 0).toNat = n + 1 := ⟨(j - 0).toNat - 1, by omega⟩
  rw [e, List.range_succ_eq_map]
  rfl
section
variable {X : Cx} {C : Nat → Addr} {E : XK} {a : Expr} {ma : SU → MS → Rv U} {pos : Pos}
theorem se_rangeTL {tl : Bool} {x y : Str} {p0 p1 pos1 : Pos} (hx : x = if tl then "tuple" else "list") (hy : y = "range") (hc : X.calm = true) (hg : Gl X x) (hm : X.mg x = none) (hgy : Gl X y) (hmy : X.mg y = none)
    (ha : PE X a (eEv X.K C E ma)) (hs : starEach [a] X.env = [(false, eval a X.env)]) :
    PE X (.Call (.Name x p0) [.Call (.Name y p1) [a] [] pos1] [] pos) (eEv X.K C E fun su s => (ma su s).bind fun u s1 => biU (if tl then .rangetup else .rangelist) [u] s1) := by
  subst hy
  have inner := prg_1 (pos := pos1) (p := p1) hgy hmy ha (by rw [hs]; rfl)
  cases tl with
  | true =>
    rw [if_pos rfl] at hx
    subst hx
    refine PE.imp (pe_tupRg hc hg hm inner rfl) fun σ H Q ⟨g, su, s, R, rs, p⟩ => ?_
    obtain ⟨g0, su0, s0, q1, q2, q3⟩ := eEv_seq (f := fun su u s1 => biU .rangetup [u] s1) R rs p
    refine ⟨g0, su0, s0, q1, q2, q3.mono fun v H1 ⟨g1, s1, u, R1, rs1, ru, e1, p1⟩ => ?_⟩
    cases ru <;> first | (exact (show False from p1).elim) | skip
    rename_i j _
    simp only [biU] at p1
    split at p1
    · rename_i hj
      have hl : line = 16777216 := rfl
      have hk2 : keyLen ≤ 1000 := by decide
      have hj0 : 0 ≤ j := by omega
      refine ⟨j, rfl, RgOk.of_le (by omega) (by omega) (by omega) hj0, fun q hq => ?_⟩
      refine Pst.ok_ p1 (R1.new hq) (Ext.new R1 hq) (.tup (TupP.old upd_same (rg_nd hj)) (R1.fresh hq) ?_ (row_relU j))
      have : sizeLine = 16777216 := sizeLine_eq
      unfold rowN
      rw [List.length_map, List.length_range]
      omega
    · exact (show False from p1).elim
  | false =>
    rw [if_neg Bool.false_ne_true] at hx
    subst hx
    refine PE.imp (pe_listRg hc hg hm inner rfl) fun σ H Q ⟨g, su, s, R, rs, p⟩ => ?_
    obtain ⟨g0, su0, s0, q1, q2, q3⟩ := eEv_seq (f := fun su u s1 => biU .rangelist [u] s1) R rs p
    refine ⟨g0, su0, s0, q1, q2, q3.mono fun v H1 ⟨g1, s1, u, R1, rs1, ru, e1, p1⟩ => ?_⟩
    cases ru <;> first | (exact (show False from p1).elim) | skip
    rename_i j _
    simp only [biU] at p1
    split at p1
    · rename_i hj
      have hl : line = 16777216 := rfl
      refine ⟨j, rfl, RgOk.of_le (by omega) (by omega) (by omega) hj.1, fun q hq => ?_⟩
      refine Pst.ok_ p1 (R1.new hq) (Ext.new R1 hq) (.lst upd_same (R1.fresh hq) ?_ (row_relU j))
      have : sizeLine = 16777216 := sizeLine_eq
      unfold rowN
      rw [List.length_map, List.length_range]
      omega
    · exact (show False from p1).elim
end
end Pv
set_option autoImplicit false
set_option Elab.async false
set_option linter.all false
set_option maxRecDepth 100000
set_option maxHeartbeats 1000000
namespace Pv
open PySem PySem.Spec PyProof.Rows L2

/-! ### readings of statements -/
def FEnd (K : PySem.W.Frag) (C : Nat → Addr) (E : XK) (g : Gh) (H : Hp) (D : Ends) (f : Fl) : Prop :=
  match f with
  | .nx su s => ∀ g' H' σ', RS K C g' s H' → Ext g H g' H' → RSt K g' H' su σ' → D.nx σ' H'
  | .rt u s => ∀ g' H' v, RS K C g' s H' → Ext g H g' H' → RelU K g' H' u v → D.rt v H'
  | .bk su s => ∀ g' H' σ', RS K C g' s H' → Ext g H g' H' → RSt K g' H' su σ' → D.bk σ' H'
  | .ct su s => ∀ g' H' σ', RS K C g' s H' → Ext g H g' H' → RSt K g' H' su σ' → D.ct σ' H'
  | .ex c _ s => ∀ g' H', RS K C g' s H' → Ext g H g' H' → WOf E (.ref (C c)) H'
  | .no => False
def sEv (K : PySem.W.Frag) (C : Nat → Addr) (E : XK) (m : SU → MS → Fl) : TS := fun D σ H => ∃ g su s, RS K C g s H ∧ RSt K g H su σ ∧ FEnd K C E g H D (m su s)
section
variable {K : PySem.W.Frag} {C : Nat → Addr} {E : XK} {g g1 : Gh} {H H1 : Hp} {D : Ends}
theorem FEnd.ext {f : Fl} (e : Ext g H g1 H1) (p : FEnd K C E g H D f) : FEnd K C E g1 H1 D f := by
  cases f with
  | nx su s => exact fun g' H' σ' R e' r => p g' H' σ' R (e.trans e') r
  | rt u s => exact fun g' H' σ' R e' r => p g' H' σ' R (e.trans e') r
  | bk su s => exact fun g' H' σ' R e' r => p g' H' σ' R (e.trans e') r
  | ct su s => exact fun g' H' σ' R e' r => p g' H' σ' R (e.trans e') r
  | ex c su s => exact fun g' H' R e' => p g' H' R (e.trans e')
  | no => exact p
theorem FEnd.then {f : Fl} {k : SU → MS → Fl} (p : FEnd K C E g H D (f.then k)) : FEnd K C E g H { D with nx := fun σ' H' => ∃ g' su' s', RS K C g' s' H' ∧ RSt K g' H' su' σ' ∧ FEnd K C E g' H' D (k su' s') } f := by
  cases f with
  | nx su s => exact fun g' H' σ' R e' r => ⟨g', su, s, R, r, FEnd.ext e' p⟩
  | rt u s => exact p
  | bk su s => exact p
  | ct su s => exact p
  | ex c su s => exact p
  | no => exact p
theorem FEnd.fl {α β : Type} {R : Gh → Hp → α → β → Prop} {r : Rv α} {su : SU} {k : α → MS → Fl} (p : FEnd K C E g H D (r.fl su k)) :
    Pst K C R (WOf E) g H r (fun b H' => ∃ g' s' a, RS K C g' s' H' ∧ Ext g H g' H' ∧ R g' H' a b ∧ FEnd K C E g' H' D (k a s')) := by
  cases r with
  | ok a s => exact fun g' H' b R' e' r => ⟨g', s, a, R', e', r, FEnd.ext e' p⟩
  | ex c s => exact p
  | no => exact p
theorem FEnd.nx_ {su : SU} {s : MS} {σ : L2.St} (p : FEnd K C E g H D (.nx su s)) {g' : Gh} {H' : Hp} (R : RS K C g' s H') (e : Ext g H g' H') (r : RSt K g' H' su σ) : D.nx σ H' := p g' H' σ R e r
/-- an expression first -/
theorem sEv_e {ma : SU → MS → Rv U} {k : SU → U → MS → Fl} {su : SU} {s : MS} {σ : L2.St} (R : RS K C g s H) (r : RSt K g H su σ) (p : FEnd K C E g H D ((ma su s).fl su (k su))) :
    eEv K C E ma σ H (fun v H1 => ∃ g1 s1 u, RS K C g1 s1 H1 ∧ RSt K g1 H1 su σ ∧ RelU K g1 H1 u v ∧ Ext g H g1 H1 ∧ FEnd K C E g1 H1 D (k su u s1)) :=
  ⟨g, su, s, R, r, (FEnd.fl (R := RelU K) p).mono fun v H1 ⟨g1, s1, u, R1, e, ru, p1⟩ => ⟨g1, s1, u, R1, r.ext e, ru, e, p1⟩⟩
theorem sEv_t {mt : SU → MS → Rv Bool} {k : SU → Bool → MS → Fl} {su : SU} {s : MS} {σ : L2.St} (R : RS K C g s H) (r : RSt K g H su σ) (p : FEnd K C E g H D ((mt su s).fl su (k su))) :
    tEv K C E mt σ H (fun b H1 => ∃ g1 s1, RS K C g1 s1 H1 ∧ RSt K g1 H1 su σ ∧ Ext g H g1 H1 ∧ FEnd K C E g1 H1 D (k su b s1)) :=
  ⟨g, su, s, R, r, (FEnd.fl (R := fun _ _ a b => a = b) p).mono fun v H1 ⟨g1, s1, u, R1, e, ru, p1⟩ => by subst ru; exact ⟨g1, s1, R1, r.ext e, e, p1⟩⟩
end
section
variable {X : Cx} {C : Nat → Addr} {E : XK} {pos : Pos} {a b c e : Expr} {ma mb mc me : SU → MS → Rv U} {mt : SU → MS → Rv Bool}
theorem ss_pass : PS X (.Pass pos) (sEv X.K C E fun su s => .nx su s) := PS.imp ps_pass fun D σ H ⟨g, su, s, R, r, p⟩ => FEnd.nx_ p R (Ext.refl _ _) r
theorem ss_brk : PS X (.Break pos) (sEv X.K C E fun su s => .bk su s) := PS.imp ps_break fun D σ H ⟨g, su, s, R, r, p⟩ => p g H σ R (Ext.refl _ _) r
theorem ss_cnt : PS X (.Continue pos) (sEv X.K C E fun su s => .ct su s) := PS.imp ps_continue fun D σ H ⟨g, su, s, R, r, p⟩ => p g H σ R (Ext.refl _ _) r
theorem ss_doc {x : Str} {j : Nat} {pos' : Pos} : PS X (.Expr (.Constant (.str x) j pos) pos') (sEv X.K C E fun su s => .nx su s) := PS.imp ps_doc fun D σ H ⟨g, su, s, R, r, p⟩ => FEnd.nx_ p R (Ext.refl _ _) r
theorem ss_exp (he : PE X e (eEv X.K C E me)) (hs : swapsWith e none pos.line X.env = pure false) : PS X (.Expr e pos) (sEv X.K C E fun su s => (me su s).fl su fun _ s1 => .nx su s1) := by
  refine PS.imp (ps_expr he hs) fun D σ H ⟨g, su, s, R, r, p⟩ => ?_
  obtain ⟨g0, su0, s0, q1, q2, q3⟩ := sEv_e (k := fun su _ s1 => .nx su s1) R r p
  exact ⟨g0, su0, s0, q1, q2, q3.mono fun v H1 ⟨g1, s1, u, R1, r1, ru, e1, p1⟩ => FEnd.nx_ p1 R1 (Ext.refl _ _) r1⟩
theorem ss_ret (he : PE X e (eEv X.K C E me)) : PS X (.Return (some e) pos) (sEv X.K C E fun su s => (me su s).fl su fun u s1 => .rt u s1) := by
  refine PS.imp (ps_ret he) fun D σ H ⟨g, su, s, R, r, p⟩ => ?_
  obtain ⟨g0, su0, s0, q1, q2, q3⟩ := sEv_e (k := fun su u s1 => .rt u s1) R r p
  exact ⟨g0, su0, s0, q1, q2, q3.mono fun v H1 ⟨g1, s1, u, R1, r1, ru, e1, p1⟩ => p1 g1 H1 v R1 (Ext.refl _ _) ru⟩
theorem ss_retN : PS X (.Return none pos) (sEv X.K C E fun su s => .rt .non s) := PS.imp ps_retN fun D σ H ⟨g, su, s, R, r, p⟩ => p g H .non R (Ext.refl _ _) .non
theorem ss_if {a b : List Stmt} {na nb : SU → MS → Fl} (hc : PT X c (tEv X.K C E mt)) (ha : PSs X a (sEv X.K C E na)) (hb : PSs X b (sEv X.K C E nb)) :
    PS X (.If c a b pos) (sEv X.K C E fun su s => (mt su s).fl su fun k s1 => if k then na su s1 else nb su s1) := by
  refine PS.imp (ps_if hc ha hb) fun D σ H ⟨g, su, s, R, r, p⟩ => ?_
  obtain ⟨g0, su0, s0, q1, q2, q3⟩ := sEv_t (k := fun su k s1 => if k then na su s1 else nb su s1) R r p
  refine ⟨g0, su0, s0, q1, q2, q3.mono fun k H1 ⟨g1, s1, R1, r1, e1, p1⟩ => ?_⟩
  cases k with
  | true => rw [if_pos rfl]; exact ⟨g1, su, s1, R1, r1, by simpa using p1⟩
  | false => rw [if_neg Bool.false_ne_true]; exact ⟨g1, su, s1, R1, r1, by simpa using p1⟩
/-! suites -/
theorem sss_nil : PSs X [] (sEv X.K C E fun su s => .nx su s) := PSs.imp pss_nil fun D σ H ⟨g, su, s, R, r, p⟩ => FEnd.nx_ p R (Ext.refl _ _) r
theorem sss_cons {st : Stmt} {rest : List Stmt} {n1 n2 : SU → MS → Fl} (h1 : PS X st (sEv X.K C E n1)) (h2 : PSs X rest (sEv X.K C E n2)) : PSs X (st :: rest) (sEv X.K C E fun su s => (n1 su s).then n2) :=
  PSs.imp (pss_cons h1 h2) fun D σ H ⟨g, su, s, R, r, p⟩ => ⟨g, su, s, R, r, FEnd.then p⟩
/-! stores -/
theorem ss_asg {tgE : Expr} {tg : Tg} (he : PE X e (eEv X.K C E me)) (hg : PG X tgE (gEv X.K C tg)) (hs : swapsWithSole [tgE] e pos.line X.env = pure false) (hw : swappedStores [tgE] e X.env = pure none) (h1 : (assignEach [tgE] X.env).map (·.2) = [assign tgE X.env]) :
    PS X (.Assign [tgE] e pos) (sEv X.K C E fun su s => (me su s).fl su fun u s1 => asgK tg u su s1) := by
  refine PS.imp (ps_asg he hg hs hw h1) fun D σ H ⟨g, su, s, R, r, p⟩ => ?_
  obtain ⟨g0, su0, s0, q1, q2, q3⟩ := sEv_e (k := fun su u s1 => asgK tg u su s1) R r p
  refine ⟨g0, su0, s0, q1, q2, q3.mono fun v H1 ⟨g1, s1, u, R1, r1, ru, e1, p1⟩ => ?_⟩
  unfold asgK at p1
  split at p1
  · rename_i su' hb
    exact ⟨g1, su, s1, u, su', R1, r1, ru, hb, fun σ' r' _ => FEnd.nx_ p1 R1 (Ext.refl _ _) r'⟩
  · exact p1.elim
/-- name = [..] on one line -/
theorem ss_setLc {i : Nat} {y : Str} {py spos : Pos} {elt tgE iter : Expr} {ifs : List Expr} {scope : Scope} {own : List (Str × Nat)} {mi : SU → MS → Rv Src} {tg : Tg} {mt : SU → MS → Rv Bool} {m : Bool}
    (hc : X.calm = true) (hN : X.N.Nodup) (hy : X.N[i]? = some y) (hyl : X.env.scope.names.lookup y = some .local)
    (hsw : swapsWith (.ListComp elt [⟨tgE, iter, ifs, 0⟩] scope pos) (some (.Name y py)) spos.line X.env = pure true)
    (hi : PI X tgE iter (iEv X.K C E mi)) (ok : BlkOk X.N X.env.scope scope own) (hsl : ∀ i ∈ slT tg, i ∈ own.map (·.2))
    (hg : ∀ (s : Shared) (H : Hp) (D : Addr) (cl : List (Str × Addr)) (fp : List Addr), PG (X.blk s H scope (compEnvC scope cl D X.env) fp) tgE (gEv X.K C tg)) (ht : ∀ (s : Shared) (H : Hp) (D : Addr) (cl : List (Str × Addr)) (fp : List Addr), PTs (X.blk s H scope (compEnvC scope cl D X.env) fp) ifs (tEv X.K C E0 mt))
    (he : ∀ (s : Shared) (H : Hp) (D : Addr) (cl : List (Str × Addr)) (fp : List Addr), PE (X.blk s H scope (compEnvC scope cl D X.env) fp) elt (eEv X.K C E0 me)) (hs : ∀ x, foldedSetIterable iter X.env x = pure x) :
    PS X (.Assign [.Name y py] (.ListComp elt [⟨tgE, iter, ifs, 0⟩] scope pos) spos) (sEv X.K C E fun su s => ((mi su s).bind fun r s1 => (lcL (own.map (·.2)) tg mt me r su r.items [] s1).bind fun us s2 => mkL m us s2).fl su fun u s1 => asgK (.name i) u su s1) := by
  refine PS.imp (ps_setLc hc hN hy hyl hsw hi ok hg ht he hs) fun D σ H ⟨g, su, s, R, r, p⟩ => ?_
  refine lc_read (m := m) hsl ?_
  obtain ⟨g0, su0, s0, q1, q2, q3⟩ := sEv_e (ma := fun su s => (mi su s).bind fun r s1 => (lcL (own.map (·.2)) tg mt me r su r.items [] s1).bind fun us s2 => mkL m us s2) (k := fun su u s1 => asgK (.name i) u su s1) R r p
  refine ⟨g0, su0, s0, q1, q2, q3.mono fun v H1 ⟨g1, s1, u, R1, r1, ru, e1, p1⟩ => ?_⟩
  exact FEnd.nx_ p1 R1 (Ext.refl _ _) (r1.set i ru)
theorem ss_setLc2 {i : Nat} {y : Str} {py spos : Pos} {elt tgE iter tgE1 iter1 : Expr} {ifs ifs1 : List Expr} {scope : Scope} {own : List (Str × Nat)} {vs1 : List Nat} {mi mi1 : SU → MS → Rv Src} {tg tg1 : Tg} {mt mt1 : SU → MS → Rv Bool} {m : Bool}
    (hc : X.calm = true) (hN : X.N.Nodup) (hy : X.N[i]? = some y) (hyl : X.env.scope.names.lookup y = some .local)
    (hsw : swapsWith (.ListComp elt [⟨tgE, iter, ifs, 0⟩, ⟨tgE1, iter1, ifs1, 0⟩] scope pos) (some (.Name y py)) spos.line X.env = pure true)
    (hi : PI X tgE iter (iEv X.K C E mi)) (ok : BlkOk X.N X.env.scope scope own) (hsl : ∀ i ∈ slT tg, i ∈ own.map (·.2)) (hv : ∀ i ∈ vs1, i ∈ own.map (·.2)) (hsl1 : ∀ i ∈ slT tg1, i ∈ vs1)
    (hg : ∀ (s : Shared) (H : Hp) (D : Addr) (cl : List (Str × Addr)) (fp : List Addr), PG (X.blk s H scope (compEnvC scope cl D X.env) fp) tgE (gEv X.K C tg)) (ht : ∀ (s : Shared) (H : Hp) (D : Addr) (cl : List (Str × Addr)) (fp : List Addr), PTs (X.blk s H scope (compEnvC scope cl D X.env) fp) ifs (tEv X.K C E0 mt))
    (hi1 : ∀ (s : Shared) (H : Hp) (D : Addr) (cl : List (Str × Addr)) (fp : List Addr), PI (X.blk s H scope (compEnvC scope cl D X.env) fp) tgE1 iter1 (iEv X.K C E0 mi1))
    (hg1 : ∀ (s : Shared) (H : Hp) (D : Addr) (cl : List (Str × Addr)) (fp : List Addr), PG (X.blk s H scope (compEnvC scope cl D X.env) fp) tgE1 (gEv X.K C tg1)) (ht1 : ∀ (s : Shared) (H : Hp) (D : Addr) (cl : List (Str × Addr)) (fp : List Addr), PTs (X.blk s H scope (compEnvC scope cl D X.env) fp) ifs1 (tEv X.K C E0 mt1))
    (he : ∀ (s : Shared) (H : Hp) (D : Addr) (cl : List (Str × Addr)) (fp : List Addr), PE (X.blk s H scope (compEnvC scope cl D X.env) fp) elt (eEv X.K C E0 me)) (hs : ∀ x, foldedSetIterable iter X.env x = pure x) (hs1 : ∀ env x, foldedSetIterable iter1 env x = pure x) :
    PS X (.Assign [.Name y py] (.ListComp elt [⟨tgE, iter, ifs, 0⟩, ⟨tgE1, iter1, ifs1, 0⟩] scope pos) spos) (sEv X.K C E fun su s => ((mi su s).bind fun r s1 => (lcI (own.map (·.2)) tg mt (inLc vs1 tg1 mi1 mt1 me) r su r.items [] s1).bind fun us s2 => mkL m us s2).fl su fun u s1 => asgK (.name i) u su s1) := by
  refine PS.imp (ps_setLc2 hc hN hy hyl hsw hi ok hv hg ht hi1 hg1 ht1 he hs hs1) fun D σ H ⟨g, su, s, R, r, p⟩ => ?_
  refine lc2_read (m := m) hsl hsl1 ?_
  obtain ⟨g0, su0, s0, q1, q2, q3⟩ := sEv_e (ma := fun su s => (mi su s).bind fun r s1 => (lcI (own.map (·.2)) tg mt (inLc vs1 tg1 mi1 mt1 me) r su r.items [] s1).bind fun us s2 => mkL m us s2) (k := fun su u s1 => asgK (.name i) u su s1) R r p
  refine ⟨g0, su0, s0, q1, q2, q3.mono fun v H1 ⟨g1, s1, u, R1, r1, ru, e1, p1⟩ => ?_⟩
  exact FEnd.nx_ p1 R1 (Ext.refl _ _) (r1.set i ru)
theorem ss_par {i j : Nat} {x y : Str} {px py pt : Pos} {kt k2 : Nat} {pt2 : Pos} (hc : X.calm = true) (hN : X.N.Nodup) (hi : X.N[i]? = some x) (hj : X.N[j]? = some y) (hij : i ≠ j)
    (hx : X.env.scope.names.lookup x = some .local) (hy : X.env.scope.names.lookup y = some .local) (ha : PE X a (eEv X.K C E ma)) (hb : PE X b (eEv X.K C E mb)) (hsB : starEach [a, b] X.env = [(false, eval a X.env), (false, eval b X.env)]) (hsC : starEach [b] X.env = [(false, eval b X.env)])
    (hw : swappedStores [.Tuple [.Name x px, .Name y py] kt pt] (.Tuple [a, b] k2 pt2) X.env = pure (some [x, y]))
    (hs : swapsWithSole [.Tuple [.Name x px, .Name y py] kt pt] (.Tuple [a, b] k2 pt2) pos.line X.env = pure false) :
    PS X (.Assign [.Tuple [.Name x px, .Name y py] kt pt] (.Tuple [a, b] k2 pt2) pos) (sEv X.K C E fun su s => (ma su s).fl su fun u s1 => (mb su s1).fl su fun v s2 => .nx ((su.set i (some u)).set j (some v)) s2) := by
  refine PS.imp (ps_par hc hN hi hj hij hx hy (pa_cons ha (pa_cons hb pa_nil (by rw [hsC]; rfl)) (by rw [hsB, hsC])) hw hs) fun D σ H ⟨g, su, s, R, r, p⟩ => ?_
  obtain ⟨g0, su0, s0, q1, q2, q3⟩ := sEv_e (k := fun su u s1 => (mb su s1).fl su fun v s2 => .nx ((su.set i (some u)).set j (some v)) s2) R r p
  refine ⟨g0, su0, s0, q1, q2, q3.mono fun v H1 ⟨g1, s1, u, R1, r1, ru, e1, p1⟩ => ?_⟩
  obtain ⟨g0, su0, s0, q1, q2, q3⟩ := sEv_e (k := fun su v s2 => .nx ((su.set i (some u)).set j (some v)) s2) R1 r1 p1
  refine ⟨g0, su0, s0, q1, q2, q3.mono fun w H2 ⟨g2, s2, u2, R2, r2, ru2, e2, p2⟩ => ?_⟩
  exact ⟨v, w, rfl, FEnd.nx_ p2 R2 (Ext.refl _ _) ((r2.set i (ru.ext e2)).set j ru2)⟩
theorem ss_aug {i : Nat} {x : Str} {pos' : Pos} (hN : X.N.Nodup) (hi : X.N[i]? = some x) (hx : Loc X.env.scope x) (hf : X.fn x = true ∨ X.env.scope.names.lookup x = some .local) (he : PE X e (eEv X.K C E me)) :
    PS X (.AugAssign (.Name x pos') .Add e pos) (sEv X.K C E fun su s => (varU i su s).fl su fun u s1 => (me su s1).fl su fun v s2 => augK i .add u v su s2) := by
  refine PS.imp (ps_aug hN hi hx he ip_add hf) fun D σ H ⟨g, su, s, R, r, p⟩ => ?_
  replace p : FEnd X.K C E g H D ((varU i su s).fl su fun u s1 => (me su s1).fl su fun v s2 => augK i .add u v su s2) := p
  unfold varU at p
  split at p
  · rename_i u hu
    obtain ⟨v, hv, rv⟩ := r.2 i u hu
    obtain ⟨g0, su0, s0, q1, q2, q3⟩ := sEv_e (k := fun su v s2 => augK i .add u v su s2) R r p
    refine ⟨v, hv, g0, su0, s0, q1, q2, q3.mono fun w H1 ⟨g1, s1, u1, R1, r1, ru, e1, p1⟩ => ?_⟩
    unfold augK at p1
    split at p1
    · cases rv.ext e1
      cases ru
      exact ⟨_, _, rfl, rfl, FEnd.nx_ p1 R1 (Ext.refl _ _) (r1.set i (.int _))⟩
    · exact p1.elim
  · exact p.elim
/-! o[i] = v -/
def rPut : TSet := fun o i v H Q => rSetL o i v H Q ∨ ∃ a H', o = .ref a ∧ DPut H a i v H' ∧ Q H'
theorem set_put (hu : X.A.units + 1 < cLine) : PSet X rPut := by
  intro pins s σ H o i v ov iv u Q I ro ri rv h
  rcases h with h | ⟨a, H', rfl, g, q⟩
  · exact set_list pins s σ H o i v ov iv u Q I ro ri rv h
  · cases ro
    exact d_setItem hu I g ri rv fun s' I' => ⟨H', I', q⟩
theorem RS.put {K : PySem.W.Frag} {g : Gh} {s s' : MS} {H : Hp} {u i w : U} {x y v : V} {Q : Hp → Prop} (R : RS K C g s H) (ru : RelU K g H u x) (ri : RelU K g H i y) (rw_ : RelU K g H w v) (h : setU u i w s = some s')
    (q : ∀ H', RS K C g s' H' → Ext g H g H' → Q H') : rPut x y v H Q := by
  unfold setU at h
  split at h
  · rename_i n
    cases ru with
    | @obj _ a ha =>
      split at h
      · rename_i us hs
        obtain ⟨z, vs, hq, rr⟩ := R.at_ n _ a hs ha
        split at h
        · rename_i k
          cases ri
          obtain ⟨j, hj, e⟩ := Option.map_eq_some_iff.mp h
          subst e
          have xw := Ext.write R (ho := .lst (vs.set j v)) ha
          exact .inl ⟨a, vs, k, j, rfl, rfl, hq, by rw [← rr.length]; exact hj, q _ (R.write ha trivial ⟨by simp; exact z, _, upd_same, RelUs.set (rw_.ext xw) j (rr.ext xw)⟩) xw⟩
        · cases h
      · rename_i kvs hs
        obtain ⟨z, vs, hq, rr⟩ := R.at_ n _ a hs ha
        split at h
        · rename_i hz
          obtain ⟨k, hk, e⟩ := Option.map_eq_some_iff.mp h
          subst e
          have hy := key_rel ri hk
          subst hy
          obtain ⟨vs', e1, r1⟩ := put_rel k rw_ rr
          have l0 := rr.length
          have hz' : ((kvs.map (·.1)).zip vs).length < sizeLine := by
            rw [← line_eq, List.length_zip, ← l0]
            simp
            exact hz
          have xw := Ext.write R (ho := .dK (putK ((kvs.map (·.1)).zip vs) k v)) ha
          refine .inr ⟨a, _, rfl, DPut.k hq hz', q _ (R.write ha trivial ⟨?_, vs', by rw [upd_same, e1], r1.ext xw⟩) xw⟩
          have := putA_len k w kvs
          rw [← line_eq]
          omega
        · cases h
      · rename_i kvs hs
        obtain ⟨z, vs, hq, rr⟩ := R.at_ n _ a hs ha
        split at h
        · rename_i hz
          obtain ⟨k, hk, e⟩ := Option.map_eq_some_iff.mp h
          subst e
          obtain ⟨bb, rfl, eb⟩ := tkey_rel ri hk
          obtain ⟨vs', e1, r1⟩ := put_rel k rw_ rr
          have l0 := rr.length
          have hz' : ((kvs.map (·.1)).zip vs).length < sizeLine := by
            rw [← line_eq, List.length_zip, ← l0]
            simp
            exact hz
          have xw := Ext.write R (ho := .dT (putK ((kvs.map (·.1)).zip vs) k v)) ha
          refine .inr ⟨a, _, rfl, DPut.t hq eb hz', q _ (R.write ha trivial ⟨?_, vs', by rw [upd_same, e1], r1.ext xw⟩) xw⟩
          have := putA_len k w kvs
          rw [← line_eq]
          omega
        · cases h
      · cases h
  · cases h
theorem ss_setI {o i : Expr} {mo mi : SU → MS → Rv U} {pos' : Pos} (hu : X.A.units + 110 < cLine) (he : PE X e (eEv X.K C E me)) (ho : PE X o (eEv X.K C E mo)) (hi : PE X i (eEv X.K C E mi)) (hs : swapsWithSole [.Subscript o i pos'] e pos.line X.env = pure false) (hw : swappedStores [.Subscript o i pos'] e X.env = pure none)
    (hsl : ∀ v, assign (.Subscript o i pos') X.env v = (do
      let ov ← holding [v] (eval o X.env)
      let iv ← holding [v, ov] (eval i X.env)
      standAt pos'
      holding [v, ov, iv] (setItem ov iv v)
      release [v, ov, iv] [])) :
    PS X (.Assign [.Subscript o i pos'] e pos) (sEv X.K C E fun su s => (me su s).fl su fun v s1 => (mo su s1).fl su fun u s2 => (mi su s2).fl su fun k s3 => setK u k v su s3) := by
  refine PS.imp (ps_asg he (pg_sub ho hi (set_put (by omega)) hsl) hs hw (by rfl)) fun D σ H ⟨g, su, s, R, r, p⟩ => ?_
  obtain ⟨g0, su0, s0, q1, q2, q3⟩ := sEv_e (k := fun su v s1 => (mo su s1).fl su fun u s2 => (mi su s2).fl su fun k s3 => setK u k v su s3) R r p
  refine ⟨g0, su0, s0, q1, q2, q3.mono fun v H1 ⟨g1, s1, w, R1, r1, rw_, e1, p1⟩ => ?_⟩
  obtain ⟨g0, su0, s0, q1, q2, q3⟩ := sEv_e (k := fun su u s2 => (mi su s2).fl su fun k s3 => setK u k w su s3) R1 r1 p1
  refine ⟨g0, su0, s0, q1, q2, q3.mono fun x H2 ⟨g2, s2, u, R2, r2, ru, e2, p2⟩ => ?_⟩
  obtain ⟨g0, su0, s0, q1, q2, q3⟩ := sEv_e (k := fun su k s3 => setK u k w su s3) R2 r2 p2
  refine ⟨g0, su0, s0, q1, q2, q3.mono fun y H3 ⟨g3, s3, k, R3, r3, rk, e3, p3⟩ => ?_⟩
  unfold setK at p3
  split at p3
  · rename_i s' hset
    exact R3.put (ru.ext e3) rk ((rw_.ext e2).ext e3) hset fun H' R' xw => FEnd.nx_ p3 R' xw (r3.ext xw)
  · exact p3.elim
/-! loops -/
structure ForW (K : PySem.W.Frag) (C : Nat → Addr) (E : XK) (g1 : Gh) (H1 : Hp) (D : Ends) (n : Nat) (k : Nat → SU → MS → Fl) (i m : Nat) (σ : L2.St) (H : Hp) : Prop where
  eq : m = n - i
  le : i ≤ n
  st : ∃ g su s, RS K C g s H ∧ RSt K g H su σ ∧ ExtW g1 H1 g H ∧ FEnd K C E g H D (k i su s)
theorem ss_for {tgE iter : Expr} {body : List Stmt} {mi : SU → MS → Rv Src} {tg : Tg} {nb : SU → MS → Fl} (hp : PassesOwn (model X.prog X.w) X.A X.env X.xe) (hc : X.calm = true) (hi : PI X tgE iter (iEv X.K C E mi)) (hg : PG X tgE (gEv X.K C tg)) (hb : PSs X body (sEv X.K C E nb)) (hs : ∀ x, foldedSetIterable iter X.env x = pure x) :
    PS X (.For tgE iter body [] pos) (sEv X.K C E fun su s => (mi su s).fl su fun r s1 => forL tg nb r r.items su s1) := by
  refine PS.imp (ps_for hp hc hi hg hb hs) fun D σ H ⟨g, su, s, R, rs, p⟩ => ?_
  refine ⟨g, su, s, R, rs, (FEnd.fl (R := fun g' H' r J => ItOk X.K C J r g' H') p).mono fun J H1 ⟨g1, s1, r, R1, e1, ok, p1⟩ => ?_⟩
  refine ⟨ForW X.K C E g1 H1 D r.items.length (fun i su s => forL tg nb r (r.items.drop i) su s), ⟨r.items.length, by simp, Nat.zero_le _, g1, su, s1, R1, rs.ext e1, (Ext.refl _ _).weak, p1⟩, ?_⟩
  rintro i n σ2 H2 ⟨rfl, hi, g2, su2, s2, R2, r2, e2, p2⟩
  replace p2 : FEnd X.K C E g2 H2 D (forL tg nb r (r.items.drop i) su2 s2) := p2
  by_cases hlt : i < r.items.length
  · refine .inr ?_
    obtain ⟨x, hx, hd⟩ := drop_cons hlt
    rw [hd, forL] at p2
    by_cases ho : r.ok s2 = true
    · rw [if_pos ho] at p2
      obtain ⟨go, yl⟩ := ok.go i x g2 s2 H2 R2 e2 ho hx
      refine ⟨go, _, fun σ' H' hH => ⟨r.items.length - (i + 1), by omega, hH⟩, fun y H3 hy => ?_⟩
      obtain ⟨R3, e3, ry, _⟩ := yl y H3 hy
      cases hbt : bindT tg x su2 with
      | none => rw [hbt] at p2; exact p2.elim
      | some su3 =>
        rw [hbt] at p2
        refine ⟨g2, su2, s2, x, su3, R3, r2.ext e3, ry, hbt, fun σ3 r3 off => ⟨g2, su3, s2, R3, r3, ?_⟩⟩
        simp only at p2
        replace p2 := p2.ext e3
        have x3 : ExtW g1 H1 g2 H3 := e2.trans e3.weak
        cases hf : nb su3 s2 with
        | nx su4 s4 =>
          rw [hf] at p2
          exact fun g' H' σ' R' e' r' => ⟨rfl, hlt, g', su4, s4, R', r', x3.trans e'.weak, p2.ext e'⟩
        | ct su4 s4 =>
          rw [hf] at p2
          exact fun g' H' σ' R' e' r' => ⟨rfl, hlt, g', su4, s4, R', r', x3.trans e'.weak, p2.ext e'⟩
        | bk su4 s4 => rw [hf] at p2; exact p2
        | rt u s4 => rw [hf] at p2; exact p2
        | ex c su4 s4 => rw [hf] at p2; exact p2
        | no => rw [hf] at p2; exact p2
    · rw [if_neg ho] at p2
      exact p2.elim
  · have e : i = r.items.length := by omega
    subst e
    refine .inl ?_
    rw [List.drop_length, forL] at p2
    by_cases ho : r.ok s2 = true
    · rw [if_pos ho] at p2
      exact ⟨ok.stop g2 s2 H2 R2 e2 ho, FEnd.nx_ p2 R2 (Ext.refl _ _) r2⟩
    · rw [if_neg ho] at p2
      exact p2.elim
theorem ss_whl {body : List Stmt} {nb : SU → MS → Fl} {n : Nat} (hp : PassesOwn (model X.prog X.w) X.A X.env X.xe) (hc : PT X c (tEv X.K C E mt)) (hb : PSs X body (sEv X.K C E nb)) : PS X (.While c body [] pos) (sEv X.K C E fun su s => whlL mt nb n su s) := by
  refine PS.imp (ps_while hp hc hb) fun D σ H ⟨g, su, s, R, rs, p⟩ => ?_
  refine ⟨fun m σ H => ∃ g su s, RS X.K C g s H ∧ RSt X.K g H su σ ∧ FEnd X.K C E g H D (whlL mt nb m su s), ⟨n, g, su, s, R, rs, p⟩, ?_⟩
  rintro m σ1 H1 ⟨g1, su1, s1, R1, r1, p1⟩
  cases m with
  | zero => exact p1.elim
  | succ m =>
    rw [whlL] at p1
    obtain ⟨g0, su0, s0, q1, q2, q3⟩ := sEv_t (k := fun su b s1 => if b then
      match nb su s1 with
      | .nx su2 s2 => whlL mt nb m su2 s2
      | .ct su2 s2 => whlL mt nb m su2 s2
      | .bk su2 s2 => .nx su2 s2
      | f => f
    else .nx su s1) R1 r1 p1
    refine ⟨g0, su0, s0, q1, q2, q3.mono fun k H2 ⟨g2, s2, R2, r2, e2, p2⟩ => ?_⟩
    cases k with
    | false =>
      rw [if_neg Bool.false_ne_true] at p2 ⊢
      exact FEnd.nx_ p2 R2 (Ext.refl _ _) r2
    | true =>
      rw [if_pos rfl] at p2 ⊢
      refine ⟨_, fun σ' H' h => ⟨m, Nat.lt_succ_self _, h⟩, g2, su1, s2, R2, r2, ?_⟩
      cases hf : nb su1 s2 with
      | nx su4 s4 => rw [hf] at p2; exact fun g' H' σ' R' e' r' => ⟨g', su4, s4, R', r', p2.ext e'⟩
      | ct su4 s4 => rw [hf] at p2; exact fun g' H' σ' R' e' r' => ⟨g', su4, s4, R', r', p2.ext e'⟩
      | bk su4 s4 => rw [hf] at p2; exact p2
      | rt u s4 => rw [hf] at p2; exact p2
      | ex c su4 s4 => rw [hf] at p2; exact p2
      | no => rw [hf] at p2; exact p2
end
end Pv
set_option autoImplicit false
set_option Elab.async false
set_option linter.all false
set_option maxRecDepth 100000
set_option maxHeartbeats 1000000
namespace Pv
open PySem PySem.Spec PyProof.Rows L2

/-! ### objects of classes -/
section
variable {K : PySem.W.Frag} {C : Nat → Addr} {g : Gh} {s : MS} {H : Hp}
theorem RS.insOf (R : RS K C g s H) {u : U} {v : V} {n c : Nat} {fs : List (Str × U)} (r : RelU K g H u v) (h : Pv.insOf s u = some (n, c, fs)) :
    ∃ a dx vs, v = .ref a ∧ u = .obj n ∧ s[n]? = some (.ins c fs) ∧ g.al[n]? = some (some a) ∧ H a = some (.ins (C c) dx ((fs.map (·.1)).zip vs)) ∧ RelUs K g H (fs.map (·.2)) vs := by
  cases r with
  | @obj m a ha =>
    simp only [Pv.insOf] at h
    split at h
    · rename_i c' fs' e
      cases h
      obtain ⟨dx, vs, q, rr⟩ := R.at_ _ _ a e ha
      exact ⟨a, dx, vs, rfl, rfl, e, ha, q, rr⟩
    · cases h
  | _ => simp [Pv.insOf] at h
theorem look_fs {f : Str} : ∀ {fs : List (Str × U)} {vs : List V}, RelUs K g H (fs.map (·.2)) vs → (fs.lookup f = none → ((fs.map (·.1)).zip vs).lookup f = none) ∧ ∀ u, fs.lookup f = some u → ∃ v, ((fs.map (·.1)).zip vs).lookup f = some v ∧ RelU K g H u v
  | [], _, .nil => ⟨fun _ => rfl, fun u h => by simp at h⟩
  | (k, x) :: fs, _, .cons (v := w) (vs := ws) r t => by
    obtain ⟨h1, h2⟩ := look_fs (f := f) (fs := fs) t
    simp only [List.map_cons, List.zip_cons_cons, List.lookup_cons]
    cases f == k with
    | true => exact ⟨fun h => by simp at h, fun u h => by cases h; exact ⟨w, rfl, r⟩⟩
    | false => exact ⟨h1, h2⟩
theorem put_fs {f : Str} {u : U} {v : V} (r : RelU K g H u v) : ∀ {fs : List (Str × U)} {vs : List V}, RelUs K g H (fs.map (·.2)) vs → ∃ vs', L2.putF f v ((fs.map (·.1)).zip vs) = ((Pv.putF f u fs).map (·.1)).zip vs' ∧ RelUs K g H ((Pv.putF f u fs).map (·.2)) vs'
  | [], _, .nil => ⟨[v], rfl, .cons r .nil⟩
  | (k, x) :: fs, _, .cons (v := w) (vs := ws) q t => by
    obtain ⟨vs', e, r'⟩ := put_fs (f := f) r (fs := fs) t
    simp only [List.map_cons, List.zip_cons_cons]
    rw [show L2.putF f v ((k, w) :: (fs.map (·.1)).zip ws) = (if k = f then (k, v) :: (fs.map (·.1)).zip ws else (k, w) :: L2.putF f v ((fs.map (·.1)).zip ws)) from rfl, show Pv.putF f u ((k, x) :: fs) = (if k = f then (k, u) :: fs else (k, x) :: Pv.putF f u fs) from rfl]
    by_cases hk : k = f
    · rw [if_pos hk, if_pos hk]
      exact ⟨v :: ws, rfl, .cons r t⟩
    · rw [if_neg hk, if_neg hk, e]
      exact ⟨w :: vs', rfl, .cons q r'⟩
end
section
variable {X : Cx} {C : Nat → Addr} {E : XK} {pos : Pos} {o e : Expr} {mo me : SU → MS → Rv U} {mes : SU → MS → Rv (List U)}
theorem se_fld {c : Nat} {f : Str} (hc : Cls X.K (C c)) (hn : NoAttr X.K (C c) f) (ho : PE X o (eEv X.K C E mo)) (hb : attributeBase o f X.env (eval o X.env) = eval o X.env) :
    PE X (.Attribute o f pos) (eEv X.K C E fun su s => (mo su s).bind fun u s1 => fldU c u f s1) := by
  refine PE.imp (pe_fld ho hb) fun σ H Q ⟨g, su, s, R, rs, p⟩ => ?_
  obtain ⟨g0, su0, s0, q1, q2, q3⟩ := eEv_seq (f := fun su u s1 => fldU c u f s1) R rs p
  refine ⟨g0, su0, s0, q1, q2, q3.mono fun x H1 ⟨g1, s1, u, R1, rs1, ru, e1, p1⟩ => ?_⟩
  unfold fldU at p1
  split at p1
  · rename_i n c' fs hi
    split at p1
    · rename_i hcc
      subst hcc
      obtain ⟨w, ew, p2⟩ := p1.of_
      obtain ⟨a, dx, vs, rfl, rfl, hs, ha, hq, rr⟩ := R1.insOf ru hi
      obtain ⟨v, hv, rv⟩ := (look_fs rr).2 w ew
      exact ⟨a, _, dx, _, v, rfl, hq, hc, hn, hv, Pst.val p2 R1 rv⟩
    · exact p1.elim
  · exact p1.elim
theorem ss_setF {c : Nat} {f : Str} {pos' : Pos} (hc : Cls X.K (C c)) (hn : NoAttr X.K (C c) f) (ho : PE X o (eEv X.K C E mo)) (he : PE X e (eEv X.K C E me)) (hs : swapsWith e (some (.Attribute o f pos')) pos.line X.env = pure false) :
    PS X (.Assign [.Attribute o f pos'] e pos) (sEv X.K C E fun su s => (me su s).fl su fun v s1 => (mo su s1).fl su fun u s2 => setFK c u f v su s2) := by
  refine PS.imp (ps_fld ho he hs) fun D σ H ⟨g, su, s, R, r, p⟩ => ?_
  obtain ⟨g0, su0, s0, q1, q2, q3⟩ := sEv_e (k := fun su v s1 => (mo su s1).fl su fun u s2 => setFK c u f v su s2) R r p
  refine ⟨g0, su0, s0, q1, q2, q3.mono fun y H1 ⟨g1, s1, v, R1, r1, rv, e1, p1⟩ => ?_⟩
  obtain ⟨g0, su0, s0, q1, q2, q3⟩ := sEv_e (k := fun su u s2 => setFK c u f v su s2) R1 r1 p1
  refine ⟨g0, su0, s0, q1, q2, q3.mono fun x H2 ⟨g2, s2, u, R2, r2, ru, e2, p2⟩ => ?_⟩
  unfold setFK at p2
  split at p2
  · rename_i n c' fs hi
    split at p2
    · rename_i hcc
      obtain ⟨rfl, hl⟩ := hcc
      obtain ⟨a, dx, vs, rfl, rfl, hs, ha, hq, rr⟩ := R2.insOf ru hi
      have hlen := rr.length
      obtain ⟨vs', e3, rr'⟩ := put_fs (f := f) (rv.ext e2) rr
      refine ⟨a, _, dx, _, rfl, hq, hc, hn, by rw [List.length_zip]; simp only [List.length_map] at hlen ⊢; omega, ?_⟩
      rw [e3]
      have xw := Ext.write R2 (ho := .ins (C c') dx (((Pv.putF f v fs).map (·.1)).zip vs')) ha
      exact FEnd.nx_ p2 (R2.write ha trivial ⟨dx, vs', upd_same, rr'.ext xw⟩) xw (r2.ext xw)
    · exact p2.elim
  · exact p2.elim
theorem meth_tree {o : Expr} {m : Str} {apos : Pos} {args : List Expr} {env : Env} (hb : attributeBase o m env (eval o env) = eval o env) (hs : (backTo pos (starEach args env)).all (fun x => !x.1) = true) (hl : args.length < 30) (hline : (apos.endLine == pos.line) = true) : eval (.Call (.Attribute o m apos) args [] pos) env = (do
      let ov ← eval o env
      standAt apos.atName
      let (f, first) ← holding [ov] (getMethod ov m (do return (← importBound o env).getD true))
      callWith pos f first (backTo pos (starEach args env)) (backToKw pos (keywordEach [] env))) := by
  rw [arm_eval_Call, hb]
  have hform : methodCallForm (args.length + ([] : List Keyword).length) (backTo pos (starEach args env)) (backToKw pos (keywordEach [] env)) = true := by
    unfold methodCallForm
    rw [hs]
    simp only [backToKw, keywordEach, List.map_nil, List.all_nil, List.isEmpty_nil, Bool.true_and, List.length_nil, Nat.add_zero, if_true]
    exact decide_eq_true hl
  have hpos : methodCallPos true o env apos pos = pure pos := by unfold methodCallPos; simp [hline]
  unfold methodCall
  rw [hform, hpos]
  rfl
/-- what a method makes of the object and the arguments -/
theorem meth_in {c n : Nat} {m : Str} {F : List U → MS → Rv U} {σ : L2.St} {su : SU} {g1 : Gh} {s1 : MS} {u : U} {x : V} {H1 : Hp} {Q : VK} (hn : ∀ us s, us.length ≠ n → F us s = .no) (R1 : RS X.K C g1 s1 H1) (rs1 : RSt X.K g1 H1 su σ) (ru : RelU X.K g1 H1 u x)
    (p1 : Pst X.K C (RelU X.K) (WOf E) g1 H1 (mthK c m u (fun s1 => (mes su s1).bind fun us s2 => F (u :: us) s2) s1) Q) :
    ∃ a dx fs, x = .ref a ∧ H1 a = some (.ins (C c) dx fs) ∧ fs.lookup m = none ∧ aEv X.K C E mes σ H1 fun vs H2 => spEv X.K C n F (x :: (vs ++ [])) H2 Q E := by
  unfold mthK at p1
  split at p1
  · rename_i n' c' fs hi
    split at p1
    · rename_i hcc
      obtain ⟨rfl, hl⟩ := hcc
      obtain ⟨a, dx, vs, rfl, rfl, hs, ha, hq, rr⟩ := R1.insOf ru hi
      refine ⟨a, dx, _, rfl, hq, (look_fs rr).1 hl, ?_⟩
      obtain ⟨g0, su0, s0, q1, q2, q3⟩ := aEv_seq (f := fun su us s2 => F (.obj n' :: us) s2) R1 rs1 p1
      refine ⟨g0, su0, s0, q1, q2, q3.mono fun ws H2 ⟨g2, s2, us, R2, rs2, rus, e2, p2⟩ => ?_⟩
      have hl : (U.obj n' :: us).length = n := by
        by_cases q : (U.obj n' :: us).length = n
        · exact q
        · rw [hn _ s2 q] at p2
          exact p2.elim
      rw [List.append_nil]
      exact ⟨by rw [List.length_cons, ← rus.length]; exact hl, g2, s2, _, R2, .cons (ru.ext e2) rus, p2⟩
    · exact p1.elim
  · exact p1.elim
theorem se_mth {CX : CXT} {k n c : Nat} {f : Addr} {fd : FuncData} {ps : List Str} {m : Str} {apos : Pos} {F : List U → MS → Rv U} {es : List Expr} (hcl : Cls X.K (C c)) (hm : Meth X.K (C c) m f) (hF : FnOk X.prog X.w X.K X.mg X.base CX k f fd ps (spEv X.K C n F)) (hn : ∀ us s, us.length ≠ n → F us s = .no) (hr : Room k X.A)
    (hb : Binds X.K fd ps []) (hx : Passes CX X E) (ho : PE X o (eEv X.K C E mo)) (h : PA X (e :: es) (aEv X.K C E mes)) (hst : starEach (e :: es) X.env = (false, eval e X.env) :: starEach es X.env) (hpl : (backTo pos (starEach es X.env)).any (·.1) = false)
    (hba : attributeBase o m X.env (eval o X.env) = eval o X.env) (hline : (apos.endLine == pos.line) = true) (hall : (backTo pos (starEach (e :: es) X.env)).all (fun x => !x.1) = true) (hlen : (e :: es).length < 30) :
    PE X (.Call (.Attribute o m apos) (e :: es) [] pos) (eEv X.K C E fun su s => (mo su s).bind fun u s1 => mthK c m u (fun s1 => (mes su s1).bind fun us s2 => F (u :: us) s2) s1) := by
  have ht := meth_tree (pos := pos) (m := m) (apos := apos) (args := e :: es) (env := X.env) hba hall hlen hline
  refine PE.imp (pe_meth ho hcl hm hF hr hb (dvs := []) .nil hx h hst hpl ht) fun σ H Q ⟨g, su, s, R, rs, p⟩ => ?_
  obtain ⟨g0, su0, s0, q1, q2, q3⟩ := eEv_seq (f := fun su u s1 => mthK c m u (fun s1 => (mes su s1).bind fun us s2 => F (u :: us) s2) s1) R rs p
  exact ⟨g0, su0, s0, q1, q2, q3.mono fun x H1 ⟨g1, s1, u, R1, rs1, ru, e1, p1⟩ => meth_in hn R1 rs1 ru p1⟩
theorem se_mth0 {CX : CXT} {k n c : Nat} {f : Addr} {fd : FuncData} {ps : List Str} {m : Str} {apos : Pos} {F : List U → MS → Rv U} (hcl : Cls X.K (C c)) (hm : Meth X.K (C c) m f) (hF : FnOk X.prog X.w X.K X.mg X.base CX k f fd ps (spEv X.K C n F)) (hn : ∀ us s, us.length ≠ n → F us s = .no) (hr : Room k X.A)
    (hb : Binds X.K fd ps []) (hx : Passes CX X E) (ho : PE X o (eEv X.K C E mo)) (hba : attributeBase o m X.env (eval o X.env) = eval o X.env) (hline : (apos.endLine == pos.line) = true) :
    PE X (.Call (.Attribute o m apos) [] [] pos) (eEv X.K C E fun su s => (mo su s).bind fun u s1 => mthK c m u (fun s1 => (Rv.ok [] s1 : Rv (List U)).bind fun us s2 => F (u :: us) s2) s1) := by
  have ht := meth_tree (pos := pos) (m := m) (apos := apos) (args := []) (env := X.env) hba rfl (by decide) hline
  refine PE.imp (pe_meth0 ho hcl hm hF hr hb (dvs := []) .nil hx ht) fun σ H Q ⟨g, su, s, R, rs, p⟩ => ?_
  obtain ⟨g0, su0, s0, q1, q2, q3⟩ := eEv_seq (f := fun su u s1 => mthK c m u (fun s1 => (Rv.ok [] s1 : Rv (List U)).bind fun us s2 => F (u :: us) s2) s1) R rs p
  refine ⟨g0, su0, s0, q1, q2, q3.mono fun x H1 ⟨g1, s1, u, R1, rs1, ru, e1, p1⟩ => ?_⟩
  obtain ⟨a, dx, fs, h1, h2, h3, g9, su9, s9, w1, w2, w3⟩ := meth_in (mes := fun _ s => .ok [] s) hn R1 rs1 ru p1
  exact ⟨a, dx, fs, h1, h2, h3, Pst.ok_ w3 w1 (Ext.refl _ _) .nil⟩
/-- C(..) -/
theorem se_new {CX : CXT} {k n c : Nat} {f : Addr} {fd : FuncData} {ps : List Str} {x : Str} {p0 : Pos} {F : List U → MS → Rv U} {es : List Expr} (M : Mk X.K (C c) f) (hF : FnOk X.prog X.w X.K X.mg X.base CX k f fd ps (spEv X.K C n F)) (hn : ∀ us s, us.length ≠ n → F us s = .no) (hr : Room (k + 1) X.A)
    (hg : Gl X x) (hm : X.mg x = some (.ref (C c))) (hb : Binds X.K fd ps []) (hx : Passes CX X E) (h : PA X (e :: es) (aEv X.K C E mes)) (hd : (x == ("__debug__" : Str)) = false) (he : starEach (e :: es) X.env = (false, eval e X.env) :: starEach es X.env) (hpl : (backTo pos (starEach es X.env)).any (·.1) = false) :
    PE X (.Call (.Name x p0) (e :: es) [] pos) (eEv X.K C E fun su s => (mes su s).bind fun us s1 => (F (.obj s1.length :: us) (s1 ++ [.ins c []])).bind fun v s2 => newK s1.length v s2) := by
  refine PE.imp (pe_make M hF hr hg hm hb (dvs := []) .nil hx h hd he hpl) fun σ H Q ⟨g, su, s, R, rs, p⟩ => ?_
  obtain ⟨g0, su0, s0, q1, q2, q3⟩ := aEv_seq (f := fun su us s1 => (F (.obj s1.length :: us) (s1 ++ [.ins c []])).bind fun v s2 => newK s1.length v s2) R rs p
  refine ⟨g0, su0, s0, q1, q2, q3.mono fun vs H1 ⟨g1, s1, us, R1, rs1, rus, e1, p1⟩ => ?_⟩
  intro y dx ny ndx ne
  rw [List.append_nil]
  have hl : (U.obj s1.length :: us).length = n := by
    by_cases q : (U.obj s1.length :: us).length = n
    · exact q
    · rw [hn _ _ q] at p1
      exact p1.elim
  have Ra : RS X.K C g1 s1 (upd H1 dx (.own y)) := R1.new ndx
  have ea : Ext g1 H1 g1 (upd H1 dx (.own y)) := Ext.new R1 ndx
  have ny' : upd H1 dx (.own y) y = none := by rw [upd_ne ne.symm]; exact ny
  have Rb : RS X.K C (g1.push y) (s1 ++ [.ins c []]) (upd (upd H1 dx (.own y)) y (.ins (C c) dx [])) := Ra.newO (o := .ins c []) ny' trivial ⟨dx, [], upd_same, .nil⟩
  have eb := Ext.newO Ra (o := .ins (C c) dx []) ny'
  have hy : (g1.push y).al[s1.length]? = some (some y) := by rw [← R1.len]; exact Gh.push_last
  refine ⟨by rw [List.length_cons, ← rus.length]; exact hl, g1.push y, _, _, Rb, .cons (.obj hy) ((rus.ext ea).ext eb), ?_⟩
  have p2 := Pst.ext (ea.trans eb) p1
  refine (Pst.bind (R := RelU X.K) p2).mono fun v H2 ⟨g2, s2, w, R2, e2, rw_, p3⟩ => ?_
  unfold newK at p3
  split at p3
  · rename_i ew
    subst ew
    cases rw_
    exact ⟨rfl, Pst.ok_ p3 R2 (Ext.refl _ _) (.obj (e2.obj _ _ hy))⟩
  · exact p3.elim
theorem se_newC {CX : CXT} {lv n c : Nat} {f : Addr} {fd : FuncData} {ps : List Str} {x : Str} {p0 : Pos} {D : Nat → Option Def} {G : Str → Option U} {fi : Nat} {es : List Expr} (M : Mk X.K (C c) f) (hF : FnOk X.prog X.w X.K X.mg X.base CX (lv - 1) f fd ps (spEv X.K C n (callF D G (lv - 1) fi))) (hn : ∀ us s, us.length ≠ n → callF D G (lv - 1) fi us s = .no) (hr : Room lv X.A)
    (hg : Gl X x) (hm : X.mg x = some (.ref (C c))) (hb : Binds X.K fd ps []) (hx : Passes CX X E) (h : PA X (e :: es) (aEv X.K C E mes)) (hd : (x == ("__debug__" : Str)) = false) (he : starEach (e :: es) X.env = (false, eval e X.env) :: starEach es X.env) (hpl : (backTo pos (starEach es X.env)).any (·.1) = false) :
    PE X (.Call (.Name x p0) (e :: es) [] pos) (eEv X.K C E fun su s => (mes su s).bind fun us s1 => (callF D G (lv - 1) fi (.obj s1.length :: us) (s1 ++ [.ins c []])).bind fun v s2 => newK s1.length v s2) := by
  cases lv with
  | succ k => exact se_new M hF hn hr hg hm hb hx h hd he hpl
  | zero =>
    refine PE.imp (t := fun σ H Q => aEv X.K C E mes σ H fun _ _ => False) ?_ fun σ H Q ⟨g, su, s, R, rs, p⟩ => ?_
    · refine ⟨fun pins s σ H Q I hq => ?_⟩
      refine wpAny_Call_Name_kw (ld_glob I hg hm ?_ hd)
      exact PySem.W.callWith_K (h₀ := X.base) I.ok.mod.kin M.kp (thn (h.run pos pins s σ H _ I hq) fun us s1 ⟨vs, H1, I1, r, q⟩ => q.elim) he hpl
    · obtain ⟨g0, su0, s0, q1, q2, q3⟩ := aEv_seq (f := fun su us s1 => (callF D G (0 - 1) fi (.obj s1.length :: us) (s1 ++ [.ins c []])).bind fun v s2 => newK s1.length v s2) R rs p
      refine ⟨g0, su0, s0, q1, q2, q3.mono fun vs H1 ⟨g1, s1, us, R1, rs1, rus, e1, p1⟩ => ?_⟩
      simp only [Nat.zero_sub, callF] at p1
      exact p1.elim
theorem ss_nev {st : Stmt} : PS X st (sEv X.K C E fun _ _ => .no) := PS.imp ps_never fun D σ H ⟨_, _, _, _, _, p⟩ => p
end
end Pv
set_option autoImplicit false
set_option Elab.async false
set_option linter.all false
set_option maxRecDepth 100000
set_option maxHeartbeats 1000000
namespace Pv
open PySem PySem.Spec PyProof.Rows L2

/-! ### methods of dicts, lists, tuples -/
section
variable {X : Cx} {C : Nat → Addr} {E : XK} {pos : Pos} {o e f : Expr} {mo me mf : SU → MS → Rv U}
def one_ (me : SU → MS → Rv U) (su : SU) (s : MS) : Rv (List U) := (me su s).bind fun w s2 => (Rv.ok [] s2 : Rv (List U)).bind fun us s3 => .ok (w :: us) s3
def two_ (me mf : SU → MS → Rv U) (su : SU) (s : MS) : Rv (List U) := (me su s).bind fun w s2 => (one_ mf su s2).bind fun us s3 => .ok (w :: us) s3
theorem se_get {apos : Pos} (hu : X.A.units + 1 < cLine) (ho : PE X o (eEv X.K C E mo)) (he : PE X e (eEv X.K C E me)) (hf : PE X f (eEv X.K C E mf)) (m : M2 X o "get" apos e f pos) :
    PE X (.Call (.Attribute o "get" apos) [e, f] [] pos) (eEv X.K C E fun su s => (mo su s).bind fun u s1 => meK .get u (fun s1 => (two_ me mf su s1).bind fun us s2 => meU .get u us s2) s1) := by
  refine PE.imp (pe_dget2 hu ho he hf m) fun σ H Q ⟨g, su, s, R, rs, p⟩ => ?_
  obtain ⟨g0, su0, s0, q1, q2, q3⟩ := eEv_seq (f := fun su u s1 => meK .get u (fun s1 => (two_ me mf su s1).bind fun us s2 => meU .get u us s2) s1) R rs p
  refine ⟨g0, su0, s0, q1, q2, q3.mono fun x H1 ⟨g1, s1, u, R1, rs1, ru, e1, p1⟩ => ?_⟩
  unfold meK at p1
  split at p1
  · rename_i hrc
    unfold recv at hrc
    simp only [Bool.or_eq_true] at hrc
    have hd : ∃ a, x = .ref a ∧ IsD H1 a := by
      rcases hrc with h | h
      · obtain ⟨kvs, hk⟩ := Option.isSome_iff_exists.mp h
        obtain ⟨a, vs, rfl, hq, _⟩ := R1.dKOf ru hk
        exact ⟨a, rfl, .inl ⟨_, hq⟩⟩
      · obtain ⟨kvs, hk⟩ := Option.isSome_iff_exists.mp h
        obtain ⟨a, vs, rfl, hq, _⟩ := R1.dTOf ru hk
        exact ⟨a, rfl, .inr ⟨_, hq⟩⟩
    obtain ⟨a, rfl, hd⟩ := hd
    refine ⟨a, rfl, hd, ?_⟩
    simp only [two_, one_, Rv.assoc, Rv.bind_ok] at p1
    obtain ⟨g0, su0, s0, q1, q2, q3⟩ := eEv_seq (f := fun su w s2 => (mf su s2).bind fun z s3 => meU .get u [w, z] s3) R1 rs1 p1
    refine ⟨g0, su0, s0, q1, q2, q3.mono fun y H2 ⟨g2, s2, w, R2, rs2, rw_, e2, p2⟩ => ?_⟩
    obtain ⟨g0, su0, s0, q1, q2, q3⟩ := eEv_seq (f := fun su z s3 => meU .get u [w, z] s3) R2 rs2 p2
    refine ⟨g0, su0, s0, q1, q2, q3.mono fun z H3 ⟨g3, s3, d, R3, rs3, rd, e3, p3⟩ => ?_⟩
    have ru3 := (ru.ext e2).ext e3
    have rw3 := rw_.ext e3
    simp only [meU] at p3
    obtain ⟨v, ev, p4⟩ := p3.of_
    unfold getU at ev
    split at ev
    · rename_i kvs hk
      obtain ⟨kk, ek, rfl⟩ := Option.map_eq_some_iff.mp ev
      obtain ⟨a', ov, ea, dg, hcase⟩ := dget_k R3 ru3 rw3 hk ek
      cases ea
      refine ⟨ov, dg, ?_⟩
      rcases hcase with ⟨h1, rfl⟩ | ⟨w1, x1, h1, rfl, rx⟩
      · rw [h1] at p4
        exact Pst.val p4 R3 rd
      · rw [h1] at p4
        exact Pst.val p4 R3 rx
    · split at ev
      · rename_i kvs hk
        obtain ⟨kk, ek, rfl⟩ := Option.map_eq_some_iff.mp ev
        obtain ⟨a', ov, ea, dg, hcase⟩ := dget_t R3 ru3 rw3 hk ek
        cases ea
        refine ⟨ov, dg, ?_⟩
        rcases hcase with ⟨h1, rfl⟩ | ⟨w1, x1, h1, rfl, rx⟩
        · rw [h1] at p4
          exact Pst.val p4 R3 rd
        · rw [h1] at p4
          exact Pst.val p4 R3 rx
      · cases ev
  · exact p1.elim
end
end Pv
set_option autoImplicit false
set_option Elab.async false
set_option linter.all false
set_option maxRecDepth 100000
set_option maxHeartbeats 1000000
namespace Pv
open PySem PySem.Spec PyProof.Rows L2

/-! ### insert and pop of lists -/
section
variable {X : Cx} {C : Nat → Addr} {E : XK} {pos : Pos} {o e f : Expr} {mo me mf : SU → MS → Rv U}
theorem se_insert {apos : Pos} (ho : PE X o (eEv X.K C E mo)) (he : PE X e (eEv X.K C E me)) (hf : PE X f (eEv X.K C E mf)) (hbase : attributeBase o "insert" X.env (eval o X.env) = eval o X.env) (hline : (apos.endLine == pos.line) = true) (hs : starEach [e, f] X.env = [(false, eval e X.env), (false, eval f X.env)]) (hs1 : starEach [f] X.env = [(false, eval f X.env)]) :
    PE X (.Call (.Attribute o "insert" apos) [e, f] [] pos) (eEv X.K C E fun su s => (mo su s).bind fun u s1 => meK .insert u (fun s1 => (two_ me mf su s1).bind fun us s2 => meU .insert u us s2) s1) := by
  refine PE.imp (pe_bm PySem.F.plainAttrs_list PySem.F.slot_list_insert PySem.F.type_list_insert mt_insert ho (pa_cons he (pa_cons hf pa_nil (by rw [hs1]; rfl)) (by rw [hs, hs1])) hbase (by rw [hs]; rfl) hline (by rw [hs, hs1]) (by rw [hs1]; rfl)) fun σ H Q ⟨g, su, s, R, rs, p⟩ => ?_
  obtain ⟨g0, su0, s0, q1, q2, q3⟩ := eEv_seq (f := fun su u s1 => meK .insert u (fun s1 => (two_ me mf su s1).bind fun us s2 => meU .insert u us s2) s1) R rs p
  refine ⟨g0, su0, s0, q1, q2, q3.mono fun x H1 ⟨g1, s1, u, R1, rs1, ru, e1, p1⟩ => ?_⟩
  unfold meK at p1
  split at p1
  · rename_i hrc
    unfold recv at hrc
    simp only at hrc
    split at hrc
    · rename_i n
      obtain ⟨xs, hx⟩ := Option.isSome_iff_exists.mp hrc
      obtain ⟨ad, vs, ex, hq, _, _⟩ := R1.lstOf ru hx
      refine ⟨by rw [ex]; exact .inl ⟨rfl, vs, SqL.of hq⟩, ?_⟩
      simp only [two_, one_, Rv.assoc, Rv.bind_ok] at p1
      obtain ⟨g0, su0, s0, q1, q2, q3⟩ := eEv_seq (f := fun su w s2 => (mf su s2).bind fun z s3 => meU .insert (.obj n) [w, z] s3) R1 rs1 p1
      refine ⟨g0, su0, s0, q1, q2, q3.mono fun y H2 ⟨g2, s2, w, R2, rs2, rw_, e2, p2⟩ => ?_⟩
      obtain ⟨g0, su0, s0, q1, q2, q3⟩ := eEv_seq (f := fun su z s3 => meU .insert (.obj n) [w, z] s3) R2 rs2 p2
      refine ⟨g0, su0, s0, q1, q2, q3.mono fun z H3 ⟨g3, s3, d, R3, rs3, rd, e3, p3⟩ => ?_⟩
      have ru3 := (ru.ext e2).ext e3
      have rw3 := rw_.ext e3
      obtain ⟨i, rfl⟩ : ∃ i, w = .int i := by
        cases w <;> first | exact ⟨_, rfl⟩ | exact (show False from p3).elim
      cases rw3
      unfold meU at p3
      simp only at p3
      split at p3
      · rename_i ys hy
        split at p3
        · rename_i hz
          cases ru3 with
          | obj ha =>
            obtain ⟨zz, vs2, hq2, rr⟩ := R3.at_ n _ _ hy ha
            have hl := rr.length
            obtain ⟨hz1, hz2, hz3⟩ := hz
            rw [line_eq] at hz1
            have hsz : sizeLine = 16777216 := sizeLine_eq
            refine ⟨_, vs2, i, z, rfl, rfl, hq2, by omega, hz2, by omega, ?_⟩
            have xw := Ext.write R3 (ho := .lst (vs2.take i.toNat ++ [z] ++ vs2.drop i.toNat)) ha
            refine Pst.ok_ p3 (R3.write ha trivial ⟨?_, _, upd_same, ?_⟩) xw .non
            · unfold insAt
              simp only [List.length_append, List.length_cons, List.length_take, List.length_drop]
              omega
            · have h1 := (rr.ext xw).take i.toNat
              have h2 := (rr.ext xw).drop i.toNat
              unfold insAt
              refine Eq.mpr (congrArg (RelUs X.K g3 _ _) (List.append_assoc _ _ _)) ?_
              exact h1.append ((RelUs.cons (rd.ext xw) .nil).append h2)
        · exact p3.elim
      · exact p3.elim
    · cases hrc
  · exact p1.elim
theorem RelUs.dropLast {K : PySem.W.Frag} {g : Gh} {H : Hp} {us : List U} {vs : List V} (h : RelUs K g H us vs) : RelUs K g H us.dropLast vs.dropLast := by
  rw [List.dropLast_eq_take, List.dropLast_eq_take, h.length]
  exact h.take _
theorem se_pop {apos : Pos} (ho : PE X o (eEv X.K C E mo)) (hbase : attributeBase o "pop" X.env (eval o X.env) = eval o X.env) (hline : (apos.endLine == pos.line) = true) :
    PE X (.Call (.Attribute o "pop" apos) [] [] pos) (eEv X.K C E fun su s => (mo su s).bind fun u s1 => meK .pop u (fun s1 => (Rv.ok [] s1 : Rv (List U)).bind fun us s2 => meU .pop u us s2) s1) := by
  refine PE.imp (pe_bm0 PySem.F.plainAttrs_list PySem.F.slot_list_pop PySem.F.type_list_pop mt_pop ho hbase hline) fun σ H Q ⟨g, su, s, R, rs, p⟩ => ?_
  obtain ⟨g0, su0, s0, q1, q2, q3⟩ := eEv_seq (f := fun su u s1 => meK .pop u (fun s1 => (Rv.ok [] s1 : Rv (List U)).bind fun us s2 => meU .pop u us s2) s1) R rs p
  refine ⟨g0, su0, s0, q1, q2, q3.mono fun x H1 ⟨g1, s1, u, R1, rs1, ru, e1, p1⟩ => ?_⟩
  unfold meK at p1
  split at p1
  · rename_i hrc
    unfold recv at hrc
    simp only at hrc
    split at hrc
    · rename_i n
      obtain ⟨xs, hx⟩ := Option.isSome_iff_exists.mp hrc
      obtain ⟨ad, vs, ex, hq, _, _⟩ := R1.lstOf ru hx
      refine ⟨by rw [ex]; exact .inl ⟨rfl, vs, SqL.of hq⟩, ?_⟩
      simp only [Rv.bind_ok] at p1
      unfold meU at p1
      simp only at p1
      split at p1
      · rename_i ys hy
        split at p1
        · rename_i y hyl
          cases ru with
          | obj ha =>
            obtain ⟨zz, vs2, hq2, rr⟩ := R1.at_ n _ _ hy ha
            have hl := rr.length
            obtain ⟨v, hv, rv⟩ := rr.get hyl
            rw [hl] at hv
            refine ⟨_, vs2, v, rfl, rfl, hq2, hv, ?_⟩
            have xw := Ext.write R1 (ho := .lst vs2.dropLast) ha
            exact Pst.ok_ p1 (R1.write ha trivial ⟨by rw [List.length_dropLast]; omega, vs2.dropLast, upd_same, (rr.ext xw).dropLast⟩) xw (rv.ext xw)
        · exact p1.elim
      · exact p1.elim
    · cases hrc
  · exact p1.elim
/-! ### t.index(x) -/
theorem pe_bmT {es : List Expr} {to : TE} {t : TA} {name : Str} {apos cpos : Pos} {id : String} {r : V → List V → Hp → VK → Prop} (pa : PlainAttrs "tuple") (slot : Slot "tuple" name id) (hty : typeOf (.builtin id) = pure (.type "method_descriptor")) (hm : MtR X id r) (ho : PE X o to) (ha : PA X (e :: es) t)
    (hbase : attributeBase o name X.env (eval o X.env) = eval o X.env)
    (hfew : ((backTo cpos (starEach (e :: es) X.env)).all (fun x => !x.1) && (backToKw cpos (keywordEach [] X.env)).all (fun x => x.1.isSome)
      && decide ((e :: es).length + ([] : List Keyword).length + (if ([] : List Keyword).isEmpty then 0 else 1) < 30)) = true)
    (hline : (apos.endLine == cpos.line) = true) (hs : starEach (e :: es) X.env = (false, eval e X.env) :: starEach es X.env) (hplain : (backTo cpos (starEach es X.env)).any (·.1) = false) :
    PE X (.Call (.Attribute o name apos) (e :: es) [] cpos) (fun σ H Q => to σ H fun x H1 => (∃ p ob ws, x = .ref p ∧ ob.dict = none ∧ H1 p = some (.frz ob (.tup ws))) ∧ t σ H1 fun xs H2 => r x xs H2 Q) := by
  refine ⟨fun pins s σ H Q I h => ?_⟩
  refine wpAny_Call_method_late hbase hfew hline rfl (thn (ho.run pins s σ H _ I h) fun v s1 ⟨x, H1, I1, r1, ty, q1⟩ => ?_)
  obtain ⟨p, ob, ws, rfl, hd, hp⟩ := ty
  have r1' := r1
  cases r1
  obtain ⟨ho1, _, its, _, o', ho2, hc, n, hdat⟩ := (show ObjOk X.prog X.w H1 s1.heap p (.frz ob (.tup ws)) from I1.hok p _ hp)
  rw [ho1] at ho2
  cases ho2
  refine ⟨"tuple", id, pa, slot, hty, ⟨ob, ho1, hc⟩, fun a e => by cases e; exact ⟨ob, ho1, hd⟩, ?_⟩
  have hA := ha.run cpos pins s1 σ H1 _ I1 q1
  rw [hs] at hA ⊢
  refine Calls.callWith_builtin (by show (false || (backTo cpos (starEach es X.env)).any (·.1)) = false; rw [hplain] <;> rfl) (Calls.evalArgs_plain ?_)
  exact thn hA fun us s2 ⟨vs, H2, I2, r2, q2⟩ => hm pins s2 σ H2 _ vs _ us Q I2 r1' r2 q2
theorem strsOf_mapV : ∀ {xs : List U} {ss : List Str}, strsOf xs = some ss → xs = ss.map .str
  | [], ss, h => by simp only [strsOf] at h; cases h; rfl
  | x :: xs, ss, h => by
    cases x <;> simp only [strsOf] at h <;> first | (cases h; done) | skip
    obtain ⟨r, hr, rfl⟩ := Option.map_eq_some_iff.mp h
    rw [strsOf_mapV hr]
    rfl
theorem strs_relV {K : PySem.W.Frag} {g : Gh} {H : Hp} : ∀ {ss : List Str} {vs : List V}, RelUs K g H (ss.map .str) vs → vs = ss.map V.str
  | [], vs, h => by cases h; rfl
  | x :: ss, vs, h => by
    cases h with
    | cons r t =>
      cases r
      rw [strs_relV t]
      rfl
theorem index_at {z : Str} : ∀ {ss : List Str} {j : Nat}, indexOf (.str z) (ss.map .str) = some j → ss[j]? = some z ∧ ∀ m, m < j → ss[m]? ≠ some z
  | [], j, h => by simp [indexOf] at h
  | x :: ss, j, h => by
    simp only [List.map_cons, indexOf] at h
    by_cases e : eqU (.str x) (.str z) = true
    · rw [if_pos e] at h
      cases h
      simp only [eqU] at e
      rw [beq_iff_eq] at e
      exact ⟨by rw [e]; rfl, fun m hm => by omega⟩
    · rw [if_neg e] at h
      obtain ⟨i, hi, rfl⟩ := Option.map_eq_some_iff.mp h
      obtain ⟨h1, h2⟩ := index_at hi
      refine ⟨by simpa using h1, fun m hm => ?_⟩
      cases m with
      | zero =>
        intro q
        rw [List.getElem?_cons_zero] at q
        exact e (by rw [Option.some.inj q]; simp only [eqU]; exact beq_self_eq_true z)
      | succ m => rw [List.getElem?_cons_succ]; exact h2 m (by omega)
theorem se_index {apos : Pos} (ho : PE X o (eEv X.K C E mo)) (he : PE X e (eEv X.K C E me)) (hbase : attributeBase o "index" X.env (eval o X.env) = eval o X.env) (hline : (apos.endLine == pos.line) = true) (hs : starEach [e] X.env = [(false, eval e X.env)]) :
    PE X (.Call (.Attribute o "index" apos) [e] [] pos) (eEv X.K C E fun su s => (mo su s).bind fun u s1 => meK .index u (fun s1 => ((me su s1).bind fun w s2 => (Rv.ok [] s2 : Rv (List U)).bind fun us s3 => .ok (w :: us) s3).bind fun us s2 => meU .index u us s2) s1) := by
  refine PE.imp (pe_bmT PySem.F.plainAttrs_tuple PySem.F.slot_tuple_index PySem.F.type_tuple_index mt_tup_index ho (pa_cons he pa_nil (by rw [hs]; rfl)) hbase (by rw [hs]; rfl) hline (by rw [hs]; rfl) (by rfl)) fun σ H Q ⟨g, su, s, R, rs, p⟩ => ?_
  obtain ⟨g0, su0, s0, q1, q2, q3⟩ := eEv_seq (f := fun su u s1 => meK .index u (fun s1 => ((me su s1).bind fun w s2 => (Rv.ok [] s2 : Rv (List U)).bind fun us s3 => .ok (w :: us) s3).bind fun us s2 => meU .index u us s2) s1) R rs p
  refine ⟨g0, su0, s0, q1, q2, q3.mono fun x H1 ⟨g1, s1, u, R1, rs1, ru, e1, p1⟩ => ?_⟩
  unfold meK at p1
  split at p1
  · rename_i hrc
    obtain ⟨xs, rfl, hk⟩ : ∃ xs, u = .tup xs ∧ (xs.length ≠ keyLen ∨ (strsOf xs).isSome = true) := by
      cases u <;> first | exact ⟨_, rfl, by simpa [recv, tupOf] using hrc⟩ | (simp [recv, tupOf] at hrc)
    simp only [Rv.assoc, Rv.bind_ok] at p1
    have ru' := ru
    cases ru with
    | @tup a us vs h1 h2 h3 h4 =>
      have hdi : dictish vs = true := by
        unfold dictish
        simp only [Bool.or_eq_true, decide_eq_true_eq]
        rcases hk with hk | hk
        · exact .inl (.inr (by rw [← h4.length]; exact hk))
        · right
          obtain ⟨ss, hss⟩ := Option.isSome_iff_exists.mp hk
          rw [strsOf_mapV hss] at h4
          rw [strs_relV h4, List.all_map]
          exact List.all_eq_true.mpr fun _ _ => rfl
      obtain ⟨ob, od, hob⟩ := h1.plain hdi
      refine ⟨⟨a, ob, vs, rfl, od, hob⟩, ?_⟩
      obtain ⟨g0, su0, s0, q1, q2, q3⟩ := eEv_seq (f := fun su w s2 => meU .index (.tup xs) [w] s2) R1 rs1 p1
      refine ⟨g0, su0, s0, q1, q2, q3.mono fun y H2 ⟨g2, s2, w, R2, rs2, rw_, e2, p2⟩ => ?_⟩
      have ru2 := ru'.ext e2
      obtain ⟨z, rfl⟩ : ∃ z, w = .str z := by
        cases w <;> first | exact ⟨_, rfl⟩ | exact (show False from p2).elim
      cases rw_
      simp only [meU] at p2
      split at p2
      · rename_i ss hss
        obtain ⟨v, ev, p3⟩ := p2.of_
        obtain ⟨j, hj, rfl⟩ := Option.map_eq_some_iff.mp ev
        have hx := strsOf_mapV hss
        rw [hx] at hj ru2
        obtain ⟨h5, h6⟩ := index_at hj
        cases ru2 with
        | tup h1' h2' h3' h4' =>
          have hv := strs_relV h4'
          subst hv
          exact ⟨a, ss, z, j, rfl, rfl, h1'.sq, h5, h6, Pst.val p3 R2 (.int _)⟩
      · exact p2.elim
  · exact p1.elim
end
end Pv
set_option autoImplicit false
set_option Elab.async false
set_option linter.all false
set_option maxRecDepth 100000
set_option maxHeartbeats 2000000
namespace Pv
open PySem PySem.Spec PyProof.Rows L2

/-! ### max(e, key=lambda y: y[0]) -/
/-- a lambda of one name, which tells the name's item 0 -/
structure LamOk (y : Str) (params : Arguments) (body : Expr) (scope : Scope) : Prop where
  par : ∀ (q : Str) (cl : List (Str × Addr)) (pm cv ctv u : Value), bindArgs (PySem.W.kla_fn "<lambda>" q params body scope cl pm cv ctv) ⟨[u], []⟩ = pure [(y, u)]
  df : ∀ env : Env, defaultsOf params env = ([], [])
  body : ∃ p1 p2 p3 k, body = .Subscript (.Name y p1) (.Constant (.int 0) k p2) p3
  kind : scope.kind = .function
  co : scope.isCoroutine = false
  gen : scope.isGenerator = false
  names : scope.names = [(y, .local)]
  db : (y == ("__debug__" : Str)) = false
section
variable {prog : Program} {w : World} {A : Around} {s : Shared} {E : Value → Shared → Prop} {Q : Value → Shared → Prop}
/-- the lambda is called with a tuple -/
theorem lam_turn {y q : Str} {params : Arguments} {body : Expr} {scope : Scope} {f c' a : Addr} {pm ctv v0 : Value} {its : Array Value} (L : LamOk y params body scope)
    (of1 : s.heap.get? f = some (PySem.W.kla_obj "<lambda>" q params body scope [] pm c' ctv)) (oc : ∃ (oc : Obj) (vs : Array Value) (t : Tok), s.heap.get? c' = some oc ∧ oc.data = .fields vs ∧ vs[1]? = some (.str q t))
    (hd : A.depth < recursionLimit) (lim : s.heap.NoLimit) (ht : IsTup s.heap a its) (h0 : its[0]? = some v0)
    (h : ∀ h' tk, (∀ b o, s.heap.get? b = some o → h'.get? b = some o) → s.toks ≤ tk → Q v0 { s with heap := h', toks := tk }) :
    wpAny (model prog w) A (call (.ref f) [.ref a]) Q E s := by
  obtain ⟨p1, p2, p3, k, hb⟩ := L.body
  obtain ⟨ocO, vs, t, hoc, hdc, hvc⟩ := oc
  have esc : (PySem.W.kla_fn "<lambda>" q params body scope [] pm (.ref c') ctv).scope = scope := rfl
  refine wpAny_call ?_
  refine PySem.W.kla_callFunE hd of1 rfl L.co L.gen rfl ⟨c', ocO, vs, t, rfl, hoc, hdc, hvc⟩ ?_
  rw [L.par]
  refine wpAny_pure (wpAny_newFunctionEnv (fun x hx => ?_) (fun x hx => ?_) (fun h₁ hns hsb => ⟨lim.fresh _ hsb, ?_⟩) L.kind)
  · rw [esc, L.names] at hx
    rw [List.mem_singleton.mp hx]
    exact fun z => by cases z
  · rw [List.mem_singleton.mp hx, esc, L.names]
    simp
  · have kp : ∀ b o, s.heap.get? b = some o → h₁.get? b = some o := fun b o e => hsb.extBut b o (Nat.ne_of_lt (Heap.lt_size e)) (Heap.get?_push_of_some _ e)
    refine PySem.W.kla_codeExpr ?_
    rw [hb]
    refine PyProof.Rows.Subscript_ ?_
    refine wpAny_Name (wpAny_loadName_local (v := .ref a) L.kind (by show scope.names.lookup y = _; rw [L.names]; simp) hns (by simp) ?_) L.db
    refine wpAny_Constant_int ?_
    obtain ⟨oT, e1, e2, n, e3⟩ := ht
    have hj : 0 < its.size := (Array.getElem?_eq_some_iff.mp h0).1
    refine subscriptTail_builtinR (x := v0) (T := "tuple") ⟨oT, kp _ _ e1, e2⟩ slot_tuple_getitem.lookup
      (PyProof.Rows.getItem_tuple (j := 0) (items := its) ⟨oT, kp _ _ e1, e2, n, e3⟩ (by omega) (by omega) (seqIndex_of (by omega) (by simpa using hj)) h0 ⟨rfl, ?_⟩)
    exact h h₁ _ kp (by simp; omega)
end
section
variable {X : Cx} {pins : List (Addr × Obj)} {σ : L2.St} {H : Hp} {s : Shared}
/-- the lambda is made -/
theorem lam_make3 {q : Str} {c P : Addr} {params : Arguments} {body : Expr} {scope : Scope} {pos : Pos} {E Q : Value → Shared → Prop} {ps : Array Value} (I : Inv X pins σ H s) (TB : LamX.TabB X.base X.mg c P) (hcode : X.env.code = .ref c) (hq : X.env.qual ++ "<lambda>" = q)
    (hP : H P = some (.tbl ps)) (ht : TriplesOk ps.toList) (hdef : defaultsOf params X.env = ([], [])) (hcl : closureFor scope X.env = pure [])
    (hit : ∀ (c' : Addr), codeAmong pos ps.toList = some (.ref c') → ∀ (f : Addr) (pm ctv : Value) (s' : Shared), Inv X pins σ H s' → s'.heap.get? f = some (PySem.W.kla_obj "<lambda>" q params body scope [] pm c' ctv) → Q (.ref f) s')
    (hc0 : ∀ cv, codeAmong pos ps.toList = some cv → ∃ c', cv = .ref c')
    (new : ∀ (c' : Addr), H c' = none → ∀ (f : Addr) (pm ctv : Value) (s' : Shared), Inv X pins σ (upd (upd H P (.tbl (ps ++ #[rawInt pos.line, rawInt pos.col, .ref c']))) c' (LamX.CodeO c' q)) s' →
      s'.heap.get? f = some (PySem.W.kla_obj "<lambda>" q params body scope [] pm c' ctv) → Q (.ref f) s') :
    wpAny (model X.prog X.w) X.A (eval (.Lambda params body scope pos) X.env) Q E s := by
  subst hq
  refine PySem.W.kla_eval hdef ?_
  have at_P : s.heap.get? P = some { cls := .none, data := .fields ps } := I.hok P _ hP
  cases among : codeAmong pos ps.toList with
  | some cv =>
    obtain ⟨c', rfl⟩ := hc0 cv among
    refine PySem.W.kla_makeFunctionHit (mg := X.mg) (c := c) (P := P) (ps := ps) hcl I.ok.glob (I.mod.glob.keeps I.bk) hcode (TB.code.keeps I.bk) at_P ht among (TB.bm.keeps I.bk) fun ctv h' tk hx hsz => ?_
    exact hit c' among h'.objs.size _ ctv _ (I.kept fun b o e => Heap.get?_push_of_some _ (hx b o e)) (Heap.get?_push_size _ rfl)
  | none =>
    refine PySem.W.kla_makeFunction (mg := X.mg) (c := c) (P := P) (ps := ps) hcl I.ok.glob (I.mod.glob.keeps I.bk) hcode (TB.code.keeps I.bk) at_P ht among TB.gP (TB.bm.keeps I.bk) fun c' ctv h' tk hx hge hlt hrec htb => ?_
    obtain ⟨c2, oc, vs, t, e2, hoc, hd, hv⟩ := hrec
    cases e2
    exact new c' (I.hok.fresh hge) h'.objs.size _ ctv _ (LamX.inv_table (t' := tk) (h' := h'.push _) I hP (fun b o hb e => Heap.get?_push_of_some _ (hx b o hb e)) (Heap.get?_push_of_some _ htb) hge ⟨oc, vs, t, Heap.get?_push_of_some _ hoc, hd, hv⟩) (Heap.get?_push_size _ rfl)
end
/-! the books behind a lambda -/
section
variable {K : PySem.W.Frag} {C : Nat → Addr} {g : Gh} {s : MS} {H : Hp}
theorem RS.tabs (R : RS K C g s H) {q : Str} (h : s[(0 : Nat)]? = some (.tab q)) : g.al[(0 : Nat)]? = some (some (C 1000)) ∧ ∃ ps : Array Value, H (C 1000) = some (.tbl ps) ∧ TriplesOk ps.toList ∧ ∀ (pos : Pos) (cv : Value), codeAmong pos ps.toList = some cv → ∃ c, cv = .ref c ∧ H c = some (LamX.CodeO c q) ∧ g.no c := by
  obtain ⟨a, ha⟩ := R.there 0 _ h
  obtain ⟨rfl, r⟩ := R.at_ 0 _ a h ha
  exact ⟨ha, r⟩
theorem Ext.tbl (R : RS K C g s H) {q : Str} {c : Addr} {ps : Array Value} (h : s[(0 : Nat)]? = some (.tab q)) (hc : H c = none) : Ext g H g (upd (upd H (C 1000) (.tbl ps)) c (LamX.CodeO c q)) := by
  obtain ⟨h0, _⟩ := R.tabs h
  exact .of (fun a o e n => ⟨by rw [upd_ne (ne_of_none e hc), upd_ne fun z => n 0 (by rw [z]; exact h0)]; exact e, n⟩) (fun _ _ h => h) (fun _ _ _ h => h) (fun _ h => h) fun a o e => let ⟨_, e1⟩ := upd_lv (p := C 1000) (o := .tbl ps) e; upd_lv e1
theorem RS.tblNew (R : RS K C g s H) {q : Str} {c : Addr} {ps : Array Value} {pos : Pos} (h : s[(0 : Nat)]? = some (.tab q)) (hps : H (C 1000) = some (.tbl ps)) (hc : H c = none) :
    RS K C g s (upd (upd H (C 1000) (.tbl (ps ++ #[rawInt pos.line, rawInt pos.col, .ref c]))) c (LamX.CodeO c q)) := by
  have e := Ext.tbl R (ps := ps ++ #[rawInt pos.line, rawInt pos.col, .ref c]) h hc
  obtain ⟨h0, ps', hps', tri, cod⟩ := R.tabs h
  rw [hps] at hps'
  cases hps'
  have eL : (ps ++ #[rawInt pos.line, rawInt pos.col, .ref c]).toList = ps.toList ++ [rawInt pos.line, rawInt pos.col, .ref c] := by simp
  have at_ne : ∀ a o, H a = some o → a ≠ C 1000 → (upd (upd H (C 1000) (.tbl (ps ++ #[rawInt pos.line, rawInt pos.col, .ref c]))) c (LamX.CodeO c q)) a = H a := fun a o e1 n => by rw [upd_ne (ne_of_none e1 hc), upd_ne n]
  have ne0 : C 1000 ≠ c := ne_of_none hps hc
  have at_P : (upd (upd H (C 1000) (.tbl (ps ++ #[rawInt pos.line, rawInt pos.col, .ref c]))) c (LamX.CodeO c q)) (C 1000) = some (.tbl (ps ++ #[rawInt pos.line, rawInt pos.col, .ref c])) := by rw [upd_ne ne0, upd_same]
  refine ⟨R.len, R.there, fun n o a h1 h2 => ?_, R.inj, fun n a h2 => ?_, fun a ha => ?_⟩
  · by_cases ha : a = C 1000
    · subst ha
      have hn := R.inj n 0 _ h2 h0
      subst hn
      rw [h] at h1
      cases h1
      refine ⟨rfl, _, at_P, by rw [eL]; exact PySem.TriplesOk_snoc _ _ _ _ tri, fun p' cv hcv => ?_⟩
      rw [eL] at hcv
      rcases LamX.among_app _ tri hcv with z | z
      · obtain ⟨c0, e1, e2, e3⟩ := cod p' cv z
        exact ⟨c0, e1, (e.weak.no e2 e3 id).1, e3⟩
      · exact ⟨c, z, upd_same, R.fresh hc⟩
    · obtain ⟨o', e1, _⟩ := R.kind n a h2
      exact (R.at_ n o a h1 h2).ext e (at_ne a o' e1 ha)
  · by_cases ha : a = C 1000
    · subst ha
      exact ⟨_, at_P, .inr ⟨_, rfl⟩⟩
    · obtain ⟨o', e1, c1⟩ := R.kind n a h2
      exact ⟨o', by rw [at_ne a o' e1 ha]; exact e1, c1⟩
  · obtain ⟨⟨o', e1, c1⟩, n⟩ := R.zsd a ha
    exact ⟨⟨o', by rw [at_ne a o' e1 fun z => n 0 (by rw [z]; exact h0)]; exact e1, c1⟩, n⟩
end
theorem vals_back {vs : List V} {its : List Value} (rv : Vals vs its) {i : Nat} {v : Value} (h : its[i]? = some v) : ∃ x, vs[i]? = some x ∧ L2.RelV x v := by
  have hi : i < vs.length := by rw [rv.length]; exact (List.getElem?_eq_some_iff.mp h).1
  obtain ⟨u, e1, e2⟩ := rv.get (List.getElem?_eq_getElem hi)
  rw [h] at e1
  cases e1
  exact ⟨_, List.getElem?_eq_getElem hi, e2⟩
/-! the first of the greatest -/
def kfU (us : List U) (i : Nat) : Int := hI (us.getD i .non)
theorem argBest_key (x : U) (r : List U) : ∀ m, m ≤ r.length → (x :: r)[argBest (fun i j => decide (kfU (x :: r) i > kfU (x :: r) j)) m]? = some (maxKey x (r.take m))
  | 0, _ => rfl
  | m + 1, hm => by
    have ih := argBest_key x r m (by omega)
    have hr : r[m]? = some r[m] := List.getElem?_eq_getElem (by omega)
    have ek : kfU (x :: r) (argBest (fun i j => decide (kfU (x :: r) i > kfU (x :: r) j)) m) = hI (maxKey x (r.take m)) := by
      show hI ((x :: r).getD _ .non) = _
      rw [List.getD_eq_getElem?_getD, ih]
      rfl
    have ek2 : kfU (x :: r) (m + 1) = hI r[m] := by
      unfold kfU
      rw [List.getD_eq_getElem?_getD, List.getElem?_cons_succ, hr]
      rfl
    have et : maxKey x (r.take (m + 1)) = if hI (maxKey x (r.take m)) < hI r[m] then r[m] else maxKey x (r.take m) := by
      rw [List.take_succ_eq_append_getElem (by omega)]
      unfold maxKey
      rw [List.foldl_append]
      rfl
    rw [et, argBest]
    simp only [ek, ek2]
    by_cases q : hI (maxKey x (r.take m)) < hI r[m]
    · rw [if_pos (by simpa using q), if_pos q, List.getElem?_cons_succ, hr]
    · rw [if_neg (by simpa using q), if_neg q]
      exact ih
section
variable {X : Cx} {C : Nat → Addr} {E : XK} {W : Value → Hp → Prop}
/-- max, with the lambda at f -/
theorem max_run {pins : List (Addr × Obj)} {σ : L2.St} {H : Hp} {s : Shared} {Q : VK} {g : Gh} {ms : MS} {EE : Value → Shared → Prop} {y q : Str} {params : Arguments} {body : Expr} {scope : Scope} {f c' a : Addr} {pm ctv : Value} {x : U} {r : List U} {vs : List V} (hc : X.calm = true) (hd : X.A.in1.depth < recursionLimit)
    (I : Inv X pins σ H s) (R : RS X.K C g ms H) (L : LamOk y params body scope) (of1 : s.heap.get? f = some (PySem.W.kla_obj "<lambda>" q params body scope [] pm c' ctv)) (hcode : H c' = some (LamX.CodeO c' q))
    (ha : H a = some (.lst vs)) (hr : RelUs X.K g H (x :: r) vs) (hh : (x :: r).all (fun u => (headI u).isSome) = true) (p : Pst X.K C (RelU X.K) W g H (.ok (maxKey x r) ms) Q) :
    wpAny (model X.prog X.w) X.A (call (.builtin "max") [.ref a] [(Str.ofString "key", .ref f)]) (EP X pins σ Q) EE s := by
  obtain ⟨its, rv, pl, hz⟩ := I.list (.inl (.inl ha))
  have hlen : its.length = (x :: r).length := by rw [← rv.length, ← hr.length]
  have hdl : X.A.in1.handled = none := I.ok.hd hc
  obtain ⟨coO, cvs, ct, co1, co2, co3⟩ := (I.hok c' _ hcode).1
  have hal : a < s.heap.objs.size := let ⟨_, _, e, _⟩ := pl; Heap.lt_size e
  refine PySem.call_max_walkK (wpAny_pyIter_list pl.isList ?_)
  have hal' : a ≠ s.heap.objs.size := Nat.ne_of_lt hal
  have Wk := (Walks.list (prog := X.prog) (w := X.w) (A := X.A.in1) hdl s.heap.objs.size a hal' its.toArray).toS
  refine ⟨s.heap.objs.size, _, _, _, _, _, _, fun s' => (∀ b o, s.heap.get? b = some o → s'.heap.get? b = some o) ∧ s'.gens = s.gens ∧ s'.drawn = s.drawn ∧ s'.os = s.os, fun i k _ => ∃ t, k = .int (kfU (x :: r) i) t, fun i j => decide (kfU (x :: r) i > kfU (x :: r) j), rfl, Wk, ?_, ?_, by simp [hlen], ⟨?_, ?_, ?_, ?_⟩, ?_, ?_⟩
  · exact ⟨⟨_, Heap.get?_push_size _ rfl, rfl, rfl⟩, pl.isList.push _⟩
  · intro b hb
    show b < (s.heap.push _).objs.size
    rw [Heap.size_push]
    rcases List.mem_cons.mp hb with rfl | hb
    · exact Nat.lt_succ_self _
    · rw [List.mem_singleton.mp hb]
      exact Nat.lt_succ_of_lt hal
  · rintro s1 s2 ⟨j1, j2, j3, j4⟩ m
    refine ⟨fun b o e => m.heap b o ?_ (j1 b o e), by rw [show s2.gens = s1.gens from m.gens]; exact j2, by rw [m.drawn]; exact j3, by rw [m.os]; exact j4⟩
    intro hb
    have hlt := Heap.lt_size e
    rcases List.mem_cons.mp hb with h | h
    · have h : b = (s.heap.push _).objs.size := h
      rw [Heap.size_push] at h
      rw [h] at hlt
      exact Nat.lt_irrefl _ (Nat.lt_trans (Nat.lt_succ_self _) hlt)
    · rw [List.mem_singleton.mp h] at hlt
      exact Nat.lt_irrefl _ hlt
  · exact fun i k s1 s2 hv _ => hv
  · intro i v s1 o Q1 E1 hi hP ⟨j1, j2, j3, j4⟩ hst hS hQ
    have hi' : i < its.length := by simpa using hi
    have hv : its[i]? = some v := by simpa using hP
    obtain ⟨vv, e1, rvv⟩ := vals_back rv hv
    obtain ⟨u, e2, ru⟩ := hr.getV e1
    obtain ⟨k, us', rfl⟩ : ∃ k us', u = .tup (.int k :: us') := by
      have := List.all_eq_true.mp hh u (List.mem_of_getElem? e2)
      cases u with
      | tup l =>
        cases l with
        | nil => simp [headI] at this
        | cons w l => cases w <;> simp [headI] at this; exact ⟨_, _, rfl⟩
      | _ => simp [headI] at this
    cases ru with
    | tup ht hn hl hrs =>
      cases hrs with
      | cons hk hrs =>
        cases hk
        cases rvv
        obtain ⟨its2, rv2, tp2, _⟩ := I.tuple ht.sq
        cases rv2 with
        | cons hk2 rv2 =>
          obtain ⟨t, rfl⟩ := hk2
          obtain ⟨oT, t1, t2, n, t3⟩ := tp2
          refine lam_turn L (j1 f _ of1) ⟨coO, cvs, ct, j1 _ _ co1, co2, co3⟩ hd (I.nolimit.keeps j1) ⟨oT, j1 _ _ t1, t2, n, t3⟩ rfl fun h' tk kp htk => ?_
          refine hQ _ _ ⟨fun b o e => kp b o (j1 b o e), j2, j3, j4⟩ (Wk.frame _ s1 h' tk hst htk fun b _ o e => kp b o e) (kp _ _ hS) ⟨t, ?_⟩ fun _ _ h => h
          unfold kfU
          rw [List.getD_eq_getElem?_getD, e2]
          rfl
  · intro i j ki kj s1 Q1 E1 _ hi hj hq
    exact CmpOf.ints_gt (P := fun i v => ∃ t, v = .int (kfU (x :: r) i) t) (kfU (x :: r)) (fun i v h => h) i j ki kj s1 Q1 E1 hi hj hq
  · exact ⟨fun b o e => Heap.get?_push_of_some _ e, rfl, rfl, rfl⟩
  · intro v s' hP ⟨j1, j2, j3, j4⟩
    have hb := argBest_key x r r.length (Nat.le_refl _)
    rw [List.take_length] at hb
    have hsz : its.toArray.size - 1 = r.length := by simp [hlen]
    rw [hsz] at hP
    have hv : its[argBest (fun i j => decide (kfU (x :: r) i > kfU (x :: r) j)) r.length]? = some v := by simpa using hP
    obtain ⟨vv, e1, rvv⟩ := vals_back rv hv
    obtain ⟨u, e2, ru⟩ := hr.getV e1
    rw [hb] at e2
    cases e2
    obtain ⟨hp, ge, dr, tk, os⟩ := s'
    simp only at j2 j3 j4
    subst j2 j3 j4
    exact ⟨vv, H, I.kept j1, rvv, Pst.val p R ru⟩
/-- the whole -/
theorem se_maxkey {y q : Str} {params : Arguments} {body l : Expr} {scope : Scope} {c : Addr} {p0 lpos kpos pos : Pos} {m : SU → MS → Rv U} (hc : X.calm = true) (hr : X.A.in1.depth < recursionLimit) (hg : Gl X "max") (hm : X.mg "max" = none) (L : LamOk y params body scope) (TB : LamX.TabB X.base X.mg c (C 1000)) (hcode : X.env.code = .ref c) (hq : X.env.qual ++ "<lambda>" = q)
    (hl : PE X l (eEv X.K C E m)) (hs : starEach [l] X.env = (false, eval l X.env) :: starEach [] X.env) :
    PE X (.Call (.Name "max" p0) [l] [⟨some "key", .Lambda params body scope lpos, kpos⟩] pos) (eEv X.K C E fun su s => (m su s).bind fun u s1 => biU (.maxkey q) [u] s1) := by
  refine ⟨fun pins s σ H Q I ⟨g, su, ms, R, rs, p⟩ => ?_⟩
  refine wpAny_Call_Name_kw (ld_blt (u := .builtin "max") I hg hm (by decide +kernel) ?_ (by decide) (by decide))
  refine PyProof.Rows.callWith_kw ?_ (by rw [hs]; rfl) (by rw [hs]; rfl) (by rfl) (by rfl)
  rw [hs]
  show wpAny _ _ (spliced ((false, eval l X.env) :: backTo pos (starEach [] X.env))) _ _ s
  obtain ⟨g0, su0, s0, q1, q2, q3⟩ := eEv_seq (f := fun su u s1 => biU (.maxkey q) [u] s1) R rs p
  refine Calls.spliced_cons (thn (hl.run pins s σ H _ I ⟨g0, su0, s0, q1, q2, q3⟩) fun v s1 ⟨x, H1, I1, rx, g1, ms1, u, R1, rs1, ru, e1, p1⟩ => ?_)
  refine Calls.spliced_nil ?_
  simp only [biU] at p1
  split at p1
  · rename_i x r hL
    split at p1
    · rename_i q' h0
      split at p1
      · rename_i hcond
        obtain ⟨rfl, hh⟩ := hcond
        obtain ⟨a, vs, rfl, ha, hz, rr⟩ := R1.lstOf ru hL
        cases rx
        obtain ⟨hal, ps, hps, tri, cod⟩ := R1.tabs h0
        refine PyProof.Rows.kws_cons ?_
        refine lam_make3 I1 TB hcode hq hps tri (L.df _) (by unfold closureFor; rw [L.names]; rfl) (fun c' hcc f pm ctv s2 I2 of2 => ?_) (fun cv hcv => let ⟨c', e, _⟩ := cod _ _ hcv; ⟨c', e⟩) fun c' hcn f pm ctv s2 I2 of2 => ?_
        · refine PyProof.Rows.kws_nil ?_
          obtain ⟨c2, ec, hco, _⟩ := cod _ _ hcc
          cases ec
          exact max_run hc hr I2 R1 L of2 hco ha rr hh p1
        · refine PyProof.Rows.kws_nil ?_
          have ex := Ext.tbl R1 (ps := ps ++ #[rawInt lpos.line, rawInt lpos.col, .ref c']) h0 hcn
          have R2 := R1.tblNew (pos := lpos) h0 hps hcn
          refine max_run hc hr I2 R2 L of2 upd_same ?_ (rr.ext ex) hh (Pst.ext ex p1)
          rw [upd_ne (ne_of_none ha hcn), upd_ne fun z => by rw [z, hps] at ha; cases ha]
          exact ha
      · exact p1.elim
    · exact p1.elim
  · exact p1.elim
end
end Pv
set_option autoImplicit false
set_option Elab.async false
set_option linter.all false
set_option maxRecDepth 100000
set_option maxHeartbeats 2000000
namespace Pv
open PySem PySem.Spec PyProof.Rows L2

/-! ### the text and the small language side by side -/
/-- the defs, the module's constants, the defs' names, the built-ins' names that are free -/
structure Kl where
  nm : Str
  ini : Nat
  mts : List (Str × Nat)
  flds : List Str
structure Par where
  D : Nat → Option Def
  G : Str → Option U
  nm : Nat → Option Str
  B : List Str
  cl : Nat → Option Kl
  lam : Option Str
/-- a class that the top has made -/
structure ClOk (P : Par) (C : Nat → Addr) (CX : CXT) (lv : Nat) (X : Cx) (c : Nat) (cd : Kl) : Prop where
  cl : Cls X.K (C c)
  na : ∀ f ∈ cd.flds, NoAttr X.K (C c) f
  mt : ∀ m fi, (m, fi) ∈ cd.mts → ∀ d, P.D fi = some d → ∃ fa fd ps, Meth X.K (C c) m fa ∧ Binds X.K fd ps [] ∧ FnOk X.prog X.w X.K X.mg X.base CX lv fa fd ps (spEv X.K C d.np (callF P.D P.G lv fi))
  nw : ∀ d, P.D cd.ini = some d → X.mg cd.nm = some (.ref (C c)) ∧ ∃ fa fd ps, Mk X.K (C c) fa ∧ Binds X.K fd ps [] ∧ FnOk X.prog X.w X.K X.mg X.base CX (lv - 1) fa fd ps (spEv X.K C d.np (callF P.D P.G (lv - 1) cd.ini))
def cx (P : Par) (lv : Nat) : Ctx := ⟨callF P.D P.G lv, callF P.D P.G (lv - 1), P.G⟩
def nst : Expr → Bool
  | .Starred _ _ => false
  | _ => true
theorem star_cons {e : Expr} {es : List Expr} {env : Env} (h : nst e = true) : starEach (e :: es) env = (false, eval e env) :: starEach es env := by
  cases e <;> first | rfl | (cases h; done)
theorem star_plain {pos : Pos} {env : Env} : ∀ {es : List Expr}, es.all nst = true → (backTo pos (starEach es env)).any (·.1) = false
  | [], _ => rfl
  | e :: es, h => by
    simp only [List.all_cons, Bool.and_eq_true] at h
    rw [star_cons h.1]
    have := star_plain (pos := pos) (env := env) h.2
    unfold backTo at this ⊢
    simp only [List.map_cons, List.any_cons, Bool.false_or]
    exact this
theorem star_all {pos : Pos} {env : Env} : ∀ {es : List Expr}, es.all nst = true → (backTo pos (starEach es env)).all (fun x => !x.1) = true
  | [], _ => rfl
  | e :: es, h => by
    simp only [List.all_cons, Bool.and_eq_true] at h
    rw [star_cons h.1]
    have := star_all (pos := pos) (env := env) h.2
    unfold backTo at this ⊢
    simp only [List.map_cons, List.all_cons, Bool.not_false, Bool.true_and]
    exact this
theorem asg_cons {e : Expr} {es : List Expr} {env : Env} (h : nst e = true) : (assignEach (e :: es) env).map (·.2) = assign e env :: (assignEach es env).map (·.2) := by
  cases e <;> first | rfl | (cases h; done)
theorem asg_len {env : Env} : ∀ {es : List Expr}, es.all nst = true → (assignEach es env).length = es.length ∧ (assignEach es env).findIdx? (·.1) = none
  | [], _ => ⟨rfl, rfl⟩
  | e :: es, h => by
    simp only [List.all_cons, Bool.and_eq_true] at h
    obtain ⟨h1, h2⟩ := asg_len (env := env) h.2
    have : assignEach (e :: es) env = (false, assign e env) :: assignEach es env := by
      have h1 := h.1
      cases e <;> first | rfl | (cases h1; done)
    rw [this]
    refine ⟨by simp [h1], ?_⟩
    rw [List.findIdx?_cons]
    simp [h2]
def visC (sc : Scope) (x : Str) : Bool :=
  match sc.names.lookup x with
  | some .local => true
  | some .cell => true
  | some .free => true
  | _ => false
def locC (sc : Scope) (x : Str) : Bool :=
  match sc.names.lookup x with
  | some .local => true
  | some .cell => true
  | _ => false
def lcl (sc : Scope) (x : Str) : Bool := decide (sc.names.lookup x = some .local)
def glC (sc : Scope) (x : Str) : Bool := decide (sc.names.lookup x = some .globalImplicit)
def okN (x : Str) : Bool := !(x == ("__debug__" : Str)) && !(x == ("__classdict__" : Str)) && !(decide (x = "__name__"))
theorem okN_ {x : Str} (h : okN x = true) : (x == ("__debug__" : Str)) = false ∧ (x == ("__classdict__" : Str)) = false ∧ x ≠ "__name__" := by
  unfold okN at h
  simp only [Bool.and_eq_true, Bool.not_eq_true', decide_eq_false_iff_not] at h
  exact ⟨h.1.1, h.1.2, h.2⟩

/-- the place a text is proved at -/
structure GX (P : Par) (C : Nat → Addr) (CX : CXT) (lv : Nat) (E : XK) (sc : Scope) (X : Cx) : Prop where
  nd : X.N.Nodup
  calm : X.calm = true
  room : Room lv X.A
  kind : X.env.scope.kind = .function
  rel : ∀ x k, sc.names.lookup x = some k → X.env.scope.names.lookup x = some k ∨ (k = .free ∧ X.env.scope.names.lookup x = some .cell)
  fnc : ∀ x, sc.names.lookup x = some .cell → X.fn x = true
  pass : Passes CX X E
  bl : ∀ x ∈ P.B, X.mg x = none
  gl : ∀ x u, P.G x = some u → ∃ v w, X.mg x = some w ∧ RelV v w ∧ ∀ g H, RelU X.K g H u v
  calls : ∀ f d, P.D f = some d → ∀ x, P.nm f = some x → ∃ fa fd ps, X.mg x = some (.ref fa) ∧ PySem.W.keepIn X.K (.ref fa) = true ∧ Binds X.K fd ps [] ∧ FnOk X.prog X.w X.K X.mg X.base CX lv fa fd ps (spEv X.K C d.np (callF P.D P.G lv f))
  p0 : ∀ X' : Cx, X'.prog = X.prog → X'.w = X.w → Passes CX X' E0
  cls : ∀ c cd, P.cl c = some cd → ClOk P C CX lv X c cd
  lam : ∀ q, P.lam = some q → ∃ c, X.env.code = .ref c ∧ LamX.TabB X.base X.mg c (C 1000) ∧ X.env.qual ++ "<lambda>" = q
section
variable {P : Par} {C : Nat → Addr} {CX : CXT} {lv : Nat} {E : XK} {sc : Scope} {X : Cx}
theorem GX.vis (G : GX P C CX lv E sc X) {x : Str} (h : visC sc x = true) : Vis X.env.scope x := by
  unfold visC at h
  split at h
  · rename_i e; rcases G.rel _ _ e with q | ⟨q, _⟩
    · exact .inl q
    · cases q
  · rename_i e; rcases G.rel _ _ e with q | ⟨q, _⟩
    · exact .inr (.inl q)
    · cases q
  · rename_i e; rcases G.rel _ _ e with q | ⟨_, q⟩
    · exact .inr (.inr q)
    · exact .inr (.inl q)
  · cases h
theorem GX.loc (G : GX P C CX lv E sc X) {x : Str} (h : locC sc x = true) : Loc X.env.scope x ∧ (X.fn x = true ∨ X.env.scope.names.lookup x = some .local) := by
  unfold locC at h
  split at h
  · rename_i e; rcases G.rel _ _ e with q | ⟨q, _⟩
    · exact ⟨.inl q, .inr q⟩
    · cases q
  · rename_i e; rcases G.rel _ _ e with q | ⟨q, _⟩
    · exact ⟨.inr q, .inl (G.fnc _ e)⟩
    · cases q
  · cases h
theorem GX.lcl_ (G : GX P C CX lv E sc X) {x : Str} (h : lcl sc x = true) : X.env.scope.names.lookup x = some .local := by
  rcases G.rel _ _ (of_decide_eq_true h) with q | ⟨q, _⟩
  · exact q
  · cases q
theorem GX.gl_ (G : GX P C CX lv E sc X) {x : Str} (h : glC sc x = true) : Gl X x := by
  rcases G.rel _ _ (of_decide_eq_true h) with q | ⟨q, _⟩
  · exact q
  · cases q
theorem GX.hu (G : GX P C CX lv E sc X) : X.A.units + 110 < cLine := by have := G.room.un; omega
theorem rel_free {scX : Scope} : ∀ {names : List (Str × NameKind)} {x : Str} {k : NameKind}, names.lookup x = some k →
    (names.map fun (n, k) => if (k == NameKind.free && scX.kind == .function && scX.names.lookup n == some .cell) then (n, NameKind.cell) else (n, k)).lookup x = some k ∨
    (k = .free ∧ (names.map fun (n, k) => if (k == NameKind.free && scX.kind == .function && scX.names.lookup n == some .cell) then (n, NameKind.cell) else (n, k)).lookup x = some .cell)
  | [], _, _, h => by simp at h
  | (n, j) :: r, x, k, h => by
    have ih := @rel_free scX r x k
    rw [List.map_cons]
    rw [List.lookup_cons] at h
    by_cases hc : (j == NameKind.free && scX.kind == .function && scX.names.lookup n == some .cell) = true
    · simp only [hc, if_true, List.lookup_cons]
      cases hx : x == n with
      | true =>
        simp only [hx] at h
        cases h
        simp only [Bool.and_eq_true, beq_iff_eq] at hc
        exact .inr ⟨hc.1.1, rfl⟩
      | false =>
        simp only [hx] at h
        exact ih h
    · simp only [hc, if_false, List.lookup_cons, Bool.false_eq_true]
      cases hx : x == n with
      | true =>
        simp only [hx] at h
        cases h
        exact .inl rfl
      | false =>
        simp only [hx] at h
        exact ih h
theorem GX.blk (G : GX P C CX lv E sc X) {scope : Scope} (hk : scope.kind = .function) (s : Shared) (H : Hp) (D : Addr) (cl : List (Str × Addr)) (fp : List Addr) : GX P C CX lv E0 scope (X.blk s H scope (compEnvC scope cl D X.env) fp) where
  nd := G.nd
  calm := G.calm
  room := G.room
  kind := hk
  rel := fun x k h => rel_free (scX := X.env.scope) h
  fnc := fun x h => by show (scope.names.lookup x == some .cell) = true; rw [h]; rfl
  pass := G.p0 _ rfl rfl
  bl := G.bl
  gl := G.gl
  calls := G.calls
  p0 := G.p0
  cls := fun c cd h => let q := G.cls c cd h; ⟨q.cl, q.na, q.mt, q.nw⟩
  lam := G.lam
end
theorem eEv_cast {X : Cx} {e : Expr} {C : Nat → Addr} {E : XK} {m m' : SU → MS → Rv U} (h : ∀ su s, m' su s = m su s) (p : PE X e (eEv X.K C E m)) : PE X e (eEv X.K C E m') := by
  have : m' = m := funext fun su => funext fun s => h su s
  rw [this]; exact p
theorem tEv_cast {X : Cx} {e : Expr} {C : Nat → Addr} {E : XK} {m m' : SU → MS → Rv Bool} (h : ∀ su s, m' su s = m su s) (p : PT X e (tEv X.K C E m)) : PT X e (tEv X.K C E m') := by
  have : m' = m := funext fun su => funext fun s => h su s
  rw [this]; exact p
theorem wEv_cast {X : Cx} {e : Expr} {C : Nat → Addr} {E : XK} {m m' : SU → MS → Rv Bool} (h : ∀ su s, m' su s = m su s) (p : PW X e (tEv X.K C E m)) : PW X e (tEv X.K C E m') := by
  have : m' = m := funext fun su => funext fun s => h su s
  rw [this]; exact p
theorem tsEv_cast {X : Cx} {e : List Expr} {C : Nat → Addr} {E : XK} {m m' : SU → MS → Rv Bool} (h : ∀ su s, m' su s = m su s) (p : PTs X e (tEv X.K C E m)) : PTs X e (tEv X.K C E m') := by
  have : m' = m := funext fun su => funext fun s => h su s
  rw [this]; exact p
theorem aEv_cast {X : Cx} {e : List Expr} {C : Nat → Addr} {E : XK} {m m' : SU → MS → Rv (List U)} (h : ∀ su s, m' su s = m su s) (p : PA X e (aEv X.K C E m)) : PA X e (aEv X.K C E m') := by
  have : m' = m := funext fun su => funext fun s => h su s
  rw [this]; exact p
theorem oEv_cast {X : Cx} {e : Option Expr} {C : Nat → Addr} {E : XK} {m m' : SU → MS → Rv (Option Int)} (h : ∀ su s, m' su s = m su s) (p : PO X e (oEv X.K C E m)) : PO X e (oEv X.K C E m') := by
  have : m' = m := funext fun su => funext fun s => h su s
  rw [this]; exact p
theorem iEv_cast {X : Cx} {t e : Expr} {C : Nat → Addr} {E : XK} {m m' : SU → MS → Rv Src} (h : ∀ su s, m' su s = m su s) (p : PI X t e (iEv X.K C E m)) : PI X t e (iEv X.K C E m') := by
  have : m' = m := funext fun su => funext fun s => h su s
  rw [this]; exact p
theorem sEv_cast {X : Cx} {e : Stmt} {C : Nat → Addr} {E : XK} {m m' : SU → MS → Fl} (h : ∀ su s, m' su s = m su s) (p : PS X e (sEv X.K C E m)) : PS X e (sEv X.K C E m') := by
  have : m' = m := funext fun su => funext fun s => h su s
  rw [this]; exact p
theorem ssEv_cast {X : Cx} {e : List Stmt} {C : Nat → Addr} {E : XK} {m m' : SU → MS → Fl} (h : ∀ su s, m' su s = m su s) (p : PSs X e (sEv X.K C E m)) : PSs X e (sEv X.K C E m') := by
  have : m' = m := funext fun su => funext fun s => h su s
  rw [this]; exact p

/-! ### side by side -/
/-- what a built-in is called -/
def biName : BI → Str
  | .len => "len" | .all => "all" | .any => "any" | .sum => "sum" | .max1 => "max" | .min1 => "min" | .max2 => "max" | .min2 => "min" | .tuple => "tuple" | .list _ => "list" | .int => "int" | .repr => "repr" | .sorted _ => "sorted"
  | .setsort _ => "sorted" | .setlen => "len" | .rangelist => "list" | .rangetup => "tuple" | .dict _ => "dict" | .maxkey _ => "max"
def biPlain : BI → Bool
  | .setsort _ => false | .setlen => false | .rangelist => false | .rangetup => false | .maxkey _ => false
  | _ => true
def tyStr : TY → Str
  | .int => "int" | .bool => "bool" | .str => "str" | .tup => "tuple" | .lst => "list"
def ntSlice : Expr → Bool
  | .Slice _ _ _ _ => false
  | _ => true
def ntSet : Expr → Bool
  | .Set _ _ _ => false
  | _ => true
def ntCall : Expr → Bool
  | .Call f _ _ _ => match f with
    | .Attribute _ _ _ => true
    | _ => false
  | _ => true
def ntTest : Expr → Bool
  | .UnaryOp _ _ _ => false
  | .BoolOp _ _ _ => false
  | .IfExp _ _ _ _ => false
  | .Compare _ _ _ _ => false
  | _ => true
def isTup : Expr → Bool
  | .Tuple _ _ _ => true
  | _ => false
theorem plainIx {b : Expr} (h : ntSlice b = true) : PlainIx b := fun o i => by
  cases b <;> first | rfl | (cases h; done)
theorem folded {e : Expr} {env : Env} (h : ntSet e = true) (x : Value) : foldedSetIterable e env x = pure x := by
  cases e <;> first | rfl | (cases h; done)
theorem attrB {o : Expr} {m : Str} {env : Env} (h : ntCall o = true) : attributeBase o m env (eval o env) = eval o env := by
  cases o with
  | Call f a k p => cases f <;> first | rfl | (cases h; done)
  | _ => rfl
theorem testB {e : Expr} {env : Env} (h : ntTest e = true) (whole : Sem Value) : isTrue e env whole = (do let v ← whole; standAt e.pos; holding [v] (truthy v)) := by
  cases e <;> first | rfl | (cases h; done)
mutual
def chkT_ (N : List Str) (sc : Scope) : Tg → Expr → Bool
  | .name i, e => match e with
    | .Name x _ => decide (N[i]? = some x) && locC sc x
    | _ => false
  | .tup ts, e => match e with
    | .Tuple es _ _ => decide (es.length = ts.len) && chkTs_ N sc ts es
    | _ => false
def chkTs_ (N : List Str) (sc : Scope) : Tgs → List Expr → Bool
  | .nil, es => es.isEmpty
  | .cons t ts, es => match es with
    | e :: es => nst e && chkT_ N sc t e && chkTs_ N sc ts es
    | [] => false
end
def ownOf (N : List Str) (vs : List Nat) : List (Str × Nat) := vs.map fun i => (N.getD i "", i)
theorem ownOf_vs (N : List Str) (vs : List Nat) : (ownOf N vs).map (·.2) = vs := by
  unfold ownOf
  rw [List.map_map]
  induction vs with
  | nil => rfl
  | cons v vs ih => rw [List.map_cons, ih]; rfl
def subL (l vs : List Nat) : Bool := l.all fun i => vs.contains i
theorem subL_ {l vs : List Nat} (h : subL l vs = true) : ∀ i ∈ l, i ∈ vs := fun i hi => by
  have := List.all_eq_true.mp h i hi
  simpa using this
def inName : BI → Str
  | .rangelist => "range" | .rangetup => "range"
  | _ => "set"
/-- sorted(set(..)) -/
def chkB (P : Par) (sc : Scope) (b : BI) (x : Str) : Bool :=
  match b with
  | .setsort _ => decide (x = "sorted") && P.B.contains x && glC sc x
  | .setlen => decide (x = "len") && P.B.contains x && glC sc x
  | .rangelist => decide (x = "list") && P.B.contains x && glC sc x
  | .rangetup => decide (x = "tuple") && P.B.contains x && glC sc x
  | _ => false
/-- lambda y: y[0] -/
def lamC (params : Arguments) (body : Expr) (scope : Scope) : Bool :=
  match params with
  | ⟨[], [⟨y, none, _⟩], none, [], [], none, []⟩ => match body with
    | .Subscript (.Name z _) (.Constant (.int 0) _ _) _ => decide (z = y) && decide (y = "one") && decide (scope.kind = .function) && !scope.isCoroutine && !scope.isGenerator && decide (scope.names = [(y, .local)]) && okN y
    | _ => false
  | _ => false
theorem lamC_ {params : Arguments} {body : Expr} {scope : Scope} (h : lamC params body scope = true) : ∃ y, LamOk y params body scope := by
  unfold lamC at h
  split at h
  · rename_i y p
    split at h
    · rename_i z p1 k p2 p3
      simp only [Bool.and_eq_true, decide_eq_true_eq, Bool.not_eq_true'] at h
      obtain ⟨⟨⟨⟨⟨⟨rfl, h0⟩, h1⟩, h2⟩, h3⟩, h4⟩, h5⟩ := h
      subst h0
      exact ⟨_, fun _ _ _ _ _ _ => rfl, fun _ => rfl, ⟨_, _, _, _, rfl⟩, h1, h2, h3, h4, (okN_ h5).1⟩
    · cases h
  · cases h
def chkTy (P : Par) (sc : Scope) : List TY → List Expr → Bool
  | [], [] => true
  | t :: ts, .Name y _ :: es => decide (y = tyStr t) && P.B.contains y && glC sc y && chkTy P sc ts es
  | _, _ => false
mutual
def chkE (P : Par) (N : List Str) (sc : Scope) : Ex → Expr → Bool
  | .var i, e => match e with
    | .Name x _ => decide (N[i]? = some x) && visC sc x && okN x
    | _ => false
  | .non, e => match e with
    | .Constant .none _ _ => true
    | _ => false
  | .bl b, e => match e with
    | .Constant (.bool k) _ _ => decide (k = b)
    | _ => false
  | .int i, e => match e with
    | .Constant (.int k) _ _ => decide (k = i)
    | _ => false
  | .str x, e => match e with
    | .Constant (.str k) _ _ => decide (k = x)
    | _ => false
  | .glb x, e => match e with
    | .Name y _ => decide (y = x) && glC sc x && okN x && (P.G x).isSome
    | _ => false
  | .bin o _ a b, e => match e with
    | .BinOp l op r _ => decide (op = boOp o) && chkE P N sc a l && chkE P N sc b r
    | _ => false
  | .neg a, e => match e with
    | .UnaryOp .USub l _ => chkE P N sc a l
    | _ => false
  | .cmp o a b, e => match e with
    | .Compare l [op] [r] _ => decide (op = coOp o) && ntSet r && chkE P N sc a l && chkE P N sc b r
    | _ => false
  | .chn o o' a b c, e => match e with
    | .Compare l [op, op'] [r, r'] _ => decide (op = coOp o) && decide (op' = coOp o') && ntSet r' && chkE P N sc a l && chkE P N sc b r && chkE P N sc c r'
    | _ => false
  | .band es, e => match e with
    | .BoolOp .And vs _ => !vs.isEmpty && chkEs P N sc es vs
    | _ => false
  | .bor es, e => match e with
    | .BoolOp .Or vs _ => !vs.isEmpty && chkEs P N sc es vs
    | _ => false
  | .bnot a, e => match e with
    | .UnaryOp .Not l _ => chkE P N sc a l
    | _ => false
  | .ite c a b, e => match e with
    | .IfExp t l r _ => chkT P N sc c t && chkE P N sc a l && chkE P N sc b r
    | _ => false
  | .tup es, e => match e with
    | .Tuple vs _ _ => chkEs P N sc es vs
    | _ => false
  | .lst _ es, e => match e with
    | .List vs _ => chkEs P N sc es vs
    | _ => false
  | .dis _ t kvs, e => match e with
    | .Dict ks vs _ => match kvs with
      | .nil => ks.isEmpty && vs.isEmpty
      | .cons k v r => !t && decide (ks.length ≤ 15) && chkPs P N sc (.cons k v r) ks vs
    | _ => false
  | .call f es, e => match e with
    | .Call (.Name x _) vs [] _ => !vs.isEmpty && decide (P.nm f = some x) && (P.D f).isSome && glC sc x && okN x && chkEs P N sc es vs
    | _ => false
  | .bi b es, e => match e with
    | .Call (.Name x _) vs [] _ => (biPlain b && !vs.isEmpty && decide (x = biName b) && P.B.contains x && glC sc x && chkEs P N sc es vs) || (chkB P sc b x && match es with
      | .cons a .nil => match vs with
        | [.Call (.Name y _) [l] [] _] => decide (y = inName b) && P.B.contains y && glC sc y && nst l && chkE P N sc a l
        | _ => false
      | _ => false)
    | .Call (.Name x _) [l] [⟨some kw, .Lambda params body scope _, _⟩] _ => match b with
      | .maxkey q => match es with
        | .cons a .nil => decide (x = "max") && P.B.contains x && glC sc x && decide (kw = "key") && decide (P.lam = some q) && nst l && lamC params body scope && chkE P N sc a l
        | _ => false
      | _ => false
    | _ => false
  | .isi a ts, e => match e with
    | .Call (.Name x _) [l, .Name y _] [] _ => match ts with
      | [t] => decide (x = "isinstance") && P.B.contains x && glC sc x && decide (y = tyStr t) && P.B.contains y && glC sc y && nst l && chkE P N sc a l
      | _ => false
    | .Call (.Name x _) [l, .Tuple es _ _] [] _ => decide (x = "isinstance") && P.B.contains x && glC sc x && chkTy P sc ts es && decide (ts.length ≤ 9) && nst l && chkE P N sc a l
    | _ => false
  | .idx a b, e => match e with
    | .Subscript l r _ => ntSlice r && chkE P N sc a l && chkE P N sc b r
    | _ => false
  | .slc a lo hi, e => match e with
    | .Subscript l (.Slice x y none _) _ => chkE P N sc a l && chkO P N sc lo x && chkO P N sc hi y
    | _ => false
  | .rev a, e => match e with
    | .Subscript l (.Slice none none (some (.UnaryOp .USub (.Constant (.int 1) _ _) _)) _) _ => chkE P N sc a l
    | _ => false
  | .me w o es, e => match e with
    | .Call (.Attribute l m apos) [r] [] pos => match w with
      | .append => match es with
        | .cons a .nil => decide (m = "append") && (apos.endLine == pos.line) && ntCall l && nst r && chkE P N sc o l && chkE P N sc a r
        | _ => false
      | .index => match es with
        | .cons a .nil => decide (m = "index") && (apos.endLine == pos.line) && ntCall l && nst r && chkE P N sc o l && chkE P N sc a r
        | _ => false
      | _ => false
    | .Call (.Attribute l m apos) [r, r'] [] pos => match w with
      | .get => match es with
        | .cons a (.cons b .nil) => decide (m = "get") && (apos.endLine == pos.line) && ntCall l && nst r && nst r' && chkE P N sc o l && chkE P N sc a r && chkE P N sc b r'
        | _ => false
      | .insert => match es with
        | .cons a (.cons b .nil) => decide (m = "insert") && (apos.endLine == pos.line) && ntCall l && nst r && nst r' && chkE P N sc o l && chkE P N sc a r && chkE P N sc b r'
        | _ => false
      | _ => false
    | .Call (.Attribute l m apos) [] [] pos => match w with
      | .pop => match es with
        | .nil => decide (m = "pop") && (apos.endLine == pos.line) && ntCall l && chkE P N sc o l
        | _ => false
      | _ => false
    | _ => false
  | .lc _ vs tg it c x, e => match e with
    | .ListComp elt [⟨tgE, iter, ifs, 0⟩] scope _ => blkC N sc scope (ownOf N vs) && subL (slT tg) vs && ntSet iter && chkT_ N scope tg tgE && chkI P N sc (isTup tgE) it iter && chkIf P N scope c ifs && chkE P N scope x elt
    | _ => false
  | .lc2 _ vs tg it c vs1 tg1 it1 c1 x, e => match e with
    | .ListComp elt [⟨tgE, iter, ifs, 0⟩, ⟨tgE1, iter1, ifs1, 0⟩] scope _ => blkC N sc scope (ownOf N vs) && subL (slT tg) vs && subL vs1 vs && subL (slT tg1) vs1 && ntSet iter && ntSet iter1 && chkT_ N scope tg tgE && chkI P N sc (isTup tgE) it iter && chkIf P N scope c ifs && chkT_ N scope tg1 tgE1 && chkI P N scope (isTup tgE1) it1 iter1 && chkIf P N scope c1 ifs1 && chkE P N scope x elt
    | _ => false
  | .dc _ _ vs tg it c k v, e => match e with
    | .DictComp kx vx [⟨tgE, iter, ifs, 0⟩] scope _ => blkC N sc scope (ownOf N vs) && subL (slT tg) vs && ntSet iter && chkT_ N scope tg tgE && chkI P N sc (isTup tgE) it iter && chkIf P N scope c ifs && chkE P N scope k kx && chkE P N scope v vx
    | _ => false
  | .dc2 _ _ vs tg it c vs1 tg1 it1 c1 k v, e => match e with
    | .DictComp kx vx [⟨tgE, iter, ifs, 0⟩, ⟨tgE1, iter1, ifs1, 0⟩] scope _ => blkC N sc scope (ownOf N vs) && subL (slT tg) vs && subL vs1 vs && subL (slT tg1) vs1 && ntSet iter && ntSet iter1 && chkT_ N scope tg tgE && chkI P N sc (isTup tgE) it iter && chkIf P N scope c ifs && chkT_ N scope tg1 tgE1 && chkI P N scope (isTup tgE1) it1 iter1 && chkIf P N scope c1 ifs1 && chkE P N scope k kx && chkE P N scope v vx
    | _ => false
  | .fld c o f, e => match e with
    | .Attribute l g _ => decide (g = f) && ntCall l && chkE P N sc o l && (match P.cl c with
      | some cd => cd.flds.contains f
      | none => false)
    | _ => false
  | .mth o c fi m es, e => match e with
    | .Call (.Attribute l g apos) vs [] pos => decide (g = m) && ntCall l && (apos.endLine == pos.line) && decide (vs.length < 30) && (P.D fi).isSome && (match P.cl c with
      | some cd => cd.mts.contains (m, fi)
      | none => false) && chkE P N sc o l && chkEs P N sc es vs
    | _ => false
  | .new c fi es, e => match e with
    | .Call (.Name x _) vs [] _ => !vs.isEmpty && (P.D fi).isSome && glC sc x && okN x && (match P.cl c with
      | some cd => decide (cd.nm = x) && decide (cd.ini = fi)
      | none => false) && chkEs P N sc es vs
    | _ => false
def chkPs (P : Par) (N : List Str) (sc : Scope) : Prs → List (Option Expr) → List Expr → Bool
  | .nil, ks, vs => ks.isEmpty && vs.isEmpty
  | .cons k v r, ks, vs => match ks, vs with
    | some a :: ks, b :: vs => chkE P N sc k a && chkE P N sc v b && chkPs P N sc r ks vs
    | _, _ => false
def chkEs (P : Par) (N : List Str) (sc : Scope) : Exs → List Expr → Bool
  | .nil, es => es.isEmpty
  | .cons x xs, es => match es with
    | e :: es => nst e && chkE P N sc x e && chkEs P N sc xs es
    | [] => false
def chkO (P : Par) (N : List Str) (sc : Scope) : Exo → Option Expr → Bool
  | .none, e => e.isNone
  | .some x, e => match e with
    | some e => chkE P N sc x e
    | none => false
def chkT (P : Par) (N : List Str) (sc : Scope) : Tx → Expr → Bool
  | .val x, e => ntTest e && chkE P N sc x e
  | .cmp o a b, e => match e with
    | .Compare l [op] [r] _ => decide (op = coOp o) && ntSet r && chkE P N sc a l && chkE P N sc b r
    | _ => false
  | .chn o o' a b c, e => match e with
    | .Compare l [op, op'] [r, r'] _ => decide (op = coOp o) && decide (op' = coOp o') && ntSet r' && chkE P N sc a l && chkE P N sc b r && chkE P N sc c r'
    | _ => false
  | .band ts, e => match e with
    | .BoolOp .And vs _ => !vs.isEmpty && chkTs P N sc ts vs
    | _ => false
  | .bor ts, e => match e with
    | .BoolOp .Or vs _ => !vs.isEmpty && chkTs P N sc ts vs
    | _ => false
  | .bnot t, e => match e with
    | .UnaryOp .Not l _ => chkT P N sc t l
    | _ => false
def chkTs (P : Par) (N : List Str) (sc : Scope) : Txs → List Expr → Bool
  | .nil, es => es.isEmpty
  | .cons x xs, es => match es with
    | e :: es => chkT P N sc x e && chkTs P N sc xs es
    | [] => false
/-- a clause's tests: none or one -/
def chkIf (P : Par) (N : List Str) (sc : Scope) : Txs → List Expr → Bool
  | .nil, es => es.isEmpty
  | .cons x xs, es => match es with
    | [e] => match xs with
      | .nil => chkT P N sc x e
      | .cons _ _ => false
    | _ => false
def chkI (P : Par) (N : List Str) (sc : Scope) (tup : Bool) : It → Expr → Bool
  | .seq x, e => chkE P N sc x e
  | .str x, e => chkE P N sc x e
  | .rng a, e => match e with
    | .Call (.Name x _) [l] [] _ => decide (x = "range") && P.B.contains x && glC sc x && nst l && chkE P N sc a l
    | _ => false
  | .rng2 a b, e => match e with
    | .Call (.Name x _) [l, r] [] _ => decide (x = "range") && P.B.contains x && glC sc x && nst l && nst r && chkE P N sc a l && chkE P N sc b r
    | _ => false
  | .enu a, e => match e with
    | .Call (.Name x _) [l] [] _ => tup && decide (x = "enumerate") && P.B.contains x && glC sc x && nst l && chkE P N sc a l
    | _ => false
  | .zip a b, e => match e with
    | .Call (.Name x _) [l, r] [] _ => tup && decide (x = "zip") && P.B.contains x && glC sc x && nst l && nst r && chkE P N sc a l && chkE P N sc b r
    | _ => false
  | .keys _ x, e => chkE P N sc x e
end
end Pv
set_option autoImplicit false
set_option Elab.async false
set_option linter.all false
set_option maxRecDepth 100000
set_option maxHeartbeats 4000000
namespace Pv
open PySem PySem.Spec PyProof.Rows L2

section
variable {P : Par} {C : Nat → Addr} {CX : CXT} {lv : Nat}
mutual
theorem sndG : ∀ (t : Tg) {E : XK} {sc : Scope} {X : Cx} (G : GX P C CX lv E sc X) (e : Expr), chkT_ X.N sc t e = true → PG X e (gEv X.K C t)
  | .name i, E, sc, X, G, e, h => by
    unfold chkT_ at h
    split at h
    · simp only [Bool.and_eq_true, decide_eq_true_eq] at h
      obtain ⟨l1, l2⟩ := G.loc h.2
      exact sg_name G.nd h.1 l1 l2
    · cases h
  | .tup ts, E, sc, X, G, e, h => by
    unfold chkT_ at h
    split at h
    · simp only [Bool.and_eq_true, decide_eq_true_eq] at h
      obtain ⟨g1, g2⟩ := sndGs ts G _ h.2
      obtain ⟨a1, a2⟩ := asg_len (env := X.env) g2
      exact sg_tup G.calm g1 (by rw [a1]; exact h.1) a2
    · cases h
theorem sndGs : ∀ (t : Tgs) {E : XK} {sc : Scope} {X : Cx} (G : GX P C CX lv E sc X) (es : List Expr), chkTs_ X.N sc t es = true → PGs X es (gsEv X.K C t) ∧ es.all nst = true
  | .nil, E, sc, X, G, es, h => by
    unfold chkTs_ at h
    cases es with
    | nil => exact ⟨sg_nil, rfl⟩
    | cons _ _ => cases h
  | .cons t ts, E, sc, X, G, es, h => by
    unfold chkTs_ at h
    split at h
    · simp only [Bool.and_eq_true] at h
      obtain ⟨g1, g2⟩ := sndGs ts G _ h.2
      exact ⟨sg_cons (sndG t G _ h.1.2) g1 (asg_cons h.1.1), by rw [List.all_cons, h.1.1, g2]; rfl⟩
    · cases h
end
theorem blk_ok {E : XK} {sc scope : Scope} {X : Cx} (G : GX P C CX lv E sc X) {vs : List Nat} (h : blkC X.N sc scope (ownOf X.N vs) = true) : BlkOk X.N X.env.scope scope (ownOf X.N vs) := by
  have b := blkOk_by h
  refine ⟨b.kind, b.uniq, b.ix, fun y hy e => ?_, b.own⟩
  rcases b.free y hy e with q | q
  · rcases G.rel _ _ q with z | ⟨z, _⟩
    · exact .inl z
    · cases z
  · rcases G.rel _ _ q with z | ⟨_, z⟩
    · exact .inr z
    · exact .inl z
theorem bi_call {E : XK} {sc : Scope} {X : Cx} (G : GX P C CX lv E sc X) (b : BI) (hb : biPlain b = true) {x : Str} {p0 pos : Pos} {e : Expr} {es : List Expr} {mes : SU → MS → Rv (List U)} (hx : x = biName b) (hB : P.B.contains x = true) (hg : Gl X x) (h : PA X (e :: es) (aEv X.K C E mes)) (hn : (e :: es).all nst = true) :
    PE X (.Call (.Name x p0) (e :: es) [] pos) (eEv X.K C E fun su s => (mes su s).bind fun us s1 => biU b us s1) := by
  have hm : X.mg x = none := G.bl x (by simpa using hB)
  simp only [List.all_cons, Bool.and_eq_true] at hn
  have he := star_cons (es := es) (env := X.env) hn.1
  have hpl := star_plain (pos := pos) (env := X.env) hn.2
  subst hx
  have hu := G.hu
  cases b with
  | len => exact se_bi (CallR.rx fun W => call_len_) hg hm (by decide +kernel) h (by decide) (by decide) he hpl
  | all => exact se_bi (CallR.rx fun W => call_all_ G.calm) hg hm (by decide +kernel) h (by decide) (by decide) he hpl
  | any => exact se_bi (CallR.rx fun W => call_any_ G.calm) hg hm (by decide +kernel) h (by decide) (by decide) he hpl
  | sum => exact se_bi (CallR.rx fun W => call_sum_ G.calm) hg hm (by decide +kernel) h (by decide) (by decide) he hpl
  | max1 => exact se_bi (CallR.rx fun W => call_max1_ G.calm (by omega)) hg hm (by decide +kernel) h (by decide) (by decide) he hpl
  | min1 => exact se_bi (CallR.rx fun W => call_min1_ G.calm (by omega)) hg hm (by decide +kernel) h (by decide) (by decide) he hpl
  | max2 => exact se_bi (CallR.rx fun W => call_max2_ G.calm) hg hm (by decide +kernel) h (by decide) (by decide) he hpl
  | min2 => exact se_bi (CallR.rx fun W => call_min2_ G.calm) hg hm (by decide +kernel) h (by decide) (by decide) he hpl
  | tuple => exact se_ty (CallR.rx fun W => call_tuple_) hg hm (by decide +kernel) h (by decide) (by decide) he hpl
  | list m => cases m <;> exact se_ty (CallR.rx fun W => call_list_) hg hm (by decide +kernel) h (by decide) (by decide) he hpl
  | int => exact se_ty (CallR.rx fun W => call_int_) hg hm (by decide +kernel) h (by decide) (by decide) he hpl
  | dict m => cases m <;> exact se_ty (CallR.rx fun W => call_dict_ G.calm) hg hm (by decide +kernel) h (by decide) (by decide) he hpl
  | repr => exact se_bi (CallR.rx fun W => call_repr_) hg hm (by decide +kernel) h (by decide) (by decide) he hpl
  | sorted m => cases m <;> exact se_bi (CallR.rx fun W => call_sorted_ G.calm hu) hg hm (by decide +kernel) h (by decide) (by decide) he hpl
  | _ => cases hb
theorem callF_len {k f : Nat} {d : Def} (hd : P.D f = some d) (us : List U) (s : MS) (h : us.length ≠ d.np) : callF P.D P.G k f us s = .no := by
  cases k with
  | zero => simp only [callF]
  | succ k =>
    unfold callF
    rw [hd]
    simp only [runD]
    rw [if_neg h]
theorem ty_boot (t : TY) : bootBuiltins (tyStr t) = some (.type (tyName t)) ∧ tyStr t ≠ "__name__" ∧ ((tyStr t) == ("__debug__" : Str)) = false := by
  cases t <;> exact ⟨by decide +kernel, by decide, by decide⟩
theorem ty_all {sc : Scope} {E : XK} {X : Cx} (G : GX P C CX lv E sc X) : ∀ {ts : List TY} {es : List Expr}, chkTy P sc ts es = true → PA X es (tTys ts)
  | [], [], _ => pa_nil
  | [], _ :: _, h => by simp [chkTy] at h
  | t :: ts, [], h => by simp [chkTy] at h
  | t :: ts, e :: es, h => by
    unfold chkTy at h
    split at h
    · rename_i e1 _; cases e1
    · rename_i e1 e2
      cases e1
      cases e2
      simp only [Bool.and_eq_true, decide_eq_true_eq] at h
      obtain ⟨⟨⟨h1, h2⟩, h3⟩, h4⟩ := h
      subst h1
      obtain ⟨b1, b2, b3⟩ := ty_boot t
      exact pa_cons (pe_bt (G.gl_ h3) (G.bl _ (by simpa using h2)) b1 b2 b3) (ty_all G h4) (star_cons rfl)
    · cases h
theorem ntSet_mark {o : CmpOp} {e : Expr} (h : ntSet e = true) : behindInMarks o e = false := by
  cases e <;> first | rfl | (cases h; done)
theorem ntSet_marks {o o' : CmpOp} {b e : Expr} (h : ntSet e = true) : lastMarks [o, o'] [b, e] = false := ntSet_mark h
mutual
theorem sndE : ∀ (x : Ex) {E : XK} {sc : Scope} {X : Cx} (G : GX P C CX lv E sc X) (e : Expr), chkE P X.N sc x e = true → PE X e (eEv X.K C E (evE (cx P lv) x))
  | .var i, E, sc, X, G, e, h => by
    unfold chkE at h
    split at h
    · simp only [Bool.and_eq_true, decide_eq_true_eq] at h
      obtain ⟨n1, n2, _⟩ := okN_ h.2
      exact eEv_cast (fun _ _ => by simp only [evE]) (se_var h.1.1 (G.vis h.1.2) n1 n2)
    · cases h
  | .non, E, sc, X, G, e, h => by
    unfold chkE at h
    split at h
    · exact eEv_cast (fun _ _ => by simp only [evE]) (se_c pe_non fun _ _ => .non)
    · cases h
  | .bl b, E, sc, X, G, e, h => by
    unfold chkE at h
    split at h
    · have h := of_decide_eq_true h
      subst h
      exact eEv_cast (fun _ _ => by simp only [evE]) (se_c pe_bl fun _ _ => .bl _)
    · cases h
  | .int i, E, sc, X, G, e, h => by
    unfold chkE at h
    split at h
    · have h := of_decide_eq_true h
      subst h
      exact eEv_cast (fun _ _ => by simp only [evE]) (se_c pe_int fun _ _ => .int _)
    · cases h
  | .str x, E, sc, X, G, e, h => by
    unfold chkE at h
    split at h
    · have h := of_decide_eq_true h
      subst h
      exact eEv_cast (fun _ _ => by simp only [evE]) (se_c pe_str fun _ _ => .str _)
    · cases h
  | .glb x, E, sc, X, G, e, h => by
    unfold chkE at h
    split at h
    · simp only [Bool.and_eq_true, decide_eq_true_eq] at h
      obtain ⟨⟨⟨h1, h2⟩, h3⟩, h4⟩ := h
      subst h1
      obtain ⟨u, hu⟩ := Option.isSome_iff_exists.mp h4
      obtain ⟨v, w, q1, q2, q3⟩ := G.gl _ _ hu
      obtain ⟨n1, n2, _⟩ := okN_ h3
      exact eEv_cast (fun _ _ => by simp only [evE, cx, hu, Rv.of]) (se_c (v := v) ⟨fun pins s σ H Q I q => ld_glob I (G.gl_ h2) q1 ⟨v, H, I, q2, q⟩ n1⟩ q3)
    · cases h
  | .bin o m a b, E, sc, X, G, e, h => by
    unfold chkE at h
    split at h
    · simp only [Bool.and_eq_true, decide_eq_true_eq] at h
      obtain ⟨⟨h1, h2⟩, h3⟩ := h
      subst h1
      exact eEv_cast (fun _ _ => by simp only [evE]) (se_bin (m := m) (sndE a G _ h2) (sndE b G _ h3))
    · cases h
  | .neg a, E, sc, X, G, e, h => by
    unfold chkE at h
    split at h
    · exact eEv_cast (fun _ _ => by simp only [evE]) (se_neg (sndE a G _ h))
    · cases h
  | .cmp o a b, E, sc, X, G, e, h => by
    unfold chkE at h
    split at h
    · simp only [Bool.and_eq_true, decide_eq_true_eq] at h
      obtain ⟨⟨⟨h1, h2⟩, h3⟩, h4⟩ := h
      subst h1
      exact eEv_cast (fun _ _ => by simp only [evE]) (se_cmp G.hu (ntSet_mark h2) (sndE a G _ h3) (sndE b G _ h4))
    · cases h
  | .chn o o' a b c, E, sc, X, G, e, h => by
    unfold chkE at h
    split at h
    · simp only [Bool.and_eq_true, decide_eq_true_eq] at h
      obtain ⟨⟨⟨⟨⟨h1, h2⟩, h3⟩, h4⟩, h5⟩, h6⟩ := h
      subst h1 h2
      exact eEv_cast (fun _ _ => by simp only [evE]) (se_chn G.hu (ntSet_marks h3) (sndE a G _ h4) (sndE b G _ h5) (sndE c G _ h6))
    · cases h
  | .band es, E, sc, X, G, e, h => by
    unfold chkE at h
    split at h
    · simp only [Bool.and_eq_true] at h
      exact eEv_cast (fun _ _ => by simp only [evE]) (sndAnd es G _ h.1 h.2)
    · cases h
  | .bor es, E, sc, X, G, e, h => by
    unfold chkE at h
    split at h
    · simp only [Bool.and_eq_true] at h
      exact eEv_cast (fun _ _ => by simp only [evE]) (sndOr es G _ h.1 h.2)
    · cases h
  | .bnot a, E, sc, X, G, e, h => by
    unfold chkE at h
    split at h
    · exact eEv_cast (fun _ _ => by simp only [evE]) (se_bnot (sndE a G _ h))
    · cases h
  | .ite c a b, E, sc, X, G, e, h => by
    unfold chkE at h
    split at h
    · simp only [Bool.and_eq_true] at h
      exact eEv_cast (fun _ _ => by simp only [evE]) (se_ite (sndT c G _ h.1.1) (sndE a G _ h.1.2) (sndE b G _ h.2))
    · cases h
  | .tup es, E, sc, X, G, e, h => by
    unfold chkE at h
    split at h
    · exact eEv_cast (fun _ _ => by simp only [evE]) (se_tup (sndEs es G _ h).1)
    · cases h
  | .lst m es, E, sc, X, G, e, h => by
    unfold chkE at h
    split at h
    · exact eEv_cast (fun _ _ => by simp only [evE]) (se_lst (m := m) (sndEs es G _ h).1)
    · cases h
  | .dis m t kvs, E, sc, X, G, e, h => by
    unfold chkE at h
    split at h
    · split at h
      · simp only [Bool.and_eq_true, List.isEmpty_iff] at h
        obtain ⟨h1, h2⟩ := h
        subst h1 h2
        cases t with
        | true => exact eEv_cast (fun _ _ => by simp only [evE]) (se_disT (m := m))
        | false => exact eEv_cast (fun _ _ => by simp only [evE, evPs]) (se_disK (m := m))
      · simp only [Bool.and_eq_true, Bool.not_eq_true', decide_eq_true_eq] at h
        obtain ⟨⟨h1, h2⟩, h3⟩ := h
        subst h1
        obtain ⟨p1, p2, p3, p4⟩ := sndPs (.cons _ _ _) G _ _ h3
        exact eEv_cast (fun _ _ => by simp only [evE, evPs_eq]) (se_dis (m := m) _ p1 p2 p3 (fun e => by rw [e] at p4; cases p4) h2 p4)
    · cases h
  | .call f es, E, sc, X, G, e, h => by
    unfold chkE at h
    split at h
    · simp only [Bool.and_eq_true, decide_eq_true_eq] at h
      obtain ⟨⟨⟨⟨⟨h1, h2⟩, h3⟩, h4⟩, h5⟩, h6⟩ := h
      obtain ⟨d, hd⟩ := Option.isSome_iff_exists.mp h3
      obtain ⟨fa, fd, ps, c1, c2, c3, c4⟩ := G.calls f d hd _ h2
      obtain ⟨p1, p2⟩ := sndEs es G _ h6
      rename_i vs _
      cases vs with
      | nil => cases h1
      | cons v vs =>
        have p3 := p2
        simp only [List.all_cons, Bool.and_eq_true] at p3
        exact eEv_cast (fun _ _ => by simp only [evE, cx]) (se_call c4 (fun us s hl => callF_len hd us s hl) G.room (G.gl_ h4) c1 c2 c3 G.pass p1 (okN_ h5).1 (star_cons p3.1) (star_plain p3.2))
    · cases h
  | .bi b es, E, sc, X, G, e, h => by
    unfold chkE at h
    split at h
    · rename_i x vs _
      rw [Bool.or_eq_true] at h
      rcases h with h | h
      · simp only [Bool.and_eq_true, decide_eq_true_eq] at h
        obtain ⟨⟨⟨⟨⟨h1, h2⟩, h3⟩, h4⟩, h5⟩, h6⟩ := h
        obtain ⟨p1, p2⟩ := sndEs es G _ h6
        cases vs with
        | nil => cases h2
        | cons v vs => exact eEv_cast (fun _ _ => by simp only [evE]) (bi_call G b h1 h3 h4 (G.gl_ h5) p1 p2)
      · rw [Bool.and_eq_true] at h
        obtain ⟨hb, h⟩ := h
        unfold chkB at hb
        split at hb
        · rename_i m
          split at h
          · rename_i a
            split at h
            · simp only [Bool.and_eq_true, decide_eq_true_eq] at h hb
              obtain ⟨⟨b1, b2⟩, b3⟩ := hb
              obtain ⟨⟨⟨⟨h1, h2⟩, h3⟩, h4⟩, h5⟩ := h
              exact eEv_cast (fun su s => by
                simp only [evE, evEs]
                cases evE (cx P lv) a su s <;> rfl) (se_setsort (m := m) b1 h1 G.calm G.hu (G.gl_ b3) (G.bl _ (by simpa using b2)) (G.gl_ h3) (G.bl _ (by simpa using h2)) (sndE a G _ h5) (star_cons h4))
            · cases h
          · cases h
        · split at h
          · rename_i a
            split at h
            · simp only [Bool.and_eq_true, decide_eq_true_eq] at h hb
              obtain ⟨⟨b1, b2⟩, b3⟩ := hb
              obtain ⟨⟨⟨⟨h1, h2⟩, h3⟩, h4⟩, h5⟩ := h
              exact eEv_cast (fun su s => by
                simp only [evE, evEs]
                cases evE (cx P lv) a su s <;> rfl) (se_setlen b1 h1 G.calm G.hu (G.gl_ b3) (G.bl _ (by simpa using b2)) (G.gl_ h3) (G.bl _ (by simpa using h2)) (sndE a G _ h5) (star_cons h4))
            · cases h
          · cases h
        · split at h
          · rename_i a
            split at h
            · simp only [Bool.and_eq_true, decide_eq_true_eq] at h hb
              obtain ⟨⟨b1, b2⟩, b3⟩ := hb
              obtain ⟨⟨⟨⟨h1, h2⟩, h3⟩, h4⟩, h5⟩ := h
              exact eEv_cast (fun su s => by
                simp only [evE, evEs]
                cases evE (cx P lv) a su s <;> rfl) (se_rangeTL (tl := false) b1 h1 G.calm (G.gl_ b3) (G.bl _ (by simpa using b2)) (G.gl_ h3) (G.bl _ (by simpa using h2)) (sndE a G _ h5) (star_cons h4))
            · cases h
          · cases h
        · split at h
          · rename_i a
            split at h
            · simp only [Bool.and_eq_true, decide_eq_true_eq] at h hb
              obtain ⟨⟨b1, b2⟩, b3⟩ := hb
              obtain ⟨⟨⟨⟨h1, h2⟩, h3⟩, h4⟩, h5⟩ := h
              exact eEv_cast (fun su s => by
                simp only [evE, evEs]
                cases evE (cx P lv) a su s <;> rfl) (se_rangeTL (tl := true) b1 h1 G.calm (G.gl_ b3) (G.bl _ (by simpa using b2)) (G.gl_ h3) (G.bl _ (by simpa using h2)) (sndE a G _ h5) (star_cons h4))
            · cases h
          · cases h
        · cases hb
    · split at h
      · split at h
        · rename_i a
          simp only [Bool.and_eq_true, decide_eq_true_eq] at h
          obtain ⟨⟨⟨⟨⟨⟨⟨h1, h2⟩, h3⟩, h4⟩, h5⟩, h6⟩, h7⟩, h8⟩ := h
          subst h1 h4
          obtain ⟨y, L⟩ := lamC_ h7
          obtain ⟨c, e1, e2, e3⟩ := G.lam _ h5
          exact eEv_cast (fun su s => by
            simp only [evE, evEs]
            cases evE (cx P lv) a su s <;> rfl) (se_maxkey G.calm (by have := G.room.dp; show X.A.depth < _; omega) (G.gl_ h3) (G.bl _ (by simpa using h2)) L e2 e1 e3 (sndE a G _ h8) (star_cons h6))
        · cases h
      · cases h
    · cases h
  | .isi a ts, E, sc, X, G, e, h => by
    unfold chkE at h
    split at h
    · split at h
      · rename_i t
        simp only [Bool.and_eq_true, decide_eq_true_eq] at h
        obtain ⟨⟨⟨⟨⟨⟨⟨h1, h2⟩, h3⟩, h4⟩, h5⟩, h6⟩, h7⟩, h8⟩ := h
        subst h4
        obtain ⟨b1, b2, b3⟩ := ty_boot t
        exact eEv_cast (fun _ _ => by simp only [evE]) (se_isi (t := t) h1 (G.gl_ h3) (G.bl _ (by simpa using h2)) (G.gl_ h6) (G.bl _ (by simpa using h5)) b1 b2 b3 (sndE a G _ h8) (star_cons h7))
      · cases h
    · simp only [Bool.and_eq_true, decide_eq_true_eq] at h
      obtain ⟨⟨⟨⟨⟨⟨h1, h2⟩, h3⟩, h4⟩, h5⟩, h6⟩, h7⟩ := h
      have hl : ts.length ≤ sizeLine := Nat.le_trans h5 (by rw [sizeLine_eq]; decide)
      exact eEv_cast (fun _ _ => by simp only [evE]) (se_isiN (ts := ts) h1 (G.gl_ h3) (G.bl _ (by simpa using h2)) (ty_all G h4) hl (sndE a G _ h7) (star_cons h6))
    · cases h
  | .idx a b, E, sc, X, G, e, h => by
    unfold chkE at h
    split at h
    · simp only [Bool.and_eq_true] at h
      exact eEv_cast (fun _ _ => by simp only [evE]) (se_idx G.hu (sndE a G _ h.1.2) (sndE b G _ h.2) (plainIx h.1.1))
    · cases h
  | .slc a lo hi, E, sc, X, G, e, h => by
    unfold chkE at h
    split at h
    · simp only [Bool.and_eq_true] at h
      exact eEv_cast (fun _ _ => by simp only [evE]) (se_slc (sndE a G _ h.1.1) (sndO lo G _ h.1.2) (sndO hi G _ h.2))
    · cases h
  | .rev a, E, sc, X, G, e, h => by
    unfold chkE at h
    split at h
    · exact eEv_cast (fun _ _ => by simp only [evE]) (se_rev (sndE a G _ h))
    · cases h
  | .me w o es, E, sc, X, G, e, h => by
    unfold chkE at h
    split at h
    · split at h
      · split at h
        · rename_i a
          simp only [Bool.and_eq_true, decide_eq_true_eq] at h
          obtain ⟨⟨⟨⟨⟨h1, h2⟩, h3⟩, h4⟩, h5⟩, h6⟩ := h
          subst h1
          exact eEv_cast (fun _ _ => by simp only [evE, evEs]) (se_append (sndE o G _ h5) (sndE a G _ h6) (attrB h3) h2 (star_cons h4))
        · cases h
      · split at h
        · rename_i a
          simp only [Bool.and_eq_true, decide_eq_true_eq] at h
          obtain ⟨⟨⟨⟨⟨h1, h2⟩, h3⟩, h4⟩, h5⟩, h6⟩ := h
          subst h1
          exact eEv_cast (fun _ _ => by simp only [evE, evEs]) (se_index (sndE o G _ h5) (sndE a G _ h6) (attrB h3) h2 (star_cons h4))
        · cases h
      · cases h
    · split at h
      · split at h
        · rename_i a b
          simp only [Bool.and_eq_true, decide_eq_true_eq] at h
          obtain ⟨⟨⟨⟨⟨⟨⟨h1, h2⟩, h3⟩, h4⟩, h4'⟩, h5⟩, h6⟩, h7⟩ := h
          subst h1
          have hu := G.hu
          exact eEv_cast (fun _ _ => by simp only [evE, evEs]; rfl) (se_get (by omega) (sndE o G _ h5) (sndE a G _ h6) (sndE b G _ h7) ⟨attrB h3, by rw [star_cons h4, star_cons h4']; rfl, h2, by rw [star_cons h4, star_cons h4']; rfl⟩)
        · cases h
      · split at h
        · rename_i a b
          simp only [Bool.and_eq_true, decide_eq_true_eq] at h
          obtain ⟨⟨⟨⟨⟨⟨⟨h1, h2⟩, h3⟩, h4⟩, h4'⟩, h5⟩, h6⟩, h7⟩ := h
          subst h1
          exact eEv_cast (fun _ _ => by simp only [evE, evEs]; rfl) (se_insert (sndE o G _ h5) (sndE a G _ h6) (sndE b G _ h7) (attrB h3) h2 (by rw [star_cons h4, star_cons h4']; rfl) (by rw [star_cons h4']; rfl))
        · cases h
      · cases h
    · split at h
      · split at h
        · simp only [Bool.and_eq_true, decide_eq_true_eq] at h
          obtain ⟨⟨⟨h1, h2⟩, h3⟩, h5⟩ := h
          subst h1
          exact eEv_cast (fun _ _ => by simp only [evE, evEs]) (se_pop (sndE o G _ h5) (attrB h3) h2)
        · cases h
      · cases h
    · cases h
  | .lc m vs tg it c x, E, sc, X, G, e, h => by
    unfold chkE at h
    split at h
    · rename_i pos
      simp only [Bool.and_eq_true] at h
      obtain ⟨⟨⟨⟨⟨⟨h1, h2⟩, h3⟩, h4⟩, h5⟩, h6⟩, h7⟩ := h
      have ok := blk_ok G h1
      have r := se_lc (m := m) (pos := pos) G.calm G.nd (sndI it G _ _ h5) ok (by rw [ownOf_vs]; exact subL_ h2) (fun s H D cl fp => sndG tg (G.blk ok.kind s H D cl fp) _ h4) (fun s H D cl fp => sndIf c (G.blk ok.kind s H D cl fp) _ h6) (fun s H D cl fp => sndE x (G.blk ok.kind s H D cl fp) _ h7) (folded h3)
      rw [ownOf_vs] at r
      exact eEv_cast (fun _ _ => by simp only [evE]) r
    · cases h
  | .lc2 m vs tg it c vs1 tg1 it1 c1 x, E, sc, X, G, e, h => by
    unfold chkE at h
    split at h
    · rename_i pos
      simp only [Bool.and_eq_true] at h
      obtain ⟨⟨⟨⟨⟨⟨⟨⟨⟨⟨⟨⟨h1, h2⟩, h2a⟩, h2b⟩, h3⟩, h3a⟩, h4⟩, h5⟩, h6⟩, h4a⟩, h5a⟩, h6a⟩, h7⟩ := h
      have ok := blk_ok G h1
      have r := se_lc2 (m := m) (pos := pos) G.calm G.nd (sndI it G _ _ h5) ok (by rw [ownOf_vs]; exact subL_ h2) (by rw [ownOf_vs]; exact subL_ h2a) (subL_ h2b) (fun s H D cl fp => sndG tg (G.blk ok.kind s H D cl fp) _ h4) (fun s H D cl fp => sndIf c (G.blk ok.kind s H D cl fp) _ h6)
        (fun s H D cl fp => sndI it1 (G.blk ok.kind s H D cl fp) _ _ h5a) (fun s H D cl fp => sndG tg1 (G.blk ok.kind s H D cl fp) _ h4a) (fun s H D cl fp => sndIf c1 (G.blk ok.kind s H D cl fp) _ h6a) (fun s H D cl fp => sndE x (G.blk ok.kind s H D cl fp) _ h7) (folded h3) (fun env => folded h3a)
      rw [ownOf_vs] at r
      exact eEv_cast (fun _ _ => by simp only [evE]; rfl) r
    · cases h
  | .dc m t vs tg it c k v, E, sc, X, G, e, h => by
    unfold chkE at h
    split at h
    · rename_i pos
      simp only [Bool.and_eq_true] at h
      obtain ⟨⟨⟨⟨⟨⟨⟨h1, h2⟩, h3⟩, h4⟩, h5⟩, h6⟩, h7⟩, h8⟩ := h
      have ok := blk_ok G h1
      have hu := G.hu
      have r := se_dc (m := m) (t := t) (pos := pos) G.calm (by omega) G.nd (sndI it G _ _ h5) ok (by rw [ownOf_vs]; exact subL_ h2) (fun s H D cl fp => sndG tg (G.blk ok.kind s H D cl fp) _ h4) (fun s H D cl fp => sndIf c (G.blk ok.kind s H D cl fp) _ h6) (fun s H D cl fp => sndE k (G.blk ok.kind s H D cl fp) _ h7) (fun s H D cl fp => sndE v (G.blk ok.kind s H D cl fp) _ h8) (folded h3)
      rw [ownOf_vs] at r
      exact eEv_cast (fun _ _ => by simp only [evE]) r
    · cases h
  | .dc2 m t vs tg it c vs1 tg1 it1 c1 k v, E, sc, X, G, e, h => by
    unfold chkE at h
    split at h
    · rename_i pos
      simp only [Bool.and_eq_true] at h
      obtain ⟨⟨⟨⟨⟨⟨⟨⟨⟨⟨⟨⟨⟨h1, h2⟩, h2a⟩, h2b⟩, h3⟩, h3a⟩, h4⟩, h5⟩, h6⟩, h4a⟩, h5a⟩, h6a⟩, h7⟩, h8⟩ := h
      have ok := blk_ok G h1
      have hu := G.hu
      have r := se_dc2 (m := m) (t := t) (pos := pos) (E := E) G.calm (by omega) G.nd (sndI it G _ _ h5) ok (by rw [ownOf_vs]; exact subL_ h2) (by rw [ownOf_vs]; exact subL_ h2a) (subL_ h2b) (fun s H D cl fp => sndG tg (G.blk ok.kind s H D cl fp) _ h4) (fun s H D cl fp => sndIf c (G.blk ok.kind s H D cl fp) _ h6)
        (fun s H D cl fp => sndI it1 (G.blk ok.kind s H D cl fp) _ _ h5a) (fun s H D cl fp => sndG tg1 (G.blk ok.kind s H D cl fp) _ h4a) (fun s H D cl fp => sndIf c1 (G.blk ok.kind s H D cl fp) _ h6a) (fun s H D cl fp => sndE k (G.blk ok.kind s H D cl fp) _ h7) (fun s H D cl fp => sndE v (G.blk ok.kind s H D cl fp) _ h8) (folded h3) (fun env => folded h3a)
      rw [ownOf_vs] at r
      exact eEv_cast (fun _ _ => by simp only [evE]; rfl) r
    · cases h
  | .fld c o f, E, sc, X, G, e, h => by
    unfold chkE at h
    split at h
    · simp only [Bool.and_eq_true, decide_eq_true_eq] at h
      obtain ⟨⟨⟨h1, h2⟩, h3⟩, h4⟩ := h
      subst h1
      split at h4
      · rename_i cd hcd
        have q := G.cls c cd hcd
        exact eEv_cast (fun _ _ => by simp only [evE]) (se_fld q.cl (q.na _ (by simpa using h4)) (sndE o G _ h3) (attrB h2))
      · cases h4
    · cases h
  | .mth o c fi m es, E, sc, X, G, e, h => by
    unfold chkE at h
    split at h
    · rename_i l g apos vs pos
      simp only [Bool.and_eq_true, decide_eq_true_eq] at h
      obtain ⟨⟨⟨⟨⟨⟨⟨h1, h2⟩, h3⟩, h4⟩, h5⟩, h6⟩, h7⟩, h8⟩ := h
      subst h1
      split at h6
      · rename_i cd hcd
        have q := G.cls c cd hcd
        obtain ⟨d, hd⟩ := Option.isSome_iff_exists.mp h5
        obtain ⟨fa, fd, ps, c1, c2, c3⟩ := q.mt _ fi (by simpa using h6) d hd
        have nl : ∀ us s, us.length ≠ d.np → callF P.D P.G lv fi us s = .no := fun us s hl => callF_len hd us s hl
        cases vs with
        | nil =>
          have he : es = .nil := by
            unfold chkEs at h8
            cases es with
            | nil => rfl
            | cons _ _ => simp at h8
          subst he
          exact eEv_cast (fun _ _ => by simp only [evE, evEs, cx]) (se_mth0 q.cl c1 c3 nl G.room c2 G.pass (sndE o G _ h7) (attrB h2) h3)
        | cons v vs =>
          obtain ⟨p1, p2⟩ := sndEs es G _ h8
          have p3 := p2
          simp only [List.all_cons, Bool.and_eq_true] at p3
          exact eEv_cast (fun _ _ => by simp only [evE, cx]) (se_mth q.cl c1 c3 nl G.room c2 G.pass (sndE o G _ h7) p1 (star_cons p3.1) (star_plain p3.2) (attrB h2) h3 (star_all p2) h4)
      · cases h6
    · cases h
  | .new c fi es, E, sc, X, G, e, h => by
    unfold chkE at h
    split at h
    · rename_i x p0 vs pos
      simp only [Bool.and_eq_true] at h
      obtain ⟨⟨⟨⟨⟨h1, h2⟩, h3⟩, h4⟩, h5⟩, h6⟩ := h
      split at h5
      · rename_i cd hcd
        simp only [Bool.and_eq_true, decide_eq_true_eq] at h5
        obtain ⟨rfl, rfl⟩ := h5
        have q := G.cls c cd hcd
        obtain ⟨d, hd⟩ := Option.isSome_iff_exists.mp h2
        obtain ⟨hm, fa, fd, ps, c1, c2, c3⟩ := q.nw d hd
        obtain ⟨p1, p2⟩ := sndEs es G _ h6
        cases vs with
        | nil => cases h1
        | cons v vs =>
          have p3 := p2
          simp only [List.all_cons, Bool.and_eq_true] at p3
          exact eEv_cast (fun _ _ => by simp only [evE, cx]) (se_newC c1 c3 (fun us s hl => callF_len hd us s hl) G.room (G.gl_ h3) hm c2 G.pass p1 (okN_ h4).1 (star_cons p3.1) (star_plain p3.2))
      · cases h5
    · cases h
theorem sndPs : ∀ (x : Prs) {E : XK} {sc : Scope} {X : Cx} (G : GX P C CX lv E sc X) (ks : List (Option Expr)) (vs : List Expr) {pos : Pos}, chkPs P X.N sc x ks vs = true → PPs X pos ks vs (trsP X.K C E (msP (cx P lv) x)) ∧ ks.all (·.isSome) = true ∧ ks.length = vs.length ∧ (msP (cx P lv) x).length = ks.length
  | .nil, E, sc, X, G, ks, vs, pos, h => by
    unfold chkPs at h
    simp only [Bool.and_eq_true, List.isEmpty_iff] at h
    obtain ⟨h1, h2⟩ := h
    subst h1 h2
    exact ⟨pps_nil, rfl, rfl, rfl⟩
  | .cons k v r, E, sc, X, G, ks, vs, pos, h => by
    unfold chkPs at h
    split at h
    · simp only [Bool.and_eq_true] at h
      obtain ⟨⟨h1, h2⟩, h3⟩ := h
      obtain ⟨p1, p2, p3, p4⟩ := sndPs r G _ _ (pos := pos) h3
      exact ⟨pps_cons (sndE k G _ h1) (sndE v G _ h2) p1, by rw [List.all_cons, p2]; rfl, by rw [List.length_cons, List.length_cons, p3], by rw [msP, List.length_cons, List.length_cons, p4]⟩
    · cases h
theorem sndEs : ∀ (x : Exs) {E : XK} {sc : Scope} {X : Cx} (G : GX P C CX lv E sc X) (es : List Expr), chkEs P X.N sc x es = true → PA X es (aEv X.K C E (evEs (cx P lv) x)) ∧ es.all nst = true
  | .nil, E, sc, X, G, es, h => by
    unfold chkEs at h
    cases es with
    | nil => exact ⟨aEv_cast (fun _ _ => by simp only [evEs]) sa_nil, rfl⟩
    | cons _ _ => cases h
  | .cons x xs, E, sc, X, G, es, h => by
    unfold chkEs at h
    split at h
    · simp only [Bool.and_eq_true] at h
      obtain ⟨p1, p2⟩ := sndEs xs G _ h.2
      exact ⟨aEv_cast (fun _ _ => by simp only [evEs]) (sa_cons (sndE x G _ h.1.2) p1 (star_cons h.1.1)), by rw [List.all_cons, h.1.1, p2]; rfl⟩
    · cases h
theorem sndO : ∀ (x : Exo) {E : XK} {sc : Scope} {X : Cx} (G : GX P C CX lv E sc X) (e : Option Expr), chkO P X.N sc x e = true → PO X e (oEv X.K C E (evO (cx P lv) x))
  | .none, E, sc, X, G, e, h => by
    unfold chkO at h
    cases e with
    | none => exact oEv_cast (fun _ _ => by simp only [evO]) so_none
    | some _ => cases h
  | .some x, E, sc, X, G, e, h => by
    unfold chkO at h
    split at h
    · exact oEv_cast (fun _ _ => by simp only [evO]) (so_some (sndE x G _ h))
    · cases h
theorem sndAnd : ∀ (x : Exs) {E : XK} {sc : Scope} {X : Cx} (G : GX P C CX lv E sc X) (es : List Expr) {pos : Pos}, (!es.isEmpty) = true → chkEs P X.N sc x es = true → PE X (.BoolOp .And es pos) (eEv X.K C E (evAnd (cx P lv) x))
  | .nil, E, sc, X, G, es, pos, hn, h => by
    unfold chkEs at h
    rw [h] at hn
    cases hn
  | .cons x .nil, E, sc, X, G, es, pos, hn, h => by
    unfold chkEs at h
    split at h
    · rename_i e es
      simp only [Bool.and_eq_true] at h
      have h2 := h.2
      unfold chkEs at h2
      cases es with
      | cons _ _ => cases h2
      | nil =>
        have r := sndE x G _ h.1.2
        exact eEv_cast (fun _ _ => by simp only [evAnd]) ⟨fun pins s σ H Q I q => r.run pins s σ H Q I q⟩
    · cases h
  | .cons x (.cons y ys), E, sc, X, G, es, pos, hn, h => by
    unfold chkEs at h
    split at h
    · rename_i e es
      simp only [Bool.and_eq_true] at h
      cases es with
      | nil =>
        have h2 := h.2
        unfold chkEs at h2
        cases h2
      | cons e2 es => exact eEv_cast (fun _ _ => by simp only [evAnd]) (se_and (sndE x G _ h.1.2) (sndAnd (.cons y ys) G (e2 :: es) (pos := pos) rfl h.2))
    · cases h
theorem sndOr : ∀ (x : Exs) {E : XK} {sc : Scope} {X : Cx} (G : GX P C CX lv E sc X) (es : List Expr) {pos : Pos}, (!es.isEmpty) = true → chkEs P X.N sc x es = true → PE X (.BoolOp .Or es pos) (eEv X.K C E (evOr (cx P lv) x))
  | .nil, E, sc, X, G, es, pos, hn, h => by
    unfold chkEs at h
    rw [h] at hn
    cases hn
  | .cons x .nil, E, sc, X, G, es, pos, hn, h => by
    unfold chkEs at h
    split at h
    · rename_i e es
      simp only [Bool.and_eq_true] at h
      have h2 := h.2
      unfold chkEs at h2
      cases es with
      | cons _ _ => cases h2
      | nil =>
        have r := sndE x G _ h.1.2
        exact eEv_cast (fun _ _ => by simp only [evOr]) ⟨fun pins s σ H Q I q => r.run pins s σ H Q I q⟩
    · cases h
  | .cons x (.cons y ys), E, sc, X, G, es, pos, hn, h => by
    unfold chkEs at h
    split at h
    · rename_i e es
      simp only [Bool.and_eq_true] at h
      cases es with
      | nil =>
        have h2 := h.2
        unfold chkEs at h2
        cases h2
      | cons e2 es => exact eEv_cast (fun _ _ => by simp only [evOr]) (se_or (sndE x G _ h.1.2) (sndOr (.cons y ys) G (e2 :: es) (pos := pos) rfl h.2))
    · cases h
theorem sndT : ∀ (x : Tx) {E : XK} {sc : Scope} {X : Cx} (G : GX P C CX lv E sc X) (e : Expr), chkT P X.N sc x e = true → PT X e (tEv X.K C E (evT (cx P lv) x))
  | .val x, E, sc, X, G, e, h => by
    unfold chkT at h
    simp only [Bool.and_eq_true] at h
    exact tEv_cast (fun _ _ => by simp only [evT]) (st_val (sndE x G _ h.2) (testB h.1))
  | .cmp o a b, E, sc, X, G, e, h => by
    unfold chkT at h
    split at h
    · simp only [Bool.and_eq_true, decide_eq_true_eq] at h
      obtain ⟨⟨⟨h1, h2⟩, h3⟩, h4⟩ := h
      subst h1
      exact tEv_cast (fun _ _ => by simp only [evT]) (st_cmp G.hu (ntSet_mark h2) (sndE a G _ h3) (sndE b G _ h4))
    · cases h
  | .chn o o' a b c, E, sc, X, G, e, h => by
    unfold chkT at h
    split at h
    · simp only [Bool.and_eq_true, decide_eq_true_eq] at h
      obtain ⟨⟨⟨⟨⟨h1, h2⟩, h3⟩, h4⟩, h5⟩, h6⟩ := h
      subst h1 h2
      exact tEv_cast (fun _ _ => by simp only [evT]) (st_chn G.hu (ntSet_marks h3) (sndE a G _ h4) (sndE b G _ h5) (sndE c G _ h6))
    · cases h
  | .band ts, E, sc, X, G, e, h => by
    unfold chkT at h
    split at h
    · simp only [Bool.and_eq_true] at h
      exact tEv_cast (fun _ _ => by simp only [evT]) (sndAll ts G _ h.1 h.2).pt
    · cases h
  | .bor ts, E, sc, X, G, e, h => by
    unfold chkT at h
    split at h
    · simp only [Bool.and_eq_true] at h
      exact tEv_cast (fun _ _ => by simp only [evT]) (sndAny ts G _ h.1 h.2).pt
    · cases h
  | .bnot t, E, sc, X, G, e, h => by
    unfold chkT at h
    split at h
    · exact tEv_cast (fun _ _ => by simp only [evT]) (st_not (sndT t G _ h))
    · cases h
theorem sndAll : ∀ (x : Txs) {E : XK} {sc : Scope} {X : Cx} (G : GX P C CX lv E sc X) (es : List Expr) {pos : Pos}, (!es.isEmpty) = true → chkTs P X.N sc x es = true → PW X (.BoolOp .And es pos) (tEv X.K C E (evAll (cx P lv) x))
  | .nil, E, sc, X, G, es, pos, hn, h => by
    unfold chkTs at h
    rw [h] at hn
    cases hn
  | .cons x .nil, E, sc, X, G, es, pos, hn, h => by
    unfold chkTs at h
    split at h
    · rename_i e es
      simp only [Bool.and_eq_true] at h
      have h2 := h.2
      unfold chkTs at h2
      cases es with
      | cons _ _ => cases h2
      | nil => exact wEv_cast (fun _ _ => by simp only [evAll]) (sw_and1 (sndT x G _ h.1))
    · cases h
  | .cons x (.cons y ys), E, sc, X, G, es, pos, hn, h => by
    unfold chkTs at h
    split at h
    · rename_i e es
      simp only [Bool.and_eq_true] at h
      cases es with
      | nil =>
        have h2 := h.2
        unfold chkTs at h2
        cases h2
      | cons e2 es => exact wEv_cast (fun _ _ => by rw [evAll]) (sw_and (sndT x G _ h.1) (sndAll (.cons y ys) G (e2 :: es) (pos := pos) rfl h.2))
    · cases h
theorem sndAny : ∀ (x : Txs) {E : XK} {sc : Scope} {X : Cx} (G : GX P C CX lv E sc X) (es : List Expr) {pos : Pos}, (!es.isEmpty) = true → chkTs P X.N sc x es = true → PW X (.BoolOp .Or es pos) (tEv X.K C E (evAny (cx P lv) x))
  | .nil, E, sc, X, G, es, pos, hn, h => by
    unfold chkTs at h
    rw [h] at hn
    cases hn
  | .cons x .nil, E, sc, X, G, es, pos, hn, h => by
    unfold chkTs at h
    split at h
    · rename_i e es
      simp only [Bool.and_eq_true] at h
      have h2 := h.2
      unfold chkTs at h2
      cases es with
      | cons _ _ => cases h2
      | nil => exact wEv_cast (fun _ _ => by simp only [evAny]) (sw_or1 (sndT x G _ h.1))
    · cases h
  | .cons x (.cons y ys), E, sc, X, G, es, pos, hn, h => by
    unfold chkTs at h
    split at h
    · rename_i e es
      simp only [Bool.and_eq_true] at h
      cases es with
      | nil =>
        have h2 := h.2
        unfold chkTs at h2
        cases h2
      | cons e2 es => exact wEv_cast (fun _ _ => by rw [evAny]) (sw_or (sndT x G _ h.1) (sndAny (.cons y ys) G (e2 :: es) (pos := pos) rfl h.2))
    · cases h
theorem sndIf : ∀ (x : Txs) {E : XK} {sc : Scope} {X : Cx} (G : GX P C CX lv E sc X) (es : List Expr), chkIf P X.N sc x es = true → PTs X es (tEv X.K C E (evAll (cx P lv) x))
  | .nil, E, sc, X, G, es, h => by
    unfold chkIf at h
    cases es with
    | nil => exact tsEv_cast (fun _ _ => by simp only [evAll]) sts_nil
    | cons _ _ => cases h
  | .cons x xs, E, sc, X, G, es, h => by
    unfold chkIf at h
    split at h
    · split at h
      · exact tsEv_cast (fun _ _ => by simp only [evAll]) (sts_one (sndT x G _ h))
      · cases h
    · cases h
theorem sndI : ∀ (x : It) {E : XK} {sc : Scope} {X : Cx} (G : GX P C CX lv E sc X) (tg e : Expr), chkI P X.N sc (isTup tg) x e = true → PI X tg e (iEv X.K C E (evI (cx P lv) x))
  | .seq x, E, sc, X, G, tg, e, h => by
    unfold chkI at h
    exact iEv_cast (fun _ _ => by simp only [evI]) (si_seq (sndE x G _ h))
  | .str x, E, sc, X, G, tg, e, h => by
    unfold chkI at h
    exact iEv_cast (fun _ _ => by simp only [evI]) (si_str (sndE x G _ h))
  | .rng a, E, sc, X, G, tg, e, h => by
    unfold chkI at h
    split at h
    · simp only [Bool.and_eq_true, decide_eq_true_eq] at h
      obtain ⟨⟨⟨⟨h1, h2⟩, h3⟩, h4⟩, h5⟩ := h
      subst h1
      exact iEv_cast (fun _ _ => by simp only [evI]) (si_rng (star_cons h4) (G.gl_ h3) (G.bl _ (by simpa using h2)) (sndE a G _ h5))
    · cases h
  | .rng2 a b, E, sc, X, G, tg, e, h => by
    unfold chkI at h
    split at h
    · simp only [Bool.and_eq_true, decide_eq_true_eq] at h
      obtain ⟨⟨⟨⟨⟨⟨h1, h2⟩, h3⟩, h4⟩, h5⟩, h6⟩, h7⟩ := h
      subst h1
      exact iEv_cast (fun _ _ => by simp only [evI]) (si_rng2 (by rw [star_cons h4, star_cons h5]; rfl) (star_cons h5) (G.gl_ h3) (G.bl _ (by simpa using h2)) (sndE a G _ h6) (sndE b G _ h7))
    · cases h
  | .enu a, E, sc, X, G, tg, e, h => by
    unfold chkI at h
    split at h
    · simp only [Bool.and_eq_true, decide_eq_true_eq] at h
      obtain ⟨⟨⟨⟨⟨h0, h1⟩, h2⟩, h3⟩, h4⟩, h5⟩ := h
      subst h1
      cases tg <;> first
        | (cases h0; done)
        | exact iEv_cast (fun _ _ => by simp only [evI]) (si_enu (G.gl_ h3) (G.bl _ (by simpa using h2)) (sndE a G _ h5) (star_cons h4))
    · cases h
  | .zip a b, E, sc, X, G, tg, e, h => by
    unfold chkI at h
    split at h
    · simp only [Bool.and_eq_true, decide_eq_true_eq] at h
      obtain ⟨⟨⟨⟨⟨⟨⟨h0, h1⟩, h2⟩, h3⟩, h4⟩, h5⟩, h6⟩, h7⟩ := h
      subst h1
      cases tg <;> first
        | (cases h0; done)
        | exact iEv_cast (fun _ _ => by simp only [evI]) (si_zip (by rw [star_cons h4, star_cons h5]; rfl) (star_cons h5) (G.gl_ h3) (G.bl _ (by simpa using h2)) (sndE a G _ h6) (sndE b G _ h7))
    · cases h
  | .keys t x, E, sc, X, G, tg, e, h => by
    unfold chkI at h
    exact iEv_cast (fun _ _ => by simp only [evI]) (si_keys (sndE x G _ h))
end
end
end Pv
set_option autoImplicit false
set_option Elab.async false
set_option linter.all false
set_option maxRecDepth 100000
set_option maxHeartbeats 2000000
namespace Pv
open PySem PySem.Spec PyProof.Rows L2
def ntComp : Expr → Bool
  | .ListComp _ _ _ _ => false
  | .SetComp _ _ _ _ => false
  | .DictComp _ _ _ _ _ => false
  | _ => true
def ntTup : Expr → Bool
  | .Tuple _ _ _ => false
  | _ => true
theorem swp_nc {e : Expr} {t : Option Expr} {l : Nat} {env : Env} (h : ntComp e = true) : swapsWith e t l env = pure false := by
  cases e <;> first | rfl | (cases h; done)
theorem swp_sole {tg e : Expr} {l : Nat} {env : Env} (h : ntComp e = true) : swapsWithSole [tg] e l env = pure false := by
  show swapsWith e (some tg) l env = pure false
  exact swp_nc h
theorem swp_attr {e o : Expr} {f : Str} {p : Pos} {l : Nat} {env : Env} : swapsWith e (some (.Attribute o f p)) l env = pure false := by
  cases e <;> rfl
theorem swp_nt {tg e : Expr} {env : Env} (h : ntTup e = true) : swappedStores [tg] e env = pure none := by
  cases e <;> first | (cases h; done) | (cases tg <;> rfl)
theorem swp_fold {tg : Expr} {vs : List Expr} {k : Nat} {p : Pos} {env : Env} (h : vs.all (foldedForSure 8) = true) : swappedStores [tg] (.Tuple vs k p) env = pure none := by
  cases tg <;> first
    | rfl
    | (unfold swappedStores
       simp only [h, if_true]
       repeat (first | rfl | split))
theorem swp_par {x y : Str} {px py pt pt2 : Pos} {kt k2 : Nat} {a b : Expr} {env : Env} (hk : env.scope.kind = .function) (hx : env.scope.names.lookup x = some .local) (hy : env.scope.names.lookup y = some .local) (hl : (py.line == px.line) = true) (hxy : (x == y) = false) (ha : nst a = true) (hb : nst b = true)
    (hf : ([a, b].all (foldedForSure 8)) = false) (hc : ([a, b].all (constantsAlone 8)) = false) : swappedStores [.Tuple [.Name x px, .Name y py] kt pt] (.Tuple [a, b] k2 pt2) env = pure (some [x, y]) := by
  have kx : env.kindOf x = some .local := hx
  have ky : env.kindOf y = some .local := hy
  have hb2 : env.blockKind = .function := by unfold Env.blockKind; rw [hk]; rfl
  have s1 : ([a, b].any fun | .Starred .. => true | _ => false) = false := by
    cases a <;> first | (cases ha; done) | (cases b <;> first | (cases hb; done) | rfl)
  have hne : (y == x) = false := by
    cases q : (y == x) with
    | false => rfl
    | true =>
      have : y = x := eq_of_beq q
      subst this
      rw [beq_self_eq_true] at hxy
      cases hxy
  have ed : ([x, y] : List Str).eraseDups.length = 2 := by
    simp [List.eraseDups_cons, hne]
  unfold swappedStores
  simp only [hb2, s1, hf, hc, kx, ky, hl, List.filterMap_cons, List.filterMap_nil, List.head?_cons, Option.map_some, Option.getD_some, Expr.pos, beq_self_eq_true, Bool.and_self, if_true, List.length_cons, List.length_nil, ed]
  refine (if_neg (by decide)).trans ?_
  refine (if_neg fun q => ?_).trans ?_
  · have := s1.symm.trans q
    cases this
  · rfl
theorem fm_lt {α β : Type} {f : α → Option β} : ∀ {l : List α}, (∃ x ∈ l, f x = none) → (l.filterMap f).length < l.length
  | [], ⟨_, h, _⟩ => by cases h
  | a :: l, ⟨x, hx, e⟩ => by
    rcases List.mem_cons.mp hx with z | z
    · subst z
      rw [List.filterMap_cons, e]
      have := List.length_filterMap_le f l
      simp
      omega
    · have ih := fm_lt (f := f) ⟨x, z, e⟩
      rw [List.filterMap_cons]
      cases f a with
      | none => show (l.filterMap f).length < l.length + 1; omega
      | some b => show (l.filterMap f).length + 1 < l.length + 1; omega
/-- a target that is captured -/
def cellN (sc : Scope) (x : Str) : Bool := decide (sc.names.lookup x = some .cell)
def tupCell (sc : Scope) : Expr → Bool
  | .Tuple ts _ _ => ts.any fun e => match e with
    | .Name x _ => cellN sc x
    | _ => false
  | _ => false
theorem swp_cell {tg : Expr} {vs : List Expr} {k : Nat} {p : Pos} {env : Env} {sc : Scope} (hc : ∀ x, sc.names.lookup x = some .cell → env.scope.names.lookup x = some .cell) (h : tupCell sc tg = true) : swappedStores [tg] (.Tuple vs k p) env = pure none := by
  unfold tupCell at h
  split at h
  · rename_i ts k2 p2
    obtain ⟨e, he, q⟩ := List.any_eq_true.mp h
    split at q
    · rename_i x px
      have kx : env.kindOf x = some .cell := hc x (of_decide_eq_true q)
      unfold swappedStores
      simp only
      split
      · rfl
      · split
        · rfl
        · split
          · rfl
          · rename_i h3
            exfalso
            apply h3
            have hl := fm_lt (f := fun e : Expr => match e with
              | .Name id pos => if (env.kindOf id == some .local && pos.line == ((ts.head?.map (·.pos.line)).getD 0)) = true then some id else none
              | _ => none) (l := ts) ⟨_, he, by simp [kx]⟩
            rw [Bool.or_eq_true]
            refine .inl ?_
            rw [bne_iff_ne]
            exact Nat.ne_of_lt hl
    · cases q
  · cases h
theorem swp_cn {e : Expr} {y : Str} {py : Pos} {l : Nat} {env : Env} (h : env.scope.names.lookup y = some .cell) : swapsWithSole [.Name y py] e l env = pure false := by
  have k : env.kindOf y = some .cell := h
  show swapsWith e (some (.Name y py)) l env = pure false
  cases e <;> first
    | rfl
    | (unfold swapsWith
       simp only [k]
       simp only [show (some NameKind.cell == some NameKind.local) = false from rfl, show (NameKind.cell == NameKind.local) = false from rfl]
       simp)
end Pv
set_option autoImplicit false
set_option Elab.async false
set_option linter.all false
set_option maxRecDepth 100000
set_option maxHeartbeats 4000000
namespace Pv
open PySem PySem.Spec PyProof.Rows L2

/-- a list comprehension stored under a name on its own line -/
def lcAsg (P : Par) (N : List Str) (sc : Scope) (tg : Tg) (x : Ex) (y : Str) (py : Pos) (e : Expr) : Bool :=
  match tg with
  | .name i => match x, e with
    | .lc _ vs tg it c x, .ListComp elt [⟨tgE, iter, ifs, 0⟩] scope pos => decide (N[i]? = some y) && lcl sc y && (py.line == pos.line) && !(scope.names.any fun (n, k) => n == y && (k == .local || k == .cell)) &&
      (blkC N sc scope (ownOf N vs) && subL (slT tg) vs && ntSet iter && chkT_ N scope tg tgE && chkI P N sc (isTup tgE) it iter && chkIf P N scope c ifs && chkE P N scope x elt)
    | .lc2 _ vs tg it c vs1 tg1 it1 c1 x, .ListComp elt [⟨tgE, iter, ifs, 0⟩, ⟨tgE1, iter1, ifs1, 0⟩] scope pos => decide (N[i]? = some y) && lcl sc y && (py.line == pos.line) && !(scope.names.any fun (n, k) => n == y && (k == .local || k == .cell)) &&
      (blkC N sc scope (ownOf N vs) && subL (slT tg) vs && subL vs1 vs && subL (slT tg1) vs1 && ntSet iter && ntSet iter1 && chkT_ N scope tg tgE && chkI P N sc (isTup tgE) it iter && chkIf P N scope c ifs && chkT_ N scope tg1 tgE1 && chkI P N scope (isTup tgE1) it1 iter1 && chkIf P N scope c1 ifs1 && chkE P N scope x elt)
    | _, _ => false
  | _ => false
def nmT : Expr → Bool
  | .Name _ _ => true
  | _ => false
theorem swp_name {tg e : Expr} {env : Env} (h : nmT tg = true) : swappedStores [tg] e env = pure none := by
  cases tg <;> first | (cases h; done) | (cases e <;> rfl)
def tupFold : Expr → Bool
  | .Tuple vs _ _ => vs.all (foldedForSure 8)
  | _ => true
def isName : Expr → Bool
  | .Name _ _ => true
  | _ => false
mutual
def chkS (P : Par) (N : List Str) (sc : Scope) : St → Stmt → Bool
  | .exp x, t => match t with
    | .Expr e _ => ntComp e && chkE P N sc x e
    | _ => false
  | .asg tg x, t => match t with
    | .Assign [tgE] e _ => match ntComp e with
      | true => nst tgE && (tupFold e || tupCell sc tgE || nmT tgE) && chkT_ N sc tg tgE && chkE P N sc x e
      | false => match tgE with
        | .Name y py => lcAsg P N sc tg x y py e || (cellN sc y && ntTup e && chkT_ N sc tg (.Name y py) && chkE P N sc x e)
        | _ => false
    | _ => false
  | .par i j a b, t => match t with
    | .Assign [.Tuple [.Name x px, .Name y py] _ _] (.Tuple [l, r] _ _) _ => decide (N[i]? = some x) && decide (N[j]? = some y) && decide (i ≠ j) && lcl sc x && lcl sc y && (py.line == px.line) && !(x == y) && nst l && nst r && !([l, r].all (foldedForSure 8)) && !([l, r].all (constantsAlone 8)) && chkE P N sc a l && chkE P N sc b r
    | _ => false
  | .setI o i x, t => match t with
    | .Assign [.Subscript l r _] e _ => ntComp e && ntTup e && ntSlice r && chkE P N sc x e && chkE P N sc o l && chkE P N sc i r
    | _ => false
  | .aug i o x, t => match t with
    | .AugAssign (.Name y _) .Add e _ => match o with
      | .add => decide (N[i]? = some y) && locC sc y && chkE P N sc x e
      | _ => false
    | _ => false
  | .ret x, t => match t with
    | .Return (some e) _ => chkE P N sc x e
    | _ => false
  | .retN, t => match t with
    | .Return none _ => true
    | _ => false
  | .ife c a b, t => match t with
    | .If e l r _ => chkT P N sc c e && chkSs P N sc a l && chkSs P N sc b r
    | _ => false
  | .for tg it body, t => match t with
    | .For tgE iter b [] _ => ntSet iter && chkT_ N sc tg tgE && chkI P N sc (isTup tgE) it iter && chkSs P N sc body b
    | _ => false
  | .whl _ c body, t => match t with
    | .While e b [] _ => chkT P N sc c e && chkSs P N sc body b
    | _ => false
  | .setF c o f x, t => match t with
    | .Assign [.Attribute l g _] e _ => decide (g = f) && ntCall l && ntTup e && (match P.cl c with
      | some cd => cd.flds.contains f
      | none => false) && chkE P N sc o l && chkE P N sc x e
    | _ => false
  | .nev, _ => true
  | .rai _, _ => false
  | .brk, t => match t with
    | .Break _ => true
    | _ => false
  | .cnt, t => match t with
    | .Continue _ => true
    | _ => false
  | .pas, t => match t with
    | .Pass _ => true
    | .Expr (.Constant (.str _) _ _) _ => true
    | _ => false
def chkSs (P : Par) (N : List Str) (sc : Scope) : Sts → List Stmt → Bool
  | .nil, ts => ts.isEmpty
  | .cons s ss, ts => match ts with
    | t :: ts => chkS P N sc s t && chkSs P N sc ss ts
    | [] => false
end
section
variable {P : Par} {C : Nat → Addr} {CX : CXT} {lv : Nat} {E : XK} {sc : Scope} {X : Cx}
theorem GX.cell_ (G : GX P C CX lv E sc X) : ∀ x, sc.names.lookup x = some .cell → X.env.scope.names.lookup x = some .cell := fun x h => by
  rcases G.rel _ _ h with q | ⟨q, _⟩
  · exact q
  · cases q
theorem sub_asg {l r : Expr} {p : Pos} {env : Env} (h : ntSlice r = true) (v : Value) : assign (.Subscript l r p) env v = (do
      let ov ← holding [v] (eval l env)
      let iv ← holding [v, ov] (eval r env)
      standAt p
      holding [v, ov, iv] (setItem ov iv v)
      release [v, ov, iv] []) := by
  cases r <;> first | (cases h; done) | rfl
theorem snd_lcAsg (G : GX P C CX lv E sc X) {tg : Tg} {x : Ex} {y : Str} {py spos : Pos} {e : Expr} (h : lcAsg P X.N sc tg x y py e = true) :
    PS X (.Assign [.Name y py] e spos) (sEv X.K C E fun su s => (evE (cx P lv) x su s).fl su fun u s1 => asgK tg u su s1) := by
  unfold lcAsg at h
  split at h
  · rename_i i
    split at h
    · rename_i m vs tg it c x elt tgE iter ifs scope pos
      simp only [Bool.and_eq_true, decide_eq_true_eq, Bool.not_eq_true'] at h
      obtain ⟨⟨⟨⟨a1, a2⟩, a3⟩, a4⟩, ⟨⟨⟨⟨⟨⟨h1, h2⟩, h3⟩, h4⟩, h5⟩, h6⟩, h7⟩⟩ := h
      have ok := blk_ok G h1
      have hl := G.lcl_ a2
      have r := ss_setLc (m := m) (spos := spos) (py := py) (pos := pos) (E := E) G.calm G.nd a1 hl (sw_true G.kind hl a3 a4) (sndI it G _ _ h5) ok (by rw [ownOf_vs]; exact subL_ h2) (fun s H D cl fp => sndG tg (G.blk ok.kind s H D cl fp) _ h4) (fun s H D cl fp => sndIf c (G.blk ok.kind s H D cl fp) _ h6) (fun s H D cl fp => sndE x (G.blk ok.kind s H D cl fp) _ h7) (folded h3)
      rw [ownOf_vs] at r
      exact sEv_cast (fun _ _ => by simp only [evE]) r
    · rename_i m vs tg it c vs1 tg1 it1 c1 x elt tgE iter ifs tgE1 iter1 ifs1 scope pos
      simp only [Bool.and_eq_true, decide_eq_true_eq, Bool.not_eq_true'] at h
      obtain ⟨⟨⟨⟨a1, a2⟩, a3⟩, a4⟩, ⟨⟨⟨⟨⟨⟨⟨⟨⟨⟨⟨⟨h1, h2⟩, h2a⟩, h2b⟩, h3⟩, h3a⟩, h4⟩, h5⟩, h6⟩, h4a⟩, h5a⟩, h6a⟩, h7⟩⟩ := h
      have ok := blk_ok G h1
      have hl := G.lcl_ a2
      have r := ss_setLc2 (m := m) (spos := spos) (py := py) (pos := pos) (E := E) G.calm G.nd a1 hl (sw_true G.kind hl a3 a4) (sndI it G _ _ h5) ok (by rw [ownOf_vs]; exact subL_ h2) (by rw [ownOf_vs]; exact subL_ h2a) (subL_ h2b) (fun s H D cl fp => sndG tg (G.blk ok.kind s H D cl fp) _ h4) (fun s H D cl fp => sndIf c (G.blk ok.kind s H D cl fp) _ h6)
        (fun s H D cl fp => sndI it1 (G.blk ok.kind s H D cl fp) _ _ h5a) (fun s H D cl fp => sndG tg1 (G.blk ok.kind s H D cl fp) _ h4a) (fun s H D cl fp => sndIf c1 (G.blk ok.kind s H D cl fp) _ h6a) (fun s H D cl fp => sndE x (G.blk ok.kind s H D cl fp) _ h7) (folded h3) (fun env => folded h3a)
      rw [ownOf_vs] at r
      exact sEv_cast (fun _ _ => by simp only [evE]; rfl) r
    · cases h
  · cases h
mutual
theorem sndS (G : GX P C CX lv E sc X) (hp : PassesOwn (model X.prog X.w) X.A X.env X.xe) : ∀ (s : St) (t : Stmt), chkS P X.N sc s t = true → PS X t (sEv X.K C E (evS (cx P lv) s))
  | .exp x, t, h => by
    unfold chkS at h
    split at h
    · simp only [Bool.and_eq_true] at h
      exact sEv_cast (fun _ _ => by simp only [evS]) (ss_exp (sndE x G _ h.2) (swp_nc h.1))
    · cases h
  | .asg tg x, t, h => by
    unfold chkS at h
    split at h
    · split at h
      · rename_i tgE e pos _ hc
        simp only [Bool.and_eq_true] at h
        obtain ⟨⟨⟨h1, h2⟩, h3⟩, h4⟩ := h
        have hw : swappedStores [tgE] e X.env = pure none := by
          simp only [Bool.or_eq_true] at h2
          rcases h2 with (h2 | h2) | h2
          · cases e <;> first
              | exact swp_nt rfl
              | exact swp_fold h2
          · cases e <;> first
              | exact swp_nt rfl
              | exact swp_cell G.cell_ h2
          · exact swp_name h2
        exact sEv_cast (fun _ _ => by simp only [evS]) (ss_asg (sndE x G _ h4) (sndG tg G _ h3) (swp_sole hc) hw (asg_cons (es := []) h1))
      · split at h
        · simp only [Bool.or_eq_true] at h
          rcases h with h | h
          · exact sEv_cast (fun _ _ => by simp only [evS]) (snd_lcAsg G h)
          · simp only [Bool.and_eq_true] at h
            exact sEv_cast (fun _ _ => by simp only [evS]) (ss_asg (sndE x G _ h.2) (sndG tg G _ h.1.2) (swp_cn (G.cell_ _ (of_decide_eq_true h.1.1.1))) (swp_nt h.1.1.2) rfl)
        · cases h
    · cases h
  | .par i j a b, t, h => by
    unfold chkS at h
    split at h
    · simp only [Bool.and_eq_true, decide_eq_true_eq, Bool.not_eq_true'] at h
      obtain ⟨⟨⟨⟨⟨⟨⟨⟨⟨⟨⟨⟨h1, h2⟩, h3⟩, h4⟩, h5⟩, h6⟩, h7⟩, h8⟩, h9⟩, h10⟩, h11⟩, h12⟩, h13⟩ := h
      exact sEv_cast (fun _ _ => by simp only [evS]) (ss_par G.calm G.nd h1 h2 h3 (G.lcl_ h4) (G.lcl_ h5) (sndE a G _ h12) (sndE b G _ h13) (by rw [star_cons h8, star_cons h9]; rfl) (star_cons h9) (swp_par G.kind (G.lcl_ h4) (G.lcl_ h5) h6 h7 h8 h9 h10 h11) rfl)
    · cases h
  | .setI o i x, t, h => by
    unfold chkS at h
    split at h
    · simp only [Bool.and_eq_true] at h
      obtain ⟨⟨⟨⟨⟨h1, h2⟩, h3⟩, h4⟩, h5⟩, h6⟩ := h
      exact sEv_cast (fun _ _ => by simp only [evS]) (ss_setI G.hu (sndE x G _ h4) (sndE o G _ h5) (sndE i G _ h6) (swp_sole h1) (swp_nt h2) (sub_asg h3))
    · cases h
  | .aug i o x, t, h => by
    unfold chkS at h
    split at h
    · split at h
      · simp only [Bool.and_eq_true, decide_eq_true_eq] at h
        obtain ⟨l1, l2⟩ := G.loc h.1.2
        exact sEv_cast (fun _ _ => by simp only [evS]) (ss_aug G.nd h.1.1 l1 l2 (sndE x G _ h.2))
      · cases h
    · cases h
  | .ret x, t, h => by
    unfold chkS at h
    split at h
    · exact sEv_cast (fun _ _ => by simp only [evS]) (ss_ret (sndE x G _ h))
    · cases h
  | .retN, t, h => by
    unfold chkS at h
    split at h
    · exact sEv_cast (fun _ _ => by simp only [evS]) ss_retN
    · cases h
  | .ife c a b, t, h => by
    unfold chkS at h
    split at h
    · simp only [Bool.and_eq_true] at h
      exact sEv_cast (fun _ _ => by simp only [evS]) (ss_if (sndT c G _ h.1.1) (sndSs G hp a _ h.1.2) (sndSs G hp b _ h.2))
    · cases h
  | .for tg it body, t, h => by
    unfold chkS at h
    split at h
    · simp only [Bool.and_eq_true] at h
      obtain ⟨⟨⟨h1, h2⟩, h3⟩, h4⟩ := h
      exact sEv_cast (fun _ _ => by simp only [evS]) (ss_for hp G.calm (sndI it G _ _ h3) (sndG tg G _ h2) (sndSs G hp body _ h4) (folded h1))
    · cases h
  | .whl n c body, t, h => by
    unfold chkS at h
    split at h
    · simp only [Bool.and_eq_true] at h
      exact sEv_cast (fun _ _ => by simp only [evS]) (ss_whl (n := n) hp (sndT c G _ h.1) (sndSs G hp body _ h.2))
    · cases h
  | .setF c o f x, t, h => by
    unfold chkS at h
    split at h
    · simp only [Bool.and_eq_true, decide_eq_true_eq] at h
      obtain ⟨⟨⟨⟨⟨h1, h2⟩, h3⟩, h4⟩, h5⟩, h6⟩ := h
      subst h1
      split at h4
      · rename_i cd hcd
        have q := G.cls c cd hcd
        exact sEv_cast (fun _ _ => by simp only [evS]) (ss_setF q.cl (q.na _ (by simpa using h4)) (sndE o G _ h5) (sndE x G _ h6) (swp_attr))
      · cases h4
    · cases h
  | .nev, t, h => sEv_cast (fun _ _ => by simp only [evS]) ss_nev
  | .rai _, t, h => by unfold chkS at h; cases h
  | .brk, t, h => by
    unfold chkS at h
    split at h
    · exact sEv_cast (fun _ _ => by simp only [evS]) ss_brk
    · cases h
  | .cnt, t, h => by
    unfold chkS at h
    split at h
    · exact sEv_cast (fun _ _ => by simp only [evS]) ss_cnt
    · cases h
  | .pas, t, h => by
    unfold chkS at h
    split at h
    · exact sEv_cast (fun _ _ => by simp only [evS]) ss_pass
    · exact sEv_cast (fun _ _ => by simp only [evS]) ss_doc
    · cases h
theorem sndSs (G : GX P C CX lv E sc X) (hp : PassesOwn (model X.prog X.w) X.A X.env X.xe) : ∀ (s : Sts) (t : List Stmt), chkSs P X.N sc s t = true → PSs X t (sEv X.K C E (evSs (cx P lv) s))
  | .nil, t, h => by
    unfold chkSs at h
    cases t with
    | nil => exact ssEv_cast (fun _ _ => by simp only [evSs]) sss_nil
    | cons _ _ => cases h
  | .cons s ss, t, h => by
    unfold chkSs at h
    split at h
    · simp only [Bool.and_eq_true] at h
      exact ssEv_cast (fun _ _ => by simp only [evSs]) (sss_cons (sndS G hp s _ h.1) (sndSs G hp ss _ h.2))
    · cases h
end
end
end Pv
set_option autoImplicit false
set_option Elab.async false
set_option linter.all false
set_option maxRecDepth 100000
set_option maxHeartbeats 2000000
namespace Pv
open PySem PySem.Spec PyProof.Rows L2

/-! ### a def's end: what it made goes from the books -/
def Gh.tr (g : Gh) (b : Nat) : Gh := ⟨g.al.take b, g.zs⟩
section
variable {K : PySem.W.Frag} {C : Nat → Addr} {g g' : Gh} {s s' : MS} {H H' : Hp} {b : Nat}
theorem Gh.tr_get {n : Nat} {a : Addr} (h : (g.tr b).al[n]? = some (some a)) : g.al[n]? = some (some a) ∧ n < b := by
  have h' : (g.al.take b)[n]? = some (some a) := h
  rw [List.getElem?_take] at h'
  split at h'
  · exact ⟨h', by assumption⟩
  · cases h'
theorem Gh.tr_of {n : Nat} {a : Addr} (h : g.al[n]? = some (some a)) (hn : n < b) : (g.tr b).al[n]? = some (some a) := by
  show (g.al.take b)[n]? = _
  rw [List.getElem?_take, if_pos hn]
  exact h
theorem Gh.tr_out {a : Addr} (h : g.out a) : (g.tr b).out a := fun n e => h n (Gh.tr_get e).1
theorem Gh.tr_no {a : Addr} (h : g.no a) : (g.tr b).no a := ⟨Gh.tr_out h.1, h.2⟩
mutual
theorem RelU.tr : ∀ {u : U} {v : V}, RelU K g H u v → cls b u = true → RelU K (g.tr b) H u v
  | _, _, .non, _ => .non
  | _, _, .bl b, _ => .bl b
  | _, _, .int i, _ => .int i
  | _, _, .str x, _ => .str x
  | _, _, .tup h n z r, c => .tup h (Gh.tr_no n) z (RelUs.tr r (by simpa only [cls] using c))
  | _, _, .ktp h z r, c => .ktp h z (RelUs.tr r (by simpa only [cls] using c))
  | _, _, .lst h n z r, c => .lst h (Gh.tr_no n) z (RelUs.tr r (by simpa only [cls] using c))
  | _, _, .dK h n l z r, c => .dK h (Gh.tr_no n) l z (RelUs.tr r (by simpa only [cls] using c))
  | _, _, .dT h n l z r, c => .dT h (Gh.tr_no n) l z (RelUs.tr r (by simpa only [cls] using c))
  | _, _, .scr z h, _ => .scr z (h.imp (fun ⟨o, q⟩ => ⟨o, q.1, q.2.1, Gh.tr_no q.2.2⟩) id)
  | _, _, .obj h, c => .obj (Gh.tr_of h (by simpa only [cls, decide_eq_true_eq] using c))
theorem RelUs.tr : ∀ {us : List U} {vs : List V}, RelUs K g H us vs → clss b us = true → RelUs K (g.tr b) H us vs
  | _, _, .nil, _ => .nil
  | _, _, .cons h r, c => by
    simp only [clss, Bool.and_eq_true] at c
    exact .cons (RelU.tr h c.1) (RelUs.tr r c.2)
end
mutual
theorem RelU.clsd : ∀ {u : U} {v : V}, RelU K g H u v → cls g.al.length u = true
  | _, _, .non => by simp only [cls]
  | _, _, .bl b => by simp only [cls]
  | _, _, .int i => by simp only [cls]
  | _, _, .str x => by simp only [cls]
  | _, _, .tup h n z r => by simp only [cls]; exact RelUs.clsd r
  | _, _, .ktp h z r => by simp only [cls]; exact RelUs.clsd r
  | _, _, .lst h n z r => by simp only [cls]; exact RelUs.clsd r
  | _, _, .dK h n l z r => by simp only [cls]; exact RelUs.clsd r
  | _, _, .dT h n l z r => by simp only [cls]; exact RelUs.clsd r
  | _, _, .scr z h => by simp only [cls]
  | _, _, .obj h => by simp only [cls, decide_eq_true_eq]; exact (List.getElem?_eq_some_iff.mp h).1
theorem RelUs.clsd : ∀ {us : List U} {vs : List V}, RelUs K g H us vs → clss g.al.length us = true
  | _, _, .nil => by simp only [clss]
  | _, _, .cons h r => by simp only [clss, Bool.and_eq_true]; exact ⟨RelU.clsd h, RelUs.clsd r⟩
end
theorem RO.tr {a : Addr} : ∀ {o : O}, RO K C g H a o → clsO b o = true → RO K C (g.tr b) H a o
  | .lst us, ⟨z, vs, q, r⟩, c => ⟨z, vs, q, r.tr (by simpa only [clsO] using c)⟩
  | .dK us, ⟨z, vs, q, r⟩, c => ⟨z, vs, q, r.tr (by simpa only [clsO] using c)⟩
  | .dT us, ⟨z, vs, q, r⟩, c => ⟨z, vs, q, r.tr (by simpa only [clsO] using c)⟩
  | .ins c fs, ⟨dx, vs, q, r⟩, h => ⟨dx, vs, q, r.tr (by simpa only [clsO] using h)⟩
  | .tab _, ⟨z, ps, q, t, r⟩, _ => ⟨z, ps, q, t, fun pos cv hc => let ⟨c, h1, h2, h3⟩ := r pos cv hc; ⟨c, h1, h2, Gh.tr_no h3⟩⟩
theorem RO.clsd {a : Addr} : ∀ {o : O}, RO K C g H a o → clsO g.al.length o = true
  | .lst us, ⟨z, vs, q, r⟩ => by simp only [clsO]; exact r.clsd
  | .dK us, ⟨z, vs, q, r⟩ => by simp only [clsO]; exact r.clsd
  | .dT us, ⟨z, vs, q, r⟩ => by simp only [clsO]; exact r.clsd
  | .ins c fs, ⟨dx, vs, q, r⟩ => by simp only [clsO]; exact r.clsd
  | .tab _, _ => by simp only [clsO]
theorem heldO_get : ∀ {s s' : MS} {b n : Nat} {o p : O}, heldO b s s' = true → s[n]? = some o → s'[n]? = some p → o = p ∨ clsO b p = true
  | o :: os, p :: ps, b, 0, o', p', h, e1, e2 => by
    simp only [heldO, Bool.and_eq_true, Bool.or_eq_true, decide_eq_true_eq] at h
    simp only [List.getElem?_cons_zero] at e1 e2
    cases e1; cases e2
    exact h.1
  | o :: os, p :: ps, b, n + 1, o', p', h, e1, e2 => by
    simp only [heldO, Bool.and_eq_true] at h
    exact heldO_get h.2 (by simpa using e1) (by simpa using e2)
  | [], _, _, _, _, _, _, e1, _ => by simp at e1
  | _ :: _, [], _, _, _, _, _, _, e2 => by simp at e2
theorem Ext.lens (R : RS K C g s H) (R' : RS K C g' s' H') (e : Ext g H g' H') (n : Nat) (hn : n < s.length) : n < s'.length := by
  obtain ⟨a, q⟩ := R.there n _ (List.getElem?_eq_getElem hn)
  rw [← R'.len]
  exact (List.getElem?_eq_some_iff.mp (e.obj n a q)).1
theorem RS.tr (R : RS K C g s H) (R' : RS K C g' s' H') (e : Ext g H g' H') (h : heldO s.length s s' = true) : RS K C (g'.tr s.length) (s'.take s.length) H' := by
  refine ⟨by show (g'.al.take _).length = _; simp [R'.len], fun n o h1 => ?_, fun n o a h1 h2 => ?_, fun n m a h1 h2 => R'.inj n m a (Gh.tr_get h1).1 (Gh.tr_get h2).1, fun n a h1 => R'.kind n a (Gh.tr_get h1).1, fun a ha => ⟨(R'.zsd a ha).1, Gh.tr_out (R'.zsd a ha).2⟩⟩
  · rw [List.getElem?_take] at h1
    split at h1
    · obtain ⟨a, q⟩ := R'.there n o h1
      exact ⟨a, Gh.tr_of q (by assumption)⟩
    · cases h1
  · rw [List.getElem?_take] at h1
    split at h1
    · rename_i hn
      obtain ⟨q, _⟩ := Gh.tr_get h2
      have ro := R'.at_ n o a h1 q
      refine ro.tr ?_
      rcases heldO_get h (List.getElem?_eq_getElem hn) h1 with z | z
      · have z2 : s[n]? = some o := by rw [List.getElem?_eq_getElem hn, z]
        obtain ⟨a0, qa⟩ := R.there n o z2
        have ro0 := R.at_ n o a0 z2 qa
        rw [← R.len]
        exact ro0.clsd
      · exact z
    · cases h1
theorem Ext.tr (R : RS K C g s H) (e : Ext g H g' H') : Ext g H (g'.tr s.length) H' :=
  ⟨fun a o h n => let ⟨h1, n1⟩ := e.keep a o h n; ⟨h1, Gh.tr_out n1⟩, fun n a h => Gh.tr_of (e.obj n a h) (by rw [← R.len]; exact (List.getElem?_eq_some_iff.mp h).1), e.nz, e.zk, e.lv⟩
theorem frz_rel (R' : RS K C g' s' H') {u : U} {v : V} (r : RelU K g' H' u v) (h : cls b (frz b s' u) = true) : RelU K (g'.tr b) H' (frz b s' u) v := by
  unfold frz at h ⊢
  split at h
  · rename_i n
    split at h
    · rename_i hn
      rw [if_pos hn]
      cases r with
      | @obj _ a ha =>
        have no : (g'.tr b).no a := by
          refine ⟨fun m e => ?_, fun z => (R'.zsd a z).2 n ha⟩
          obtain ⟨q, hm⟩ := Gh.tr_get e
          have := R'.inj m n a q ha
          omega
        split at h
        · rename_i xs e
          obtain ⟨z, vs, q, rr⟩ := R'.at_ n _ a e ha
          exact .lst q no z (rr.tr (by simpa only [cls] using h))
        · rename_i kvs e
          obtain ⟨z, vs, q, rr⟩ := R'.at_ n _ a e ha
          exact .dK (.inl q) no (by simp) (by simpa using z) (rr.tr (by simpa only [cls] using h))
        · rename_i kvs e
          obtain ⟨z, vs, q, rr⟩ := R'.at_ n _ a e ha
          exact .dT (.inl q) no (by simp) (by simpa using z) (rr.tr (by simpa only [cls] using h))
        · simp only [cls, decide_eq_true_eq] at h
          omega
    · rename_i hn
      rw [if_neg hn]
      exact r.tr h
  · exact r.tr h
theorem fin_snd {keep : Bool} {W : Value → Hp → Prop} {Q : VK} {u : U} {v : V} (R : RS K C g s H) (R' : RS K C g' s' H') (e : Ext g H g' H') (r : RelU K g' H' u v) (p : Pst K C (RelU K) W g H (fin keep s u s') Q) : Q v H' := by
  unfold fin at p
  split at p
  · exact Pst.ok_ p R' e r
  · split at p
    · rename_i h
      simp only [Bool.and_eq_true] at h
      exact Pst.ok_ p (R.tr R' e h.2) (Ext.tr R e) (frz_rel R' r h.1)
    · exact p.elim
theorem start_rel {us : List U} {vs : List V} (r : RelUs K g H us vs) (N : List Str) (nn : Nat) (h : N.length = nn) : RSt K g H (Pv.start nn us) (L2.start N vs) := by
  have hl := r.length
  unfold Pv.start L2.start
  refine ⟨by simp [hl, h], fun i u e => ?_⟩
  by_cases hi : i < us.length
  · rw [List.getElem?_append_left (by simpa using hi), List.getElem?_map] at e
    obtain ⟨u', e1, e2⟩ := Option.map_eq_some_iff.mp e
    cases e2
    obtain ⟨v, e3, rv⟩ := r.get e1
    exact ⟨v, by rw [List.getElem?_append_left (by simp; omega), List.getElem?_map, e3]; rfl, rv⟩
  · rw [List.getElem?_append_right (by simp; omega), List.getElem?_replicate] at e
    split at e
    · cases e
    · cases e
end
/-! ### the defs -/
/-- what stands behind the top for a def's text -/
structure BodyOk (P : Par) (K : PySem.W.Frag) (LT : Value → Prop) (n q : Str) (d : Def) (fa : Addr) (fd : FuncData) (ps N : List Str) (st : Stmt) : Prop where
  fn : Fun K n q st fa fd
  bd : Binds K fd ps []
  np : ps.length = d.np
  nn : N.length = d.nn
  sc : FnScope N ps (defScope st)
  ck : ∃ l : Option Str, chkSs { P with lam := l } N (defScope st) d.body (defBody st) = true ∧ ∀ lq, l = some lq → (q ++ ".<locals>.") ++ "<lambda>" = lq ∧ LT fd.code
/-- .. for a def of the top -/
structure DefOk (P : Par) (K : PySem.W.Frag) (LT : Value → Prop) (mg : Str → Option Value) (x : Str) (d : Def) (fa : Addr) (fd : FuncData) (ps N : List Str) (st : Stmt) : Prop where
  b : BodyOk P K LT x x d fa fd ps N st
  m : mg x = some (.ref fa)
/-- .. for a class -/
structure KlOk (P : Par) (C : Nat → Addr) (K : PySem.W.Frag) (LT : Value → Prop) (mg : Str → Option Value) (c : Nat) (cd : Kl) : Prop where
  cl : Cls K (C c)
  na : ∀ f ∈ cd.flds, NoAttr K (C c) f
  mt : ∀ m fi, (m, fi) ∈ cd.mts → ∀ d, P.D fi = some d → ∃ fa fd ps N st n q, Meth K (C c) m fa ∧ BodyOk P K LT n q d fa fd ps N st
  nw : ∀ d, P.D cd.ini = some d → mg cd.nm = some (.ref (C c)) ∧ ∃ fa fd ps N st n q, Mk K (C c) fa ∧ BodyOk P K LT n q d fa fd ps N st
section
variable {P : Par} {C : Nat → Addr} {Pg : Program} {w : World} {K : PySem.W.Frag} {LT : Value → Prop} {mg : Str → Option Value} {base : Heap}
theorem body_snd {k : Nat} {E : XK} {f : Nat} {d : Def} (hd : P.D f = some d) {g : Gh} {s : MS} {us : List U} {H : Hp} {σ : L2.St} {Q : VK} (R : RS K C g s H) (hl : us.length = d.np) (rs : RSt K g H (Pv.start d.nn us) σ)
    (p : Pst K C (RelU K) (WOf E) g H (callF P.D P.G (k + 1) f us s) Q) : sEv K C E (evSs (cx P k) d.body) { nx := fun _ H' => Q .non H', rt := Q } σ H := by
  refine ⟨g, Pv.start d.nn us, s, R, rs, ?_⟩
  unfold callF at p
  rw [hd] at p
  simp only [runD] at p
  rw [if_pos hl] at p
  replace p : Pst K C (RelU K) (WOf E) g H (match evSs (cx P k) d.body (Pv.start d.nn us) s with
    | .nx _ s' => fin d.keep s .non s'
    | .rt u s' => fin d.keep s u s'
    | .ex c _ s' => if d.keep || decide (s'.length = s.length) then .ex c s' else .no
    | _ => .no) Q := p
  cases hf : evSs (cx P k) d.body (Pv.start d.nn us) s with
  | nx su s' => rw [hf] at p; exact fun g' H' σ' R' e r => fin_snd R R' e .non p
  | rt u s' => rw [hf] at p; exact fun g' H' v R' e r => fin_snd R R' e r p
  | bk su s' => rw [hf] at p; exact p.elim
  | ct su s' => rw [hf] at p; exact p.elim
  | no => rw [hf] at p; exact p.elim
  | ex c su s' =>
    rw [hf] at p
    simp only at p
    split at p
    · exact p
    · exact p.elim
def Calls (P : Par) (C : Nat → Addr) (Pg : Program) (w : World) (K : PySem.W.Frag) (mg : Str → Option Value) (base : Heap) (k : Nat) : Prop :=
  ∀ f d, P.D f = some d → ∀ x, P.nm f = some x → ∃ fa fd ps, mg x = some (.ref fa) ∧ PySem.W.keepIn K (.ref fa) = true ∧ Binds K fd ps [] ∧ FnOk Pg w K mg base (L2.CX Pg w) k fa fd ps (spEv K C d.np (callF P.D P.G k f))
def Mths (P : Par) (C : Nat → Addr) (Pg : Program) (w : World) (K : PySem.W.Frag) (mg : Str → Option Value) (base : Heap) (k : Nat) : Prop :=
  ∀ c cd, P.cl c = some cd → ∀ m fi, (m, fi) ∈ cd.mts → ∀ d, P.D fi = some d → ∃ fa fd ps, Meth K (C c) m fa ∧ Binds K fd ps [] ∧ FnOk Pg w K mg base (L2.CX Pg w) k fa fd ps (spEv K C d.np (callF P.D P.G k fi))
def Inis (P : Par) (C : Nat → Addr) (Pg : Program) (w : World) (K : PySem.W.Frag) (mg : Str → Option Value) (base : Heap) (k : Nat) : Prop :=
  ∀ c cd, P.cl c = some cd → ∀ d, P.D cd.ini = some d → mg cd.nm = some (.ref (C c)) ∧ ∃ fa fd ps, Mk K (C c) fa ∧ Binds K fd ps [] ∧ FnOk Pg w K mg base (L2.CX Pg w) k fa fd ps (spEv K C d.np (callF P.D P.G k cd.ini))
structure Lvl (P : Par) (C : Nat → Addr) (Pg : Program) (w : World) (K : PySem.W.Frag) (mg : Str → Option Value) (base : Heap) (k : Nat) : Prop where
  ca : Calls P C Pg w K mg base k
  mt : Mths P C Pg w K mg base k
  ini : Inis P C Pg w K mg base (k - 1)
/-- what the top gives -/
structure TopOk (P : Par) (C : Nat → Addr) (K : PySem.W.Frag) (LT : Value → Prop) (mg : Str → Option Value) : Prop where
  bl : ∀ x ∈ P.B, mg x = none
  gl : ∀ x u, P.G x = some u → ∃ v w, mg x = some w ∧ RelV v w ∧ ∀ g H, RelU K g H u v
  fs : ∀ f d, P.D f = some d → ∀ x, P.nm f = some x → ∃ fa fd ps N st, DefOk P K LT mg x d fa fd ps N st
  ks : ∀ c cd, P.cl c = some cd → KlOk P C K LT mg c cd
theorem fn_one {k f : Nat} {d : Def} {n q : Str} {fa : Addr} {fd : FuncData} {ps N : List Str} {st : Stmt} (HL : ∀ v, LT v → ∃ c, v = .ref c ∧ LamX.TabB base mg c (C 1000)) (T : TopOk P C K LT mg) (hd : P.D f = some d) (D : BodyOk P K LT n q d fa fd ps N st)
    (L : Lvl P C Pg w K mg base k) : FnOk Pg w K mg base (L2.CX Pg w) (k + 1) fa fd ps (spEv K C d.np (callF P.D P.G (k + 1) f)) := by
  obtain ⟨l, ck, lq⟩ := D.ck
  have hnp := D.np
  have hnn := D.nn
  have hsc := D.sc
  obtain ⟨oc, od, kV, doc, pm, an, cdv, ct, osl, rfl, lk, hcd⟩ := D.fn.ex
  refine fn_of lk hcd hsc (fun vs H Q E h => by rw [h.1, hnp]) fun A outer s H vs Q E hr h => ?_
  obtain ⟨hl, g, ms, us, R, rus, p⟩ := h
  have tk : Takes (cxOf (L2.CX Pg w) Pg w K mg base N q (defScope st) fa cdv A outer s H E) (fun cls d _ H => E cls d H) := takes_of rfl rfl rfl rfl
  have G : GX { P with lam := l } C (L2.CX Pg w) k E (defScope st) (cxOf (L2.CX Pg w) Pg w K mg base N q (defScope st) fa cdv A outer s H E) :=
    { nd := hsc.nd, calm := rfl, room := hr, kind := hsc.kind, rel := fun x k h => .inl h, fnc := fun x h => rfl, pass := passes_call tk fun _ _ _ _ h => h, bl := T.bl, gl := T.gl, calls := L.ca, p0 := fun X' h1 h2 => by subst h1 h2; exact passL,
      cls := fun c cd h => ⟨(T.ks c cd h).cl, (T.ks c cd h).na, L.mt c cd h, L.ini c cd h⟩,
      lam := fun q' hq' => by
        obtain ⟨e1, e2⟩ := lq q' hq'
        obtain ⟨c, e3, e4⟩ := HL _ e2
        exact ⟨c, e3, e4, e1⟩ }
  exact ⟨_, sndSs G (passes_of rfl) d.body _ ck, body_snd hd R (by rw [rus.length]; exact hl) (start_rel rus N d.nn hnn) p⟩
theorem fn_zero {f : Nat} {d : Def} {n q : Str} {fa : Addr} {fd : FuncData} {ps N : List Str} {st : Stmt} (D : BodyOk P K LT n q d fa fd ps N st) : FnOk Pg w K mg base (L2.CX Pg w) 0 fa fd ps (spEv K C d.np (callF P.D P.G 0 f)) :=
  ⟨fun vs H Q E h => by rw [h.1, D.np], fun A outer s H args us vs Q E hr e0 hb hv h => by
    obtain ⟨_, g, s, us, R, rus, p⟩ := h
    simp only [callF] at p
    exact p.elim⟩
theorem fn_at {k f : Nat} {d : Def} {n q : Str} {fa : Addr} {fd : FuncData} {ps N : List Str} {st : Stmt} (HL : ∀ v, LT v → ∃ c, v = .ref c ∧ LamX.TabB base mg c (C 1000)) (T : TopOk P C K LT mg) (hd : P.D f = some d) (D : BodyOk P K LT n q d fa fd ps N st)
    (L : ∀ j, j < k → Lvl P C Pg w K mg base j) : FnOk Pg w K mg base (L2.CX Pg w) k fa fd ps (spEv K C d.np (callF P.D P.G k f)) := by
  cases k with
  | zero => exact fn_zero D
  | succ k => exact fn_one HL T hd D (L k (Nat.lt_succ_self _))
theorem lvl_of {k : Nat} (HL : ∀ v, LT v → ∃ c, v = .ref c ∧ LamX.TabB base mg c (C 1000)) (T : TopOk P C K LT mg) (L : ∀ j, j < k → Lvl P C Pg w K mg base j) : Lvl P C Pg w K mg base k := by
  refine ⟨fun f d hd x hx => ?_, fun c cd h m fi hm d hd => ?_, fun c cd h d hd => ?_⟩
  · obtain ⟨fa, fd, ps, N, st, D⟩ := T.fs f d hd x hx
    exact ⟨fa, fd, ps, D.m, D.b.fn.kp, D.b.bd, fn_at HL T hd D.b L⟩
  · obtain ⟨fa, fd, ps, N, st, n, q, M, D⟩ := (T.ks c cd h).mt m fi hm d hd
    exact ⟨fa, fd, ps, M, D.bd, fn_at HL T hd D L⟩
  · obtain ⟨hm, fa, fd, ps, N, st, n, q, M, D⟩ := (T.ks c cd h).nw d hd
    exact ⟨hm, fa, fd, ps, M, D.bd, fn_at HL T hd D fun j hj => L j (by omega)⟩
theorem lvl_all (HL : ∀ v, LT v → ∃ c, v = .ref c ∧ LamX.TabB base mg c (C 1000)) (T : TopOk P C K LT mg) : ∀ k, Lvl P C Pg w K mg base k := fun k => by
  induction k using Nat.strongRecOn with
  | _ k ih => exact lvl_of HL T ih
end
end Pv
set_option autoImplicit false
set_option Elab.async false
set_option linter.all false
set_option maxRecDepth 100000
set_option maxHeartbeats 2000000
namespace Pv
open PySem PySem.Spec PyProof.Rows L2

/-! ### the law's end -/
/-- a table of defs, the methods' texts behind it, the classes -/
def tabC (tab ms : List (Str × Def)) (G : Str → Option U) (B : List Str) (ks : List Kl) : Par := ⟨fun i => ((tab ++ ms)[i]?).map (·.2), G, fun i => (tab[i]?).map (·.1), B, fun i => ks[i]?, none⟩
def TabOk (P : Par) (K : PySem.W.Frag) (LT : Value → Prop) (mg : Str → Option Value) (l : List (Str × Def)) : Prop := ∀ p ∈ l, ∃ fa fd ps N st, DefOk P K LT mg p.1 p.2 fa fd ps N st
section
variable {P : Par} {K : PySem.W.Frag} {LT : Value → Prop} {mg : Str → Option Value} {h : Heap}
theorem TabOk.nil : TabOk P K LT mg [] := fun _ hp => by cases hp
theorem TabOk.cons {x : Str} {d : Def} {l : List (Str × Def)} {fa : Addr} {fd : FuncData} {ps N : List Str} {st : Stmt} (D : DefOk P K LT mg x d fa fd ps N st) (t : TabOk P K LT mg l) : TabOk P K LT mg ((x, d) :: l) := fun p hp => by
  rcases List.mem_cons.mp hp with e | hp
  · subst e; exact ⟨fa, fd, ps, N, st, D⟩
  · exact t p hp
theorem body_ok {n q : Str} {d : Def} {ps N : List Str} {st : Stmt} {f : Addr} {oc kV doc pm cdv ct : Value} {od an : Option Addr} {osl : Array (Option Value)}
    (l : K.lookup f = some ⟨oc, od, .func (PySem.W.fnOf n q (defArgs st) (defBody st) (defScope st) .none kV doc pm an cdv ct), osl⟩) (c : PySem.W.codeIn K cdv q = true) (k : PySem.W.keepIn K (.ref f) = true)
    (hb : ∀ (kV doc pm : Value) (an : Option Addr) (cdv ct : Value) (us : List Value), us.length = ps.length → bindArgs (PySem.W.fnOf n q (defArgs st) (defBody st) (defScope st) .none kV doc pm an cdv ct) ⟨us, []⟩ = pure (ps.zip us))
    (np : ps.length = d.np) (nn : N.length = d.nn) (sc : FnScope N ps (defScope st)) (ck : chkSs { P with lam := none } N (defScope st) d.body (defBody st) = true) :
    BodyOk P K LT n q d f (PySem.W.fnOf n q (defArgs st) (defBody st) (defScope st) .none kV doc pm an cdv ct) ps N st :=
  have F := fun_mk (st := st) l c k
  ⟨F, F.binds hb, np, nn, sc, none, ck, fun _ e => by cases e⟩
theorem def_ok (X : K.In h) (G : h.Ns mainGlobals mg) {x : Str} {d : Def} {ps N : List Str} {st : Stmt} {f : Addr} {oc kV doc pm cdv ct : Value} {od an : Option Addr} {osl : Array (Option Value)}
    (a : PySem.W.nsIn K mainGlobals x = some (some (.ref f))) (l : K.lookup f = some ⟨oc, od, .func (PySem.W.fnOf x x (defArgs st) (defBody st) (defScope st) .none kV doc pm an cdv ct), osl⟩) (c : PySem.W.codeIn K cdv x = true) (k : PySem.W.keepIn K (.ref f) = true)
    (hb : ∀ (kV doc pm : Value) (an : Option Addr) (cdv ct : Value) (us : List Value), us.length = ps.length → bindArgs (PySem.W.fnOf x x (defArgs st) (defBody st) (defScope st) .none kV doc pm an cdv ct) ⟨us, []⟩ = pure (ps.zip us))
    (np : ps.length = d.np) (nn : N.length = d.nn) (sc : FnScope N ps (defScope st)) (ck : chkSs { P with lam := none } N (defScope st) d.body (defBody st) = true) :
    DefOk P K LT mg x d f (PySem.W.fnOf x x (defArgs st) (defBody st) (defScope st) .none kV doc pm an cdv ct) ps N st :=
  ⟨body_ok l c k hb np nn sc ck, PySem.W.mg_of X G a⟩
/-- .. one that holds a lambda -/
theorem def_okL (X : K.In h) (G : h.Ns mainGlobals mg) {x : Str} {d : Def} {ps N : List Str} {st : Stmt} {f : Addr} {oc kV doc pm cdv ct : Value} {od an : Option Addr} {osl : Array (Option Value)}
    (a : PySem.W.nsIn K mainGlobals x = some (some (.ref f))) (l : K.lookup f = some ⟨oc, od, .func (PySem.W.fnOf x x (defArgs st) (defBody st) (defScope st) .none kV doc pm an cdv ct), osl⟩) (c : PySem.W.codeIn K cdv x = true) (k : PySem.W.keepIn K (.ref f) = true)
    (hb : ∀ (kV doc pm : Value) (an : Option Addr) (cdv ct : Value) (us : List Value), us.length = ps.length → bindArgs (PySem.W.fnOf x x (defArgs st) (defBody st) (defScope st) .none kV doc pm an cdv ct) ⟨us, []⟩ = pure (ps.zip us))
    (np : ps.length = d.np) (nn : N.length = d.nn) (sc : FnScope N ps (defScope st)) (ck : chkSs { P with lam := some ((x ++ ".<locals>.") ++ "<lambda>") } N (defScope st) d.body (defBody st) = true) (ce : LT cdv) :
    DefOk P K LT mg x d f (PySem.W.fnOf x x (defArgs st) (defBody st) (defScope st) .none kV doc pm an cdv ct) ps N st :=
  have F := fun_mk (st := st) l c k
  ⟨⟨F, F.binds hb, np, nn, sc, some _, ck, fun lq e => by cases e; exact ⟨rfl, ce⟩⟩, PySem.W.mg_of X G a⟩
/-- the methods of a class, one by one -/
def MtsOk (P : Par) (K : PySem.W.Frag) (LT : Value → Prop) (C : Addr) (l : List (Str × Nat)) : Prop := ∀ m fi, (m, fi) ∈ l → ∀ d, P.D fi = some d → ∃ fa fd ps N st n q, Meth K C m fa ∧ BodyOk P K LT n q d fa fd ps N st
theorem MtsOk.nil {C : Addr} : MtsOk P K LT C [] := fun _ _ hp => by cases hp
theorem MtsOk.cons {C : Addr} {m : Str} {fi : Nat} {l : List (Str × Nat)} {d : Def} {fa : Addr} {fd : FuncData} {ps N : List Str} {st : Stmt} {n q : Str} (hd : P.D fi = some d) (M : Meth K C m fa) (B : BodyOk P K LT n q d fa fd ps N st) (t : MtsOk P K LT C l) : MtsOk P K LT C ((m, fi) :: l) := fun m' fi' hp d' hd' => by
  rcases List.mem_cons.mp hp with e | hp
  · cases e
    rw [hd] at hd'
    cases hd'
    exact ⟨fa, fd, ps, N, st, n, q, M, B⟩
  · exact t m' fi' hp d' hd'
def NasOk (K : PySem.W.Frag) (C : Addr) (l : List Str) : Prop := ∀ f ∈ l, NoAttr K C f
theorem NasOk.nil {C : Addr} : NasOk K C [] := fun _ hp => by cases hp
theorem NasOk.cons {C : Addr} {f : Str} {l : List Str} (a : NoAttr K C f) (t : NasOk K C l) : NasOk K C (f :: l) := fun y hy => by
  rcases List.mem_cons.mp hy with e | hy
  · subst e; exact a
  · exact t y hy
theorem kl_ok {C : Nat → Addr} {c : Nat} {cd : Kl} {d : Def} {fa : Addr} {fd : FuncData} {ps N : List Str} {st : Stmt} {n q : Str} (cl : Cls K (C c)) (na : NasOk K (C c) cd.flds) (mt : MtsOk P K LT (C c) cd.mts) (hd : P.D cd.ini = some d) (hm : mg cd.nm = some (.ref (C c))) (M : Mk K (C c) fa) (B : BodyOk P K LT n q d fa fd ps N st) : KlOk P C K LT mg c cd :=
  ⟨cl, na, mt, fun d' hd' => by
    rw [hd] at hd'
    cases hd'
    exact ⟨hm, fa, fd, ps, N, st, n, q, M, B⟩⟩
/-- the classes, from a number on -/
def KlsOk (P : Par) (C : Nat → Addr) (K : PySem.W.Frag) (LT : Value → Prop) (mg : Str → Option Value) (n : Nat) (l : List Kl) : Prop := ∀ (i : Nat) cd, l[i]? = some cd → KlOk P C K LT mg (n + i) cd
theorem KlsOk.nil {C : Nat → Addr} {n : Nat} : KlsOk P C K LT mg n [] := fun _ _ h => by simp at h
theorem KlsOk.cons {C : Nat → Addr} {n : Nat} {cd : Kl} {l : List Kl} (a : KlOk P C K LT mg n cd) (t : KlsOk P C K LT mg (n + 1) l) : KlsOk P C K LT mg n (cd :: l) := fun i cd' h => by
  cases i with
  | zero => simp at h; subst h; exact a
  | succ i =>
    have := t i cd' (by simpa using h)
    rwa [show n + 1 + i = n + (i + 1) by omega] at this
def nones (K : PySem.W.Frag) (l : List Str) : Prop := ∀ x ∈ l, PySem.W.nsIn K mainGlobals x = some none
theorem nones.nil : nones K [] := fun _ hp => by cases hp
theorem nones.cons {x : Str} {l : List Str} (a : PySem.W.nsIn K mainGlobals x = some none) (t : nones K l) : nones K (x :: l) := fun y hy => by
  rcases List.mem_cons.mp hy with e | hy
  · subst e; exact a
  · exact t y hy
/-- whatever the classes' places are -/
def spAny (K : PySem.W.Frag) (n : Nat) (F : List U → MS → Rv U) : Sp := fun vs H Q E => ∀ C : Nat → Addr, spEv K C n F vs H Q E
/-- the last def of the table is the law -/
theorem law_FL {tab ms : List (Str × Def)} {G0 : Str → Option U} {B : List Str} {ks : List Kl} {C : Nat → Addr} {Pg : Program} {w : World} {k f : Nat} {x y : Str} {d : Def} {fa : Addr} {fd : FuncData} {N : List Str} {st : Stmt} (X : K.In h) (G : h.Ns mainGlobals mg) (hmg : mg x = some (.ref fa))
    (t : TabOk (tabC tab ms G0 B ks) K LT mg tab) (D : DefOk (tabC tab ms G0 B ks) K LT mg x d fa fd [y] N st) (hd : (tab ++ ms)[f]? = some (x, d)) (nn : nones K B) (gl : ∀ x u, G0 x = some u → ∃ v w, mg x = some w ∧ RelV v w ∧ ∀ g H, RelU K g H u v) (kl : KlsOk (tabC tab ms G0 B ks) C K LT mg 0 ks) (base : Heap) (HL : ∀ v, LT v → ∃ c, v = .ref c ∧ LamX.TabB base mg c (C 1000)) :
    FnOk Pg w K mg base (L2.CX Pg w) (k + 1) fa fd [y] (spEv K C d.np (callF (tabC tab ms G0 B ks).D G0 (k + 1) f)) := by
  have T : TopOk (tabC tab ms G0 B ks) C K LT mg :=
    { bl := fun x hx => PySem.W.mg_none_of X G (nn x hx), gl := gl,
      fs := fun f d hd x hx => by
        have hd' : ((tab ++ ms)[f]?).map (·.2) = some d := hd
        have hx' : (tab[f]?).map (·.1) = some x := hx
        obtain ⟨p, e1, e2⟩ := Option.map_eq_some_iff.mp hx'
        have hf := (List.getElem?_eq_some_iff.mp e1).1
        rw [List.getElem?_append_left hf, e1] at hd'
        subst e2
        have e3 : p.2 = d := by simpa using hd'
        subst e3
        exact t p (List.mem_of_getElem? e1)
      ks := fun c cd h => by
        have := kl c cd h
        rwa [Nat.zero_add] at this }
  have F := fn_one (Pg := Pg) (w := w) (base := base) (k := k) (f := f) HL T (by show ((tab ++ ms)[f]?).map (·.2) = some d; rw [hd]; rfl) D.b (lvl_all HL T k)
  exact F
theorem law_F {tab ms : List (Str × Def)} {G0 : Str → Option U} {B : List Str} {ks : List Kl} {C : Nat → Addr} {Pg : Program} {w : World} {k f : Nat} {x y : Str} {d : Def} {fa : Addr} {fd : FuncData} {N : List Str} {st : Stmt} (X : K.In h) (G : h.Ns mainGlobals mg) (hmg : mg x = some (.ref fa))
    (t : TabOk (tabC tab ms G0 B ks) K (fun _ => False) mg tab) (D : DefOk (tabC tab ms G0 B ks) K (fun _ => False) mg x d fa fd [y] N st) (hd : (tab ++ ms)[f]? = some (x, d)) (nn : nones K B) (gl : ∀ x u, G0 x = some u → ∃ v w, mg x = some w ∧ RelV v w ∧ ∀ g H, RelU K g H u v) (kl : KlsOk (tabC tab ms G0 B ks) C K (fun _ => False) mg 0 ks) (base : Heap) :
    FnOk Pg w K mg base (L2.CX Pg w) (k + 1) fa fd [y] (spAny K d.np (callF (tabC tab ms G0 B ks).D G0 (k + 1) f)) :=
  (law_FL X G hmg t D hd nn gl kl base fun _ h => h.elim).imp fun vs H Q E q => q C
theorem law_sp {F : List U → MS → Rv U} {n : Nat} {H : Hp} {a : Addr} {ns : List Int} (hn : ns.length ≤ n) (hn2 : n ≤ sizeLine) (ho : Only H) (hS : SqL K H a (ns.map V.int)) (q : ∃ s, F [.scr ns] [] = .ok (.bl true) s) :
    spAny K 1 F [.ref a] H (fun v _ => v = .bl true) fun _ _ _ => False := by
  intro C
  refine ⟨rfl, ⟨[], []⟩, [], [.scr ns], ⟨rfl, fun n o h => by simp at h, fun n o a h => by simp at h, fun n m a h => by simp at h, fun n a h => by simp at h, fun a h => by simp at h⟩, .cons (.scr (by omega) ?_) .nil, ?_⟩
  · rcases hS with (h | ⟨o, h⟩) | h
    · exact .inl ⟨_, h, .inl rfl, ⟨fun n e => by simp at e, by simp⟩⟩
    · exact .inl ⟨_, h, .inr ⟨o, rfl⟩, ⟨fun n e => by simp at e, by simp⟩⟩
    · exact .inr fun _ => .inr h
  · obtain ⟨s, e⟩ := q
    rw [e]
    intro g' H' b _ _ r
    cases r
    rfl
/-- with a table of code objects at P -/
theorem law_spL {F : List U → MS → Rv U} {n : Nat} {H : Hp} {a P : Addr} {q : Str} {ns : List Int} {C : Nat → Addr} (hC : C 1000 = P) (hn : ns.length ≤ n) (hn2 : n ≤ sizeLine) (hP : H P = some (.tbl #[])) (hS : SqL K H a (ns.map V.int)) (qq : ∃ s, F [.scr ns] [.tab q] = .ok (.bl true) s) :
    spEv K C 1 F [.ref a] H (fun v _ => v = .bl true) fun _ _ _ => False := by
  subst hC
  have one : ∀ {n : Nat} {b : Addr}, ([some (C 1000)] : List (Option Addr))[n]? = some (some b) → n = 0 ∧ b = C 1000 := fun {n b} h => by
    cases n with
    | zero => simp at h; exact ⟨rfl, h.symm⟩
    | succ n => simp at h
  refine ⟨rfl, ⟨[some (C 1000)], []⟩, [.tab q], [.scr ns], ⟨rfl, fun n o h => ?_, fun n o b h h2 => ?_, fun n m b h1 h2 => by rw [(one h1).1, (one h2).1], fun n b h => ?_, fun b h => by simp at h⟩, .cons (.scr (by omega) ?_) .nil, ?_⟩
  · cases n with
    | zero => exact ⟨_, rfl⟩
    | succ n => simp at h
  · obtain ⟨rfl, rfl⟩ := one h2
    simp only [List.getElem?_cons_zero, Option.some.injEq] at h
    subst h
    refine ⟨rfl, #[], hP, True.intro, fun pos cv hc => ?_⟩
    have z : codeAmong pos [] = some cv := hc
    simp [codeAmong] at z
  · obtain ⟨rfl, rfl⟩ := one h
    exact ⟨_, hP, .inr ⟨_, rfl⟩⟩
  · have no : ∀ o, H a = some o → (∀ ps, o ≠ .tbl ps) → Gh.no ⟨[some (C 1000)], []⟩ a := fun o h nt => ⟨fun n e => by
      rw [(one e).2, hP] at h
      exact nt _ (Option.some.inj h).symm, by simp⟩
    rcases hS with (h | ⟨o, h⟩) | h
    · exact .inl ⟨_, h, .inl rfl, no _ h fun ps z => by cases z⟩
    · exact .inl ⟨_, h, .inr ⟨o, rfl⟩, no _ h fun ps z => by cases z⟩
    · exact .inr fun _ => .inr h
  · obtain ⟨s, e⟩ := qq
    rw [e]
    intro g' H' b _ _ r
    cases r
    rfl
theorem cx_none {Pg : Program} {w : World} (H : Hp) (s : Shared) (e : Value) (s' : Shared) (h : L2.CX Pg w [] H s (fun _ _ _ => False) e s') : False := by
  obtain ⟨_, _, _, _, _, _, _, _, _, _, _, _, z⟩ := h
  exact z
end
end Pv
set_option autoImplicit false
set_option Elab.async false
set_option linter.all false
set_option maxRecDepth 100000
namespace Pv
open PySem (Str)

/-! ### what operations give, one lemma a case -/
section
variable {m : Bool} {s : MS} {i j : Int}
theorem o_add : binU .add m (.int i) (.int j) s = .ok (.int (i + j)) s := rfl
theorem o_sub : binU .sub m (.int i) (.int j) s = .ok (.int (i - j)) s := rfl
theorem o_mul (h : -(2 ^ 64) < j ∧ j < 2 ^ 64) : binU .mul m (.int i) (.int j) s = .ok (.int (i * j)) s := by
  show (if _ then _ else _) = _
  rw [if_pos (.inr h)]
theorem o_mul' (h : -(2 ^ 64) < i ∧ i < 2 ^ 64) : binU .mul m (.int i) (.int j) s = .ok (.int (i * j)) s := by
  show (if _ then _ else _) = _
  rw [if_pos (.inl h)]
theorem o_mod (h : 0 < j) : binU .mod m (.int i) (.int j) s = .ok (.int (i % j)) s := by
  show (if _ then _ else _) = _
  rw [if_pos h]
theorem o_fdiv (h : 0 < j ∧ j < 1073741824) : binU .fdiv m (.int i) (.int j) s = .ok (.int (i / j)) s := by
  show (if _ then _ else _) = _
  rw [if_pos h]
theorem o_pow (h : 0 ≤ j ∧ j ≤ 1000000 ∧ i.natAbs < 2 ^ 64) : binU .pow m (.int i) (.int j) s = .ok (.int (i ^ j.toNat)) s := by
  show (if _ then _ else _) = _
  rw [if_pos h]
theorem o_catS {x y : Str} (h : x.length + y.length ≤ line) : binU .add m (.str x) (.str y) s = .ok (.str (x ++ y)) s := by
  show (if _ then _ else _) = _
  rw [if_pos h]
theorem o_catT {x y : List U} (h : x.length + y.length ≤ line) : binU .add m (.tup x) (.tup y) s = .ok (.tup (x ++ y)) s := by
  show (if _ then _ else _) = _
  rw [if_pos h]
theorem o_catL {x y : List U} (h : x.length + y.length ≤ line) : binU .add false (.lst x) (.lst y) s = .ok (.lst (x ++ y)) s := by
  show (if _ then _ else _) = _
  rw [if_pos h]
  rfl
theorem c_lt : cmpU .lt (.int i) (.int j) s = some (decide (i < j)) := rfl
theorem c_gt : cmpU .gt (.int i) (.int j) s = some (decide (j < i)) := rfl
theorem c_le : cmpU .le (.int i) (.int j) s = some (decide (i ≤ j)) := rfl
theorem c_ge : cmpU .ge (.int i) (.int j) s = some (decide (j ≤ i)) := rfl
theorem c_eq : cmpU .eq (.int i) (.int j) s = some (i == j) := rfl
theorem c_ne : cmpU .ne (.int i) (.int j) s = some (!(i == j)) := rfl
theorem c_is {u : U} : cmpU .is u .non s = some (decide (u = .non)) := rfl
theorem c_isnot {u : U} : cmpU .isnot u .non s = some (!decide (u = .non)) := rfl
theorem c_eqL {xs ys : List U} (hx : dat (.lst xs) = true) (hy : dat (.lst ys) = true) : cmpU .eq (.lst xs) (.lst ys) s = some (eqUs xs ys) := by
  simp only [cmpU, der, hx, hy, Bool.and_self, if_true, eqU]
theorem c_neL {xs ys : List U} (hx : dat (.lst xs) = true) (hy : dat (.lst ys) = true) : cmpU .ne (.lst xs) (.lst ys) s = some (!eqUs xs ys) := by
  simp only [cmpU, der, hx, hy, Bool.and_self, if_true, eqU]
theorem ix_T {xs : List U} : idxU (.tup xs) (.int i) s = atI xs i := rfl
theorem ix_L {xs : List U} : idxU (.lst xs) (.int i) s = atI xs i := rfl
theorem ix_S {ns : List Int} : idxU (.scr ns) (.int i) s = atI (ns.map .int) i := rfl
theorem ix_O {n : Nat} {xs : List U} (h : s[n]? = some (.lst xs)) : idxU (.obj n) (.int i) s = atI xs i := by
  simp only [idxU, seqOf, lstOf, h, idxL]
theorem atI_nat {α : Type} {xs : List α} {n : Nat} {x : α} (h : xs[n]? = some x) : atI xs (n : Int) = some x := by
  have hn := (List.getElem?_eq_some_iff.mp h).1
  unfold atI ixN
  rw [if_pos (by omega), if_pos (by omega)]
  simpa using h
theorem atI_nn {α : Type} {xs : List α} {k : Int} {x : α} (hk : 0 ≤ k) (h : xs[k.toNat]? = some x) : atI xs k = some x := by
  have := atI_nat h
  rwa [Int.toNat_of_nonneg hk] at this
theorem at0 {α : Type} {x : α} {xs : List α} : atI (x :: xs) 0 = some x := atI_nat (n := 0) rfl
theorem at1 {α : Type} {x y : α} {xs : List α} : atI (x :: y :: xs) 1 = some y := atI_nat (n := 1) rfl
theorem at2 {α : Type} {x y z : α} {xs : List α} : atI (x :: y :: z :: xs) 2 = some z := atI_nat (n := 2) rfl
theorem at3 {α : Type} {x y z w : α} {xs : List α} : atI (x :: y :: z :: w :: xs) 3 = some w := atI_nat (n := 3) rfl
theorem at4 {α : Type} {x y z w v : α} {xs : List α} : atI (x :: y :: z :: w :: v :: xs) 4 = some v := atI_nat (n := 4) rfl
theorem len_T {xs : List U} : biU .len [.tup xs] s = .ok (.int (xs.length : Nat)) s := rfl
theorem len_L {xs : List U} : biU .len [.lst xs] s = .ok (.int (xs.length : Nat)) s := rfl
theorem len_S {ns : List Int} : biU .len [.scr ns] s = .ok (.int (ns.length : Nat)) s := by
  simp [biU, lenU, seqOf, Rv.of]
theorem len_O {n : Nat} {xs : List U} (h : s[n]? = some (.lst xs)) : biU .len [.obj n] s = .ok (.int (xs.length : Nat)) s := by
  simp only [biU, lenU, seqOf, lstOf, h]
  rfl
theorem max2_ : biU .max2 [.int i, .int j] s = .ok (.int (if j > i then j else i)) s := rfl
theorem min2_ : biU .min2 [.int i, .int j] s = .ok (.int (if j < i then j else i)) s := rfl
theorem tup_L {xs : List U} : biU .tuple [.lst xs] s = .ok (.tup xs) s := rfl
theorem tup_T {xs : List U} : biU .tuple [.tup xs] s = .ok (.tup xs) s := rfl
theorem tup_O {n : Nat} {xs : List U} (h : s[n]? = some (.lst xs)) : biU .tuple [.obj n] s = .ok (.tup xs) s := by
  simp only [biU, tupOf, lstOf, h]
  rfl
theorem int_b {b : Bool} : biU .int [.bl b] s = .ok (.int (if b then 1 else 0)) s := rfl
theorem int_i : biU .int [.int i] s = .ok (.int i) s := rfl
theorem all_L {xs : List U} {bs : List Bool} (h : blsOf xs = some bs) : biU .all [.lst xs] s = .ok (.bl (bs.all id)) s := by
  simp only [biU, lstOf, Option.bind_some, h]
  rfl
theorem any_L {xs : List U} {bs : List Bool} (h : blsOf xs = some bs) : biU .any [.lst xs] s = .ok (.bl (bs.any id)) s := by
  simp only [biU, lstOf, Option.bind_some, h]
  rfl
theorem blsOf_map {α : Type} (f : α → Bool) : ∀ xs : List α, blsOf (xs.map fun x => .bl (f x)) = some (xs.map f)
  | [] => rfl
  | x :: xs => by simp only [List.map_cons, blsOf, blsOf_map f xs, Option.map_some]
theorem intsOf_map {α : Type} (f : α → Int) : ∀ xs : List α, intsOf (xs.map fun x => .int (f x)) = some (xs.map f)
  | [] => rfl
  | x :: xs => by simp only [List.map_cons, intsOf, intsOf_map f xs, Option.map_some]
theorem intsOf_int (xs : List Int) : intsOf (xs.map .int) = some xs := by
  have := intsOf_map (fun x : Int => x) xs
  simpa using this
theorem sum_T {xs : List U} {ns : List Int} (h : intsOf xs = some ns) : biU .sum [.tup xs] s = .ok (.int ns.sum) s := by
  simp only [biU, seqOf, Option.bind_some, h]
  rfl
theorem sum_L {xs : List U} {ns : List Int} (h : intsOf xs = some ns) : biU .sum [.lst xs] s = .ok (.int ns.sum) s := by
  simp only [biU, seqOf, lstOf, Option.bind_some, h]
  rfl
end
/-! ### runs -/
section
variable {X : Ctx} {d : Def} {us : List U} {s s' : MS} {u : U}
theorem run_rt {su : SU} (hl : us.length = d.np) (h : evSs X d.body (start d.nn us) s = .rt u s') : runD X d us s = fin d.keep s u s' := by
  unfold runD
  rw [if_pos hl, h]
theorem run_nx {su : SU} (hl : us.length = d.np) (h : evSs X d.body (start d.nn us) s = .nx su s') : runD X d us s = fin d.keep s .non s' := by
  unfold runD
  rw [if_pos hl, h]
theorem call_rt {D : Nat → Option Def} {G : Str → Option U} {k f : Nat} (hD : D f = some d) (hl : us.length = d.np) (h : evSs ⟨callF D G k, callF D G (k - 1), G⟩ d.body (start d.nn us) s = .rt u s') : callF D G (k + 1) f us s = fin d.keep s u s' := by
  simp only [callF, hD]
  exact run_rt (su := []) hl h
theorem fin_eq {keep : Bool} (h : s'.length = s.length) : fin keep s u s' = .ok u s' := by
  unfold fin
  rw [decide_eq_true h, Bool.or_true, if_pos rfl]
theorem fin_keep : fin true s u s' = .ok u s' := by
  unfold fin
  rw [Bool.true_or, if_pos rfl]
theorem heldO_of {b : Nat} : ∀ {s s' : MS}, (∀ (n : Nat) o p, s[n]? = some o → s'[n]? = some p → o = p ∨ clsO b p = true) → heldO b s s' = true
  | [], _, _ => by simp [heldO]
  | _ :: _, [], _ => by simp [heldO]
  | o :: os, p :: ps, h => by
    simp only [heldO, Bool.and_eq_true, Bool.or_eq_true, decide_eq_true_eq]
    exact ⟨h 0 o p rfl rfl, heldO_of fun n x y e1 e2 => h (n + 1) x y (by simpa using e1) (by simpa using e2)⟩
theorem heldO_get' : ∀ {s s' : MS} {b n : Nat} {o p : O}, heldO b s s' = true → s[n]? = some o → s'[n]? = some p → o = p ∨ clsO b p = true
  | o :: os, p :: ps, b, 0, o', p', h, e1, e2 => by
    simp only [heldO, Bool.and_eq_true, Bool.or_eq_true, decide_eq_true_eq] at h
    simp only [List.getElem?_cons_zero] at e1 e2
    cases e1; cases e2
    exact h.1
  | o :: os, p :: ps, b, n + 1, o', p', h, e1, e2 => by
    simp only [heldO, Bool.and_eq_true] at h
    exact heldO_get' h.2 (by simpa using e1) (by simpa using e2)
  | [], _, _, _, _, _, _, e1, _ => by simp at e1
  | _ :: _, [], _, _, _, _, _, _, e2 => by simp at e2
/-- what is told does not hang on the new things -/
theorem fin_val {keep : Bool} {t r : MS} (ht : t.length = s.length) (hh : heldO s.length s t = true) (hf : frz s.length (t ++ r) u = u) (hc : cls s.length u = true) (hk : keep = false) : fin keep s u (t ++ r) = .ok u t := by
  subst hk
  cases r with
  | nil => rw [List.append_nil]; exact fin_eq ht
  | cons o os =>
    unfold fin
    have h1 : (t ++ o :: os).length ≠ s.length := by simp; omega
    have h2 : heldO s.length s (t ++ o :: os) = true := heldO_of fun n x y e1 e2 => by
      have hn : n < t.length := by rw [ht]; exact (List.getElem?_eq_some_iff.mp e1).1
      rw [List.getElem?_append_left hn] at e2
      exact heldO_get' hh e1 e2
    rw [decide_eq_false h1, Bool.or_false, if_neg Bool.false_ne_true, hf, hc, h2, Bool.and_self, if_pos rfl, ← ht, List.take_left']
    rfl
/-- a new list told -/
theorem fin_lst {t r : MS} {n : Nat} {xs : List U} (ht : t.length = s.length) (hh : heldO s.length s t = true) (hn : s.length ≤ n) (hg : (t ++ r)[n]? = some (.lst xs)) (hc : clss s.length xs = true) : fin false s (.obj n) (t ++ r) = .ok (.lst xs) t := by
  have hf : frz s.length (t ++ r) (.obj n) = .lst xs := by
    simp only [frz, if_pos hn, hg]
  cases r with
  | nil =>
    rw [List.append_nil] at hg
    have := (List.getElem?_eq_some_iff.mp hg).1
    omega
  | cons o os =>
    unfold fin
    have h1 : (t ++ o :: os).length ≠ s.length := by simp; omega
    have h2 : heldO s.length s (t ++ o :: os) = true := heldO_of fun n x y e1 e2 => by
      have hn : n < t.length := by rw [ht]; exact (List.getElem?_eq_some_iff.mp e1).1
      rw [List.getElem?_append_left hn] at e2
      exact heldO_get' hh e1 e2
    have h3 : cls s.length (.lst xs) = true := by simpa only [cls] using hc
    rw [decide_eq_false h1, Bool.or_false, if_neg Bool.false_ne_true, hf, h3, h2, Bool.and_self, if_pos rfl, ← ht, List.take_left']
    rfl
theorem held_self {b : Nat} : heldO b s s = true := heldO_of fun n o p h1 h2 => .inl (by rw [h1] at h2; exact Option.some.inj h2)
theorem clss_map {α : Type} {b : Nat} {f : α → U} : ∀ {xs : List α}, (∀ x ∈ xs, cls b (f x) = true) → clss b (xs.map f) = true
  | [], _ => by simp only [List.map_nil, clss]
  | x :: xs, h => by
    simp only [List.map_cons, clss, Bool.and_eq_true]
    exact ⟨h x (List.mem_cons_self ..), clss_map fun y hy => h y (List.mem_cons_of_mem _ hy)⟩
theorem clss_int {b : Nat} {ns : List Int} : clss b (ns.map .int) = true := clss_map fun x _ => by simp only [cls]
end
/-! ### the store -/
section
variable {s t : MS} {n : Nat} {xs : List U} {u : U} {o p : O}
theorem app_O (h : s[n]? = some (.lst xs)) (z : xs.length < line) : meU .append (.obj n) [u] s = .ok .non (s.set n (.lst (xs ++ [u]))) := by
  simp only [meU, h]
  rw [if_pos z]
theorem meK_O {k : MS → Rv U} (h : s[n]? = some (.lst xs)) : meK .append (.obj n) k s = k s := by
  simp only [meK, recv, lstOf, h, Option.isSome_some, if_true]
theorem new0 : (s ++ o :: t)[s.length]? = some o := by simp
theorem new1 : (s ++ p :: o :: t)[s.length + 1]? = some o := by simp
theorem set0 {o' : O} : (s ++ o :: t).set s.length o' = s ++ o' :: t := by simp
theorem set1 {o' : O} : (s ++ p :: o :: t).set (s.length + 1) o' = s ++ p :: o' :: t := by
  induction s with
  | nil => rfl
  | cons a s ih =>
    show a :: ((s ++ p :: o :: t).set (s.length + 1) o') = _
    rw [ih]
    rfl
theorem lst_new {xs : List U} : mkL true xs s = .ok (.obj s.length) (s ++ [.lst xs]) := rfl
theorem lst_tree {xs : List U} : mkL false xs s = .ok (.lst xs) s := rfl
theorem dK_new {kvs : List (Key × U)} : mkK true kvs s = .ok (.obj s.length) (s ++ [.dK kvs]) := rfl
theorem setI_O {k : Int} {j : Nat} {v : U} (h : s[n]? = some (.lst xs)) (hk : ixN xs.length k = some j) (su : SU) : setK (.obj n) (.int k) v su s = .nx su (s.set n (.lst (xs.set j v))) := by
  simp only [setK, setU, h, hk, Option.map_some]
theorem setS_O {k : Str} {v : U} {kvs : List (Key × U)} (h : s[n]? = some (.dK kvs)) (z : kvs.length < line) (su : SU) : setK (.obj n) (.str k) v su s = .nx su (s.set n (.dK (putA (.inr k) v kvs))) := by
  simp only [setK, setU, h, if_pos z, keyOf, Option.map_some]
theorem ixS_O {k : Str} {kvs : List (Key × U)} (h : s[n]? = some (.dK kvs)) : idxU (.obj n) (.str k) s = lookA (.inr k) kvs := by
  simp only [idxU, seqOf, lstOf, h, idxD, dKOf, keyOf, Option.bind_some]
end
/-! ### loops -/
theorem forL_inv {tg : Tg} {body : SU → MS → Fl} {r : Src} : ∀ (its : List U) (I : Nat → SU → MS → Prop), (∀ i su s, I i su s → r.ok s = true) →
    (∀ i x su s, its[i]? = some x → I i su s → ∃ su1, bindT tg x su = some su1 ∧ ∃ su2 s2, (body su1 s = .nx su2 s2 ∨ body su1 s = .ct su2 s2) ∧ I (i + 1) su2 s2) →
    ∀ su s, I 0 su s → ∃ su' s', forL tg body r its su s = .nx su' s' ∧ I its.length su' s'
  | [], I, ok, _, su, s, h => ⟨su, s, by rw [forL, if_pos (ok 0 su s h)], h⟩
  | x :: xs, I, ok, st, su, s, h => by
    obtain ⟨su1, h1, su2, s2, h2, h3⟩ := st 0 x su s rfl h
    obtain ⟨su', s', q1, q2⟩ := forL_inv xs (fun i => I (i + 1)) (fun i su s h => ok (i + 1) su s h) (fun i y su s hy h => st (i + 1) y su s (by simpa using hy) h) su2 s2 h3
    refine ⟨su', s', ?_, q2⟩
    rw [forL, if_pos (ok 0 su s h), h1]
    rcases h2 with h2 | h2 <;> simp only [h2, q1]
/-- a comprehension: its items one after the other; f the values, none for what is left out; the store may move -/
theorem lcL_inv {vs : List Nat} {tg : Tg} {c : SU → MS → Rv Bool} {e : SU → MS → Rv U} {r : Src} {su : SU} : ∀ (its : List U) (I : Nat → List U → MS → Prop), (∀ i acc s, I i acc s → r.ok s = true) →
    (∀ i x acc s, its[i]? = some x → I i acc s → ∃ su1, bindT tg x (wipe su vs) = some su1 ∧ ∃ b s2, c su1 s = .ok b s2 ∧ (b = false → I (i + 1) acc s2) ∧ (b = true → ∃ u s3, e su1 s2 = .ok u s3 ∧ I (i + 1) (acc ++ [u]) s3)) →
    ∀ acc s, I 0 acc s → ∃ acc' s', lcL vs tg c e r su its acc s = .ok acc' s' ∧ I its.length acc' s'
  | [], I, ok, _, acc, s, h => ⟨acc, s, by rw [lcL, if_pos (ok 0 acc s h)], h⟩
  | x :: xs, I, ok, st, acc, s, h => by
    obtain ⟨su1, h1, b, s2, h2, h3, h4⟩ := st 0 x acc s rfl h
    rw [lcL, if_pos (ok 0 acc s h), h1]
    simp only [h2]
    cases b with
    | false => exact lcL_inv xs (fun i => I (i + 1)) (fun i acc s h => ok (i + 1) acc s h) (fun i y acc s hy h => st (i + 1) y acc s (by simpa using hy) h) acc s2 (h3 rfl)
    | true =>
      obtain ⟨u, s3, h5, h6⟩ := h4 rfl
      simp only [h5]
      exact lcL_inv xs (fun i => I (i + 1)) (fun i acc s h => ok (i + 1) acc s h) (fun i y acc s hy h => st (i + 1) y acc s (by simpa using hy) h) (acc ++ [u]) s3 h6
/-- .. of which the store stays as it is -/
theorem lcL_pure {vs : List Nat} {tg : Tg} {c : SU → MS → Rv Bool} {e : SU → MS → Rv U} {r : Src} {su : SU} {s : MS} {α : Type} (enc : α → U) (p : α → Bool) (f : α → U) (hok : r.ok s = true) : ∀ (xs : List α),
    (∀ x ∈ xs, ∃ su1, bindT tg (enc x) (wipe su vs) = some su1 ∧ c su1 s = .ok (p x) s ∧ (p x = true → e su1 s = .ok (f x) s)) → ∀ acc, lcL vs tg c e r su (xs.map enc) acc s = .ok (acc ++ (xs.filter p).map f) s
  | [], _, acc => by rw [List.map_nil, lcL, if_pos hok]; simp
  | x :: xs, h, acc => by
    obtain ⟨su1, h1, h2, h3⟩ := h x (List.mem_cons_self ..)
    have ih := lcL_pure (c := c) (e := e) (vs := vs) (tg := tg) (su := su) enc p f hok xs fun y hy => h y (List.mem_cons_of_mem _ hy)
    rw [List.map_cons, lcL, if_pos hok, h1]
    simp only [h2]
    cases hp : p x with
    | false => simp only [ih acc, List.filter_cons, hp, Bool.false_eq_true, if_false]
    | true => simp only [h3 hp, ih (acc ++ [f x]), List.filter_cons, hp, if_true, List.map_cons, List.append_assoc, List.cons_append, List.nil_append]
theorem ok_nil {its : List U} {s : MS} : (Src.mk its []).ok s = true := rfl
theorem ok_one {its : List U} {n : Nat} {xs : List U} {s : MS} (h : s[n]? = some (.lst xs)) : (Src.mk its [(n, xs)]).ok s = true := by
  simp [Src.ok, h]
theorem src_T {xs : List U} {s : MS} : srcSeq (.tup xs) s = some ⟨xs, []⟩ := rfl
theorem src_L {xs : List U} {s : MS} : srcSeq (.lst xs) s = some ⟨xs, []⟩ := rfl
theorem src_O {n : Nat} {xs : List U} {s : MS} (h : s[n]? = some (.lst xs)) : srcSeq (.obj n) s = some ⟨xs, [(n, xs)]⟩ := by
  simp only [srcSeq, seqOf, lstOf, h, stillOf, Option.map_some]
theorem src_R {n : Nat} (h : n ≤ line) : srcRng (.int 0) (.int (n : Int)) = some ⟨rowN 0 n, []⟩ := by
  have hl : line = 16777216 := rfl
  have h1 : (n : Int) < 2 ^ 62 := by omega
  have h2 : -(2 ^ 62 : Int) ≤ n := by omega
  have h3 : ((n : Int) - 0).toNat = n := by omega
  simp only [srcRng]
  rw [if_pos ⟨by decide, by decide, h2, h1, by rw [h3]; exact h⟩, h3]
theorem row_get {n i : Nat} {x : U} (h : (rowN 0 n)[i]? = some x) : i < n ∧ x = .int (i : Int) := by
  have hi : i < n := by
    have := (List.getElem?_eq_some_iff.mp h).1
    simpa [rowN] using this
  refine ⟨hi, ?_⟩
  have h1 : (rowN 0 n)[i]? = some (.int (i : Int)) := by simp [rowN, hi]
  rw [h1] at h
  cases h; rfl
theorem row_len {lo : Int} {n : Nat} : (rowN lo n).length = n := by simp [rowN]
/-- the inner loop of two clauses -/
theorem lcJ_pure {vs : List Nat} {tg : Tg} {c : SU → MS → Rv Bool} {e : SU → MS → Rv U} {r : Src} {su : SU} {s : MS} {α : Type} (enc : α → U) (p : α → Bool) (f : α → U) (hok : r.ok s = true) : ∀ (xs : List α),
    (∀ x ∈ xs, ∃ su1, bindT tg (enc x) (wipe su vs) = some su1 ∧ c su1 s = .ok (p x) s ∧ (p x = true → e su1 s = .ok (f x) s)) → ∀ acc, acc.length + xs.length ≤ line → lcJ vs tg c e r su (xs.map enc) acc s = .ok (acc ++ (xs.filter p).map f) s
  | [], _, acc, _ => by rw [List.map_nil, lcJ, if_pos hok]; simp
  | x :: xs, h, acc, hl => by
    obtain ⟨su1, h1, h2, h3⟩ := h x (List.mem_cons_self ..)
    rw [List.length_cons] at hl
    have ih := fun acc hl => lcJ_pure (c := c) (e := e) (vs := vs) (tg := tg) (su := su) enc p f hok xs (fun y hy => h y (List.mem_cons_of_mem _ hy)) acc hl
    rw [List.map_cons, lcJ, if_pos hok, h1]
    simp only [h2]
    cases hp : p x with
    | false => simp only [ih acc (by omega), List.filter_cons, hp, Bool.false_eq_true, if_false]
    | true =>
      have ha : acc.length < line := by omega
      have e2 := ih (acc ++ [f x]) (by rw [List.length_append, List.length_singleton]; omega)
      simp only [h3 hp, if_pos ha, e2, List.filter_cons, hp, if_true, List.map_cons, List.append_assoc, List.cons_append, List.nil_append]
theorem lcI_pure {vs : List Nat} {tg : Tg} {c : SU → MS → Rv Bool} {e : SU → List U → MS → Rv (List U)} {r : Src} {su : SU} {s : MS} {α : Type} (enc : α → U) (g : α → List U) (B : Nat) (hok : r.ok s = true) : ∀ (xs : List α),
    (∀ x ∈ xs, ∀ acc : List U, acc.length + (g x).length ≤ B → ∃ su1, bindT tg (enc x) (wipe su vs) = some su1 ∧ c su1 s = .ok true s ∧ e su1 acc s = .ok (acc ++ g x) s) → ∀ acc, acc.length + (xs.flatMap g).length ≤ B → lcI vs tg c e r su (xs.map enc) acc s = .ok (acc ++ xs.flatMap g) s
  | [], _, acc, _ => by rw [List.map_nil, lcI, if_pos hok]; simp
  | x :: xs, h, acc, hl => by
    rw [List.flatMap_cons, List.length_append] at hl
    obtain ⟨su1, h1, h2, h3⟩ := h x (List.mem_cons_self ..) acc (by omega)
    rw [List.map_cons, lcI, if_pos hok, h1]
    have e2 := lcI_pure (c := c) (e := e) (vs := vs) (tg := tg) (su := su) enc g B hok xs (fun y hy => h y (List.mem_cons_of_mem _ hy)) (acc ++ g x) (by rw [List.length_append]; omega)
    simp only [h2, h3, e2, List.flatMap_cons, List.append_assoc]
/-- a dict comprehension, its keys tuples -/
theorem dcL_pureT {vs : List Nat} {tg : Tg} {c : SU → MS → Rv Bool} {k v : SU → MS → Rv U} {r : Src} {su : SU} {s : MS} {α : Type} (enc : α → U) (p : α → Bool) (kk : α → List Key) (f : α → U) (hok : r.ok s = true) : ∀ (xs : List α),
    (∀ x ∈ xs, ∃ su1, bindT tg (enc x) (wipe su vs) = some su1 ∧ c su1 s = .ok (p x) s ∧ (p x = true → ∃ ku, k su1 s = .ok ku s ∧ tkeyOf ku = some (kk x) ∧ v su1 s = .ok (f x) s)) → ∀ a b, dcL true vs tg c k v r su (xs.map enc) a b s = .ok (a, (xs.filter p).foldl (fun b x => putA (kk x) (f x) b) b) s
  | [], _, a, b => by rw [List.map_nil, dcL, if_pos hok]; rfl
  | x :: xs, h, a, b => by
    obtain ⟨su1, h1, h2, h3⟩ := h x (List.mem_cons_self ..)
    have ih := fun a b => dcL_pureT (c := c) (k := k) (v := v) (vs := vs) (tg := tg) (su := su) enc p kk f hok xs (fun y hy => h y (List.mem_cons_of_mem _ hy)) a b
    rw [List.map_cons, dcL, if_pos hok, h1]
    simp only [h2]
    cases hp : p x with
    | false => simp only [ih a b, List.filter_cons, hp, Bool.false_eq_true, if_false]
    | true =>
      obtain ⟨ku, e1, e2, e3⟩ := h3 hp
      simp only [e1, e2, e3, if_true, ih, List.filter_cons, hp, List.foldl_cons]
theorem putA_new {κ : Type} [DecidableEq κ] {k : κ} {v : U} {kvs : List (κ × U)} (h : k ∉ kvs.map (·.1)) : putA k v kvs = kvs ++ [(k, v)] := by
  unfold putA
  rw [if_neg]
  intro q
  obtain ⟨p, hp, e⟩ := List.any_eq_true.mp q
  exact h (List.mem_map.mpr ⟨p, hp, of_decide_eq_true e⟩)
theorem put_all {κ α : Type} [DecidableEq κ] (kk : α → κ) (f : α → U) : ∀ (xs : List α) (b : List (κ × U)), (b.map (·.1) ++ xs.map kk).Nodup → xs.foldl (fun b x => putA (kk x) (f x) b) b = b ++ xs.map fun x => (kk x, f x)
  | [], b, _ => by simp
  | x :: xs, b, h => by
    rw [List.map_cons] at h
    have hn : kk x ∉ b.map (·.1) := fun m => by
      have := (List.nodup_append.mp h).2.2 _ m _ (List.mem_cons_self ..)
      exact this rfl
    rw [List.foldl_cons, putA_new hn, put_all kk f xs _ (by simpa [List.append_assoc] using h)]
    simp
theorem enum_zip {α : Type} (f : α → U) : ∀ (xs : List α) (k : Nat), enumFrom k (xs.map f) = (xs.zipIdx k).map fun p => .tup [.int (p.2 : Int), f p.1]
  | [], _ => rfl
  | x :: xs, k => by
    simp only [List.map_cons, enumFrom, List.zipIdx_cons, enum_zip f xs (k + 1)]
end Pv
set_option autoImplicit false
set_option Elab.async false
set_option linter.all false
set_option maxRecDepth 100000
namespace Pv
open PySem (Str)

/-! ### the laws' own draws -/
def bCell : Sts := 
  (.cons (.ife (.cmp .lt (.var 1) (.bi .len (.cons (.var 0) .nil))) (.cons (.ret (.idx (.var 0) (.var 1))) .nil) .nil)
  (.cons (.ret (.int 0)) .nil))
def drBody : Sts := (.cons (.asg (.name 5) (.bin .mod false (.bin .add false (.bin .add false (.bin .add false (.bin .mul false (.var 5) (.var 5)) (.bin .mul false (.int 48271) (.var 5))) (.var 6)) (.int 1)) (.int 2305843009213693951))) (.cons (.ife (.band (.cons (.cmp .gt (.var 6) (.int 2)) (.cons (.cmp .gt (.var 4) (.int 0)) .nil))) (.cons (.exp (.me .append (.var 3) (.cons (.bin .mod false (.var 4) (.var 2)) .nil))) (.cons (.asg (.name 4) (.bin .fdiv false (.var 4) (.var 2))) .nil)) (.cons (.ife (.cmp .gt (.var 6) (.int 2)) (.cons (.exp (.me .append (.var 3) (.cons (.bin .mod false (.bin .fdiv false (.var 5) (.int 4096)) (.var 2)) .nil))) .nil) .nil) .nil)) .nil))
def bDraws : Sts := 
  (.cons (.asg (.name 3) (.lst true .nil))
  (.cons (.asg (.name 4) (.bin .mul false (.var 0) (.bi .int (.cons (.cmp .ge (.var 0) (.bin .pow false (.int 10) (.int 18))) .nil))))
  (.cons (.asg (.name 5) (.bin .mod false (.var 0) (.int 2305843009213693951)))
  (.cons (.for (.name 6) (.rng (.bin .add false (.var 1) (.int 3))) drBody)
  (.cons (.ret (.var 3)) .nil)))))
def bBag (id ic : Nat) : Sts := (.cons (.ret (.lst true (.cons (.call id (.cons (.call ic (.cons (.var 0) (.cons (.var 1) .nil))) (.cons (.int 400) (.cons (.int 1000) .nil)))) (.cons (.int 0) .nil)))) .nil)
def eBags (ib : Nat) : Ex := .call ib (.cons (.var 0) (.cons (.var 2) .nil))
def cNil : Txs := .nil
def bBags (ib : Nat) : Sts := (.cons (.ret (.lc false [2] (.name 2) (.rng (.bi .max2 (.cons (.int 1) (.cons (.bi .min2 (.cons (.var 1) (.cons (.bi .len (.cons (.var 0) .nil)) .nil))) .nil)))) cNil (eBags ib))) .nil)
def bTake : Sts :=
  (.cons (.setI (.var 0) (.int 1) (.bin .add false (.idx (.var 0) (.int 1)) (.int 1)))
  (.cons (.ret (.bin .mod false (.idx (.idx (.var 0) (.int 0)) (.bin .mod false (.idx (.var 0) (.int 1)) (.bi .len (.cons (.idx (.var 0) (.int 0)) .nil)))) (.var 1))) .nil))
def dCell : Def := ⟨2, 2, false, bCell⟩
def dDraws : Def := ⟨3, 7, false, bDraws⟩
def dBag (id ic : Nat) : Def := ⟨2, 2, true, bBag id ic⟩
def dBags (ib : Nat) : Def := ⟨2, 3, true, bBags ib⟩
def dTake : Def := ⟨2, 2, false, bTake⟩
def bagO (ds : List Int) (c : Int) : O := .lst [.lst (ds.map .int), .int c]
def Dr (d : Int) : Prop := 0 ≤ d ∧ d < 1000
def IsBag (s : MS) (b : Nat) : Prop := ∃ ds c, s[b]? = some (bagO ds c) ∧ ds.length = 400 ∧ ∀ d ∈ ds, Dr d
/-- only the bag at b has moved -/
structure Bg (b : Nat) (s s' : MS) : Prop where
  bag : IsBag s' b
  len : s'.length = s.length
  oth : ∀ n, n ≠ b → s'[n]? = s[n]?
theorem Bg.trans {b : Nat} {s s1 s2 : MS} (x : Bg b s s1) (y : Bg b s1 s2) : Bg b s s2 := ⟨y.bag, y.len.trans x.len, fun n h => (y.oth n h).trans (x.oth n h)⟩
theorem Bg.refl {b : Nat} {s : MS} (h : IsBag s b) : Bg b s s := ⟨h, rfl, fun _ _ => rfl⟩
theorem IsBag.of {s s' : MS} {b : Nat} (h : IsBag s b) (e : s'[b]? = s[b]?) : IsBag s' b := by
  obtain ⟨ds, c, q⟩ := h
  exact ⟨ds, c, by rw [e]; exact q.1, q.2⟩
/-- whoever was a bag is one still -/
theorem Bg.all {b : Nat} {s s' : MS} (h : Bg b s s') {i : Nat} (x : IsBag s i) : IsBag s' i := by
  by_cases e : i = b
  · rw [e]; exact h.bag
  · exact x.of (h.oth i e)
theorem IsBag.lt {s : MS} {b : Nat} (h : IsBag s b) : b < s.length := by
  obtain ⟨ds, c, e, _⟩ := h
  exact (List.getElem?_eq_some_iff.mp e).1
section
variable {D : Nat → Option Def} {G : Str → Option U} {k : Nat} {s : MS}
theorem take_spec {it : Nat} (hD : D it = some dTake) {b : Nat} (h : IsBag s b) {many : Int} (hm : 0 < many) :
    ∃ v s', callF D G (k + 1) it [.obj b, .int many] s = .ok (.int v) s' ∧ 0 ≤ v ∧ v < many ∧ Bg b s s' := by
  have hb := h.lt
  obtain ⟨ds, c, e, hl, hr⟩ := h
  have e1 : s[b]? = some (.lst [.lst (ds.map .int), .int c]) := e
  have e2 : (s.set b (.lst [.lst (ds.map U.int), .int (c + 1)]))[b]? = some (.lst [.lst (ds.map .int), .int (c + 1)]) := List.getElem?_set_self hb
  have hi : 0 ≤ (c + 1) % 400 := Int.emod_nonneg _ (by decide)
  have hi2 : (c + 1) % 400 < 400 := Int.emod_lt_of_pos _ (by decide)
  obtain ⟨j, hj⟩ : ∃ j : Nat, (c + 1) % 400 = j := ⟨((c + 1) % 400).toNat, by omega⟩
  have hj2 : j < ds.length := by omega
  have g1 : (ds.map U.int)[j]? = some (.int ds[j]) := by rw [List.getElem?_map, List.getElem?_eq_getElem hj2]; rfl
  refine ⟨ds[j] % many, s.set b (bagO ds (c + 1)), ?_, Int.emod_nonneg _ (by omega), Int.emod_lt_of_pos _ hm, ⟨ds, c + 1, e2, hl, hr⟩, by simp, fun n hn => List.getElem?_set_ne (Ne.symm hn)⟩
  have x1 : ixN 2 1 = some 1 := by decide
  have x4 : ((400 : Nat) : Int) = 400 := rfl
  have x5 : (0 : Int) < 400 := by decide
  rw [call_rt (d := dTake) (u := .int (ds[j] % many)) (s' := s.set b (bagO ds (c + 1))) hD rfl ?_, fin_eq (by simp)]
  simp -implicitDefEqProofs only [dTake, bTake, start, List.map_cons, List.map_nil, List.replicate, List.cons_append, List.nil_append, List.length_cons, List.length_nil, evE, evEs, evO, evT, evAll, evAny, evAnd, evOr, evI, evS, evSs, Rv.bind_ok, Rv.bind_no, Rv.bind_ex, Rv.of_some, Rv.of_none, Rv.fl_ok, Fl.then_nx, Fl.then_rt, Fl.then_bk, Fl.then_ct, varU, List.getElem?_cons_zero, List.getElem?_cons_succ, Option.map_some, Option.bind_some, negU, notU, partU, andK, orK, chnK, chnB, tru, asgK, bindT, bindTs, List.set_cons_zero, List.set_cons_succ, if_true, if_false, Bool.false_eq_true, o_add, o_sub, c_lt, c_gt, c_le, c_ge, c_eq, c_ne, ix_T, ix_L, at0, at1, at2, at3, at4, len_T, len_L, max2_, min2_, tup_L, tup_T, int_b, int_i, src_T, src_L, ix_O e1, setI_O e1 x1, ix_O e2, List.length_map, hl, x4, o_mod x5, hj, atI_nat g1, o_mod hm, bagO, Nat.sub_self, Nat.reduceAdd, Nat.reduceSub]
theorem cell_spec {ic : Nat} (hD : D ic = some dCell) {ns : List Int} {i : Nat} : ∃ v, callF D G (k + 1) ic [.scr ns, .int i] s = .ok (.int v) s := by
  by_cases h : (i : Int) < (ns.length : Nat)
  · have hi : i < ns.length := by omega
    have g1 : (ns.map U.int)[i]? = some (.int ns[i]) := by rw [List.getElem?_map, List.getElem?_eq_getElem hi]; rfl
    refine ⟨ns[i], ?_⟩
    rw [call_rt (d := dCell) (u := .int ns[i]) (s' := s) hD rfl ?_, fin_eq rfl]
    simp -implicitDefEqProofs only [dCell, bCell, start, List.map_cons, List.map_nil, List.replicate, List.cons_append, List.nil_append, List.length_cons, List.length_nil, evE, evEs, evO, evT, evAll, evAny, evAnd, evOr, evI, evS, evSs, Rv.bind_ok, Rv.bind_no, Rv.bind_ex, Rv.of_some, Rv.of_none, Rv.fl_ok, Fl.then_nx, Fl.then_rt, Fl.then_bk, Fl.then_ct, varU, List.getElem?_cons_zero, List.getElem?_cons_succ, Option.map_some, Option.bind_some, negU, notU, partU, andK, orK, chnK, chnB, tru, asgK, bindT, bindTs, List.set_cons_zero, List.set_cons_succ, if_true, if_false, Bool.false_eq_true, o_add, o_sub, c_lt, c_gt, c_le, c_ge, c_eq, c_ne, ix_T, ix_L, at0, at1, at2, at3, at4, len_T, len_L, max2_, min2_, tup_L, tup_T, int_b, int_i, src_T, src_L, len_S, ix_S, h, decide_true, atI_nat g1, Nat.sub_self, Nat.reduceAdd, Nat.reduceSub]
  · refine ⟨0, ?_⟩
    rw [call_rt (d := dCell) (u := .int 0) (s' := s) hD rfl ?_, fin_eq rfl]
    simp -implicitDefEqProofs only [dCell, bCell, start, List.map_cons, List.map_nil, List.replicate, List.cons_append, List.nil_append, List.length_cons, List.length_nil, evE, evEs, evO, evT, evAll, evAny, evAnd, evOr, evI, evS, evSs, Rv.bind_ok, Rv.bind_no, Rv.bind_ex, Rv.of_some, Rv.of_none, Rv.fl_ok, Fl.then_nx, Fl.then_rt, Fl.then_bk, Fl.then_ct, varU, List.getElem?_cons_zero, List.getElem?_cons_succ, Option.map_some, Option.bind_some, negU, notU, partU, andK, orK, chnK, chnB, tru, asgK, bindT, bindTs, List.set_cons_zero, List.set_cons_succ, if_true, if_false, Bool.false_eq_true, o_add, o_sub, c_lt, c_gt, c_le, c_ge, c_eq, c_ne, ix_T, ix_L, at0, at1, at2, at3, at4, len_T, len_L, max2_, min2_, tup_L, tup_T, int_b, int_i, src_T, src_L, len_S, ix_S, h, decide_false, Nat.sub_self, Nat.reduceAdd, Nat.reduceSub]
abbrev dP : Int := 2305843009213693951
/-- the loop's state -/
def DrI (cell : Int) (s : MS) (i : Nat) (su : SU) (s' : MS) : Prop := ∃ (ds : List Int) (rest st : Int) (x : Option U), su = [some (.int cell), some (.int 400), some (.int 1000), some (.obj s.length), some (.int rest), some (.int st), x] ∧ s' = s ++ [.lst (ds.map .int)] ∧ ds.length = i - 3 ∧ (∀ d ∈ ds, Dr d) ∧ 0 ≤ st ∧ st < dP ∧ i ≤ 403
theorem dr_mod (a : Int) : Dr (a % 1000) := ⟨Int.emod_nonneg _ (by decide), Int.emod_lt_of_pos _ (by decide)⟩
theorem draws_spec {id : Nat} (hD : D id = some dDraws) {cell : Int} : ∃ ds : List Int, callF D G (k + 1) id [.int cell, .int 400, .int 1000] s = .ok (.lst (ds.map .int)) s ∧ ds.length = 400 ∧ ∀ d ∈ ds, Dr d := by
  have cp : (dP : Int) = 2305843009213693951 := rfl
  have step : ∀ X i x su s', (rowN 0 403)[i]? = some x → DrI cell s i su s' → ∃ su1, bindT (.name 6) x su = some su1 ∧ ∃ su2 s2, (evSs X drBody su1 s' = .nx su2 s2 ∨ evSs X drBody su1 s' = .ct su2 s2) ∧ DrI cell s (i + 1) su2 s2 := by
    rintro X i x su s' hx ⟨ds, rest, st, y, rfl, rfl, hl, hr, h0, h1, h2⟩
    obtain ⟨hi, rfl⟩ := row_get hx
    refine ⟨_, rfl, ?_⟩
    have e1 : (s ++ [O.lst (ds.map .int)])[s.length]? = some (.lst (ds.map .int)) := new0
    have hz : (ds.map U.int).length < line := by
      have : line = 16777216 := rfl
      simp
      omega
    have m1 : -(2 ^ 64) < st ∧ st < 2 ^ 64 := by omega
    have m2 : (0 : Int) < 2305843009213693951 := by decide
    have m3 : (0 : Int) < 1000 := by decide
    have m4 : (0 : Int) < 1000 ∧ (1000 : Int) < 1073741824 := by decide
    have m5 : (0 : Int) < 4096 ∧ (4096 : Int) < 1073741824 := by decide
    have n0 : 0 ≤ (st * st + 48271 * st + (i : Int) + 1) % dP := Int.emod_nonneg _ (by decide)
    have n1 : (st * st + 48271 * st + (i : Int) + 1) % dP < dP := Int.emod_lt_of_pos _ (by decide)
    by_cases hk : 2 < (i : Int)
    · by_cases hre : 0 < rest
      · refine ⟨[some (.int cell), some (.int 400), some (.int 1000), some (.obj s.length), some (.int (rest / 1000)), some (.int ((st * st + 48271 * st + i + 1) % dP)), some (.int i)], s ++ [.lst ((ds ++ [rest % 1000]).map .int)], .inl ?_, ds ++ [rest % 1000], _, _, _, rfl, rfl, by simp; omega, ?_, n0, n1, by omega⟩
        · simp -implicitDefEqProofs only [drBody, evE, evEs, evO, evT, evAll, evAny, evAnd, evOr, evI, evS, evSs, Rv.bind_ok, Rv.bind_no, Rv.bind_ex, Rv.of_some, Rv.of_none, Rv.fl_ok, Fl.then_nx, Fl.then_rt, Fl.then_bk, Fl.then_ct, varU, List.getElem?_cons_zero, List.getElem?_cons_succ, Option.map_some, Option.bind_some, negU, notU, partU, andK, orK, chnK, chnB, tru, asgK, bindT, bindTs, List.set_cons_zero, List.set_cons_succ, if_true, if_false, Bool.false_eq_true, o_add, o_sub, c_lt, c_gt, c_le, c_ge, c_eq, c_ne, ix_T, ix_L, at0, at1, at2, at3, at4, len_T, len_L, max2_, min2_, tup_L, tup_T, int_b, int_i, src_T, src_L, o_mul m1, o_mod m2, o_mod m3, hk, hre, decide_true, meK_O e1, app_O e1 hz, set0, o_fdiv m4, List.map_append, List.map_cons, List.map_nil]
        · intro d hd
          rcases List.mem_append.mp hd with q | q
          · exact hr d q
          · rw [List.mem_singleton.mp q]; exact dr_mod _
      · refine ⟨[some (.int cell), some (.int 400), some (.int 1000), some (.obj s.length), some (.int rest), some (.int ((st * st + 48271 * st + i + 1) % dP)), some (.int i)], s ++ [.lst ((ds ++ [((st * st + 48271 * st + i + 1) % dP) / 4096 % 1000]).map .int)], .inl ?_, ds ++ [((st * st + 48271 * st + i + 1) % dP) / 4096 % 1000], _, _, _, rfl, rfl, by simp; omega, ?_, n0, n1, by omega⟩
        · simp -implicitDefEqProofs only [drBody, evE, evEs, evO, evT, evAll, evAny, evAnd, evOr, evI, evS, evSs, Rv.bind_ok, Rv.bind_no, Rv.bind_ex, Rv.of_some, Rv.of_none, Rv.fl_ok, Fl.then_nx, Fl.then_rt, Fl.then_bk, Fl.then_ct, varU, List.getElem?_cons_zero, List.getElem?_cons_succ, Option.map_some, Option.bind_some, negU, notU, partU, andK, orK, chnK, chnB, tru, asgK, bindT, bindTs, List.set_cons_zero, List.set_cons_succ, if_true, if_false, Bool.false_eq_true, o_add, o_sub, c_lt, c_gt, c_le, c_ge, c_eq, c_ne, ix_T, ix_L, at0, at1, at2, at3, at4, len_T, len_L, max2_, min2_, tup_L, tup_T, int_b, int_i, src_T, src_L, o_mul m1, o_mod m2, o_mod m3, hk, hre, decide_true, decide_false, meK_O e1, app_O e1 hz, set0, o_fdiv m5, List.map_append, List.map_cons, List.map_nil]
        · intro d hd
          rcases List.mem_append.mp hd with q | q
          · exact hr d q
          · rw [List.mem_singleton.mp q]; exact dr_mod _
    · refine ⟨[some (.int cell), some (.int 400), some (.int 1000), some (.obj s.length), some (.int rest), some (.int ((st * st + 48271 * st + i + 1) % dP)), some (.int i)], s ++ [.lst (ds.map .int)], .inl ?_, ds, _, _, _, rfl, rfl, by omega, hr, n0, n1, by omega⟩
      simp -implicitDefEqProofs only [drBody, evE, evEs, evO, evT, evAll, evAny, evAnd, evOr, evI, evS, evSs, Rv.bind_ok, Rv.bind_no, Rv.bind_ex, Rv.of_some, Rv.of_none, Rv.fl_ok, Fl.then_nx, Fl.then_rt, Fl.then_bk, Fl.then_ct, varU, List.getElem?_cons_zero, List.getElem?_cons_succ, Option.map_some, Option.bind_some, negU, notU, partU, andK, orK, chnK, chnB, tru, asgK, bindT, bindTs, List.set_cons_zero, List.set_cons_succ, if_true, if_false, Bool.false_eq_true, o_add, o_sub, c_lt, c_gt, c_le, c_ge, c_eq, c_ne, ix_T, ix_L, at0, at1, at2, at3, at4, len_T, len_L, max2_, min2_, tup_L, tup_T, int_b, int_i, src_T, src_L, o_mul m1, o_mod m2, hk, decide_false]
  have hb : ∀ b : Bool, -(2 ^ 64) < (if b = true then (1 : Int) else 0) ∧ (if b = true then (1 : Int) else 0) < 2 ^ 64 := by decide
  have m2 : (0 : Int) < 2305843009213693951 := by decide
  obtain ⟨su', s', q1, ds, rest, st, y, rfl, rfl, hl, hr, _⟩ := forL_inv (tg := .name 6) (body := evSs ⟨callF D G k, callF D G (k - 1), G⟩ drBody) (r := ⟨rowN 0 403, []⟩) (rowN 0 403) (DrI cell s) (fun _ _ _ _ => rfl) (step _)
    [some (.int cell), some (.int 400), some (.int 1000), some (.obj s.length), some (.int (cell * if decide (10 ^ 18 ≤ cell) = true then 1 else 0)), some (.int (cell % dP)), none] (s ++ [.lst []])
    ⟨[], _, _, _, rfl, rfl, rfl, (fun d hd => by cases hd), Int.emod_nonneg _ (by decide), Int.emod_lt_of_pos _ (by decide), by omega⟩
  refine ⟨ds, ?_, by rw [hl, row_len], hr⟩
  have r1 : srcRng (.int 0) (.int 403) = some ⟨rowN 0 403, []⟩ := src_R (n := 403) (by decide)
  have p1 : (0 : Int) ≤ 18 ∧ (18 : Int) ≤ 1000000 ∧ (10 : Int).natAbs < 2 ^ 64 := by decide
  have hr1 : evSs ⟨callF D G k, callF D G (k - 1), G⟩ dDraws.body (start dDraws.nn [.int cell, .int 400, .int 1000]) s = .rt (.obj s.length) (s ++ [.lst (ds.map .int)]) := by
    simp -implicitDefEqProofs only [dDraws, bDraws, start, List.map_cons, List.map_nil, List.replicate, List.cons_append, List.nil_append, List.length_cons, List.length_nil, evE, evEs, evO, evT, evAll, evAny, evAnd, evOr, evI, evS, evSs, Rv.bind_ok, Rv.bind_no, Rv.bind_ex, Rv.of_some, Rv.of_none, Rv.fl_ok, Fl.then_nx, Fl.then_rt, Fl.then_bk, Fl.then_ct, varU, List.getElem?_cons_zero, List.getElem?_cons_succ, Option.map_some, Option.bind_some, negU, notU, partU, andK, orK, chnK, chnB, tru, asgK, bindT, bindTs, List.set_cons_zero, List.set_cons_succ, if_true, if_false, Bool.false_eq_true, o_add, o_sub, c_lt, c_gt, c_le, c_ge, c_eq, c_ne, ix_T, ix_L, at0, at1, at2, at3, at4, len_T, len_L, max2_, min2_, tup_L, tup_T, int_b, int_i, src_T, src_L, lenL, o_pow p1, o_mul (hb _), o_mod m2, Nat.sub_self, Nat.reduceAdd, Nat.reduceSub, Nat.zero_le, lst_new, r1, Int.reduceAdd, Int.reduceToNat]
    exact (congrArg (fun f => Fl.then f _) q1).trans rfl
  rw [call_rt hD rfl hr1]
  exact fin_lst rfl held_self (Nat.le_refl _) new0 clss_int
theorem bag_spec {id ic ib : Nat} (hI : D id = some dDraws) (hC : D ic = some dCell) (hB : D ib = some (dBag id ic)) {ns : List Int} {i : Nat} : ∃ ds : List Int, callF D G (k + 2) ib [.scr ns, .int i] s = .ok (.obj s.length) (s ++ [bagO ds 0]) ∧ ds.length = 400 ∧ ∀ d ∈ ds, Dr d := by
  obtain ⟨v, hv⟩ := cell_spec (G := G) (k := k) (s := s) hC (ns := ns) (i := i)
  obtain ⟨ds, hd, hl, hr⟩ := draws_spec (G := G) (k := k) (s := s) hI (cell := v)
  refine ⟨ds, ?_, hl, hr⟩
  have z : (2 : Nat) ≤ line := by decide
  have r1 : evSs ⟨callF D G (k + 1), callF D G (k + 1 - 1), G⟩ (dBag id ic).body (start (dBag id ic).nn [.scr ns, .int i]) s = .rt (.obj s.length) (s ++ [bagO ds 0]) := by
    simp -implicitDefEqProofs only [dBag, bBag, start, List.map_cons, List.map_nil, List.replicate, List.cons_append, List.nil_append, List.length_cons, List.length_nil, evE, evEs, evO, evT, evAll, evAny, evAnd, evOr, evI, evS, evSs, Rv.bind_ok, Rv.bind_no, Rv.bind_ex, Rv.of_some, Rv.of_none, Rv.fl_ok, Fl.then_nx, Fl.then_rt, Fl.then_bk, Fl.then_ct, varU, List.getElem?_cons_zero, List.getElem?_cons_succ, Option.map_some, Option.bind_some, negU, notU, partU, andK, orK, chnK, chnB, tru, asgK, bindT, bindTs, List.set_cons_zero, List.set_cons_succ, if_true, if_false, Bool.false_eq_true, o_add, o_sub, c_lt, c_gt, c_le, c_ge, c_eq, c_ne, ix_T, ix_L, at0, at1, at2, at3, at4, len_T, len_L, max2_, min2_, tup_L, tup_T, int_b, int_i, src_T, src_L, lenL, hv, hd, z, lst_new, bagO, Nat.sub_self, Nat.reduceAdd, Nat.reduceSub]
  rw [call_rt hB rfl r1]
  exact fin_keep
theorem many_bags (n l : Nat) (h : l ≤ 1000) : ∃ m : Nat, (if (if (n : Int) < (l : Int) then (n : Int) else (l : Int)) > 1 then (if (n : Int) < (l : Int) then (n : Int) else (l : Int)) else 1) = (m : Int) ∧ m ≤ 1000 := by
  obtain ⟨x, hx, h1⟩ : ∃ x : Nat, (if (n : Int) < (l : Int) then (n : Int) else (l : Int)) = (x : Int) ∧ x ≤ 1000 := by
    by_cases q : (n : Int) < (l : Int)
    · exact ⟨n, if_pos q, by omega⟩
    · exact ⟨l, if_neg q, h⟩
  rw [hx]
  by_cases q : (x : Int) > 1
  · exact ⟨x, if_pos q, h1⟩
  · exact ⟨1, if_neg q, by omega⟩
theorem bags_spec {id ic ib ibs : Nat} (hI : D id = some dDraws) (hC : D ic = some dCell) (hB : D ib = some (dBag id ic)) (hS : D ibs = some (dBags ib)) {ns : List Int} {limit : Nat} (h1 : 1 ≤ limit) (h2 : limit ≤ 1000) :
    ∃ m s', callF D G (k + 3) ibs [.scr ns, .int limit] s = .ok (.lst ((List.range m).map fun i => .obj (s.length + i))) s' ∧ s'.length = s.length + m ∧ (∀ i, i < m → IsBag s' (s.length + i)) ∧ ∀ n, n < s.length → s'[n]? = s[n]? := by
  have hl : line = 16777216 := rfl
  obtain ⟨m, hm1, hm2⟩ := many_bags ns.length limit h2
  have hb := fun s i => bag_spec (G := G) (k := k) (s := s) hI hC hB (ns := ns) (i := i)
  obtain ⟨acc', s', q1, q2, q3, q4, q5⟩ := lcL_inv (vs := [2]) (tg := .name 2) (c := evAll ⟨callF D G (k + 2), callF D G (k + 2 - 1), G⟩ cNil) (e := evE ⟨callF D G (k + 2), callF D G (k + 2 - 1), G⟩ (eBags ib)) (r := ⟨rowN 0 m, []⟩) (su := [some (.scr ns), some (.int limit), none]) (rowN 0 m)
    (fun i acc s' => acc = (List.range i).map (fun i => U.obj (s.length + i)) ∧ s'.length = s.length + i ∧ (∀ j, j < i → IsBag s' (s.length + j)) ∧ ∀ n, n < s.length → s'[n]? = s[n]?) (fun _ _ _ _ => rfl) (fun i x acc s' hx ⟨e1, e2, e3, e4⟩ => by
      obtain ⟨hi, rfl⟩ := row_get hx
      obtain ⟨ds, d1, d2, d3⟩ := hb s' i
      refine ⟨_, rfl, true, s', by simp only [cNil, evAll], (fun h => by cases h), fun _ => ⟨.obj s'.length, s' ++ [bagO ds 0], ?_, ?_, by simp [e2]; omega, fun j hj => ?_, fun n hn => ?_⟩⟩
      · simp -implicitDefEqProofs only [eBags, wipe, List.set_cons_zero, List.set_cons_succ, evE, evEs, evO, evT, evAll, evAny, evAnd, evOr, evI, evS, evSs, Rv.bind_ok, Rv.bind_no, Rv.bind_ex, Rv.of_some, Rv.of_none, Rv.fl_ok, Fl.then_nx, Fl.then_rt, Fl.then_bk, Fl.then_ct, varU, List.getElem?_cons_zero, List.getElem?_cons_succ, Option.map_some, Option.bind_some, negU, notU, partU, andK, orK, chnK, chnB, tru, asgK, bindT, bindTs, List.set_cons_zero, List.set_cons_succ, if_true, if_false, Bool.false_eq_true, o_add, o_sub, c_lt, c_gt, c_le, c_ge, c_eq, c_ne, ix_T, ix_L, at0, at1, at2, at3, at4, len_T, len_L, max2_, min2_, tup_L, tup_T, int_b, int_i, src_T, src_L, d1]
      · rw [e1, e2, List.range_succ, List.map_append]
        rfl
      · by_cases hji : j = i
        · subst hji
          exact ⟨ds, 0, by rw [← e2]; simp, d2, d3⟩
        · obtain ⟨ds', c, f1, f2, f3⟩ := e3 j (by omega)
          exact ⟨ds', c, by rw [List.getElem?_append_left (by omega)]; exact f1, f2, f3⟩
      · rw [List.getElem?_append_left (by omega)]
        exact e4 n hn) [] s ⟨rfl, rfl, fun j hj => by omega, fun _ _ => rfl⟩
  rw [row_len] at q2 q3 q4
  refine ⟨m, s', ?_, q3, q4, q5⟩
  have r0 : srcRng (.int 0) (.int (m : Int)) = some ⟨rowN 0 m, []⟩ := src_R (by omega)
  have r1 : evSs ⟨callF D G (k + 2), callF D G (k + 2 - 1), G⟩ (dBags ib).body (start (dBags ib).nn [.scr ns, .int limit]) s = .rt (.lst ((List.range m).map fun i => .obj (s.length + i))) s' := by
    simp -implicitDefEqProofs only [dBags, bBags, start, List.map_cons, List.map_nil, List.replicate, List.cons_append, List.nil_append, List.length_cons, List.length_nil, evE, evEs, evO, evT, evAll, evAny, evAnd, evOr, evI, evS, evSs, Rv.bind_ok, Rv.bind_no, Rv.bind_ex, Rv.of_some, Rv.of_none, Rv.fl_ok, Fl.then_nx, Fl.then_rt, Fl.then_bk, Fl.then_ct, varU, List.getElem?_cons_zero, List.getElem?_cons_succ, Option.map_some, Option.bind_some, negU, notU, partU, andK, orK, chnK, chnB, tru, asgK, bindT, bindTs, List.set_cons_zero, List.set_cons_succ, if_true, if_false, Bool.false_eq_true, o_add, o_sub, c_lt, c_gt, c_le, c_ge, c_eq, c_ne, ix_T, ix_L, at0, at1, at2, at3, at4, len_T, len_L, max2_, min2_, tup_L, tup_T, int_b, int_i, src_T, src_L, len_S, hm1, r0, q1, q2, lst_tree, Nat.sub_self, Nat.reduceAdd, Nat.reduceSub]
  rw [call_rt hS rfl r1]
  exact fin_keep
end
end Pv
set_option autoImplicit false
set_option Elab.async false
set_option linter.all false
set_option maxRecDepth 100000
namespace LW
open Pv PySem PySem.Spec PyProof.Rows L2
def topS (i : Nat) : Stmt := PySem.Challenge.pw_stagedoor_k17_whole_lorries.main.body.getD i (.Pass ⟨0, 0, 0, 0⟩)
/-- rises(row): slots row one other -/
def b0c1 : Txs := .nil
def b0e1 : Ex := .cmp .lt (.var 1) (.var 2)
def b0 : Sts := 
  (.cons (.ret (.bi .all (.cons (.lc false [1, 2] (.tup (.cons (.name 1) (.cons (.name 2) .nil))) (.zip (.var 0) (.slc (.var 0) (.some (.int 1)) .none)) b0c1 b0e1) .nil))) .nil)
def d0 : Def := ⟨1, 3, false, b0⟩
def n0 : List Str := ["row", "one", "other"]
abbrev t0 : Stmt := topS 1
/-- stacks(down, up): slots down up found name fit at stack -/
def b1c1 : Txs := (.cons (.cmp .gt (.me .index (.var 1) (.cons (.idx (.var 6) (.neg (.int 1))) .nil)) (.me .index (.var 1) (.cons (.var 3) .nil))) .nil)
def b1e1 : Ex := .tup (.cons (.me .index (.var 1) (.cons (.idx (.var 6) (.neg (.int 1))) .nil)) (.cons (.var 5) .nil))
def b1f1 : Sts := (.cons (.asg (.name 4) (.lc false [5, 6] (.tup (.cons (.name 5) (.cons (.name 6) .nil))) (.enu (.var 2)) b1c1 b1e1)) (.cons (.ife (.cmp .eq (.var 4) (.lst false .nil)) (.cons (.exp (.me .append (.var 2) (.cons (.tup (.cons (.var 3) .nil)) .nil))) .nil) (.cons (.setI (.var 2) (.idx (.bi .min1 (.cons (.var 4) .nil)) (.int 1)) (.bin .add false (.idx (.var 2) (.idx (.bi .min1 (.cons (.var 4) .nil)) (.int 1))) (.tup (.cons (.var 3) .nil)))) .nil)) .nil))
def b1 : Sts := 
  (.cons (.asg (.name 2) (.lst true .nil))
  (.cons (.for (.name 3) (.seq (.var 0)) b1f1)
  (.cons (.ret (.bi .tuple (.cons (.var 2) .nil))) .nil)))
def d1 : Def := ⟨2, 7, false, b1⟩
def n1 : List Str := ["down", "up", "found", "name", "fit", "at", "stack"]
abbrev t1 : Stmt := topS 3
/-- shown(down, up): slots down up rows name found row ahead best -/
def b2c1 : Txs := .nil
def b2e1 : Ex := .tup (.cons (.bi .len (.cons (.var 5) .nil)) (.cons (.var 5) .nil))
def b2c2 : Txs := (.cons (.cmp .lt (.me .index (.var 1) (.cons (.idx (.var 5) (.neg (.int 1))) .nil)) (.me .index (.var 1) (.cons (.var 3) .nil))) .nil)
def b2e2 : Ex := .var 5
def b2f1 : Sts := (.cons (.asg (.name 6) (.lc false [5] (.name 5) (.seq (.var 2)) b2c2 b2e2)) (.cons (.asg (.name 7) (.ite (.cmp .ne (.var 6) (.lst false .nil)) (.idx (.bi (.maxkey "shown.<locals>.<lambda>") (.cons (.lc false [5] (.name 5) (.seq (.var 6)) b2c1 b2e1) .nil)) (.int 1)) (.tup .nil))) (.cons (.exp (.me .append (.var 2) (.cons (.bin .add false (.var 7) (.tup (.cons (.var 3) .nil))) .nil))) .nil)))
def b2f2 : Sts := (.cons (.asg (.name 4) (.ite (.cmp .gt (.bi .len (.cons (.var 5) .nil)) (.bi .len (.cons (.var 4) .nil))) (.var 5) (.var 4))) .nil)
def b2 : Sts := 
  (.cons (.asg (.name 2) (.lst true .nil))
  (.cons (.for (.name 3) (.seq (.var 0)) b2f1)
  (.cons (.asg (.name 4) (.tup .nil))
  (.cons (.for (.name 5) (.seq (.var 2)) b2f2)
  (.cons (.ret (.var 4)) .nil)))))
def d2 : Def := ⟨2, 8, false, b2⟩
def n2 : List Str := ["down", "up", "rows", "name", "found", "row", "ahead", "best"]
abbrev t2 : Stmt := topS 4
/-- are_sets(down, thing): slots down thing name -/
def b3c1 : Txs := .nil
def b3e1 : Ex := .band (.cons (.isi (.var 2) [.str]) (.cons (.cmp .isin (.var 2) (.var 0)) .nil))
def b3c2 : Txs := .nil
def b3k1 : Ex := .var 2
def b3v1 : Ex := .bl true
def b3 : Sts := 
  (.cons (.ife (.bor (.cons (.bnot (.val (.isi (.var 1) [.tup]))) (.cons (.bnot (.val (.bi .all (.cons (.lc false [2] (.name 2) (.seq (.var 1)) b3c1 b3e1) .nil)))) .nil))) (.cons (.ret (.bl false)) .nil) .nil)
  (.cons (.ret (.cmp .eq (.bi .len (.cons (.dc false false [2] (.name 2) (.seq (.var 1)) b3c2 b3k1 b3v1) .nil)) (.bi .len (.cons (.var 1) .nil)))) .nil))
def d3 : Def := ⟨2, 3, false, b3⟩
def n3 : List Str := ["down", "thing", "name"]
abbrev t3 : Stmt := topS 5
/-- are_stacks(down, up, thing): slots down up thing names stack name -/
def b4c1 : Txs := .nil
def b4e1 : Ex := .band (.cons (.call 3 (.cons (.var 0) (.cons (.var 4) .nil))) (.cons (.cmp .ne (.var 4) (.tup .nil)) .nil))
def b4c2 : Txs := .nil
def b4i1 : Pv.It := .seq (.var 4)
def b4c3 : Txs := .nil
def b4e2 : Ex := .var 5
def b4c4 : Txs := .nil
def b4e3 : Ex := .me .index (.var 1) (.cons (.var 5) .nil)
def b4c5 : Txs := .nil
def b4e4 : Ex := .me .index (.var 0) (.cons (.var 5) .nil)
def b4f1 : Sts := (.cons (.ife (.bor (.cons (.bnot (.val (.call 0 (.cons (.lc false [5] (.name 5) (.seq (.var 4)) b4c5 b4e4) .nil)))) (.cons (.bnot (.val (.call 0 (.cons (.lc false [5] (.name 5) (.seq (.rev (.var 4))) b4c4 b4e3) .nil)))) .nil))) (.cons (.ret (.bl false)) .nil) .nil) .nil)
def b4 : Sts := 
  (.cons (.ife (.bor (.cons (.bnot (.val (.isi (.var 2) [.tup]))) (.cons (.bnot (.val (.bi .all (.cons (.lc false [4] (.name 4) (.seq (.var 2)) b4c1 b4e1) .nil)))) .nil))) (.cons (.ret (.bl false)) .nil) .nil)
  (.cons (.asg (.name 3) (.lc2 false [4, 5] (.name 4) (.seq (.var 2)) b4c2 [5] (.name 5) b4i1 b4c3 b4e2))
  (.cons (.ife (.cmp .ne (.bi (.sorted false) (.cons (.var 3) .nil)) (.bi (.sorted false) (.cons (.var 0) .nil))) (.cons (.ret (.bl false)) .nil) .nil)
  (.cons (.for (.name 4) (.seq (.var 2)) b4f1)
  (.cons (.ret (.bl true)) .nil)))))
def d4 : Def := ⟨3, 6, false, b4⟩
def n4 : List Str := ["down", "up", "thing", "names", "stack", "name"]
abbrev t4 : Stmt := topS 6
/-- is_shown(down, up, thing): slots down up thing name -/
def b5c1 : Txs := .nil
def b5e1 : Ex := .me .index (.var 1) (.cons (.var 3) .nil)
def b5c2 : Txs := .nil
def b5e2 : Ex := .me .index (.var 0) (.cons (.var 3) .nil)
def b5 : Sts := 
  (.cons (.ife (.bor (.cons (.bnot (.val (.call 3 (.cons (.var 0) (.cons (.var 2) .nil))))) (.cons (.cmp .ne (.bi .len (.cons (.var 2) .nil)) (.bi .len (.cons (.call 1 (.cons (.var 0) (.cons (.var 1) .nil))) .nil))) .nil))) (.cons (.ret (.bl false)) .nil) .nil)
  (.cons (.ret (.band (.cons (.call 0 (.cons (.lc false [3] (.name 3) (.seq (.var 2)) b5c2 b5e2) .nil)) (.cons (.call 0 (.cons (.lc false [3] (.name 3) (.seq (.var 2)) b5c1 b5e1) .nil)) .nil)))) .nil))
def d5 : Def := ⟨3, 4, false, b5⟩
def n5 : List Str := ["down", "up", "thing", "name"]
abbrev t5 : Stmt := topS 7
/-- _law_cell_at(script, k): slots script k -/
def b6 : Sts := 
  (.cons (.ife (.cmp .lt (.var 1) (.bi .len (.cons (.var 0) .nil))) (.cons (.ret (.idx (.var 0) (.var 1))) .nil) .nil)
  (.cons (.ret (.int 0)) .nil))
def d6 : Def := ⟨2, 2, false, b6⟩
def n6 : List Str := ["script", "k"]
abbrev t6 : Stmt := topS 9
/-- _law_draws(cell, many, size): slots cell many size found rest stirred k -/
def b7f1 : Sts := (.cons (.asg (.name 5) (.bin .mod false (.bin .add false (.bin .add false (.bin .add false (.bin .mul false (.var 5) (.var 5)) (.bin .mul false (.int 48271) (.var 5))) (.var 6)) (.int 1)) (.int 2305843009213693951))) (.cons (.ife (.band (.cons (.cmp .gt (.var 6) (.int 2)) (.cons (.cmp .gt (.var 4) (.int 0)) .nil))) (.cons (.exp (.me .append (.var 3) (.cons (.bin .mod false (.var 4) (.var 2)) .nil))) (.cons (.asg (.name 4) (.bin .fdiv false (.var 4) (.var 2))) .nil)) (.cons (.ife (.cmp .gt (.var 6) (.int 2)) (.cons (.exp (.me .append (.var 3) (.cons (.bin .mod false (.bin .fdiv false (.var 5) (.int 4096)) (.var 2)) .nil))) .nil) .nil) .nil)) .nil))
def b7 : Sts := 
  (.cons (.asg (.name 3) (.lst true .nil))
  (.cons (.asg (.name 4) (.bin .mul false (.var 0) (.bi .int (.cons (.cmp .ge (.var 0) (.bin .pow false (.int 10) (.int 18))) .nil))))
  (.cons (.asg (.name 5) (.bin .mod false (.var 0) (.int 2305843009213693951)))
  (.cons (.for (.name 6) (.rng (.bin .add false (.var 1) (.int 3))) b7f1)
  (.cons (.ret (.var 3)) .nil)))))
def d7 : Def := ⟨3, 7, false, b7⟩
def n7 : List Str := ["cell", "many", "size", "found", "rest", "stirred", "k"]
abbrev t7 : Stmt := topS 10
/-- _law_bag(script, k): slots script k -/
def b8 : Sts := 
  (.cons (.ret (.lst true (.cons (.call 7 (.cons (.call 6 (.cons (.var 0) (.cons (.var 1) .nil))) (.cons (.int 400) (.cons (.int 1000) .nil)))) (.cons (.int 0) .nil)))) .nil)
def d8 : Def := ⟨2, 2, true, b8⟩
def n8 : List Str := ["script", "k"]
abbrev t8 : Stmt := topS 11
/-- _law_bags(script, limit): slots script limit k -/
def b9c1 : Txs := .nil
def b9e1 : Ex := .call 8 (.cons (.var 0) (.cons (.var 2) .nil))
def b9 : Sts := 
  (.cons (.ret (.lc false [2] (.name 2) (.rng (.bi .max2 (.cons (.int 1) (.cons (.bi .min2 (.cons (.var 1) (.cons (.bi .len (.cons (.var 0) .nil)) .nil))) .nil)))) b9c1 b9e1)) .nil)
def d9 : Def := ⟨2, 3, true, b9⟩
def n9 : List Str := ["script", "limit", "k"]
abbrev t9 : Stmt := topS 12
/-- _law_take(bag, many): slots bag many -/
def b10 : Sts := 
  (.cons (.setI (.var 0) (.int 1) (.bin .add false (.idx (.var 0) (.int 1)) (.int 1)))
  (.cons (.ret (.bin .mod false (.idx (.idx (.var 0) (.int 0)) (.bin .mod false (.idx (.var 0) (.int 1)) (.bi .len (.cons (.idx (.var 0) (.int 0)) .nil)))) (.var 1))) .nil))
def d10 : Def := ⟨2, 2, false, b10⟩
def n10 : List Str := ["bag", "many"]
abbrev t10 : Stmt := topS 13
/-- _law_orders(bag, most): slots bag most names found side row name -/
def b11f1 : Sts := (.cons (.exp (.me .insert (.var 5) (.cons (.call 10 (.cons (.var 0) (.cons (.bin .add false (.bi .len (.cons (.var 5) .nil)) (.int 1)) .nil))) (.cons (.var 6) .nil)))) .nil)
def b11f2 : Sts := (.cons (.asg (.name 5) (.lst true .nil)) (.cons (.for (.name 6) (.seq (.var 2)) b11f1) (.cons (.exp (.me .append (.var 3) (.cons (.bi .tuple (.cons (.var 5) .nil)) .nil))) .nil)))
def b11 : Sts := 
  (.cons (.asg (.name 2) (.lst false (.cons (.str "ark") (.cons (.str "bed") (.cons (.str "cage") (.cons (.str "door") (.cons (.str "elm") (.cons (.str "fog") (.cons (.str "gate") (.cons (.str "hill") (.cons (.str "ivy") (.cons (.str "jail") .nil))))))))))))
  (.cons (.asg (.name 2) (.slc (.var 2) .none (.some (.call 10 (.cons (.var 0) (.cons (.bin .add false (.var 1) (.int 1)) .nil))))))
  (.cons (.asg (.name 3) (.lst true .nil))
  (.cons (.for (.name 4) (.rng (.int 2)) b11f2)
  (.cons (.ife (.cmp .eq (.call 10 (.cons (.var 0) (.cons (.int 5) .nil))) (.int 0)) (.cons (.setI (.var 3) (.int 1) (.ite (.cmp .eq (.call 10 (.cons (.var 0) (.cons (.int 2) .nil))) (.int 0)) (.rev (.idx (.var 3) (.int 0))) (.idx (.var 3) (.int 0)))) .nil) .nil)
  (.cons (.ret (.var 3)) .nil))))))
def d11 : Def := ⟨2, 7, false, b11⟩
def n11 : List Str := ["bag", "most", "names", "found", "side", "row", "name"]
abbrev t11 : Stmt := topS 14
/-- law(script): slots script bag name stack down up told row fewer order one -/
def b12f1 : Sts := (.cons (.ife (.bnot (.val (.call 5 (.cons (.var 3) (.cons (.rev (.var 3)) (.cons (.slc (.var 3) .none (.some (.int 1))) .nil)))))) (.cons (.ret (.bl false)) .nil) .nil) .nil)
def b12c1 : Txs := .nil
def b12c2 : Txs := (.cons (.cmp .ne (.var 10) (.var 2)) .nil)
def b12e1 : Ex := .var 10
def b12e2 : Ex := .bi .tuple (.cons (.lc false [10] (.name 10) (.seq (.var 9)) b12c2 b12e1) .nil)
def b12f2 : Sts := (.cons (.asg (.name 8) (.lc false [9] (.name 9) (.seq (.tup (.cons (.var 4) (.cons (.var 5) .nil)))) b12c1 b12e2)) (.cons (.ife (.cmp .notin (.bin .sub false (.bi .len (.cons (.var 6) .nil)) (.bi .len (.cons (.call 1 (.cons (.idx (.var 8) (.int 0)) (.cons (.idx (.var 8) (.int 1)) .nil))) .nil))) (.tup (.cons (.int 0) (.cons (.int 1) .nil)))) (.cons (.ret (.bl false)) .nil) .nil) .nil))
def b12f3 : Sts := (.cons (.asg (.tup (.cons (.name 4) (.cons (.name 5) .nil))) (.call 11 (.cons (.var 1) (.cons (.int 9) .nil)))) (.cons (.par 6 7 (.call 1 (.cons (.var 4) (.cons (.var 5) .nil))) (.call 2 (.cons (.var 4) (.cons (.var 5) .nil)))) (.cons (.ife (.bor (.cons (.cmp .isnot (.call 4 (.cons (.var 4) (.cons (.var 5) (.cons (.var 6) .nil)))) (.bl true)) (.cons (.cmp .isnot (.call 5 (.cons (.var 4) (.cons (.var 5) (.cons (.var 7) .nil)))) (.bl true)) (.cons (.cmp .ne (.bi .len (.cons (.var 7) .nil)) (.bi .len (.cons (.var 6) .nil))) .nil)))) (.cons (.ret (.bl false)) .nil) .nil) (.cons (.for (.name 2) (.seq (.var 4)) b12f2) (.cons (.ife (.bor (.cons (.cmp .ne (.bi .len (.cons (.call 1 (.cons (.var 4) (.cons (.var 4) .nil))) .nil)) (.bi .len (.cons (.var 4) .nil))) (.cons (.cmp .ne (.bi .len (.cons (.call 1 (.cons (.var 4) (.cons (.rev (.var 4)) .nil))) .nil)) (.bi .int (.cons (.cmp .ne (.var 4) (.tup .nil)) .nil))) .nil))) (.cons (.ret (.bl false)) .nil) .nil) (.cons (.ife (.bor (.cons (.cmp .ne (.bi .len (.cons (.call 1 (.cons (.var 5) (.cons (.var 4) .nil))) .nil)) (.bi .len (.cons (.var 6) .nil))) (.cons (.cmp .ne (.bi .len (.cons (.call 1 (.cons (.rev (.var 5)) (.cons (.rev (.var 4)) .nil))) .nil)) (.bi .len (.cons (.var 6) .nil))) .nil))) (.cons (.ret (.bl false)) .nil) .nil) (.cons (.for (.name 3) (.seq (.var 6)) b12f1) .nil)))))))
def b12 : Sts := 
  (.cons (.for (.name 1) (.seq (.call 9 (.cons (.var 0) (.cons (.int 8) .nil)))) b12f3)
  (.cons (.ret (.bl true)) .nil))
def d12 : Def := ⟨1, 11, false, b12⟩
def n12 : List Str := ["script", "bag", "name", "stack", "down", "up", "told", "row", "fewer", "order", "one"]
abbrev t12 : Stmt := topS 15
def tab : List (Str × Def) := [("rises", d0), ("stacks", d1), ("shown", d2), ("are_sets", d3), ("are_stacks", d4), ("is_shown", d5), ("_law_cell_at", d6), ("_law_draws", d7), ("_law_bag", d8), ("_law_bags", d9), ("_law_take", d10), ("_law_orders", d11), ("law", d12)]
def mts : List (Str × Def) := []
def kls : List Kl := []
def bts : List Str := ["all", "enumerate", "int", "isinstance", "len", "max", "min", "range", "sorted", "str", "tuple", "zip"]
def glbs : Str → Option U := fun _ => none
abbrev PP : Par := tabC tab mts glbs bts kls
end LW
namespace LW
open Pv PySem PySem.Spec PyProof.Rows L2
theorem sc0 : FnScope n0 ["row"] (defScope t0) := ⟨rfl, rfl, rfl, by decide +kernel, rfl, by decide +kernel, by decide +kernel⟩
set_option maxHeartbeats 0 in
theorem ck0 : chkSs PP n0 (defScope t0) b0 (defBody t0) = true := by decide +kernel
theorem sc1 : FnScope n1 ["down", "up"] (defScope t1) := ⟨rfl, rfl, rfl, by decide +kernel, rfl, by decide +kernel, by decide +kernel⟩
set_option maxHeartbeats 0 in
theorem ck1 : chkSs PP n1 (defScope t1) b1 (defBody t1) = true := by decide +kernel
theorem sc2 : FnScope n2 ["down", "up"] (defScope t2) := ⟨rfl, rfl, rfl, by decide +kernel, rfl, by decide +kernel, by decide +kernel⟩
set_option maxHeartbeats 0 in
theorem ck2 : chkSs { PP with lam := some "shown.<locals>.<lambda>" } n2 (defScope t2) b2 (defBody t2) = true := by decide +kernel
theorem sc3 : FnScope n3 ["down", "thing"] (defScope t3) := ⟨rfl, rfl, rfl, by decide +kernel, rfl, by decide +kernel, by decide +kernel⟩
set_option maxHeartbeats 0 in
theorem ck3 : chkSs PP n3 (defScope t3) b3 (defBody t3) = true := by decide +kernel
theorem sc4 : FnScope n4 ["down", "up", "thing"] (defScope t4) := ⟨rfl, rfl, rfl, by decide +kernel, rfl, by decide +kernel, by decide +kernel⟩
set_option maxHeartbeats 0 in
theorem ck4 : chkSs PP n4 (defScope t4) b4 (defBody t4) = true := by decide +kernel
theorem sc5 : FnScope n5 ["down", "up", "thing"] (defScope t5) := ⟨rfl, rfl, rfl, by decide +kernel, rfl, by decide +kernel, by decide +kernel⟩
set_option maxHeartbeats 0 in
theorem ck5 : chkSs PP n5 (defScope t5) b5 (defBody t5) = true := by decide +kernel
theorem sc6 : FnScope n6 ["script", "k"] (defScope t6) := ⟨rfl, rfl, rfl, by decide +kernel, rfl, by decide +kernel, by decide +kernel⟩
set_option maxHeartbeats 0 in
theorem ck6 : chkSs PP n6 (defScope t6) b6 (defBody t6) = true := by decide +kernel
theorem sc7 : FnScope n7 ["cell", "many", "size"] (defScope t7) := ⟨rfl, rfl, rfl, by decide +kernel, rfl, by decide +kernel, by decide +kernel⟩
set_option maxHeartbeats 0 in
theorem ck7 : chkSs PP n7 (defScope t7) b7 (defBody t7) = true := by decide +kernel
theorem sc8 : FnScope n8 ["script", "k"] (defScope t8) := ⟨rfl, rfl, rfl, by decide +kernel, rfl, by decide +kernel, by decide +kernel⟩
set_option maxHeartbeats 0 in
theorem ck8 : chkSs PP n8 (defScope t8) b8 (defBody t8) = true := by decide +kernel
theorem sc9 : FnScope n9 ["script", "limit"] (defScope t9) := ⟨rfl, rfl, rfl, by decide +kernel, rfl, by decide +kernel, by decide +kernel⟩
set_option maxHeartbeats 0 in
theorem ck9 : chkSs PP n9 (defScope t9) b9 (defBody t9) = true := by decide +kernel
theorem sc10 : FnScope n10 ["bag", "many"] (defScope t10) := ⟨rfl, rfl, rfl, by decide +kernel, rfl, by decide +kernel, by decide +kernel⟩
set_option maxHeartbeats 0 in
theorem ck10 : chkSs PP n10 (defScope t10) b10 (defBody t10) = true := by decide +kernel
theorem sc11 : FnScope n11 ["bag", "most"] (defScope t11) := ⟨rfl, rfl, rfl, by decide +kernel, rfl, by decide +kernel, by decide +kernel⟩
set_option maxHeartbeats 0 in
theorem ck11 : chkSs PP n11 (defScope t11) b11 (defBody t11) = true := by decide +kernel
theorem sc12 : FnScope n12 ["script"] (defScope t12) := ⟨rfl, rfl, rfl, by decide +kernel, rfl, by decide +kernel, by decide +kernel⟩
set_option maxHeartbeats 0 in
theorem ck12 : chkSs PP n12 (defScope t12) b12 (defBody t12) = true := by decide +kernel
end LW
namespace LW
open Pv PySem PySem.Spec PyProof.Rows L2
set_option maxHeartbeats 0 in
theorem all_mk {l : PySem.W.OpenLaw} {w : World} {K : PySem.W.Frag} {h : Heap} {mg : Str → Option Value} {fa : Addr} (lvl : Nat) (X : K.In h) (G : h.Ns mainGlobals mg) (hfa : mg "law" = some (.ref fa))
    (hm : ∀ ns : List Int, ns.length ≤ 63 → ∃ s, callF PP.D glbs (lvl + 1) 12 [.scr ns] [.tab "shown.<locals>.<lambda>"] = .ok (.bl true) s)
    {cT pT : Addr} (ht : h.get? pT = some { cls := .none, data := .fields #[] }) (nP : K.lookup pT = none)
    {f0 : Addr} {oc0 kV0 dc0 pm0 cd0 ct0 : Value} {od0 an0 : Option Addr} {sl0 : Array (Option Value)}
    (a0 : PySem.W.nsIn K mainGlobals "rises" = some (some (.ref f0))) (l0 : K.lookup f0 = some ⟨oc0, od0, .func (PySem.W.fnOf "rises" "rises" (defArgs t0) (defBody t0) (defScope t0) .none kV0 dc0 pm0 an0 cd0 ct0), sl0⟩) (c0 : PySem.W.codeIn K cd0 "rises" = true) (k0 : PySem.W.keepIn K (.ref f0) = true)
    {f1 : Addr} {oc1 kV1 dc1 pm1 cd1 ct1 : Value} {od1 an1 : Option Addr} {sl1 : Array (Option Value)}
    (a1 : PySem.W.nsIn K mainGlobals "stacks" = some (some (.ref f1))) (l1 : K.lookup f1 = some ⟨oc1, od1, .func (PySem.W.fnOf "stacks" "stacks" (defArgs t1) (defBody t1) (defScope t1) .none kV1 dc1 pm1 an1 cd1 ct1), sl1⟩) (c1 : PySem.W.codeIn K cd1 "stacks" = true) (k1 : PySem.W.keepIn K (.ref f1) = true)
    {f2 : Addr} {oc2 kV2 dc2 pm2 cd2 ct2 : Value} {od2 an2 : Option Addr} {sl2 : Array (Option Value)}
    (a2 : PySem.W.nsIn K mainGlobals "shown" = some (some (.ref f2))) (l2 : K.lookup f2 = some ⟨oc2, od2, .func (PySem.W.fnOf "shown" "shown" (defArgs t2) (defBody t2) (defScope t2) .none kV2 dc2 pm2 an2 cd2 ct2), sl2⟩) (c2 : PySem.W.codeIn K cd2 "shown" = true) (k2 : PySem.W.keepIn K (.ref f2) = true)
    {f3 : Addr} {oc3 kV3 dc3 pm3 cd3 ct3 : Value} {od3 an3 : Option Addr} {sl3 : Array (Option Value)}
    (a3 : PySem.W.nsIn K mainGlobals "are_sets" = some (some (.ref f3))) (l3 : K.lookup f3 = some ⟨oc3, od3, .func (PySem.W.fnOf "are_sets" "are_sets" (defArgs t3) (defBody t3) (defScope t3) .none kV3 dc3 pm3 an3 cd3 ct3), sl3⟩) (c3 : PySem.W.codeIn K cd3 "are_sets" = true) (k3 : PySem.W.keepIn K (.ref f3) = true)
    {f4 : Addr} {oc4 kV4 dc4 pm4 cd4 ct4 : Value} {od4 an4 : Option Addr} {sl4 : Array (Option Value)}
    (a4 : PySem.W.nsIn K mainGlobals "are_stacks" = some (some (.ref f4))) (l4 : K.lookup f4 = some ⟨oc4, od4, .func (PySem.W.fnOf "are_stacks" "are_stacks" (defArgs t4) (defBody t4) (defScope t4) .none kV4 dc4 pm4 an4 cd4 ct4), sl4⟩) (c4 : PySem.W.codeIn K cd4 "are_stacks" = true) (k4 : PySem.W.keepIn K (.ref f4) = true)
    {f5 : Addr} {oc5 kV5 dc5 pm5 cd5 ct5 : Value} {od5 an5 : Option Addr} {sl5 : Array (Option Value)}
    (a5 : PySem.W.nsIn K mainGlobals "is_shown" = some (some (.ref f5))) (l5 : K.lookup f5 = some ⟨oc5, od5, .func (PySem.W.fnOf "is_shown" "is_shown" (defArgs t5) (defBody t5) (defScope t5) .none kV5 dc5 pm5 an5 cd5 ct5), sl5⟩) (c5 : PySem.W.codeIn K cd5 "is_shown" = true) (k5 : PySem.W.keepIn K (.ref f5) = true)
    {f6 : Addr} {oc6 kV6 dc6 pm6 cd6 ct6 : Value} {od6 an6 : Option Addr} {sl6 : Array (Option Value)}
    (a6 : PySem.W.nsIn K mainGlobals "_law_cell_at" = some (some (.ref f6))) (l6 : K.lookup f6 = some ⟨oc6, od6, .func (PySem.W.fnOf "_law_cell_at" "_law_cell_at" (defArgs t6) (defBody t6) (defScope t6) .none kV6 dc6 pm6 an6 cd6 ct6), sl6⟩) (c6 : PySem.W.codeIn K cd6 "_law_cell_at" = true) (k6 : PySem.W.keepIn K (.ref f6) = true)
    {f7 : Addr} {oc7 kV7 dc7 pm7 cd7 ct7 : Value} {od7 an7 : Option Addr} {sl7 : Array (Option Value)}
    (a7 : PySem.W.nsIn K mainGlobals "_law_draws" = some (some (.ref f7))) (l7 : K.lookup f7 = some ⟨oc7, od7, .func (PySem.W.fnOf "_law_draws" "_law_draws" (defArgs t7) (defBody t7) (defScope t7) .none kV7 dc7 pm7 an7 cd7 ct7), sl7⟩) (c7 : PySem.W.codeIn K cd7 "_law_draws" = true) (k7 : PySem.W.keepIn K (.ref f7) = true)
    {f8 : Addr} {oc8 kV8 dc8 pm8 cd8 ct8 : Value} {od8 an8 : Option Addr} {sl8 : Array (Option Value)}
    (a8 : PySem.W.nsIn K mainGlobals "_law_bag" = some (some (.ref f8))) (l8 : K.lookup f8 = some ⟨oc8, od8, .func (PySem.W.fnOf "_law_bag" "_law_bag" (defArgs t8) (defBody t8) (defScope t8) .none kV8 dc8 pm8 an8 cd8 ct8), sl8⟩) (c8 : PySem.W.codeIn K cd8 "_law_bag" = true) (k8 : PySem.W.keepIn K (.ref f8) = true)
    {f9 : Addr} {oc9 kV9 dc9 pm9 cd9 ct9 : Value} {od9 an9 : Option Addr} {sl9 : Array (Option Value)}
    (a9 : PySem.W.nsIn K mainGlobals "_law_bags" = some (some (.ref f9))) (l9 : K.lookup f9 = some ⟨oc9, od9, .func (PySem.W.fnOf "_law_bags" "_law_bags" (defArgs t9) (defBody t9) (defScope t9) .none kV9 dc9 pm9 an9 cd9 ct9), sl9⟩) (c9 : PySem.W.codeIn K cd9 "_law_bags" = true) (k9 : PySem.W.keepIn K (.ref f9) = true)
    {f10 : Addr} {oc10 kV10 dc10 pm10 cd10 ct10 : Value} {od10 an10 : Option Addr} {sl10 : Array (Option Value)}
    (a10 : PySem.W.nsIn K mainGlobals "_law_take" = some (some (.ref f10))) (l10 : K.lookup f10 = some ⟨oc10, od10, .func (PySem.W.fnOf "_law_take" "_law_take" (defArgs t10) (defBody t10) (defScope t10) .none kV10 dc10 pm10 an10 cd10 ct10), sl10⟩) (c10 : PySem.W.codeIn K cd10 "_law_take" = true) (k10 : PySem.W.keepIn K (.ref f10) = true)
    {f11 : Addr} {oc11 kV11 dc11 pm11 cd11 ct11 : Value} {od11 an11 : Option Addr} {sl11 : Array (Option Value)}
    (a11 : PySem.W.nsIn K mainGlobals "_law_orders" = some (some (.ref f11))) (l11 : K.lookup f11 = some ⟨oc11, od11, .func (PySem.W.fnOf "_law_orders" "_law_orders" (defArgs t11) (defBody t11) (defScope t11) .none kV11 dc11 pm11 an11 cd11 ct11), sl11⟩) (c11 : PySem.W.codeIn K cd11 "_law_orders" = true) (k11 : PySem.W.keepIn K (.ref f11) = true)
    {f12 : Addr} {oc12 kV12 dc12 pm12 cd12 ct12 : Value} {od12 an12 : Option Addr} {sl12 : Array (Option Value)}
    (a12 : PySem.W.nsIn K mainGlobals "law" = some (some (.ref f12))) (l12 : K.lookup f12 = some ⟨oc12, od12, .func (PySem.W.fnOf "law" "law" (defArgs t12) (defBody t12) (defScope t12) .none kV12 dc12 pm12 an12 cd12 ct12), sl12⟩) (c12 : PySem.W.codeIn K cd12 "law" = true) (k12 : PySem.W.keepIn K (.ref f12) = true)
    (z0 : PySem.W.nsIn K mainGlobals "all" = some none)
    (z1 : PySem.W.nsIn K mainGlobals "enumerate" = some none)
    (z2 : PySem.W.nsIn K mainGlobals "int" = some none)
    (z3 : PySem.W.nsIn K mainGlobals "isinstance" = some none)
    (z4 : PySem.W.nsIn K mainGlobals "len" = some none)
    (z5 : PySem.W.nsIn K mainGlobals "max" = some none)
    (z6 : PySem.W.nsIn K mainGlobals "min" = some none)
    (z7 : PySem.W.nsIn K mainGlobals "range" = some none)
    (z8 : PySem.W.nsIn K mainGlobals "sorted" = some none)
    (z9 : PySem.W.nsIn K mainGlobals "str" = some none)
    (z10 : PySem.W.nsIn K mainGlobals "tuple" = some none)
    (z11 : PySem.W.nsIn K mainGlobals "zip" = some none)
    (ce : cd2 = .ref cT) (ch : PySem.W.codeHdIn K cT pT = true) :
    LamX.LawAtS l w K (L2.CX l.prog w) (lvl + 1) 63 "script" mg fa h := by
  have e := hfa.symm.trans (PySem.W.mg_of X G a12)
  cases e
  have D0 := def_ok (P := PP) (LT := (fun v => v = Value.ref cT)) (d := d0) (ps := ["row"]) X G a0 l0 c0 k0 (fun _ _ _ _ _ _ us hl => match us, hl with | [_], _ => rfl) rfl rfl sc0 ck0
  have D1 := def_ok (P := PP) (LT := (fun v => v = Value.ref cT)) (d := d1) (ps := ["down", "up"]) X G a1 l1 c1 k1 (fun _ _ _ _ _ _ us hl => match us, hl with | [_, _], _ => rfl) rfl rfl sc1 ck1
  have D2 := def_okL (P := PP) (LT := (fun v => v = Value.ref cT)) (d := d2) (ps := ["down", "up"]) X G a2 l2 c2 k2 (fun _ _ _ _ _ _ us hl => match us, hl with | [_, _], _ => rfl) rfl rfl sc2 ck2 ce
  have D3 := def_ok (P := PP) (LT := (fun v => v = Value.ref cT)) (d := d3) (ps := ["down", "thing"]) X G a3 l3 c3 k3 (fun _ _ _ _ _ _ us hl => match us, hl with | [_, _], _ => rfl) rfl rfl sc3 ck3
  have D4 := def_ok (P := PP) (LT := (fun v => v = Value.ref cT)) (d := d4) (ps := ["down", "up", "thing"]) X G a4 l4 c4 k4 (fun _ _ _ _ _ _ us hl => match us, hl with | [_, _, _], _ => rfl) rfl rfl sc4 ck4
  have D5 := def_ok (P := PP) (LT := (fun v => v = Value.ref cT)) (d := d5) (ps := ["down", "up", "thing"]) X G a5 l5 c5 k5 (fun _ _ _ _ _ _ us hl => match us, hl with | [_, _, _], _ => rfl) rfl rfl sc5 ck5
  have D6 := def_ok (P := PP) (LT := (fun v => v = Value.ref cT)) (d := d6) (ps := ["script", "k"]) X G a6 l6 c6 k6 (fun _ _ _ _ _ _ us hl => match us, hl with | [_, _], _ => rfl) rfl rfl sc6 ck6
  have D7 := def_ok (P := PP) (LT := (fun v => v = Value.ref cT)) (d := d7) (ps := ["cell", "many", "size"]) X G a7 l7 c7 k7 (fun _ _ _ _ _ _ us hl => match us, hl with | [_, _, _], _ => rfl) rfl rfl sc7 ck7
  have D8 := def_ok (P := PP) (LT := (fun v => v = Value.ref cT)) (d := d8) (ps := ["script", "k"]) X G a8 l8 c8 k8 (fun _ _ _ _ _ _ us hl => match us, hl with | [_, _], _ => rfl) rfl rfl sc8 ck8
  have D9 := def_ok (P := PP) (LT := (fun v => v = Value.ref cT)) (d := d9) (ps := ["script", "limit"]) X G a9 l9 c9 k9 (fun _ _ _ _ _ _ us hl => match us, hl with | [_, _], _ => rfl) rfl rfl sc9 ck9
  have D10 := def_ok (P := PP) (LT := (fun v => v = Value.ref cT)) (d := d10) (ps := ["bag", "many"]) X G a10 l10 c10 k10 (fun _ _ _ _ _ _ us hl => match us, hl with | [_, _], _ => rfl) rfl rfl sc10 ck10
  have D11 := def_ok (P := PP) (LT := (fun v => v = Value.ref cT)) (d := d11) (ps := ["bag", "most"]) X G a11 l11 c11 k11 (fun _ _ _ _ _ _ us hl => match us, hl with | [_, _], _ => rfl) rfl rfl sc11 ck11
  have D12 := def_ok (P := PP) (LT := (fun v => v = Value.ref cT)) (d := d12) (ps := ["script"]) X G a12 l12 c12 k12 (fun _ _ _ _ _ _ us hl => match us, hl with | [_], _ => rfl) rfl rfl sc12 ck12
  have tc := And.intro (PySem.W.codeHd_of_K X ch) ht
  have one : ∀ p ∈ [(cT, pT)], p = (cT, pT) := fun p hp => List.mem_singleton.mp hp
  exact ⟨_, [(cT, pT)], spEv K (fun i => if i = 1000 then pT else 0) 1 (callF PP.D glbs (lvl + 1) 12), fun p hp => by rw [one p hp]; exact tc.2, fun p hp => by rw [one p hp]; exact nP, fun p hp => by rw [one p hp]; exact tc.1, fun s v => .of_eq rfl,
    fun H a ns hl _ hH hS => law_spL rfl hl (by decide) (hH _ (List.mem_singleton.mpr rfl)) hS (hm ns hl), fun base _ _ hTB => law_FL (d := d12) (C := (fun i => if i = 1000 then pT else 0)) X G hfa (.cons D0 (.cons D1 (.cons D2 (.cons D3 (.cons D4 (.cons D5 (.cons D6 (.cons D7 (.cons D8 (.cons D9 (.cons D10 (.cons D11 (.cons D12 TabOk.nil))))))))))))) D12 rfl (.cons z0 (.cons z1 (.cons z2 (.cons z3 (.cons z4 (.cons z5 (.cons z6 (.cons z7 (.cons z8 (.cons z9 (.cons z10 (.cons z11 nones.nil)))))))))))) (fun _ _ h => by cases h) KlsOk.nil base fun v hv => ⟨cT, hv, hTB _ (List.mem_singleton.mpr rfl)⟩⟩
end LW
set_option autoImplicit false
set_option Elab.async false
set_option linter.all false
set_option maxRecDepth 100000
namespace LW
open Pv
abbrev Str := PySem.Str
abbrev DD : Nat → Option Def := fun i => ((tab ++ mts)[i]?).map (·.2)
theorem line_ge {n : Nat} (h : n ≤ 1000) : n < line := by
  have : line = 16777216 := rfl
  omega
/-! ### data -/
theorem deps_map0 {α : Type} {f : α → U} {n : Nat} : ∀ {xs : List α}, (∀ x ∈ xs, dep (f x) ≤ n) → deps (xs.map f) ≤ n
  | [], _ => Nat.zero_le _
  | x :: xs, h => by
    simp only [List.map_cons, deps]
    exact Nat.max_le.mpr ⟨h x (List.mem_cons_self ..), deps_map0 fun y hy => h y (List.mem_cons_of_mem _ hy)⟩
theorem plains_map {α : Type} {f : α → U} : ∀ {xs : List α}, (∀ x ∈ xs, plain (f x) = true) → plains (xs.map f) = true
  | [], _ => rfl
  | x :: xs, h => by
    simp only [List.map_cons, plains, Bool.and_eq_true]
    exact ⟨h x (List.mem_cons_self ..), plains_map fun y hy => h y (List.mem_cons_of_mem _ hy)⟩
theorem dats_map {α : Type} {f : α → U} {xs : List α} (h : ∀ x ∈ xs, plain (f x) = true ∧ dep (f x) ≤ 61) : dats (xs.map f) = true := by
  unfold dats
  rw [plains_map fun x hx => (h x hx).1, Bool.true_and]
  exact decide_eq_true (deps_map0 fun x hx => (h x hx).2)
theorem dats_mem {xs : List U} (h : ∀ x ∈ xs, plain x = true ∧ dep x ≤ 61) : dats xs = true := by
  have := dats_map (f := id) (xs := xs) h
  rwa [List.map_id] at this
theorem dat_lst {xs : List U} (h : dats xs = true) : dat (.lst xs) = true := by
  unfold dats at h
  unfold dat
  simp only [Bool.and_eq_true, decide_eq_true_eq] at h ⊢
  exact ⟨by simpa only [plain] using h.1, by simp only [dep]; omega⟩
theorem dat_tup {xs : List U} (h : dats xs = true) : dat (.tup xs) = true := by
  unfold dats at h
  unfold dat
  simp only [Bool.and_eq_true, decide_eq_true_eq] at h ⊢
  exact ⟨by simpa only [plain] using h.1, by simp only [dep]; omega⟩
mutual
theorem eqU_refl : ∀ u : U, plain u = true → eqU u u = true
  | .non, _ => by simp [eqU]
  | .bl b, _ => by simp [eqU]
  | .int i, _ => by simp [eqU]
  | .str x, _ => by simp [eqU]
  | .tup xs, h => by simp only [eqU]; exact eqUs_refl xs (by simpa only [plain] using h)
  | .lst xs, h => by simp only [eqU]; exact eqUs_refl xs (by simpa only [plain] using h)
  | .dK _ _, h => by simp [plain] at h
  | .dT _ _, h => by simp [plain] at h
  | .scr _, h => by simp [plain] at h
  | .ktp _, h => by simp [plain] at h
  | .obj _, h => by simp [plain] at h
theorem eqUs_refl : ∀ us : List U, plains us = true → eqUs us us = true
  | [], _ => by simp [eqUs]
  | u :: us, h => by
    simp only [plains, Bool.and_eq_true] at h
    simp only [eqUs, Bool.and_eq_true]
    exact ⟨eqU_refl u h.1, eqUs_refl us h.2⟩
end
theorem eqUs_nil {xs : List U} : eqUs xs [] = decide (xs = []) := by cases xs <;> rfl
theorem dat_plain {u : U} (h : dat u = true) : plain u = true := by
  unfold dat at h
  simp only [Bool.and_eq_true] at h
  exact h.1
theorem c_ne_dat {s : MS} {u v : U} (hu : dat u = true) (hv : dat v = true) (du : der s u = some u) (dv : der s v = some v) : cmpU .ne u v s = some (!eqU u v) := by
  simp only [cmpU, du, dv, hu, hv, Bool.and_self, if_true]
theorem c_neO {s : MS} {n : Nat} {xs ys : List U} (h : s[n]? = some (.lst xs)) (hx : dat (.lst xs) = true) (hy : dat (.lst ys) = true) : cmpU .ne (.obj n) (.lst ys) s = some (!eqUs xs ys) := by
  simp only [cmpU, der, lstOf, h, Option.map_some, hx, hy, Bool.and_self, if_true, eqU]
theorem at_in {xs : List Int} {v : Int} (h0 : 0 ≤ v) (h1 : v < xs.length) : ∃ w ∈ xs, atI (xs.map U.int) v = some (.int w) := by
  have hv : v.toNat < xs.length := by omega
  refine ⟨xs[v.toNat], List.getElem_mem hv, atI_nn h0 ?_⟩
  rw [List.getElem?_map, List.getElem?_eq_getElem hv]
  rfl
/-! ### the draws on a store with new things -/
theorem Bg.split {b : Nat} {t r s' : MS} (h : Bg b (t ++ r) s') (hb : b < t.length) : ∃ t', s' = t' ++ r ∧ Bg b t t' := by
  have hl := h.len
  rw [List.length_append] at hl
  refine ⟨s'.take t.length, ?_, ?_⟩
  · have : s'.drop t.length = r := by
      refine List.ext_getElem? fun i => ?_
      rw [List.getElem?_drop, h.oth _ (by omega), List.getElem?_append_right (by omega)]
      congr 1
      omega
    conv => lhs; rw [← List.take_append_drop t.length s', this]
  · obtain ⟨ds, c, e, q⟩ := h.bag
    refine ⟨⟨ds, c, by rw [List.getElem?_take, if_pos hb]; exact e, q⟩, by simp; omega, fun n hn => ?_⟩
    rw [List.getElem?_take]
    by_cases q : n < t.length
    · rw [if_pos q, h.oth n hn, List.getElem?_append_left q]
    · rw [if_neg q, List.getElem?_eq_none (by omega)]
theorem bag_app {b : Nat} {t r : MS} (h : IsBag t b) : IsBag (t ++ r) b := by
  have hb := h.lt
  obtain ⟨ds, c, e, q⟩ := h
  exact ⟨ds, c, by rw [List.getElem?_append_left hb]; exact e, q⟩
theorem bg_held {b : Nat} {s s' : MS} (h : Bg b s s') : heldO s.length s s' = true := heldO_of fun n o p h1 h2 => by
  by_cases e : n = b
  · subst e
    obtain ⟨ds, c, e1, _⟩ := h.bag
    rw [e1] at h2
    cases h2
    exact .inr (by simp only [bagO, clsO, clss, cls, clss_int, Bool.and_self])
  · rw [h.oth n e, h1] at h2
    exact .inl (Option.some.inj h2)
/-- only the bag at b has moved; new things lie behind -/
def Gw (b : Nat) (s s' : MS) : Prop := ∃ t r, s' = t ++ r ∧ Bg b s t
theorem Gw.of {b : Nat} {s s' : MS} (h : Bg b s s') : Gw b s s' := ⟨s', [], by simp, h⟩
theorem Gw.app {b : Nat} {s : MS} (h : IsBag s b) (r : MS) : Gw b s (s ++ r) := ⟨s, r, rfl, Bg.refl h⟩
theorem Gw.all {b : Nat} {s s' : MS} (h : Gw b s s') {i : Nat} (x : IsBag s i) : IsBag s' i := by
  obtain ⟨t, r, rfl, g⟩ := h
  exact bag_app (g.all x)
theorem Gw.bag {b : Nat} {s s' : MS} (h : Gw b s s') : IsBag s' b := by
  obtain ⟨t, r, rfl, g⟩ := h
  exact bag_app g.bag
theorem Gw.trans {b : Nat} {s s1 s2 : MS} (x : Gw b s s1) (y : Gw b s1 s2) : Gw b s s2 := by
  obtain ⟨t, r, rfl, g⟩ := x
  obtain ⟨t2, r2, rfl, g2⟩ := y
  obtain ⟨t', rfl, g3⟩ := Bg.split g2 g.bag.lt
  exact ⟨t', r ++ r2, by simp, g.trans g3⟩
section
variable {G : Str → Option U} {k : Nat}
theorem tk {t r : MS} {b : Nat} (h : IsBag t b) {many : Int} (hm : 0 < many) : ∃ v t', callF DD G (k + 1) 10 [.obj b, .int many] (t ++ r) = .ok (.int v) (t' ++ r) ∧ 0 ≤ v ∧ v < many ∧ Bg b t t' := by
  obtain ⟨v, s', e, h1, h2, h3⟩ := take_spec (D := DD) (G := G) (k := k) (it := 10) rfl (bag_app (r := r) h) hm
  obtain ⟨t', rfl, h4⟩ := Bg.split h3 h.lt
  exact ⟨v, t', e, h1, h2, h4⟩
theorem tk0 {t : MS} {b : Nat} (h : IsBag t b) {many : Int} (hm : 0 < many) : ∃ v t', callF DD G (k + 1) 10 [.obj b, .int many] t = .ok (.int v) t' ∧ 0 ≤ v ∧ v < many ∧ Bg b t t' := take_spec (D := DD) (G := G) (k := k) (it := 10) rfl h hm
/-- a loop over bags: whatever the body does to the bag at hand -/
theorem law_bags {f nn lim : Nat} {body : Sts} {ns : List Int} (hlim : 1 ≤ lim ∧ lim ≤ 1000) (hd : DD f = some ⟨1, nn + 2, false, .cons (.for (.name 1) (.seq (.call 9 (.cons (.var 0) (.cons (.int (lim : Int)) .nil)))) body) (.cons (.ret (.bl true)) .nil)⟩)
    (hbody : ∀ (b : Nat) (s : MS) (us : SU), IsBag s b → us.length = nn → ∃ us' s', us'.length = nn ∧ evSs ⟨callF DD G (k + 3), callF DD G (k + 3 - 1), G⟩ body (some (.scr ns) :: some (.obj b) :: us) s = .nx (some (.scr ns) :: some (.obj b) :: us') s' ∧ Gw b s s') :
    callF DD G (k + 4) f [.scr ns] [] = .ok (.bl true) [] := by
  obtain ⟨m, s1, e1, e2, e3, _⟩ := bags_spec (D := DD) (G := G) (k := k) (s := []) (id := 7) (ic := 6) (ib := 8) (ibs := 9) rfl rfl rfl rfl (ns := ns) (limit := lim) hlim.1 hlim.2
  simp only [List.length_nil, Nat.zero_add] at e1 e2 e3
  obtain ⟨su', s', q1, z1, us, rfl, _, _⟩ := forL_inv (tg := .name 1) (body := evSs ⟨callF DD G (k + 3), callF DD G (k + 3 - 1), G⟩ body) (r := ⟨(List.range m).map fun i => .obj i, []⟩) ((List.range m).map fun i => .obj i)
    (fun p su s' => ∃ z1 us, su = some (.scr ns) :: z1 :: us ∧ us.length = nn ∧ ∀ i, i < m → IsBag s' i) (fun _ _ _ _ => rfl)
    (fun p x su s' hx ⟨z1, us, e4, e6, e5⟩ => by
      subst e4
      rw [List.getElem?_map] at hx
      obtain ⟨b, hb, rfl⟩ := Option.map_eq_some_iff.mp hx
      have hbm : b < m := by
        have h1 := (List.getElem?_eq_some_iff.mp hb).1
        rw [List.length_range] at h1
        rw [List.getElem?_range h1] at hb
        cases hb
        exact h1
      obtain ⟨us', s2, hl, q, g⟩ := hbody b s' us (e5 b hbm) e6
      exact ⟨_, rfl, _, _, .inl q, _, _, rfl, hl, fun i hi => g.all (e5 i hi)⟩)
    (some (.scr ns) :: none :: List.replicate nn none) s1 ⟨_, _, rfl, by simp, e3⟩
  have r : evSs ⟨callF DD G (k + 3), callF DD G (k + 3 - 1), G⟩ (.cons (.for (.name 1) (.seq (.call 9 (.cons (.var 0) (.cons (.int (lim : Int)) .nil)))) body) (.cons (.ret (.bl true)) .nil)) (Pv.start (nn + 2) [.scr ns]) [] = .rt (.bl true) ([] ++ s') := by
    have hst : Pv.start (nn + 2) [.scr ns] = some (.scr ns) :: none :: List.replicate nn none := by
      simp [Pv.start, List.replicate_succ]
    rw [hst]
    generalize List.replicate nn (none : Option U) = rr at *
    simp -implicitDefEqProofs only [evE, evEs, evO, evT, evAll, evAny, evAnd, evOr, evI, evS, evSs, Rv.bind_ok, Rv.bind_no, Rv.bind_ex, Rv.of_some, Rv.of_none, Rv.fl_ok, Fl.then_nx, Fl.then_rt, Fl.then_bk, Fl.then_ct, varU, List.getElem?_cons_zero, List.getElem?_cons_succ, Option.map_some, Option.bind_some, negU, notU, partU, andK, orK, chnK, chnB, tru, asgK, bindT, bindTs, List.set_cons_zero, List.set_cons_succ, if_true, if_false, Bool.false_eq_true, o_add, o_sub, c_lt, c_gt, c_le, c_ge, c_eq, c_ne, ix_T, ix_L, at0, at1, at2, at3, at4, len_T, len_L, max2_, min2_, tup_L, tup_T, int_b, int_i, src_T, src_L, start, List.map_cons, List.map_nil, List.replicate, List.cons_append, List.nil_append, List.length_cons, List.length_nil, Nat.sub_self, Nat.reduceAdd, Nat.reduceSub, wipe, e1, q1]
  rw [call_rt hd rfl r]
  exact fin_val rfl held_self rfl rfl rfl
/-- the same, the slots within what I says -/
theorem law_bagsI {f nn lim : Nat} {body : Sts} {ns : List Int} (I : SU → Prop) (hlim : 1 ≤ lim ∧ lim ≤ 1000) (hd : DD f = some ⟨1, nn + 2, false, .cons (.for (.name 1) (.seq (.call 9 (.cons (.var 0) (.cons (.int (lim : Int)) .nil)))) body) (.cons (.ret (.bl true)) .nil)⟩)
    (h0 : I (List.replicate nn none))
    (hbody : ∀ (b : Nat) (s : MS) (us : SU), IsBag s b → I us → ∃ us' s', I us' ∧ evSs ⟨callF DD G (k + 3), callF DD G (k + 3 - 1), G⟩ body (some (.scr ns) :: some (.obj b) :: us) s = .nx (some (.scr ns) :: some (.obj b) :: us') s' ∧ Gw b s s') :
    callF DD G (k + 4) f [.scr ns] [] = .ok (.bl true) [] := by
  obtain ⟨m, s1, e1, e2, e3, _⟩ := bags_spec (D := DD) (G := G) (k := k) (s := []) (id := 7) (ic := 6) (ib := 8) (ibs := 9) rfl rfl rfl rfl (ns := ns) (limit := lim) hlim.1 hlim.2
  simp only [List.length_nil, Nat.zero_add] at e1 e2 e3
  obtain ⟨su', s', q1, z1, us, rfl, _, _⟩ := forL_inv (tg := .name 1) (body := evSs ⟨callF DD G (k + 3), callF DD G (k + 3 - 1), G⟩ body) (r := ⟨(List.range m).map fun i => .obj i, []⟩) ((List.range m).map fun i => .obj i)
    (fun p su s' => ∃ z1 us, su = some (.scr ns) :: z1 :: us ∧ I us ∧ ∀ i, i < m → IsBag s' i) (fun _ _ _ _ => rfl)
    (fun p x su s' hx ⟨z1, us, e4, e6, e5⟩ => by
      subst e4
      rw [List.getElem?_map] at hx
      obtain ⟨b, hb, rfl⟩ := Option.map_eq_some_iff.mp hx
      have hbm : b < m := by
        have h1 := (List.getElem?_eq_some_iff.mp hb).1
        rw [List.length_range] at h1
        rw [List.getElem?_range h1] at hb
        cases hb
        exact h1
      obtain ⟨us', s2, hl, q, g⟩ := hbody b s' us (e5 b hbm) e6
      exact ⟨_, rfl, _, _, .inl q, _, _, rfl, hl, fun i hi => g.all (e5 i hi)⟩)
    (some (.scr ns) :: none :: List.replicate nn none) s1 ⟨_, _, rfl, h0, e3⟩
  have r : evSs ⟨callF DD G (k + 3), callF DD G (k + 3 - 1), G⟩ (.cons (.for (.name 1) (.seq (.call 9 (.cons (.var 0) (.cons (.int (lim : Int)) .nil)))) body) (.cons (.ret (.bl true)) .nil)) (Pv.start (nn + 2) [.scr ns]) [] = .rt (.bl true) ([] ++ s') := by
    have hst : Pv.start (nn + 2) [.scr ns] = some (.scr ns) :: none :: List.replicate nn none := by
      simp [Pv.start, List.replicate_succ]
    rw [hst]
    generalize List.replicate nn (none : Option U) = rr at *
    simp -implicitDefEqProofs only [evE, evEs, evO, evT, evAll, evAny, evAnd, evOr, evI, evS, evSs, Rv.bind_ok, Rv.bind_no, Rv.bind_ex, Rv.of_some, Rv.of_none, Rv.fl_ok, Fl.then_nx, Fl.then_rt, Fl.then_bk, Fl.then_ct, varU, List.getElem?_cons_zero, List.getElem?_cons_succ, Option.map_some, Option.bind_some, negU, notU, partU, andK, orK, chnK, chnB, tru, asgK, bindT, bindTs, List.set_cons_zero, List.set_cons_succ, if_true, if_false, Bool.false_eq_true, o_add, o_sub, c_lt, c_gt, c_le, c_ge, c_eq, c_ne, ix_T, ix_L, at0, at1, at2, at3, at4, len_T, len_L, max2_, min2_, tup_L, tup_T, int_b, int_i, src_T, src_L, start, List.map_cons, List.map_nil, List.replicate, List.cons_append, List.nil_append, List.length_cons, List.length_nil, Nat.sub_self, Nat.reduceAdd, Nat.reduceSub, wipe, e1, q1]
  rw [call_rt hd rfl r]
  exact fin_val rfl held_self rfl rfl rfl
end
abbrev most : Nat := 63
end LW
set_option autoImplicit false
set_option Elab.async false
set_option linter.all false
set_option maxRecDepth 100000
namespace LW
open Pv
theorem slc_T {s : MS} {xs : List U} {lo hi : Option Int} : slcU (.tup xs) lo hi s = some (.tup (cut xs lo hi)) := rfl
theorem rev_T {s : MS} {xs : List U} : revU (.tup xs) s = some (.tup xs.reverse) := rfl
theorem list_T {s : MS} {xs : List U} : biU (.list false) [.tup xs] s = .ok (.lst xs) s := rfl
theorem repr_bl {s : MS} {b : Bool} : biU .repr [.bl b] s = .ok (.str (truStr b)) s := rfl
theorem c_ne_repr {s : MS} {b : Bool} : cmpU .ne (.str (truStr b)) (.str (truStr b)) s = some false := by
  have h : ∀ b, dat (.str (truStr b)) = true := by decide +kernel
  rw [c_ne_dat (h b) (h b) rfl rfl, eqU_refl _ (dat_plain (h b))]
  rfl
theorem o_rep {m : Bool} {s : MS} {xs : List U} {j : Int} (h : 0 ≤ j ∧ j ≤ 1000 ∧ xs.length ≤ 1000 ∧ xs ≠ []) : binU .mul m (.tup xs) (.int j) s = .ok (.tup (List.replicate j.toNat xs).flatten) s := by
  simp only [binU]
  rw [if_pos h]
theorem mem_rep {α : Type} {n : Nat} {xs : List α} {x : α} (h : x ∈ (List.replicate n xs).flatten) : x ∈ xs := by
  obtain ⟨l, hl, hx⟩ := List.mem_flatten.mp h
  rw [List.mem_replicate] at hl
  rw [← hl.2]; exact hx
theorem len_rep {α : Type} {n : Nat} {xs : List α} : (List.replicate n xs).flatten.length = n * xs.length := by simp
end LW
set_option autoImplicit false
set_option Elab.async false
set_option linter.all false
set_option maxRecDepth 100000
namespace LW
open Pv
/-! ### rows of names with marks, plays; their order -/
def ltT (a b : Str) : Bool := decide (a.cps.toList < b.cps.toList)
theorem str_ext {x y : Str} (h : x.cps.toList = y.cps.toList) : x = y := by
  cases x; cases y
  simp only at h
  congr
  exact Array.toList_inj.mp h
theorem ltT_trans {a b c : Str} (h1 : ltT a b = true) (h2 : ltT b c = true) : ltT a c = true := by
  unfold ltT at *
  simp only [decide_eq_true_eq] at *
  exact List.lt_trans h1 h2
theorem ltT_irr (a : Str) : ltT a a = false := by
  unfold ltT
  exact decide_eq_false (List.lt_irrefl _)
theorem ltT_tri (x y : Str) (h1 : ltT x y = false) (h2 : ltT y x = false) : x = y := by
  unfold ltT at h1 h2
  simp only [decide_eq_false_iff_not] at h1 h2
  exact str_ext (List.le_antisymm h2 h1)
theorem ltT_ne {x y : Str} (h : ltT x y = true) : x ≠ y := fun e => by
  subst e
  rw [ltT_irr] at h
  cases h
theorem ltT_asymm {x y : Str} (h : ltT x y = true) : ltT y x = false := by
  cases q : ltT y x with
  | false => rfl
  | true =>
    have := ltT_trans h q
    rw [ltT_irr] at this
    cases this
theorem leU_str (x y : Str) : leU (.str x) (.str y) = !ltT y x := by
  unfold leU ltD ltT
  simp only [toks, ltTok, itLt]
  cases decide (y.cps.toList < x.cps.toList) <;> simp
/-- sorted texts -/
theorem sortU_strs (xs : List Str) (nd : xs.Nodup) : ∃ ys : List Str, sortU (xs.map .str) = ys.map .str ∧ ys.Perm xs ∧ ys.Pairwise (fun a b => ltT a b = true) := by
  refine ⟨xs.mergeSort fun a b => leU (.str a) (.str b), ?_, List.mergeSort_perm _ _, ?_⟩
  · unfold sortU
    exact (List.map_mergeSort (f := U.str) (r := fun a b => leU (.str a) (.str b)) (s := leU) fun a _ b _ => rfl).symm
  · have sp : (xs.mergeSort fun a b => leU (.str a) (.str b)).Pairwise fun a b => leU (.str a) (.str b) = true := List.pairwise_mergeSort (fun a b c h1 h2 => by
      rw [leU_str, Bool.not_eq_true'] at *
      cases h3 : ltT c a with
      | false => rfl
      | true =>
        cases h4 : ltT a b with
        | true =>
          have := ltT_trans h3 h4
          rw [h2] at this; cases this
        | false =>
          have e := ltT_tri a b h4 h1
          subst e
          rw [h2] at h3; cases h3) (fun a b => by
      rw [leU_str, leU_str]
      cases h1 : ltT b a with
      | false => rfl
      | true => rw [ltT_asymm h1]; rfl) xs
    have zn : (xs.mergeSort fun a b => leU (.str a) (.str b)).Nodup := (List.mergeSort_perm _ _).nodup_iff.mpr nd
    refine (sp.and zn).imp fun {a b} hab => ?_
    obtain ⟨h1, h2⟩ := hab
    rw [leU_str, Bool.not_eq_true'] at h1
    cases h3 : ltT a b with
    | true => rfl
    | false => exact absurd (ltT_tri a b h3 h1) h2
abbrev Row := Str × List Str
def encM (ms : List Str) : U := .tup (ms.map .str)
def encRw (r : Row) : U := .tup [.str r.1, encM r.2]
def Sh (x : Str) : Prop := strOk x = true ∧ x.length ≤ 1000
/-- names, none twice, each with marks -/
structure RowsOk (rs : List Row) : Prop where
  up : (rs.map (·.1)).Pairwise fun a b => ltT a b = true
  sh : ∀ r ∈ rs, Sh r.1
  ms : ∀ r ∈ rs, r.2.length ≤ 10 ∧ ∀ x ∈ r.2, Sh x
theorem RowsOk.nd {rs : List Row} (h : RowsOk rs) : (rs.map (·.1)).Nodup := h.up.imp fun q => ltT_ne q
structure Play where
  name : Str
  roles : List Row
  scenes : List (List Str)
def encPl (p : Play) : U := .tup [.str p.name, .tup (p.roles.map encRw), .tup (p.scenes.map encM)]
structure PlayOk (p : Play) : Prop where
  name : Sh p.name
  roles : RowsOk p.roles
  many : p.roles.length ≤ 6
  some : 1 ≤ p.roles.length
  scs : p.scenes.length ≤ 8
  sc : ∀ c ∈ p.scenes, c.length ≤ 6 ∧ ∀ x ∈ c, Sh x
def marks3 : List Str := ["old", "sing", "tall"]
def names6 : List Str := ["ann", "bob", "cy", "dee", "eve", "fay"]
def roles5 : List Str := ["duke", "fool", "king", "maid", "nun"]
theorem marks3_sh : ∀ x ∈ marks3, Sh x := by unfold Sh; decide +kernel
theorem names6_sh : ∀ x ∈ names6, Sh x := by unfold Sh; decide +kernel
theorem roles5_sh : ∀ x ∈ roles5, Sh x := by unfold Sh; decide +kernel
theorem names6_up : names6.Pairwise fun a b => ltT a b = true := by decide +kernel
theorem Sham : Sh "hamlet" := by unfold Sh; decide +kernel
/-! the width and depth -/
def Sm (d : Nat) (u : U) : Prop := plain u = true ∧ dep u ≤ d
theorem plains_iff' {xs : List U} : plains xs = true ↔ ∀ x ∈ xs, plain x = true := by
  induction xs with
  | nil => simp [plains]
  | cons x xs ih => simp [plains, ih]
theorem deps_iff' {xs : List U} {n : Nat} : deps xs ≤ n ↔ ∀ x ∈ xs, dep x ≤ n := by
  induction xs with
  | nil => simp [deps]
  | cons x xs ih =>
    simp only [deps, List.mem_cons, forall_eq_or_imp, ← ih]
    exact Nat.max_le
theorem Sm.tup {d : Nat} {xs : List U} (h : ∀ x ∈ xs, Sm d x) : Sm (d + 1) (.tup xs) := by
  refine ⟨by simp only [plain]; exact plains_iff'.mpr fun x hx => (h x hx).1, ?_⟩
  simp only [dep]
  have := deps_iff'.mpr fun x hx => (h x hx).2
  omega
theorem Sm.lst {d : Nat} {xs : List U} (h : ∀ x ∈ xs, Sm d x) : Sm (d + 1) (.lst xs) := by
  obtain ⟨h1, h2⟩ := Sm.tup h
  exact ⟨by simpa only [plain] using h1, by simpa only [dep] using h2⟩
theorem Sm.up {d e : Nat} {u : U} (h : Sm d u) (hd : d ≤ e) : Sm e u := ⟨h.1, Nat.le_trans h.2 hd⟩
theorem Sm.str {x : Str} (h : Sh x) : Sm 0 (.str x) := ⟨h.1, Nat.zero_le _⟩
theorem Sm.dat {d : Nat} {u : U} (h : Sm d u) (hd : d ≤ 62) : dat u = true := by
  unfold Pv.dat
  rw [h.1, Bool.true_and]
  exact decide_eq_true (Nat.le_trans h.2 hd)
theorem Sm.dats {d : Nat} {xs : List U} (h : ∀ x ∈ xs, Sm d x) (hd : d ≤ 61) : dats xs = true := by
  unfold Pv.dats
  rw [plains_iff'.mpr fun x hx => (h x hx).1, Bool.true_and]
  exact decide_eq_true (Nat.le_trans (deps_iff'.mpr fun x hx => (h x hx).2) hd)
theorem Sm.M {ms : List Str} (h : ∀ x ∈ ms, Sh x) : Sm 1 (encM ms) := Sm.tup fun u hu => by
  obtain ⟨x, hx, rfl⟩ := List.mem_map.mp hu
  exact Sm.str (h x hx)
theorem Sm.Rw {r : Row} (h : Sh r.1) (h2 : ∀ x ∈ r.2, Sh x) : Sm 2 (encRw r) := Sm.tup fun u hu => by
  simp only [List.mem_cons, List.not_mem_nil, or_false] at hu
  rcases hu with rfl | rfl
  · exact (Sm.str h).up (by omega)
  · exact Sm.M h2
theorem Sm.Rws {rs : List Row} (h : RowsOk rs) : ∀ u ∈ rs.map encRw, Sm 2 u := fun u hu => by
  obtain ⟨r, hr, rfl⟩ := List.mem_map.mp hu
  exact Sm.Rw (h.sh r hr) (h.ms r hr).2
theorem Sm.Pl {p : Play} (h : PlayOk p) : Sm 4 (encPl p) := Sm.tup fun u hu => by
  simp only [List.mem_cons, List.not_mem_nil, or_false] at hu
  rcases hu with rfl | rfl | rfl
  · exact (Sm.str h.name).up (by omega)
  · exact Sm.tup (Sm.Rws h.roles)
  · refine (Sm.tup (d := 1) fun u hu => ?_).up (by omega)
    obtain ⟨c, hc, rfl⟩ := List.mem_map.mp hu
    exact Sm.M (h.sc c hc).2
mutual
theorem cls_pl {b : Nat} : ∀ u : U, plain u = true → Pv.cls b u = true
  | .non, _ => by simp [Pv.cls]
  | .bl _, _ => by simp [Pv.cls]
  | .int _, _ => by simp [Pv.cls]
  | .str _, _ => by simp [Pv.cls]
  | .tup xs, h => by simp only [Pv.cls]; exact clss_pl xs (by simpa only [plain] using h)
  | .lst xs, h => by simp only [Pv.cls]; exact clss_pl xs (by simpa only [plain] using h)
  | .dK _ _, h => by simp [plain] at h
  | .dT _ _, h => by simp [plain] at h
  | .scr _, h => by simp [plain] at h
  | .ktp _, h => by simp [plain] at h
  | .obj _, h => by simp [plain] at h
theorem clss_pl {b : Nat} : ∀ us : List U, plains us = true → clss b us = true
  | [], _ => by simp [clss]
  | u :: us, h => by
    simp only [plains, Bool.and_eq_true] at h
    simp only [clss, Bool.and_eq_true]
    exact ⟨cls_pl u h.1, clss_pl us h.2⟩
end
theorem Sm.cls {d b : Nat} {u : U} (h : Sm d u) : Pv.cls b u = true := cls_pl u h.1
theorem clss_Sm {d b : Nat} {xs : List U} (h : ∀ x ∈ xs, Sm d x) : clss b xs = true := by
  have := (Sm.tup h).cls (b := b)
  simpa only [Pv.cls] using this
end LW
set_option autoImplicit false
set_option Elab.async false
set_option linter.all false
set_option maxRecDepth 100000
namespace LW
open Pv
/-! ### stacks and rows, as such: as many stacks as the longest row has -/
section
variable {α : Type} (r : α → Nat)
def tp (p : List α) : Nat := (p.getLast?.map r).getD 0
def place (x : α) : List (List α) → List (List α)
  | [] => [[x]]
  | p :: ps => if r x < tp r p then (p ++ [x]) :: ps else p :: place x ps
/-- how many stacks have their top below x -/
def below (x : α) (ps : List (List α)) : Nat := (ps.takeWhile fun p => decide (tp r p < r x)).length
theorem tp_snoc (p : List α) (x : α) : tp r (p ++ [x]) = r x := by
  unfold tp
  simp
theorem place_tops (x : α) : ∀ ps : List (List α), ∀ q ∈ place r x ps, tp r q = r x ∨ q ∈ ps
  | [], q, h => by
    simp only [place, List.mem_singleton] at h
    rw [h]
    exact .inl (tp_snoc r [] x)
  | p :: ps, q, h => by
    simp only [place] at h
    split at h
    · rcases List.mem_cons.mp h with rfl | h
      · exact .inl (tp_snoc r p x)
      · exact .inr (List.mem_cons_of_mem _ h)
    · rcases List.mem_cons.mp h with rfl | h
      · exact .inr (List.mem_cons_self ..)
      · exact (place_tops x ps q h).imp id fun h => List.mem_cons_of_mem _ h
/-- the tops rise -/
def Rise (ps : List (List α)) : Prop := ps.Pairwise fun p q => tp r p < tp r q
theorem place_rise {x : α} : ∀ {ps : List (List α)}, Rise r ps → (∀ p ∈ ps, tp r p ≠ r x) → Rise r (place r x ps)
  | [], _, _ => by simp [place, Rise]
  | p :: ps, h, hn => by
    obtain ⟨h1, h2⟩ := List.pairwise_cons.mp h
    simp only [place]
    split
    · rename_i hx
      refine List.pairwise_cons.mpr ⟨fun q hq => ?_, h2⟩
      rw [tp_snoc]
      have := h1 q hq
      omega
    · rename_i hx
      refine List.pairwise_cons.mpr ⟨fun q hq => ?_, place_rise h2 fun q hq => hn q (List.mem_cons_of_mem _ hq)⟩
      have h3 := hn p (List.mem_cons_self ..)
      rcases place_tops r x ps q hq with e | e
      · omega
      · exact h1 q e
theorem place_at {x : α} : ∀ {ps : List (List α)}, Rise r ps → (∀ p ∈ ps, tp r p ≠ r x) →
    (∀ j, j ≠ below r x ps → (place r x ps)[j]? = ps[j]?) ∧ (∃ q, (place r x ps)[below r x ps]? = some q ∧ tp r q = r x ∧ q = ((ps[below r x ps]?).getD []) ++ [x]) ∧ below r x ps ≤ ps.length
  | [], _, _ => by
    refine ⟨fun j hj => ?_, ⟨[x], rfl, tp_snoc r [] x, rfl⟩, Nat.zero_le _⟩
    cases j with
    | zero => exact absurd rfl hj
    | succ j => rfl
  | p :: ps, h, hn => by
    obtain ⟨h1, h2⟩ := List.pairwise_cons.mp h
    have h3 := hn p (List.mem_cons_self ..)
    by_cases hx : r x < tp r p
    · have hb : below r x (p :: ps) = 0 := by
        unfold below
        rw [List.takeWhile_cons, if_neg (by simp; omega)]
        rfl
      have hp : place r x (p :: ps) = (p ++ [x]) :: ps := by simp only [place, if_pos hx]
      rw [hb, hp]
      refine ⟨fun j hj => ?_, ⟨p ++ [x], rfl, tp_snoc r p x, rfl⟩, Nat.zero_le _⟩
      cases j with
      | zero => exact absurd rfl hj
      | succ j => rfl
    · have hb : below r x (p :: ps) = below r x ps + 1 := by
        unfold below
        rw [List.takeWhile_cons, if_pos (by simp; omega)]
        rfl
      have hp : place r x (p :: ps) = p :: place r x ps := by simp only [place, if_neg hx]
      obtain ⟨i1, ⟨q, i2, i3, i4⟩, i5⟩ := place_at (x := x) h2 fun q hq => hn q (List.mem_cons_of_mem _ hq)
      rw [hb, hp]
      refine ⟨fun j hj => ?_, ⟨q, by rw [List.getElem?_cons_succ]; exact i2, i3, by rw [List.getElem?_cons_succ]; exact i4⟩, by rw [List.length_cons]; omega⟩
      cases j with
      | zero => rfl
      | succ j => rw [List.getElem?_cons_succ, List.getElem?_cons_succ]; exact i1 j (by omega)
theorem below_iff {x : α} : ∀ {ps : List (List α)}, Rise r ps → ∀ {j : Nat} {p : List α}, ps[j]? = some p → (j < below r x ps ↔ tp r p < r x)
  | [], _, j, p, h => by simp at h
  | q :: ps, hr, j, p, h => by
    obtain ⟨h1, h2⟩ := List.pairwise_cons.mp hr
    unfold below
    rw [List.takeWhile_cons]
    cases j with
    | zero =>
      simp only [List.getElem?_cons_zero, Option.some.injEq] at h
      subst h
      by_cases hx : tp r q < r x
      · rw [if_pos (by simpa using hx)]
        simp [hx]
      · rw [if_neg (by simpa using hx)]
        simp [hx]
    | succ j =>
      rw [List.getElem?_cons_succ] at h
      have hm := h1 p (List.mem_of_getElem? h)
      by_cases hx : tp r q < r x
      · rw [if_pos (by simpa using hx), List.length_cons]
        have := below_iff (x := x) h2 h
        unfold below at this
        rw [← this]
        omega
      · rw [if_neg (by simpa using hx)]
        simp
        omega
/-- the rows told so far, one a name, and the stacks: the row of a name is as long as its stack stands far -/
structure Pats (ps rows : List (List α)) : Prop where
  rise : Rise r ps
  at_ : ∀ w ∈ rows, w ≠ [] ∧ ∃ p, ps[w.length - 1]? = some p ∧ tp r p ≤ tp r w
  has : ∀ (j : Nat) p, ps[j]? = some p → ∃ w ∈ rows, w.length = j + 1 ∧ tp r w = tp r p
theorem Pats.nil : Pats r ([] : List (List α)) [] := ⟨List.Pairwise.nil, (fun w h => (by cases h)), (fun j p h => (by rw [List.getElem?_nil] at h; cases h))⟩
/-- a name more: best is a row as long as any of those ahead -/
theorem Pats.step {ps rows : List (List α)} (P : Pats r ps rows) {x : α} (hx : ∀ p ∈ ps, tp r p ≠ r x) {best : List α} (hb : best = [] ∧ (∀ w ∈ rows, ¬ tp r w < r x) ∨ (best ∈ rows ∧ tp r best < r x)) (hm : ∀ w ∈ rows, tp r w < r x → w.length ≤ best.length) :
    Pats r (place r x ps) (rows ++ [best ++ [x]]) := by
  obtain ⟨a1, ⟨q, a2, a3, a4⟩, a5⟩ := place_at r P.rise hx
  have hlen : best.length = below r x ps := by
    refine Nat.le_antisymm ?_ ?_
    · rcases hb with ⟨rfl, _⟩ | ⟨h1, h2⟩
      · exact Nat.zero_le _
      · obtain ⟨hne, p, hp, hle⟩ := P.at_ best h1
        have := (below_iff r (x := x) P.rise hp).mpr (by omega)
        have := List.length_pos_iff.mpr hne
        omega
    · cases hk : below r x ps with
      | zero => exact Nat.zero_le _
      | succ k =>
        have hkl : k < ps.length := by omega
        have hp := List.getElem?_eq_getElem hkl
        have hlt := (below_iff r (x := x) P.rise hp).mp (by omega)
        obtain ⟨w, hw, hwl, hwt⟩ := P.has k _ hp
        have := hm w hw (by omega)
        omega
  refine ⟨place_rise r P.rise hx, fun w hw => ?_, fun j p hp => ?_⟩
  · rcases List.mem_append.mp hw with h | h
    · obtain ⟨hne, p, hp, hle⟩ := P.at_ w h
      refine ⟨hne, ?_⟩
      by_cases e : w.length - 1 = below r x ps
      · refine ⟨q, by rw [e]; exact a2, ?_⟩
        rw [a3]
        have := (below_iff r (x := x) P.rise hp)
        omega
      · exact ⟨p, by rw [a1 _ e]; exact hp, hle⟩
    · rw [List.mem_singleton.mp h]
      refine ⟨by simp, q, ?_, by rw [a3, tp_snoc]; exact Nat.le_refl _⟩
      rw [List.length_append, List.length_singleton, Nat.add_sub_cancel, hlen]
      exact a2
  · by_cases e : j = below r x ps
    · subst e
      rw [a2] at hp
      cases hp
      exact ⟨best ++ [x], by simp, by rw [List.length_append, List.length_singleton, hlen], by rw [tp_snoc, a3]⟩
    · rw [a1 j e] at hp
      obtain ⟨w, hw, h1, h2⟩ := P.has j p hp
      exact ⟨w, List.mem_append_left _ hw, h1, h2⟩
/-- so the longest row is as long as there are stacks -/
theorem Pats.longest {ps rows : List (List α)} (P : Pats r ps rows) : (∀ w ∈ rows, w.length ≤ ps.length) ∧ (ps ≠ [] → ∃ w ∈ rows, w.length = ps.length) := by
  refine ⟨fun w hw => ?_, fun hne => ?_⟩
  · obtain ⟨h1, p, hp, _⟩ := P.at_ w hw
    have := (List.getElem?_eq_some_iff.mp hp).1
    omega
  · have hl := List.length_pos_iff.mpr hne
    have hp := List.getElem?_eq_getElem (show ps.length - 1 < ps.length by omega)
    obtain ⟨w, hw, h1, _⟩ := P.has _ _ hp
    exact ⟨w, hw, by omega⟩
end
end LW
set_option autoImplicit false
set_option Elab.async false
set_option linter.all false
set_option maxRecDepth 100000
namespace LW
open Pv
/-! ### their order -/
section
variable {α : Type} (r : α → Nat)
theorem tp_mem {p : List α} (h : p ≠ []) : ∃ a ∈ p, tp r p = r a := by
  refine ⟨p.getLast h, List.getLast_mem h, ?_⟩
  unfold tp
  rw [List.getLast?_eq_some_getLast h]
  rfl
theorem tp_least : ∀ {p : List α}, p.Pairwise (fun a b => r b < r a) → ∀ a ∈ p, tp r p ≤ r a
  | [], _, a, h => by cases h
  | [b], _, a, h => by
    rw [List.mem_singleton.mp h]
    exact Nat.le_refl _
  | b :: c :: p, hp, a, h => by
    obtain ⟨h1, h2⟩ := List.pairwise_cons.mp hp
    have e : tp r (b :: c :: p) = tp r (c :: p) := by
      unfold tp
      rw [List.getLast?_cons_cons]
    rw [e]
    rcases List.mem_cons.mp h with rfl | h
    · have := tp_least h2 c (List.mem_cons_self ..)
      have := h1 c (List.mem_cons_self ..)
      omega
    · exact tp_least h2 a h
theorem tp_most : ∀ {p : List α}, p.Pairwise (fun a b => r a < r b) → ∀ a ∈ p, r a ≤ tp r p
  | [], _, a, h => by cases h
  | [b], _, a, h => by
    rw [List.mem_singleton.mp h]
    exact Nat.le_refl _
  | b :: c :: p, hp, a, h => by
    obtain ⟨h1, h2⟩ := List.pairwise_cons.mp hp
    have e : tp r (b :: c :: p) = tp r (c :: p) := by
      unfold tp
      rw [List.getLast?_cons_cons]
    rw [e]
    rcases List.mem_cons.mp h with rfl | h
    · have := tp_most h2 c (List.mem_cons_self ..)
      have := h1 c (List.mem_cons_self ..)
      omega
    · exact tp_most h2 a h
/-- a stack: names taken down in this order, each hung ahead of the one under it -/
structure Stk (done : List α) (p : List α) : Prop where
  ne : p ≠ []
  sub : p.Sublist done
  dn : p.Pairwise fun a b => r b < r a
theorem place_stk {done : List α} {x : α} : ∀ {ps : List (List α)}, (∀ p ∈ ps, Stk r done p) → ∀ q ∈ place r x ps, Stk r (done ++ [x]) q
  | [], _, q, h => by
    simp only [place, List.mem_singleton] at h
    rw [h]
    exact ⟨by simp, List.sublist_append_right _ _, by simp⟩
  | p :: ps, hs, q, h => by
    have old : ∀ q, q ∈ p :: ps → Stk r (done ++ [x]) q := fun q hq => ⟨(hs q hq).ne, (hs q hq).sub.trans (List.sublist_append_left _ _), (hs q hq).dn⟩
    simp only [place] at h
    split at h
    · rename_i hx
      rcases List.mem_cons.mp h with rfl | h
      · have hp := hs p (List.mem_cons_self ..)
        refine ⟨by simp, hp.sub.append (List.Sublist.refl _), List.pairwise_append.mpr ⟨hp.dn, by simp, fun a ha b hb => ?_⟩⟩
        rw [List.mem_singleton.mp hb]
        have := tp_least r hp.dn a ha
        omega
      · exact old q (List.mem_cons_of_mem _ h)
    · rcases List.mem_cons.mp h with rfl | h
      · exact old q (List.mem_cons_self ..)
      · exact place_stk (fun p hp => hs p (List.mem_cons_of_mem _ hp)) q h
theorem place_perm {x : α} : ∀ ps : List (List α), (place r x ps).flatten.Perm (ps.flatten ++ [x])
  | [] => by simp [place]
  | p :: ps => by
    simp only [place]
    split
    · rw [List.flatten_cons, List.flatten_cons, List.append_assoc, List.append_assoc]
      exact List.Perm.append_left p List.perm_append_comm
    · rw [List.flatten_cons, List.flatten_cons, List.append_assoc]
      exact List.Perm.append_left p (place_perm ps)
/-- a row: later and later in both orders -/
structure Rw_ (done : List α) (w : List α) : Prop where
  sub : w.Sublist done
  up : w.Pairwise fun a b => r a < r b
theorem row_step {done best : List α} {x : α} (h : Rw_ r done best) (hx : best = [] ∨ tp r best < r x) : Rw_ r (done ++ [x]) (best ++ [x]) := by
  refine ⟨h.sub.append (List.Sublist.refl _), List.pairwise_append.mpr ⟨h.up, by simp, fun a ha b hb => ?_⟩⟩
  rw [List.mem_singleton.mp hb]
  rcases hx with e | e
  · rw [e] at ha
    cases ha
  · have := tp_most r h.up a ha
    omega
theorem row_more {done w : List α} {x : α} (h : Rw_ r done w) : Rw_ r (done ++ [x]) w := ⟨h.sub.trans (List.sublist_append_left _ _), h.up⟩
end
end LW
set_option autoImplicit false
set_option Elab.async false
set_option linter.all false
set_option maxRecDepth 100000
namespace LW
open Pv
/-! ### taken off the stacks, one by one -/
section
variable {α : Type} [DecidableEq α] (r : α → Nat)
/-- off the first stack on which x lies uppermost -/
def offS (x : α) : List (List α) → Option (List (List α))
  | [] => none
  | p :: ps => if p.getLast? = some x then some (p.dropLast :: ps) else (offS x ps).map (p :: ·)
theorem offS_some {x : α} : ∀ {ps : List (List α)}, (∃ p ∈ ps, p.getLast? = some x) → ∃ ps', offS x ps = some ps' ∧ ps.flatten.Perm (x :: ps'.flatten) ∧ ∀ q ∈ ps', ∃ p ∈ ps, q.Sublist p
  | [], h => by
    obtain ⟨p, hp, _⟩ := h
    cases hp
  | p :: ps, h => by
    simp only [offS]
    by_cases e : p.getLast? = some x
    · rw [if_pos e]
      refine ⟨_, rfl, ?_, fun q hq => ?_⟩
      · obtain ⟨hne, he⟩ : ∃ hne : p ≠ [], p.getLast hne = x := by
          have hne : p ≠ [] := fun e2 => by rw [e2] at e; cases e
          refine ⟨hne, ?_⟩
          rw [List.getLast?_eq_some_getLast hne] at e
          exact Option.some.inj e
        have e2 : p = p.dropLast ++ [x] := by rw [← he]; exact (List.dropLast_concat_getLast hne).symm
        rw [List.flatten_cons, List.flatten_cons]
        conv => lhs; rw [e2]
        rw [List.append_assoc]
        exact List.perm_middle
      · rcases List.mem_cons.mp hq with rfl | hq
        · exact ⟨p, List.mem_cons_self .., List.dropLast_sublist p⟩
        · exact ⟨q, List.mem_cons_of_mem _ hq, List.Sublist.refl _⟩
    · rw [if_neg e]
      obtain ⟨z, hz, hze⟩ := h
      have hz' : z ∈ ps := by
        rcases List.mem_cons.mp hz with rfl | hz
        · exact absurd hze e
        · exact hz
      obtain ⟨ps', h1, h2, h3⟩ := offS_some ⟨z, hz', hze⟩
      refine ⟨p :: ps', by rw [h1]; rfl, ?_, fun q hq => ?_⟩
      · rw [List.flatten_cons, List.flatten_cons]
        exact (List.Perm.append_left p h2).trans List.perm_middle
      · rcases List.mem_cons.mp hq with rfl | hq
        · exact ⟨q, List.mem_cons_self .., List.Sublist.refl _⟩
        · obtain ⟨w, hw, hs⟩ := h3 q hq
          exact ⟨w, List.mem_cons_of_mem _ hw, hs⟩
theorem last_is {p : List α} {x : α} (dn : p.Pairwise fun a b => r b < r a) (hx : x ∈ p) (least : ∀ a ∈ p, r x ≤ r a) (inj : ∀ a ∈ p, r a = r x → a = x) : p.getLast? = some x := by
  have hne : p ≠ [] := fun e => by rw [e] at hx; cases hx
  have h1 := tp_least r dn x hx
  have h2 : tp r p = r (p.getLast hne) := by
    unfold tp
    rw [List.getLast?_eq_some_getLast hne]
    rfl
  have h3 := least _ (List.getLast_mem hne)
  rw [List.getLast?_eq_some_getLast hne, inj _ (List.getLast_mem hne) (by omega)]
/-- in the order in which they are hung, each lies uppermost when its turn comes -/
theorem hang_all : ∀ (us : List α) (ps : List (List α)), us.Pairwise (fun a b => r a < r b) → ps.flatten.Perm us → (∀ p ∈ ps, p.Pairwise fun a b => r b < r a) →
    (∀ (i : Nat) x, us[i]? = some x → True) ∧ ∃ ps', us.foldlM (fun ps x => offS x ps) ps = some ps'
  | [], ps, _, _, _ => ⟨fun _ _ _ => trivial, ps, rfl⟩
  | x :: us, ps, hu, hp, hd => by
    obtain ⟨h1, h2⟩ := List.pairwise_cons.mp hu
    have hx : x ∈ ps.flatten := hp.mem_iff.mpr (List.mem_cons_self ..)
    obtain ⟨p, hpm, hxp⟩ := List.mem_flatten.mp hx
    have mem : ∀ a ∈ p, a = x ∨ a ∈ us := fun a ha => List.mem_cons.mp (hp.mem_iff.mp (List.mem_flatten.mpr ⟨p, hpm, ha⟩))
    have hl : p.getLast? = some x := last_is r (hd p hpm) hxp (fun a ha => by
      rcases mem a ha with rfl | h
      · exact Nat.le_refl _
      · exact Nat.le_of_lt (h1 a h)) fun a ha e => by
      rcases mem a ha with h | h
      · exact h
      · have := h1 a h
        omega
    obtain ⟨ps', e1, e2, e3⟩ := offS_some ⟨p, hpm, hl⟩
    obtain ⟨_, ps2, h3⟩ := hang_all us ps' h2 ((hp.symm.trans e2).cons_inv.symm) fun q hq => by
      obtain ⟨w, hw, hs⟩ := e3 q hq
      exact (hd w hw).sublist hs
    refine ⟨fun _ _ _ => trivial, ps2, ?_⟩
    rw [List.foldlM_cons, e1]
    exact h3
end
end LW
set_option autoImplicit false
set_option Elab.async false
set_option linter.all false
set_option maxRecDepth 100000
namespace LW
open Pv
/-! ### the stack that is taken: the least top of those above -/
section
variable {α : Type} (r : α → Nat)
def fitL (x : α) (n : Nat) (ps : List (List α)) : List (Nat × Nat) := ((ps.zipIdx n).filter fun q => decide (r x < tp r q.1)).map fun q => (tp r q.1, q.2)
theorem fit_mem {x : α} {n : Nat} {ps : List (List α)} {q : Nat × Nat} (h : q ∈ fitL r x n ps) : ∃ p ∈ ps, tp r p = q.1 := by
  unfold fitL at h
  obtain ⟨z, hz, rfl⟩ := List.mem_map.mp h
  have h1 := List.mem_zipIdx (List.mem_filter.mp hz).1
  exact ⟨z.1, by rw [h1.2.2]; exact List.getElem_mem _, rfl⟩
theorem fit_up {x : α} : ∀ {ps : List (List α)} (n : Nat), Rise r ps → (fitL r x n ps).Pairwise fun a b => a.1 < b.1
  | [], n, _ => by simp [fitL]
  | p :: ps, n, h => by
    obtain ⟨h1, h2⟩ := List.pairwise_cons.mp h
    have ih := fit_up (x := x) (n + 1) h2
    have e : fitL r x n (p :: ps) = if r x < tp r p then (tp r p, n) :: fitL r x (n + 1) ps else fitL r x (n + 1) ps := by
      unfold fitL
      rw [List.zipIdx_cons, List.filter_cons]
      by_cases hx : r x < tp r p
      · rw [if_pos (by simpa using hx), if_pos hx, List.map_cons]
      · rw [if_neg (by simpa using hx), if_neg hx]
    rw [e]
    split
    · refine List.pairwise_cons.mpr ⟨fun q hq => ?_, ih⟩
      obtain ⟨p', hp', e'⟩ := fit_mem r hq
      have := h1 p' hp'
      show tp r p < q.1
      omega
    · exact ih
theorem fit_head {x : α} : ∀ {ps : List (List α)} (n : Nat), Rise r ps → (∀ p ∈ ps, tp r p ≠ r x) → (fitL r x n ps).head? = (ps[below r x ps]?).map fun p => (tp r p, n + below r x ps)
  | [], n, _, _ => rfl
  | p :: ps, n, h, hn => by
    obtain ⟨h1, h2⟩ := List.pairwise_cons.mp h
    have h3 := hn p (List.mem_cons_self ..)
    have ih := fit_head (x := x) (n + 1) h2 fun q hq => hn q (List.mem_cons_of_mem _ hq)
    unfold fitL at ih ⊢
    rw [List.zipIdx_cons, List.filter_cons]
    by_cases hx : r x < tp r p
    · have hb : below r x (p :: ps) = 0 := by
        unfold below
        rw [List.takeWhile_cons, if_neg (by simp; omega)]
        rfl
      rw [if_pos (by simpa using hx), hb]
      rfl
    · have hb : below r x (p :: ps) = below r x ps + 1 := by
        unfold below
        rw [List.takeWhile_cons, if_pos (by simp; omega)]
        rfl
      rw [if_neg (by simpa using hx), hb, List.getElem?_cons_succ, ih]
      congr 1
      funext p
      rw [Nat.add_assoc, Nat.add_comm 1]
end
end LW
set_option autoImplicit false
set_option Elab.async false
set_option linter.all false
set_option maxRecDepth 100000
namespace LW
open Pv
/-! ### a loop over bags, on a store that has a table of code objects -/
section
variable {G : Str → Option U} {k : Nat}
theorem Gw.len {b : Nat} {s s' : MS} (h : Gw b s s') : s.length ≤ s'.length := by
  obtain ⟨t, r, rfl, g⟩ := h
  rw [List.length_append, g.len]
  omega
theorem Gw.oth {b : Nat} {s s' : MS} (h : Gw b s s') {n : Nat} (hn : n < s.length) (ne : n ≠ b) : s'[n]? = s[n]? := by
  obtain ⟨t, r, rfl, g⟩ := h
  rw [List.getElem?_append_left (by rw [g.len]; exact hn), g.oth n ne]
theorem law_bagsS {f nn lim : Nat} {body : Sts} {ns : List Int} {s0 : MS} (I : SU → Prop) (hlim : 1 ≤ lim ∧ lim ≤ 1000) (hd : DD f = some ⟨1, nn + 2, false, .cons (.for (.name 1) (.seq (.call 9 (.cons (.var 0) (.cons (.int (lim : Int)) .nil)))) body) (.cons (.ret (.bl true)) .nil)⟩)
    (h0 : I (List.replicate nn none))
    (hbody : ∀ (b : Nat) (s : MS) (us : SU), s0.length ≤ b → (∀ n, n < s0.length → s[n]? = s0[n]?) → IsBag s b → I us → ∃ us' s', I us' ∧ evSs ⟨callF DD G (k + 3), callF DD G (k + 3 - 1), G⟩ body (some (.scr ns) :: some (.obj b) :: us) s = .nx (some (.scr ns) :: some (.obj b) :: us') s' ∧ Gw b s s') :
    ∃ s', callF DD G (k + 4) f [.scr ns] s0 = .ok (.bl true) s' := by
  obtain ⟨m, s1, e1, e2, e3, e4⟩ := bags_spec (D := DD) (G := G) (k := k) (s := s0) (id := 7) (ic := 6) (ib := 8) (ibs := 9) rfl rfl rfl rfl (ns := ns) (limit := lim) hlim.1 hlim.2
  obtain ⟨su', s', q1, z1, us, rfl, _, _, q2⟩ := forL_inv (tg := .name 1) (body := evSs ⟨callF DD G (k + 3), callF DD G (k + 3 - 1), G⟩ body) (r := ⟨(List.range m).map fun i => .obj (s0.length + i), []⟩) ((List.range m).map fun i => .obj (s0.length + i))
    (fun p su s' => ∃ z1 us, su = some (.scr ns) :: z1 :: us ∧ I us ∧ (∀ i, i < m → IsBag s' (s0.length + i)) ∧ ∀ n, n < s0.length → s'[n]? = s0[n]?) (fun _ _ _ _ => rfl)
    (fun p x su s' hx ⟨z1, us, e4, e6, e5, e7⟩ => by
      subst e4
      rw [List.getElem?_map] at hx
      obtain ⟨b, hb, rfl⟩ := Option.map_eq_some_iff.mp hx
      have hbm : b < m := by
        have h1 := (List.getElem?_eq_some_iff.mp hb).1
        rw [List.length_range] at h1
        rw [List.getElem?_range h1] at hb
        cases hb
        exact h1
      obtain ⟨us', s2, hl, q, g⟩ := hbody (s0.length + b) s' us (by omega) e7 (e5 b hbm) e6
      refine ⟨_, rfl, _, _, .inl q, _, _, rfl, hl, fun i hi => g.all (e5 i hi), fun n hn => ?_⟩
      have hn2 : n < s'.length := by
        have := e7 n hn
        rw [List.getElem?_eq_getElem hn] at this
        exact (List.getElem?_eq_some_iff.mp this).1
      rw [g.oth hn2 (by omega)]
      exact e7 n hn)
    (some (.scr ns) :: none :: List.replicate nn none) s1 ⟨_, _, rfl, h0, e3, e4⟩
  have r : evSs ⟨callF DD G (k + 3), callF DD G (k + 3 - 1), G⟩ (.cons (.for (.name 1) (.seq (.call 9 (.cons (.var 0) (.cons (.int (lim : Int)) .nil)))) body) (.cons (.ret (.bl true)) .nil)) (Pv.start (nn + 2) [.scr ns]) s0 = .rt (.bl true) s' := by
    have hst : Pv.start (nn + 2) [.scr ns] = some (.scr ns) :: none :: List.replicate nn none := by
      simp [Pv.start, List.replicate_succ]
    rw [hst]
    generalize List.replicate nn (none : Option U) = rr at *
    simp -implicitDefEqProofs only [evE, evEs, evO, evT, evAll, evAny, evAnd, evOr, evI, evS, evSs, Rv.bind_ok, Rv.bind_no, Rv.bind_ex, Rv.of_some, Rv.of_none, Rv.fl_ok, Fl.then_nx, Fl.then_rt, Fl.then_bk, Fl.then_ct, varU, List.getElem?_cons_zero, List.getElem?_cons_succ, Option.map_some, Option.bind_some, negU, notU, partU, andK, orK, chnK, chnB, tru, asgK, bindT, bindTs, List.set_cons_zero, List.set_cons_succ, if_true, if_false, Bool.false_eq_true, o_add, o_sub, c_lt, c_gt, c_le, c_ge, c_eq, c_ne, ix_T, ix_L, at0, at1, at2, at3, at4, len_T, len_L, max2_, min2_, tup_L, tup_T, int_b, int_i, src_T, src_L, start, List.map_cons, List.map_nil, List.replicate, List.cons_append, List.nil_append, List.length_cons, List.length_nil, Nat.sub_self, Nat.reduceAdd, Nat.reduceSub, wipe, e1, q1]
  rw [call_rt hd rfl r]
  refine ⟨if s'.length = s0.length then s' else s'.take s0.length, ?_⟩
  unfold fin
  by_cases hl : s'.length = s0.length
  · rw [decide_eq_true hl, Bool.or_true, if_pos rfl, if_pos hl]
  · have hh : heldO s0.length s0 s' = true := heldO_of fun n o p h1 h2 => by
      rw [q2 n (List.getElem?_eq_some_iff.mp h1).1, h1] at h2
      exact .inl (Option.some.inj h2)
    rw [decide_eq_false hl, Bool.or_false, if_neg Bool.false_ne_true, if_neg hl, hh]
    rfl
end
/-! ### names and where they stand -/
theorem atI_last {α : Type} {xs : List α} (h : xs ≠ []) : atI xs (-1) = some (xs.getLast h) := by
  have hl := List.length_pos_iff.mpr h
  unfold atI ixN
  rw [if_neg (by omega), if_pos (by omega)]
  have : ((-1 : Int) + (xs.length : Nat)).toNat = xs.length - 1 := by omega
  show xs[((-1 : Int) + (xs.length : Nat)).toNat]? = _
  rw [this, List.getElem?_eq_getElem (by omega), List.getLast_eq_getElem]
theorem strsOf_map : ∀ ss : List Str, strsOf (ss.map .str) = some ss
  | [] => rfl
  | x :: ss => by simp only [List.map_cons, strsOf, strsOf_map ss, Option.map_some]
theorem indexOf_map {z : Str} : ∀ {us : List Str}, z ∈ us → indexOf (.str z) (us.map .str) = some (us.idxOf z)
  | x :: us, h => by
    by_cases e : x = z
    · subst e
      have he : eqU (.str x) (.str x) = true := by simp only [eqU]; exact beq_self_eq_true x
      simp only [List.map_cons, indexOf, he, if_true, List.idxOf_cons_self]
    · have he : eqU (.str x) (.str z) = false := by simp only [eqU]; exact beq_eq_false_iff_ne.mpr e
      simp only [List.map_cons, indexOf, he, Bool.false_eq_true, if_false, indexOf_map (List.mem_of_ne_of_mem (Ne.symm e) h), Option.map_some, List.idxOf_cons]
      have e2 : (x == z) = false := beq_eq_false_iff_ne.mpr e
      rw [e2]
      rfl
/-- a place in the hanging order -/
abbrev rk (us : List Str) (x : Str) : Nat := us.idxOf x
theorem rk_inj {us : List Str} {a b : Str} (ha : a ∈ us) (h : rk us a = rk us b) : a = b := by
  have h1 := List.idxOf_lt_length_iff.mpr ha
  have e1 := List.getElem_idxOf h1
  have h2 : us.idxOf b < us.length := by have h : us.idxOf a = us.idxOf b := h; omega
  have e2 := List.getElem_idxOf h2
  rw [← e1, ← e2]
  have h : us.idxOf a = us.idxOf b := h
  congr 1
section
variable {s : MS} {us : List Str} {z : Str}
theorem me_ix {kk : MS → Rv U} : meK .index (.tup (us.map .str)) kk s = kk s := by
  simp only [meK, recv, tupOf, strsOf_map, Option.isSome_some, Bool.or_true, if_true]
theorem ix_st (h : z ∈ us) : meU .index (.tup (us.map .str)) [.str z] s = .ok (.int (rk us z : Nat)) s := by
  simp only [meU, strsOf_map, indexOf_map h, Option.map_some, Rv.of_some]
end
end LW
set_option autoImplicit false
set_option Elab.async false
set_option linter.all false
set_option maxRecDepth 100000
namespace LW
open Pv
/-! ### stacks(down, up) -/
def encS (p : List Str) : U := .tup (p.map .str)
def names10 : List Str := ["ark", "bed", "cage", "door", "elm", "fog", "gate", "hill", "ivy", "jail"]
theorem names10_sh : ∀ x ∈ names10, Sh x := by unfold Sh; decide +kernel
theorem names10_few : ∀ x ∈ names10, x.length ≤ 10 := by decide +kernel
theorem names10_nd : names10.Nodup := by decide +kernel
structure OrdOk (ds us : List Str) : Prop where
  n10 : ∀ x ∈ ds, x ∈ names10
  nd : ds.Nodup
  pm : us.Perm ds
  sh : ∀ x ∈ ds, Sh x
  few : ds.length ≤ 1000
theorem OrdOk.mem {ds us : List Str} (h : OrdOk ds us) {x : Str} (hx : x ∈ ds) : x ∈ us := h.pm.mem_iff.mpr hx
def stkF (us : List Str) (ds : List Str) : List (List Str) := ds.foldl (fun ps x => place (rk us) x ps) []
structure StOk (us done : List Str) (ps : List (List Str)) : Prop where
  rise : Rise (rk us) ps
  stk : ∀ p ∈ ps, Stk (rk us) done p
  pm : ps.flatten.Perm done
theorem StOk.ne {us done : List Str} {ps : List (List Str)} (h : StOk us done ps) {x : Str} (hx : x ∉ done) (hd : ∀ y ∈ done, y ∈ us) : ∀ p ∈ ps, tp (rk us) p ≠ rk us x := fun p hp e => by
  obtain ⟨a, ha, ea⟩ := tp_mem (rk us) (h.stk p hp).ne
  have had := (h.stk p hp).sub.subset ha
  rw [ea] at e
  exact hx (rk_inj (hd a had) e ▸ had)
theorem StOk.step {us done : List Str} {ps : List (List Str)} (h : StOk us done ps) {x : Str} (hx : x ∉ done) (hd : ∀ y ∈ done, y ∈ us) : StOk us (done ++ [x]) (place (rk us) x ps) :=
  ⟨place_rise _ h.rise (h.ne hx hd), place_stk _ h.stk, (place_perm _ ps).trans (h.pm.append (List.Perm.refl _))⟩
theorem StOk.nil {us : List Str} : StOk us [] [] := ⟨List.Pairwise.nil, (fun p h => (by cases h)), List.Perm.refl _⟩
theorem stk_all {us : List Str} : ∀ (ds done : List Str) (ps : List (List Str)), StOk us done ps → (done ++ ds).Nodup → (∀ y ∈ done ++ ds, y ∈ us) → StOk us (done ++ ds) (ds.foldl (fun ps x => place (rk us) x ps) ps)
  | [], done, ps, h, _, _ => by simpa using h
  | x :: ds, done, ps, h, nd, hu => by
    have e : done ++ x :: ds = (done ++ [x]) ++ ds := by simp
    rw [List.foldl_cons, e]
    refine stk_all ds (done ++ [x]) _ (h.step (fun m => ?_) fun y hy => hu y (List.mem_append_left _ hy)) (by rw [← e]; exact nd) (by rw [← e]; exact hu)
    exact (List.nodup_append.mp nd).2.2 x m x (List.mem_cons_self ..) rfl
theorem stkF_ok {ds us : List Str} (h : OrdOk ds us) : StOk us ds (stkF us ds) := by
  have := stk_all ds [] [] (us := us) StOk.nil (by simpa using h.nd) (by simpa using fun y hy => h.mem hy)
  rw [List.nil_append] at this
  exact this
theorem place_set {α : Type} {r : α → Nat} {x : α} {ps : List (List α)} (h : Rise r ps) (hn : ∀ p ∈ ps, tp r p ≠ r x) :
    (∀ p, ps[below r x ps]? = some p → place r x ps = ps.set (below r x ps) (p ++ [x])) ∧ (ps[below r x ps]? = none → place r x ps = ps ++ [[x]]) := by
  obtain ⟨a1, ⟨q, a2, _, a4⟩, a5⟩ := place_at r h hn
  refine ⟨fun p hp => List.ext_getElem? fun j => ?_, fun hp => List.ext_getElem? fun j => ?_⟩
  · by_cases e : j = below r x ps
    · subst e
      rw [a2, a4, hp, List.getElem?_set_self (List.getElem?_eq_some_iff.mp hp).1]
      rfl
    · rw [a1 j e, List.getElem?_set_ne (Ne.symm e)]
  · have hl : below r x ps = ps.length := by
      have := List.getElem?_eq_none_iff.mp hp
      omega
    by_cases e : j = below r x ps
    · subst e
      rw [a2, a4, hp, hl]
      simp
    · rw [a1 j e]
      by_cases h2 : j < ps.length
      · rw [List.getElem?_append_left h2]
      · rw [List.getElem?_eq_none (by omega), List.getElem?_eq_none (by simp; omega)]
theorem len_set {α : Type} {r : α → Nat} {x : α} : ∀ ps : List (List α), (place r x ps).length ≤ ps.length + 1
  | [] => by simp [place]
  | p :: ps => by
    simp only [place]
    split
    · simp
    · have := len_set (r := r) (x := x) ps
      simp only [List.length_cons]
      omega
/-! the least of pairs -/
def encN (q : Nat × Nat) : U := .tup [.int (q.1 : Int), .int (q.2 : Int)]
theorem ltD_N (a b : Nat × Nat) (h : a.1 < b.1) : ltD (encN b) (encN a) = false := by
  unfold ltD encN
  simp only [toks, tokss, List.append_nil, List.cons_append, List.nil_append, ltTok, itLt]
  have h1 : decide (((b.1 : Nat) : Int) < (a.1 : Nat)) = false := decide_eq_false (by omega)
  have h2 : decide (((a.1 : Nat) : Int) < (b.1 : Nat)) = true := decide_eq_true (by omega)
  rw [h1, h2]
  simp
theorem Sm.N (q : Nat × Nat) : Sm 1 (encN q) := ⟨rfl, by simp [encN, dep, deps]⟩
theorem alike_N (a b : Nat × Nat) : alike (encN a) (encN b) = true := rfl
theorem min_N {q : Nat × Nat} {qs : List (Nat × Nat)} (h : ∀ y ∈ qs, q.1 < y.1) : minU ((q :: qs).map encN) = some (encN q) := by
  have ha : alikeAll ((q :: qs).map encN) = true := by
    unfold alikeAll
    have d : dats ((q :: qs).map encN) = true := dats_map fun x _ => ⟨(Sm.N x).1, by have := (Sm.N x).2; omega⟩
    rw [d, Bool.true_and, Bool.and_eq_true]
    refine ⟨List.all_eq_true.mpr fun u hu => List.all_eq_true.mpr fun v hv => ?_, List.all_eq_true.mpr fun u hu => ?_⟩
    · obtain ⟨a, _, rfl⟩ := List.mem_map.mp hu
      obtain ⟨b, _, rfl⟩ := List.mem_map.mp hv
      exact alike_N a b
    · obtain ⟨a, _, rfl⟩ := List.mem_map.mp hu
      rfl
  rw [List.map_cons] at ha ⊢
  simp only [minU, ha, if_true]
  congr 1
  clear ha
  induction qs with
  | nil => rfl
  | cons y qs ih =>
    rw [List.map_cons, List.foldl_cons, ltD_N q y (h y (List.mem_cons_self ..))]
    exact ih fun z hz => h z (List.mem_cons_of_mem _ hz)
section
variable {s : MS} {G : Str → Option U} {k : Nat} {us : List Str}
theorem l0 : (0 ≤ line) = True := eq_true (Nat.zero_le _)
theorem l1 : (1 ≤ line) = True := eq_true (by decide)
theorem l2 : (2 ≤ line) = True := eq_true (by decide)
theorem min1_L {xs : List U} {u : U} (h : minU xs = some u) : biU .min1 [.lst xs] s = .ok u s := by
  have e : seqOf s (.lst xs) = some xs := rfl
  simp only [biU, e, Option.bind_some, h, Rv.of_some]
theorem enu_O {n : Nat} {xs : List U} (h : s[n]? = some (.lst xs)) : srcEnu (.obj n) s = some ⟨enumFrom 0 xs, [(n, xs)]⟩ := by
  simp only [srcEnu, seqOf, lstOf, h, stillOf, Option.map_some]
theorem last_rk {p : List Str} (h : p ≠ []) : ∃ z ∈ p, atI (p.map U.str) (-1) = some (.str z) ∧ tp (rk us) p = rk us z := by
  refine ⟨p.getLast h, List.getLast_mem h, ?_, ?_⟩
  · rw [atI_last (by simpa using h), List.getLast_map]
  · unfold tp
    rw [List.getLast?_eq_some_getLast h]
    rfl
theorem Sm.S {p : List Str} (h : ∀ x ∈ p, Sh x) : Sm 1 (encS p) := Sm.tup fun u hu => by
  obtain ⟨x, hx, rfl⟩ := List.mem_map.mp hu
  exact Sm.str (h x hx)
/-- a turn of the loop -/
theorem stacks_turn {X : Ctx} {n : Nat} {ps : List (List Str)} {done : List Str} {x : Str} {D : U} {x4 x5 x6 : Option U} (hs : s[n]? = some (.lst (ps.map encS))) (h : StOk us done ps) (hx : x ∉ done) (hd : ∀ y ∈ done, y ∈ us) (hxu : x ∈ us) (hl : ps.length ≤ 1000) (hw : ∀ p ∈ ps, p.length ≤ 1000) :
    ∃ y4, evSs X b1f1 [some D, some (encS us), some (.obj n), some (.str x), x4, x5, x6] s = .nx [some D, some (encS us), some (.obj n), some (.str x), y4, x5, x6] (s.set n (.lst ((place (rk us) x ps).map encS))) := by
  have hne := h.ne hx hd
  have lc : lcL [5, 6] (.tup (.cons (.name 5) (.cons (.name 6) .nil))) (evAll X b1c1) (evE X b1e1) ⟨enumFrom 0 (ps.map encS), [(n, ps.map encS)]⟩ [some D, some (encS us), some (.obj n), some (.str x), x4, x5, x6] (enumFrom 0 (ps.map encS)) [] s = .ok ((fitL (rk us) x 0 ps).map encN) s := by
    rw [enum_zip]
    have := lcL_pure (s := s) (vs := [5, 6]) (tg := .tup (.cons (.name 5) (.cons (.name 6) .nil))) (c := evAll X b1c1) (e := evE X b1e1) (r := ⟨(ps.zipIdx 0).map fun p => .tup [.int (p.2 : Int), encS p.1], [(n, ps.map encS)]⟩) (su := [some D, some (encS us), some (.obj n), some (.str x), x4, x5, x6])
      (fun p : List Str × Nat => .tup [.int (p.2 : Int), encS p.1]) (fun p => decide (rk us x < tp (rk us) p.1)) (fun p => encN (tp (rk us) p.1, p.2)) (ok_one hs) (ps.zipIdx 0) (fun p hp => ?_) []
    · rw [this]
      unfold fitL
      simp [List.map_map, Function.comp_def]
    · have hpm : p.1 ∈ ps := by
        have := List.mem_zipIdx hp
        rw [this.2.2]
        exact List.getElem_mem _
      obtain ⟨z, hz, e1, e2⟩ := last_rk (us := us) (h.stk p.1 hpm).ne
      have hzu := hd z ((h.stk p.1 hpm).sub.subset hz)
      refine ⟨_, rfl, ?_, fun _ => ?_⟩
      · unfold encS at *
        simp -implicitDefEqProofs only [evE, evEs, evO, evT, evAll, evAny, evAnd, evOr, evI, evS, evSs, Rv.bind_ok, Rv.bind_no, Rv.bind_ex, Rv.of_some, Rv.of_none, Rv.fl_ok, Fl.then_nx, Fl.then_rt, Fl.then_bk, Fl.then_ct, varU, List.getElem?_cons_zero, List.getElem?_cons_succ, Option.map_some, Option.bind_some, negU, notU, partU, andK, orK, chnK, chnB, tru, asgK, bindT, bindTs, List.set_cons_zero, List.set_cons_succ, if_true, if_false, Bool.false_eq_true, o_add, o_sub, c_lt, c_gt, c_le, c_ge, c_eq, c_ne, ix_T, ix_L, at0, at1, at2, at3, at4, len_T, len_L, max2_, min2_, tup_L, tup_T, int_b, int_i, src_T, src_L, start, List.map_cons, List.map_nil, List.replicate, List.cons_append, List.nil_append, List.length_cons, List.length_nil, Nat.sub_self, Nat.reduceAdd, Nat.reduceSub, wipe, b1c1, me_ix, e1, ix_st hzu, ix_st hxu, e2]
        by_cases q : rk us x < rk us z
        · rw [decide_eq_true q, decide_eq_true (by omega)]
          rfl
        · rw [decide_eq_false q, decide_eq_false (by omega)]
          rfl
      · unfold encS encN at *
        simp -implicitDefEqProofs only [evE, evEs, evO, evT, evAll, evAny, evAnd, evOr, evI, evS, evSs, Rv.bind_ok, Rv.bind_no, Rv.bind_ex, Rv.of_some, Rv.of_none, Rv.fl_ok, Fl.then_nx, Fl.then_rt, Fl.then_bk, Fl.then_ct, varU, List.getElem?_cons_zero, List.getElem?_cons_succ, Option.map_some, Option.bind_some, negU, notU, partU, andK, orK, chnK, chnB, tru, asgK, bindT, bindTs, List.set_cons_zero, List.set_cons_succ, if_true, if_false, Bool.false_eq_true, o_add, o_sub, c_lt, c_gt, c_le, c_ge, c_eq, c_ne, ix_T, ix_L, at0, at1, at2, at3, at4, len_T, len_L, max2_, min2_, tup_L, tup_T, int_b, int_i, src_T, src_L, start, List.map_cons, List.map_nil, List.replicate, List.cons_append, List.nil_append, List.length_cons, List.length_nil, Nat.sub_self, Nat.reduceAdd, Nat.reduceSub, wipe, b1e1, me_ix, e1, ix_st hzu, e2, lenL]
        rfl
  have fup := fit_up (rk us) (x := x) 0 h.rise
  have fh := fit_head (rk us) (x := x) 0 h.rise hne
  obtain ⟨pl1, pl2⟩ := place_set h.rise hne
  have enu := enu_O hs
  have dF : dat (.lst ((fitL (rk us) x 0 ps).map encN)) = true := dat_lst (dats_map fun q _ => ⟨(Sm.N q).1, by have := (Sm.N q).2; omega⟩)
  have ce : cmpU .eq (.lst ((fitL (rk us) x 0 ps).map encN)) (.lst []) s = some (decide ((fitL (rk us) x 0 ps).map encN = [])) := by
    rw [c_eqL dF rfl, eqUs_nil]
  cases hf : fitL (rk us) x 0 ps with
  | nil =>
    rw [hf] at lc ce fh
    rw [List.map_nil, decide_eq_true rfl] at ce
    rw [List.map_nil] at lc
    have hb : ps[below (rk us) x ps]? = none := by
      cases hq : ps[below (rk us) x ps]? with
      | none => rfl
      | some p => rw [hq] at fh; simp at fh
    rw [pl2 hb]
    have ap := app_O (u := .tup [.str x]) hs (by rw [List.length_map]; exact line_ge hl)
    have mk := meK_O (k := fun s1 => (Rv.ok [U.tup [.str x]] s1 : Rv (List U)).bind fun us s2 => meU .append (.obj n) us s2) hs
    refine ⟨some (.lst []), ?_⟩
    simp -implicitDefEqProofs only [evE, evEs, evO, evT, evAll, evAny, evAnd, evOr, evI, evS, evSs, Rv.bind_ok, Rv.bind_no, Rv.bind_ex, Rv.of_some, Rv.of_none, Rv.fl_ok, Fl.then_nx, Fl.then_rt, Fl.then_bk, Fl.then_ct, varU, List.getElem?_cons_zero, List.getElem?_cons_succ, Option.map_some, Option.bind_some, negU, notU, partU, andK, orK, chnK, chnB, tru, asgK, bindT, bindTs, List.set_cons_zero, List.set_cons_succ, if_true, if_false, Bool.false_eq_true, o_add, o_sub, c_lt, c_gt, c_le, c_ge, c_eq, c_ne, ix_T, ix_L, at0, at1, at2, at3, at4, len_T, len_L, max2_, min2_, tup_L, tup_T, int_b, int_i, src_T, src_L, start, List.map_cons, List.map_nil, List.replicate, List.cons_append, List.nil_append, List.length_cons, List.length_nil, Nat.sub_self, Nat.reduceAdd, Nat.reduceSub, wipe, b1f1, enu, lc, lst_tree, ce, lenL, meK_O hs, ap, l0, l1]
    simp [encS]
  | cons q qs =>
    rw [hf] at lc ce fh fup
    rw [List.map_cons, decide_eq_false (by simp)] at ce
    rw [List.map_cons] at lc
    obtain ⟨p, hp, eq⟩ : ∃ p, ps[below (rk us) x ps]? = some p ∧ q = (tp (rk us) p, below (rk us) x ps) := by
      cases hq : ps[below (rk us) x ps]? with
      | none => rw [hq] at fh; simp at fh
      | some p => rw [hq] at fh; simp at fh; exact ⟨p, rfl, fh⟩
    have mn := min1_L (s := s) (min_N (q := q) (qs := qs) fun y hy => (List.pairwise_cons.mp fup).1 y hy)
    rw [List.map_cons] at mn
    rw [pl1 p hp]
    have hpl := (List.getElem?_eq_some_iff.mp hp).1
    have hix : (ps.map encS)[below (rk us) x ps]? = some (encS p) := by rw [List.getElem?_map, hp]; rfl
    have cat : binU .add false (encS p) (.tup [.str x]) s = .ok (encS (p ++ [x])) s := by
      unfold encS
      rw [o_catT (by rw [List.length_map]; have := hw p (List.mem_of_getElem? hp); have : line = 16777216 := rfl; simp; omega)]
      simp
    have st := setI_O (v := encS (p ++ [x])) hs (k := (below (rk us) x ps : Nat)) (j := below (rk us) x ps) (by unfold ixN; rw [List.length_map, if_pos (by omega), if_pos (by omega)]; simp)
    have enq : encN q = .tup [.int (tp (rk us) p : Nat), .int (below (rk us) x ps : Nat)] := by rw [eq]; rfl
    rw [enq] at mn lc ce
    refine ⟨some (.lst (.tup [.int (tp (rk us) p : Nat), .int (below (rk us) x ps : Nat)] :: qs.map encN)), ?_⟩
    simp -implicitDefEqProofs only [evE, evEs, evO, evT, evAll, evAny, evAnd, evOr, evI, evS, evSs, Rv.bind_ok, Rv.bind_no, Rv.bind_ex, Rv.of_some, Rv.of_none, Rv.fl_ok, Fl.then_nx, Fl.then_rt, Fl.then_bk, Fl.then_ct, varU, List.getElem?_cons_zero, List.getElem?_cons_succ, Option.map_some, Option.bind_some, negU, notU, partU, andK, orK, chnK, chnB, tru, asgK, bindT, bindTs, List.set_cons_zero, List.set_cons_succ, if_true, if_false, Bool.false_eq_true, o_add, o_sub, c_lt, c_gt, c_le, c_ge, c_eq, c_ne, ix_T, ix_L, at0, at1, at2, at3, at4, len_T, len_L, max2_, min2_, tup_L, tup_T, int_b, int_i, src_T, src_L, start, List.map_cons, List.map_nil, List.replicate, List.cons_append, List.nil_append, List.length_cons, List.length_nil, Nat.sub_self, Nat.reduceAdd, Nat.reduceSub, wipe, b1f1, enu, lc, lst_tree, ce, mn, ix_O hs, atI_nat hix, cat, st, lenL, l0, l1]
    rw [List.map_set]
end
end LW
set_option autoImplicit false
set_option Elab.async false
set_option linter.all false
set_option maxRecDepth 100000
namespace LW
open Pv
section
variable {s : MS} {G : Str → Option U} {k : Nat} {us ds : List Str}
theorem cls_S {b : Nat} (p : List Str) : cls b (encS p) = true := by
  simp only [encS, cls]
  exact clss_map fun x _ => by simp only [cls]
theorem take_get {α : Type} {xs : List α} {i : Nat} {x : α} (h : xs[i]? = some x) : xs.take (i + 1) = xs.take i ++ [x] := by
  have hi := (List.getElem?_eq_some_iff.mp h)
  rw [List.take_succ_eq_append_getElem hi.1, hi.2]
theorem nd_take {xs : List Str} (nd : xs.Nodup) {i : Nat} {x : Str} (h : xs[i]? = some x) : x ∉ xs.take i := fun m => by
  obtain ⟨hi, e⟩ := List.getElem?_eq_some_iff.mp h
  obtain ⟨j, hj, ej⟩ := List.mem_iff_getElem.mp m
  rw [List.length_take] at hj
  rw [List.getElem_take] at ej
  have := (List.getElem_inj (xs := xs) (i := j) (j := i) (h₀ := by omega) (h₁ := hi) nd).mp (by rw [ej, e])
  omega
theorem OrdOk.take (h : OrdOk ds us) (i : Nat) : StOk us (ds.take i) (stkF us (ds.take i)) := by
  have := stk_all (ds.take i) [] [] (us := us) StOk.nil (by simpa using h.nd.sublist (List.take_sublist i ds)) (by simpa using fun y hy => h.mem (List.mem_of_mem_take hy))
  rw [List.nil_append] at this
  exact this
theorem len_stk : ∀ (ds : List Str) (ps : List (List Str)), (ds.foldl (fun ps x => place (rk us) x ps) ps).length ≤ ps.length + ds.length
  | [], ps => by simp
  | x :: ds, ps => by
    rw [List.foldl_cons, List.length_cons]
    have h1 := len_stk ds (place (rk us) x ps)
    have h2 := len_set (r := rk us) (x := x) ps
    omega
theorem stkF_len (i : Nat) (h : OrdOk ds us) : (stkF us (ds.take i)).length ≤ 1000 := by
  have h1 := len_stk (us := us) (ds.take i) []
  have h2 := h.few
  have h3 : (ds.take i).length ≤ ds.length := by rw [List.length_take]; omega
  unfold stkF
  simp only [List.length_nil, Nat.zero_add] at h1
  omega
theorem stk_w {done p : List Str} (h : Stk (rk us) done p) (hl : done.length ≤ 1000) : p.length ≤ 1000 := by
  have := h.sub.length_le
  omega
theorem stacks_spec (h : OrdOk ds us) : callF DD G (k + 1) 1 [encS ds, encS us] s = .ok (.tup ((stkF us ds).map encS)) s := by
  obtain ⟨su', s', q1, y3, y4, y5, y6, rfl, rfl⟩ := forL_inv (tg := .name 3) (body := evSs ⟨callF DD G k, callF DD G (k - 1), G⟩ b1f1) (r := ⟨ds.map .str, []⟩) (ds.map .str)
    (fun i su s' => ∃ y3 y4 y5 y6, su = [some (encS ds), some (encS us), some (.obj s.length), y3, y4, y5, y6] ∧ s' = s ++ [.lst ((stkF us (ds.take i)).map encS)]) (fun _ _ _ _ => rfl)
    (fun i x su s' hx ⟨y3, y4, y5, y6, e1, e2⟩ => by
      subst e1 e2
      rw [List.getElem?_map] at hx
      obtain ⟨z, hz, rfl⟩ := Option.map_eq_some_iff.mp hx
      have hzd := List.mem_of_getElem? hz
      have ht := h.take i
      obtain ⟨w4, q⟩ := stacks_turn (X := ⟨callF DD G k, callF DD G (k - 1), G⟩) (D := encS ds) (s := s ++ [.lst ((stkF us (ds.take i)).map encS)]) (n := s.length) (x := z) (x4 := y4) (x5 := y5) (x6 := y6) new0 ht (nd_take h.nd hz) (fun y hy => h.mem (List.mem_of_mem_take hy)) (h.mem hzd) (stkF_len i h)
        (fun p hp => stk_w (ht.stk p hp) (by rw [List.length_take]; have := h.few; omega))
      refine ⟨_, rfl, _, _, .inl q, _, _, _, _, rfl, ?_⟩
      rw [set0, take_get hz]
      unfold stkF
      rw [List.foldl_append]
      rfl)
    [some (encS ds), some (encS us), some (.obj s.length), none, none, none, none] (s ++ [.lst []]) ⟨none, none, none, none, rfl, rfl⟩
  rw [List.length_map, List.take_length] at q1
  have r : evSs ⟨callF DD G k, callF DD G (k - 1), G⟩ d1.body (Pv.start d1.nn [encS ds, encS us]) s = .rt (.tup ((stkF us ds).map encS)) (s ++ [.lst ((stkF us ds).map encS)]) := by
    unfold encS at *
    simp -implicitDefEqProofs only [evE, evEs, evO, evT, evAll, evAny, evAnd, evOr, evI, evS, evSs, Rv.bind_ok, Rv.bind_no, Rv.bind_ex, Rv.of_some, Rv.of_none, Rv.fl_ok, Fl.then_nx, Fl.then_rt, Fl.then_bk, Fl.then_ct, varU, List.getElem?_cons_zero, List.getElem?_cons_succ, Option.map_some, Option.bind_some, negU, notU, partU, andK, orK, chnK, chnB, tru, asgK, bindT, bindTs, List.set_cons_zero, List.set_cons_succ, if_true, if_false, Bool.false_eq_true, o_add, o_sub, c_lt, c_gt, c_le, c_ge, c_eq, c_ne, ix_T, ix_L, at0, at1, at2, at3, at4, len_T, len_L, max2_, min2_, tup_L, tup_T, int_b, int_i, src_T, src_L, start, List.map_cons, List.map_nil, List.replicate, List.cons_append, List.nil_append, List.length_cons, List.length_nil, Nat.sub_self, Nat.reduceAdd, Nat.reduceSub, wipe, d1, b1, lenL, l0, lst_new, q1, tup_O (s := s ++ [.lst ((stkF us ds).map fun p => .tup (p.map U.str))]) new0]
  rw [call_rt (d := d1) rfl rfl r]
  exact fin_val rfl held_self rfl (by simp only [cls]; exact clss_map fun p _ => cls_S p) rfl
/-! ### shown(down, up) -/
def encLR (w : List Str) : U := .tup [.int (w.length : Nat), encS w]
theorem maxKey_enc : ∀ (r : List (List Str)) (x : List Str), ∃ w ∈ x :: r, maxKey (encLR x) (r.map encLR) = encLR w ∧ ∀ v ∈ x :: r, v.length ≤ w.length
  | [], x => ⟨x, List.mem_cons_self .., rfl, fun v hv => by rw [List.mem_singleton.mp hv]; exact Nat.le_refl _⟩
  | y :: r, x => by
    have e : maxKey (encLR x) ((y :: r).map encLR) = maxKey (if hI (encLR x) < hI (encLR y) then encLR y else encLR x) (r.map encLR) := rfl
    have h1 : ∀ w : List Str, hI (encLR w) = (w.length : Nat) := fun _ => rfl
    rw [h1, h1] at e
    by_cases q : x.length < y.length
    · rw [if_pos (by omega)] at e
      obtain ⟨w, hw, e2, h3⟩ := maxKey_enc r y
      refine ⟨w, List.mem_cons_of_mem _ hw, e.trans e2, fun v hv => ?_⟩
      rcases List.mem_cons.mp hv with rfl | hv
      · have := h3 y (List.mem_cons_self ..)
        omega
      · exact h3 v hv
    · rw [if_neg (by omega)] at e
      obtain ⟨w, hw, e2, h3⟩ := maxKey_enc r x
      refine ⟨w, ?_, e.trans e2, fun v hv => ?_⟩
      · rcases List.mem_cons.mp hw with rfl | hw
        · exact List.mem_cons_self ..
        · exact List.mem_cons_of_mem _ (List.mem_cons_of_mem _ hw)
      · rcases List.mem_cons.mp hv with rfl | hv
        · exact h3 v (List.mem_cons_self ..)
        · rcases List.mem_cons.mp hv with rfl | hv
          · have := h3 x (List.mem_cons_self ..)
            omega
          · exact h3 v (List.mem_cons_of_mem _ hv)
theorem maxk_L {q : Str} {x : List Str} {r : List (List Str)} (h : s[(0 : Nat)]? = some (.tab q)) : biU (.maxkey q) [.lst ((x :: r).map encLR)] s = .ok (maxKey (encLR x) (r.map encLR)) s := by
  have e : ((x :: r).map encLR).all (fun u => (headI u).isSome) = true := List.all_eq_true.mpr fun u hu => by
    obtain ⟨w, _, rfl⟩ := List.mem_map.mp hu
    rfl
  rw [List.map_cons] at e ⊢
  simp only [biU, lstOf, h]
  rw [if_pos ⟨trivial, e⟩]
abbrev qL : Str := "shown.<locals>.<lambda>"
theorem shown_turn {X : Ctx} {n : Nat} {ws : List (List Str)} {x : Str} {D : U} {x4 x5 x6 x7 : Option U} (h0 : s[(0 : Nat)]? = some (.tab qL)) (hs : s[n]? = some (.lst (ws.map encS))) (hw : ∀ w ∈ ws, w ≠ [] ∧ w.length ≤ 1000 ∧ ∀ y ∈ w, y ∈ us ∧ Sh y) (hxu : x ∈ us) (hl : ws.length ≤ 1000) :
    ∃ best y6 y7, evSs X b2f1 [some D, some (encS us), some (.obj n), some (.str x), x4, x5, x6, x7] s = .nx [some D, some (encS us), some (.obj n), some (.str x), x4, x5, y6, y7] (s.set n (.lst ((ws ++ [best ++ [x]]).map encS))) ∧
      (best = [] ∧ (∀ w ∈ ws, ¬ tp (rk us) w < rk us x) ∨ (best ∈ ws ∧ tp (rk us) best < rk us x)) ∧ ∀ w ∈ ws, tp (rk us) w < rk us x → w.length ≤ best.length := by
  have lc : lcL [5] (.name 5) (evAll X b2c2) (evE X b2e2) ⟨ws.map encS, [(n, ws.map encS)]⟩ [some D, some (encS us), some (.obj n), some (.str x), x4, x5, x6, x7] (ws.map encS) [] s = .ok ((ws.filter fun w => decide (tp (rk us) w < rk us x)).map encS) s := by
    have := lcL_pure (s := s) (vs := [5]) (tg := .name 5) (c := evAll X b2c2) (e := evE X b2e2) (r := ⟨ws.map encS, [(n, ws.map encS)]⟩) (su := [some D, some (encS us), some (.obj n), some (.str x), x4, x5, x6, x7])
      encS (fun w => decide (tp (rk us) w < rk us x)) encS (ok_one hs) ws (fun w hwm => ?_) []
    · rw [this]
      rfl
    · obtain ⟨h1, h2, h3⟩ := hw w hwm
      obtain ⟨z, hz, e1, e2⟩ := last_rk (us := us) h1
      refine ⟨_, rfl, ?_, fun _ => ?_⟩
      · unfold encS at *
        simp -implicitDefEqProofs only [evE, evEs, evO, evT, evAll, evAny, evAnd, evOr, evI, evS, evSs, Rv.bind_ok, Rv.bind_no, Rv.bind_ex, Rv.of_some, Rv.of_none, Rv.fl_ok, Fl.then_nx, Fl.then_rt, Fl.then_bk, Fl.then_ct, varU, List.getElem?_cons_zero, List.getElem?_cons_succ, Option.map_some, Option.bind_some, negU, notU, partU, andK, orK, chnK, chnB, tru, asgK, bindT, bindTs, List.set_cons_zero, List.set_cons_succ, if_true, if_false, Bool.false_eq_true, o_add, o_sub, c_lt, c_gt, c_le, c_ge, c_eq, c_ne, ix_T, ix_L, at0, at1, at2, at3, at4, len_T, len_L, max2_, min2_, tup_L, tup_T, int_b, int_i, src_T, src_L, start, List.map_cons, List.map_nil, List.replicate, List.cons_append, List.nil_append, List.length_cons, List.length_nil, Nat.sub_self, Nat.reduceAdd, Nat.reduceSub, wipe, b2c2, me_ix, e1, ix_st (h3 z hz).1, ix_st hxu, e2]
        by_cases q : rk us z < rk us x
        · rw [decide_eq_true q, decide_eq_true (by omega)]
          rfl
        · rw [decide_eq_false q, decide_eq_false (by omega)]
          rfl
      · simp -implicitDefEqProofs only [evE, evEs, evO, evT, evAll, evAny, evAnd, evOr, evI, evS, evSs, Rv.bind_ok, Rv.bind_no, Rv.bind_ex, Rv.of_some, Rv.of_none, Rv.fl_ok, Fl.then_nx, Fl.then_rt, Fl.then_bk, Fl.then_ct, varU, List.getElem?_cons_zero, List.getElem?_cons_succ, Option.map_some, Option.bind_some, negU, notU, partU, andK, orK, chnK, chnB, tru, asgK, bindT, bindTs, List.set_cons_zero, List.set_cons_succ, if_true, if_false, Bool.false_eq_true, o_add, o_sub, c_lt, c_gt, c_le, c_ge, c_eq, c_ne, ix_T, ix_L, at0, at1, at2, at3, at4, len_T, len_L, max2_, min2_, tup_L, tup_T, int_b, int_i, src_T, src_L, start, List.map_cons, List.map_nil, List.replicate, List.cons_append, List.nil_append, List.length_cons, List.length_nil, Nat.sub_self, Nat.reduceAdd, Nat.reduceSub, wipe, b2e2]
  have hA : ∀ w ∈ ws.filter (fun w => decide (tp (rk us) w < rk us x)), w ∈ ws ∧ tp (rk us) w < rk us x := fun w hw => by simpa using List.mem_filter.mp hw
  have hA2 : ∀ w ∈ ws, tp (rk us) w < rk us x → w ∈ ws.filter (fun w => decide (tp (rk us) w < rk us x)) := fun w h1 h2 => List.mem_filter.mpr ⟨h1, decide_eq_true h2⟩
  generalize hAe : ws.filter (fun w => decide (tp (rk us) w < rk us x)) = A at *
  have dA : ∀ v ∈ A, Sm 1 (encS v) := fun v hv => Sm.S fun y hy => ((hw v (hA v hv).1).2.2 y hy).2
  have ce : cmpU .ne (.lst (A.map encS)) (.lst []) s = some (!decide (A.map encS = [])) := by
    rw [c_neL (dat_lst (dats_map fun v hv => ⟨(dA v hv).1, by have := (dA v hv).2; omega⟩)) rfl, eqUs_nil]
  have cat : ∀ w : List Str, w.length ≤ 1000 → binU .add false (encS w) (.tup [.str x]) s = .ok (encS (w ++ [x])) s := fun w hl => by
    unfold encS
    rw [o_catT (by rw [List.length_map]; have : line = 16777216 := rfl; simp; omega)]
    simp
  have ap : ∀ w : List Str, meU .append (.obj n) [encS w] s = .ok .non (s.set n (.lst ((ws ++ [w]).map encS))) := fun w => by
    rw [app_O hs (by rw [List.length_map]; exact line_ge hl)]
    simp
  have src := src_O hs
  cases hc : A with
  | nil =>
    rw [hc] at lc ce
    rw [List.map_nil] at lc ce
    rw [decide_eq_true rfl, Bool.not_true] at ce
    refine ⟨[], some (.lst []), some (.tup []), ?_, .inl ⟨rfl, fun w hwm q => ?_⟩, fun w hwm q => ?_⟩
    · have c0 := cat [] (by simp)
      have a0 := ap [x]
      simp only [List.nil_append] at c0
      rw [show encS [] = .tup [] from rfl] at c0
      simp -implicitDefEqProofs only [evE, evEs, evO, evT, evAll, evAny, evAnd, evOr, evI, evS, evSs, Rv.bind_ok, Rv.bind_no, Rv.bind_ex, Rv.of_some, Rv.of_none, Rv.fl_ok, Fl.then_nx, Fl.then_rt, Fl.then_bk, Fl.then_ct, varU, List.getElem?_cons_zero, List.getElem?_cons_succ, Option.map_some, Option.bind_some, negU, notU, partU, andK, orK, chnK, chnB, tru, asgK, bindT, bindTs, List.set_cons_zero, List.set_cons_succ, if_true, if_false, Bool.false_eq_true, o_add, o_sub, c_lt, c_gt, c_le, c_ge, c_eq, c_ne, ix_T, ix_L, at0, at1, at2, at3, at4, len_T, len_L, max2_, min2_, tup_L, tup_T, int_b, int_i, src_T, src_L, start, List.map_cons, List.map_nil, List.replicate, List.cons_append, List.nil_append, List.length_cons, List.length_nil, Nat.sub_self, Nat.reduceAdd, Nat.reduceSub, wipe, b2f1, src, lc, lst_tree, ce, c0, a0, lenL, meK_O hs, l0, l1]
    · have := hA2 w hwm q
      rw [hc] at this
      cases this
    · have := hA2 w hwm q
      rw [hc] at this
      cases this
  | cons a r =>
    obtain ⟨w, hwm, em, hmx⟩ := maxKey_enc r a
    have lc2 : ∀ y6 y7, lcL [5] (.name 5) (evAll X b2c1) (evE X b2e1) ⟨A.map encS, []⟩ [some D, some (encS us), some (.obj n), some (.str x), x4, x5, y6, y7] (A.map encS) [] s = .ok (A.map encLR) s := fun y6 y7 => by
      have := lcL_pure (s := s) (vs := [5]) (tg := .name 5) (c := evAll X b2c1) (e := evE X b2e1) (r := ⟨A.map encS, []⟩) (su := [some D, some (encS us), some (.obj n), some (.str x), x4, x5, y6, y7])
        encS (fun _ => true) encLR rfl A (fun w hwm => ?_) []
      · rw [this, List.filter_eq_self.mpr fun _ _ => rfl]
        rfl
      · refine ⟨_, rfl, ?_, fun _ => ?_⟩
        · simp -implicitDefEqProofs only [evE, evEs, evO, evT, evAll, evAny, evAnd, evOr, evI, evS, evSs, Rv.bind_ok, Rv.bind_no, Rv.bind_ex, Rv.of_some, Rv.of_none, Rv.fl_ok, Fl.then_nx, Fl.then_rt, Fl.then_bk, Fl.then_ct, varU, List.getElem?_cons_zero, List.getElem?_cons_succ, Option.map_some, Option.bind_some, negU, notU, partU, andK, orK, chnK, chnB, tru, asgK, bindT, bindTs, List.set_cons_zero, List.set_cons_succ, if_true, if_false, Bool.false_eq_true, o_add, o_sub, c_lt, c_gt, c_le, c_ge, c_eq, c_ne, ix_T, ix_L, at0, at1, at2, at3, at4, len_T, len_L, max2_, min2_, tup_L, tup_T, int_b, int_i, src_T, src_L, start, List.map_cons, List.map_nil, List.replicate, List.cons_append, List.nil_append, List.length_cons, List.length_nil, Nat.sub_self, Nat.reduceAdd, Nat.reduceSub, wipe, b2c1]
        · unfold encLR encS
          simp -implicitDefEqProofs only [evE, evEs, evO, evT, evAll, evAny, evAnd, evOr, evI, evS, evSs, Rv.bind_ok, Rv.bind_no, Rv.bind_ex, Rv.of_some, Rv.of_none, Rv.fl_ok, Fl.then_nx, Fl.then_rt, Fl.then_bk, Fl.then_ct, varU, List.getElem?_cons_zero, List.getElem?_cons_succ, Option.map_some, Option.bind_some, negU, notU, partU, andK, orK, chnK, chnB, tru, asgK, bindT, bindTs, List.set_cons_zero, List.set_cons_succ, if_true, if_false, Bool.false_eq_true, o_add, o_sub, c_lt, c_gt, c_le, c_ge, c_eq, c_ne, ix_T, ix_L, at0, at1, at2, at3, at4, len_T, len_L, max2_, min2_, tup_L, tup_T, int_b, int_i, src_T, src_L, start, List.map_cons, List.map_nil, List.replicate, List.cons_append, List.nil_append, List.length_cons, List.length_nil, Nat.sub_self, Nat.reduceAdd, Nat.reduceSub, wipe, b2e1, lenL, l2]
          simp
    rw [hc] at lc ce lc2
    have ce2 : cmpU .ne (.lst ((a :: r).map encS)) (.lst []) s = some true := by rw [ce]; rfl
    have mk := maxk_L (s := s) (q := qL) (x := a) (r := r) h0
    rw [em] at mk
    have hws := (hA w (by rw [hc]; exact hwm)).1
    have i1 : idxU (encLR w) (.int 1) s = some (encS w) := rfl
    refine ⟨w, some (.lst ((a :: r).map encS)), some (encS w), ?_, .inr (hA w (by rw [hc]; exact hwm)), fun v hv q => ?_⟩
    · have c0 := cat w (hw w hws).2.1
      have a0 := ap (w ++ [x])
      generalize (a :: r).map encS = Au at *
      generalize (a :: r).map encLR = Bu at *
      generalize encS us = Us at *
      simp -implicitDefEqProofs only [evE, evEs, evO, evT, evAll, evAny, evAnd, evOr, evI, evS, evSs, Rv.bind_ok, Rv.bind_no, Rv.bind_ex, Rv.of_some, Rv.of_none, Rv.fl_ok, Fl.then_nx, Fl.then_rt, Fl.then_bk, Fl.then_ct, varU, List.getElem?_cons_zero, List.getElem?_cons_succ, Option.map_some, Option.bind_some, negU, notU, partU, andK, orK, chnK, chnB, tru, asgK, bindT, bindTs, List.set_cons_zero, List.set_cons_succ, if_true, if_false, Bool.false_eq_true, o_add, o_sub, c_lt, c_gt, c_le, c_ge, c_eq, c_ne, ix_T, ix_L, at0, at1, at2, at3, at4, len_T, len_L, max2_, min2_, tup_L, tup_T, int_b, int_i, src_T, src_L, start, List.map_cons, List.map_nil, List.replicate, List.cons_append, List.nil_append, List.length_cons, List.length_nil, Nat.sub_self, Nat.reduceAdd, Nat.reduceSub, wipe, b2f1, src, lc, lst_tree, ce2, src_L, lc2, mk, i1, c0, a0, lenL, meK_O hs, l0, l1]
    · have := hA2 v hv q
      rw [hc] at this
      exact hmx v this
end
end LW
set_option autoImplicit false
set_option Elab.async false
set_option linter.all false
set_option maxRecDepth 100000
namespace LW
open Pv
section
variable {s : MS} {G : Str → Option U} {k : Nat} {us ds : List Str}
theorem app0 {q : Str} {r : MS} (h : s[(0 : Nat)]? = some (.tab q)) : (s ++ r)[(0 : Nat)]? = some (.tab q) := by
  rw [List.getElem?_append_left (List.getElem?_eq_some_iff.mp h).1]
  exact h
theorem row_sub {done w : List Str} (h : Rw_ (rk us) done w) (hl : done.length ≤ 1000) : w.length ≤ 1000 := by
  have := h.sub.length_le
  omega
theorem shown_spec (h0 : s[(0 : Nat)]? = some (.tab qL)) (h : OrdOk ds us) : ∃ w, callF DD G (k + 1) 2 [encS ds, encS us] s = .ok (encS w) s ∧ w.length = (stkF us ds).length ∧ Rw_ (rk us) ds w := by
  obtain ⟨su', s', q1, y3, y4, y5, y6, y7, ws, rfl, rfl, hP, hR, hwl⟩ := forL_inv (tg := .name 3) (body := evSs ⟨callF DD G k, callF DD G (k - 1), G⟩ b2f1) (r := ⟨ds.map .str, []⟩) (ds.map .str)
    (fun i su s' => ∃ y3 y4 y5 y6 y7 ws, su = [some (encS ds), some (encS us), some (.obj s.length), y3, y4, y5, y6, y7] ∧ s' = s ++ [.lst (ws.map encS)] ∧ Pats (rk us) (stkF us (ds.take i)) ws ∧ (∀ w ∈ ws, Rw_ (rk us) (ds.take i) w) ∧ ws.length ≤ i) (fun _ _ _ _ => rfl)
    (fun i x su s' hx ⟨y3, y4, y5, y6, y7, ws, e1, e2, hP, hR, hwl⟩ => by
      subst e1 e2
      rw [List.getElem?_map] at hx
      obtain ⟨z, hz, rfl⟩ := Option.map_eq_some_iff.mp hx
      have hzd := List.mem_of_getElem? hz
      have hil := (List.getElem?_eq_some_iff.mp hz).1
      have hfw := h.few
      have ht := h.take i
      have htl : (ds.take i).length ≤ 1000 := by rw [List.length_take]; omega
      obtain ⟨best, w6, w7, q, hb, hm⟩ := shown_turn (X := ⟨callF DD G k, callF DD G (k - 1), G⟩) (D := encS ds) (us := us) (s := s ++ [.lst (ws.map encS)]) (n := s.length) (ws := ws) (x := z) (x4 := y4) (x5 := y5) (x6 := y6) (x7 := y7) (app0 h0) new0
        (fun w hw => ⟨(hP.at_ w hw).1, row_sub (hR w hw) htl, fun y hy => have hyd := List.mem_of_mem_take ((hR w hw).sub.subset hy); ⟨h.mem hyd, h.sh y hyd⟩⟩) (h.mem hzd) (by omega)
      refine ⟨_, rfl, _, _, .inl q, _, _, _, _, _, ws ++ [best ++ [z]], rfl, by rw [set0], ?_, fun w hw => ?_, by simp; omega⟩
      · have e : stkF us (ds.take (i + 1)) = place (rk us) z (stkF us (ds.take i)) := by
          rw [take_get hz]
          unfold stkF
          rw [List.foldl_append]
          rfl
        rw [e]
        exact hP.step _ (ht.ne (nd_take h.nd hz) fun y hy => h.mem (List.mem_of_mem_take hy)) hb hm
      · rw [take_get hz]
        rcases List.mem_append.mp hw with hw | hw
        · exact row_more _ (hR w hw)
        · rw [List.mem_singleton.mp hw]
          refine row_step _ ?_ ?_
          · rcases hb with ⟨rfl, _⟩ | ⟨hb, _⟩
            · exact ⟨List.nil_sublist _, List.Pairwise.nil⟩
            · exact hR best hb
          · rcases hb with ⟨rfl, _⟩ | ⟨_, hb⟩
            · exact .inl rfl
            · exact .inr hb)
    [some (encS ds), some (encS us), some (.obj s.length), none, none, none, none, none] (s ++ [.lst []]) ⟨none, none, none, none, none, [], rfl, rfl, Pats.nil _, (fun w hw => (by cases hw)), by simp⟩
  rw [List.length_map, List.take_length] at hP hR
  rw [List.length_map] at hwl
  have hfw := h.few
  -- the longest
  obtain ⟨su2, s2, q2, z5, f, e1, e2, hf1, hf2⟩ := forL_inv (tg := .name 5) (body := evSs ⟨callF DD G k, callF DD G (k - 1), G⟩ b2f2) (r := ⟨ws.map encS, [(s.length, ws.map encS)]⟩) (ws.map encS)
    (fun i su s' => ∃ z5 f, su = [some (encS ds), some (encS us), some (.obj s.length), y3, some (encS f), z5, y6, y7] ∧ s' = s ++ [.lst (ws.map encS)] ∧ (f = [] ∨ f ∈ ws) ∧ ∀ w ∈ ws.take i, w.length ≤ f.length) (fun i su s' ⟨_, _, _, e, _⟩ => by rw [e]; exact ok_one new0)
    (fun i x su s' hx ⟨z5, f, e1, e2, hf1, hf2⟩ => by
      subst e1 e2
      rw [List.getElem?_map] at hx
      obtain ⟨w, hw, rfl⟩ := Option.map_eq_some_iff.mp hx
      by_cases q : f.length < w.length
      · refine ⟨_, rfl, [some (encS ds), some (encS us), some (.obj s.length), y3, some (encS w), some (encS w), y6, y7], s ++ [.lst (ws.map encS)], .inl ?_, _, w, rfl, rfl, .inr (List.mem_of_getElem? hw), fun v hv => ?_⟩
        · unfold encS
          have q' : decide (((f.map U.str).length : Int) < ((w.map U.str).length : Nat)) = true := decide_eq_true (by simp; omega)
          simp -implicitDefEqProofs only [evE, evEs, evO, evT, evAll, evAny, evAnd, evOr, evI, evS, evSs, Rv.bind_ok, Rv.bind_no, Rv.bind_ex, Rv.of_some, Rv.of_none, Rv.fl_ok, Fl.then_nx, Fl.then_rt, Fl.then_bk, Fl.then_ct, varU, List.getElem?_cons_zero, List.getElem?_cons_succ, Option.map_some, Option.bind_some, negU, notU, partU, andK, orK, chnK, chnB, tru, asgK, bindT, bindTs, List.set_cons_zero, List.set_cons_succ, if_true, if_false, Bool.false_eq_true, o_add, o_sub, c_lt, c_gt, c_le, c_ge, c_eq, c_ne, ix_T, ix_L, at0, at1, at2, at3, at4, len_T, len_L, max2_, min2_, tup_L, tup_T, int_b, int_i, src_T, src_L, start, List.map_cons, List.map_nil, List.replicate, List.cons_append, List.nil_append, List.length_cons, List.length_nil, Nat.sub_self, Nat.reduceAdd, Nat.reduceSub, wipe, b2f2, q']
        · rw [take_get hw] at hv
          rcases List.mem_append.mp hv with hv | hv
          · have := hf2 v hv
            omega
          · rw [List.mem_singleton.mp hv]
            exact Nat.le_refl _
      · refine ⟨_, rfl, [some (encS ds), some (encS us), some (.obj s.length), y3, some (encS f), some (encS w), y6, y7], s ++ [.lst (ws.map encS)], .inl ?_, _, f, rfl, rfl, hf1, fun v hv => ?_⟩
        · unfold encS
          have q' : decide (((f.map U.str).length : Int) < ((w.map U.str).length : Nat)) = false := decide_eq_false (by simp; omega)
          simp -implicitDefEqProofs only [evE, evEs, evO, evT, evAll, evAny, evAnd, evOr, evI, evS, evSs, Rv.bind_ok, Rv.bind_no, Rv.bind_ex, Rv.of_some, Rv.of_none, Rv.fl_ok, Fl.then_nx, Fl.then_rt, Fl.then_bk, Fl.then_ct, varU, List.getElem?_cons_zero, List.getElem?_cons_succ, Option.map_some, Option.bind_some, negU, notU, partU, andK, orK, chnK, chnB, tru, asgK, bindT, bindTs, List.set_cons_zero, List.set_cons_succ, if_true, if_false, Bool.false_eq_true, o_add, o_sub, c_lt, c_gt, c_le, c_ge, c_eq, c_ne, ix_T, ix_L, at0, at1, at2, at3, at4, len_T, len_L, max2_, min2_, tup_L, tup_T, int_b, int_i, src_T, src_L, start, List.map_cons, List.map_nil, List.replicate, List.cons_append, List.nil_append, List.length_cons, List.length_nil, Nat.sub_self, Nat.reduceAdd, Nat.reduceSub, wipe, b2f2, q']
        · rw [take_get hw] at hv
          rcases List.mem_append.mp hv with hv | hv
          · exact hf2 v hv
          · rw [List.mem_singleton.mp hv]
            omega)
    [some (encS ds), some (encS us), some (.obj s.length), y3, some (.tup []), y5, y6, y7] (s ++ [.lst (ws.map encS)]) ⟨_, [], rfl, rfl, .inl rfl, fun w hw => (by simp at hw)⟩
  subst e1 e2
  rw [List.length_map, List.take_length] at hf2
  obtain ⟨lg1, lg2⟩ := hP.longest
  refine ⟨f, ?_, ?_, ?_⟩
  · have r : evSs ⟨callF DD G k, callF DD G (k - 1), G⟩ d2.body (Pv.start d2.nn [encS ds, encS us]) s = .rt (encS f) (s ++ [.lst (ws.map encS)]) := by
      have src : srcSeq (.obj s.length) (s ++ [.lst (ws.map encS)]) = some ⟨ws.map encS, [(s.length, ws.map encS)]⟩ := src_O new0
      have sd : srcSeq (encS ds) (s ++ [.lst []]) = some ⟨ds.map .str, []⟩ := rfl
      generalize encS f = Fu at *
      generalize encS us = Us at *
      generalize encS ds = Ds at *
      simp -implicitDefEqProofs only [evE, evEs, evO, evT, evAll, evAny, evAnd, evOr, evI, evS, evSs, Rv.bind_ok, Rv.bind_no, Rv.bind_ex, Rv.of_some, Rv.of_none, Rv.fl_ok, Fl.then_nx, Fl.then_rt, Fl.then_bk, Fl.then_ct, varU, List.getElem?_cons_zero, List.getElem?_cons_succ, Option.map_some, Option.bind_some, negU, notU, partU, andK, orK, chnK, chnB, tru, asgK, bindT, bindTs, List.set_cons_zero, List.set_cons_succ, if_true, if_false, Bool.false_eq_true, o_add, o_sub, c_lt, c_gt, c_le, c_ge, c_eq, c_ne, ix_T, ix_L, at0, at1, at2, at3, at4, len_T, len_L, max2_, min2_, tup_L, tup_T, int_b, int_i, src_T, src_L, start, List.map_cons, List.map_nil, List.replicate, List.cons_append, List.nil_append, List.length_cons, List.length_nil, Nat.sub_self, Nat.reduceAdd, Nat.reduceSub, wipe, d2, b2, lenL, l0, lst_new, sd, q1, src, q2]
    rw [call_rt (d := d2) rfl rfl r]
    exact fin_val rfl held_self rfl (cls_S f) rfl
  · by_cases hn : stkF us ds = []
    · rw [hn]
      rcases hf1 with rfl | hf1
      · rfl
      · have := lg1 f hf1
        rw [hn] at this
        simpa using this
    · obtain ⟨w, hw, hwl2⟩ := lg2 hn
      have h1 := hf2 w hw
      rcases hf1 with rfl | hf1
      · have := List.length_pos_iff.mpr hn
        simp only [List.length_nil] at h1
        omega
      · have := lg1 f hf1
        omega
  · rcases hf1 with rfl | hf1
    · exact ⟨List.nil_sublist _, List.Pairwise.nil⟩
    · exact hR f hf1
end
end LW
set_option autoImplicit false
set_option Elab.async false
set_option linter.all false
set_option maxRecDepth 100000
namespace LW
open Pv
/-! ### two orders drawn -/
theorem insAt_perm {α : Type} (xs : List α) (i : Nat) (x : α) : (insAt xs i x).Perm (xs ++ [x]) := by
  unfold insAt
  have h1 : (xs.take i ++ x :: xs.drop i).Perm (x :: (xs.take i ++ xs.drop i)) := List.perm_middle
  rw [List.take_append_drop] at h1
  exact h1.trans (List.perm_append_comm (l₁ := [x]) (l₂ := xs))
theorem insAt_map {α β : Type} (f : α → β) (xs : List α) (i : Nat) (x : α) : insAt (xs.map f) i (f x) = (insAt xs i x).map f := by
  simp [insAt, List.map_take, List.map_drop]
section
variable {s t r : MS} {G : Str → Option U} {k b n : Nat}
theorem get_r {j : Nat} (h : n = t.length + j) : (t ++ r)[n]? = r[j]? := by
  rw [h, List.getElem?_append_right (by omega)]
  congr 1
  omega
theorem set_r {j : Nat} {o : O} (h : n = t.length + j) : (t ++ r).set n o = t ++ r.set j o := by
  rw [h, List.set_append_right _ _ (by omega)]
  congr 2
  omega
theorem ins_O {xs : List U} {i : Int} {u : U} (h : s[n]? = some (.lst xs)) (z : xs.length < line) (h0 : 0 ≤ i) (h1 : i ≤ xs.length) : meU .insert (.obj n) [.int i, u] s = .ok .non (s.set n (.lst (insAt xs i.toNat u))) := by
  simp only [meU, h]
  rw [if_pos ⟨z, h0, h1⟩]
theorem meK_I {xs : List U} {kk : MS → Rv U} (h : s[n]? = some (.lst xs)) : meK .insert (.obj n) kk s = kk s := by
  simp only [meK, recv, lstOf, h, Option.isSome_some, if_true]
theorem side_turn {X : Ctx} (hX : X.call = callF DD G (k + 1)) {names : List Str} {t0 : MS} {rows : List (List Str)} {M x4 x5 x6 : Option U} (hb : IsBag t0 b) (hl : names.length ≤ 1000) (hr : r[0]? = some (.lst (rows.map encS))) (hrl : rows.length ≤ 1000) :
    ∃ row t' r' y5 y6, evSs X b11f2 [some (.obj b), M, some (.lst (names.map .str)), some (.obj t0.length), x4, x5, x6] (t0 ++ r) = .nx [some (.obj b), M, some (.lst (names.map .str)), some (.obj t0.length), x4, y5, y6] (t' ++ r') ∧ Bg b t0 t' ∧ row.Perm names ∧ r'[0]? = some (.lst ((rows ++ [row]).map encS)) := by
  obtain ⟨su', s', q1, t', row, y6, rfl, rfl, hg, hp⟩ := forL_inv (tg := .name 6) (body := evSs X b11f1) (r := ⟨names.map .str, []⟩) (names.map .str)
    (fun i su s' => ∃ t row y6, su = [some (.obj b), M, some (.lst (names.map .str)), some (.obj t0.length), x4, some (.obj (t0.length + r.length)), y6] ∧ s' = t ++ (r ++ [.lst (row.map .str)]) ∧ Bg b t0 t ∧ row.Perm (names.take i)) (fun _ _ _ _ => rfl)
    (fun i x su s' hx ⟨t, row, y6, e1, e2, hg, hp⟩ => by
      subst e1 e2
      rw [List.getElem?_map] at hx
      obtain ⟨z, hz, rfl⟩ := Option.map_eq_some_iff.mp hx
      have hrow : row.length ≤ 1000 := by
        rw [hp.length_eq, List.length_take]
        omega
      have hn : (t ++ (r ++ [.lst (row.map U.str)]))[t0.length + r.length]? = some (.lst (row.map .str)) := by
        rw [get_r (j := r.length) (by rw [hg.len])]
        simp
      obtain ⟨v, t2, e, h1, h2, g2⟩ := tk (G := G) (k := k) (t := t) (r := r ++ [.lst (row.map U.str)]) hg.bag (many := (row.length : Int) + 1) (by omega)
      have hn2 : (t2 ++ (r ++ [.lst (row.map U.str)]))[t0.length + r.length]? = some (.lst (row.map .str)) := by
        rw [get_r (j := r.length) (by rw [g2.len, hg.len])]
        simp
      have ins := ins_O (u := .str z) hn2 (by rw [List.length_map]; exact line_ge hrow) h1 (by rw [List.length_map]; omega)
      rw [insAt_map, set_r (j := r.length) (by rw [g2.len, hg.len])] at ins
      have ln := len_O hn
      rw [List.length_map] at ln
      refine ⟨_, rfl, [some (.obj b), M, some (.lst (names.map .str)), some (.obj t0.length), x4, some (.obj (t0.length + r.length)), some (.str z)], t2 ++ (r ++ [.lst ((insAt row v.toNat z).map .str)]), .inl ?_, t2, _, _, rfl, rfl, hg.trans g2, ?_⟩
      · simp -implicitDefEqProofs only [evE, evEs, evO, evT, evAll, evAny, evAnd, evOr, evI, evS, evSs, Rv.bind_ok, Rv.bind_no, Rv.bind_ex, Rv.of_some, Rv.of_none, Rv.fl_ok, Fl.then_nx, Fl.then_rt, Fl.then_bk, Fl.then_ct, varU, List.getElem?_cons_zero, List.getElem?_cons_succ, Option.map_some, Option.bind_some, negU, notU, partU, andK, orK, chnK, chnB, tru, asgK, bindT, bindTs, List.set_cons_zero, List.set_cons_succ, if_true, if_false, Bool.false_eq_true, o_add, o_sub, c_lt, c_gt, c_le, c_ge, c_eq, c_ne, ix_T, ix_L, at0, at1, at2, at3, at4, len_T, len_L, max2_, min2_, tup_L, tup_T, int_b, int_i, src_T, src_L, start, List.map_cons, List.map_nil, List.replicate, List.cons_append, List.nil_append, List.length_cons, List.length_nil, Nat.sub_self, Nat.reduceAdd, Nat.reduceSub, wipe, b11f1, hX, meK_I hn, ln, e, ins]
        simp
      · rw [take_get hz]
        exact (insAt_perm row v.toNat z).trans (hp.append (List.Perm.refl _)))
    [some (.obj b), M, some (.lst (names.map .str)), some (.obj t0.length), x4, some (.obj (t0.length + r.length)), x6] (t0 ++ (r ++ [.lst []])) ⟨t0, [], x6, rfl, rfl, Bg.refl hb, by simp⟩
  rw [List.length_map, List.take_length] at hp
  have hr0 : 0 < r.length := (List.getElem?_eq_some_iff.mp hr).1
  have hn : (t' ++ (r ++ [.lst (row.map U.str)]))[t0.length + r.length]? = some (.lst (row.map .str)) := by
    rw [get_r (j := r.length) (by rw [hg.len])]
    simp
  have hf : (t' ++ (r ++ [.lst (row.map U.str)]))[t0.length]? = some (.lst (rows.map encS)) := by
    rw [get_r (j := 0) (by rw [hg.len, Nat.add_zero]), List.getElem?_append_left hr0]
    exact hr
  have ap := app_O (u := encS row) hf (by rw [List.length_map]; exact line_ge hrl)
  rw [set_r (j := 0) (by rw [hg.len, Nat.add_zero])] at ap
  refine ⟨row, t', (r ++ [O.lst (row.map U.str)]).set 0 (.lst (rows.map encS ++ [encS row])), some (.obj (t0.length + r.length)), y6, ?_, hg, hp, ?_⟩
  · have mk : mkL true [] (t0 ++ r) = .ok (.obj (t0.length + r.length)) (t0 ++ (r ++ [.lst []])) := by
      rw [lst_new, List.length_append, List.append_assoc]
    have tu : biU .tuple [.obj (t0.length + r.length)] (t' ++ (r ++ [.lst (row.map U.str)])) = .ok (encS row) (t' ++ (r ++ [.lst (row.map U.str)])) := tup_O hn
    have src : ∀ s, srcSeq (.lst (names.map U.str)) s = some ⟨names.map .str, []⟩ := fun _ => rfl
    generalize names.map U.str = Nm at *
    simp -implicitDefEqProofs only [evE, evEs, evO, evT, evAll, evAny, evAnd, evOr, evI, evS, evSs, Rv.bind_ok, Rv.bind_no, Rv.bind_ex, Rv.of_some, Rv.of_none, Rv.fl_ok, Fl.then_nx, Fl.then_rt, Fl.then_bk, Fl.then_ct, varU, List.getElem?_cons_zero, List.getElem?_cons_succ, Option.map_some, Option.bind_some, negU, notU, partU, andK, orK, chnK, chnB, tru, asgK, bindT, bindTs, List.set_cons_zero, List.set_cons_succ, if_true, if_false, Bool.false_eq_true, o_add, o_sub, c_lt, c_gt, c_le, c_ge, c_eq, c_ne, ix_T, ix_L, at0, at1, at2, at3, at4, len_T, len_L, max2_, min2_, tup_L, tup_T, int_b, int_i, src_T, src_L, start, List.map_cons, List.map_nil, List.replicate, List.cons_append, List.nil_append, List.length_cons, List.length_nil, Nat.sub_self, Nat.reduceAdd, Nat.reduceSub, wipe, b11f2, lenL, l0, mk, q1, tu, meK_O hf, ap]
  · rw [List.getElem?_set_self (by simp)]
    simp
theorem mem10 {x : Str} {v : Nat} (h : x ∈ names10.take v) : x ∈ names10 := List.mem_of_mem_take h
theorem orders_spec {most : Nat} (hb : IsBag t b) (hm : most ≤ 10) : ∃ ds us t', callF DD G (k + 2) 11 [.obj b, .int most] t = .ok (.lst [encS ds, encS us]) t' ∧ Bg b t t' ∧ OrdOk ds us ∧ ds.length ≤ most := by
  obtain ⟨v, t1, e1, v1, v2, g1⟩ := tk0 (G := G) (k := k) hb (many := (most : Int) + 1) (by omega)
  have hv : v.toNat ≤ most := by omega
  generalize hnm : names10.take v.toNat = names
  have hnl : names.length ≤ most := by rw [← hnm, List.length_take]; omega
  have hnd : names.Nodup := by rw [← hnm]; exact names10_nd.sublist (List.take_sublist _ _)
  have hsh : ∀ x ∈ names, Sh x := fun x hx => names10_sh x (mem10 (by rw [hnm]; exact hx))
  have slc : ∀ s, slcU (.lst (names10.map U.str)) none (some v) s = some (.lst (names.map .str)) := fun s => by
    have h1 : sIx 10 10 (some v) = v.toNat := by
      show (if v < 0 then (v + 10).toNat else min v.toNat 10) = _
      rw [if_neg (by omega)]
      omega
    have h2 : cut (names10.map U.str) none (some v) = (names10.map U.str).take v.toNat := by
      unfold cut
      have h3 : (names10.map U.str).length = 10 := rfl
      rw [h3, h1]
      rfl
    show some (U.lst (cut (names10.map U.str) none (some v))) = _
    rw [h2, ← List.map_take, hnm]
  obtain ⟨su', s', q1, t2, r, rows, y4, y5, y6, rfl, rfl, g2, hr, hrl, hrp⟩ := forL_inv (tg := .name 4) (body := evSs ⟨callF DD G (k + 1), callF DD G (k + 1 - 1), G⟩ b11f2) (r := ⟨rowN 0 2, []⟩) (rowN 0 2)
    (fun i su s' => ∃ t' r rows y4 y5 y6, su = [some (.obj b), some (.int most), some (.lst (names.map .str)), some (.obj t.length), y4, y5, y6] ∧ s' = t' ++ r ∧ Bg b t t' ∧ r[0]? = some (.lst (rows.map encS)) ∧ rows.length = i ∧ ∀ w ∈ rows, w.Perm names) (fun _ _ _ _ => rfl)
    (fun i x su s' hx ⟨t', r, rows, y4, y5, y6, e1, e2, g, hr, hrl, hrp⟩ => by
      subst e1 e2
      obtain ⟨hi, rfl⟩ := row_get hx
      obtain ⟨row, t3, r3, w5, w6, q, g3, hp, hr3⟩ := side_turn (X := ⟨callF DD G (k + 1), callF DD G (k + 1 - 1), G⟩) (G := G) (k := k) (b := b) rfl (names := names) (t0 := t') (r := r) (rows := rows) (M := some (.int most)) (x4 := some (.int (i : Int))) (x5 := y5) (x6 := y6) g.bag (by omega) hr (by omega)
      rw [g.len] at q
      refine ⟨_, rfl, _, _, .inl q, t3, r3, rows ++ [row], _, _, _, rfl, rfl, g.trans g3, hr3, by simp [hrl], fun w hw => ?_⟩
      rcases List.mem_append.mp hw with hw | hw
      · exact hrp w hw
      · rw [List.mem_singleton.mp hw]
        exact hp)
    [some (.obj b), some (.int most), some (.lst (names.map .str)), some (.obj t.length), none, none, none] (t1 ++ [.lst []]) ⟨t1, _, [], none, none, none, rfl, rfl, g1, rfl, rfl, fun w hw => (by cases hw)⟩
  rw [row_len] at hrl
  obtain ⟨w1, w2, rfl⟩ : ∃ w1 w2, rows = [w1, w2] := by
    match rows, hrl with
    | [w1, w2], _ => exact ⟨w1, w2, rfl⟩
  have p1 := hrp w1 (by simp)
  have p2 := hrp w2 (by simp)
  have mkO : ∀ us : List Str, us.Perm names → OrdOk w1 us := fun us hu => ⟨fun x hx => mem10 (by rw [hnm]; exact p1.mem_iff.mp hx), p1.nodup_iff.mpr hnd, hu.trans p1.symm, fun x hx => hsh x (p1.mem_iff.mp hx), by rw [p1.length_eq]; omega⟩
  have hwl : w1.length ≤ most := by rw [p1.length_eq]; exact hnl
  have hr0 : 0 < r.length := (List.getElem?_eq_some_iff.mp hr).1
  obtain ⟨v5, t3, e5, _, _, g3⟩ := tk (G := G) (k := k) (t := t2) (r := r) g2.bag (many := 5) (by omega)
  obtain ⟨v6, t4, e6, _, _, g4⟩ := tk (G := G) (k := k) (t := t3) (r := r) g3.bag (many := 2) (by omega)
  have at3 : ∀ {t' : MS}, t'.length = t.length → (t' ++ r)[t.length]? = some (.lst [encS w1, encS w2]) := fun {t'} h => by
    rw [get_r (j := 0) (by rw [h, Nat.add_zero])]
    exact hr
  have g23 := g2.trans g3
  have g24 := g23.trans g4
  have rng : srcRng (.int 0) (.int 2) = some ⟨rowN 0 2, []⟩ := src_R (n := 2) (by decide)
  have mk1 : mkL true [] t1 = .ok (.obj t.length) (t1 ++ [.lst []]) := by rw [lst_new, g1.len]
  have nm : ((names10.map U.str).length ≤ line) = True := eq_true (by decide)
  have nm' : ([.str "ark", .str "bed", .str "cage", .str "door", .str "elm", .str "fog", .str "gate", .str "hill", .str "ivy", .str "jail"] : List U) = names10.map .str := rfl
  have ends : ∀ (us : List Str) (t' r' : MS), us.Perm names → Bg b t t' → r'[0]? = some (.lst [encS w1, encS us]) →
      evSs ⟨callF DD G (k + 1), callF DD G (k + 1 - 1), G⟩ d11.body (Pv.start d11.nn [.obj b, .int most]) t = .rt (.obj t.length) (t' ++ r') →
      ∃ ds us t', callF DD G (k + 2) 11 [.obj b, .int most] t = .ok (.lst [encS ds, encS us]) t' ∧ Bg b t t' ∧ OrdOk ds us ∧ ds.length ≤ most := fun us t' r' hu g hr' run => by
    refine ⟨w1, us, t', ?_, g, mkO us hu, hwl⟩
    rw [call_rt (d := d11) rfl rfl run]
    exact fin_lst g.len (bg_held g) (Nat.le_refl _) (by rw [get_r (j := 0) (by rw [g.len, Nat.add_zero])]; exact hr') (by simp only [clss, cls_S, Bool.and_self])
  by_cases c5 : v5 = 0
  · by_cases c6 : v6 = 0
    · refine ends w1.reverse t4 (r.set 0 (.lst [encS w1, encS w1.reverse])) (w1.reverse_perm.trans p1) g24 (by rw [List.getElem?_set_self hr0]) ?_
      have st := setI_O (v := encS w1.reverse) (at3 (t' := t4) g24.len) (k := 1) (j := 1) (by show ixN 2 1 = some 1; decide)
      rw [set_r (j := 0) (by rw [g24.len, Nat.add_zero])] at st
      have rv : revU (encS w1) (t4 ++ r) = some (encS w1.reverse) := by
        unfold encS
        rw [List.map_reverse]
        rfl
      have ix := ix_O (i := 0) (at3 (t' := t4) g24.len)
      simp only [List.set_cons_succ, List.set_cons_zero] at st
      subst c5 c6
      simp -implicitDefEqProofs only [evE, evEs, evO, evT, evAll, evAny, evAnd, evOr, evI, evS, evSs, Rv.bind_ok, Rv.bind_no, Rv.bind_ex, Rv.of_some, Rv.of_none, Rv.fl_ok, Fl.then_nx, Fl.then_rt, Fl.then_bk, Fl.then_ct, varU, List.getElem?_cons_zero, List.getElem?_cons_succ, Option.map_some, Option.bind_some, negU, notU, partU, andK, orK, chnK, chnB, tru, asgK, bindT, bindTs, List.set_cons_zero, List.set_cons_succ, if_true, if_false, Bool.false_eq_true, o_add, o_sub, c_lt, c_gt, c_le, c_ge, c_eq, c_ne, ix_T, ix_L, at0, at1, at2, at3, at4, len_T, len_L, max2_, min2_, tup_L, tup_T, int_b, int_i, src_T, src_L, start, List.map_cons, List.map_nil, List.replicate, List.cons_append, List.nil_append, List.length_cons, List.length_nil, Nat.sub_self, Nat.reduceAdd, Nat.reduceSub, wipe, d11, b11, nm', nm, lst_tree, e1, slc, lenL, l0, mk1, rng, q1, e5, e6, ix, rv, st, beq_self_eq_true]
    · refine ends w1 t4 (r.set 0 (.lst [encS w1, encS w1])) p1 g24 (by rw [List.getElem?_set_self hr0]) ?_
      have st := setI_O (v := encS w1) (at3 (t' := t4) g24.len) (k := 1) (j := 1) (by show ixN 2 1 = some 1; decide)
      rw [set_r (j := 0) (by rw [g24.len, Nat.add_zero])] at st
      have ix := ix_O (i := 0) (at3 (t' := t4) g24.len)
      simp only [List.set_cons_succ, List.set_cons_zero] at st
      have c6' : (v6 == 0) = false := beq_eq_false_iff_ne.mpr c6
      subst c5
      simp -implicitDefEqProofs only [evE, evEs, evO, evT, evAll, evAny, evAnd, evOr, evI, evS, evSs, Rv.bind_ok, Rv.bind_no, Rv.bind_ex, Rv.of_some, Rv.of_none, Rv.fl_ok, Fl.then_nx, Fl.then_rt, Fl.then_bk, Fl.then_ct, varU, List.getElem?_cons_zero, List.getElem?_cons_succ, Option.map_some, Option.bind_some, negU, notU, partU, andK, orK, chnK, chnB, tru, asgK, bindT, bindTs, List.set_cons_zero, List.set_cons_succ, if_true, if_false, Bool.false_eq_true, o_add, o_sub, c_lt, c_gt, c_le, c_ge, c_eq, c_ne, ix_T, ix_L, at0, at1, at2, at3, at4, len_T, len_L, max2_, min2_, tup_L, tup_T, int_b, int_i, src_T, src_L, start, List.map_cons, List.map_nil, List.replicate, List.cons_append, List.nil_append, List.length_cons, List.length_nil, Nat.sub_self, Nat.reduceAdd, Nat.reduceSub, wipe, d11, b11, nm', nm, lst_tree, e1, slc, lenL, l0, mk1, rng, q1, e5, e6, ix, st, c6', beq_self_eq_true]
  · refine ends w2 t3 r p2 g23 hr ?_
    have c5' : (v5 == 0) = false := beq_eq_false_iff_ne.mpr c5
    simp -implicitDefEqProofs only [evE, evEs, evO, evT, evAll, evAny, evAnd, evOr, evI, evS, evSs, Rv.bind_ok, Rv.bind_no, Rv.bind_ex, Rv.of_some, Rv.of_none, Rv.fl_ok, Fl.then_nx, Fl.then_rt, Fl.then_bk, Fl.then_ct, varU, List.getElem?_cons_zero, List.getElem?_cons_succ, Option.map_some, Option.bind_some, negU, notU, partU, andK, orK, chnK, chnB, tru, asgK, bindT, bindTs, List.set_cons_zero, List.set_cons_succ, if_true, if_false, Bool.false_eq_true, o_add, o_sub, c_lt, c_gt, c_le, c_ge, c_eq, c_ne, ix_T, ix_L, at0, at1, at2, at3, at4, len_T, len_L, max2_, min2_, tup_L, tup_T, int_b, int_i, src_T, src_L, start, List.map_cons, List.map_nil, List.replicate, List.cons_append, List.nil_append, List.length_cons, List.length_nil, Nat.sub_self, Nat.reduceAdd, Nat.reduceSub, wipe, d11, b11, nm', nm, lst_tree, e1, slc, lenL, l0, mk1, rng, q1, e5, c5']
end
end LW
set_option autoImplicit false
set_option Elab.async false
set_option linter.all false
set_option maxRecDepth 100000
namespace LW
open Pv
/-! ### the stacks by a walk of the law's own -/
def encO (p : List Str) : O := .lst (p.map .str)
def refs {α : Type} (N : Nat) (ps : List α) : List U := (ps.zipIdx 0).map fun q => .obj (N + 1 + q.2)
theorem refs_len {α : Type} {N : Nat} {ps : List α} : (refs N ps).length = ps.length := by simp [refs]
theorem refs_snoc {α : Type} {N : Nat} {ps : List α} {p : α} : refs N (ps ++ [p]) = refs N ps ++ [.obj (N + 1 + ps.length)] := by
  simp [refs, List.zipIdx_append]
theorem refs_set {α : Type} {N : Nat} {ps : List α} {j : Nat} {p : α} : refs N (ps.set j p) = refs N ps := by
  unfold refs
  have : ∀ {β : Type} (qs : List β), ((qs.zipIdx 0).map fun q => U.obj (N + 1 + q.2)) = (List.range qs.length).map fun i => U.obj (N + 1 + i) := fun qs => by
    have h : (qs.zipIdx 0).map (·.2) = List.range' 0 qs.length := List.zipIdx_map_snd 0 qs
    rw [List.range_eq_range', ← h, List.map_map]
    rfl
  rw [this, this, List.length_set]
theorem c_eqO {α : Type} {s : MS} {f : α → Nat} {l : List α} : cmpU .eq (.lst (l.map fun q => .obj (f q))) (.lst []) s = some l.isEmpty := by
  cases l with
  | nil => rfl
  | cons x l =>
    have hd : dat (.lst ((x :: l).map fun q => U.obj (f q))) = false := by
      unfold dat
      rw [List.map_cons]
      simp only [plain, plains, Bool.false_and]
    simp only [cmpU, der, hd, Bool.false_and, Bool.false_eq_true, if_false, eqE, lstOf]
    rfl
theorem min_ints {x : Nat} {xs : List Nat} (h : ∀ y ∈ xs, x < y) : minU ((x :: xs).map fun (n : Nat) => U.int (n : Int)) = some (.int (x : Int)) := by
  have ha : alikeAll ((x :: xs).map fun (n : Nat) => U.int (n : Int)) = true := by
    unfold alikeAll
    have d : dats ((x :: xs).map fun (n : Nat) => U.int (n : Int)) = true := dats_map fun x _ => ⟨rfl, Nat.zero_le _⟩
    rw [d, Bool.true_and, Bool.and_eq_true]
    refine ⟨List.all_eq_true.mpr fun u hu => List.all_eq_true.mpr fun v hv => ?_, List.all_eq_true.mpr fun u hu => ?_⟩
    · obtain ⟨a, _, rfl⟩ := List.mem_map.mp hu
      obtain ⟨b, _, rfl⟩ := List.mem_map.mp hv
      rfl
    · obtain ⟨a, _, rfl⟩ := List.mem_map.mp hu
      rfl
  rw [List.map_cons] at ha ⊢
  simp only [minU, ha, if_true]
  congr 1
  clear ha
  induction xs with
  | nil => rfl
  | cons y xs ih =>
    have hy := h y (List.mem_cons_self ..)
    have : ltD (.int (y : Int)) (.int (x : Int)) = false := by
      unfold ltD
      simp only [toks, ltTok, itLt]
      rw [decide_eq_false (by omega), decide_eq_true (show ((x : Nat) : Int) < (y : Nat) by omega)]
      rfl
    rw [List.map_cons, List.foldl_cons, this]
    exact ih fun z hz => h z (List.mem_cons_of_mem _ hz)
end LW
set_option autoImplicit false
set_option Elab.async false
set_option linter.all false
set_option maxRecDepth 100000
namespace LW
open Pv
/-! ### odd things, spoilt things -/
mutual
def wid : U → Nat
  | .tup xs | .lst xs => max xs.length (wids xs)
  | .str x => x.length
  | _ => 0
def wids : List U → Nat
  | [] => 0
  | x :: xs => max (wid x) (wids xs)
end
/-- data, no deeper than d, no wider than w -/
structure PD (d w : Nat) (u : U) : Prop where
  pl : plain u = true
  dp : dep u ≤ d
  wd : wid u ≤ w
theorem PD.mono {d w d' w' : Nat} {u : U} (h : PD d w u) (hd : d ≤ d') (hw : w ≤ w') : PD d' w' u := ⟨h.pl, Nat.le_trans h.dp hd, Nat.le_trans h.wd hw⟩
theorem plains_iff {xs : List U} : plains xs = true ↔ ∀ x ∈ xs, plain x = true := by
  induction xs with
  | nil => simp [plains]
  | cons x xs ih => simp [plains, ih]
theorem deps_iff {xs : List U} {n : Nat} : deps xs ≤ n ↔ ∀ x ∈ xs, dep x ≤ n := by
  induction xs with
  | nil => simp [deps]
  | cons x xs ih =>
    simp only [deps, List.mem_cons, forall_eq_or_imp, ← ih]
    exact Nat.max_le
theorem wids_iff {xs : List U} {n : Nat} : wids xs ≤ n ↔ ∀ x ∈ xs, wid x ≤ n := by
  induction xs with
  | nil => simp [wids]
  | cons x xs ih =>
    simp only [wids, List.mem_cons, forall_eq_or_imp, ← ih]
    exact Nat.max_le
theorem PD.tup {d w : Nat} {xs : List U} (h : ∀ x ∈ xs, PD d w x) (hl : xs.length ≤ w) : PD (d + 1) w (.tup xs) := by
  refine ⟨by simp only [plain]; exact plains_iff.mpr fun x hx => (h x hx).pl, ?_, ?_⟩
  · simp only [dep]
    have := deps_iff.mpr fun x hx => (h x hx).dp
    omega
  · simp only [wid]
    exact Nat.max_le.mpr ⟨hl, wids_iff.mpr fun x hx => (h x hx).wd⟩
theorem PD.lst {d w : Nat} {xs : List U} (h : ∀ x ∈ xs, PD d w x) (hl : xs.length ≤ w) : PD (d + 1) w (.lst xs) := by
  obtain ⟨h1, h2, h3⟩ := PD.tup h hl
  exact ⟨by simpa only [plain] using h1, by simpa only [dep] using h2, by simpa only [wid] using h3⟩
theorem PD.ofT {d w : Nat} {xs : List U} (h : PD d w (.tup xs)) : (∀ x ∈ xs, PD (d - 1) w x) ∧ xs.length ≤ w ∧ 1 ≤ d := by
  obtain ⟨h1, h2, h3⟩ := h
  simp only [plain] at h1
  simp only [dep] at h2
  simp only [wid] at h3
  have h4 := Nat.max_le.mp h3
  have h5 : deps xs ≤ d - 1 := by omega
  exact ⟨fun x hx => ⟨plains_iff.mp h1 x hx, deps_iff.mp h5 x hx, wids_iff.mp h4.2 x hx⟩, h4.1, by omega⟩
theorem PD.ofL {d w : Nat} {xs : List U} (h : PD d w (.lst xs)) : (∀ x ∈ xs, PD (d - 1) w x) ∧ xs.length ≤ w ∧ 1 ≤ d := by
  obtain ⟨h1, h2, h3⟩ := h
  exact PD.ofT ⟨by simpa only [plain] using h1, by simpa only [dep] using h2, by simpa only [wid] using h3⟩
theorem PD.dat {d w : Nat} {u : U} (h : PD d w u) (hd : d ≤ 62) : dat u = true := by
  unfold Pv.dat
  rw [h.pl, Bool.true_and]
  exact decide_eq_true (Nat.le_trans h.dp hd)
end LW
set_option autoImplicit false
set_option Elab.async false
set_option linter.all false
set_option maxRecDepth 100000
namespace LW
open Pv
def withinU (lo hi : Int) : U → Bool
  | .int i => decide (lo ≤ i) && decide (i ≤ hi)
  | _ => false
def isS : U → Bool
  | .str _ => true
  | _ => false
def isT : U → Bool
  | .tup _ => true
  | _ => false
def isI : U → Bool
  | .int _ => true
  | _ => false
/-- what a thing is, in a word -/
theorem plain_cases {u : U} (h : plain u = true) : u = .non ∨ (∃ b, u = .bl b) ∨ (∃ i, u = .int i) ∨ (∃ x, u = .str x) ∨ (∃ xs, u = .tup xs) ∨ ∃ xs, u = .lst xs := by
  cases u <;> simp [plain] at h ⊢
section
variable {G : Str → Option U} {k : Nat} {s : MS}
theorem isi_str {u : U} (h : plain u = true) : isiU s u [.str] = some (isS u) := by
  rcases plain_cases h with rfl | ⟨b, rfl⟩ | ⟨i, rfl⟩ | ⟨x, rfl⟩ | ⟨xs, rfl⟩ | ⟨xs, rfl⟩ <;> rfl
theorem isi_tup {u : U} (h : plain u = true) : isiU s u [.tup] = some (isT u) := by
  rcases plain_cases h with rfl | ⟨b, rfl⟩ | ⟨i, rfl⟩ | ⟨x, rfl⟩ | ⟨xs, rfl⟩ | ⟨xs, rfl⟩ <;> rfl
end
end LW
set_option autoImplicit false
set_option Elab.async false
set_option linter.all false
set_option maxRecDepth 100000
namespace LW
open Pv
theorem dedup_sub : ∀ {xs : List U} {u : U}, u ∈ dedup xs ↔ u ∈ xs
  | [], u => by simp [dedup]
  | x :: xs, u => by
    simp only [dedup, List.mem_cons, List.mem_filter, dedup_sub (xs := xs), Bool.not_eq_true', decide_eq_false_iff_not]
    constructor
    · rintro (h | ⟨h, _⟩)
      · exact .inl h
      · exact .inr h
    · rintro (h | h)
      · exact .inl h
      · by_cases e : u = x
        · exact .inl e
        · exact .inr ⟨h, e⟩
theorem dedup_nd : ∀ xs : List U, (dedup xs).Nodup
  | [] => .nil
  | x :: xs => by
    simp only [dedup]
    rw [List.nodup_cons]
    refine ⟨fun h => ?_, (dedup_nd xs).filter _⟩
    have := (List.mem_filter.mp h).2
    simp at this
theorem dedup_id : ∀ {xs : List U}, xs.Nodup → dedup xs = xs
  | [], _ => rfl
  | x :: xs, h => by
    obtain ⟨h1, h2⟩ := List.nodup_cons.mp h
    simp only [dedup, dedup_id h2]
    congr 1
    rw [List.filter_eq_self]
    intro y hy
    have : y ≠ x := fun e => h1 (by rw [← e]; exact hy)
    simp [this]
section
variable {α : Type}
/-- list(t) == sorted(set(t)), in any strict order -/
theorem sort_risesG (enc : α → U) (dec : U → α) (hde : ∀ a, dec (enc a) = a) (lt : α → α → Bool) (tr : ∀ a b c, lt a b = true → lt b c = true → lt a c = true) (ir : ∀ a, lt a a = false) (tri : ∀ a b, lt a b = false → lt b a = false → a = b)
    (le : ∀ a b, leU (enc a) (enc b) = !lt b a) (eqE : ∀ a b : List α, eqUs (a.map enc) (b.map enc) = true ↔ a = b) (ys : List α) : eqUs (ys.map enc) (sortU (dedup (ys.map enc))) = true ↔ ys.Pairwise fun a b => lt a b = true := by
  have inj : ∀ {a b : α}, enc a = enc b → a = b := fun {a b} h => by rw [← hde a, h, hde]
  obtain ⟨zs, hzs⟩ : ∃ zs : List α, sortU (dedup (ys.map enc)) = zs.map enc := by
    refine ⟨(sortU (dedup (ys.map enc))).map dec, ?_⟩
    rw [List.map_map]
    conv => lhs; rw [← List.map_id (sortU _)]
    refine List.map_congr_left fun u hu => ?_
    have h1 := dedup_sub.mp ((List.mergeSort_perm _ _).mem_iff.mp hu)
    obtain ⟨x, _, rfl⟩ := List.mem_map.mp h1
    show enc x = enc (dec (enc x))
    rw [hde]
  rw [hzs, eqE]
  constructor
  · intro e
    subst e
    have zn : ys.Nodup := by
      have h1 : (sortU (dedup (ys.map enc))).Nodup := (List.mergeSort_perm _ _).nodup_iff.mpr (dedup_nd _)
      rw [hzs, List.nodup_iff_pairwise_ne, List.pairwise_map] at h1
      exact List.nodup_iff_pairwise_ne.mpr (h1.imp fun h e => h (by rw [e]))
    have hd : dedup (ys.map enc) = ys.map enc := dedup_id (by
      rw [List.nodup_iff_pairwise_ne, List.pairwise_map]
      exact (List.nodup_iff_pairwise_ne.mp zn).imp fun h e => h (inj e))
    rw [hd] at hzs
    have hs : sortU (ys.map enc) = (ys.mergeSort fun a b => leU (enc a) (enc b)).map enc := by
      unfold sortU
      exact (List.map_mergeSort (f := enc) (r := fun a b => leU (enc a) (enc b)) (s := leU) fun a _ b _ => rfl).symm
    have he : (ys.mergeSort fun a b => leU (enc a) (enc b)) = ys := by
      rw [hs] at hzs
      exact (List.map_inj_right (fun a b => inj)).mp hzs
    have sp : (ys.mergeSort fun a b => leU (enc a) (enc b)).Pairwise fun a b => leU (enc a) (enc b) = true := List.pairwise_mergeSort (fun a b c h1 h2 => by
      rw [le, Bool.not_eq_true'] at *
      cases h3 : lt c a with
      | false => rfl
      | true =>
        cases h4 : lt a b with
        | true =>
          have := tr _ _ _ h3 h4
          rw [h2] at this; cases this
        | false =>
          have e := tri a b h4 h1
          subst e
          rw [h2] at h3; cases h3) (fun a b => by
      rw [le, le]
      cases h1 : lt b a with
      | false => rfl
      | true =>
        cases h2 : lt a b with
        | false => rfl
        | true =>
          have := tr _ _ _ h1 h2
          rw [ir] at this; cases this) ys
    rw [he] at sp
    refine (sp.and zn).imp fun {a b} hab => ?_
    obtain ⟨h1, h2⟩ := hab
    rw [le, Bool.not_eq_true'] at h1
    cases h3 : lt a b with
    | true => rfl
    | false => exact absurd (tri a b h3 h1) h2
  · intro hp
    have zn : (ys.map enc).Nodup := by
      rw [List.nodup_iff_pairwise_ne, List.pairwise_map]
      refine hp.imp fun h e => ?_
      have := inj e
      subst this
      rw [ir] at h
      cases h
    rw [dedup_id zn] at hzs
    have : sortU (ys.map enc) = ys.map enc := by
      unfold sortU
      refine List.mergeSort_of_pairwise ?_
      rw [List.pairwise_map]
      refine hp.imp fun {a b} h => ?_
      rw [le]
      cases h1 : lt b a with
      | false => rfl
      | true =>
        have := tr _ _ _ h h1
        rw [ir] at this; cases this
    rw [this] at hzs
    exact (List.map_inj_right (fun a b => inj)).mp hzs
def risesB (lt : α → α → Bool) (ys : List α) : Bool := (ys.zip (ys.drop 1)).all fun p => lt p.1 p.2
theorem risesB_cons {lt : α → α → Bool} {x y : α} {ys : List α} : risesB lt (x :: y :: ys) = (lt x y && risesB lt (y :: ys)) := by
  unfold risesB
  simp only [List.drop_one, List.tail_cons, List.zip_cons_cons, List.all_cons]
theorem risesB_pair {lt : α → α → Bool} (tr : ∀ a b c, lt a b = true → lt b c = true → lt a c = true) : ∀ {ys : List α}, risesB lt ys = true ↔ ys.Pairwise fun a b => lt a b = true
  | [] => by simp [risesB]
  | [x] => by simp [risesB]
  | x :: y :: ys => by
    rw [risesB_cons, Bool.and_eq_true, risesB_pair tr (ys := y :: ys), List.pairwise_cons (a := x)]
    constructor
    · rintro ⟨h1, h2⟩
      refine ⟨fun z hz => ?_, h2⟩
      rcases List.mem_cons.mp hz with q | q
      · rw [q]; exact h1
      · exact tr _ _ _ h1 ((List.pairwise_cons.mp h2).1 z q)
    · rintro ⟨h1, h2⟩
      exact ⟨h1 y (List.mem_cons_self ..), h2⟩
end
theorem cut_one (xs : List U) : cut xs (some 1) none = xs.drop 1 := by
  unfold cut
  have e : sIx xs.length 0 (some 1) = min 1 xs.length := by
    show (if (1 : Int) < 0 then (1 + (xs.length : Int)).toNat else min (1 : Int).toNat xs.length) = _
    rw [if_neg (by decide)]
    rfl
  have e2 : sIx xs.length xs.length none = xs.length := rfl
  rw [e, e2]
  by_cases h : 1 ≤ xs.length
  · rw [Nat.min_eq_left h, List.take_of_length_le (by simp)]
  · have : xs = [] := List.length_eq_zero_iff.mp (by omega)
    subst this
    rfl
theorem zipU_map {α β : Type} (f : α → U) (g : β → U) : ∀ (a : List α) (b : List β), zipU (a.map f) (b.map g) = (a.zip b).map fun p => .tup [f p.1, g p.2]
  | [], _ => by simp [zipU]
  | _ :: _, [] => by simp [zipU]
  | x :: a, y :: b => by simp only [List.map_cons, zipU, zipU_map f g a b, List.zip_cons_cons]
theorem forL_nx {tg : Tg} {body : SU → MS → Fl} {its xs : List U} {x : U} {su su1 su2 : SU} {s s2 : MS} (hb : bindT tg x su = some su1) (h : body su1 s = .nx su2 s2) : forL tg body ⟨its, []⟩ (x :: xs) su s = forL tg body ⟨its, []⟩ xs su2 s2 := by
  rw [forL, if_pos ok_nil, hb]
  simp only [h]
/-- a loop that ends at the first thing that is not right -/
theorem all_loop {body : SU → MS → Fl} {i : Nat} {su : SU} {s : MS} {its : List U} {p : U → Bool} : ∀ (xs : List U) (y : Option U), (∀ x ∈ xs, body (su.set i (some x)) s = if p x then .nx (su.set i (some x)) s else .rt (.bl false) s) →
    ∃ y', forL (.name i) body ⟨its, []⟩ xs (su.set i y) s = if xs.all p then .nx (su.set i y') s else .rt (.bl false) s
  | [], y, _ => ⟨y, by rw [forL, if_pos ok_nil]; rfl⟩
  | x :: xs, y, h => by
    have hx := h x (List.mem_cons_self ..)
    obtain ⟨y', q⟩ := all_loop (its := its) xs (some x) fun z hz => h z (List.mem_cons_of_mem _ hz)
    have hb : bindT (.name i) x (su.set i y) = some (su.set i (some x)) := by
      show some ((su.set i y).set i (some x)) = _
      rw [List.set_set]
    rw [forL, if_pos ok_nil, hb]
    simp only [hx]
    cases hp : p x with
    | true => exact ⟨y', by rw [List.all_cons, hp, if_pos rfl]; simpa using q⟩
    | false => exact ⟨y, by rw [List.all_cons, hp]; simp⟩
/-- .. the slots may change, within what I says -/
theorem all_loopI {tg : Tg} {body : SU → MS → Fl} {s : MS} {its : List U} {p : U → Bool} (I : SU → Prop) : ∀ (xs : List U) (su : SU), I su → (∀ x ∈ xs, ∀ su, I su → ∃ su1, bindT tg x su = some su1 ∧ ∃ su2, I su2 ∧ body su1 s = if p x then .nx su2 s else .rt (.bl false) s) →
    ∃ su', I su' ∧ forL tg body ⟨its, []⟩ xs su s = if xs.all p then .nx su' s else .rt (.bl false) s
  | [], su, h0, _ => ⟨su, h0, by rw [forL, if_pos ok_nil]; rfl⟩
  | x :: xs, su, h0, h => by
    obtain ⟨su1, hb, su2, i2, e⟩ := h x (List.mem_cons_self ..) su h0
    cases hp : p x with
    | true =>
      rw [hp, if_pos rfl] at e
      obtain ⟨su', i', q⟩ := all_loopI (its := its) I xs su2 i2 fun z hz => h z (List.mem_cons_of_mem _ hz)
      exact ⟨su', i', by rw [forL_nx hb e, List.all_cons, hp, Bool.true_and]; exact q⟩
    | false =>
      rw [hp, if_neg Bool.false_ne_true] at e
      refine ⟨su, h0, ?_⟩
      rw [forL, if_pos ok_nil, hb]
      simp only [e]
      rw [List.all_cons, hp, Bool.false_and, if_neg Bool.false_ne_true]
/-- a loop that tells the first that is found -/
theorem find_loopI {tg : Tg} {body : SU → MS → Fl} {s : MS} {its : List U} {f : U → Option U} (I : SU → Prop) : ∀ (xs : List U) (su : SU), I su → (∀ x ∈ xs, ∀ su, I su → ∃ su1, bindT tg x su = some su1 ∧ ∃ su2, I su2 ∧ body su1 s = match f x with | some v => .rt v s | none => .nx su2 s) →
    ∃ su', I su' ∧ forL tg body ⟨its, []⟩ xs su s = match xs.findSome? f with | some v => .rt v s | none => .nx su' s
  | [], su, h0, _ => ⟨su, h0, by rw [forL, if_pos ok_nil]; rfl⟩
  | x :: xs, su, h0, h => by
    obtain ⟨su1, hb, su2, i2, e⟩ := h x (List.mem_cons_self ..) su h0
    cases hp : f x with
    | none =>
      rw [hp] at e
      obtain ⟨su', i', q⟩ := find_loopI (its := its) I xs su2 i2 fun z hz => h z (List.mem_cons_of_mem _ hz)
      exact ⟨su', i', by rw [forL_nx hb e, List.findSome?_cons, hp]; exact q⟩
    | some v =>
      rw [hp] at e
      refine ⟨su, h0, ?_⟩
      rw [forL, if_pos ok_nil, hb]
      simp only [e]
      rw [List.findSome?_cons, hp]
section
variable {s : MS}
theorem bl_lc {vs : List Nat} {tg : Tg} {c : SU → MS → Rv Bool} {e : SU → MS → Rv U} {its : List U} {su : SU} {xs : List U} {p : U → Bool} (h : ∀ x ∈ xs, ∃ su1, bindT tg x (wipe su vs) = some su1 ∧ c su1 s = .ok true s ∧ e su1 s = .ok (.bl (p x)) s) :
    lcL vs tg c e ⟨its, []⟩ su xs [] s = .ok (xs.map fun x => .bl (p x)) s := by
  have := lcL_pure (s := s) (r := ⟨its, []⟩) (c := c) (e := e) (vs := vs) (tg := tg) (su := su) id (fun _ => true) (fun x => .bl (p x)) rfl xs (fun x hx => by
    obtain ⟨su1, h1, h2, h3⟩ := h x hx
    exact ⟨su1, h1, h2, fun _ => h3⟩) []
  rw [List.nil_append, List.filter_eq_self.mpr fun _ _ => rfl, List.map_id] at this
  exact this
theorem all_bl {xs : List U} {p : U → Bool} : biU .all [.lst (xs.map fun x => .bl (p x))] s = .ok (.bl (xs.all p)) s := by
  rw [all_L (blsOf_map _ _), List.all_map]
  rfl
end
end LW
set_option autoImplicit false
set_option Elab.async false
set_option linter.all false
set_option maxRecDepth 100000
namespace LW
open Pv
/-! ### are they stacks that do: by doing it -/
def strsT : U → Option (List Str)
  | .tup xs => strsOf xs
  | _ => none
def stkOk (u : U) : Bool :=
  match strsT u with
  | some (_ :: _) => true
  | _ => false
def rowsOf : U → Option (List (List Str))
  | .tup xs => if xs.all stkOk then some (xs.map fun u => (strsT u).getD []) else none
  | _ => none
def hang (us : List Str) (ps : List (List Str)) : Option (List (List Str)) := us.foldlM (fun q x => offS x q) ps
def stkR (ds us : List Str) (u : U) : Bool :=
  match rowsOf u with
  | none => false
  | some ps => decide (ps.flatten.Perm ds) && ps.all (fun p => decide (p = ds.filter fun x => p.contains x)) && (hang us ps).isSome
theorem strsOf_eq : ∀ {xs : List U} {ss : List Str}, strsOf xs = some ss → xs = ss.map .str
  | [], ss, h => by simp only [strsOf] at h; cases h; rfl
  | x :: xs, ss, h => by
    cases x <;> simp only [strsOf] at h <;> first | (cases h; done) | skip
    obtain ⟨r, hr, rfl⟩ := Option.map_eq_some_iff.mp h
    rw [strsOf_eq hr]
    rfl
theorem strsOf_all : ∀ xs : List U, (strsOf xs).isSome = xs.all isS
  | [] => rfl
  | x :: xs => by
    cases x <;> simp only [strsOf, List.all_cons, isS, Bool.true_and, Bool.false_and] <;> first | rfl | skip
    rw [← strsOf_all xs]
    cases strsOf xs <;> rfl
theorem stkOk_iff {u : U} (h : stkOk u = true) : ∃ p : List Str, p ≠ [] ∧ u = encS p ∧ strsT u = some p := by
  unfold stkOk at h
  split at h
  · rename_i x xs e
    cases u <;> simp only [strsT] at e <;> first | (cases e; done) | skip
    rename_i us
    refine ⟨x :: xs, by simp, ?_, by simp only [strsT]; exact e⟩
    rw [strsOf_eq e]
    rfl
  · cases h
theorem rowsOf_eq {u : U} {ps : List (List Str)} (h : rowsOf u = some ps) : u = .tup (ps.map encS) ∧ ∀ p ∈ ps, p ≠ [] := by
  cases u <;> simp only [rowsOf] at h <;> first | (cases h; done) | skip
  rename_i xs
  split at h
  · rename_i ha
    cases h
    rw [List.all_eq_true] at ha
    refine ⟨?_, fun p hp => ?_⟩
    · rw [List.map_map]
      conv => lhs; rw [← List.map_id xs]
      congr 1
      refine List.map_congr_left fun x hx => ?_
      obtain ⟨p, _, h2, h3⟩ := stkOk_iff (ha x hx)
      simp only [id, Function.comp, h3, Option.getD_some]
      exact h2
    · obtain ⟨x, hx, rfl⟩ := List.mem_map.mp hp
      obtain ⟨p, h1, _, h3⟩ := stkOk_iff (ha x hx)
      rw [h3]
      exact h1
  · cases h
theorem rowsOf_enc {ps : List (List Str)} (h : ∀ p ∈ ps, p ≠ []) : rowsOf (.tup (ps.map encS)) = some ps := by
  have hs : ∀ p : List Str, strsT (encS p) = some p := fun p => strsOf_map p
  simp only [rowsOf]
  rw [if_pos]
  · rw [List.map_map]
    congr 1
    conv => rhs; rw [← List.map_id ps]
    exact List.map_congr_left fun p _ => by simp only [Function.comp, hs, Option.getD_some, id]
  · rw [List.all_eq_true]
    intro u hu
    obtain ⟨p, hp, rfl⟩ := List.mem_map.mp hu
    unfold stkOk
    rw [hs]
    cases p with
    | nil => exact absurd rfl (h [] hp)
    | cons x xs => rfl
/-! a loop that ends at the first that is not right; the store may grow -/
theorem all_loopS {tg : Tg} {body : SU → MS → Fl} {its : List U} {p : U → Bool} (I : SU → MS → Prop) : ∀ (xs : List U) (su : SU) (s : MS), I su s → (∀ x ∈ xs, ∀ su s, I su s → ∃ su1, bindT tg x su = some su1 ∧ ∃ su2 s2, I su2 s2 ∧ body su1 s = if p x then .nx su2 s2 else .rt (.bl false) s2) →
    ∃ su' s', I su' s' ∧ forL tg body ⟨its, []⟩ xs su s = if xs.all p then .nx su' s' else .rt (.bl false) s'
  | [], su, s, h0, _ => ⟨su, s, h0, by rw [forL, if_pos ok_nil]; rfl⟩
  | x :: xs, su, s, h0, h => by
    obtain ⟨su1, hb, su2, s2, i2, e⟩ := h x (List.mem_cons_self ..) su s h0
    cases hp : p x with
    | true =>
      rw [hp, if_pos rfl] at e
      obtain ⟨su', s', i', q⟩ := all_loopS (its := its) I xs su2 s2 i2 fun z hz => h z (List.mem_cons_of_mem _ hz)
      exact ⟨su', s', i', by rw [forL_nx hb e, List.all_cons, hp, Bool.true_and]; exact q⟩
    | false =>
      rw [hp, if_neg Bool.false_ne_true] at e
      refine ⟨su2, s2, i2, ?_⟩
      rw [forL, if_pos ok_nil, hb]
      simp only [e]
      rw [List.all_cons, hp, Bool.false_and, if_neg Bool.false_ne_true]
/-! sorted texts -/
theorem sort_strs (xs : List Str) : ∃ ys : List Str, sortU (xs.map .str) = ys.map .str ∧ ys = xs.mergeSort fun a b => !ltT b a := by
  refine ⟨_, ?_, rfl⟩
  have : (fun a b : Str => !ltT b a) = fun a b => leU (.str a) (.str b) := by
    funext a b
    rw [leU_str]
  rw [this]
  unfold sortU
  exact (List.map_mergeSort (f := U.str) (r := fun a b => leU (.str a) (.str b)) (s := leU) fun a _ b _ => rfl).symm
theorem eqUs_strs : ∀ (a b : List Str), eqUs (a.map .str) (b.map .str) = decide (a = b)
  | [], [] => rfl
  | [], _ :: _ => rfl
  | _ :: _, [] => rfl
  | x :: a, y :: b => by
    simp only [List.map_cons, eqUs, eqU, eqUs_strs a b]
    by_cases e : x = y
    · subst e
      rw [beq_self_eq_true, Bool.true_and]
      simp
    · rw [beq_eq_false_iff_ne.mpr e, Bool.false_and]
      simp [e]
theorem msort_perm (a b : List Str) : (a.mergeSort (fun a b => !ltT b a) = b.mergeSort fun a b => !ltT b a) ↔ a.Perm b := by
  have tr : ∀ a b c : Str, (!ltT b a) = true → (!ltT c b) = true → (!ltT c a) = true := fun a b c h1 h2 => by
    rw [Bool.not_eq_true'] at *
    cases h3 : ltT c a with
    | false => rfl
    | true =>
      cases h4 : ltT a b with
      | true =>
        have := ltT_trans h3 h4
        rw [h2] at this; cases this
      | false =>
        have e := ltT_tri a b h4 h1
        subst e
        rw [h2] at h3; cases h3
  have tot : ∀ a b : Str, ((!ltT b a) || (!ltT a b)) = true := fun a b => by
    cases h1 : ltT b a with
    | false => rfl
    | true => rw [ltT_asymm h1]; rfl
  constructor
  · intro e
    exact (List.mergeSort_perm a _).symm.trans (e ▸ List.mergeSort_perm b _)
  · intro h
    have hp : (a.mergeSort fun a b => !ltT b a).Perm (b.mergeSort fun a b => !ltT b a) := (List.mergeSort_perm a _).trans (h.trans (List.mergeSort_perm b _).symm)
    exact hp.eq_of_pairwise (le := fun a b => (!ltT b a) = true) (fun x y _ _ h1 h2 => ltT_tri x y (by simpa using h2) (by simpa using h1)) (List.pairwise_mergeSort tr tot a) (List.pairwise_mergeSort tr tot b)
theorem sortable_strs {xs : List Str} (h : ∀ x ∈ xs, strOk x = true) (hl : xs.length ≤ line) : sortable (xs.map .str) = true := by
  unfold sortable
  have d : dats (xs.map .str) = true := dats_map fun x hx => ⟨h x hx, Nat.zero_le _⟩
  rw [d]
  simp only [Bool.true_and, Bool.and_eq_true, decide_eq_true_eq, Bool.or_eq_true, List.all_eq_true]
  refine ⟨⟨fun u hu v hv => ?_, by rw [List.length_map]; exact hl⟩, .inr fun u hu => ?_⟩
  · obtain ⟨x, _, rfl⟩ := List.mem_map.mp hu
    obtain ⟨y, _, rfl⟩ := List.mem_map.mp hv
    rfl
  · obtain ⟨x, _, rfl⟩ := List.mem_map.mp hu
    rfl
/-- sorted(names) != sorted(down) -/
theorem ne_sorted {s : MS} {xs ys : List Str} (hx : ∀ x ∈ xs, strOk x = true) (hy : ∀ y ∈ ys, strOk y = true) : cmpU .ne (.lst (sortU (xs.map .str))) (.lst (sortU (ys.map .str))) s = some (!decide (xs.Perm ys)) := by
  obtain ⟨a, ea, ha⟩ := sort_strs xs
  obtain ⟨b, eb, hb⟩ := sort_strs ys
  have hxa : ∀ x ∈ a, strOk x = true := fun x h => hx x (by rw [ha] at h; exact (List.mergeSort_perm _ _).mem_iff.mp h)
  have hyb : ∀ x ∈ b, strOk x = true := fun x h => hy x (by rw [hb] at h; exact (List.mergeSort_perm _ _).mem_iff.mp h)
  have da : dat (.lst (a.map U.str)) = true := dat_lst (dats_map fun x h => ⟨by simpa only [plain] using hxa x h, Nat.zero_le _⟩)
  have db : dat (.lst (b.map U.str)) = true := dat_lst (dats_map fun x h => ⟨by simpa only [plain] using hyb x h, Nat.zero_le _⟩)
  rw [ea, eb, c_neL da db, eqUs_strs]
  congr 2
  rw [ha, hb]
  exact decide_eq_decide.mpr (msort_perm xs ys)
/-! off the stacks -/
def topsZ (x : Str) (k : Nat) (ps : List (List Str)) : List (List Str × Nat) := (ps.zipIdx k).filter fun q => decide (q.1.getLast? = some x)
theorem off_tops {x : Str} : ∀ (ps : List (List Str)) (k : Nat), (topsZ x k ps = [] → offS x ps = none) ∧ ∀ q r, topsZ x k ps = q :: r → k ≤ q.2 ∧ ps[q.2 - k]? = some q.1 ∧ offS x ps = some (ps.set (q.2 - k) q.1.dropLast) ∧ q.1.getLast? = some x
  | [], k => ⟨fun _ => rfl, fun q r h => by simp [topsZ] at h⟩
  | p :: ps, k => by
    obtain ⟨i1, i2⟩ := off_tops (x := x) ps (k + 1)
    have e : topsZ x k (p :: ps) = if p.getLast? = some x then (p, k) :: topsZ x (k + 1) ps else topsZ x (k + 1) ps := by
      unfold topsZ
      rw [List.zipIdx_cons, List.filter_cons]
      by_cases h : p.getLast? = some x
      · rw [if_pos (decide_eq_true h), if_pos h]
      · rw [if_neg (by simpa using h), if_neg h]
    by_cases h : p.getLast? = some x
    · rw [if_pos h] at e
      refine ⟨fun q => (by rw [e] at q; cases q), fun q r hq => ?_⟩
      rw [e] at hq
      cases hq
      refine ⟨Nat.le_refl _, by simp, ?_, h⟩
      simp only [offS, if_pos h, Nat.sub_self, List.set_cons_zero]
    · rw [if_neg h] at e
      refine ⟨fun q => ?_, fun q r hq => ?_⟩
      · simp only [offS, if_neg h, i1 (by rw [← e]; exact q), Option.map_none]
      · obtain ⟨a1, a2, a3, a4⟩ := i2 q r (by rw [← e]; exact hq)
        obtain ⟨j, hj⟩ : ∃ j, q.2 - k = j + 1 := ⟨q.2 - (k + 1), by omega⟩
        have hj2 : q.2 - (k + 1) = j := by omega
        rw [hj2] at a2 a3
        refine ⟨by omega, by rw [hj, List.getElem?_cons_succ]; exact a2, ?_, a4⟩
        simp only [offS, if_neg h, a3, Option.map_some, hj, List.set_cons_succ]
end LW
set_option autoImplicit false
set_option Elab.async false
set_option linter.all false
set_option maxRecDepth 100000
namespace LW
open Pv
theorem inU_strs (x : Str) (hs : List Str) : inU (.str x) (hs.map .str) = hs.contains x := by
  unfold inU
  induction hs with
  | nil => rfl
  | cons a hs ih =>
    rw [List.map_cons, List.any_cons, ih, List.contains_cons]
    congr 1
    show (a == x) = (x == a)
    rw [Bool.eq_iff_iff, beq_iff_eq, beq_iff_eq]
    exact eq_comm
theorem dats_strs {hs : List Str} (h : ∀ x ∈ hs, strOk x = true) : dats (hs.map .str) = true := dats_map fun x hx => ⟨by simpa only [plain] using h x hx, Nat.zero_le _⟩
theorem c_inT {s : MS} {x : Str} {hs : List Str} (hx : strOk x = true) (h : ∀ x ∈ hs, strOk x = true) : cmpU .isin (.str x) (.tup (hs.map .str)) s = some (hs.contains x) := by
  have d : dat (.str x) = true := by unfold dat; simp [plain, hx, dep]
  show isinU s (.str x) (.tup (hs.map .str)) = _
  simp only [isinU, d, dats_strs h, Bool.and_self, if_true, inU_strs]
def refs2 {α : Type} (N : Nat) (ps : List α) : List U := (ps.zipIdx 0).map fun q => .obj (N + q.2)
theorem refs2_snoc {α : Type} {N : Nat} {ps : List α} {p : α} : refs2 N (ps ++ [p]) = refs2 N ps ++ [.obj (N + ps.length)] := by
  simp [refs2, List.zipIdx_append]
theorem refs2_set {α : Type} {N : Nat} {ps : List α} {j : Nat} {p : α} : refs2 N (ps.set j p) = refs2 N ps := by
  unfold refs2
  have : ∀ {β : Type} (qs : List β), ((qs.zipIdx 0).map fun q => U.obj (N + q.2)) = (List.range qs.length).map fun i => U.obj (N + i) := fun qs => by
    have h : (qs.zipIdx 0).map (·.2) = List.range' 0 qs.length := List.zipIdx_map_snd 0 qs
    rw [List.range_eq_range', ← h, List.map_map]
    rfl
  rw [this, this, List.length_set]
section
variable {s t : MS} {G : Str → Option U} {k : Nat} {us ds : List Str}
theorem list_new {p : List Str} : biU (.list true) [encS p] s = .ok (.obj s.length) (s ++ [encO p]) := rfl
theorem new_at {p : List Str} : (s ++ [encO p])[s.length]? = some (.lst (p.map .str)) := new0
theorem at_t {ps : List (List Str)} {j : Nat} {p : List Str} (h : ps[j]? = some p) : (t ++ ps.map encO)[t.length + j]? = some (.lst (p.map .str)) := by
  rw [get_r (j := j) rfl, List.getElem?_map, h]
  rfl
theorem pop_O {n : Nat} {p : List Str} {x : Str} (h : s[n]? = some (.lst (p.map .str))) (hl : p.getLast? = some x) : meU .pop (.obj n) [] s = .ok (.str x) (s.set n (encO p.dropLast)) := by
  have e : (p.map U.str)[(p.map U.str).length - 1]? = some (.str x) := by
    rw [List.length_map, List.getElem?_map, ← List.getLast?_eq_getElem?, hl]
    rfl
  simp only [meU, h, e, encO, List.map_dropLast]
theorem meK_P {n : Nat} {xs : List U} {kk : MS → Rv U} (h : s[n]? = some (.lst xs)) : meK .pop (.obj n) kk s = kk s := by
  simp only [meK, recv, lstOf, h, Option.isSome_some, if_true]
theorem off_sub {x : Str} : ∀ {ps qs : List (List Str)}, offS x ps = some qs → ∀ q ∈ qs, ∃ p ∈ ps, ∀ y ∈ q, y ∈ p
  | [], qs, h, _, _ => by simp [offS] at h
  | p :: ps, qs, h, q, hq => by
    simp only [offS] at h
    split at h
    · cases h
      rcases List.mem_cons.mp hq with rfl | hq
      · exact ⟨p, List.mem_cons_self .., fun y hy => List.dropLast_subset p hy⟩
      · exact ⟨q, List.mem_cons_of_mem _ hq, fun y hy => hy⟩
    · obtain ⟨r, hr, rfl⟩ := Option.map_eq_some_iff.mp h
      rcases List.mem_cons.mp hq with rfl | hq
      · exact ⟨q, List.mem_cons_self .., fun y hy => hy⟩
      · obtain ⟨p', h1, h2⟩ := off_sub hr q hq
        exact ⟨p', List.mem_cons_of_mem _ h1, h2⟩
theorem off_len {x : Str} : ∀ {ps qs : List (List Str)}, offS x ps = some qs → refs2 t.length qs = refs2 t.length ps := fun {ps qs} h => by
  obtain ⟨o1, o2⟩ := off_tops (x := x) ps 0
  cases hT : topsZ x 0 ps with
  | nil => rw [o1 hT] at h; cases h
  | cons q r =>
    obtain ⟨_, _, a3, _⟩ := o2 q r hT
    rw [a3] at h
    cases h
    exact refs2_set
end
end LW
set_option autoImplicit false
set_option Elab.async false
set_option linter.all false
set_option maxRecDepth 100000
namespace LW
open Pv
section
variable {s : MS} {G : Str → Option U} {k : Nat} {us ds : List Str}
theorem strs_plain {p : List Str} (h : plain (encS p) = true) : ∀ x ∈ p, strOk x = true := fun x hx => by
  have h1 : plains (p.map U.str) = true := by simpa only [encS, plain] using h
  have := plains_iff.mp h1 (.str x) (List.mem_map.mpr ⟨x, hx, rfl⟩)
  simpa only [plain] using this
theorem flat_le {B : Nat} : ∀ {l : List (List Str)}, (∀ c ∈ l, c.length ≤ B) → l.flatten.length ≤ l.length * B
  | [], _ => by simp
  | c :: l, h => by
    rw [List.flatten_cons, List.length_append, List.length_cons, Nat.succ_mul]
    have := h c (List.mem_cons_self ..)
    have := flat_le fun x hx => h x (List.mem_cons_of_mem _ hx)
    omega
end
end LW
set_option autoImplicit false
set_option Elab.async false
set_option linter.all false
set_option maxRecDepth 100000
namespace LW
open Pv
/-! ### what is told does -/
theorem sub_filter : ∀ {p ds : List Str}, p.Sublist ds → ds.Nodup → ds.filter (fun x => p.contains x) = p
  | p, [], h, _ => by rw [List.sublist_nil.mp h]; rfl
  | p, d :: ds, h, nd => by
    obtain ⟨h1, h2⟩ := List.nodup_cons.mp nd
    cases h with
    | cons _ h =>
      have hd : p.contains d = false := by
        cases e : p.contains d with
        | false => rfl
        | true => exact absurd (h.subset (by simpa using e)) h1
      rw [List.filter_cons, hd, if_neg Bool.false_ne_true, sub_filter h h2]
    | @cons_cons q _ _ h =>
      have hd : (d :: q).contains d = true := by simp
      rw [List.filter_cons, hd, if_pos rfl]
      congr 1
      rw [← sub_filter h h2]
      refine List.filter_congr fun x hx => ?_
      have hne : x ≠ d := fun e => h1 (by rw [← e]; exact hx)
      rw [List.contains_cons, beq_eq_false_iff_ne.mpr hne, Bool.false_or]
      have := sub_filter h h2
      rw [this]
theorem rk_up : ∀ {us : List Str}, us.Nodup → us.Pairwise fun a b => rk us a < rk us b := fun {us} nd => by
  rw [List.pairwise_iff_getElem]
  intro i j hi hj hij
  have e : ∀ (i : Nat) (hi : i < us.length), rk us us[i] = i := fun i hi => nd.idxOf_getElem i hi
  rw [e i hi, e j hj]
  exact hij
/-- a row that rises in the hanging order is what the hanging order has of it -/
theorem up_filter {us w : List Str} (nd : us.Nodup) (hw : w.Pairwise fun a b => rk us a < rk us b) (hs : ∀ x ∈ w, x ∈ us) : us.filter (fun x => w.contains x) = w := by
  have wn : w.Nodup := List.nodup_iff_pairwise_ne.mpr (hw.imp fun h e => by rw [e] at h; omega)
  have hp : (us.filter fun x => w.contains x).Perm w := (List.perm_ext_iff_of_nodup (nd.filter _) wn).mpr fun x => by
    simp only [List.mem_filter, List.contains_iff_mem]
    exact ⟨fun h => h.2, fun h => ⟨hs x h, h⟩⟩
  have up := (rk_up nd).sublist (List.filter_sublist (p := fun x => w.contains x))
  exact hp.eq_of_pairwise (le := fun a b => rk us a < rk us b) (fun x y _ _ h1 h2 => by omega) up hw
section
variable {s : MS} {G : Str → Option U} {k : Nat} {us ds : List Str}
theorem OrdOk.undU (h : OrdOk ds us) : us.Nodup := h.pm.nodup_iff.mpr h.nd
theorem told_rows (h : OrdOk ds us) : rowsOf (.tup ((stkF us ds).map encS)) = some (stkF us ds) := rowsOf_enc fun p hp => ((stkF_ok h).stk p hp).ne
theorem told_right (h : OrdOk ds us) : stkR ds us (.tup ((stkF us ds).map encS)) = true := by
  have st := stkF_ok h
  simp only [stkR, told_rows h, Bool.and_eq_true, decide_eq_true_eq, List.all_eq_true]
  refine ⟨⟨st.pm, fun p hp => (sub_filter (st.stk p hp).sub h.nd).symm⟩, ?_⟩
  obtain ⟨_, ps', e⟩ := hang_all (rk us) us (stkF us ds) (rk_up h.undU) (st.pm.trans h.pm.symm) fun p hp => (st.stk p hp).dn
  unfold hang
  rw [e]
  rfl
theorem told_len (h : OrdOk ds us) : (stkF us ds).length ≤ ds.length := by
  have := len_stk (us := us) ds []
  simpa [stkF] using this
theorem PD.str {d w : Nat} {x : Str} (h : Sh x) (hw : 1000 ≤ w) : PD d w (.str x) := ⟨by simpa only [plain] using h.1, Nat.zero_le _, by show x.length ≤ w; have := h.2; omega⟩
theorem PD.S {d w : Nat} {p : List Str} (h : ∀ x ∈ p, Sh x) (hl : p.length ≤ 1000) (hw : 1000 ≤ w) : PD (d + 1) w (encS p) := PD.tup (fun u hu => by
  obtain ⟨x, hx, rfl⟩ := List.mem_map.mp hu
  exact PD.str (h x hx) hw) (by rw [List.length_map]; omega)
theorem told_PD (h : OrdOk ds us) : PD 2 1000 (.tup ((stkF us ds).map encS)) := PD.tup (fun u hu => by
  obtain ⟨p, hp, rfl⟩ := List.mem_map.mp hu
  have st := (stkF_ok h).stk p hp
  exact PD.S (fun x hx => h.sh x (st.sub.subset hx)) (stk_w st h.few) (Nat.le_refl _)) (by rw [List.length_map]; have := told_len h; have := h.few; omega)
/-- what is told, twice, is the same -/
theorem ne_same {d w : Nat} {u : U} (h : PD d w u) (hd : d ≤ 60) : cmpU .ne u u s = some false := by
  have du := h.dat (by omega)
  have dr : der s u = some u := by
    have := h.pl
    cases u <;> first | rfl | (simp [plain] at this)
  rw [c_ne_dat du du dr dr, eqU_refl _ h.pl]
  rfl
end
end LW
set_option autoImplicit false
set_option Elab.async false
set_option linter.all false
set_option maxRecDepth 100000
namespace LW
open Pv
/-! ### are_sets, are_stacks -/
section
variable {s : MS} {G : Str → Option U} {k : Nat} {us ds : List Str}
def ltI (a b : Int) : Bool := decide (a < b)
theorem ltI_tr (a b c : Int) (h1 : ltI a b = true) (h2 : ltI b c = true) : ltI a c = true := by
  unfold ltI at *
  simp only [decide_eq_true_eq] at *
  omega
theorem rises_I (ys : List Int) : callF DD G (k + 1) 0 [.lst (ys.map .int)] s = .ok (.bl (risesB ltI ys)) s := by
  have L := lcL_pure (s := s) (vs := [1, 2]) (tg := .tup (.cons (.name 1) (.cons (.name 2) .nil))) (c := evAll ⟨callF DD G k, callF DD G (k - 1), G⟩ b0c1) (e := evE ⟨callF DD G k, callF DD G (k - 1), G⟩ b0e1) (r := ⟨(ys.zip (ys.drop 1)).map fun p => .tup [.int p.1, .int p.2], []⟩) (su := [some (.lst (ys.map .int)), none, none])
    (fun p : Int × Int => .tup [.int p.1, .int p.2]) (fun _ => true) (fun p => .bl (ltI p.1 p.2)) rfl (ys.zip (ys.drop 1)) (fun p hp => by
      refine ⟨_, rfl, by simp only [b0c1, evAll], fun _ => ?_⟩
      have e : cmpU .lt (.int p.1) (.int p.2) s = some (ltI p.1 p.2) := rfl
      simp only [b0e1, evE, varU, wipe, bindT, bindTs, List.set_cons_zero, List.set_cons_succ, List.getElem?_cons_zero, List.getElem?_cons_succ, Option.bind_some, Rv.bind_ok, e, Option.map_some, Rv.of_some]) []
  rw [List.nil_append, List.filter_eq_self.mpr fun _ _ => rfl] at L
  have hsl : slcU (.lst (ys.map .int)) (some 1) none s = some (.lst ((ys.drop 1).map .int)) := by
    show some (U.lst (cut _ _ _)) = _
    rw [cut_one, List.map_drop]
  have hz : srcZip (.lst (ys.map .int)) (.lst ((ys.drop 1).map .int)) s = some ⟨(ys.zip (ys.drop 1)).map fun p => .tup [.int p.1, .int p.2], []⟩ := by
    have e1 : seqOf s (.lst (ys.map .int)) = some (ys.map .int) := rfl
    have e2 : seqOf s (.lst ((ys.drop 1).map .int)) = some ((ys.drop 1).map .int) := rfl
    simp only [srcZip, e1, e2, zipU_map]
    rfl
  have hall : biU .all [.lst ((ys.zip (ys.drop 1)).map fun p => U.bl (ltI p.1 p.2))] s = .ok (.bl (risesB ltI ys)) s := by
    rw [all_L (blsOf_map (fun p : Int × Int => ltI p.1 p.2) _), List.all_map]
    rfl
  have r : evSs ⟨callF DD G k, callF DD G (k - 1), G⟩ d0.body (Pv.start d0.nn [.lst (ys.map .int)]) s = .rt (.bl (risesB ltI ys)) s := by
    simp -implicitDefEqProofs only [evE, evEs, evO, evT, evAll, evAny, evAnd, evOr, evI, evS, evSs, Rv.bind_ok, Rv.bind_no, Rv.bind_ex, Rv.of_some, Rv.of_none, Rv.fl_ok, Fl.then_nx, Fl.then_rt, Fl.then_bk, Fl.then_ct, varU, List.getElem?_cons_zero, List.getElem?_cons_succ, Option.map_some, Option.bind_some, negU, notU, partU, andK, orK, chnK, chnB, tru, asgK, bindT, bindTs, List.set_cons_zero, List.set_cons_succ, if_true, if_false, Bool.false_eq_true, o_add, o_sub, c_lt, c_gt, c_le, c_ge, c_eq, c_ne, ix_T, ix_L, at0, at1, at2, at3, at4, len_T, len_L, max2_, min2_, tup_L, tup_T, int_b, int_i, src_T, src_L, start, List.map_cons, List.map_nil, List.replicate, List.cons_append, List.nil_append, List.length_cons, List.length_nil, Nat.sub_self, Nat.reduceAdd, Nat.reduceSub, wipe, d0, b0, hsl, hz, L, lst_tree, hall]
  rw [call_rt (d := d0) rfl rfl r]
  exact fin_eq rfl
/-- names of ds alone, none twice -/
def setsOf (ds : List Str) (u : U) : Option (List Str) :=
  match strsT u with
  | some p => if p.all (fun x => ds.contains x) && decide p.Nodup then some p else none
  | none => none
def setB (ds : List Str) (u : U) : Bool := (setsOf ds u).isSome
theorem keysN (xs : List Str) : ((xs.foldl (fun b x => putA (Sum.inr x : Key) (.bl true) b) ([] : List (Key × U))).length == xs.length) = decide xs.Nodup := by
  have key : ∀ (xs : List Str) (b : List (Key × U)), (xs.foldl (fun b x => putA (.inr x) (.bl true) b) b).length ≤ b.length + xs.length ∧ ((xs.foldl (fun b x => putA (.inr x) (.bl true) b) b).length = b.length + xs.length ↔ xs.Nodup ∧ ∀ x ∈ xs, (Sum.inr x : Key) ∉ b.map (·.1)) := by
    intro xs
    induction xs with
    | nil => intro b; simp
    | cons x xs ih =>
      intro b
      have ih := ih (putA (.inr x) (.bl true) b)
      rw [List.foldl_cons, List.length_cons]
      by_cases h : (Sum.inr x : Key) ∈ b.map (·.1)
      · have hk : (putA (Sum.inr x : Key) (.bl true) b).map (·.1) = b.map (·.1) := by
          unfold putA
          rw [if_pos, List.map_map]
          · refine List.map_congr_left fun p _ => ?_
            simp only [Function.comp]
            split <;> rfl
          · obtain ⟨p, hp, e⟩ := List.mem_map.mp h
            exact List.any_eq_true.mpr ⟨p, hp, decide_eq_true e⟩
        have hl : (putA (Sum.inr x : Key) (.bl true) b).length = b.length := by simpa using congrArg List.length hk
        refine ⟨by omega, ⟨fun e => by omega, fun e => absurd h (e.2 x (List.mem_cons_self ..))⟩⟩
      · have hk : (putA (Sum.inr x : Key) (.bl true) b).map (·.1) = b.map (·.1) ++ [Sum.inr x] := by
          rw [putA_new h]
          simp
        have hl : (putA (Sum.inr x : Key) (.bl true) b).length = b.length + 1 := by simpa using congrArg List.length hk
        refine ⟨by omega, ?_⟩
        constructor
        · intro e
          obtain ⟨h1, h2⟩ := ih.2.mp (by omega)
          refine ⟨List.nodup_cons.mpr ⟨fun hx => ?_, h1⟩, fun y hy => ?_⟩
          · have := h2 x hx
            rw [hk] at this
            exact this (by simp)
          · rcases List.mem_cons.mp hy with rfl | hy
            · exact h
            · have := h2 y hy
              rw [hk] at this
              exact fun q => this (List.mem_append_left _ q)
        · rintro ⟨h1, h2⟩
          obtain ⟨h3, h4⟩ := List.nodup_cons.mp h1
          have := ih.2.mpr ⟨h4, fun y hy q => ?_⟩
          · omega
          · rw [hk] at q
            rcases List.mem_append.mp q with q | q
            · exact h2 y (List.mem_cons_of_mem _ hy) q
            · have := List.mem_singleton.mp q
              cases this
              exact h3 hy
  obtain ⟨_, h2⟩ := key xs []
  simp only [List.length_nil, Nat.zero_add, List.map_nil, List.not_mem_nil, not_false_eq_true, implies_true, and_true] at h2
  by_cases e : xs.Nodup
  · rw [decide_eq_true e, beq_iff_eq]
    exact h2.mpr e
  · rw [decide_eq_false e, beq_eq_false_iff_ne]
    exact fun q => e (h2.mp q)
/-- isinstance(name, str) and name in down -/
theorem in_one {d w : Nat} {x : U} (px : PD d w x) (hds : ∀ x ∈ ds, strOk x = true) : (isiU s x [.str] = some (isS x)) ∧ (∀ z, x = .str z → cmpU .isin x (encS ds) s = some (ds.contains z)) := by
  refine ⟨isi_str px.pl, fun z e => ?_⟩
  subst e
  have hz : strOk z = true := by have := px.pl; simpa only [plain] using this
  exact c_inT hz hds
def inB (ds : List Str) : U → Bool
  | .str z => ds.contains z
  | _ => false
theorem all_in {xs : List U} : xs.all (inB ds) = (match strsOf xs with | some p => p.all fun x => ds.contains x | none => false) := by
  induction xs with
  | nil => rfl
  | cons x xs ih =>
    rw [List.all_cons, ih]
    cases x <;> simp only [strsOf, inB, Bool.false_and] <;> first | rfl | skip
    cases h : strsOf xs with
    | none => simp
    | some p => simp
theorem dcK_one {X : Ctx} {c : SU → MS → Rv Bool} {kk vv : SU → MS → Rv U} {vs : List Nat} {tg : Tg} {its : List U} {su : SU} : ∀ (xs : List Str) (a : List (Key × U)), (∀ x ∈ xs, ∃ su1, bindT tg (.str x) (wipe su vs) = some su1 ∧ c su1 s = .ok true s ∧ kk su1 s = .ok (.str x) s ∧ vv su1 s = .ok (.bl true) s) →
    dcL false vs tg c kk vv ⟨its, []⟩ su (xs.map .str) a [] s = .ok (xs.foldl (fun b x => putA (Sum.inr x : Key) (.bl true) b) a, []) s
  | [], a, _ => by rw [List.map_nil, dcL, if_pos ok_nil]; rfl
  | x :: xs, a, h => by
    obtain ⟨su1, h1, h2, h3, h4⟩ := h x (List.mem_cons_self ..)
    have ih := dcK_one (X := X) (c := c) (kk := kk) (vv := vv) (vs := vs) (tg := tg) (its := its) (su := su) xs (putA (Sum.inr x : Key) (.bl true) a) fun y hy => h y (List.mem_cons_of_mem _ hy)
    rw [List.map_cons, dcL, if_pos ok_nil, h1]
    simp only [h2, h3, h4, Bool.false_eq_true, if_false, keyOf, ih, List.foldl_cons]
theorem len_dK {kvs : List (Key × U)} : biU .len [.dK (kvs.map (·.1)) (kvs.map (·.2))] s = .ok (.int (kvs.length : Nat)) s := by
  have hz : ∀ l : List (Key × U), (l.map (·.1)).zip (l.map (·.2)) = l := fun l => by
    induction l with
    | nil => rfl
    | cons a l ih => simp only [List.map_cons, List.zip_cons_cons, ih]
  have : lenU s (.dK (kvs.map (·.1)) (kvs.map (·.2))) = some kvs.length := by
    simp only [lenU, seqOf, lstOf, dKOf, hz]
  simp only [biU, this]
  rfl
theorem sets_spec (hds : ∀ x ∈ ds, strOk x = true) {d w : Nat} {u : U} (pu : PD d w u) : callF DD G (k + 1) 3 [encS ds, u] s = .ok (.bl (setB ds u)) s := by
  have it := isi_tup (s := s) pu.pl
  have fin : ∀ b, evSs ⟨callF DD G k, callF DD G (k - 1), G⟩ d3.body (Pv.start d3.nn [encS ds, u]) s = .rt (.bl b) s → callF DD G (k + 1) 3 [encS ds, u] s = .ok (.bl b) s := fun b e => by
    rw [call_rt (d := d3) rfl rfl e]
    exact fin_eq rfl
  by_cases ht : isT u = true
  · obtain ⟨xs, rfl⟩ : ∃ xs, u = .tup xs := by cases u <;> simp [isT] at ht; exact ⟨_, rfl⟩
    rw [show isT (.tup xs) = true from rfl] at it
    have hx := pu.ofT
    have lc := bl_lc (s := s) (vs := [2]) (tg := .name 2) (c := evAll ⟨callF DD G k, callF DD G (k - 1), G⟩ b3c1) (e := evE ⟨callF DD G k, callF DD G (k - 1), G⟩ b3e1) (its := xs) (su := [some (encS ds), some (.tup xs), none]) (xs := xs) (p := inB ds) fun y hy => ⟨_, rfl, by simp -implicitDefEqProofs only [evE, evEs, evO, evT, evAll, evAny, evAnd, evOr, evI, evS, evSs, Rv.bind_ok, Rv.bind_no, Rv.bind_ex, Rv.of_some, Rv.of_none, Rv.fl_ok, Fl.then_nx, Fl.then_rt, Fl.then_bk, Fl.then_ct, varU, List.getElem?_cons_zero, List.getElem?_cons_succ, Option.map_some, Option.bind_some, negU, notU, partU, andK, orK, chnK, chnB, tru, asgK, bindT, bindTs, List.set_cons_zero, List.set_cons_succ, if_true, if_false, Bool.false_eq_true, o_add, o_sub, c_lt, c_gt, c_le, c_ge, c_eq, c_ne, ix_T, ix_L, at0, at1, at2, at3, at4, len_T, len_L, max2_, min2_, tup_L, tup_T, int_b, int_i, src_T, src_L, start, List.map_cons, List.map_nil, List.replicate, List.cons_append, List.nil_append, List.length_cons, List.length_nil, Nat.sub_self, Nat.reduceAdd, Nat.reduceSub, wipe, b3c1], by
      obtain ⟨e1, e2⟩ := in_one (s := s) (hx.1 y hy) hds
      generalize encS ds = Ds at *
      cases y with
      | str z =>
        have e3 := e2 z rfl
        have e4 : isS (.str z) = true := rfl
        rw [e4] at e1
        simp -implicitDefEqProofs only [evE, evEs, evO, evT, evAll, evAny, evAnd, evOr, evI, evS, evSs, Rv.bind_ok, Rv.bind_no, Rv.bind_ex, Rv.of_some, Rv.of_none, Rv.fl_ok, Fl.then_nx, Fl.then_rt, Fl.then_bk, Fl.then_ct, varU, List.getElem?_cons_zero, List.getElem?_cons_succ, Option.map_some, Option.bind_some, negU, notU, partU, andK, orK, chnK, chnB, tru, asgK, bindT, bindTs, List.set_cons_zero, List.set_cons_succ, if_true, if_false, Bool.false_eq_true, o_add, o_sub, c_lt, c_gt, c_le, c_ge, c_eq, c_ne, ix_T, ix_L, at0, at1, at2, at3, at4, len_T, len_L, max2_, min2_, tup_L, tup_T, int_b, int_i, src_T, src_L, start, List.map_cons, List.map_nil, List.replicate, List.cons_append, List.nil_append, List.length_cons, List.length_nil, Nat.sub_self, Nat.reduceAdd, Nat.reduceSub, wipe, b3e1, e1, e3, inB]
      | _ =>
        rw [show isS _ = false from rfl] at e1
        simp -implicitDefEqProofs only [evE, evEs, evO, evT, evAll, evAny, evAnd, evOr, evI, evS, evSs, Rv.bind_ok, Rv.bind_no, Rv.bind_ex, Rv.of_some, Rv.of_none, Rv.fl_ok, Fl.then_nx, Fl.then_rt, Fl.then_bk, Fl.then_ct, varU, List.getElem?_cons_zero, List.getElem?_cons_succ, Option.map_some, Option.bind_some, negU, notU, partU, andK, orK, chnK, chnB, tru, asgK, bindT, bindTs, List.set_cons_zero, List.set_cons_succ, if_true, if_false, Bool.false_eq_true, o_add, o_sub, c_lt, c_gt, c_le, c_ge, c_eq, c_ne, ix_T, ix_L, at0, at1, at2, at3, at4, len_T, len_L, max2_, min2_, tup_L, tup_T, int_b, int_i, src_T, src_L, start, List.map_cons, List.map_nil, List.replicate, List.cons_append, List.nil_append, List.length_cons, List.length_nil, Nat.sub_self, Nat.reduceAdd, Nat.reduceSub, wipe, b3e1, e1, inB]⟩
    have al := all_bl (s := s) (xs := xs) (p := inB ds)
    rw [all_in] at al
    have srcX : ∀ s, srcSeq (.tup xs) s = some ⟨xs, []⟩ := fun _ => rfl
    cases hs : strsOf xs with
    | none =>
      rw [hs] at al
      have er : setB ds (.tup xs) = false := by simp only [setB, setsOf, strsT, hs, Option.isSome_none]
      rw [er]
      refine fin false ?_
      generalize encS ds = Ds at *
      generalize (xs.map fun x => U.bl (inB ds x)) = Bl at *
      simp -implicitDefEqProofs only [evE, evEs, evO, evT, evAll, evAny, evAnd, evOr, evI, evS, evSs, Rv.bind_ok, Rv.bind_no, Rv.bind_ex, Rv.of_some, Rv.of_none, Rv.fl_ok, Fl.then_nx, Fl.then_rt, Fl.then_bk, Fl.then_ct, varU, List.getElem?_cons_zero, List.getElem?_cons_succ, Option.map_some, Option.bind_some, negU, notU, partU, andK, orK, chnK, chnB, tru, asgK, bindT, bindTs, List.set_cons_zero, List.set_cons_succ, if_true, if_false, Bool.false_eq_true, o_add, o_sub, c_lt, c_gt, c_le, c_ge, c_eq, c_ne, ix_T, ix_L, at0, at1, at2, at3, at4, len_T, len_L, max2_, min2_, tup_L, tup_T, int_b, int_i, src_T, src_L, start, List.map_cons, List.map_nil, List.replicate, List.cons_append, List.nil_append, List.length_cons, List.length_nil, Nat.sub_self, Nat.reduceAdd, Nat.reduceSub, wipe, d3, b3, it, Bool.not_true, srcX, lc, lst_tree, al, Bool.not_false]
    | some p =>
      rw [hs] at al
      have e1 := strsOf_eq hs
      subst e1
      cases ha : p.all fun x => ds.contains x with
      | false =>
        simp only [ha] at al
        have er : setB ds (.tup (p.map .str)) = false := by simp only [setB, setsOf, strsT, hs, ha, Bool.false_and, Bool.false_eq_true, if_false, Option.isSome_none]
        rw [er]
        refine fin false ?_
        generalize encS ds = Ds at *
        generalize ((p.map U.str).map fun x => U.bl (inB ds x)) = Bl at *
        generalize p.map U.str = Xs at *
        simp -implicitDefEqProofs only [evE, evEs, evO, evT, evAll, evAny, evAnd, evOr, evI, evS, evSs, Rv.bind_ok, Rv.bind_no, Rv.bind_ex, Rv.of_some, Rv.of_none, Rv.fl_ok, Fl.then_nx, Fl.then_rt, Fl.then_bk, Fl.then_ct, varU, List.getElem?_cons_zero, List.getElem?_cons_succ, Option.map_some, Option.bind_some, negU, notU, partU, andK, orK, chnK, chnB, tru, asgK, bindT, bindTs, List.set_cons_zero, List.set_cons_succ, if_true, if_false, Bool.false_eq_true, o_add, o_sub, c_lt, c_gt, c_le, c_ge, c_eq, c_ne, ix_T, ix_L, at0, at1, at2, at3, at4, len_T, len_L, max2_, min2_, tup_L, tup_T, int_b, int_i, src_T, src_L, start, List.map_cons, List.map_nil, List.replicate, List.cons_append, List.nil_append, List.length_cons, List.length_nil, Nat.sub_self, Nat.reduceAdd, Nat.reduceSub, wipe, d3, b3, it, Bool.not_true, srcX, lc, lst_tree, al, Bool.not_false]
      | true =>
        simp only [ha] at al
        have er : setB ds (.tup (p.map .str)) = decide p.Nodup := by
          simp only [setB, setsOf, strsT, hs, ha, Bool.true_and]
          cases decide p.Nodup <;> rfl
        rw [er]
        refine fin _ ?_
        have dc := dcK_one (X := ⟨callF DD G k, callF DD G (k - 1), G⟩) (s := s) (vs := [2]) (tg := .name 2) (c := evAll ⟨callF DD G k, callF DD G (k - 1), G⟩ b3c2) (kk := evE ⟨callF DD G k, callF DD G (k - 1), G⟩ b3k1) (vv := evE ⟨callF DD G k, callF DD G (k - 1), G⟩ b3v1) (its := p.map .str) (su := [some (encS ds), some (.tup (p.map .str)), none]) p [] fun x hx => ⟨_, rfl, by simp -implicitDefEqProofs only [evE, evEs, evO, evT, evAll, evAny, evAnd, evOr, evI, evS, evSs, Rv.bind_ok, Rv.bind_no, Rv.bind_ex, Rv.of_some, Rv.of_none, Rv.fl_ok, Fl.then_nx, Fl.then_rt, Fl.then_bk, Fl.then_ct, varU, List.getElem?_cons_zero, List.getElem?_cons_succ, Option.map_some, Option.bind_some, negU, notU, partU, andK, orK, chnK, chnB, tru, asgK, bindT, bindTs, List.set_cons_zero, List.set_cons_succ, if_true, if_false, Bool.false_eq_true, o_add, o_sub, c_lt, c_gt, c_le, c_ge, c_eq, c_ne, ix_T, ix_L, at0, at1, at2, at3, at4, len_T, len_L, max2_, min2_, tup_L, tup_T, int_b, int_i, src_T, src_L, start, List.map_cons, List.map_nil, List.replicate, List.cons_append, List.nil_append, List.length_cons, List.length_nil, Nat.sub_self, Nat.reduceAdd, Nat.reduceSub, wipe, b3c2], by simp -implicitDefEqProofs only [evE, evEs, evO, evT, evAll, evAny, evAnd, evOr, evI, evS, evSs, Rv.bind_ok, Rv.bind_no, Rv.bind_ex, Rv.of_some, Rv.of_none, Rv.fl_ok, Fl.then_nx, Fl.then_rt, Fl.then_bk, Fl.then_ct, varU, List.getElem?_cons_zero, List.getElem?_cons_succ, Option.map_some, Option.bind_some, negU, notU, partU, andK, orK, chnK, chnB, tru, asgK, bindT, bindTs, List.set_cons_zero, List.set_cons_succ, if_true, if_false, Bool.false_eq_true, o_add, o_sub, c_lt, c_gt, c_le, c_ge, c_eq, c_ne, ix_T, ix_L, at0, at1, at2, at3, at4, len_T, len_L, max2_, min2_, tup_L, tup_T, int_b, int_i, src_T, src_L, start, List.map_cons, List.map_nil, List.replicate, List.cons_append, List.nil_append, List.length_cons, List.length_nil, Nat.sub_self, Nat.reduceAdd, Nat.reduceSub, wipe, b3k1], by simp -implicitDefEqProofs only [evE, evEs, evO, evT, evAll, evAny, evAnd, evOr, evI, evS, evSs, Rv.bind_ok, Rv.bind_no, Rv.bind_ex, Rv.of_some, Rv.of_none, Rv.fl_ok, Fl.then_nx, Fl.then_rt, Fl.then_bk, Fl.then_ct, varU, List.getElem?_cons_zero, List.getElem?_cons_succ, Option.map_some, Option.bind_some, negU, notU, partU, andK, orK, chnK, chnB, tru, asgK, bindT, bindTs, List.set_cons_zero, List.set_cons_succ, if_true, if_false, Bool.false_eq_true, o_add, o_sub, c_lt, c_gt, c_le, c_ge, c_eq, c_ne, ix_T, ix_L, at0, at1, at2, at3, at4, len_T, len_L, max2_, min2_, tup_L, tup_T, int_b, int_i, src_T, src_L, start, List.map_cons, List.map_nil, List.replicate, List.cons_append, List.nil_append, List.length_cons, List.length_nil, Nat.sub_self, Nat.reduceAdd, Nat.reduceSub, wipe, b3v1]⟩
        have ln := len_dK (s := s) (kvs := p.foldl (fun b x => putA (Sum.inr x : Key) (.bl true) b) [])
        have lt : biU .len [.tup (p.map U.str)] s = .ok (.int (p.length : Nat)) s := by rw [len_T, List.length_map]
        have kn := keysN p
        have ce : cmpU .eq (.int ((p.foldl (fun b x => putA (Sum.inr x : Key) (.bl true) b) ([] : List (Key × U))).length : Nat)) (.int (p.length : Nat)) s = some (decide p.Nodup) := by
          rw [c_eq, ← kn]
          congr 1
          rw [Bool.eq_iff_iff, beq_iff_eq, beq_iff_eq]
          omega
        have mk : ∀ (a : List (Key × U)), mkD false false a [] s = .ok (.dK (a.map (·.1)) (a.map (·.2))) s := fun _ => rfl
        generalize encS ds = Ds at *
        generalize ((p.map U.str).map fun x => U.bl (inB ds x)) = Bl at *
        generalize p.map U.str = Xs at *
        simp only [d3, b3, Pv.start, List.map_cons, List.map_nil, List.replicate, List.cons_append, List.nil_append, List.length_cons, List.length_nil, Nat.reduceAdd, Nat.reduceSub, evSs, evS, evE, evT, evAny, evEs, evI, varU, List.getElem?_cons_zero, List.getElem?_cons_succ, Rv.bind_ok, Rv.of_some, it, tru, Bool.not_true, Bool.false_eq_true, if_false, Option.map_some, srcX, lc, lst_tree, al, Rv.fl_ok, Fl.then_nx, dc, mk, ln, lt, ce]
        rfl
  · have er : setB ds u = false := by cases u <;> first | rfl | (exact absurd rfl ht)
    rw [show isT u = false from by simpa using ht] at it
    rw [er]
    refine fin false ?_
    generalize encS ds = Ds at *
    simp -implicitDefEqProofs only [evE, evEs, evO, evT, evAll, evAny, evAnd, evOr, evI, evS, evSs, Rv.bind_ok, Rv.bind_no, Rv.bind_ex, Rv.of_some, Rv.of_none, Rv.fl_ok, Fl.then_nx, Fl.then_rt, Fl.then_bk, Fl.then_ct, varU, List.getElem?_cons_zero, List.getElem?_cons_succ, Option.map_some, Option.bind_some, negU, notU, partU, andK, orK, chnK, chnB, tru, asgK, bindT, bindTs, List.set_cons_zero, List.set_cons_succ, if_true, if_false, Bool.false_eq_true, o_add, o_sub, c_lt, c_gt, c_le, c_ge, c_eq, c_ne, ix_T, ix_L, at0, at1, at2, at3, at4, len_T, len_L, max2_, min2_, tup_L, tup_T, int_b, int_i, src_T, src_L, start, List.map_cons, List.map_nil, List.replicate, List.cons_append, List.nil_append, List.length_cons, List.length_nil, Nat.sub_self, Nat.reduceAdd, Nat.reduceSub, wipe, d3, b3, it, Bool.not_false]
end
end LW
set_option autoImplicit false
set_option Elab.async false
set_option linter.all false
set_option maxRecDepth 100000
namespace LW
open Pv
/-! ### are_stacks is what doing it tells -/
theorem hang_conv {r : Str → Nat} : ∀ (us : List Str) (ps : List (List Str)), us.Pairwise (fun a b => r a < r b) → ps.flatten.Perm us → (us.foldlM (fun q x => offS x q) ps).isSome = true → ∀ p ∈ ps, p.Pairwise fun a b => r b < r a
  | [], ps, _, hp, _, p, hm => by
    have : p = [] := by
      have h1 := hp.length_eq
      cases p with
      | nil => rfl
      | cons x p =>
        have : x ∈ ps.flatten := List.mem_flatten.mpr ⟨_, hm, List.mem_cons_self ..⟩
        have := hp.mem_iff.mp this
        cases this
    rw [this]
    exact List.Pairwise.nil
  | x :: us, ps, hu, hp, hs, p, hm => by
    obtain ⟨h1, h2⟩ := List.pairwise_cons.mp hu
    rw [List.foldlM_cons] at hs
    obtain ⟨o1, o2⟩ := off_tops (x := x) ps 0
    cases hT : topsZ x 0 ps with
    | nil =>
      rw [o1 hT] at hs
      cases hs
    | cons q t =>
      obtain ⟨_, a2, a3, a4⟩ := o2 q t hT
      rw [Nat.sub_zero] at a2 a3
      rw [a3] at hs
      have hqm := List.mem_of_getElem? a2
      obtain ⟨ps', e1, e2, _⟩ := offS_some (ps := ps) (x := x) ⟨q.1, hqm, a4⟩
      rw [a3] at e1
      cases e1
      have hp' : (ps.set q.2 q.1.dropLast).flatten.Perm us := (hp.symm.trans e2).cons_inv.symm
      have ih := hang_conv us (ps.set q.2 q.1.dropLast) h2 hp' hs
      obtain ⟨i, hi, ei⟩ := List.mem_iff_getElem.mp hm
      by_cases hij : i = q.2
      · have hj := (List.getElem?_eq_some_iff.mp a2)
        have ep : p = q.1 := by
          rw [← ei, ← hj.2]
          congr 1
        have hdm : q.1.dropLast ∈ ps.set q.2 q.1.dropLast := List.mem_iff_getElem.mpr ⟨q.2, by rw [List.length_set]; exact hj.1, by rw [List.getElem_set_self]⟩
        have hne : q.1 ≠ [] := fun e => by rw [e] at a4; cases a4
        have hl : q.1.getLast hne = x := by
          rw [List.getLast?_eq_some_getLast hne] at a4
          exact Option.some.inj a4
        rw [ep, ← List.dropLast_concat_getLast hne, hl]
        refine List.pairwise_append.mpr ⟨ih _ hdm, by simp, fun a ha b hb => ?_⟩
        rw [List.mem_singleton.mp hb]
        exact h1 a (hp'.mem_iff.mp (List.mem_flatten.mpr ⟨_, hdm, ha⟩))
      · refine ih p (List.mem_iff_getElem.mpr ⟨i, by rw [List.length_set]; exact hi, ?_⟩)
        rw [List.getElem_set_ne (Ne.symm hij)]
        exact ei
section
variable {s : MS} {G : Str → Option U} {k : Nat} {us ds : List Str}
def rkI (os : List Str) (w : List Str) : List Int := w.map fun x => ((rk os x : Nat) : Int)
theorem rises_rk {os w : List Str} : risesB ltI (rkI os w) = true ↔ w.Pairwise fun a b => rk os a < rk os b := by
  rw [risesB_pair ltI_tr]
  unfold rkI
  rw [List.pairwise_map]
  unfold ltI
  constructor
  · exact fun h => h.imp fun h => by simp only [decide_eq_true_eq] at h; omega
  · exact fun h => h.imp fun h => by simp only [decide_eq_true_eq]; omega
def stkA (ds us : List Str) (ps : List (List Str)) : Bool := decide (ps.flatten.Perm ds) && ps.all fun p => risesB ltI (rkI ds p) && risesB ltI (rkI us p.reverse)
theorem stkA_eq (h : OrdOk ds us) {ps : List (List Str)} : stkA ds us ps = (decide (ps.flatten.Perm ds) && ps.all (fun p => decide (p = ds.filter fun x => p.contains x)) && (hang us ps).isSome) := by
  unfold stkA
  by_cases hp : ps.flatten.Perm ds
  case neg => rw [decide_eq_false hp, Bool.false_and, Bool.false_and, Bool.false_and]
  rw [decide_eq_true hp, Bool.true_and, Bool.true_and]
  have hin : ∀ p ∈ ps, ∀ x ∈ p, x ∈ ds := fun p hpm x hx => hp.mem_iff.mp (List.mem_flatten.mpr ⟨p, hpm, hx⟩)
  have rkd : ∀ {os : List Str}, os.Nodup → ∀ p : List Str, (∀ x ∈ p, x ∈ os) → (risesB ltI (rkI os p) = true ↔ p = os.filter fun x => p.contains x) := fun {os} nd p hs => by
    rw [rises_rk]
    constructor
    · exact fun h => (up_filter nd h hs).symm
    · intro e
      rw [e]
      exact (rk_up nd).sublist List.filter_sublist
  rw [Bool.eq_iff_iff, Bool.and_eq_true, List.all_eq_true, List.all_eq_true]
  constructor
  · intro hA
    refine ⟨fun p hpm => ?_, ?_⟩
    · have := hA p hpm
      rw [Bool.and_eq_true] at this
      exact decide_eq_true ((rkd h.nd p (hin p hpm)).mp this.1)
    · obtain ⟨_, ps', e⟩ := hang_all (rk us) us ps (rk_up h.undU) (hp.trans h.pm.symm) fun p hpm => by
        have := hA p hpm
        rw [Bool.and_eq_true] at this
        have h2 := rises_rk.mp this.2
        rwa [List.pairwise_reverse] at h2
      unfold hang
      rw [e]
      rfl
  · rintro ⟨hA, hh⟩ p hpm
    rw [Bool.and_eq_true]
    refine ⟨(rkd h.nd p (hin p hpm)).mpr (of_decide_eq_true (hA p hpm)), rises_rk.mpr ?_⟩
    rw [List.pairwise_reverse]
    exact hang_conv us ps (rk_up h.undU) (hp.trans h.pm.symm) hh p hpm
/-- what are_stacks asks first -/
def okS (ds : List Str) (u : U) : Bool := setB ds u && !decide (u = .tup [])
theorem okS_iff {u : U} (hk : okS ds u = true) : ∃ p : List Str, p ≠ [] ∧ u = encS p ∧ (∀ x ∈ p, x ∈ ds) ∧ p.Nodup := by
  unfold okS setB at hk
  rw [Bool.and_eq_true] at hk
  obtain ⟨p, hp⟩ := Option.isSome_iff_exists.mp hk.1
  unfold setsOf at hp
  split at hp
  · rename_i p' e
    split at hp
    · rename_i hc
      cases hp
      rw [Bool.and_eq_true, List.all_eq_true] at hc
      cases u <;> simp only [strsT] at e <;> first | (cases e; done) | skip
      have e2 := strsOf_eq e
      refine ⟨p, fun e3 => ?_, by rw [e2]; rfl, fun x hx => by simpa using hc.1 x hx, of_decide_eq_true hc.2⟩
      rw [e2, e3] at hk
      simp at hk
    · cases hp
  · cases hp
theorem okS_enc {p : List Str} (h1 : p ≠ []) (h2 : ∀ x ∈ p, x ∈ ds) (h3 : p.Nodup) : okS ds (encS p) = true := by
  have hs : strsT (encS p) = some p := strsOf_map p
  have e : setB ds (encS p) = true := by
    unfold setB setsOf
    rw [hs]
    simp only
    rw [if_pos]
    · rfl
    · rw [Bool.and_eq_true, List.all_eq_true]
      exact ⟨fun x hx => by simpa using h2 x hx, decide_eq_true h3⟩
  unfold okS
  rw [e, Bool.true_and, Bool.not_eq_true', decide_eq_false_iff_not]
  intro e2
  unfold encS at e2
  injection e2 with e2
  exact h1 (by simpa using e2)
theorem idx_lc {X : Ctx} {os w : List Str} {vs : List Nat} {tg : Tg} {c : SU → MS → Rv Bool} {e : SU → MS → Rv U} {su : SU} (h : ∀ x ∈ w, ∃ su1, bindT tg (.str x) (wipe su vs) = some su1 ∧ c su1 s = .ok true s ∧ e su1 s = .ok (.int (rk os x : Nat)) s) :
    lcL vs tg c e ⟨w.map .str, []⟩ su (w.map .str) [] s = .ok ((rkI os w).map .int) s := by
  have := lcL_pure (s := s) (r := ⟨w.map .str, []⟩) (c := c) (e := e) (vs := vs) (tg := tg) (su := su) U.str (fun _ => true) (fun x => .int (rk os x : Nat)) rfl w (fun x hx => by
    obtain ⟨su1, h1, h2, h3⟩ := h x hx
    exact ⟨su1, h1, h2, fun _ => h3⟩) []
  rw [List.nil_append, List.filter_eq_self.mpr fun _ _ => rfl] at this
  rw [this]
  simp [rkI, List.map_map, Function.comp_def]
/-- a turn of the loop -/
theorem stk_turn (h : OrdOk ds us) {p : List Str} (hp : ∀ x ∈ p, x ∈ ds) {x2 x3 x5 : Option U} :
    evSs ⟨callF DD G (k + 1), callF DD G (k + 1 - 1), G⟩ b4f1 [some (encS ds), some (encS us), x2, x3, some (encS p), x5] s = if risesB ltI (rkI ds p) && risesB ltI (rkI us p.reverse) then .nx [some (encS ds), some (encS us), x2, x3, some (encS p), x5] s else .rt (.bl false) s := by
  have la := idx_lc (X := ⟨callF DD G (k + 1), callF DD G (k + 1 - 1), G⟩) (s := s) (os := ds) (w := p) (vs := [5]) (tg := .name 5) (c := evAll ⟨callF DD G (k + 1), callF DD G (k + 1 - 1), G⟩ b4c5) (e := evE ⟨callF DD G (k + 1), callF DD G (k + 1 - 1), G⟩ b4e4) (su := [some (encS ds), some (encS us), x2, x3, some (encS p), x5]) fun x hx => by
    refine ⟨_, rfl, ?_, ?_⟩
    · simp -implicitDefEqProofs only [evE, evEs, evO, evT, evAll, evAny, evAnd, evOr, evI, evS, evSs, Rv.bind_ok, Rv.bind_no, Rv.bind_ex, Rv.of_some, Rv.of_none, Rv.fl_ok, Fl.then_nx, Fl.then_rt, Fl.then_bk, Fl.then_ct, varU, List.getElem?_cons_zero, List.getElem?_cons_succ, Option.map_some, Option.bind_some, negU, notU, partU, andK, orK, chnK, chnB, tru, asgK, bindT, bindTs, List.set_cons_zero, List.set_cons_succ, if_true, if_false, Bool.false_eq_true, o_add, o_sub, c_lt, c_gt, c_le, c_ge, c_eq, c_ne, ix_T, ix_L, at0, at1, at2, at3, at4, len_T, len_L, max2_, min2_, tup_L, tup_T, int_b, int_i, src_T, src_L, start, List.map_cons, List.map_nil, List.replicate, List.cons_append, List.nil_append, List.length_cons, List.length_nil, Nat.sub_self, Nat.reduceAdd, Nat.reduceSub, wipe, b4c5]
    · unfold encS
      simp -implicitDefEqProofs only [evE, evEs, evO, evT, evAll, evAny, evAnd, evOr, evI, evS, evSs, Rv.bind_ok, Rv.bind_no, Rv.bind_ex, Rv.of_some, Rv.of_none, Rv.fl_ok, Fl.then_nx, Fl.then_rt, Fl.then_bk, Fl.then_ct, varU, List.getElem?_cons_zero, List.getElem?_cons_succ, Option.map_some, Option.bind_some, negU, notU, partU, andK, orK, chnK, chnB, tru, asgK, bindT, bindTs, List.set_cons_zero, List.set_cons_succ, if_true, if_false, Bool.false_eq_true, o_add, o_sub, c_lt, c_gt, c_le, c_ge, c_eq, c_ne, ix_T, ix_L, at0, at1, at2, at3, at4, len_T, len_L, max2_, min2_, tup_L, tup_T, int_b, int_i, src_T, src_L, start, List.map_cons, List.map_nil, List.replicate, List.cons_append, List.nil_append, List.length_cons, List.length_nil, Nat.sub_self, Nat.reduceAdd, Nat.reduceSub, wipe, b4e4, me_ix, ix_st (hp x hx)]
  have lb := idx_lc (X := ⟨callF DD G (k + 1), callF DD G (k + 1 - 1), G⟩) (s := s) (os := us) (w := p.reverse) (vs := [5]) (tg := .name 5) (c := evAll ⟨callF DD G (k + 1), callF DD G (k + 1 - 1), G⟩ b4c4) (e := evE ⟨callF DD G (k + 1), callF DD G (k + 1 - 1), G⟩ b4e3) (su := [some (encS ds), some (encS us), x2, x3, some (encS p), x5]) fun x hx => by
    refine ⟨_, rfl, ?_, ?_⟩
    · simp -implicitDefEqProofs only [evE, evEs, evO, evT, evAll, evAny, evAnd, evOr, evI, evS, evSs, Rv.bind_ok, Rv.bind_no, Rv.bind_ex, Rv.of_some, Rv.of_none, Rv.fl_ok, Fl.then_nx, Fl.then_rt, Fl.then_bk, Fl.then_ct, varU, List.getElem?_cons_zero, List.getElem?_cons_succ, Option.map_some, Option.bind_some, negU, notU, partU, andK, orK, chnK, chnB, tru, asgK, bindT, bindTs, List.set_cons_zero, List.set_cons_succ, if_true, if_false, Bool.false_eq_true, o_add, o_sub, c_lt, c_gt, c_le, c_ge, c_eq, c_ne, ix_T, ix_L, at0, at1, at2, at3, at4, len_T, len_L, max2_, min2_, tup_L, tup_T, int_b, int_i, src_T, src_L, start, List.map_cons, List.map_nil, List.replicate, List.cons_append, List.nil_append, List.length_cons, List.length_nil, Nat.sub_self, Nat.reduceAdd, Nat.reduceSub, wipe, b4c4]
    · unfold encS
      simp -implicitDefEqProofs only [evE, evEs, evO, evT, evAll, evAny, evAnd, evOr, evI, evS, evSs, Rv.bind_ok, Rv.bind_no, Rv.bind_ex, Rv.of_some, Rv.of_none, Rv.fl_ok, Fl.then_nx, Fl.then_rt, Fl.then_bk, Fl.then_ct, varU, List.getElem?_cons_zero, List.getElem?_cons_succ, Option.map_some, Option.bind_some, negU, notU, partU, andK, orK, chnK, chnB, tru, asgK, bindT, bindTs, List.set_cons_zero, List.set_cons_succ, if_true, if_false, Bool.false_eq_true, o_add, o_sub, c_lt, c_gt, c_le, c_ge, c_eq, c_ne, ix_T, ix_L, at0, at1, at2, at3, at4, len_T, len_L, max2_, min2_, tup_L, tup_T, int_b, int_i, src_T, src_L, start, List.map_cons, List.map_nil, List.replicate, List.cons_append, List.nil_append, List.length_cons, List.length_nil, Nat.sub_self, Nat.reduceAdd, Nat.reduceSub, wipe, b4e3, me_ix, ix_st (h.mem (hp x (List.mem_reverse.mp hx)))]
  have ra := rises_I (G := G) (k := k) (s := s) (rkI ds p)
  have rb := rises_I (G := G) (k := k) (s := s) (rkI us p.reverse)
  have rv : revU (encS p) s = some (encS p.reverse) := by
    unfold encS
    rw [List.map_reverse]
    rfl
  have sa : srcSeq (encS p) s = some ⟨p.map .str, []⟩ := rfl
  have sb : srcSeq (encS p.reverse) s = some ⟨p.reverse.map .str, []⟩ := rfl
  generalize encS us = Us at *
  generalize encS ds = Ds at *
  generalize encS p.reverse = Pr at *
  generalize encS p = Pu at *
  generalize (rkI ds p).map U.int = Ia at *
  generalize (rkI us p.reverse).map U.int = Ib at *
  cases h1 : risesB ltI (rkI ds p) with
  | false =>
    rw [h1] at ra
    simp -implicitDefEqProofs only [evE, evEs, evO, evT, evAll, evAny, evAnd, evOr, evI, evS, evSs, Rv.bind_ok, Rv.bind_no, Rv.bind_ex, Rv.of_some, Rv.of_none, Rv.fl_ok, Fl.then_nx, Fl.then_rt, Fl.then_bk, Fl.then_ct, varU, List.getElem?_cons_zero, List.getElem?_cons_succ, Option.map_some, Option.bind_some, negU, notU, partU, andK, orK, chnK, chnB, tru, asgK, bindT, bindTs, List.set_cons_zero, List.set_cons_succ, if_true, if_false, Bool.false_eq_true, o_add, o_sub, c_lt, c_gt, c_le, c_ge, c_eq, c_ne, ix_T, ix_L, at0, at1, at2, at3, at4, len_T, len_L, max2_, min2_, tup_L, tup_T, int_b, int_i, src_T, src_L, start, List.map_cons, List.map_nil, List.replicate, List.cons_append, List.nil_append, List.length_cons, List.length_nil, Nat.sub_self, Nat.reduceAdd, Nat.reduceSub, wipe, b4f1, sa, la, lst_tree, ra, Bool.not_false, Bool.false_and]
  | true =>
    rw [h1] at ra
    cases h2 : risesB ltI (rkI us p.reverse) with
    | false =>
      rw [h2] at rb
      simp -implicitDefEqProofs only [evE, evEs, evO, evT, evAll, evAny, evAnd, evOr, evI, evS, evSs, Rv.bind_ok, Rv.bind_no, Rv.bind_ex, Rv.of_some, Rv.of_none, Rv.fl_ok, Fl.then_nx, Fl.then_rt, Fl.then_bk, Fl.then_ct, varU, List.getElem?_cons_zero, List.getElem?_cons_succ, Option.map_some, Option.bind_some, negU, notU, partU, andK, orK, chnK, chnB, tru, asgK, bindT, bindTs, List.set_cons_zero, List.set_cons_succ, if_true, if_false, Bool.false_eq_true, o_add, o_sub, c_lt, c_gt, c_le, c_ge, c_eq, c_ne, ix_T, ix_L, at0, at1, at2, at3, at4, len_T, len_L, max2_, min2_, tup_L, tup_T, int_b, int_i, src_T, src_L, start, List.map_cons, List.map_nil, List.replicate, List.cons_append, List.nil_append, List.length_cons, List.length_nil, Nat.sub_self, Nat.reduceAdd, Nat.reduceSub, wipe, b4f1, sa, la, lst_tree, ra, Bool.not_true, rv, sb, lb, rb, Bool.not_false, Bool.and_false]
    | true =>
      rw [h2] at rb
      simp -implicitDefEqProofs only [evE, evEs, evO, evT, evAll, evAny, evAnd, evOr, evI, evS, evSs, Rv.bind_ok, Rv.bind_no, Rv.bind_ex, Rv.of_some, Rv.of_none, Rv.fl_ok, Fl.then_nx, Fl.then_rt, Fl.then_bk, Fl.then_ct, varU, List.getElem?_cons_zero, List.getElem?_cons_succ, Option.map_some, Option.bind_some, negU, notU, partU, andK, orK, chnK, chnB, tru, asgK, bindT, bindTs, List.set_cons_zero, List.set_cons_succ, if_true, if_false, Bool.false_eq_true, o_add, o_sub, c_lt, c_gt, c_le, c_ge, c_eq, c_ne, ix_T, ix_L, at0, at1, at2, at3, at4, len_T, len_L, max2_, min2_, tup_L, tup_T, int_b, int_i, src_T, src_L, start, List.map_cons, List.map_nil, List.replicate, List.cons_append, List.nil_append, List.length_cons, List.length_nil, Nat.sub_self, Nat.reduceAdd, Nat.reduceSub, wipe, b4f1, sa, la, lst_tree, ra, Bool.not_true, rv, sb, lb, rb, Bool.and_self]
theorem stacksA (h : OrdOk ds us) {d w : Nat} {u : U} (pu : PD d w u) (hd : d ≤ 60) (hw : w ≤ 1000) : callF DD G (k + 2) 4 [encS ds, encS us, u] s = .ok (.bl (stkR ds us u)) s := by
  have it := isi_tup (s := s) pu.pl
  have hds : ∀ x ∈ ds, strOk x = true := fun x hx => (h.sh x hx).1
  have fin : ∀ b, evSs ⟨callF DD G (k + 1), callF DD G (k + 1 - 1), G⟩ d4.body (Pv.start d4.nn [encS ds, encS us, u]) s = .rt (.bl b) s → callF DD G (k + 2) 4 [encS ds, encS us, u] s = .ok (.bl b) s := fun b e => by
    rw [call_rt (d := d4) rfl rfl e]
    exact fin_eq rfl
  by_cases ht : isT u = true
  case neg =>
    have er : stkR ds us u = false := by cases u <;> first | rfl | (exact absurd rfl ht)
    rw [show isT u = false from by simpa using ht] at it
    rw [er]
    refine fin false ?_
    generalize encS us = Us at *
    generalize encS ds = Ds at *
    simp -implicitDefEqProofs only [evE, evEs, evO, evT, evAll, evAny, evAnd, evOr, evI, evS, evSs, Rv.bind_ok, Rv.bind_no, Rv.bind_ex, Rv.of_some, Rv.of_none, Rv.fl_ok, Fl.then_nx, Fl.then_rt, Fl.then_bk, Fl.then_ct, varU, List.getElem?_cons_zero, List.getElem?_cons_succ, Option.map_some, Option.bind_some, negU, notU, partU, andK, orK, chnK, chnB, tru, asgK, bindT, bindTs, List.set_cons_zero, List.set_cons_succ, if_true, if_false, Bool.false_eq_true, o_add, o_sub, c_lt, c_gt, c_le, c_ge, c_eq, c_ne, ix_T, ix_L, at0, at1, at2, at3, at4, len_T, len_L, max2_, min2_, tup_L, tup_T, int_b, int_i, src_T, src_L, start, List.map_cons, List.map_nil, List.replicate, List.cons_append, List.nil_append, List.length_cons, List.length_nil, Nat.sub_self, Nat.reduceAdd, Nat.reduceSub, wipe, d4, b4, it, Bool.not_false]
  obtain ⟨xs, rfl⟩ : ∃ xs, u = .tup xs := by cases u <;> simp [isT] at ht; exact ⟨_, rfl⟩
  rw [show isT (.tup xs) = true from rfl] at it
  have hx := pu.ofT
  have lc := bl_lc (s := s) (vs := [4]) (tg := .name 4) (c := evAll ⟨callF DD G (k + 1), callF DD G (k + 1 - 1), G⟩ b4c1) (e := evE ⟨callF DD G (k + 1), callF DD G (k + 1 - 1), G⟩ b4e1) (its := xs) (su := [some (encS ds), some (encS us), some (.tup xs), none, none, none]) (xs := xs) (p := okS ds) fun y hy => ⟨_, rfl, by simp -implicitDefEqProofs only [evE, evEs, evO, evT, evAll, evAny, evAnd, evOr, evI, evS, evSs, Rv.bind_ok, Rv.bind_no, Rv.bind_ex, Rv.of_some, Rv.of_none, Rv.fl_ok, Fl.then_nx, Fl.then_rt, Fl.then_bk, Fl.then_ct, varU, List.getElem?_cons_zero, List.getElem?_cons_succ, Option.map_some, Option.bind_some, negU, notU, partU, andK, orK, chnK, chnB, tru, asgK, bindT, bindTs, List.set_cons_zero, List.set_cons_succ, if_true, if_false, Bool.false_eq_true, o_add, o_sub, c_lt, c_gt, c_le, c_ge, c_eq, c_ne, ix_T, ix_L, at0, at1, at2, at3, at4, len_T, len_L, max2_, min2_, tup_L, tup_T, int_b, int_i, src_T, src_L, start, List.map_cons, List.map_nil, List.replicate, List.cons_append, List.nil_append, List.length_cons, List.length_nil, Nat.sub_self, Nat.reduceAdd, Nat.reduceSub, wipe, b4c1], by
    have sp := sets_spec (G := G) (k := k) (s := s) hds (hx.1 y hy)
    have dy := (hx.1 y hy).dat (by omega)
    have ne : ∀ p, y = encS p → cmpU .ne y (.tup []) s = some (!decide (y = .tup [])) := fun p e => by
      have dr : der s y = some y := by rw [e]; rfl
      rw [c_ne_dat dy rfl dr rfl, e]
      simp only [encS, eqU, eqUs_nil]
      congr 2
      simp
    generalize encS us = Us at *
    cases hs : setB ds y with
    | false =>
      rw [hs] at sp
      unfold okS
      rw [hs]
      generalize encS ds = Ds at *
      simp -implicitDefEqProofs only [evE, evEs, evO, evT, evAll, evAny, evAnd, evOr, evI, evS, evSs, Rv.bind_ok, Rv.bind_no, Rv.bind_ex, Rv.of_some, Rv.of_none, Rv.fl_ok, Fl.then_nx, Fl.then_rt, Fl.then_bk, Fl.then_ct, varU, List.getElem?_cons_zero, List.getElem?_cons_succ, Option.map_some, Option.bind_some, negU, notU, partU, andK, orK, chnK, chnB, tru, asgK, bindT, bindTs, List.set_cons_zero, List.set_cons_succ, if_true, if_false, Bool.false_eq_true, o_add, o_sub, c_lt, c_gt, c_le, c_ge, c_eq, c_ne, ix_T, ix_L, at0, at1, at2, at3, at4, len_T, len_L, max2_, min2_, tup_L, tup_T, int_b, int_i, src_T, src_L, start, List.map_cons, List.map_nil, List.replicate, List.cons_append, List.nil_append, List.length_cons, List.length_nil, Nat.sub_self, Nat.reduceAdd, Nat.reduceSub, wipe, b4e1, sp, Bool.false_and]
    | true =>
      rw [hs] at sp
      obtain ⟨p, hp⟩ := Option.isSome_iff_exists.mp hs
      have ey : ∃ p, y = encS p := by
        unfold setsOf at hp
        split at hp
        · rename_i p' e
          cases y <;> simp only [strsT] at e <;> first | (cases e; done) | skip
          exact ⟨p', by rw [strsOf_eq e]; rfl⟩
        · cases hp
      obtain ⟨p, ep⟩ := ey
      have ne := ne p ep
      unfold okS
      rw [hs]
      generalize encS ds = Ds at *
      simp -implicitDefEqProofs only [evE, evEs, evO, evT, evAll, evAny, evAnd, evOr, evI, evS, evSs, Rv.bind_ok, Rv.bind_no, Rv.bind_ex, Rv.of_some, Rv.of_none, Rv.fl_ok, Fl.then_nx, Fl.then_rt, Fl.then_bk, Fl.then_ct, varU, List.getElem?_cons_zero, List.getElem?_cons_succ, Option.map_some, Option.bind_some, negU, notU, partU, andK, orK, chnK, chnB, tru, asgK, bindT, bindTs, List.set_cons_zero, List.set_cons_succ, if_true, if_false, Bool.false_eq_true, o_add, o_sub, c_lt, c_gt, c_le, c_ge, c_eq, c_ne, ix_T, ix_L, at0, at1, at2, at3, at4, len_T, len_L, max2_, min2_, tup_L, tup_T, int_b, int_i, src_T, src_L, start, List.map_cons, List.map_nil, List.replicate, List.cons_append, List.nil_append, List.length_cons, List.length_nil, Nat.sub_self, Nat.reduceAdd, Nat.reduceSub, wipe, b4e1, sp, ne, lenL, l0, Bool.true_and]⟩
  have al := all_bl (s := s) (xs := xs) (p := okS ds)
  have srcX : ∀ s, srcSeq (.tup xs) s = some ⟨xs, []⟩ := fun _ => rfl
  cases ha : xs.all (okS ds) with
  | false =>
    rw [ha] at al
    have er : stkR ds us (.tup xs) = false := by
      unfold stkR
      cases hr : rowsOf (.tup xs) with
      | none => rfl
      | some ps =>
        obtain ⟨e1, hne⟩ := rowsOf_eq hr
        injection e1 with e1
        subst e1
        simp only
        by_cases hp : ps.flatten.Perm ds
        · exfalso
          have : (ps.map encS).all (okS ds) = true := List.all_eq_true.mpr fun y hy => by
            obtain ⟨p, hpm, rfl⟩ := List.mem_map.mp hy
            refine okS_enc (hne p hpm) (fun x hx => hp.mem_iff.mp (List.mem_flatten.mpr ⟨p, hpm, hx⟩)) ?_
            exact (hp.nodup_iff.mpr h.nd).sublist (List.sublist_flatten_of_mem hpm)
          rw [this] at ha
          cases ha
        · rw [decide_eq_false hp, Bool.false_and, Bool.false_and]
    rw [er]
    refine fin false ?_
    generalize encS us = Us at *
    generalize encS ds = Ds at *
    generalize (xs.map fun x => U.bl (okS ds x)) = Bl at *
    simp -implicitDefEqProofs only [evE, evEs, evO, evT, evAll, evAny, evAnd, evOr, evI, evS, evSs, Rv.bind_ok, Rv.bind_no, Rv.bind_ex, Rv.of_some, Rv.of_none, Rv.fl_ok, Fl.then_nx, Fl.then_rt, Fl.then_bk, Fl.then_ct, varU, List.getElem?_cons_zero, List.getElem?_cons_succ, Option.map_some, Option.bind_some, negU, notU, partU, andK, orK, chnK, chnB, tru, asgK, bindT, bindTs, List.set_cons_zero, List.set_cons_succ, if_true, if_false, Bool.false_eq_true, o_add, o_sub, c_lt, c_gt, c_le, c_ge, c_eq, c_ne, ix_T, ix_L, at0, at1, at2, at3, at4, len_T, len_L, max2_, min2_, tup_L, tup_T, int_b, int_i, src_T, src_L, start, List.map_cons, List.map_nil, List.replicate, List.cons_append, List.nil_append, List.length_cons, List.length_nil, Nat.sub_self, Nat.reduceAdd, Nat.reduceSub, wipe, d4, b4, it, Bool.not_true, srcX, lc, lst_tree, al, Bool.not_false]
  | true =>
    rw [ha] at al
    rw [List.all_eq_true] at ha
    obtain ⟨ps, eps, hok⟩ : ∃ ps : List (List Str), xs = ps.map encS ∧ ∀ p ∈ ps, p ≠ [] ∧ (∀ x ∈ p, x ∈ ds) ∧ p.Nodup := by
      clear lc al srcX it pu hx ht fin
      induction xs with
      | nil => exact ⟨[], rfl, fun p h => by cases h⟩
      | cons x xs ih =>
        obtain ⟨ps, e, hh⟩ := ih fun y hy => ha y (List.mem_cons_of_mem _ hy)
        obtain ⟨p, a1, a2, a3, a4⟩ := okS_iff (ha x (List.mem_cons_self ..))
        refine ⟨p :: ps, by rw [List.map_cons, ← e, a2], fun q hq => ?_⟩
        rcases List.mem_cons.mp hq with rfl | hq
        · exact ⟨a1, a3, a4⟩
        · exact hh q hq
    subst eps
    have hr := rowsOf_enc (ps := ps) fun p hp => (hok p hp).1
    have er : stkR ds us (.tup (ps.map encS)) = stkA ds us ps := by
      rw [stkA_eq h]
      simp only [stkR, hr]
    rw [er]
    refine fin _ ?_
    have hpl : ps.length ≤ 1000 := by have := hx.2.1; rw [List.length_map] at this; omega
    have hpw : ∀ p ∈ ps, p.length ≤ 1000 := fun p hp => by
      have := (hx.1 _ (List.mem_map.mpr ⟨p, hp, rfl⟩)).ofT.2.1
      rw [List.length_map] at this
      omega
    have hfl : ps.flatten.length ≤ line := by
      have h1 := flat_le hpw
      have h2 : ps.length * 1000 ≤ 1000 * 1000 := Nat.mul_le_mul_right _ hpl
      have : line = 16777216 := rfl
      omega
    have hfs : ∀ x ∈ ps.flatten, strOk x = true := fun x hx => by
      obtain ⟨p, hp, hxp⟩ := List.mem_flatten.mp hx
      exact hds x ((hok p hp).2.1 x hxp)
    have lc2 : ∀ s, lcI [4, 5] (.name 4) (evAll ⟨callF DD G (k + 1), callF DD G (k + 1 - 1), G⟩ b4c2) (fun su' acc s' => (evI ⟨callF DD G (k + 1), callF DD G (k + 1 - 1), G⟩ b4i1 su' s').bind fun r1 s2 => lcJ [5] (.name 5) (evAll ⟨callF DD G (k + 1), callF DD G (k + 1 - 1), G⟩ b4c3) (evE ⟨callF DD G (k + 1), callF DD G (k + 1 - 1), G⟩ b4e2) r1 su' r1.items acc s2) ⟨ps.map encS, []⟩ [some (encS ds), some (encS us), some (.tup (ps.map encS)), none, none, none] (ps.map encS) [] s = .ok (ps.flatten.map .str) s := fun s => by
      have := lcI_pure (s := s) (vs := [4, 5]) (tg := .name 4) (c := evAll ⟨callF DD G (k + 1), callF DD G (k + 1 - 1), G⟩ b4c2) (e := fun su' acc s' => (evI ⟨callF DD G (k + 1), callF DD G (k + 1 - 1), G⟩ b4i1 su' s').bind fun r1 s2 => lcJ [5] (.name 5) (evAll ⟨callF DD G (k + 1), callF DD G (k + 1 - 1), G⟩ b4c3) (evE ⟨callF DD G (k + 1), callF DD G (k + 1 - 1), G⟩ b4e2) r1 su' r1.items acc s2) (r := ⟨ps.map encS, []⟩) (su := [some (encS ds), some (encS us), some (.tup (ps.map encS)), none, none, none])
        encS (fun p => p.map U.str) line rfl ps (fun p hp acc hacc => by
          rw [List.length_map] at hacc
          have sp : srcSeq (encS p) s = some ⟨p.map .str, []⟩ := rfl
          have J := lcJ_pure (s := s) (vs := [5]) (tg := .name 5) (c := evAll ⟨callF DD G (k + 1), callF DD G (k + 1 - 1), G⟩ b4c3) (e := evE ⟨callF DD G (k + 1), callF DD G (k + 1 - 1), G⟩ b4e2) (r := ⟨p.map .str, []⟩) (su := [some (encS ds), some (encS us), some (.tup (ps.map encS)), none, some (encS p), none])
            U.str (fun _ => true) U.str rfl p (fun x hx => ⟨_, rfl, by simp -implicitDefEqProofs only [evE, evEs, evO, evT, evAll, evAny, evAnd, evOr, evI, evS, evSs, Rv.bind_ok, Rv.bind_no, Rv.bind_ex, Rv.of_some, Rv.of_none, Rv.fl_ok, Fl.then_nx, Fl.then_rt, Fl.then_bk, Fl.then_ct, varU, List.getElem?_cons_zero, List.getElem?_cons_succ, Option.map_some, Option.bind_some, negU, notU, partU, andK, orK, chnK, chnB, tru, asgK, bindT, bindTs, List.set_cons_zero, List.set_cons_succ, if_true, if_false, Bool.false_eq_true, o_add, o_sub, c_lt, c_gt, c_le, c_ge, c_eq, c_ne, ix_T, ix_L, at0, at1, at2, at3, at4, len_T, len_L, max2_, min2_, tup_L, tup_T, int_b, int_i, src_T, src_L, start, List.map_cons, List.map_nil, List.replicate, List.cons_append, List.nil_append, List.length_cons, List.length_nil, Nat.sub_self, Nat.reduceAdd, Nat.reduceSub, wipe, b4c3], fun _ => by simp -implicitDefEqProofs only [evE, evEs, evO, evT, evAll, evAny, evAnd, evOr, evI, evS, evSs, Rv.bind_ok, Rv.bind_no, Rv.bind_ex, Rv.of_some, Rv.of_none, Rv.fl_ok, Fl.then_nx, Fl.then_rt, Fl.then_bk, Fl.then_ct, varU, List.getElem?_cons_zero, List.getElem?_cons_succ, Option.map_some, Option.bind_some, negU, notU, partU, andK, orK, chnK, chnB, tru, asgK, bindT, bindTs, List.set_cons_zero, List.set_cons_succ, if_true, if_false, Bool.false_eq_true, o_add, o_sub, c_lt, c_gt, c_le, c_ge, c_eq, c_ne, ix_T, ix_L, at0, at1, at2, at3, at4, len_T, len_L, max2_, min2_, tup_L, tup_T, int_b, int_i, src_T, src_L, start, List.map_cons, List.map_nil, List.replicate, List.cons_append, List.nil_append, List.length_cons, List.length_nil, Nat.sub_self, Nat.reduceAdd, Nat.reduceSub, wipe, b4e2]⟩) acc hacc
          rw [List.filter_eq_self.mpr fun _ _ => rfl] at J
          refine ⟨_, rfl, by simp -implicitDefEqProofs only [evE, evEs, evO, evT, evAll, evAny, evAnd, evOr, evI, evS, evSs, Rv.bind_ok, Rv.bind_no, Rv.bind_ex, Rv.of_some, Rv.of_none, Rv.fl_ok, Fl.then_nx, Fl.then_rt, Fl.then_bk, Fl.then_ct, varU, List.getElem?_cons_zero, List.getElem?_cons_succ, Option.map_some, Option.bind_some, negU, notU, partU, andK, orK, chnK, chnB, tru, asgK, bindT, bindTs, List.set_cons_zero, List.set_cons_succ, if_true, if_false, Bool.false_eq_true, o_add, o_sub, c_lt, c_gt, c_le, c_ge, c_eq, c_ne, ix_T, ix_L, at0, at1, at2, at3, at4, len_T, len_L, max2_, min2_, tup_L, tup_T, int_b, int_i, src_T, src_L, start, List.map_cons, List.map_nil, List.replicate, List.cons_append, List.nil_append, List.length_cons, List.length_nil, Nat.sub_self, Nat.reduceAdd, Nat.reduceSub, wipe, b4c2], ?_⟩
          generalize encS us = Us at *
          generalize encS ds = Ds at *
          generalize ps.map encS = Ps at *
          generalize encS p = Pu at *
          simp -implicitDefEqProofs only [evE, evEs, evO, evT, evAll, evAny, evAnd, evOr, evI, evS, evSs, Rv.bind_ok, Rv.bind_no, Rv.bind_ex, Rv.of_some, Rv.of_none, Rv.fl_ok, Fl.then_nx, Fl.then_rt, Fl.then_bk, Fl.then_ct, varU, List.getElem?_cons_zero, List.getElem?_cons_succ, Option.map_some, Option.bind_some, negU, notU, partU, andK, orK, chnK, chnB, tru, asgK, bindT, bindTs, List.set_cons_zero, List.set_cons_succ, if_true, if_false, Bool.false_eq_true, o_add, o_sub, c_lt, c_gt, c_le, c_ge, c_eq, c_ne, ix_T, ix_L, at0, at1, at2, at3, at4, len_T, len_L, max2_, min2_, tup_L, tup_T, int_b, int_i, src_T, src_L, start, List.map_cons, List.map_nil, List.replicate, List.cons_append, List.nil_append, List.length_cons, List.length_nil, Nat.sub_self, Nat.reduceAdd, Nat.reduceSub, wipe, b4i1, sp, J]) [] (by
          have e : (ps.flatMap fun p => p.map U.str) = ps.flatten.map .str := by simp [List.flatMap, List.map_flatten]
          rw [e, List.length_map]
          simpa using hfl)
      rw [this]
      simp [List.flatMap, List.map_flatten]
    have so1 : biU (.sorted false) [.lst (ps.flatten.map U.str)] s = .ok (.lst (sortU (ps.flatten.map .str))) s := by
      have e : sortArg s (.lst (ps.flatten.map U.str)) = some (ps.flatten.map .str) := rfl
      simp only [biU, e, sortable_strs hfs hfl, if_true, lst_tree]
    have so2 : biU (.sorted false) [encS ds] s = .ok (.lst (sortU (ds.map .str))) s := by
      have e : sortArg s (encS ds) = some (ds.map .str) := rfl
      have hfw := h.few
      simp only [biU, e, sortable_strs hds (Nat.le_of_lt (line_ge hfw)), if_true, lst_tree]
    have ne := ne_sorted (s := s) hfs hds
    unfold stkA
    by_cases hp : ps.flatten.Perm ds
    · rw [decide_eq_true hp, Bool.not_true] at ne
      rw [decide_eq_true hp, Bool.true_and]
      obtain ⟨su1, ⟨y4, e1⟩, q1⟩ := all_loopI (tg := .name 4) (body := evSs ⟨callF DD G (k + 1), callF DD G (k + 1 - 1), G⟩ b4f1) (s := s) (its := ps.map encS) (p := fun u => risesB ltI (rkI ds ((strsT u).getD [])) && risesB ltI (rkI us ((strsT u).getD []).reverse))
        (fun su => ∃ x4, su = [some (encS ds), some (encS us), some (.tup (ps.map encS)), some (.lst (ps.flatten.map .str)), x4, none]) (ps.map encS) _ ⟨none, rfl⟩
        (fun x hxm su ⟨x4, e⟩ => by
          subst e
          obtain ⟨p, hpm, rfl⟩ := List.mem_map.mp hxm
          have hs : strsT (encS p) = some p := strsOf_map p
          rw [hs, Option.getD_some]
          exact ⟨_, rfl, _, ⟨some (encS p), rfl⟩, stk_turn h (hok p hpm).2.1⟩)
      subst e1
      have al2 : (ps.map encS).all (fun u => risesB ltI (rkI ds ((strsT u).getD [])) && risesB ltI (rkI us ((strsT u).getD []).reverse)) = ps.all fun p => risesB ltI (rkI ds p) && risesB ltI (rkI us p.reverse) := by
        rw [List.all_map]
        congr 1
        funext p
        have hs : strsT (encS p) = some p := strsOf_map p
        simp only [Function.comp, hs, Option.getD_some]
      rw [al2] at q1
      cases hA : ps.all fun p => risesB ltI (rkI ds p) && risesB ltI (rkI us p.reverse) with
      | true =>
        rw [hA, if_pos rfl] at q1
        generalize ((ps.map encS).map fun x => U.bl (okS ds x)) = Bl at *
        generalize encS us = Us at *
        generalize encS ds = Ds at *
        generalize ps.map encS = Ps at *
        simp -implicitDefEqProofs only [evE, evEs, evO, evT, evAll, evAny, evAnd, evOr, evI, evS, evSs, Rv.bind_ok, Rv.bind_no, Rv.bind_ex, Rv.of_some, Rv.of_none, Rv.fl_ok, Fl.then_nx, Fl.then_rt, Fl.then_bk, Fl.then_ct, varU, List.getElem?_cons_zero, List.getElem?_cons_succ, Option.map_some, Option.bind_some, negU, notU, partU, andK, orK, chnK, chnB, tru, asgK, bindT, bindTs, List.set_cons_zero, List.set_cons_succ, if_true, if_false, Bool.false_eq_true, o_add, o_sub, c_lt, c_gt, c_le, c_ge, c_eq, c_ne, ix_T, ix_L, at0, at1, at2, at3, at4, len_T, len_L, max2_, min2_, tup_L, tup_T, int_b, int_i, src_T, src_L, start, List.map_cons, List.map_nil, List.replicate, List.cons_append, List.nil_append, List.length_cons, List.length_nil, Nat.sub_self, Nat.reduceAdd, Nat.reduceSub, wipe, d4, b4, it, Bool.not_true, srcX, lc, lst_tree, al, lc2, so1, so2, ne, q1]
      | false =>
        rw [hA, if_neg Bool.false_ne_true] at q1
        generalize ((ps.map encS).map fun x => U.bl (okS ds x)) = Bl at *
        generalize encS us = Us at *
        generalize encS ds = Ds at *
        generalize ps.map encS = Ps at *
        simp -implicitDefEqProofs only [evE, evEs, evO, evT, evAll, evAny, evAnd, evOr, evI, evS, evSs, Rv.bind_ok, Rv.bind_no, Rv.bind_ex, Rv.of_some, Rv.of_none, Rv.fl_ok, Fl.then_nx, Fl.then_rt, Fl.then_bk, Fl.then_ct, varU, List.getElem?_cons_zero, List.getElem?_cons_succ, Option.map_some, Option.bind_some, negU, notU, partU, andK, orK, chnK, chnB, tru, asgK, bindT, bindTs, List.set_cons_zero, List.set_cons_succ, if_true, if_false, Bool.false_eq_true, o_add, o_sub, c_lt, c_gt, c_le, c_ge, c_eq, c_ne, ix_T, ix_L, at0, at1, at2, at3, at4, len_T, len_L, max2_, min2_, tup_L, tup_T, int_b, int_i, src_T, src_L, start, List.map_cons, List.map_nil, List.replicate, List.cons_append, List.nil_append, List.length_cons, List.length_nil, Nat.sub_self, Nat.reduceAdd, Nat.reduceSub, wipe, d4, b4, it, Bool.not_true, srcX, lc, lst_tree, al, lc2, so1, so2, ne, q1]
    · rw [decide_eq_false hp, Bool.not_false] at ne
      rw [decide_eq_false hp, Bool.false_and]
      generalize ((ps.map encS).map fun x => U.bl (okS ds x)) = Bl at *
      generalize encS us = Us at *
      generalize encS ds = Ds at *
      generalize ps.map encS = Ps at *
      simp -implicitDefEqProofs only [evE, evEs, evO, evT, evAll, evAny, evAnd, evOr, evI, evS, evSs, Rv.bind_ok, Rv.bind_no, Rv.bind_ex, Rv.of_some, Rv.of_none, Rv.fl_ok, Fl.then_nx, Fl.then_rt, Fl.then_bk, Fl.then_ct, varU, List.getElem?_cons_zero, List.getElem?_cons_succ, Option.map_some, Option.bind_some, negU, notU, partU, andK, orK, chnK, chnB, tru, asgK, bindT, bindTs, List.set_cons_zero, List.set_cons_succ, if_true, if_false, Bool.false_eq_true, o_add, o_sub, c_lt, c_gt, c_le, c_ge, c_eq, c_ne, ix_T, ix_L, at0, at1, at2, at3, at4, len_T, len_L, max2_, min2_, tup_L, tup_T, int_b, int_i, src_T, src_L, start, List.map_cons, List.map_nil, List.replicate, List.cons_append, List.nil_append, List.length_cons, List.length_nil, Nat.sub_self, Nat.reduceAdd, Nat.reduceSub, wipe, d4, b4, it, Bool.not_true, srcX, lc, lst_tree, al, lc2, so1, so2, ne]
end
end LW
set_option autoImplicit false
set_option Elab.async false
set_option linter.all false
set_option maxRecDepth 100000
namespace LW
open Pv
/-! ### is_shown -/
section
variable {s : MS} {G : Str → Option U} {k : Nat} {us ds : List Str}
def shB (ds us : List Str) (u : U) : Bool :=
  match setsOf ds u with
  | some w => decide (w.length = (stkF us ds).length) && (risesB ltI (rkI ds w) && risesB ltI (rkI us w))
  | none => false
theorem setsOf_eq {u : U} {p : List Str} (h : setsOf ds u = some p) : u = encS p ∧ (∀ x ∈ p, x ∈ ds) ∧ p.Nodup := by
  unfold setsOf at h
  split at h
  · rename_i p' e
    split at h
    · rename_i hc
      cases h
      rw [Bool.and_eq_true, List.all_eq_true] at hc
      cases u <;> simp only [strsT] at e <;> first | (cases e; done) | skip
      exact ⟨by rw [strsOf_eq e]; rfl, fun x hx => by simpa using hc.1 x hx, of_decide_eq_true hc.2⟩
    · cases h
  · cases h
theorem len_S {p : List Str} : biU .len [encS p] s = .ok (.int (p.length : Nat)) s := by
  unfold encS
  rw [len_T, List.length_map]
theorem c_neN {a b : Nat} : cmpU .ne (.int (a : Int)) (.int (b : Int)) s = some (!decide (a = b)) := by
  rw [c_ne]
  congr 2
  rw [Bool.eq_iff_iff, beq_iff_eq, decide_eq_true_eq]
  omega
theorem is_shown_spec (h : OrdOk ds us) {d w : Nat} {u : U} (pu : PD d w u) : callF DD G (k + 2) 5 [encS ds, encS us, u] s = .ok (.bl (shB ds us u)) s := by
  have hds : ∀ x ∈ ds, strOk x = true := fun x hx => (h.sh x hx).1
  have sp := sets_spec (G := G) (k := k) (s := s) hds pu
  have st := stacks_spec (G := G) (k := k) (s := s) h
  have lt : biU .len [.tup ((stkF us ds).map encS)] s = .ok (.int ((stkF us ds).length : Nat)) s := by rw [len_T, List.length_map]
  have fin : ∀ b, evSs ⟨callF DD G (k + 1), callF DD G (k + 1 - 1), G⟩ d5.body (Pv.start d5.nn [encS ds, encS us, u]) s = .rt (.bl b) s → callF DD G (k + 2) 5 [encS ds, encS us, u] s = .ok (.bl b) s := fun b e => by
    rw [call_rt (d := d5) rfl rfl e]
    exact fin_eq rfl
  cases hs : setsOf ds u with
  | none =>
    have e1 : setB ds u = false := by unfold setB; rw [hs]; rfl
    have e2 : shB ds us u = false := by unfold shB; rw [hs]
    rw [e1] at sp
    rw [e2]
    refine fin false ?_
    generalize encS us = Us at *
    generalize encS ds = Ds at *
    simp -implicitDefEqProofs only [evE, evEs, evO, evT, evAll, evAny, evAnd, evOr, evI, evS, evSs, Rv.bind_ok, Rv.bind_no, Rv.bind_ex, Rv.of_some, Rv.of_none, Rv.fl_ok, Fl.then_nx, Fl.then_rt, Fl.then_bk, Fl.then_ct, varU, List.getElem?_cons_zero, List.getElem?_cons_succ, Option.map_some, Option.bind_some, negU, notU, partU, andK, orK, chnK, chnB, tru, asgK, bindT, bindTs, List.set_cons_zero, List.set_cons_succ, if_true, if_false, Bool.false_eq_true, o_add, o_sub, c_lt, c_gt, c_le, c_ge, c_eq, c_ne, ix_T, ix_L, at0, at1, at2, at3, at4, len_T, len_L, max2_, min2_, tup_L, tup_T, int_b, int_i, src_T, src_L, start, List.map_cons, List.map_nil, List.replicate, List.cons_append, List.nil_append, List.length_cons, List.length_nil, Nat.sub_self, Nat.reduceAdd, Nat.reduceSub, wipe, d5, b5, sp, Bool.not_false]
  | some p =>
    have e1 : setB ds u = true := by unfold setB; rw [hs]; rfl
    have e2 : shB ds us u = (decide (p.length = (stkF us ds).length) && (risesB ltI (rkI ds p) && risesB ltI (rkI us p))) := by unfold shB; rw [hs]
    obtain ⟨e3, h4, h5⟩ := setsOf_eq hs
    rw [e1] at sp
    rw [e2]
    refine fin _ ?_
    have lp := len_S (s := s) (p := p)
    have cn := c_neN (s := s) (a := p.length) (b := (stkF us ds).length)
    have sr : srcSeq u s = some ⟨p.map .str, []⟩ := by rw [e3]; rfl
    have la := idx_lc (X := ⟨callF DD G (k + 1), callF DD G (k + 1 - 1), G⟩) (s := s) (os := ds) (w := p) (vs := [3]) (tg := .name 3) (c := evAll ⟨callF DD G (k + 1), callF DD G (k + 1 - 1), G⟩ b5c2) (e := evE ⟨callF DD G (k + 1), callF DD G (k + 1 - 1), G⟩ b5e2) (su := [some (encS ds), some (encS us), some u, none]) fun x hx => by
      refine ⟨_, rfl, ?_, ?_⟩
      · simp -implicitDefEqProofs only [evE, evEs, evO, evT, evAll, evAny, evAnd, evOr, evI, evS, evSs, Rv.bind_ok, Rv.bind_no, Rv.bind_ex, Rv.of_some, Rv.of_none, Rv.fl_ok, Fl.then_nx, Fl.then_rt, Fl.then_bk, Fl.then_ct, varU, List.getElem?_cons_zero, List.getElem?_cons_succ, Option.map_some, Option.bind_some, negU, notU, partU, andK, orK, chnK, chnB, tru, asgK, bindT, bindTs, List.set_cons_zero, List.set_cons_succ, if_true, if_false, Bool.false_eq_true, o_add, o_sub, c_lt, c_gt, c_le, c_ge, c_eq, c_ne, ix_T, ix_L, at0, at1, at2, at3, at4, len_T, len_L, max2_, min2_, tup_L, tup_T, int_b, int_i, src_T, src_L, start, List.map_cons, List.map_nil, List.replicate, List.cons_append, List.nil_append, List.length_cons, List.length_nil, Nat.sub_self, Nat.reduceAdd, Nat.reduceSub, wipe, b5c2]
      · unfold encS
        simp -implicitDefEqProofs only [evE, evEs, evO, evT, evAll, evAny, evAnd, evOr, evI, evS, evSs, Rv.bind_ok, Rv.bind_no, Rv.bind_ex, Rv.of_some, Rv.of_none, Rv.fl_ok, Fl.then_nx, Fl.then_rt, Fl.then_bk, Fl.then_ct, varU, List.getElem?_cons_zero, List.getElem?_cons_succ, Option.map_some, Option.bind_some, negU, notU, partU, andK, orK, chnK, chnB, tru, asgK, bindT, bindTs, List.set_cons_zero, List.set_cons_succ, if_true, if_false, Bool.false_eq_true, o_add, o_sub, c_lt, c_gt, c_le, c_ge, c_eq, c_ne, ix_T, ix_L, at0, at1, at2, at3, at4, len_T, len_L, max2_, min2_, tup_L, tup_T, int_b, int_i, src_T, src_L, start, List.map_cons, List.map_nil, List.replicate, List.cons_append, List.nil_append, List.length_cons, List.length_nil, Nat.sub_self, Nat.reduceAdd, Nat.reduceSub, wipe, b5e2, me_ix, ix_st (h4 x hx)]
    have lb := idx_lc (X := ⟨callF DD G (k + 1), callF DD G (k + 1 - 1), G⟩) (s := s) (os := us) (w := p) (vs := [3]) (tg := .name 3) (c := evAll ⟨callF DD G (k + 1), callF DD G (k + 1 - 1), G⟩ b5c1) (e := evE ⟨callF DD G (k + 1), callF DD G (k + 1 - 1), G⟩ b5e1) (su := [some (encS ds), some (encS us), some u, none]) fun x hx => by
      refine ⟨_, rfl, ?_, ?_⟩
      · simp -implicitDefEqProofs only [evE, evEs, evO, evT, evAll, evAny, evAnd, evOr, evI, evS, evSs, Rv.bind_ok, Rv.bind_no, Rv.bind_ex, Rv.of_some, Rv.of_none, Rv.fl_ok, Fl.then_nx, Fl.then_rt, Fl.then_bk, Fl.then_ct, varU, List.getElem?_cons_zero, List.getElem?_cons_succ, Option.map_some, Option.bind_some, negU, notU, partU, andK, orK, chnK, chnB, tru, asgK, bindT, bindTs, List.set_cons_zero, List.set_cons_succ, if_true, if_false, Bool.false_eq_true, o_add, o_sub, c_lt, c_gt, c_le, c_ge, c_eq, c_ne, ix_T, ix_L, at0, at1, at2, at3, at4, len_T, len_L, max2_, min2_, tup_L, tup_T, int_b, int_i, src_T, src_L, start, List.map_cons, List.map_nil, List.replicate, List.cons_append, List.nil_append, List.length_cons, List.length_nil, Nat.sub_self, Nat.reduceAdd, Nat.reduceSub, wipe, b5c1]
      · unfold encS
        simp -implicitDefEqProofs only [evE, evEs, evO, evT, evAll, evAny, evAnd, evOr, evI, evS, evSs, Rv.bind_ok, Rv.bind_no, Rv.bind_ex, Rv.of_some, Rv.of_none, Rv.fl_ok, Fl.then_nx, Fl.then_rt, Fl.then_bk, Fl.then_ct, varU, List.getElem?_cons_zero, List.getElem?_cons_succ, Option.map_some, Option.bind_some, negU, notU, partU, andK, orK, chnK, chnB, tru, asgK, bindT, bindTs, List.set_cons_zero, List.set_cons_succ, if_true, if_false, Bool.false_eq_true, o_add, o_sub, c_lt, c_gt, c_le, c_ge, c_eq, c_ne, ix_T, ix_L, at0, at1, at2, at3, at4, len_T, len_L, max2_, min2_, tup_L, tup_T, int_b, int_i, src_T, src_L, start, List.map_cons, List.map_nil, List.replicate, List.cons_append, List.nil_append, List.length_cons, List.length_nil, Nat.sub_self, Nat.reduceAdd, Nat.reduceSub, wipe, b5e1, me_ix, ix_st (h.mem (h4 x hx))]
    have ra := rises_I (G := G) (k := k) (s := s) (rkI ds p)
    have rb := rises_I (G := G) (k := k) (s := s) (rkI us p)
    rw [← e3] at lp
    generalize U.tup ((stkF us ds).map encS) = Tu at *
    generalize encS us = Us at *
    generalize encS ds = Ds at *
    generalize (rkI ds p).map U.int = Ia at *
    generalize (rkI us p).map U.int = Ib at *
    by_cases hl : p.length = (stkF us ds).length
    · rw [decide_eq_true hl, Bool.not_true] at cn
      rw [decide_eq_true hl, Bool.true_and]
      cases h1 : risesB ltI (rkI ds p) with
      | true =>
        rw [h1] at ra
        rw [Bool.true_and]
        simp -implicitDefEqProofs only [evE, evEs, evO, evT, evAll, evAny, evAnd, evOr, evI, evS, evSs, Rv.bind_ok, Rv.bind_no, Rv.bind_ex, Rv.of_some, Rv.of_none, Rv.fl_ok, Fl.then_nx, Fl.then_rt, Fl.then_bk, Fl.then_ct, varU, List.getElem?_cons_zero, List.getElem?_cons_succ, Option.map_some, Option.bind_some, negU, notU, partU, andK, orK, chnK, chnB, tru, asgK, bindT, bindTs, List.set_cons_zero, List.set_cons_succ, if_true, if_false, Bool.false_eq_true, o_add, o_sub, c_lt, c_gt, c_le, c_ge, c_eq, c_ne, ix_T, ix_L, at0, at1, at2, at3, at4, len_T, len_L, max2_, min2_, tup_L, tup_T, int_b, int_i, src_T, src_L, start, List.map_cons, List.map_nil, List.replicate, List.cons_append, List.nil_append, List.length_cons, List.length_nil, Nat.sub_self, Nat.reduceAdd, Nat.reduceSub, wipe, d5, b5, sp, Bool.not_true, lp, st, lt, cn, sr, la, lst_tree, ra, lb, rb]
      | false =>
        rw [h1] at ra
        rw [Bool.false_and]
        simp -implicitDefEqProofs only [evE, evEs, evO, evT, evAll, evAny, evAnd, evOr, evI, evS, evSs, Rv.bind_ok, Rv.bind_no, Rv.bind_ex, Rv.of_some, Rv.of_none, Rv.fl_ok, Fl.then_nx, Fl.then_rt, Fl.then_bk, Fl.then_ct, varU, List.getElem?_cons_zero, List.getElem?_cons_succ, Option.map_some, Option.bind_some, negU, notU, partU, andK, orK, chnK, chnB, tru, asgK, bindT, bindTs, List.set_cons_zero, List.set_cons_succ, if_true, if_false, Bool.false_eq_true, o_add, o_sub, c_lt, c_gt, c_le, c_ge, c_eq, c_ne, ix_T, ix_L, at0, at1, at2, at3, at4, len_T, len_L, max2_, min2_, tup_L, tup_T, int_b, int_i, src_T, src_L, start, List.map_cons, List.map_nil, List.replicate, List.cons_append, List.nil_append, List.length_cons, List.length_nil, Nat.sub_self, Nat.reduceAdd, Nat.reduceSub, wipe, d5, b5, sp, Bool.not_true, lp, st, lt, cn, sr, la, lst_tree, ra]
    · rw [decide_eq_false hl, Bool.not_false] at cn
      rw [decide_eq_false hl, Bool.false_and]
      simp -implicitDefEqProofs only [evE, evEs, evO, evT, evAll, evAny, evAnd, evOr, evI, evS, evSs, Rv.bind_ok, Rv.bind_no, Rv.bind_ex, Rv.of_some, Rv.of_none, Rv.fl_ok, Fl.then_nx, Fl.then_rt, Fl.then_bk, Fl.then_ct, varU, List.getElem?_cons_zero, List.getElem?_cons_succ, Option.map_some, Option.bind_some, negU, notU, partU, andK, orK, chnK, chnB, tru, asgK, bindT, bindTs, List.set_cons_zero, List.set_cons_succ, if_true, if_false, Bool.false_eq_true, o_add, o_sub, c_lt, c_gt, c_le, c_ge, c_eq, c_ne, ix_T, ix_L, at0, at1, at2, at3, at4, len_T, len_L, max2_, min2_, tup_L, tup_T, int_b, int_i, src_T, src_L, start, List.map_cons, List.map_nil, List.replicate, List.cons_append, List.nil_append, List.length_cons, List.length_nil, Nat.sub_self, Nat.reduceAdd, Nat.reduceSub, wipe, d5, b5, sp, Bool.not_true, lp, st, lt, cn]
end
end LW
set_option autoImplicit false
set_option Elab.async false
set_option linter.all false
set_option maxRecDepth 100000
namespace LW
open Pv
/-! ### as many stacks as the longest common row has, plainly -/
structure Lgs (us done : List Str) (ps : List (List Str)) : Prop where
  up : ∀ w, Rw_ (rk us) done w → w ≠ [] → ∃ p, ps[w.length - 1]? = some p ∧ tp (rk us) p ≤ tp (rk us) w
  lo : ∀ (j : Nat) p, ps[j]? = some p → ∃ w, Rw_ (rk us) done w ∧ w.length = j + 1 ∧ tp (rk us) w = tp (rk us) p
theorem Lgs.nil {us : List Str} : Lgs us [] [] := ⟨fun w h hn => absurd (List.sublist_nil.mp h.sub) hn, fun j p h => by rw [List.getElem?_nil] at h; cases h⟩
theorem Lgs.step {us done : List Str} {ps : List (List Str)} (L : Lgs us done ps) (hr : Rise (rk us) ps) {x : Str} (hx : ∀ p ∈ ps, tp (rk us) p ≠ rk us x) : Lgs us (done ++ [x]) (place (rk us) x ps) := by
  obtain ⟨a1, ⟨q, a2, a3, a4⟩, a5⟩ := place_at (rk us) hr hx
  refine ⟨fun w hw hn => ?_, fun j p hp => ?_⟩
  · obtain ⟨w1, w2, rfl, s1, s2⟩ := List.sublist_append_iff.mp hw.sub
    have h2 : w2 = [] ∨ w2 = [x] := by
      cases s2 with
      | cons _ h => exact .inl (List.sublist_nil.mp h)
      | cons_cons _ h => rw [List.sublist_nil.mp h]; exact .inr rfl
    rcases h2 with rfl | rfl
    · rw [List.append_nil] at hw hn ⊢
      obtain ⟨p, hp, hle⟩ := L.up w1 ⟨s1, hw.up⟩ hn
      by_cases e : w1.length - 1 = below (rk us) x ps
      · refine ⟨q, by rw [e]; exact a2, ?_⟩
        rw [a3]
        have := below_iff (rk us) (x := x) hr hp
        omega
      · exact ⟨p, by rw [a1 _ e]; exact hp, hle⟩
    · rw [tp_snoc, List.length_append, List.length_singleton, Nat.add_sub_cancel]
      obtain ⟨u1, _, u3⟩ := List.pairwise_append.mp hw.up
      have hb : w1.length ≤ below (rk us) x ps := by
        by_cases h1 : w1 = []
        · rw [h1]; exact Nat.zero_le _
        · obtain ⟨p, hp, hle⟩ := L.up w1 ⟨s1, u1⟩ h1
          obtain ⟨a, ha, ea⟩ := tp_mem (rk us) h1
          have := u3 a ha x (List.mem_singleton.mpr rfl)
          have := (below_iff (rk us) (x := x) hr hp).mpr (by omega)
          have := List.length_pos_iff.mpr h1
          omega
      by_cases e : w1.length = below (rk us) x ps
      · exact ⟨q, by rw [e]; exact a2, by rw [a3]; exact Nat.le_refl _⟩
      · have hp := List.getElem?_eq_getElem (show w1.length < ps.length by omega)
        have := (below_iff (rk us) (x := x) hr hp).mp (by omega)
        exact ⟨_, by rw [a1 _ e]; exact hp, by omega⟩
  · by_cases e : j = below (rk us) x ps
    · subst e
      rw [a2] at hp
      cases hp
      cases hk : below (rk us) x ps with
      | zero => exact ⟨[x], ⟨List.sublist_append_right _ _, by simp⟩, rfl, by rw [a3]; exact tp_snoc (rk us) [] x⟩
      | succ k =>
        have hp := List.getElem?_eq_getElem (show k < ps.length by omega)
        have hlt := (below_iff (rk us) (x := x) hr hp).mp (by omega)
        obtain ⟨w, hw, hwl, hwt⟩ := L.lo k _ hp
        exact ⟨w ++ [x], row_step (rk us) hw (.inr (by omega)), by rw [List.length_append, List.length_singleton, hwl], by rw [a3, tp_snoc]⟩
    · rw [a1 j e] at hp
      obtain ⟨w, hw, h1, h2⟩ := L.lo j p hp
      exact ⟨w, row_more (rk us) hw, h1, h2⟩
theorem lgs_all {us : List Str} : ∀ (ds done : List Str) (ps : List (List Str)), StOk us done ps → Lgs us done ps → (done ++ ds).Nodup → (∀ y ∈ done ++ ds, y ∈ us) → Lgs us (done ++ ds) (ds.foldl (fun ps x => place (rk us) x ps) ps)
  | [], done, ps, _, h, _, _ => by simpa using h
  | x :: ds, done, ps, h, L, nd, hu => by
    have e : done ++ x :: ds = (done ++ [x]) ++ ds := by simp
    have hx : x ∉ done := fun m => (List.nodup_append.mp nd).2.2 x m x (List.mem_cons_self ..) rfl
    have hd : ∀ y ∈ done, y ∈ us := fun y hy => hu y (List.mem_append_left _ hy)
    rw [List.foldl_cons, e]
    exact lgs_all ds (done ++ [x]) _ (h.step hx hd) (L.step h.rise (h.ne hx hd)) (by rw [← e]; exact nd) (by rw [← e]; exact hu)
section
variable {us ds : List Str}
theorem OrdOk.row (h : OrdOk ds us) {w : List Str} (h1 : w.Sublist ds) (h2 : w.Sublist us) : Rw_ (rk us) ds w := ⟨h1, (rk_up h.undU).sublist h2⟩
theorem OrdOk.unrow (h : OrdOk ds us) {w : List Str} (hw : Rw_ (rk us) ds w) : w.Sublist us := by
  have := up_filter h.undU hw.up fun x hx => h.mem (hw.sub.subset hx)
  rw [← this]
  exact List.filter_sublist
theorem lcs_up (h : OrdOk ds us) {w : List Str} (h1 : w.Sublist ds) (h2 : w.Sublist us) : w.length ≤ (stkF us ds).length := by
  have L := lgs_all (us := us) ds [] [] StOk.nil Lgs.nil (by simpa using h.nd) (by simpa using fun y hy => h.mem hy)
  rw [List.nil_append] at L
  by_cases e : w = []
  · rw [e]; exact Nat.zero_le _
  · obtain ⟨p, hp, _⟩ := L.up w (h.row h1 h2) e
    have := (List.getElem?_eq_some_iff.mp hp).1
    show w.length ≤ (ds.foldl (fun ps x => place (rk us) x ps) []).length
    omega
theorem lcs_lo (h : OrdOk ds us) : ∃ w : List Str, w.Sublist ds ∧ w.Sublist us ∧ w.length = (stkF us ds).length := by
  have L := lgs_all (us := us) ds [] [] StOk.nil Lgs.nil (by simpa using h.nd) (by simpa using fun y hy => h.mem hy)
  rw [List.nil_append] at L
  by_cases e : stkF us ds = []
  · exact ⟨[], List.nil_sublist _, List.nil_sublist _, by rw [e]; rfl⟩
  · have hl := List.length_pos_iff.mpr e
    have hp := List.getElem?_eq_getElem (show (stkF us ds).length - 1 < (stkF us ds).length by omega)
    obtain ⟨w, hw, h1, _⟩ := L.lo _ _ hp
    exact ⟨w, hw.sub, h.unrow hw, by omega⟩
theorem OrdOk.same (h : OrdOk ds us) : OrdOk ds ds := ⟨h.n10, h.nd, List.Perm.refl _, h.sh, h.few⟩
theorem OrdOk.opp (h : OrdOk ds us) : OrdOk ds ds.reverse := ⟨h.n10, h.nd, List.reverse_perm _, h.sh, h.few⟩
theorem OrdOk.swap (h : OrdOk ds us) : OrdOk us ds := ⟨fun x hx => h.n10 x (h.pm.mem_iff.mp hx), h.undU, h.pm.symm, fun x hx => h.sh x (h.pm.mem_iff.mp hx), by rw [h.pm.length_eq]; exact h.few⟩
theorem OrdOk.turn (h : OrdOk ds us) : OrdOk us.reverse ds.reverse := ⟨fun x hx => h.swap.n10 x (List.mem_reverse.mp hx), (List.reverse_perm _).nodup_iff.mpr h.undU, (List.reverse_perm _).trans (h.pm.symm.trans (List.reverse_perm _).symm), fun x hx => h.swap.sh x (List.mem_reverse.mp hx), by rw [List.length_reverse]; exact h.swap.few⟩
theorem OrdOk.less (h : OrdOk ds us) (p : Str → Bool) : OrdOk (ds.filter p) (us.filter p) := ⟨fun x hx => h.n10 x (List.mem_filter.mp hx).1, h.nd.filter _, h.pm.filter _, fun x hx => h.sh x (List.mem_filter.mp hx).1, Nat.le_trans (List.length_filter_le ..) h.few⟩
theorem OrdOk.part (h : OrdOk ds us) {p : List Str} (hp : p.Sublist ds) : OrdOk p p.reverse := ⟨fun x hx => h.n10 x (hp.subset hx), h.nd.sublist hp, List.reverse_perm _, fun x hx => h.sh x (hp.subset hx), Nat.le_trans hp.length_le h.few⟩
theorem lcs_same (h : OrdOk ds us) : (stkF ds ds).length = ds.length := Nat.le_antisymm (told_len h.same) (lcs_up h.same (List.Sublist.refl _) (List.Sublist.refl _))
theorem lcs_swap (h : OrdOk ds us) : (stkF ds us).length = (stkF us ds).length := by
  obtain ⟨w, a, b, c⟩ := lcs_lo h
  obtain ⟨w', a', b', c'⟩ := lcs_lo h.swap
  have := lcs_up h.swap b a
  have := lcs_up h b' a'
  omega
theorem lcs_turn (h : OrdOk ds us) : (stkF ds.reverse us.reverse).length = (stkF us ds).length := by
  obtain ⟨w, a, b, c⟩ := lcs_lo h
  obtain ⟨w', a', b', c'⟩ := lcs_lo h.turn
  have h1 := lcs_up h.turn b.reverse a.reverse
  have h2 := lcs_up h (w := w'.reverse) (by have := b'.reverse; rwa [List.reverse_reverse] at this) (by have := a'.reverse; rwa [List.reverse_reverse] at this)
  rw [List.length_reverse] at h1 h2
  omega
theorem lcs_opp (h : OrdOk ds us) (hn : ds ≠ []) : (stkF ds.reverse ds).length = 1 := by
  refine Nat.le_antisymm ?_ ?_
  · obtain ⟨w, a, b, c⟩ := lcs_lo h.opp
    rw [← c]
    match w, a, b with
    | [], _, _ => exact Nat.zero_le _
    | [_], _, _ => exact Nat.le_refl _
    | x :: y :: w, a, b =>
      exfalso
      have b' := b.reverse
      rw [List.reverse_reverse] at b'
      have p1 := (rk_up h.nd).sublist a
      have p2 := (rk_up h.nd).sublist b'
      have q1 := (List.pairwise_cons.mp p1).1 y (List.mem_cons_self ..)
      rw [List.pairwise_reverse] at p2
      have q2 := (List.pairwise_cons.mp p2).1 y (List.mem_cons_self ..)
      omega
  · obtain ⟨x, hx⟩ := List.exists_mem_of_ne_nil ds hn
    exact lcs_up h.opp (w := [x]) (List.singleton_sublist.mpr hx) (List.singleton_sublist.mpr (List.mem_reverse.mpr hx))
theorem lcs_less (h : OrdOk ds us) (n : Str) : (stkF (us.filter fun x => !decide (x = n)) (ds.filter fun x => !decide (x = n))).length = (stkF us ds).length ∨ (stkF (us.filter fun x => !decide (x = n)) (ds.filter fun x => !decide (x = n))).length + 1 = (stkF us ds).length := by
  have hl := h.less fun x => !decide (x = n)
  obtain ⟨w, a, b, c⟩ := lcs_lo h
  obtain ⟨w', a', b', c'⟩ := lcs_lo hl
  have h1 := lcs_up h (a'.trans List.filter_sublist) (b'.trans List.filter_sublist)
  have h2 := lcs_up hl (a.filter _) (b.filter _)
  have h3 : w.length ≤ (w.filter fun x => !decide (x = n)).length + 1 := by
    have e : (w.filter fun x => !decide (x = n)) = w.erase n := by
      rw [(h.nd.sublist a).erase_eq_filter]
      rfl
    rw [e, List.length_erase]
    split <;> omega
  omega
end
end LW
set_option autoImplicit false
set_option Elab.async false
set_option linter.all false
set_option maxRecDepth 100000
namespace LW
open Pv
section
variable {s : MS} {G : Str → Option U} {k : Nat} {us ds : List Str}
theorem ne_st {x y : Str} (hx : Sh x) (hy : Sh y) : cmpU .ne (.str x) (.str y) s = some (!decide (x = y)) := by
  have d : ∀ {x : Str}, Sh x → dat (.str x) = true := fun {x} h => by unfold dat; simp [plain, h.1, dep]
  rw [c_ne_dat (d hx) (d hy) rfl rfl]
  congr 2
theorem setsOf_enc {p : List Str} (h1 : ∀ x ∈ p, x ∈ ds) (h2 : p.Nodup) : setsOf ds (encS p) = some p := by
  have e : strsT (encS p) = some p := strsOf_map p
  unfold setsOf
  rw [e]
  have : (p.all (fun x => ds.contains x) && decide p.Nodup) = true := by
    rw [Bool.and_eq_true, List.all_eq_true]
    exact ⟨fun x hx => by simpa using h1 x hx, decide_eq_true h2⟩
  simp only [this, if_true]
theorem sh_row (h : OrdOk ds us) {w : List Str} (hR : Rw_ (rk us) ds w) (hl : w.length = (stkF us ds).length) : shB ds us (encS w) = true := by
  unfold shB
  rw [setsOf_enc (fun x hx => hR.sub.subset hx) (h.nd.sublist hR.sub)]
  simp only [Bool.and_eq_true, decide_eq_true_eq]
  exact ⟨hl, rises_rk.mpr ((rk_up h.nd).sublist hR.sub), rises_rk.mpr hR.up⟩
theorem sh_first (h : OrdOk ds us) {x : Str} {p : List Str} (hp : (x :: p).Sublist ds) : shB (x :: p) (x :: p).reverse (encS [x]) = true := by
  have o := h.part hp
  unfold shB
  rw [setsOf_enc (fun y hy => by rw [List.mem_singleton.mp hy]; exact List.mem_cons_self ..) (by simp)]
  simp only [Bool.and_eq_true, decide_eq_true_eq]
  exact ⟨(lcs_opp o (by simp)).symm, rises_rk.mpr (by simp), rises_rk.mpr (by simp)⟩
theorem rev_S {p : List Str} : revU (encS p) s = some (encS p.reverse) := by
  unfold encS
  rw [List.map_reverse]
  rfl
theorem slc1_S {x : Str} {p : List Str} : slcU (encS (x :: p)) none (some 1) s = some (encS [x]) := by
  have h1 : ∀ n : Nat, sIx (n + 1) (n + 1) (some 1) = 1 := fun n => by
    simp only [sIx]
    rw [if_neg (by decide)]
    omega
  have h2 : cut (U.str x :: p.map U.str) none (some 1) = [.str x] := by
    unfold cut
    rw [List.length_cons, h1]
    rfl
  show some (U.tup (cut (U.str x :: p.map U.str) none (some 1))) = _
  rw [h2]
  rfl
/-- for stack in told: .. -/
theorem alone_turn (h : OrdOk ds us) {p : List Str} (hp : p.Sublist ds) (hn : p ≠ []) {x0 x1 x2 x4 x5 x6 x7 x8 x9 x10 : Option U} :
    evSs ⟨callF DD G (k + 3), callF DD G (k + 3 - 1), G⟩ b12f1 [x0, x1, x2, some (encS p), x4, x5, x6, x7, x8, x9, x10] s = .nx [x0, x1, x2, some (encS p), x4, x5, x6, x7, x8, x9, x10] s := by
  match p, hn with
  | x :: p, _ =>
    have o := h.part hp
    have e := is_shown_spec (G := G) (k := k + 1) (s := s) o (d := 1) (w := 1000) (u := encS [x]) (PD.S (fun y hy => by rw [List.mem_singleton.mp hy]; exact o.sh x (List.mem_cons_self ..)) (by simp) (Nat.le_refl _))
    rw [sh_first h hp] at e
    have e' : callF DD G (k + 3) 5 [encS (x :: p), encS (x :: p).reverse, encS [x]] s = _ := e
    have r := rev_S (s := s) (p := x :: p)
    have sl := slc1_S (s := s) (x := x) (p := p)
    generalize encS [x] = A at *
    generalize encS (x :: p) = B at *
    generalize encS (x :: p).reverse = C at *
    simp -implicitDefEqProofs only [evE, evEs, evO, evT, evAll, evAny, evAnd, evOr, evI, evS, evSs, Rv.bind_ok, Rv.bind_no, Rv.bind_ex, Rv.of_some, Rv.of_none, Rv.fl_ok, Fl.then_nx, Fl.then_rt, Fl.then_bk, Fl.then_ct, varU, List.getElem?_cons_zero, List.getElem?_cons_succ, Option.map_some, Option.bind_some, negU, notU, partU, andK, orK, chnK, chnB, tru, asgK, bindT, bindTs, List.set_cons_zero, List.set_cons_succ, if_true, if_false, Bool.false_eq_true, o_add, o_sub, c_lt, c_gt, c_le, c_ge, c_eq, c_ne, ix_T, ix_L, at0, at1, at2, at3, at4, len_T, len_L, max2_, min2_, tup_L, tup_T, int_b, int_i, src_T, src_L, start, List.map_cons, List.map_nil, List.replicate, List.cons_append, List.nil_append, List.length_cons, List.length_nil, Nat.sub_self, Nat.reduceAdd, Nat.reduceSub, wipe, b12f1, r, sl, e', Bool.not_true]
/-- for name in down: .. -/
theorem less_turn (h : OrdOk ds us) {n : Str} (hn : Sh n) {C : Nat} (hC : C = (stkF us ds).length) {Tu : U} (lt : biU .len [Tu] s = .ok (.int (C : Nat)) s) {x0 x1 x3 x7 x8 x9 x10 : Option U} :
    ∃ y8, evSs ⟨callF DD G (k + 3), callF DD G (k + 3 - 1), G⟩ b12f2 [x0, x1, some (.str n), x3, some (encS ds), some (encS us), some Tu, x7, x8, x9, x10] s = .nx [x0, x1, some (.str n), x3, some (encS ds), some (encS us), some Tu, x7, y8, x9, x10] s := by
  have hl := h.less fun x => !decide (x = n)
  have c1 : callF DD G (k + 3) 1 [encS (ds.filter fun x => !decide (x = n)), encS (us.filter fun x => !decide (x = n))] s = _ := stacks_spec (G := G) (k := k + 2) (s := s) hl
  have l1 : biU .len [.tup ((stkF (us.filter fun x => !decide (x = n)) (ds.filter fun x => !decide (x = n))).map encS)] s = .ok (.int ((stkF (us.filter fun x => !decide (x = n)) (ds.filter fun x => !decide (x = n))).length : Nat)) s := by rw [len_T, List.length_map]
  have hc := lcs_less h n
  rw [← hC] at hc
  have inn : ∀ (os : List Str) (x9 x10 : Option U), (∀ x ∈ os, Sh x) → lcL [10] (.name 10) (evAll ⟨callF DD G (k + 3), callF DD G (k + 3 - 1), G⟩ b12c2) (evE ⟨callF DD G (k + 3), callF DD G (k + 3 - 1), G⟩ b12e1) ⟨os.map .str, []⟩ [x0, x1, some (.str n), x3, some (encS ds), some (encS us), some Tu, x7, x8, x9, x10] (os.map .str) [] s = .ok ((os.filter fun x => !decide (x = n)).map .str) s := fun os x9 x10 ho => by
    have := lcL_pure (s := s) (vs := [10]) (tg := .name 10) (c := evAll ⟨callF DD G (k + 3), callF DD G (k + 3 - 1), G⟩ b12c2) (e := evE ⟨callF DD G (k + 3), callF DD G (k + 3 - 1), G⟩ b12e1) (r := ⟨os.map .str, []⟩) (su := [x0, x1, some (.str n), x3, some (encS ds), some (encS us), some Tu, x7, x8, x9, x10])
      U.str (fun x => !decide (x = n)) U.str rfl os (fun x hx => by
        have ne := ne_st (s := s) (ho x hx) hn
        refine ⟨_, rfl, ?_, fun _ => ?_⟩
        · generalize encS us = Us at *
          generalize encS ds = Ds at *
          simp -implicitDefEqProofs only [evE, evEs, evO, evT, evAll, evAny, evAnd, evOr, evI, evS, evSs, Rv.bind_ok, Rv.bind_no, Rv.bind_ex, Rv.of_some, Rv.of_none, Rv.fl_ok, Fl.then_nx, Fl.then_rt, Fl.then_bk, Fl.then_ct, varU, List.getElem?_cons_zero, List.getElem?_cons_succ, Option.map_some, Option.bind_some, negU, notU, partU, andK, orK, chnK, chnB, tru, asgK, bindT, bindTs, List.set_cons_zero, List.set_cons_succ, if_true, if_false, Bool.false_eq_true, o_add, o_sub, c_lt, c_gt, c_le, c_ge, c_eq, c_ne, ix_T, ix_L, at0, at1, at2, at3, at4, len_T, len_L, max2_, min2_, tup_L, tup_T, int_b, int_i, src_T, src_L, start, List.map_cons, List.map_nil, List.replicate, List.cons_append, List.nil_append, List.length_cons, List.length_nil, Nat.sub_self, Nat.reduceAdd, Nat.reduceSub, wipe, b12c2, ne]
          cases decide (x = n) <;> rfl
        · simp -implicitDefEqProofs only [evE, evEs, evO, evT, evAll, evAny, evAnd, evOr, evI, evS, evSs, Rv.bind_ok, Rv.bind_no, Rv.bind_ex, Rv.of_some, Rv.of_none, Rv.fl_ok, Fl.then_nx, Fl.then_rt, Fl.then_bk, Fl.then_ct, varU, List.getElem?_cons_zero, List.getElem?_cons_succ, Option.map_some, Option.bind_some, negU, notU, partU, andK, orK, chnK, chnB, tru, asgK, bindT, bindTs, List.set_cons_zero, List.set_cons_succ, if_true, if_false, Bool.false_eq_true, o_add, o_sub, c_lt, c_gt, c_le, c_ge, c_eq, c_ne, ix_T, ix_L, at0, at1, at2, at3, at4, len_T, len_L, max2_, min2_, tup_L, tup_T, int_b, int_i, src_T, src_L, start, List.map_cons, List.map_nil, List.replicate, List.cons_append, List.nil_append, List.length_cons, List.length_nil, Nat.sub_self, Nat.reduceAdd, Nat.reduceSub, wipe, b12e1]) []
    rw [List.nil_append] at this
    exact this
  have sS : ∀ (p : List Str) (s : MS), srcSeq (encS p) s = some ⟨p.map .str, []⟩ := fun _ _ => rfl
  have tT : ∀ p : List Str, biU .tuple [.lst (p.map .str)] s = .ok (encS p) s := fun _ => rfl
  have out : lcL [9] (.name 9) (evAll ⟨callF DD G (k + 3), callF DD G (k + 3 - 1), G⟩ b12c1) (evE ⟨callF DD G (k + 3), callF DD G (k + 3 - 1), G⟩ b12e2) ⟨[ds, us].map encS, []⟩ [x0, x1, some (.str n), x3, some (encS ds), some (encS us), some Tu, x7, x8, x9, x10] ([ds, us].map encS) [] s = .ok [encS (ds.filter fun x => !decide (x = n)), encS (us.filter fun x => !decide (x = n))] s := by
    have := lcL_pure (s := s) (vs := [9]) (tg := .name 9) (c := evAll ⟨callF DD G (k + 3), callF DD G (k + 3 - 1), G⟩ b12c1) (e := evE ⟨callF DD G (k + 3), callF DD G (k + 3 - 1), G⟩ b12e2) (r := ⟨[ds, us].map encS, []⟩) (su := [x0, x1, some (.str n), x3, some (encS ds), some (encS us), some Tu, x7, x8, x9, x10])
      encS (fun _ => true) (fun os => encS (os.filter fun x => !decide (x = n))) rfl [ds, us] (fun os hx => by
        have ho : ∀ x ∈ os, Sh x := by
          rcases List.mem_cons.mp hx with rfl | hx
          · exact h.sh
          · rw [List.mem_singleton.mp hx]
            exact fun x hx => h.sh x (h.pm.mem_iff.mp hx)
        have i1 := fun x10 => inn os (some (encS os)) x10 ho
        have t1 := tT (os.filter fun x => !decide (x = n))
        refine ⟨_, rfl, by simp -implicitDefEqProofs only [evE, evEs, evO, evT, evAll, evAny, evAnd, evOr, evI, evS, evSs, Rv.bind_ok, Rv.bind_no, Rv.bind_ex, Rv.of_some, Rv.of_none, Rv.fl_ok, Fl.then_nx, Fl.then_rt, Fl.then_bk, Fl.then_ct, varU, List.getElem?_cons_zero, List.getElem?_cons_succ, Option.map_some, Option.bind_some, negU, notU, partU, andK, orK, chnK, chnB, tru, asgK, bindT, bindTs, List.set_cons_zero, List.set_cons_succ, if_true, if_false, Bool.false_eq_true, o_add, o_sub, c_lt, c_gt, c_le, c_ge, c_eq, c_ne, ix_T, ix_L, at0, at1, at2, at3, at4, len_T, len_L, max2_, min2_, tup_L, tup_T, int_b, int_i, src_T, src_L, start, List.map_cons, List.map_nil, List.replicate, List.cons_append, List.nil_append, List.length_cons, List.length_nil, Nat.sub_self, Nat.reduceAdd, Nat.reduceSub, wipe, b12c1], fun _ => ?_⟩
        have s1 := fun s => sS os s
        generalize encS us = Us at *
        generalize encS ds = Ds at *
        generalize encS os = Os at *
        simp -implicitDefEqProofs only [evE, evEs, evO, evT, evAll, evAny, evAnd, evOr, evI, evS, evSs, Rv.bind_ok, Rv.bind_no, Rv.bind_ex, Rv.of_some, Rv.of_none, Rv.fl_ok, Fl.then_nx, Fl.then_rt, Fl.then_bk, Fl.then_ct, varU, List.getElem?_cons_zero, List.getElem?_cons_succ, Option.map_some, Option.bind_some, negU, notU, partU, andK, orK, chnK, chnB, tru, asgK, bindT, bindTs, List.set_cons_zero, List.set_cons_succ, if_true, if_false, Bool.false_eq_true, o_add, o_sub, c_lt, c_gt, c_le, c_ge, c_eq, c_ne, ix_T, ix_L, at0, at1, at2, at3, at4, len_T, len_L, max2_, min2_, tup_L, tup_T, int_b, int_i, src_T, src_L, start, List.map_cons, List.map_nil, List.replicate, List.cons_append, List.nil_append, List.length_cons, List.length_nil, Nat.sub_self, Nat.reduceAdd, Nat.reduceSub, wipe, b12e2, s1, i1, lst_tree, t1]) []
    rw [this]
    rfl
  have ni : ∀ m : Nat, (m = C ∨ m + 1 = C) → cmpU .notin (.int ((C : Int) - (m : Nat))) (.tup [.int 0, .int 1]) s = some false := fun m hm => by
    rcases hm with rfl | rfl
    · rw [Int.sub_self]
      rfl
    · rw [show ((m + 1 : Nat) : Int) - (m : Nat) = 1 by omega]
      rfl
  have ni1 := ni _ hc
  refine ⟨some (.lst [encS (ds.filter fun x => !decide (x = n)), encS (us.filter fun x => !decide (x = n))]), ?_⟩
  generalize encS (us.filter fun x => !decide (x = n)) = Ul at *
  generalize encS (ds.filter fun x => !decide (x = n)) = Dl at *
  have sr : ∀ s : MS, srcSeq (.tup [encS ds, encS us]) s = some ⟨[ds, us].map encS, []⟩ := fun _ => rfl
  generalize List.map encS (stkF (us.filter fun x => !decide (x = n)) (ds.filter fun x => !decide (x = n))) = T2 at *
  generalize [ds, us].map encS = Os at *
  generalize encS us = Us at *
  generalize encS ds = Ds at *
  simp -implicitDefEqProofs only [evE, evEs, evO, evT, evAll, evAny, evAnd, evOr, evI, evS, evSs, Rv.bind_ok, Rv.bind_no, Rv.bind_ex, Rv.of_some, Rv.of_none, Rv.fl_ok, Fl.then_nx, Fl.then_rt, Fl.then_bk, Fl.then_ct, varU, List.getElem?_cons_zero, List.getElem?_cons_succ, Option.map_some, Option.bind_some, negU, notU, partU, andK, orK, chnK, chnB, tru, asgK, bindT, bindTs, List.set_cons_zero, List.set_cons_succ, if_true, if_false, Bool.false_eq_true, o_add, o_sub, c_lt, c_gt, c_le, c_ge, c_eq, c_ne, ix_T, ix_L, at0, at1, at2, at3, at4, len_T, len_L, max2_, min2_, tup_L, tup_T, int_b, int_i, src_T, src_L, start, List.map_cons, List.map_nil, List.replicate, List.cons_append, List.nil_append, List.length_cons, List.length_nil, Nat.sub_self, Nat.reduceAdd, Nat.reduceSub, wipe, b12f2, sr, out, lst_tree, c1, l1, lt, ni1, lenL, l2]
end
end LW
set_option autoImplicit false
set_option Elab.async false
set_option linter.all false
set_option maxRecDepth 100000
namespace LW
open Pv
section
variable {s : MS} {G : Str → Option U} {k : Nat} {us ds : List Str}
theorem ne_nilS {p : List Str} (h : ∀ x ∈ p, Sh x) : cmpU .ne (encS p) (.tup []) s = some (!decide (p = [])) := by
  have d : dat (encS p) = true := (Sm.S h).1 |> fun a => by
    have := (Sm.S h).2
    unfold dat
    rw [a, Bool.true_and]
    exact decide_eq_true (by omega)
  rw [c_ne_dat d (by rfl) rfl rfl]
  cases p <;> rfl
theorem turn17 {b : Nat} (hb : IsBag s b) (h0 : s[(0 : Nat)]? = some (.tab qL)) {x0 : Option U} {vs : SU} (hu : vs.length = 9) :
    ∃ vs' s', vs'.length = 9 ∧ evSs ⟨callF DD G (k + 3), callF DD G (k + 3 - 1), G⟩ b12f3 (x0 :: some (.obj b) :: vs) s = .nx (x0 :: some (.obj b) :: vs') s' ∧ Bg b s s' := by
  match vs, hu with
  | [x2, x3, x4, x5, x6, x7, x8, x9, x10], _ =>
  obtain ⟨ds, us, s1, e1, g1, h, hl⟩ := orders_spec (G := G) (k := k + 1) hb (most := 9) (by omega)
  have hb0 : b ≠ 0 := fun e => by
    obtain ⟨_, _, q, _⟩ := hb
    rw [e, h0] at q
    cases q
  have h01 : s1[(0 : Nat)]? = some (.tab qL) := by rw [g1.oth 0 (Ne.symm hb0)]; exact h0
  have sp : ∀ {ds us : List Str}, OrdOk ds us → callF DD G (k + 3) 1 [encS ds, encS us] s1 = .ok (.tup ((stkF us ds).map encS)) s1 := fun h => stacks_spec (G := G) (k := k + 2) (s := s1) h
  have ln : ∀ ps : List (List Str), biU .len [.tup (ps.map encS)] s1 = .ok (.int (ps.length : Nat)) s1 := fun ps => by rw [len_T, List.length_map]
  have e1' : callF DD G (k + 3) 11 [.obj b, .int 9] s = .ok (.lst [encS ds, encS us]) s1 := e1
  obtain ⟨w, c2, hwl, hR⟩ := shown_spec (G := G) (k := k + 2) h01 h
  have c2' : callF DD G (k + 3) 2 [encS ds, encS us] s1 = _ := c2
  have c3 := stacksA (G := G) (k := k + 1) (s := s1) h (told_PD h) (by omega) (Nat.le_refl _)
  rw [told_right h] at c3
  have c3' : callF DD G (k + 3) 4 [encS ds, encS us, .tup ((stkF us ds).map encS)] s1 = _ := c3
  have hwd : w.length ≤ ds.length := hR.sub.length_le
  have c4 := is_shown_spec (G := G) (k := k + 1) (s := s1) h (d := 1) (w := 1000) (u := encS w) (PD.S (fun x hx => h.sh x (hR.sub.subset hx)) (by omega) (Nat.le_refl _))
  rw [sh_row h hR hwl] at c4
  have c4' : callF DD G (k + 3) 5 [encS ds, encS us, encS w] s1 = _ := c4
  have lw := len_S (s := s1) (p := w)
  rw [hwl] at lw
  have ld := len_S (s := s1) (p := ds)
  have lt := ln (stkF us ds)
  have nC := c_neN (s := s1) (a := (stkF us ds).length) (b := (stkF us ds).length)
  rw [decide_eq_true rfl, Bool.not_true] at nC
  have c5 := sp h.same
  have l5 := ln (stkF ds ds)
  rw [lcs_same h] at l5
  have nD := c_neN (s := s1) (a := ds.length) (b := ds.length)
  rw [decide_eq_true rfl, Bool.not_true] at nD
  have c6 := sp h.opp
  have l6 := ln (stkF ds.reverse ds)
  have c7 := sp h.swap
  have l7 := ln (stkF ds us)
  rw [lcs_swap h] at l7
  have c8 := sp h.turn
  have l8 := ln (stkF ds.reverse us.reverse)
  rw [lcs_turn h] at l8
  have rd := rev_S (s := s1) (p := ds)
  have ru := rev_S (s := s1) (p := us)
  have nn := ne_nilS (s := s1) h.sh
  have i6 : biU .int [.bl (!decide (ds = []))] s1 = .ok (.int ((stkF ds.reverse ds).length : Nat)) s1 := by
    by_cases e : ds = []
    · subst e
      rfl
    · rw [lcs_opp h e, decide_eq_false e]
      rfl
  have n6 := c_neN (s := s1) (a := (stkF ds.reverse ds).length) (b := (stkF ds.reverse ds).length)
  rw [decide_eq_true rfl, Bool.not_true] at n6
  -- the loop over names
  have L1 : ∀ (names : List Str), (∀ x ∈ names, Sh x) → ∀ (y2 y8 : Option U), ∃ z2 z8, forL (.name 2) (evSs ⟨callF DD G (k + 3), callF DD G (k + 3 - 1), G⟩ b12f2) ⟨ds.map .str, []⟩ (names.map .str) [x0, some (.obj b), y2, x3, some (encS ds), some (encS us), some (.tup ((stkF us ds).map encS)), some (encS w), y8, x9, x10] s1 = .nx [x0, some (.obj b), z2, x3, some (encS ds), some (encS us), some (.tup ((stkF us ds).map encS)), some (encS w), z8, x9, x10] s1 := fun names => by
    induction names with
    | nil => exact fun _ y2 y8 => ⟨y2, y8, by rw [List.map_nil, forL, if_pos ok_nil]⟩
    | cons n names ih =>
      intro hn y2 y8
      obtain ⟨v8, q⟩ := less_turn (G := G) (k := k) (s := s1) h (hn n (List.mem_cons_self ..)) (C := (stkF us ds).length) rfl lt (x0 := x0) (x1 := some (.obj b)) (x3 := x3) (x7 := some (encS w)) (x8 := y8) (x9 := x9) (x10 := x10)
      obtain ⟨z2, z8, r⟩ := ih (fun x hx => hn x (List.mem_cons_of_mem _ hx)) (some (.str n)) v8
      exact ⟨z2, z8, by rw [List.map_cons, forL_nx rfl q]; exact r⟩
  obtain ⟨z2, z8, q1⟩ := L1 ds h.sh x2 x8
  -- the loop over stacks
  have st := stkF_ok h
  have L2 : ∀ (ps : List (List Str)), (∀ p ∈ ps, p.Sublist ds ∧ p ≠ []) → ∀ (y3 : Option U), ∃ z3, forL (.name 3) (evSs ⟨callF DD G (k + 3), callF DD G (k + 3 - 1), G⟩ b12f1) ⟨(stkF us ds).map encS, []⟩ (ps.map encS) [x0, some (.obj b), z2, y3, some (encS ds), some (encS us), some (.tup ((stkF us ds).map encS)), some (encS w), z8, x9, x10] s1 = .nx [x0, some (.obj b), z2, z3, some (encS ds), some (encS us), some (.tup ((stkF us ds).map encS)), some (encS w), z8, x9, x10] s1 := fun ps => by
    induction ps with
    | nil => exact fun _ y3 => ⟨y3, by rw [List.map_nil, forL, if_pos ok_nil]⟩
    | cons p ps ih =>
      intro hp y3
      obtain ⟨p1, p2⟩ := hp p (List.mem_cons_self ..)
      have q := alone_turn (G := G) (k := k) (s := s1) h p1 p2 (x0 := x0) (x1 := some (.obj b)) (x2 := z2) (x4 := some (encS ds)) (x5 := some (encS us)) (x6 := some (.tup ((stkF us ds).map encS))) (x7 := some (encS w)) (x8 := z8) (x9 := x9) (x10 := x10)
      obtain ⟨z3, r⟩ := ih (fun x hx => hp x (List.mem_cons_of_mem _ hx)) (some (encS p))
      exact ⟨z3, by rw [List.map_cons, forL_nx rfl q]; exact r⟩
  obtain ⟨z3, q2⟩ := L2 (stkF us ds) (fun p hp => ⟨(st.stk p hp).sub, (st.stk p hp).ne⟩) x3
  refine ⟨[z2, z3, some (encS ds), some (encS us), some (.tup ((stkF us ds).map encS)), some (encS w), z8, x9, x10], s1, rfl, ?_, g1⟩
  have sd : ∀ s : MS, srcSeq (encS ds) s = some ⟨ds.map .str, []⟩ := fun _ => rfl
  have stt : ∀ s : MS, srcSeq (.tup ((stkF us ds).map encS)) s = some ⟨(stkF us ds).map encS, []⟩ := fun _ => rfl
  have isn : ∀ s : MS, cmpU .isnot (.bl true) (.bl true) s = some false := fun _ => rfl
  have c1 := sp h
  have t1 : ((stkF us ds).map encS).length = (stkF us ds).length := List.length_map _
  have t5 : ((stkF ds ds).map encS).length = ds.length := by rw [List.length_map, lcs_same h]
  have t6 : ((stkF ds.reverse ds).map encS).length = (stkF ds.reverse ds).length := List.length_map _
  have t7 : ((stkF ds us).map encS).length = (stkF us ds).length := by rw [List.length_map, lcs_swap h]
  have t8 : ((stkF ds.reverse us.reverse).map encS).length = (stkF us ds).length := by rw [List.length_map, lcs_turn h]
  generalize ds.map U.str = Dm at *
  generalize encS us.reverse = Ur at *
  generalize encS ds.reverse = Dr at *
  generalize encS us = Us at *
  generalize encS ds = Ds at *
  generalize encS w = Wu at *
  generalize (stkF us ds).map encS = Tm at *
  generalize (stkF ds us).map encS = T7 at *
  generalize (stkF ds ds).map encS = T5 at *
  generalize (stkF ds.reverse ds).map encS = T6 at *
  generalize (stkF ds.reverse us.reverse).map encS = T8 at *
  simp -implicitDefEqProofs only [evE, evEs, evO, evT, evAll, evAny, evAnd, evOr, evI, evS, evSs, Rv.bind_ok, Rv.bind_no, Rv.bind_ex, Rv.of_some, Rv.of_none, Rv.fl_ok, Fl.then_nx, Fl.then_rt, Fl.then_bk, Fl.then_ct, varU, List.getElem?_cons_zero, List.getElem?_cons_succ, Option.map_some, Option.bind_some, negU, notU, partU, andK, orK, chnK, chnB, tru, asgK, bindT, bindTs, List.set_cons_zero, List.set_cons_succ, if_true, if_false, Bool.false_eq_true, o_add, o_sub, c_lt, c_gt, c_le, c_ge, c_eq, c_ne, ix_T, ix_L, at0, at1, at2, at3, at4, len_T, len_L, max2_, min2_, tup_L, tup_T, int_b, int_i, src_T, src_L, start, List.map_cons, List.map_nil, List.replicate, List.cons_append, List.nil_append, List.length_cons, List.length_nil, Nat.sub_self, Nat.reduceAdd, Nat.reduceSub, wipe, b12f3, e1', c1, c2', c3', c4', isn, lw, t1, sd, q1, c5, t5, ld, rd, ru, c6, t6, nn, i6, c7, t7, c8, t8, stt, q2, beq_self_eq_true, Bool.not_true, lenL, l0]
end
theorem law_math (ns : List Int) (h : ns.length ≤ most) : ∃ s, callF DD glbs (20 + 1) 12 [.scr ns] [.tab qL] = .ok (.bl true) s :=
  law_bagsS (k := 17) (s0 := [.tab qL]) (I := fun us => us.length = 9) (nn := 9) (lim := 8) (body := b12f3) ⟨by decide, by decide⟩ rfl rfl fun b s us hb hs hbag hl => by
    have h0 : s[(0 : Nat)]? = some (.tab qL) := by rw [hs 0 (by decide)]; rfl
    obtain ⟨us', s', hl', q, g⟩ := turn17 (G := glbs) (k := 17) hbag h0 (x0 := some (.scr ns)) hl
    exact ⟨us', s', hl', q, Gw.of g⟩
end LW
open PySem PySem.W PyProof.Rows in
set_option maxHeartbeats 0 in
theorem PySem.Challenge.cw_stagedoor_k17_whole_lorries_holds : PySem.Challenge.rw_stagedoor_k17_whole_lorries.Holds := by
  w_on; o_law; k_head; (case hw => w_witness2)
  k_fill
  refine LamX.walk_ofTs (l := PySem.Challenge.rw_stagedoor_k17_whole_lorries) (n := 63) (k := 20 + 1) (x := "script") (CX := fun w => L2.CX (PySem.Challenge.rw_stagedoor_k17_whole_lorries).prog w) rfl (by decide) rfl ⟨rfl, by decide, by decide⟩ (fun w h Y => PySem.W.km_in_of Y) ?F (fun w H s e s' hh => Pv.cx_none (Pg := (PySem.Challenge.rw_stagedoor_k17_whole_lorries).prog) (w := w) H s e s' hh)
  case F =>
    intro w mg fa h Y KX G hmg
    refine' LW.all_mk 20 KX G hmg LW.law_math ?ht ?nP ?a0 ?l0 ?c0 ?k0 ?a1 ?l1 ?c1 ?k1 ?a2 ?l2 ?c2 ?k2 ?a3 ?l3 ?c3 ?k3 ?a4 ?l4 ?c4 ?k4 ?a5 ?l5 ?c5 ?k5 ?a6 ?l6 ?c6 ?k6 ?a7 ?l7 ?c7 ?k7 ?a8 ?l8 ?c8 ?k8 ?a9 ?l9 ?c9 ?k9 ?a10 ?l10 ?c10 ?k10 ?a11 ?l11 ?c11 ?k11 ?a12 ?l12 ?c12 ?k12 ?z0 ?z1 ?z2 ?z3 ?z4 ?z5 ?z6 ?z7 ?z8 ?z9 ?z10 ?z11 ?ce ?ch
    (case a0 => k_is); (case l0 => k_is); (case c0 => k_is); (case k0 => k_is); (case a1 => k_is); (case l1 => k_is); (case c1 => k_is); (case k1 => k_is); (case a2 => k_is); (case l2 => k_is); (case c2 => k_is); (case k2 => k_is); (case a3 => k_is); (case l3 => k_is); (case c3 => k_is); (case k3 => k_is); (case a4 => k_is); (case l4 => k_is); (case c4 => k_is); (case k4 => k_is); (case a5 => k_is); (case l5 => k_is); (case c5 => k_is); (case k5 => k_is); (case a6 => k_is); (case l6 => k_is); (case c6 => k_is); (case k6 => k_is); (case a7 => k_is); (case l7 => k_is); (case c7 => k_is); (case k7 => k_is); (case a8 => k_is); (case l8 => k_is); (case c8 => k_is); (case k8 => k_is); (case a9 => k_is); (case l9 => k_is); (case c9 => k_is); (case k9 => k_is); (case a10 => k_is); (case l10 => k_is); (case c10 => k_is); (case k10 => k_is); (case a11 => k_is); (case l11 => k_is); (case c11 => k_is); (case k11 => k_is); (case a12 => k_is); (case l12 => k_is); (case c12 => k_is); (case k12 => k_is); (case z0 => k_is); (case z1 => k_is); (case z2 => k_is); (case z3 => k_is); (case z4 => k_is); (case z5 => k_is); (case z6 => k_is); (case z7 => k_is); (case z8 => k_is); (case z9 => k_is); (case z10 => k_is); (case z11 => k_is); (case ce => exact rfl); (case ht => exact PySem.W.km_tabs_of Y _ (List.mem_singleton.mpr rfl)); (case nP => kernel_rfl); (case ch => kernel_rfl)
